/- A part of the proof. -/
import Derived.Test.YtaipffoajgkljaaGreatDoorZRA
import Derived.Test.YtaipffoajgkljaaGreatDoorZPX
set_option linter.all false
namespace Go.Fw.Rg
open Go.Fw Go.Fw.Ref15
variable [af]
structure gy(p:Pr):Prop where
 sm:p.Small
 hn:∀s∈p.stmts,Ref15.nodes s.x<=1073741824
 hT:∀t∈p.tables,t.values.length<=1073741824
theorem gy.hl{p:Pr}(g:gy p):p.stmts.length<=1073741824:=by have:=g.sm.stmts;omega
def resE(p:Pr):Int:=if(Nam.resolveC p).2 != 0 then(Nam.resolveC p).2 else if su p (Nam.resolveC p).1 then 0 else 150
theorem Vt{s:Str}:∀{l:List Str} (i:Int),bn s l i<i+l.length\/bn s l i = -1
 | [],i=>.inr rfl
 |x::r,i=>by
  simp[bn]
  split
  ·grind
  ·rcases Vt (s:=s) (l:=r) (i+1)with h |h<;>grind
theorem qR{s:Str}{l:List Str}(h:0<=find l s):find l s<l.length:=by
 rcases Vt (s:=s) (l:=l) 0 with q |q<;>grind[find]
theorem O3{s:Str}:∀{l:List Sm} (i:Int),aG s l i<i+l.length\/aG s l i = -1
 | [],i=>.inr rfl
 |x::r,i=>by
  simp[aG]
  split
  ·grind
  ·rcases O3 (s:=s) (l:=r) (i+1)with h |h<;>grind
theorem Vu{p:Pr}{s:Str}{b:Nat}(h:0<=given p s b):given p s b<b:=by
 rcases O3 (s:=s) (l:=p.stmts.take b) 0 with q |q<;>grind[given]
theorem lQ:∀{l:List Ex},formeds l=true->∀y∈l,formed y=true
 |x::r,h,y,hy=>by
  simp[formeds]at h
  rcases List.mem_cons.1 hy with rfl |hy
  ·exact h.1
  ·exact lQ h.2 y hy
theorem xW:∀{l:List Ex},qN l=true->∀y∈l,numbers y=true
 |x::r,h,y,hy=>by
  simp[qN]at h
  rcases List.mem_cons.1 hy with rfl |hy
  ·exact h.1
  ·exact xW h.2 y hy
theorem oQ{p:Pr}{b:Nat}:∀{l:List Ex},dK p b l=(l,true)->∀y∈l,bI p b y=(y,true)
 |x::r,h,y,hy=>by
  simp[dK]at h
  rcases List.mem_cons.1 hy with rfl |hy
  ·grind
  ·exact oQ (Prod.ext h.1.2 h.2.2) y hy
theorem Vw{p:Pr}{n:Nat}:∀{l:List Ex},(∀y∈l,wfX p n y=true)->wfL p n l=true
 | [],_=>rfl
 |x::r,h=>by
  simp[wfL]
  exact⟨h x (by simp),Vw λy hy=>h y (by simp[hy])⟩
theorem Md{k:Int}(h:0<=Ref15.parts k):1<=k/\k<=19:=by
 grind[Ref15.parts]
theorem ze1{p:Pr}(ht:p.tables.all kN=true)(b:Nat):∀x:Ex,formed x=true->numbers x=true->bI p b x=(x,true)->wfX p b x=true:=by
 refine Ex.ind λx ih hf hn hr=>?_
 rw[formed_eq]at hf
 rw[DV]at hn
 rw[lI]at hr
 simp at hf hn
 obtain⟨⟨⟨⟨f1,f2⟩,f3⟩,f4⟩,f5⟩:=hf
 obtain⟨⟨n1,n2⟩,n3⟩:=hn
 rw[OU]
 have hk:=Md (k:=x.kind) (by omega)
 simp only[Bool.and_eq_true,beq_iff_eq]
 refine⟨⟨f1,?_⟩,?_⟩
 ·by_cases hN:(named x.kind&&x.kind != 8&&x.kind != 9)=true
  ·rw[if_pos hN]at hr
   rw[value]at hr
   simp only at hr
   split at hr
   ·split at hr
    ·have e1:x.kind=5:=congrArg (λq=>q.1.kind) hr.symm
     have e2:given p x.name b=x.index:=congrArg (λq=>q.1.index) hr
     have e3:decide (given p x.name b>=0)=true:=congrArg Prod.snd hr
     have e3:=of_decide_eq_true e3
     have e4:=Vu (b:=b) e3
     rw[oP,e1]
     simp_all
    ·have e1:x.kind=4:=congrArg (λq=>q.1.kind) hr.symm
     have e2:find (bounds p.states) x.name=x.index:=congrArg (λq=>q.1.index) hr
     have e3:decide (find (bounds p.states) x.name>=0)=true:=congrArg Prod.snd hr
     have e3:=of_decide_eq_true e3
     have e4:=qR e3
     rw[oP,e1]
     rw[e2]at e3 e4;simp only[bounds,List.length_map]at e4
     simp_all
   ·have e1:x.kind=3:=congrArg (λq=>q.1.kind) hr.symm
    have e2:find (bounds p.params) x.name=x.index:=congrArg (λq=>q.1.index) hr
    have e3:decide (find (bounds p.params) x.name>=0)=true:=congrArg Prod.snd hr
    have e3:=of_decide_eq_true e3
    have e4:=qR e3
    rw[oP,e1]
    rw[e2]at e3 e4;simp only[bounds,List.length_map]at e4
    simp_all
  ·rw[if_neg hN]at hr
   have e2:jP p x=x.index:=congrArg (λq=>q.1.index) hr
   have e3:(decide (jP p x>=0)&&(dK p b x.l).2)=true:=congrArg Prod.snd hr
   simp only[Bool.and_eq_true,decide_eq_true_eq]at e3
   have e3:=e3.1
   rw[jP]at e2 e3
   rw[oP]
   rcases Nam.kinds_cases hk with h |h |h |h |h |h |h |h |h |h |h |h |h |h |h |h |h |h |h<;>rw[h]at hN n2 e2 e3 ⊢ <;> first
    |exact absurd (by decide) hN
    |rfl
    |skip
   ·simp;omega
   ·grind[qR,Ref15.lines,List.length_map]
   ·simp only[(by decide:((9:Int)==9)=true),if_true]at e2 e3
    have e4:=qR e3
    rw[e2]at e3 e4;simp only[Ref15.tables,List.length_map]at e4
    have hm:p.tables.getD x.index.toNat Tb.none∈p.tables:=by
     simp_all
    have hq:=List.all_eq_true.1 ht _ hm
    simp only[kN,Bool.not_eq_true',Bool.or_eq_false_iff,decide_eq_false_iff_not]at hq
    grind
   simp_all
 ·refine Vw λy hy=>ih y hy (lQ f5 y hy) (xW n3 y hy) ?_
  by_cases hN:(named x.kind&&x.kind != 8&&x.kind != 9)=true
  ·exfalso
   have:Ref15.parts x.kind=0:=by
    simp only[named,Bool.and_eq_true,bne_iff_ne]at hN
    rcases Nam.kinds_cases hk with h |h |h |h |h |h |h |h |h |h |h |h |h |h |h |h |h |h |h<;>rw[h]at hN ⊢ <;> first |rfl |(exfalso;simp at hN;done)
   simp_all
  ·rw[if_neg hN]at hr
   have e1:(dK p b x.l).1=x.l:=congrArg (λq=>q.1.l) hr
   have e3:(decide (jP p x>=0)&&(dK p b x.l).2)=true:=congrArg Prod.snd hr
   simp only[Bool.and_eq_true]at e3
   grind[oQ,Prod.ext]
theorem F7{p:Pr}{s:Sm}{r l:List Sm}{i:Nat}{out:Bool}(h:di p (s::r) i out = .ok l):(bI p i s.x).2=true/\0<=cZ p s/\again p i s=false/\∃t,di p r (i+1) (s.kind==4) = .ok t/\l=⟨s.kind,s.name,cZ p s,(bI p i s.x).1⟩::t:=by
 rw[di]at h
 grind
theorem O4{p:Pr}(ht:p.tables.all kN=true):∀(r:List Sm) (i:Nat) (out:Bool),r.all stmtOk=true->(r.all λs=>numbers s.x)=true->di p r i out = .ok r->vg p i r=true
 | [],_,_,_,_,_=>rfl
 |s::r,i,out,h1,h2,h3=>by
  simp only[List.all_cons,Bool.and_eq_true]at h1 h2
  obtain⟨g1,g2,_,t,g3,g4⟩:=F7 h3
  simp at g4
  obtain⟨g4,rfl⟩:=g4
  have e1:cZ p s=s.index:=congrArg Sm.index g4.symm
  have e2:(bI p i s.x).1=s.x:=congrArg Sm.x g4.symm
  simp only[vg,wfS,Bool.and_eq_true]
  have hf:formed s.x=true:=by
   grind[stmtOk,Bool.not_eq_true',Bool.not_eq_false']
  refine⟨⟨ze1 ht i s.x hf h2.1 (Prod.ext e2 g1),?_,?_⟩,O4 ht r (i+1) _ h1.2 h2.2 g3⟩
  ·cases hk:s.kind==2 with
   |false=>rfl
   |true=>
    have:s.kind=2:=by simpa using hk
    rw[cZ,this]at e1 g2
    grind[qR,bounds,List.length_map]
  ·cases hk:s.kind==3 with
   |false=>rfl
   |true=>
    have:s.kind=3:=by simpa using hk
    rw[cZ,this]at e1 g2
    grind[qR,Ref15.lines,List.length_map]
theorem btw{lo hi:Int}(h:between lo hi=true):-2147483648<=lo/\lo<=hi/\hi<=2147483647:=by
 simp[between]at h;omega
theorem zb2{p:Pr}(h:ranged p=true):Rng p:=by
 simp[ranged]at h
 obtain⟨⟨⟨⟨h1,h2⟩,h3⟩,h4⟩,_⟩:=h
 exact⟨λb hb=>btw (h1 b hb),λb hb=>btw (h2 b hb),λb hb=>btw (h3 b hb),λt ht v hv=>by have:=btw (h4 t ht v hv);omega⟩
structure Res(p:Pr):Prop where
 fo:Formed p=true
 li:limited p=true
 nm:qm p.name=true
 dn:(eu p).all qm=true
 un:jc (eu p) (eu p) 0=true
 ra:ranged p=true
 ru:di p p.stmts 0 false = .ok p.stmts
variable {p : Pr}
theorem DC{e:Except Int (List Sm)}(h:Ref15.fin p [] e=(p,0))(hne:∀n,e = .error n->n≠0):e = .ok p.stmts:=by
 cases e with
 |error n=>exact absurd (congrArg Prod.snd h) (hne n rfl)
 |ok l=>
  have:=congrArg (λq=>q.1.stmts) h
  simp[Ref15.fin]at this
  rw[this]
theorem Vx:∀(r:List Sm) (i:Nat) (out:Bool) (n:Int),di p r i out = .error n->n≠0
 | [],i,out,n,h=>by
  grind[di]
 |s::r,i,out,n,h=>by
  rw[di]at h
  split at h<;>try(cases h;decide)
  split at h<;>try(cases h;decide)
  split at h
  ·cases h;decide
  ·split at h
   ·rename_i q
    cases h
    exact Vx r _ _ _ q
   ·cases h
theorem Vy:Resolve p=(p,0)↔Res p:=by
 constructor
 ·intro h
  have h0:=congrArg Prod.snd h
  rw[Resolve]at h h0
  split at h
  ·simp_all
  ·rename_i q1;split at h
   ·simp_all
   ·rename_i q2;split at h
    ·simp_all
    ·rename_i q3;split at h
     ·simp_all
     ·rename_i q4;split at h
      ·simp_all
      ·rename_i q5;split at h
       ·simp_all
       ·rename_i q6
        exact⟨by simpa using q1,by simpa using q2,by simpa using q3,by simpa using q4,by simpa using q5,by simpa using q6,DC h (Vx _ _ _)⟩
 ·intro h
  rw[Resolve,h.fo,h.li,h.nm,h.dn,h.un,h.ra,h.ru]
  simp[Ref15.fin]
theorem Res.tb(h:Res p):p.tables.all kN=true:=by
 have:=h.li;rw[limited_eq]at this;simp_all
theorem Res.rng(h:Res p):Rng p:=zb2 h.ra
theorem Res.wf(h:Res p):vg p 0 p.stmts=true:=by
 refine O4 h.tb _ _ _ h.fo ?_ h.ru
 have:=h.ra;simp only[ranged,Bool.and_eq_true]at this;exact this.2
theorem I9(h:resE p=0):Nam.resolveC p=(p,0):=by
 grind[resE,je]
theorem yZ(h:resE p=0):Res p:=Vy.1 (by rw[<-Nam.resolve_same];exact I9 h)
theorem O5(h:Res p):resE p=0:=by
 have:=Vy.2 h
 rw[<-Nam.resolve_same]at this
 rw[resE,this]
 simp[(je p p).2 rfl]
end Go.Fw.Rg
namespace Go.Fw
def lkI(k:Int):List (Int×Int)->Option Int
 | []=>none
 |(a,v)::r=>if k==a then some v else lkI k r
abbrev iiC(q:Int×Int):D×D:=(.i q.1,.i q.2)
theorem Vz(a b:Int):dJ (.i a) (.i b)=(a==b):=rfl
theorem F8(k:Int):∀l:List (Int×Int),pG (.i k) (l.map iiC)=(lkI k l).map .i
 | []=>rfl
 |(a,v)::r=>by
  simp only[List.map_cons,pG,Vz,lkI]
  cases k==a with
  |true=>rfl
  |false=>exact F8 k r
theorem VA[af]{k:Int}{l:List (Int×Int)}{M:List (D×D)}{f:D->Prop}{g:Prop}(hM:M=l.map iiC)(h1:∀n,lkI k l=some n->f (.i n))(h2:lkI k l=none->g):uj (pG (.i k) M) f g:=by
 cases hk:lkI k l with
 |none=>grind[Nam.opt_none,F8]
 |some n=>grind[Nam.opt_some,F8]
end Go.Fw
namespace Go.Fw.Rg
open Go.Fw Go.Fw.Ref15
variable [af]
def cu:List (Int×Int):=[(1,0),(3,0),(4,0),(5,0),(6,1),(7,1),(8,1),(9,1),(10,1),(13,1),(14,1),(18,1),(11,2),(12,2),(15,2),(16,2),(17,2),(19,4)]
def lS(p:Pr):List (Int×Int):=[(3,p.params.length),(4,p.states.length),(8,p.lines.length),(9,p.tables.length),(5,p.stmts.length)]
def zb3(p:Pr):List (Int×Int):=[(3,(p.params.map Bd.cs).length),(4,(p.states.map Bd.cs).length),(8,(p.lines.map Ln.cs).length),(9,(p.tables.map Tb.cs).length),(5,(p.stmts.map Sm.cs).length)]
theorem Y6{p:Pr}{k:Int}{M:List (D×D)}{f:D->Prop}{g:Prop}(hM:M=(zb3 p).map iiC)(h1:∀n,lkI k (lS p)=some n->f (.i n))(h2:lkI k (lS p)=none->g):uj (pG (.i k) M) f g:=by
 grind[zb3,lS,VA]
theorem ze2{p:Pr}{k m:Int}(h:lkI k (lS p)=some m)(h5:(k==5)=true):m=p.stmts.length:=by
 have:k=5:=by simpa using h5
 subst this
 exact(Option.some.inj h).symm
theorem zb4{p:Pr}{k:Int}(h:lkI k (lS p)=none)(h5:(k==5)=true):False:=by
 have:k=5:=by simpa using h5
 subst this
 cases h
theorem z6g{l:List Ex}{n most:Int}{b:Bool}(h:(bif ((Ex.css l).length:Int) != n then true else decide (most<1))=b):(bif (l.length:Int) != n then true else decide (most<1))=b:=by grind[Ex.css_len]
def inM(i:Int):Option Int->Bool
 |none=>true
 |some m=>!(bif decide (i<0)then true else decide (i>=m))
theorem O6{i m:Int}{b:Bool}(h:(bif decide (i<0)then true else decide (i>=m))=b):inM i (some m) = !b:=by rw[inM,h]
def ok0(p:Pr)(k i m:Int):Bool:=if k==1 then(bif decide (0<=m)then decide (m<=2147483648)else false)else if k==18 then(bif decide (1<=m)then decide (m<=2147483648)else false)else if k==5 then(p.stmts.getD i.toNat Sm.none).kind==1 else true
mutual
def eY(p:Pr):Ex->Int->Int×Bool
 | .mk k _ i m l,most=>match lkI k cu with
  |none=>(0,false)
  |some need=>if(bif (l.length:Int) != need then true else decide (most<1))=true then(0,false)else if inM i (lkI k (lS p))=false then(0,false)else jJ p l most 1 (ok0 p k i m)
def jJ(p:Pr):List Ex->Int->Int->Bool->Int×Bool
 | [],_,n,ok=>(n,ok)
 |y::r,most,n,ok=>if(!(bif ok then(eY p y (most-n)).2 else false))=true then(0,false)else jJ p r most (n+(eY p y (most-n)).1) (bif ok then(eY p y (most-n)).2 else false)
end
theorem vG(p:Pr)(x:Ex)(most:Int):eY p x most=match lkI x.kind cu with
  |none=>(0,false)
  |some need=>if(bif (x.l.length:Int) != need then true else decide (most<1))=true then(0,false)else if inM x.index (lkI x.kind (lS p))=false then(0,false)else jJ p x.l most 1 (ok0 p x.kind x.index x.n):=by cases x;rfl
theorem xk{p:Pr}{x:Ex}{most:Int}(h:lkI x.kind cu=none):eY p x most=(0,false):=by rw[vG,h]
theorem xm{p:Pr}{x:Ex}{most need:Int}(h:lkI x.kind cu=some need)(h2:(bif (x.l.length:Int) != need then true else decide (most<1))=true):eY p x most=(0,false):=by
 rw[vG];simp_all
theorem F9{p:Pr}{x:Ex}{most need:Int}(h:lkI x.kind cu=some need)(h2:(bif (x.l.length:Int) != need then true else decide (most<1))=false)(h3:inM x.index (lkI x.kind (lS p))=false):eY p x most=(0,false):=by
 rw[vG];simp_all
theorem xn{p:Pr}{x:Ex}{most need:Int}(h:lkI x.kind cu=some need)(h2:(bif (x.l.length:Int) != need then true else decide (most<1))=false)(h3:inM x.index (lkI x.kind (lS p))=true):eY p x most=jJ p x.l most 1 (ok0 p x.kind x.index x.n):=by
 rw[vG];grind
theorem z6h{l:List Ex}{nd most:Int}(h:(bif ((Ex.css l).length:Int) != nd then true else decide (most<1))=false):1<=most:=by
 simp_all
theorem Rl{p:Pr}{x:Ex}{most nd:Int}{o:Option Int}{b:Bool}(hnd:lkI x.kind cu=some nd)(hmd:lkI x.kind (lS p)=o)(h:(bif ((Ex.css x.l).length:Int) != nd then true else decide (most<1))=false)(h2:inM x.index o=true)(h3:ok0 p x.kind x.index x.n=b):eY p x most=jJ p x.l most 1 b:=by
 rw[xn hnd (z6g h) (by simp_all),h3]
theorem Y7{p:Pr}{x:Ex}{most nd:Int}{o:Option Int}(hnd:lkI x.kind cu=some nd)(hmd:lkI x.kind (lS p)=o)(h:(bif ((Ex.css x.l).length:Int) != nd then true else decide (most<1))=false)(h2:inM x.index o=false):eY p x most=(0,false):=by
 rw[F9 hnd (z6g h) (by simp_all)]
theorem ze3{p:Pr}{k i m:Int}(h:(k==1)=true):ok0 p k i m=(bif decide (0<=m)then decide (m<=2147483648)else false):=by simp[ok0,h]
theorem ze4{p:Pr}{k i m:Int}(h:(k==1)=false)(h2:(k==18)=true):ok0 p k i m=(bif decide (1<=m)then decide (m<=2147483648)else false):=by simp[ok0,h,h2]
theorem ze5{p:Pr}{k i m:Int}(h:(k==1)=false)(h2:(k==18)=false)(h3:(k==5)=true):ok0 p k i m=((p.stmts.getD i.toNat Sm.none).kind==1):=by simp[ok0,h,h2,h3]
theorem ze6{p:Pr}{k i m:Int}(h:(k==1)=false)(h2:(k==18)=false)(h3:(k==5)=false):ok0 p k i m=true:=by simp[ok0,h,h2,h3]
theorem zgq{p:Pr}{k i m:Int}(h:lkI k (lS p)=some m)(h5:(k==5)=true)(h2:(bif decide (i<0)then true else decide (i>=m))=false):0<=i/\i<p.stmts.length:=by
 grind[ze2]
theorem oU{p:Pr}{y:Ex}{r:List Ex}{most n:Int}{ok:Bool}(h:(!(bif ok then(eY p y (most-n)).2 else false))=true):jJ p (y::r) most n ok=(0,false):=by rw[jJ,if_pos h]
theorem vH{p:Pr}{y:Ex}{r:List Ex}{most n:Int}{ok:Bool}(h:(!(bif ok then(eY p y (most-n)).2 else false))=false):jJ p (y::r) most n ok=jJ p r most (n+(eY p y (most-n)).1) (bif ok then(eY p y (most-n)).2 else false):=by rw[jJ,if_neg (by rw[h];decide)]
theorem zgr{b c:Bool}(h:(!(bif b then c else false))=false):b=true/\c=true:=by simp_all
theorem O7(p:Pr):∀(x:Ex) (most:Int),most<=512->0<=(eY p x most).1/\(eY p x most).1<=512/\((eY p x most).2=true->1<=(eY p x most).1/\(eY p x most).1<=most):=by
 refine Ex.ind λx ih most hm=>?_
 have hL:∀(l:List Ex),(∀y∈l,y∈x.l)->∀(n:Int) (ok:Bool),1<=n->n<=most->0<=(jJ p l most n ok).1/\(jJ p l most n ok).1<=512/\((jJ p l most n ok).2=true->1<=(jJ p l most n ok).1/\(jJ p l most n ok).1<=most):=by
  intro l
  induction l with
  |nil=>grind[jJ]
  |cons y r ihr=>
   intro hl n ok h1 h2
   cases hb:!(bif ok then(eY p y (most-n)).2 else false)with
   |true=>rw[oU hb];simp
   |false=>
    rw[vH hb]
    obtain⟨a,b⟩:=zgr hb
    have:=ih y (hl y (by simp)) (most-n) (by omega)
    have h3:=this.2.2 b
    exact ihr (λz hz=>hl z (by simp[hz])) _ _ (by omega) (by omega)
 cases h:lkI x.kind cu with
 |none=>rw[xk h];simp
 |some need=>
  cases h2:(bif (x.l.length:Int) != need then true else decide (most<1))with
  |true=>rw[xm h h2];simp
  |false=>
   cases h3:inM x.index (lkI x.kind (lS p))with
   |false=>rw[F9 h h2 h3];simp
   |true=>
    rw[xn h h2 h3]
    have:1<=most:=by
     simp_all
    exact hL x.l (λ_ h=>h) 1 _ (Int.le_refl _) this
def lT(k:Int):Int:=
 if k==1 || k==3 || k==4 || k==5 then 0
 else if k==6 || k==7 || k==8 || k==9 || k==10 || k==13 || k==14 || k==18 then 1
 else if k==11 || k==12 || k==15 || k==16 || k==17 then 2
 else if k==19 then 4 else -1
def vI(p:Pr)(x:Ex):Bool:=
 if((x.l.length:Int) != lT x.kind)=true then false
 else if x.kind==1 then(bif decide (x.n>=0)then decide (x.n<=2147483648)else false)
 else if x.kind==18 then(bif decide (x.n>=1)then decide (x.n<=2147483648)else false)
 else if x.kind==3 then(bif decide (x.index>=0)then decide (x.index<p.params.length)else false)
 else if x.kind==4 then(bif decide (x.index>=0)then decide (x.index<p.states.length)else false)
 else if x.kind==8 then(bif decide (x.index>=0)then decide (x.index<p.lines.length)else false)
 else if x.kind==9 then(bif decide (x.index>=0)then decide (x.index<p.tables.length)else false)
 else if x.kind==5 then(bif (bif decide (x.index>=0)then decide (x.index<p.stmts.length)else false)then(p.stmts.getD x.index.toNat Sm.none).kind==1 else false)
 else true
mutual
def sD(p:Pr):Ex->Int->Int
 | .mk k nm i m l,most=>if(bif decide (most<1)then true else !vI p (.mk k nm i m l))=true then -1 else lU p l most 1
def lU(p:Pr):List Ex->Int->Int->Int
 | [],_,n=>n
 |y::r,most,n=>if sD p y (most-n)<0 then -1 else lU p r most (n+sD p y (most-n))
end
theorem vJ(p:Pr)(x:Ex)(most:Int):sD p x most=if(bif decide (most<1)then true else !vI p x)=true then -1 else lU p x.l most 1:=by cases x;rfl
theorem VB(p:Pr):∀(x:Ex) (most:Int),sD p x most = -1\/(1<=sD p x most/\sD p x most<=most):=by
 refine Ex.ind λx ih most=>?_
 have hL:∀(l:List Ex),(∀y∈l,y∈x.l)->∀(n:Int),1<=n->n<=most->lU p l most n = -1\/(1<=lU p l most n/\lU p l most n<=most):=by
  intro l
  induction l with
  |nil=>grind[lU]
  |cons y r ihr=>
   intro hl n h1 h2
   rw[lU]
   grind
 rw[vJ]
 grind
theorem D8(k:Int):lkI k cu=if lT k<0 then none else some (lT k):=by
 by_cases hk:1<=k/\k<=19
 ·rcases Nam.kinds_cases hk with h |h |h |h |h |h |h |h |h |h |h |h |h |h |h |h |h |h |h<;>subst h<;>rfl
 ·have h1:∀n:Int,1<=n->n<=19->(k==n)=false:=λn a b=>by
   grind
  simp[lT,lkI,cu,h1]
theorem own_fits{p:Pr}{x:Ex}{most:Int}(hm:1<=most):(∃n,lkI x.kind cu=some n/\(bif (x.l.length:Int) != n then true else decide (most<1))=false/\inM x.index (lkI x.kind (lS p))=true/\ok0 p x.kind x.index x.n=true)↔vI p x=true:=by
 have hm':decide (most<1)=false:=by simp;omega
 rw[hm',D8]
 by_cases hk:1<=x.kind/\x.kind<=19
 ·rcases Nam.kinds_cases hk with h |h |h |h |h |h |h |h |h |h |h |h |h |h |h |h |h |h |h<;>rw[vI,h]<;>simp[lT,inM,lS,lkI,ok0]<;>(try omega)
 ·have h1:∀n:Int,1<=n->n<=19->(x.kind==n)=false:=λn a b=>by
   grind
  have:lT x.kind = -1:=by simp[lT,h1]
  grind[vI]
theorem D9(p:Pr):∀(x:Ex) (most:Int),((eY p x most).2=true->sD p x most=(eY p x most).1)/\((eY p x most).2=false->sD p x most = -1):=by
 refine Ex.ind λx ih most=>?_
 have hL:∀(l:List Ex),(∀y∈l,y∈x.l)->∀(n:Int),((jJ p l most n true).2=true->lU p l most n=(jJ p l most n true).1)/\((jJ p l most n true).2=false->lU p l most n = -1):=by
  intro l
  induction l with
  |nil=>intro _ n;rw[jJ,lU];simp
  |cons y r ihr=>
   intro hl n
   have:=ih y (hl y (by simp)) (most-n)
   rw[lU]
   cases hb:(eY p y (most-n)).2 with
   |false=>
    rw[oU (by rw[hb];rfl),this.2 hb]
    simp
   |true=>
    rw[vH (by rw[hb];rfl),this.1 hb,hb]
    split
    ·have hq:∀z:Ex,∀m,(eY p z m).2=true->1<=(eY p z m).1:=by
      refine Ex.ind λz ihz m hz=>?_
      have hLL:∀(l:List Ex),(∀y∈l,y∈z.l)->∀(n:Int) (ok:Bool),1<=n->(jJ p l m n ok).2=true->1<=(jJ p l m n ok).1:=by
       intro l
       induction l with
       |nil=>grind[jJ]
       |cons y r ihr=>
        intro hl n ok h1 h2
        cases hb:!(bif ok then(eY p y (m-n)).2 else false)with
        |true=>rw[oU hb]at h2;simp_all
        |false=>
         rw[vH hb]at h2 ⊢
         grind
      rw[vG]at hz ⊢
      grind
     grind
    simp_all
 rw[vJ]
 by_cases hm:most<1
 ·have hf:eY p x most=(0,false):=by
   cases h:lkI x.kind cu with
   |none=>exact xk h
   |some n=>grind[xm]
  simp_all
 ·have hm':1<=most:=by omega
  rw[decide_eq_false hm]
  cases ho:vI p x with
  |true=>
   obtain⟨n,h1,h2,h3,h4⟩:=(own_fits hm').2 ho
   rw[xn h1 h2 h3,h4]
   simp_all
  |false=>
   have hn:¬∃n,lkI x.kind cu=some n/\(bif (x.l.length:Int) != n then true else decide (most<1))=false/\inM x.index (lkI x.kind (lS p))=true/\ok0 p x.kind x.index x.n=true:=by
    rw[own_fits hm',ho];simp
   refine⟨λh=>?_,λ_=>rfl⟩
   cases h1:lkI x.kind cu with
   |none=>rw[xk h1]at h;simp_all
   |some n=>
    cases h2:(bif (x.l.length:Int) != n then true else decide (most<1))with
    |true=>rw[xm h1 h2]at h;simp_all
    |false=>
     cases h3:inM x.index (lkI x.kind (lS p))with
     |false=>rw[F9 h1 h2 h3]at h;simp_all
     |true=>
      rw[xn h1 h2 h3]at h
      have h4:ok0 p x.kind x.index x.n=false:=by
       simp_all
      rw[h4]at h
      cases hl:x.l with
      |nil=>rw[hl,jJ]at h;simp_all
      |cons y r=>rw[hl,oU rfl]at h;simp_all
theorem z6i{p:Pr}(ht:p.tables.all kN=true):∀(x:Ex) (most:Int),(eY p x most).2=true->wfX p p.stmts.length x=true:=by
 refine Ex.ind λx ih most h=>?_
 have hm:1<=most:=by
  rcases VB p x most with q |q<;>try omega
  have:=(D9 p x most).1 h
  rw[vJ]at q this
  split at q
  ·rename_i hq
   cases hc:decide (most<1)with
   |false=>simpa using hc
   |true=>
    have hf:eY p x most=(0,false):=by
     cases h:lkI x.kind cu with
     |none=>exact xk h
     |some n=>grind[xm]
    simp_all
  simp_all
 have ho:vI p x=true:=by
  cases ho:vI p x with
  |true=>rfl
  |false=>
   exfalso
   cases h1':lkI x.kind cu with
   |none=>rw[xk h1']at h;simp_all
   |some n=>
    cases h2':(bif (x.l.length:Int) != n then true else decide (most<1))with
    |true=>rw[xm h1' h2']at h;simp_all
    |false=>
     cases h3':inM x.index (lkI x.kind (lS p))with
     |false=>rw[F9 h1' h2' h3']at h;simp_all
     |true=>
      cases h4:ok0 p x.kind x.index x.n with
      |true=>have:=(own_fits hm).1 ⟨n,h1',h2',h3',h4⟩;simp_all
      |false=>
       rw[xn h1' h2' h3',h4]at h
       cases hl:x.l with
       |nil=>rw[hl,jJ]at h;simp_all
       |cons y r=>rw[hl,oU rfl]at h;simp_all
 obtain⟨n,h1,h2,h3,h4⟩:=(own_fits hm).2 ho
 rw[xn h1 h2 h3,h4]at h
 have hL:∀(l:List Ex),(∀y∈l,y∈x.l)->∀(n:Int) (ok:Bool),(jJ p l most n ok).2=true->wfL p p.stmts.length l=true:=by
  intro l
  induction l with
  |nil=>intro _ n ok _;rfl
  |cons y r ihr=>
   intro hl n ok h
   cases hb:!(bif ok then(eY p y (most-n)).2 else false)with
   |true=>rw[oU hb]at h;simp_all
   |false=>
    rw[vH hb]at h
    simp only[wfL,Bool.and_eq_true]
    grind
 rw[OU,hL x.l (λ_ h=>h) _ _ h,Bool.and_true]
 rw[D8]at h1
 have hne:∀i:Int,0<=i->i<p.tables.length->(aF p i==[])=false:=by
  intro i h0 h1
  have hm:p.tables.getD i.toNat Tb.none∈p.tables:=by
   simp_all
  have hq:=List.all_eq_true.1 ht _ hm
  simp only[kN,Bool.not_eq_true',Bool.or_eq_false_iff]at hq
  grind
 by_cases hk:1<=x.kind/\x.kind<=19
 ·rw[vI]at ho
  rcases Nam.kinds_cases hk with h |h |h |h |h |h |h |h |h |h |h |h |h |h |h |h |h |h |h<;>rw[h]at ho ⊢ <;> simp[lT,Ref15.parts,oP]at ho ⊢ <;> first
   |exact ho
   |omega
   |simp_all
   |simp_all
   |exact ho.2.1
   |simp_all
   |simp_all
   |simp_all
 ·have h1':∀n:Int,1<=n->n<=19->(x.kind==n)=false:=λn a b=>by
   grind
  have:lT x.kind = -1:=by simp[lT,h1']
  simp_all
end Go.Fw.Rg
namespace Go.Fw.Rg
open Go.Fw Go.Fw.Ref15
variable [af] {k i m : Int} {p : Pr} {n : Nat}
def zgv:Except Int Sp->D
 | .ok s=>.tuple [.i s.1,.i s.2,.i 0]
 | .error e=>.tuple [.i 0,.i 0,.i e]
theorem O8(h:oP p n k i m=true)(hk:(k==3)=true):0<=i/\i<p.params.length:=by
 have:k=3:=by simpa using hk
 subst this
 have h:(decide (0<=i)&&decide (i<p.params.length))=true:=h
 simpa using h
theorem Ja(h:oP p n k i m=true)(hk:(k==4)=true):0<=i/\i<p.states.length:=by
 have:k=4:=by simpa using hk
 subst this
 have h:(decide (0<=i)&&decide (i<p.states.length))=true:=h
 simpa using h
theorem Ea(h:oP p n k i m=true)(hk:(k==5)=true):0<=i/\i<n:=by
 have:k=5:=by simpa using hk
 subst this
 have h:(decide (0<=i)&&decide (i<n))=true:=h
 simpa using h
theorem Jb(h:oP p n k i m=true)(hk:(k==8)=true):0<=i/\i<p.lines.length:=by
 have:k=8:=by simpa using hk
 subst this
 have h:(decide (0<=i)&&decide (i<p.lines.length))=true:=h
 simpa using h
theorem O9(h:oP p n k i m=true)(hk:(k==9)=true):0<=i/\i<p.tables.length/\aF p i ≠ []:=by
 have:k=9:=by simpa using hk
 subst this
 have h:(decide (0<=i)&&decide (i<p.tables.length) && !(aF p i==[]))=true:=h
 simp_all
theorem z6j(h:oP p n k i m=true)(hk:(k==18)=true):1<=m:=by
 have:k=18:=by simpa using hk
 subst this
 have h:(decide (1<=m)&&decide (m<=2147483648))=true:=h
 simp_all
theorem Me(h:oP p n k i m=true)(hk:(k==9)=true):0<(aF p i).length:=List.length_pos_iff.2 (O9 h hk).2.2
theorem z6k{c:Prop}[Decidable c]{a b:Except Int Sp}{e:Int}{P:Prop}(h:(if c then a else b) = .error e)(ha:a = .error e->P)(hb:b = .error e->P):P:=by
 grind
theorem z6l{found:List Sp}:∀(x:Ex) (e:Int),dE p found x = .error e->e=160\/e=161:=by
 have hO:∀(k i m:Int) (l:List Sp) (e:Int),opM p found k i m l = .error e->e=160\/e=161:=by
  intro k i m l e h
  repeat' (refine z6k h ?_ ?_<;>(intro h))
  all_goals first
   |(cases h;done)
   |(cases h;exact .inl rfl)
   |(cases h;exact .inr rfl)
 refine Ex.ind λx ih e h=>?_
 have hL:∀(l:List Ex),(∀y∈l,y∈x.l)->∀e,dm p found l = .error e->e=160\/e=161:=by
  intro l
  induction l with
  |nil=>grind[dm]
  |cons y r ihr=>
   grind[dm]
 grind[iD]
end Go.Fw.Rg
namespace Go.Fw.Rg
open Go.Fw Go.Fw.Ref15
variable [af]
def aJ(p:Pr):List Sp×Int:=if(resE p != 0)=true then([],resE p)else match bU p p.stmts []with
 | .ok F=>(F,0)
 | .error e=>([],e)
def Gf(p:Pr)(x:Ex):Bool:=(eY p x 512).2
def gK(p:Pr)(x:Ex):Except Int Sp:=if((aJ p).2 != 0)=true then .error (aJ p).2 else if Gf p x then dE p (aJ p).1 x else .error 150
theorem qU{p:Pr}{F:List Sp}(h:resE p=0)(h2:bU p p.stmts [] = .ok F):aJ p=(F,0):=by
 have h:¬((resE p != 0)=true):=by rw[h];decide
 rw[aJ,if_neg h,h2]
theorem Bg{p:Pr}{e:Int}(h:resE p=0)(h2:bU p p.stmts [] = .error e):aJ p=([],e):=by
 have h:¬((resE p != 0)=true):=by rw[h];decide
 rw[aJ,if_neg h,h2]
theorem qV{p:Pr}(h:(resE p != 0)=true):aJ p=([],resE p):=by rw[aJ,if_pos h]
theorem z19{p:Pr}:∀(r:List Sm) (fs:List Sp) (e:Int),bU p r fs = .error e->e=160\/e=161
 | [],fs,e,h=>by grind[bU]
 |s::r,fs,e,h=>by
  rw[bU]at h
  cases hf:dE p fs s.x with
  |error e'=>grind[z6l]
  |ok f=>
   rw[hf]at h
   simp only at h
   split at h
   ·exact z19 r _ e h
   simp_all
theorem VC{p:Pr}{e:Int}(h:bU p p.stmts [] = .error e):(e != 0)=true:=by
 grind[z19]
structure BOk(p:Pr)(F:List Sp):Prop where
 res:Res p
 run:bU p p.stmts [] = .ok F
 len:F.length=p.stmts.length
 ins:InS F
theorem VD{p:Pr}(hR:Rng p):∀(r:List Sm) (i:Nat) (fs F:List Sp),vg p i r=true->fs.length=i->InS fs->bU p r fs = .ok F->F.length=i+r.length/\InS F
 | [],i,fs,F,_,hl,hi,h=>by grind[bU]
 |s::r,i,fs,F,hw,hl,hi,h=>by
  rw[bU]at h
  cases hf:dE p fs s.x with
  |error e'=>simp_all
  |ok f=>
   rw[hf]at h
   simp only at h
   split at h
   ·have hq:=ve hR hi _ _ (by grind[Ve]) hf
    have:=VD hR r (i+1) (fs++[f]) F (qy hw) (by simp[hl]) (FT hi hq) h
    grind
   ·cases h
theorem zb5{p:Pr}{F:List Sp}(h:resE p=0)(h2:bU p p.stmts [] = .ok F):BOk p F:=by
 have hr:=yZ h
 have:=VD hr.rng p.stmts 0 [] F hr.wf rfl (λs hs=>by simp at hs) h2
 exact⟨hr,h2,by omega,this.2⟩
theorem kH{p:Pr}(h:(aJ p).2=0):BOk p (aJ p).1/\resE p=0:=by
 cases hz:resE p != 0 with
 |true=>grind[qV]
 |false=>
  have hz:resE p=0:=by simpa using hz
  cases hs:bU p p.stmts []with
  |error e=>rw[Bg hz hs]at h;grind[VC]
  |ok F=>rw[qU hz hs];grind[zb5]
theorem MB(p:Pr)(x:Ex):decide (sD p x 512>0)=Gf p x:=by
 have h:=D9 p x 512
 have hr:=O7 p x 512 (by decide)
 grind[Gf]
theorem zb6{p:Pr}{F:List Sp}{x:Ex}(h:BOk p F)(hx:Gf p x=true):wfX p F.length x=true:=by
 rw[h.len];exact z6i h.res.tb x 512 hx
theorem z6m{p:Pr}{x:Ex}(h:((aJ p).2 != 0)=true):gK p x = .error (aJ p).2:=by rw[gK,if_pos h]
theorem VE{p:Pr}{x:Ex}(h:(aJ p).2=0)(hx:Gf p x=false):gK p x = .error 150:=by
 rw[gK,if_neg (by rw[h];decide),hx];rfl
theorem VF{p:Pr}{x:Ex}(h:(aJ p).2=0)(hx:Gf p x=true):gK p x=dE p (aJ p).1 x:=by
 rw[gK,if_neg (by rw[h];decide),hx];rfl
theorem stmF_ok'{p:Pr}:∀(r:List Sm) (fs F:List Sp),bU p r fs = .ok F->iH p r fs=F
 | [],fs,F,h=>by cases h;rfl
 |s::r,fs,F,h=>by
  rw[bU]at h
  rw[iH]
  cases hf:dE p fs s.x with
  |error e'=>simp_all
  |ok f=>
   rw[hf]at h
   simp only at h ⊢
   split at h
   ·rename_i hw;rw[if_pos hw];exact stmF_ok' r _ F h
   ·cases h
theorem z6n{p:Pr}{F:List Sp}(h:bU p p.stmts [] = .ok F):iH p p.stmts []=F:=stmF_ok' _ _ _ h
mutual
def esz:Ex->Nat
 | .mk _ nm _ _ l=>1+nm.length+z6o l
def z6o:List Ex->Nat
 | []=>0
 |x::r=>esz x+z6o r
end
theorem z2a(x:Ex):esz x=1+x.name.length+z6o x.l:=by cases x;rfl
theorem VG{p:Pr}(h:p.params.length<=4/\p.states.length<=4/\p.lines.length<=4/\p.tables.length<=4/\p.stmts.length<=4/\(p.stmts.all λs=>Nat.ble (Ref15.nodes s.x) 100)=true/\(p.tables.all λt=>Nat.ble t.values.length 100)=true):gy p:=by
 obtain⟨h1,h2,h3,h4,h5,h6,h7⟩:=h
 refine⟨⟨by omega,by omega,by omega,by omega,by omega⟩,λs hs=>?_,λt ht=>?_⟩
 ·have:=Nat.le_of_ble_eq_true (List.all_eq_true.1 h6 s hs);omega
 ·have:=Nat.le_of_ble_eq_true (List.all_eq_true.1 h7 t ht);omega
def Pg(s' s:Sp):Prop:=s.1<=s'.1/\s'.1<=s'.2/\s'.2<=s.2
def VH(l' l:List Sp):Prop:=∀i:Nat,Pg (l'.getD i (0,0)) (l.getD i (0,0))
theorem lV{s:Sp}(h:s.1<=s.2):Pg s s:=⟨Int.le_refl _,h,Int.le_refl _⟩
theorem Y8:VH [] []:=λi=>by simp[Pg]
theorem VI{a b:Sp}{l m:List Sp}(h:Pg a b)(h2:VH l m):VH (a::l) (b::m):=λi=>by
 cases i with
 |zero=>exact h
 |succ i=>simpa using h2 i
theorem tV{a b x y:Int}(h1:a<=x)(h2:x<=b):(a * y<=x * y/\x * y<=b * y)\/(b * y<=x * y/\x * y<=a * y):=by
 by_cases hy:0<=y
 ·exact .inl ⟨Int.mul_le_mul_of_nonneg_right h1 hy,Int.mul_le_mul_of_nonneg_right h2 hy⟩
 simp_all
theorem z6p{a1 a2 b1 b2 x y L H:Int}(h1:a1<=x)(h2:x<=a2)(h3:b1<=y)(h4:y<=b2)(c1:L<=a1 * b1/\a1 * b1<=H)(c2:L<=a1 * b2/\a1 * b2<=H)(c3:L<=a2 * b1/\a2 * b1<=H)(c4:L<=a2 * b2/\a2 * b2<=H):L<=x * y/\x * y<=H:=by
 have e1:L<=x * b1/\x * b1<=H:=by
  rcases tV (y:=b1) h1 h2 with h |h<;>omega
 have e2:L<=x * b2/\x * b2<=H:=by
  rcases tV (y:=b2) h1 h2 with h |h<;>omega
 rcases tV (y:=x) h3 h4 with h |h<;>rw[Int.mul_comm b1,Int.mul_comm b2,Int.mul_comm y]at h<;>omega
theorem VJ(a b c d:Int):Kz a b c d<=a/\Kz a b c d<=b/\Kz a b c d<=c/\Kz a b c d<=d:=by
 grind[Kz,mm2]
theorem VK(a b c d:Int):a<=KA a b c d/\b<=KA a b c d/\c<=KA a b c d/\d<=KA a b c d:=by
 grind[KA,mm2]
theorem Ph{a b c d L:Int}(h1:L<=a)(h2:L<=b)(h3:L<=c)(h4:L<=d):L<=Kz a b c d:=by
 grind[Kz,mm2]
theorem Pi{a b c d H:Int}(h1:a<=H)(h2:b<=H)(h3:c<=H)(h4:d<=H):KA a b c d<=H:=by
 grind[KA,mm2]
theorem Y9{a b a' b' s:Sp}(h:prodM a b = .ok s)(ha:Pg a' a)(hb:Pg b' b):∃s',prodM a' b' = .ok s'/\Pg s' s:=by
 obtain⟨rfl,w1,w2,w3,w4⟩:=FQ h
 obtain⟨n1,n2,n3,n4⟩:=VJ (a.1 * b.1) (a.1 * b.2) (a.2 * b.1) (a.2 * b.2)
 obtain⟨m1,m2,m3,m4⟩:=VK (a.1 * b.1) (a.1 * b.2) (a.2 * b.1) (a.2 * b.2)
 obtain⟨p1,p2,p3⟩:=ha
 obtain⟨q1,q2,q3⟩:=hb
 have hin:∀x y:Int,a.1<=x->x<=a.2->b.1<=y->y<=b.2->Kz (a.1 * b.1) (a.1 * b.2) (a.2 * b.1) (a.2 * b.2)<=x * y/\x * y<=KA (a.1 * b.1) (a.1 * b.2) (a.2 * b.1) (a.2 * b.2):=λx y g1 g2 g3 g4=>z6p g1 g2 g3 g4 ⟨n1,m1⟩ ⟨n2,m2⟩ ⟨n3,m3⟩ ⟨n4,m4⟩
 have k1:=hin a'.1 b'.1 (by omega) (by omega) (by omega) (by omega)
 have k2:=hin a'.1 b'.2 (by omega) (by omega) (by omega) (by omega)
 have k3:=hin a'.2 b'.1 (by omega) (by omega) (by omega) (by omega)
 have k4:=hin a'.2 b'.2 (by omega) (by omega) (by omega) (by omega)
 have lo:-4611686018427387904<=Kz (a.1 * b.1) (a.1 * b.2) (a.2 * b.1) (a.2 * b.2):=by
  have:=bT.1 w1;have:=bT.1 w2;have:=bT.1 w3;have:=bT.1 w4
  exact Ph (by omega) (by omega) (by omega) (by omega)
 have hi:KA (a.1 * b.1) (a.1 * b.2) (a.2 * b.1) (a.2 * b.2)<=4611686018427387904:=by
  have:=bT.1 w1;have:=bT.1 w2;have:=bT.1 w3;have:=bT.1 w4
  exact Pi (by omega) (by omega) (by omega) (by omega)
 refine⟨(Kz (a'.1 * b'.1) (a'.1 * b'.2) (a'.2 * b'.1) (a'.2 * b'.2),KA (a'.1 * b'.1) (a'.1 * b'.2) (a'.2 * b'.1) (a'.2 * b'.2)),?_,?_,?_,?_⟩
 ·grind[prodM,bT]
 ·exact Ph k1.1 k2.1 k3.1 k4.1
 ·exact Int.le_trans (VJ _ _ _ _).1 (VK _ _ _ _).1
 ·exact Pi k1.2 k2.2 k3.2 k4.2
theorem VL{a b c d a' b' c' d':Int}{s:Sp}(h:two (a+b) (c+d) = .ok s)(h1:a<=a')(h2:b<=b')(h3:c'<=c)(h4:d'<=d)(h5:a'+b'<=c'+d'):∃s',two (a'+b') (c'+d') = .ok s'/\Pg s' s:=by
 obtain⟨rfl,w1,w2⟩:=A8 h
 refine⟨(a'+b',c'+d'),?_,by omega,by omega,by omega⟩
 grind[two,bT]
theorem Bh{a b:Int}(h:a<=b):oO a<=oO b:=by
 grind[oO]
theorem mP{t:Bool}{a b a' b':Int}(h1:a<=a')(h2:b<=b'):mm2 t a b<=mm2 t a' b':=by
 cases t<;>simp[mm2]<;>(repeat' split)<;>omega
theorem z6q{a a':Sp}(h:Pg a' a):Pg (SY a') (SY a):=by
 grind[SY,mm2,Pg]
structure Nar(p' p:Pr):Prop where
 par:∀i:Nat,(p.params.getD i Bd.none).lo<=(p'.params.getD i Bd.none).lo/\(p'.params.getD i Bd.none).lo<=(p'.params.getD i Bd.none).hi/\(p'.params.getD i Bd.none).hi<=(p.params.getD i Bd.none).hi
 sta:p'.states=p.states
 lin:p'.lines=p.lines
 tab:p'.tables=p.tables
theorem Pj{p:Pr}(hR:Rng p):Nar p p:=by
 refine⟨λi=>?_,rfl,rfl,rfl⟩
 rw[List.getD_eq_getElem?_getD]
 cases h:p.params[i]? with
 |none=>simp
 |some b=>have:=hR.par b (List.mem_of_getElem? h);simp_all
theorem zb7(m:Int)(l:List Int):minL m l<=maxL m l:=Int.le_trans (FO l m).1 (FP l m).1
theorem VM{p p':Pr}{found found' l l':List Sp}{k i m:Int}{s:Sp}{n:Nat}(hR:Rng p)(hp:Nar p' p)(hF:VH found' found)(hl:VH l' l)(hw:oP p n k i m=true)(h:opM p found k i m l = .ok s):∃s',opM p' found' k i m l' = .ok s'/\Pg s' s:=by
 have h0:=hl 0;have h1:=hl 1;have h2:=hl 2;have h3:=hl 3
 rcases kinds hw with r |r |r |r |r |r |r |r |r |r |r |r |r |r |r |r |r |r<;>subst r
 ·cases (show(Except.ok (m,m):Except Int Sp) = .ok s from h);exact⟨_,rfl,lV (Int.le_refl _)⟩
 ·cases (show(Except.ok ((jD p i).lo,(jD p i).hi):Except Int Sp) = .ok s from h);exact⟨_,rfl,hp.par i.toNat⟩
 ·cases (show(Except.ok ((bM p i).lo,(bM p i).hi):Except Int Sp) = .ok s from h)
  refine⟨((bM p i).lo,(bM p i).hi),?_,lV ?_⟩
  ·show(Except.ok ((bM p' i).lo,(bM p' i).hi):Except Int Sp)=_
   rw[bM,hp.sta]
  ·have hq:=Ja hw rfl
   exact(hR.sta _ (getD_mem' Bd.none hq.1 hq.2)).2.1
 ·cases (show(Except.ok (found.getD i.toNat (0,0)):Except Int Sp) = .ok s from h);exact⟨_,rfl,hF i.toNat⟩
 ·have h:aheadM (l.getD 0 (0,0)) = .ok s:=h
  have hs:=nT h
  refine⟨s,?_,by grind[lV]⟩
  show aheadM (l'.getD 0 (0,0)) = .ok s
  subst hs
  rw[aheadM]at h ⊢
  split at h
  ·cases h
  ·rename_i hq
   obtain⟨g1,g2,g3⟩:=h0
   grind
 ·have h:aheadM (l.getD 0 (0,0)) = .ok s:=h
  have hs:=nT h
  refine⟨s,?_,by grind[lV]⟩
  show aheadM (l'.getD 0 (0,0)) = .ok s
  subst hs
  rw[aheadM]at h ⊢
  split at h
  ·cases h
  ·rename_i hq
   obtain⟨g1,g2,g3⟩:=h0
   grind
 ·cases (show(Except.ok (mm2 false (bZ p i).lo 0,mm2 true (bZ p i).hi 0):Except Int Sp) = .ok s from h)
  refine⟨(mm2 false (bZ p i).lo 0,mm2 true (bZ p i).hi 0),?_,lV ?_⟩
  ·show(Except.ok (mm2 false (bZ p' i).lo 0,mm2 true (bZ p' i).hi 0):Except Int Sp)=_
   rw[bZ,hp.lin]
  grind[mm2]
 ·cases (show(Except.ok (minL ((aF p i).getD 0 0) (aF p i),maxL ((aF p i).getD 0 0) (aF p i)):Except Int Sp) = .ok s from h)
  refine⟨(minL ((aF p i).getD 0 0) (aF p i),maxL ((aF p i).getD 0 0) (aF p i)),?_,lV (zb7 _ _)⟩
  show(Except.ok (minL ((aF p' i).getD 0 0) (aF p' i),maxL ((aF p' i).getD 0 0) (aF p' i)):Except Int Sp)=_
  rw[aF,hp.tab]
 ·cases (show(Except.ok (oO (l.getD 0 (0,0)).1,oO (l.getD 0 (0,0)).2):Except Int Sp) = .ok s from h)
  exact⟨_,rfl,Bh h0.1,Bh h0.2.1,Bh h0.2.2⟩
 ·cases (show(Except.ok (mm2 false (l.getD 0 (0,0)).1 (l.getD 1 (0,0)).1,mm2 false (l.getD 0 (0,0)).2 (l.getD 1 (0,0)).2):Except Int Sp) = .ok s from h)
  exact⟨_,rfl,mP (t:=false) h0.1 h1.1,mP (t:=false) h0.2.1 h1.2.1,mP (t:=false) h0.2.2 h1.2.2⟩
 ·cases (show(Except.ok (mm2 true (l.getD 0 (0,0)).1 (l.getD 1 (0,0)).1,mm2 true (l.getD 0 (0,0)).2 (l.getD 1 (0,0)).2):Except Int Sp) = .ok s from h)
  exact⟨_,rfl,mP (t:=true) h0.1 h1.1,mP (t:=true) h0.2.1 h1.2.1,mP (t:=true) h0.2.2 h1.2.2⟩
 ·cases (show(Except.ok (SY (l.getD 0 (0,0))):Except Int Sp) = .ok s from h)
  exact⟨_,rfl,z6q h0⟩
 ·cases (show(Except.ok (-(l.getD 0 (0,0)).2,-(l.getD 0 (0,0)).1):Except Int Sp) = .ok s from h)
  exact⟨_,rfl,by grind[Pg]⟩
 ·obtain⟨g1,g2,g3⟩:=h0;obtain⟨k1,k2,k3⟩:=h1
  exact VL (show two ((l.getD 0 (0,0)).1+(l.getD 1 (0,0)).1) ((l.getD 0 (0,0)).2+(l.getD 1 (0,0)).2) = .ok s from h) g1 k1 g3 k3 (by omega)
 ·obtain⟨g1,g2,g3⟩:=h0;obtain⟨k1,k2,k3⟩:=h1
  exact VL (show two ((l.getD 0 (0,0)).1 + -(l.getD 1 (0,0)).2) ((l.getD 0 (0,0)).2 + -(l.getD 1 (0,0)).1) = .ok s from h) g1 (by omega) g3 (by omega) (by omega)
 ·exact Y9 (show prodM (l.getD 0 (0,0)) (l.getD 1 (0,0)) = .ok s from h) h0 h1
 ·cases (show(Except.ok (iG (l.getD 0 (0,0)).1 m,iG (l.getD 0 (0,0)).2 m):Except Int Sp) = .ok s from h)
  have hm:=z6j hw rfl
  obtain⟨g1,g2,g3⟩:=h0
  exact⟨_,rfl,Int.ediv_le_ediv (by omega) g1,Int.ediv_le_ediv (by omega) g2,Int.ediv_le_ediv (by omega) g3⟩
 ·cases (show(Except.ok (mm2 false (l.getD 2 (0,0)).1 (l.getD 3 (0,0)).1,mm2 true (l.getD 2 (0,0)).2 (l.getD 3 (0,0)).2):Except Int Sp) = .ok s from h)
  obtain⟨g1,g2,g3⟩:=h2
  refine⟨_,rfl,mP (t:=false) g1 h3.1,?_,mP (t:=true) g3 h3.2.2⟩
  grind[mm2]
mutual
theorem Jc{p p':Pr}{found found':List Sp}(hR:Rng p)(hp:Nar p' p)(hF:VH found' found):∀(x:Ex) (s:Sp),wfX p found.length x=true->dE p found x = .ok s->∃s',dE p' found' x = .ok s'/\Pg s' s
 | .mk k nm i m l,s,hw,h=>by
  obtain⟨_,g2,g3⟩:=aV hw
  rw[iD]at h
  rw[iD]
  simp only[Ex.l,Ex.kind,Ex.index,Ex.n]at h g2 g3 ⊢
  cases hl:dm p found l with
  |error e=>rw[hl]at h;cases h
  |ok t=>
   rw[hl]at h
   obtain⟨t',ht,hs⟩:=Jd hR hp hF l t g3 hl
   rw[ht]
   exact VM hR hp hF hs g2 h
theorem Jd{p p':Pr}{found found':List Sp}(hR:Rng p)(hp:Nar p' p)(hF:VH found' found):∀(l:List Ex) (t:List Sp),wfL p found.length l=true->dm p found l = .ok t->∃t',dm p' found' l = .ok t'/\VH t' t
 | [],t,_,h=>by rw[dm]at h;cases h;exact⟨[],rfl,Y8⟩
 |x::r,t,hw,h=>by
  simp only[wfL,Bool.and_eq_true]at hw
  rw[dm]at h
  cases hx:dE p found x with
  |error e=>rw[hx]at h;cases h
  |ok s=>
   rw[hx]at h
   simp only at h
   cases hr:dm p found r with
   |error e=>rw[hr]at h;cases h
   |ok u=>
    rw[hr]at h
    cases h
    obtain⟨s',hs,hi⟩:=Jc hR hp hF x s hw.1 hx
    obtain⟨u',hu,hj⟩:=Jd hR hp hF r u hw.2 hr
    exact⟨s'::u',by rw[dm,hs,hu],VI hi hj⟩
end
theorem Je{p:Pr}{found:List Sp}(hR:Rng p)(hF:VH found found){x:Ex}{s:Sp}(hw:wfX p found.length x=true)(h:dE p found x = .ok s):s.1<=s.2:=by
 obtain⟨s',hs,hi⟩:=Jc hR (Pj hR) hF x s hw h
 rw[h]at hs;cases hs;exact hi.2.1
def InV(vs:List Int)(l:List Sp):Prop:=∀i:Nat,(l.getD i (0,0)).1<=vs.getD i 0/\vs.getD i 0<=(l.getD i (0,0)).2
theorem z6r:InV [] []:=λi=>by simp
theorem Za{v:Int}{s:Sp}{vs:List Int}{l:List Sp}(h:s.1<=v/\v<=s.2)(h2:InV vs l):InV (v::vs) (s::l):=λi=>by
 cases i with
 |zero=>exact h
 |succ i=>simpa using h2 i
theorem z6s{vs:List Int}{l:List Sp}(h:InV vs l):VH (vs.map λv=>(v,v)) l:=λi=>by
 have:=h i
 have e:(vs.map λv=>((v,v):Sp)).getD i (0,0)=(vs.getD i 0,vs.getD i 0):=by
  simp
 rw[e]
 exact⟨this.1,Int.le_refl _,this.2⟩
theorem Zb{l:List Int}{m v:Int}(h:v∈l):minL m l<=v:=(FO l m).2.1 v h
theorem Zc{l:List Int}{m v:Int}(h:v∈l):v<=maxL m l:=(FP l m).2.1 v h
structure FOk(found:List Sp):Prop where
 ins:InS found
 ord:∀s∈found,s.1<=s.2
theorem FOk.sub{found:List Sp}(h:FOk found):VH found found:=λi=>by
 rw[List.getD_eq_getElem?_getD]
 cases hq:found[i]? with
 |none=>exact⟨Int.le_refl _,Int.le_refl _,Int.le_refl _⟩
 |some s=>exact lV (h.ord s (List.mem_of_getElem? hq))
theorem Eb{p:Pr}{found:List Sp}:∀{l:List Ex} {t:List Sp},dm p found l = .ok t->∀y∈l,∃s,dE p found y = .ok s
 |x::r,t,h,y,hy=>by
  rw[dm]at h
  cases hx:dE p found x with
  |error e=>simp_all
  |ok s=>
   cases hr:dm p found r with
   |error e=>simp_all
   |ok u=>
    rcases List.mem_cons.1 hy with rfl |hy
    ·simp_all
    ·exact Eb hr y hy
theorem VN{p:Pr}(hR:Rng p):∀(r:List Sm) (i:Nat) (fs F:List Sp),vg p i r=true->fs.length=i->FOk fs->bU p r fs = .ok F->FOk F
 | [],i,fs,F,_,hl,hi,h=>by grind[bU]
 |s::r,i,fs,F,hw,hl,hi,h=>by
  rw[bU]at h
  cases hf:dE p fs s.x with
  |error e'=>simp_all
  |ok f=>
   rw[hf]at h
   simp only at h
   have hx:wfX p fs.length s.x=true:=by grind[Ve]
   split at h
   ·refine VN hR r (i+1) (fs++[f]) F (qy hw) (by simp[hl]) ⟨FT hi.ins (ve hR hi.ins _ _ hx hf),λs hs=>?_⟩ h
    rcases List.mem_append.1 hs with q |q<;>try exact hi.ord s q
    rw[List.mem_singleton.1 q];exact Je hR hi.sub hx hf
   ·cases h
theorem BOk.fok{p:Pr}{F:List Sp}(h:BOk p F):FOk F:=VN h.res.rng p.stmts 0 [] F h.res.wf rfl ⟨λs hs=>by simp at hs,λs hs=>by simp at hs⟩ h.run
theorem MC{p:Pr}:∀(r:List Sm) (fs F:List Sp),bU p r fs = .ok F->∃t,F=fs++t
 | [],fs,F,h=>by rw[bU]at h;simp_all
 |s::r,fs,F,h=>by
  rw[bU]at h
  cases hf:dE p fs s.x with
  |error e'=>simp_all
  |ok f=>
   rw[hf]at h
   simp only at h
   split at h
   ·obtain⟨t,rfl⟩:=MC r _ F h;simp
   ·cases h
theorem Jf{p:Pr}{F:List Sp}(h:bU p p.stmts [] = .ok F):∀i,i<=p.stmts.length->bU p (p.stmts.drop i) (F.take i) = .ok F/\(F.take i).length=i
 | 0,_=>by simpa using h
 |i+1,hi=>by
  obtain⟨h1,h2⟩:=Jf h i (by omega)
  have hd:p.stmts.drop i=p.stmts[i]::p.stmts.drop (i+1):=List.drop_eq_getElem_cons (by omega)
  rw[hd,bU]at h1
  cases hf:dE p (F.take i) p.stmts[i].x with
  |error e'=>simp_all
  |ok f=>
   rw[hf]at h1
   simp only at h1
   split at h1<;>try(cases h1)
   obtain⟨t,ht⟩:=MC _ _ _ h1
   have e:F.take (i+1)=F.take i++[f]:=by
    have:F.take (i+1)=(F.take i++[f]++t).take (i+1):=by rw[<-ht]
    rw[this,List.take_append_of_le_length (by simp[h2])]
    exact List.take_of_length_le (by simp[h2])
   rw[e];exact⟨h1,by simp[h2]⟩
theorem Jg{p:Pr}:∀(r:List Sm) (k i:Nat),vg p k r=true->vg p (k+i) (r.drop i)=true
 |r,k,0,h=>by simpa using h
 | [],k,i+1,_=>by simp[vg]
 |s::r,k,i+1,h=>by
  have:=Jg r (k+1) i (qy h)
  grind
structure zam(p:Pr)(F:List Sp)(i:Nat)(s:Sm):Prop where
 lt:i<F.length
 run:dE p (F.take i) s.x = .ok (F.getD i (0,0))
 win:within p s (F.getD i (0,0))=true
 wf:wfS p i s=true
 len:(F.take i).length=i
theorem Rn{p:Pr}{F:List Sp}{i:Nat}{s:Sm}{r:List Sm}(h:BOk p F)(hd:p.stmts.drop i=s::r):zam p F i s:=by
 have hi:i<p.stmts.length:=by
  grind[List.drop_eq_nil_iff]
 obtain⟨h1,h2⟩:=Jf h.run i (by omega)
 have hw:=Jg p.stmts 0 i h.res.wf
 rw[hd,Nat.zero_add]at hw
 rw[hd,bU]at h1
 cases hf:dE p (F.take i) s.x with
 |error e'=>simp_all
 |ok f=>
  rw[hf]at h1
  simp only at h1
  split at h1<;>try(cases h1)
  obtain⟨t,ht⟩:=MC _ _ _ h1
  have hl:i<F.length:=by grind
  have e:F.getD i (0,0)=f:=by
   grind
  refine⟨hl,by rw[e];exact hf,by grind,?_,h2⟩
  simp[vg]at hw;exact hw.1
theorem Ec{s:Str}:∀(l:List Sm) (i:Int),0<=i->0<=aG s l i->i<=aG s l i/\((l.getD (aG s l i-i).toNat Sm.none).kind==1)=true
 | [],i,_,h=>by simp[aG]at h
 |x::r,i,hi,h=>by
  simp only[aG]at h ⊢
  split
  ·simp_all
  ·rename_i hq
   rw[if_neg hq]at h
   obtain⟨a,b⟩:=Ec r (i+1) (by omega) h
   refine⟨by omega,?_⟩
   rw[show(aG s r (i+1)-i).toNat=(aG s r (i+1)-(i+1)).toNat+1 by omega];exact b
end Go.Fw.Rg
