/- A part of the proof. -/
import Derived.Test.YtgehpmgkaeohaaaGreatDoorZRA
import Derived.Test.YtgehpmgkaeohaaaGreatDoorZPX
set_option linter.all false
namespace Go.Fw.Rg
open Go.Fw Go.Fw.Ref15
variable [ae]
structure iE(p:Pr):Prop where
 sm:p.Small
 hn:∀s∈p.stmts,Ref15.nodes s.x<=1073741824
 hT:∀t∈p.tables,t.values.length<=1073741824
theorem iE.hl{p:Pr}(g:iE p):p.stmts.length<=1073741824:=by have:=g.sm.stmts;omega
def resE(p:Pr):Int:=if(Nam.resolveC p).2 != 0 then(Nam.resolveC p).2 else if sJ p (Nam.resolveC p).1 then 0 else 150
theorem Wp{s:Str}:∀{l:List Str} (i:Int),aX s l i<i+l.length\/aX s l i = -1
 | [],i=>.inr rfl
 |x::r,i=>by
  simp[aX]
  split
  ·grind
  ·rcases Wp (s:=s) (l:=r) (i+1)with h |h<;>grind
theorem qX{s:Str}{l:List Str}(h:0<=find l s):find l s<l.length:=by
 rcases Wp (s:=s) (l:=l) 0 with q |q<;>grind[find]
theorem PQ{s:Str}:∀{l:List Sm} (i:Int),aA s l i<i+l.length\/aA s l i = -1
 | [],i=>.inr rfl
 |x::r,i=>by
  simp[aA]
  split
  ·grind
  ·rcases PQ (s:=s) (l:=r) (i+1)with h |h<;>grind
theorem Wq{p:Pr}{s:Str}{b:Nat}(h:0<=given p s b):given p s b<b:=by
 rcases PQ (s:=s) (l:=p.stmts.take b) 0 with q |q<;>grind[given]
theorem BK:∀{l:List Ex},formeds l=true->∀y∈l,formed y=true
 |x::r,h,y,hy=>by
  simp[formeds]at h
  rcases List.mem_cons.1 hy with rfl |hy
  ·exact h.1
  ·exact BK h.2 y hy
theorem yI:∀{l:List Ex},qU l=true->∀y∈l,numbers y=true
 |x::r,h,y,hy=>by
  simp[qU]at h
  rcases List.mem_cons.1 hy with rfl |hy
  ·exact h.1
  ·exact yI h.2 y hy
theorem oO{p:Pr}{b:Nat}:∀{l:List Ex},dL p b l=(l,true)->∀y∈l,bJ p b y=(y,true)
 |x::r,h,y,hy=>by
  simp[dL]at h
  rcases List.mem_cons.1 hy with rfl |hy
  ·grind
  ·exact oO (Prod.ext h.1.2 h.2.2) y hy
theorem Ws{p:Pr}{n:Nat}:∀{l:List Ex},(∀y∈l,wfX p n y=true)->wfL p n l=true
 | [],_=>rfl
 |x::r,h=>by
  simp[wfL]
  exact⟨h x (by simp),Ws λy hy=>h y (by simp[hy])⟩
theorem Nc{k:Int}(h:0<=Ref15.parts k):1<=k/\k<=19:=by
 grind[Ref15.parts]
theorem zh3{p:Pr}(ht:p.tables.all lu=true)(b:Nat):∀x:Ex,formed x=true->numbers x=true->bJ p b x=(x,true)->wfX p b x=true:=by
 refine Ex.ind λx ih hf hn hr=>?_
 rw[formed_eq]at hf
 rw[Ez]at hn
 rw[oI]at hr
 simp at hf hn
 obtain⟨⟨⟨⟨f1,f2⟩,f3⟩,f4⟩,f5⟩:=hf
 obtain⟨⟨n1,n2⟩,n3⟩:=hn
 rw[PD]
 have hk:=Nc (k:=x.kind) (by omega)
 simp only[Bool.and_eq_true,beq_iff_eq]
 refine⟨⟨f1,?_⟩,?_⟩
 ·by_cases hN:(named x.kind&&x.kind != 8&&x.kind != 9)=true
  ·rw[if_pos hN]at hr
   rw[value]at hr
   simp only at hr
   split at hr
   ·split at hr
    ·have e1:x.kind=5:=congrArg (λq=>q.1.kind) hr.symm
     have e2:given p x.name b=x.index:=congrArg (λq=>q.1.index) hr
     have e3:decide (given p x.name b>=0)=true:=congrArg Prod.snd hr
     have e3:=of_decide_eq_true e3
     have e4:=Wq (b:=b) e3
     rw[uk,e1]
     simp_all
    ·have e1:x.kind=4:=congrArg (λq=>q.1.kind) hr.symm
     have e2:find (bounds p.states) x.name=x.index:=congrArg (λq=>q.1.index) hr
     have e3:decide (find (bounds p.states) x.name>=0)=true:=congrArg Prod.snd hr
     have e3:=of_decide_eq_true e3
     have e4:=qX e3
     rw[uk,e1]
     rw[e2]at e3 e4;simp only[bounds,List.length_map]at e4
     simp_all
   ·have e1:x.kind=3:=congrArg (λq=>q.1.kind) hr.symm
    have e2:find (bounds p.params) x.name=x.index:=congrArg (λq=>q.1.index) hr
    have e3:decide (find (bounds p.params) x.name>=0)=true:=congrArg Prod.snd hr
    have e3:=of_decide_eq_true e3
    have e4:=qX e3
    rw[uk,e1]
    rw[e2]at e3 e4;simp only[bounds,List.length_map]at e4
    simp_all
  ·rw[if_neg hN]at hr
   have e2:lw p x=x.index:=congrArg (λq=>q.1.index) hr
   have e3:(decide (lw p x>=0)&&(dL p b x.l).2)=true:=congrArg Prod.snd hr
   simp only[Bool.and_eq_true,decide_eq_true_eq]at e3
   have e3:=e3.1
   rw[lw]at e2 e3
   rw[uk]
   rcases Nam.kinds_cases hk with h |h |h |h |h |h |h |h |h |h |h |h |h |h |h |h |h |h |h<;>rw[h]at hN n2 e2 e3 ⊢ <;> first
    |exact absurd (by decide) hN
    |rfl
    |skip
   ·simp;omega
   ·grind[qX,Ref15.lines,List.length_map]
   ·simp only[(by decide:((9:Int)==9)=true),if_true]at e2 e3
    have e4:=qX e3
    rw[e2]at e3 e4;simp only[Ref15.tables,List.length_map]at e4
    have hm:p.tables.getD x.index.toNat Tb.none∈p.tables:=by
     simp_all
    have hq:=List.all_eq_true.1 ht _ hm
    simp only[lu,Bool.not_eq_true',Bool.or_eq_false_iff,decide_eq_false_iff_not]at hq
    grind
   simp_all
 ·refine Ws λy hy=>ih y hy (BK f5 y hy) (yI n3 y hy) ?_
  by_cases hN:(named x.kind&&x.kind != 8&&x.kind != 9)=true
  ·exfalso
   have:Ref15.parts x.kind=0:=by
    simp only[named,Bool.and_eq_true,bne_iff_ne]at hN
    rcases Nam.kinds_cases hk with h |h |h |h |h |h |h |h |h |h |h |h |h |h |h |h |h |h |h<;>rw[h]at hN ⊢ <;> first |rfl |(exfalso;simp at hN;done)
   simp_all
  ·rw[if_neg hN]at hr
   have e1:(dL p b x.l).1=x.l:=congrArg (λq=>q.1.l) hr
   have e3:(decide (lw p x>=0)&&(dL p b x.l).2)=true:=congrArg Prod.snd hr
   simp only[Bool.and_eq_true]at e3
   grind[oO,Prod.ext]
theorem GN{p:Pr}{s:Sm}{r l:List Sm}{i:Nat}{out:Bool}(h:dN p (s::r) i out = .ok l):(bJ p i s.x).2=true/\0<=cu p s/\again p i s=false/\∃t,dN p r (i+1) (s.kind==4) = .ok t/\l=⟨s.kind,s.name,cu p s,(bJ p i s.x).1⟩::t:=by
 rw[dN]at h
 grind
theorem PR{p:Pr}(ht:p.tables.all lu=true):∀(r:List Sm) (i:Nat) (out:Bool),r.all stmtOk=true->(r.all λs=>numbers s.x)=true->dN p r i out = .ok r->vT p i r=true
 | [],_,_,_,_,_=>rfl
 |s::r,i,out,h1,h2,h3=>by
  simp only[List.all_cons,Bool.and_eq_true]at h1 h2
  obtain⟨g1,g2,_,t,g3,g4⟩:=GN h3
  simp at g4
  obtain⟨g4,rfl⟩:=g4
  have e1:cu p s=s.index:=congrArg Sm.index g4.symm
  have e2:(bJ p i s.x).1=s.x:=congrArg Sm.x g4.symm
  simp only[vT,wfS,Bool.and_eq_true]
  have hf:formed s.x=true:=by
   grind[stmtOk,Bool.not_eq_true',Bool.not_eq_false']
  refine⟨⟨zh3 ht i s.x hf h2.1 (Prod.ext e2 g1),?_,?_⟩,PR ht r (i+1) _ h1.2 h2.2 g3⟩
  ·cases hk:s.kind==2 with
   |false=>rfl
   |true=>
    have:s.kind=2:=by simpa using hk
    rw[cu,this]at e1 g2
    grind[qX,bounds,List.length_map]
  ·cases hk:s.kind==3 with
   |false=>rfl
   |true=>
    have:s.kind=3:=by simpa using hk
    rw[cu,this]at e1 g2
    grind[qX,Ref15.lines,List.length_map]
theorem btw{lo hi:Int}(h:between lo hi=true):-2147483648<=lo/\lo<=hi/\hi<=2147483647:=by
 simp[between]at h;omega
theorem zea{p:Pr}(h:ranged p=true):Rng p:=by
 simp[ranged]at h
 obtain⟨⟨⟨⟨h1,h2⟩,h3⟩,h4⟩,_⟩:=h
 exact⟨λb hb=>btw (h1 b hb),λb hb=>btw (h2 b hb),λb hb=>btw (h3 b hb),λt ht v hv=>by have:=btw (h4 t ht v hv);omega⟩
structure Res(p:Pr):Prop where
 fo:Formed p=true
 li:limited p=true
 nm:qw p.name=true
 dn:(eu p).all qw=true
 un:iV (eu p) (eu p) 0=true
 ra:ranged p=true
 ru:dN p p.stmts 0 false = .ok p.stmts
variable {p : Pr}
theorem AO{e:Except Int (List Sm)}(h:Ref15.fin p [] e=(p,0))(hne:∀n,e = .error n->n≠0):e = .ok p.stmts:=by
 cases e with
 |error n=>exact absurd (congrArg Prod.snd h) (hne n rfl)
 |ok l=>
  have:=congrArg (λq=>q.1.stmts) h
  simp[Ref15.fin]at this
  rw[this]
theorem Wu:∀(r:List Sm) (i:Nat) (out:Bool) (n:Int),dN p r i out = .error n->n≠0
 | [],i,out,n,h=>by
  grind[dN]
 |s::r,i,out,n,h=>by
  rw[dN]at h
  split at h<;>try(cases h;decide)
  split at h<;>try(cases h;decide)
  split at h
  ·cases h;decide
  ·split at h
   ·rename_i q
    cases h
    exact Wu r _ _ _ q
   ·cases h
theorem Wv:Resolve p=(p,0)↔Res p:=by
 constructor
 ·intro h
  have h0:=congrArg Prod.snd h
  rw[Resolve]at h h0
  split at h
  ·simp_all
  ·rename_i q1;split at h
   ·simp_all
   ·rename_i q2;split at h
    ·simp_all
    ·rename_i q3;split at h
     ·simp_all
     ·rename_i q4;split at h
      ·simp_all
      ·rename_i q5;split at h
       ·simp_all
       ·rename_i q6
        exact⟨by simpa using q1,by simpa using q2,by simpa using q3,by simpa using q4,by simpa using q5,by simpa using q6,AO h (Wu _ _ _)⟩
 ·intro h
  rw[Resolve,h.fo,h.li,h.nm,h.dn,h.un,h.ra,h.ru]
  simp[Ref15.fin]
theorem Res.tb(h:Res p):p.tables.all lu=true:=by
 have:=h.li;rw[limited_eq]at this;simp_all
theorem Res.rng(h:Res p):Rng p:=zea h.ra
theorem Res.wf(h:Res p):vT p 0 p.stmts=true:=by
 refine PR h.tb _ _ _ h.fo ?_ h.ru
 have:=h.ra;simp only[ranged,Bool.and_eq_true]at this;exact this.2
theorem Jy(h:resE p=0):Nam.resolveC p=(p,0):=by
 grind[resE,iW]
theorem GR(h:resE p=0):Res p:=Wv.1 (by rw[<-Nam.resolve_same];exact Jy h)
theorem PS(h:Res p):resE p=0:=by
 have:=Wv.2 h
 rw[<-Nam.resolve_same]at this
 rw[resE,this]
 simp[(iW p p).2 rfl]
end Go.Fw.Rg
namespace Go.Fw
def lkI(k:Int):List (Int×Int)->Option Int
 | []=>none
 |(a,v)::r=>if k==a then some v else lkI k r
abbrev iiC(q:Int×Int):D×D:=(.i q.1,.i q.2)
theorem Wx(a b:Int):dC (.i a) (.i b)=(a==b):=rfl
theorem GU(k:Int):∀l:List (Int×Int),nV (.i k) (l.map iiC)=(lkI k l).map .i
 | []=>rfl
 |(a,v)::r=>by
  simp only[List.map_cons,nV,Wx,lkI]
  cases k==a with
  |true=>rfl
  |false=>exact GU k r
theorem Wy[ae]{k:Int}{l:List (Int×Int)}{M:List (D×D)}{f:D->Prop}{g:Prop}(hM:M=l.map iiC)(h1:∀n,lkI k l=some n->f (.i n))(h2:lkI k l=none->g):rH (nV (.i k) M) f g:=by
 cases hk:lkI k l with
 |none=>grind[Nam.opt_none,GU]
 |some n=>grind[Nam.opt_some,GU]
end Go.Fw
namespace Go.Fw.Rg
open Go.Fw Go.Fw.Ref15
variable [ae]
def lW:List (Int×Int):=[(1,0),(3,0),(4,0),(5,0),(6,1),(7,1),(8,1),(9,1),(10,1),(13,1),(14,1),(18,1),(11,2),(12,2),(15,2),(16,2),(17,2),(19,4)]
def lH(p:Pr):List (Int×Int):=[(3,p.params.length),(4,p.states.length),(8,p.lines.length),(9,p.tables.length),(5,p.stmts.length)]
def zeb(p:Pr):List (Int×Int):=[(3,(p.params.map Bd.cs).length),(4,(p.states.map Bd.cs).length),(8,(p.lines.map Ln.cs).length),(9,(p.tables.map Tb.cs).length),(5,(p.stmts.map Sm.cs).length)]
theorem ZW{p:Pr}{k:Int}{M:List (D×D)}{f:D->Prop}{g:Prop}(hM:M=(zeb p).map iiC)(h1:∀n,lkI k (lH p)=some n->f (.i n))(h2:lkI k (lH p)=none->g):rH (nV (.i k) M) f g:=by
 grind[zeb,lH,Wy]
theorem zh4{p:Pr}{k m:Int}(h:lkI k (lH p)=some m)(h5:(k==5)=true):m=p.stmts.length:=by
 have:k=5:=by simpa using h5
 subst this
 exact(Option.some.inj h).symm
theorem zec{p:Pr}{k:Int}(h:lkI k (lH p)=none)(h5:(k==5)=true):False:=by
 have:k=5:=by simpa using h5
 subst this
 cases h
theorem z8q{l:List Ex}{n most:Int}{b:Bool}(h:(bif ((Ex.css l).length:Int) != n then true else decide (most<1))=b):(bif (l.length:Int) != n then true else decide (most<1))=b:=by grind[Ex.css_len]
def inM(i:Int):Option Int->Bool
 |none=>true
 |some m=>!(bif decide (i<0)then true else decide (i>=m))
theorem PT{i m:Int}{b:Bool}(h:(bif decide (i<0)then true else decide (i>=m))=b):inM i (some m) = !b:=by rw[inM,h]
def ok0(p:Pr)(k i m:Int):Bool:=if k==1 then(bif decide (0<=m)then decide (m<=2147483648)else false)else if k==18 then(bif decide (1<=m)then decide (m<=2147483648)else false)else if k==5 then(p.stmts.getD i.toNat Sm.none).kind==1 else true
mutual
def fB(p:Pr):Ex->Int->Int×Bool
 | .mk k _ i m l,most=>match lkI k lW with
  |none=>(0,false)
  |some need=>if(bif (l.length:Int) != need then true else decide (most<1))=true then(0,false)else if inM i (lkI k (lH p))=false then(0,false)else jv p l most 1 (ok0 p k i m)
def jv(p:Pr):List Ex->Int->Int->Bool->Int×Bool
 | [],_,n,ok=>(n,ok)
 |y::r,most,n,ok=>if(!(bif ok then(fB p y (most-n)).2 else false))=true then(0,false)else jv p r most (n+(fB p y (most-n)).1) (bif ok then(fB p y (most-n)).2 else false)
end
theorem vX(p:Pr)(x:Ex)(most:Int):fB p x most=match lkI x.kind lW with
  |none=>(0,false)
  |some need=>if(bif (x.l.length:Int) != need then true else decide (most<1))=true then(0,false)else if inM x.index (lkI x.kind (lH p))=false then(0,false)else jv p x.l most 1 (ok0 p x.kind x.index x.n):=by cases x;rfl
theorem xK{p:Pr}{x:Ex}{most:Int}(h:lkI x.kind lW=none):fB p x most=(0,false):=by rw[vX,h]
theorem xM{p:Pr}{x:Ex}{most need:Int}(h:lkI x.kind lW=some need)(h2:(bif (x.l.length:Int) != need then true else decide (most<1))=true):fB p x most=(0,false):=by
 rw[vX];simp_all
theorem GV{p:Pr}{x:Ex}{most need:Int}(h:lkI x.kind lW=some need)(h2:(bif (x.l.length:Int) != need then true else decide (most<1))=false)(h3:inM x.index (lkI x.kind (lH p))=false):fB p x most=(0,false):=by
 rw[vX];simp_all
theorem xN{p:Pr}{x:Ex}{most need:Int}(h:lkI x.kind lW=some need)(h2:(bif (x.l.length:Int) != need then true else decide (most<1))=false)(h3:inM x.index (lkI x.kind (lH p))=true):fB p x most=jv p x.l most 1 (ok0 p x.kind x.index x.n):=by
 rw[vX];grind
theorem z8r{l:List Ex}{nd most:Int}(h:(bif ((Ex.css l).length:Int) != nd then true else decide (most<1))=false):1<=most:=by
 simp_all
theorem SQ{p:Pr}{x:Ex}{most nd:Int}{o:Option Int}{b:Bool}(hnd:lkI x.kind lW=some nd)(hmd:lkI x.kind (lH p)=o)(h:(bif ((Ex.css x.l).length:Int) != nd then true else decide (most<1))=false)(h2:inM x.index o=true)(h3:ok0 p x.kind x.index x.n=b):fB p x most=jv p x.l most 1 b:=by
 rw[xN hnd (z8q h) (by simp_all),h3]
theorem ZX{p:Pr}{x:Ex}{most nd:Int}{o:Option Int}(hnd:lkI x.kind lW=some nd)(hmd:lkI x.kind (lH p)=o)(h:(bif ((Ex.css x.l).length:Int) != nd then true else decide (most<1))=false)(h2:inM x.index o=false):fB p x most=(0,false):=by
 rw[GV hnd (z8q h) (by simp_all)]
theorem zh5{p:Pr}{k i m:Int}(h:(k==1)=true):ok0 p k i m=(bif decide (0<=m)then decide (m<=2147483648)else false):=by simp[ok0,h]
theorem zh6{p:Pr}{k i m:Int}(h:(k==1)=false)(h2:(k==18)=true):ok0 p k i m=(bif decide (1<=m)then decide (m<=2147483648)else false):=by simp[ok0,h,h2]
theorem zh7{p:Pr}{k i m:Int}(h:(k==1)=false)(h2:(k==18)=false)(h3:(k==5)=true):ok0 p k i m=((p.stmts.getD i.toNat Sm.none).kind==1):=by simp[ok0,h,h2,h3]
theorem zh8{p:Pr}{k i m:Int}(h:(k==1)=false)(h2:(k==18)=false)(h3:(k==5)=false):ok0 p k i m=true:=by simp[ok0,h,h2,h3]
theorem zjg{p:Pr}{k i m:Int}(h:lkI k (lH p)=some m)(h5:(k==5)=true)(h2:(bif decide (i<0)then true else decide (i>=m))=false):0<=i/\i<p.stmts.length:=by
 grind[zh4]
theorem oP{p:Pr}{y:Ex}{r:List Ex}{most n:Int}{ok:Bool}(h:(!(bif ok then(fB p y (most-n)).2 else false))=true):jv p (y::r) most n ok=(0,false):=by rw[jv,if_pos h]
theorem vY{p:Pr}{y:Ex}{r:List Ex}{most n:Int}{ok:Bool}(h:(!(bif ok then(fB p y (most-n)).2 else false))=false):jv p (y::r) most n ok=jv p r most (n+(fB p y (most-n)).1) (bif ok then(fB p y (most-n)).2 else false):=by rw[jv,if_neg (by rw[h];decide)]
theorem zjh{b c:Bool}(h:(!(bif b then c else false))=false):b=true/\c=true:=by simp_all
theorem PU(p:Pr):∀(x:Ex) (most:Int),most<=512->0<=(fB p x most).1/\(fB p x most).1<=512/\((fB p x most).2=true->1<=(fB p x most).1/\(fB p x most).1<=most):=by
 refine Ex.ind λx ih most hm=>?_
 have hL:∀(l:List Ex),(∀y∈l,y∈x.l)->∀(n:Int) (ok:Bool),1<=n->n<=most->0<=(jv p l most n ok).1/\(jv p l most n ok).1<=512/\((jv p l most n ok).2=true->1<=(jv p l most n ok).1/\(jv p l most n ok).1<=most):=by
  intro l
  induction l with
  |nil=>grind[jv]
  |cons y r ihr=>
   intro hl n ok h1 h2
   cases hb:!(bif ok then(fB p y (most-n)).2 else false)with
   |true=>rw[oP hb];simp
   |false=>
    rw[vY hb]
    obtain⟨a,b⟩:=zjh hb
    have:=ih y (hl y (by simp)) (most-n) (by omega)
    have h3:=this.2.2 b
    exact ihr (λz hz=>hl z (by simp[hz])) _ _ (by omega) (by omega)
 cases h:lkI x.kind lW with
 |none=>rw[xK h];simp
 |some need=>
  cases h2:(bif (x.l.length:Int) != need then true else decide (most<1))with
  |true=>rw[xM h h2];simp
  |false=>
   cases h3:inM x.index (lkI x.kind (lH p))with
   |false=>rw[GV h h2 h3];simp
   |true=>
    rw[xN h h2 h3]
    have:1<=most:=by
     simp_all
    exact hL x.l (λ_ h=>h) 1 _ (Int.le_refl _) this
def lI(k:Int):Int:=
 if k==1 || k==3 || k==4 || k==5 then 0
 else if k==6 || k==7 || k==8 || k==9 || k==10 || k==13 || k==14 || k==18 then 1
 else if k==11 || k==12 || k==15 || k==16 || k==17 then 2
 else if k==19 then 4 else -1
def yX(p:Pr)(x:Ex):Bool:=
 if((x.l.length:Int) != lI x.kind)=true then false
 else if x.kind==1 then(bif decide (x.n>=0)then decide (x.n<=2147483648)else false)
 else if x.kind==18 then(bif decide (x.n>=1)then decide (x.n<=2147483648)else false)
 else if x.kind==3 then(bif decide (x.index>=0)then decide (x.index<p.params.length)else false)
 else if x.kind==4 then(bif decide (x.index>=0)then decide (x.index<p.states.length)else false)
 else if x.kind==8 then(bif decide (x.index>=0)then decide (x.index<p.lines.length)else false)
 else if x.kind==9 then(bif decide (x.index>=0)then decide (x.index<p.tables.length)else false)
 else if x.kind==5 then(bif (bif decide (x.index>=0)then decide (x.index<p.stmts.length)else false)then(p.stmts.getD x.index.toNat Sm.none).kind==1 else false)
 else true
mutual
def sK(p:Pr):Ex->Int->Int
 | .mk k nm i m l,most=>if(bif decide (most<1)then true else !yX p (.mk k nm i m l))=true then -1 else fD p l most 1
def fD(p:Pr):List Ex->Int->Int->Int
 | [],_,n=>n
 |y::r,most,n=>if sK p y (most-n)<0 then -1 else fD p r most (n+sK p y (most-n))
end
theorem vZ(p:Pr)(x:Ex)(most:Int):sK p x most=if(bif decide (most<1)then true else !yX p x)=true then -1 else fD p x.l most 1:=by cases x;rfl
theorem WA(p:Pr):∀(x:Ex) (most:Int),sK p x most = -1\/(1<=sK p x most/\sK p x most<=most):=by
 refine Ex.ind λx ih most=>?_
 have hL:∀(l:List Ex),(∀y∈l,y∈x.l)->∀(n:Int),1<=n->n<=most->fD p l most n = -1\/(1<=fD p l most n/\fD p l most n<=most):=by
  intro l
  induction l with
  |nil=>grind[fD]
  |cons y r ihr=>
   intro hl n h1 h2
   rw[fD]
   grind
 rw[vZ]
 grind
theorem EK(k:Int):lkI k lW=if lI k<0 then none else some (lI k):=by
 by_cases hk:1<=k/\k<=19
 ·rcases Nam.kinds_cases hk with h |h |h |h |h |h |h |h |h |h |h |h |h |h |h |h |h |h |h<;>subst h<;>rfl
 ·have h1:∀n:Int,1<=n->n<=19->(k==n)=false:=λn a b=>by
   grind
  simp[lI,lkI,lW,h1]
theorem own_fits{p:Pr}{x:Ex}{most:Int}(hm:1<=most):(∃n,lkI x.kind lW=some n/\(bif (x.l.length:Int) != n then true else decide (most<1))=false/\inM x.index (lkI x.kind (lH p))=true/\ok0 p x.kind x.index x.n=true)↔yX p x=true:=by
 have hm':decide (most<1)=false:=by simp;omega
 rw[hm',EK]
 by_cases hk:1<=x.kind/\x.kind<=19
 ·rcases Nam.kinds_cases hk with h |h |h |h |h |h |h |h |h |h |h |h |h |h |h |h |h |h |h<;>rw[yX,h]<;>simp[lI,inM,lH,lkI,ok0]<;>(try omega)
 ·have h1:∀n:Int,1<=n->n<=19->(x.kind==n)=false:=λn a b=>by
   grind
  have:lI x.kind = -1:=by simp[lI,h1]
  grind[yX]
theorem EL(p:Pr):∀(x:Ex) (most:Int),((fB p x most).2=true->sK p x most=(fB p x most).1)/\((fB p x most).2=false->sK p x most = -1):=by
 refine Ex.ind λx ih most=>?_
 have hL:∀(l:List Ex),(∀y∈l,y∈x.l)->∀(n:Int),((jv p l most n true).2=true->fD p l most n=(jv p l most n true).1)/\((jv p l most n true).2=false->fD p l most n = -1):=by
  intro l
  induction l with
  |nil=>intro _ n;rw[jv,fD];simp
  |cons y r ihr=>
   intro hl n
   have:=ih y (hl y (by simp)) (most-n)
   rw[fD]
   cases hb:(fB p y (most-n)).2 with
   |false=>
    rw[oP (by rw[hb];rfl),this.2 hb]
    simp
   |true=>
    rw[vY (by rw[hb];rfl),this.1 hb,hb]
    split
    ·have hq:∀z:Ex,∀m,(fB p z m).2=true->1<=(fB p z m).1:=by
      refine Ex.ind λz ihz m hz=>?_
      have hLL:∀(l:List Ex),(∀y∈l,y∈z.l)->∀(n:Int) (ok:Bool),1<=n->(jv p l m n ok).2=true->1<=(jv p l m n ok).1:=by
       intro l
       induction l with
       |nil=>grind[jv]
       |cons y r ihr=>
        intro hl n ok h1 h2
        cases hb:!(bif ok then(fB p y (m-n)).2 else false)with
        |true=>rw[oP hb]at h2;simp_all
        |false=>
         rw[vY hb]at h2 ⊢
         grind
      rw[vX]at hz ⊢
      grind
     grind
    simp_all
 rw[vZ]
 by_cases hm:most<1
 ·have hf:fB p x most=(0,false):=by
   cases h:lkI x.kind lW with
   |none=>exact xK h
   |some n=>grind[xM]
  simp_all
 ·have hm':1<=most:=by omega
  rw[decide_eq_false hm]
  cases ho:yX p x with
  |true=>
   obtain⟨n,h1,h2,h3,h4⟩:=(own_fits hm').2 ho
   rw[xN h1 h2 h3,h4]
   simp_all
  |false=>
   have hn:¬∃n,lkI x.kind lW=some n/\(bif (x.l.length:Int) != n then true else decide (most<1))=false/\inM x.index (lkI x.kind (lH p))=true/\ok0 p x.kind x.index x.n=true:=by
    rw[own_fits hm',ho];simp
   refine⟨λh=>?_,λ_=>rfl⟩
   cases h1:lkI x.kind lW with
   |none=>rw[xK h1]at h;simp_all
   |some n=>
    cases h2:(bif (x.l.length:Int) != n then true else decide (most<1))with
    |true=>rw[xM h1 h2]at h;simp_all
    |false=>
     cases h3:inM x.index (lkI x.kind (lH p))with
     |false=>rw[GV h1 h2 h3]at h;simp_all
     |true=>
      rw[xN h1 h2 h3]at h
      have h4:ok0 p x.kind x.index x.n=false:=by
       simp_all
      rw[h4]at h
      cases hl:x.l with
      |nil=>rw[hl,jv]at h;simp_all
      |cons y r=>rw[hl,oP rfl]at h;simp_all
theorem z8s{p:Pr}(ht:p.tables.all lu=true):∀(x:Ex) (most:Int),(fB p x most).2=true->wfX p p.stmts.length x=true:=by
 refine Ex.ind λx ih most h=>?_
 have hm:1<=most:=by
  rcases WA p x most with q |q<;>try omega
  have:=(EL p x most).1 h
  rw[vZ]at q this
  split at q
  ·rename_i hq
   cases hc:decide (most<1)with
   |false=>simpa using hc
   |true=>
    have hf:fB p x most=(0,false):=by
     cases h:lkI x.kind lW with
     |none=>exact xK h
     |some n=>grind[xM]
    simp_all
  simp_all
 have ho:yX p x=true:=by
  cases ho:yX p x with
  |true=>rfl
  |false=>
   exfalso
   cases h1':lkI x.kind lW with
   |none=>rw[xK h1']at h;simp_all
   |some n=>
    cases h2':(bif (x.l.length:Int) != n then true else decide (most<1))with
    |true=>rw[xM h1' h2']at h;simp_all
    |false=>
     cases h3':inM x.index (lkI x.kind (lH p))with
     |false=>rw[GV h1' h2' h3']at h;simp_all
     |true=>
      cases h4:ok0 p x.kind x.index x.n with
      |true=>have:=(own_fits hm).1 ⟨n,h1',h2',h3',h4⟩;simp_all
      |false=>
       rw[xN h1' h2' h3',h4]at h
       cases hl:x.l with
       |nil=>rw[hl,jv]at h;simp_all
       |cons y r=>rw[hl,oP rfl]at h;simp_all
 obtain⟨n,h1,h2,h3,h4⟩:=(own_fits hm).2 ho
 rw[xN h1 h2 h3,h4]at h
 have hL:∀(l:List Ex),(∀y∈l,y∈x.l)->∀(n:Int) (ok:Bool),(jv p l most n ok).2=true->wfL p p.stmts.length l=true:=by
  intro l
  induction l with
  |nil=>intro _ n ok _;rfl
  |cons y r ihr=>
   intro hl n ok h
   cases hb:!(bif ok then(fB p y (most-n)).2 else false)with
   |true=>rw[oP hb]at h;simp_all
   |false=>
    rw[vY hb]at h
    simp only[wfL,Bool.and_eq_true]
    grind
 rw[PD,hL x.l (λ_ h=>h) _ _ h,Bool.and_true]
 rw[EK]at h1
 have hne:∀i:Int,0<=i->i<p.tables.length->(aJ p i==[])=false:=by
  intro i h0 h1
  have hm:p.tables.getD i.toNat Tb.none∈p.tables:=by
   simp_all
  have hq:=List.all_eq_true.1 ht _ hm
  simp only[lu,Bool.not_eq_true',Bool.or_eq_false_iff]at hq
  grind
 by_cases hk:1<=x.kind/\x.kind<=19
 ·rw[yX]at ho
  rcases Nam.kinds_cases hk with h |h |h |h |h |h |h |h |h |h |h |h |h |h |h |h |h |h |h<;>rw[h]at ho ⊢ <;> simp[lI,Ref15.parts,uk]at ho ⊢ <;> first
   |exact ho
   |omega
   |simp_all
   |simp_all
   |exact ho.2.1
   |simp_all
   |simp_all
   |simp_all
 ·have h1':∀n:Int,1<=n->n<=19->(x.kind==n)=false:=λn a b=>by
   grind
  have:lI x.kind = -1:=by simp[lI,h1']
  simp_all
end Go.Fw.Rg
namespace Go.Fw.Rg
open Go.Fw Go.Fw.Ref15
variable [ae] {k i m : Int} {p : Pr} {n : Nat}
def zj8:Except Int Sp->D
 | .ok s=>.tuple [.i s.1,.i s.2,.i 0]
 | .error e=>.tuple [.i 0,.i 0,.i e]
theorem z3z(h:uk p n k i m=true)(hk:(k==3)=true):0<=i/\i<p.params.length:=by
 have:k=3:=by simpa using hk
 subst this
 have h:(decide (0<=i)&&decide (i<p.params.length))=true:=h
 simpa using h
theorem WB(h:uk p n k i m=true)(hk:(k==4)=true):0<=i/\i<p.states.length:=by
 have:k=4:=by simpa using hk
 subst this
 have h:(decide (0<=i)&&decide (i<p.states.length))=true:=h
 simpa using h
theorem PV(h:uk p n k i m=true)(hk:(k==5)=true):0<=i/\i<n:=by
 have:k=5:=by simpa using hk
 subst this
 have h:(decide (0<=i)&&decide (i<n))=true:=h
 simpa using h
theorem z4a(h:uk p n k i m=true)(hk:(k==8)=true):0<=i/\i<p.lines.length:=by
 have:k=8:=by simpa using hk
 subst this
 have h:(decide (0<=i)&&decide (i<p.lines.length))=true:=h
 simpa using h
theorem zed(h:uk p n k i m=true)(hk:(k==9)=true):0<=i/\i<p.tables.length/\aJ p i ≠ []:=by
 have:k=9:=by simpa using hk
 subst this
 have h:(decide (0<=i)&&decide (i<p.tables.length) && !(aJ p i==[]))=true:=h
 simp_all
theorem z8t(h:uk p n k i m=true)(hk:(k==18)=true):1<=m:=by
 have:k=18:=by simpa using hk
 subst this
 have h:(decide (1<=m)&&decide (m<=2147483648))=true:=h
 simp_all
theorem WC(h:uk p n k i m=true)(hk:(k==9)=true):0<(aJ p i).length:=List.length_pos_iff.2 (zed h hk).2.2
theorem z8u{c:Prop}[Decidable c]{a b:Except Int Sp}{e:Int}{P:Prop}(h:(if c then a else b) = .error e)(ha:a = .error e->P)(hb:b = .error e->P):P:=by
 grind
theorem z8v{found:List Sp}:∀(x:Ex) (e:Int),dF p found x = .error e->e=160\/e=161:=by
 have hO:∀(k i m:Int) (l:List Sp) (e:Int),opM p found k i m l = .error e->e=160\/e=161:=by
  intro k i m l e h
  repeat' (refine z8u h ?_ ?_<;>(intro h))
  all_goals first
   |(cases h;done)
   |(cases h;exact .inl rfl)
   |(cases h;exact .inr rfl)
 refine Ex.ind λx ih e h=>?_
 have hL:∀(l:List Ex),(∀y∈l,y∈x.l)->∀e,dw p found l = .error e->e=160\/e=161:=by
  intro l
  induction l with
  |nil=>grind[dw]
  |cons y r ihr=>
   grind[dw]
 grind[gV]
end Go.Fw.Rg
namespace Go.Fw.Rg
open Go.Fw Go.Fw.Ref15
variable [ae]
def aN(p:Pr):List Sp×Int:=if(resE p != 0)=true then([],resE p)else match bQ p p.stmts []with
 | .ok F=>(F,0)
 | .error e=>([],e)
def GX(p:Pr)(x:Ex):Bool:=(fB p x 512).2
def gz(p:Pr)(x:Ex):Except Int Sp:=if((aN p).2 != 0)=true then .error (aN p).2 else if GX p x then dF p (aN p).1 x else .error 150
theorem qY{p:Pr}{F:List Sp}(h:resE p=0)(h2:bQ p p.stmts [] = .ok F):aN p=(F,0):=by
 have h:¬((resE p != 0)=true):=by rw[h];decide
 rw[aN,if_neg h,h2]
theorem BL{p:Pr}{e:Int}(h:resE p=0)(h2:bQ p p.stmts [] = .error e):aN p=([],e):=by
 have h:¬((resE p != 0)=true):=by rw[h];decide
 rw[aN,if_neg h,h2]
theorem qZ{p:Pr}(h:(resE p != 0)=true):aN p=([],resE p):=by rw[aN,if_pos h]
theorem z4b{p:Pr}:∀(r:List Sm) (fs:List Sp) (e:Int),bQ p r fs = .error e->e=160\/e=161
 | [],fs,e,h=>by grind[bQ]
 |s::r,fs,e,h=>by
  rw[bQ]at h
  cases hf:dF p fs s.x with
  |error e'=>grind[z8v]
  |ok f=>
   rw[hf]at h
   simp only at h
   split at h
   ·exact z4b r _ e h
   simp_all
theorem WE{p:Pr}{e:Int}(h:bQ p p.stmts [] = .error e):(e != 0)=true:=by
 grind[z4b]
structure BOk(p:Pr)(F:List Sp):Prop where
 res:Res p
 run:bQ p p.stmts [] = .ok F
 len:F.length=p.stmts.length
 ins:InS F
theorem WF{p:Pr}(hR:Rng p):∀(r:List Sm) (i:Nat) (fs F:List Sp),vT p i r=true->fs.length=i->InS fs->bQ p r fs = .ok F->F.length=i+r.length/\InS F
 | [],i,fs,F,_,hl,hi,h=>by grind[bQ]
 |s::r,i,fs,F,hw,hl,hi,h=>by
  rw[bQ]at h
  cases hf:dF p fs s.x with
  |error e'=>simp_all
  |ok f=>
   rw[hf]at h
   simp only at h
   split at h
   ·have hq:=vS hR hi _ _ (by grind[V4]) hf
    have:=WF hR r (i+1) (fs++[f]) F (qC hw) (by simp[hl]) (Gx hi hq) h
    grind
   ·cases h
theorem zee{p:Pr}{F:List Sp}(h:resE p=0)(h2:bQ p p.stmts [] = .ok F):BOk p F:=by
 have hr:=GR h
 have:=WF hr.rng p.stmts 0 [] F hr.wf rfl (λs hs=>by simp at hs) h2
 exact⟨hr,h2,by omega,this.2⟩
theorem mD{p:Pr}(h:(aN p).2=0):BOk p (aN p).1/\resE p=0:=by
 cases hz:resE p != 0 with
 |true=>grind[qZ]
 |false=>
  have hz:resE p=0:=by simpa using hz
  cases hs:bQ p p.stmts []with
  |error e=>rw[BL hz hs]at h;grind[WE]
  |ok F=>rw[qY hz hs];grind[zee]
theorem Nh(p:Pr)(x:Ex):decide (sK p x 512>0)=GX p x:=by
 have h:=EL p x 512
 have hr:=PU p x 512 (by decide)
 grind[GX]
theorem zef{p:Pr}{F:List Sp}{x:Ex}(h:BOk p F)(hx:GX p x=true):wfX p F.length x=true:=by
 rw[h.len];exact z8s h.res.tb x 512 hx
theorem z8w{p:Pr}{x:Ex}(h:((aN p).2 != 0)=true):gz p x = .error (aN p).2:=by rw[gz,if_pos h]
theorem WG{p:Pr}{x:Ex}(h:(aN p).2=0)(hx:GX p x=false):gz p x = .error 150:=by
 rw[gz,if_neg (by rw[h];decide),hx];rfl
theorem WH{p:Pr}{x:Ex}(h:(aN p).2=0)(hx:GX p x=true):gz p x=dF p (aN p).1 x:=by
 rw[gz,if_neg (by rw[h];decide),hx];rfl
theorem stmF_ok'{p:Pr}:∀(r:List Sm) (fs F:List Sp),bQ p r fs = .ok F->ig p r fs=F
 | [],fs,F,h=>by cases h;rfl
 |s::r,fs,F,h=>by
  rw[bQ]at h
  rw[ig]
  cases hf:dF p fs s.x with
  |error e'=>simp_all
  |ok f=>
   rw[hf]at h
   simp only at h ⊢
   split at h
   ·rename_i hw;rw[if_pos hw];exact stmF_ok' r _ F h
   ·cases h
theorem z8x{p:Pr}{F:List Sp}(h:bQ p p.stmts [] = .ok F):ig p p.stmts []=F:=stmF_ok' _ _ _ h
mutual
def esz:Ex->Nat
 | .mk _ nm _ _ l=>1+nm.length+z8y l
def z8y:List Ex->Nat
 | []=>0
 |x::r=>esz x+z8y r
end
theorem z4c(x:Ex):esz x=1+x.name.length+z8y x.l:=by cases x;rfl
structure zji(p:Pr):Prop where
 nm:p.name.length<=1073741824
 par:∀b∈p.params,b.name.length<=1073741824
 sta:∀b∈p.states,b.name.length<=1073741824
 lin:∀b∈p.lines,b.name.length<=1073741824
 tab:∀t∈p.tables,t.name.length<=1073741824/\t.values.length<=1073741824
 stm:∀s∈p.stmts,s.name.length<=1073741824/\esz s.x<=1048576
def PW(s' s:Sp):Prop:=s.1<=s'.1/\s'.1<=s'.2/\s'.2<=s.2
def WI(l' l:List Sp):Prop:=∀i:Nat,PW (l'.getD i (0,0)) (l.getD i (0,0))
theorem lJ{s:Sp}(h:s.1<=s.2):PW s s:=⟨Int.le_refl _,h,Int.le_refl _⟩
theorem ZY:WI [] []:=λi=>by simp[PW]
theorem WJ{a b:Sp}{l m:List Sp}(h:PW a b)(h2:WI l m):WI (a::l) (b::m):=λi=>by
 cases i with
 |zero=>exact h
 |succ i=>simpa using h2 i
theorem ul{a b x y:Int}(h1:a<=x)(h2:x<=b):(a * y<=x * y/\x * y<=b * y)\/(b * y<=x * y/\x * y<=a * y):=by
 by_cases hy:0<=y
 ·exact .inl ⟨Int.mul_le_mul_of_nonneg_right h1 hy,Int.mul_le_mul_of_nonneg_right h2 hy⟩
 simp_all
theorem z8z{a1 a2 b1 b2 x y L H:Int}(h1:a1<=x)(h2:x<=a2)(h3:b1<=y)(h4:y<=b2)(c1:L<=a1 * b1/\a1 * b1<=H)(c2:L<=a1 * b2/\a1 * b2<=H)(c3:L<=a2 * b1/\a2 * b1<=H)(c4:L<=a2 * b2/\a2 * b2<=H):L<=x * y/\x * y<=H:=by
 have e1:L<=x * b1/\x * b1<=H:=by
  rcases ul (y:=b1) h1 h2 with h |h<;>omega
 have e2:L<=x * b2/\x * b2<=H:=by
  rcases ul (y:=b2) h1 h2 with h |h<;>omega
 rcases ul (y:=x) h3 h4 with h |h<;>rw[Int.mul_comm b1,Int.mul_comm b2,Int.mul_comm y]at h<;>omega
theorem WL(a b c d:Int):Ld a b c d<=a/\Ld a b c d<=b/\Ld a b c d<=c/\Ld a b c d<=d:=by
 grind[Ld,mm2]
theorem WM(a b c d:Int):a<=Lh a b c d/\b<=Lh a b c d/\c<=Lh a b c d/\d<=Lh a b c d:=by
 grind[Lh,mm2]
theorem PX{a b c d L:Int}(h1:L<=a)(h2:L<=b)(h3:L<=c)(h4:L<=d):L<=Ld a b c d:=by
 grind[Ld,mm2]
theorem PY{a b c d H:Int}(h1:a<=H)(h2:b<=H)(h3:c<=H)(h4:d<=H):Lh a b c d<=H:=by
 grind[Lh,mm2]
theorem ZZ{a b a' b' s:Sp}(h:prodM a b = .ok s)(ha:PW a' a)(hb:PW b' b):∃s',prodM a' b' = .ok s'/\PW s' s:=by
 obtain⟨rfl,w1,w2,w3,w4⟩:=Gw h
 obtain⟨n1,n2,n3,n4⟩:=WL (a.1 * b.1) (a.1 * b.2) (a.2 * b.1) (a.2 * b.2)
 obtain⟨m1,m2,m3,m4⟩:=WM (a.1 * b.1) (a.1 * b.2) (a.2 * b.1) (a.2 * b.2)
 obtain⟨p1,p2,p3⟩:=ha
 obtain⟨q1,q2,q3⟩:=hb
 have hin:∀x y:Int,a.1<=x->x<=a.2->b.1<=y->y<=b.2->Ld (a.1 * b.1) (a.1 * b.2) (a.2 * b.1) (a.2 * b.2)<=x * y/\x * y<=Lh (a.1 * b.1) (a.1 * b.2) (a.2 * b.1) (a.2 * b.2):=λx y g1 g2 g3 g4=>z8z g1 g2 g3 g4 ⟨n1,m1⟩ ⟨n2,m2⟩ ⟨n3,m3⟩ ⟨n4,m4⟩
 have k1:=hin a'.1 b'.1 (by omega) (by omega) (by omega) (by omega)
 have k2:=hin a'.1 b'.2 (by omega) (by omega) (by omega) (by omega)
 have k3:=hin a'.2 b'.1 (by omega) (by omega) (by omega) (by omega)
 have k4:=hin a'.2 b'.2 (by omega) (by omega) (by omega) (by omega)
 have lo:-4611686018427387904<=Ld (a.1 * b.1) (a.1 * b.2) (a.2 * b.1) (a.2 * b.2):=by
  have:=dK.1 w1;have:=dK.1 w2;have:=dK.1 w3;have:=dK.1 w4
  exact PX (by omega) (by omega) (by omega) (by omega)
 have hi:Lh (a.1 * b.1) (a.1 * b.2) (a.2 * b.1) (a.2 * b.2)<=4611686018427387904:=by
  have:=dK.1 w1;have:=dK.1 w2;have:=dK.1 w3;have:=dK.1 w4
  exact PY (by omega) (by omega) (by omega) (by omega)
 refine⟨(Ld (a'.1 * b'.1) (a'.1 * b'.2) (a'.2 * b'.1) (a'.2 * b'.2),Lh (a'.1 * b'.1) (a'.1 * b'.2) (a'.2 * b'.1) (a'.2 * b'.2)),?_,?_,?_,?_⟩
 ·grind[prodM,dK]
 ·exact PX k1.1 k2.1 k3.1 k4.1
 ·exact Int.le_trans (WL _ _ _ _).1 (WM _ _ _ _).1
 ·exact PY k1.2 k2.2 k3.2 k4.2
theorem WN{a b c d a' b' c' d':Int}{s:Sp}(h:two (a+b) (c+d) = .ok s)(h1:a<=a')(h2:b<=b')(h3:c'<=c)(h4:d'<=d)(h5:a'+b'<=c'+d'):∃s',two (a'+b') (c'+d') = .ok s'/\PW s' s:=by
 obtain⟨rfl,w1,w2⟩:=BF h
 refine⟨(a'+b',c'+d'),?_,by omega,by omega,by omega⟩
 grind[two,dK]
theorem BM{a b:Int}(h:a<=b):oN a<=oN b:=by
 grind[oN]
theorem mF{t:Bool}{a b a' b':Int}(h1:a<=a')(h2:b<=b'):mm2 t a b<=mm2 t a' b':=by
 cases t<;>simp[mm2]<;>(repeat' split)<;>omega
theorem z81{a a':Sp}(h:PW a' a):PW (Ue a') (Ue a):=by
 grind[Ue,mm2,PW]
structure Nar(p' p:Pr):Prop where
 par:∀i:Nat,(p.params.getD i Bd.none).lo<=(p'.params.getD i Bd.none).lo/\(p'.params.getD i Bd.none).lo<=(p'.params.getD i Bd.none).hi/\(p'.params.getD i Bd.none).hi<=(p.params.getD i Bd.none).hi
 sta:p'.states=p.states
 lin:p'.lines=p.lines
 tab:p'.tables=p.tables
theorem PZ{p:Pr}(hR:Rng p):Nar p p:=by
 refine⟨λi=>?_,rfl,rfl,rfl⟩
 rw[List.getD_eq_getElem?_getD]
 cases h:p.params[i]? with
 |none=>simp
 |some b=>have:=hR.par b (List.mem_of_getElem? h);simp_all
theorem zeg(m:Int)(l:List Int):minL m l<=maxL m l:=Int.le_trans (Gu l m).1 (Gv l m).1
theorem WO{p p':Pr}{found found' l l':List Sp}{k i m:Int}{s:Sp}{n:Nat}(hR:Rng p)(hp:Nar p' p)(hF:WI found' found)(hl:WI l' l)(hw:uk p n k i m=true)(h:opM p found k i m l = .ok s):∃s',opM p' found' k i m l' = .ok s'/\PW s' s:=by
 have h0:=hl 0;have h1:=hl 1;have h2:=hl 2;have h3:=hl 3
 rcases kinds hw with r |r |r |r |r |r |r |r |r |r |r |r |r |r |r |r |r |r<;>subst r
 ·cases (show(Except.ok (m,m):Except Int Sp) = .ok s from h);exact⟨_,rfl,lJ (Int.le_refl _)⟩
 ·cases (show(Except.ok ((jk p i).lo,(jk p i).hi):Except Int Sp) = .ok s from h);exact⟨_,rfl,hp.par i.toNat⟩
 ·cases (show(Except.ok ((bH p i).lo,(bH p i).hi):Except Int Sp) = .ok s from h)
  refine⟨((bH p i).lo,(bH p i).hi),?_,lJ ?_⟩
  ·show(Except.ok ((bH p' i).lo,(bH p' i).hi):Except Int Sp)=_
   rw[bH,hp.sta]
  ·have hq:=WB hw rfl
   exact(hR.sta _ (getD_mem' Bd.none hq.1 hq.2)).2.1
 ·cases (show(Except.ok (found.getD i.toNat (0,0)):Except Int Sp) = .ok s from h);exact⟨_,rfl,hF i.toNat⟩
 ·have h:aheadM (l.getD 0 (0,0)) = .ok s:=h
  have hs:=nO h
  refine⟨s,?_,by grind[lJ]⟩
  show aheadM (l'.getD 0 (0,0)) = .ok s
  subst hs
  rw[aheadM]at h ⊢
  split at h
  ·cases h
  ·rename_i hq
   obtain⟨g1,g2,g3⟩:=h0
   grind
 ·have h:aheadM (l.getD 0 (0,0)) = .ok s:=h
  have hs:=nO h
  refine⟨s,?_,by grind[lJ]⟩
  show aheadM (l'.getD 0 (0,0)) = .ok s
  subst hs
  rw[aheadM]at h ⊢
  split at h
  ·cases h
  ·rename_i hq
   obtain⟨g1,g2,g3⟩:=h0
   grind
 ·cases (show(Except.ok (mm2 false (bW p i).lo 0,mm2 true (bW p i).hi 0):Except Int Sp) = .ok s from h)
  refine⟨(mm2 false (bW p i).lo 0,mm2 true (bW p i).hi 0),?_,lJ ?_⟩
  ·show(Except.ok (mm2 false (bW p' i).lo 0,mm2 true (bW p' i).hi 0):Except Int Sp)=_
   rw[bW,hp.lin]
  grind[mm2]
 ·cases (show(Except.ok (minL ((aJ p i).getD 0 0) (aJ p i),maxL ((aJ p i).getD 0 0) (aJ p i)):Except Int Sp) = .ok s from h)
  refine⟨(minL ((aJ p i).getD 0 0) (aJ p i),maxL ((aJ p i).getD 0 0) (aJ p i)),?_,lJ (zeg _ _)⟩
  show(Except.ok (minL ((aJ p' i).getD 0 0) (aJ p' i),maxL ((aJ p' i).getD 0 0) (aJ p' i)):Except Int Sp)=_
  rw[aJ,hp.tab]
 ·cases (show(Except.ok (oN (l.getD 0 (0,0)).1,oN (l.getD 0 (0,0)).2):Except Int Sp) = .ok s from h)
  exact⟨_,rfl,BM h0.1,BM h0.2.1,BM h0.2.2⟩
 ·cases (show(Except.ok (mm2 false (l.getD 0 (0,0)).1 (l.getD 1 (0,0)).1,mm2 false (l.getD 0 (0,0)).2 (l.getD 1 (0,0)).2):Except Int Sp) = .ok s from h)
  exact⟨_,rfl,mF (t:=false) h0.1 h1.1,mF (t:=false) h0.2.1 h1.2.1,mF (t:=false) h0.2.2 h1.2.2⟩
 ·cases (show(Except.ok (mm2 true (l.getD 0 (0,0)).1 (l.getD 1 (0,0)).1,mm2 true (l.getD 0 (0,0)).2 (l.getD 1 (0,0)).2):Except Int Sp) = .ok s from h)
  exact⟨_,rfl,mF (t:=true) h0.1 h1.1,mF (t:=true) h0.2.1 h1.2.1,mF (t:=true) h0.2.2 h1.2.2⟩
 ·cases (show(Except.ok (Ue (l.getD 0 (0,0))):Except Int Sp) = .ok s from h)
  exact⟨_,rfl,z81 h0⟩
 ·cases (show(Except.ok (-(l.getD 0 (0,0)).2,-(l.getD 0 (0,0)).1):Except Int Sp) = .ok s from h)
  exact⟨_,rfl,by grind[PW]⟩
 ·obtain⟨g1,g2,g3⟩:=h0;obtain⟨k1,k2,k3⟩:=h1
  exact WN (show two ((l.getD 0 (0,0)).1+(l.getD 1 (0,0)).1) ((l.getD 0 (0,0)).2+(l.getD 1 (0,0)).2) = .ok s from h) g1 k1 g3 k3 (by omega)
 ·obtain⟨g1,g2,g3⟩:=h0;obtain⟨k1,k2,k3⟩:=h1
  exact WN (show two ((l.getD 0 (0,0)).1 + -(l.getD 1 (0,0)).2) ((l.getD 0 (0,0)).2 + -(l.getD 1 (0,0)).1) = .ok s from h) g1 (by omega) g3 (by omega) (by omega)
 ·exact ZZ (show prodM (l.getD 0 (0,0)) (l.getD 1 (0,0)) = .ok s from h) h0 h1
 ·cases (show(Except.ok (ji (l.getD 0 (0,0)).1 m,ji (l.getD 0 (0,0)).2 m):Except Int Sp) = .ok s from h)
  have hm:=z8t hw rfl
  obtain⟨g1,g2,g3⟩:=h0
  exact⟨_,rfl,Int.ediv_le_ediv (by omega) g1,Int.ediv_le_ediv (by omega) g2,Int.ediv_le_ediv (by omega) g3⟩
 ·cases (show(Except.ok (mm2 false (l.getD 2 (0,0)).1 (l.getD 3 (0,0)).1,mm2 true (l.getD 2 (0,0)).2 (l.getD 3 (0,0)).2):Except Int Sp) = .ok s from h)
  obtain⟨g1,g2,g3⟩:=h2
  refine⟨_,rfl,mF (t:=false) g1 h3.1,?_,mF (t:=true) g3 h3.2.2⟩
  grind[mm2]
mutual
theorem Jz{p p':Pr}{found found':List Sp}(hR:Rng p)(hp:Nar p' p)(hF:WI found' found):∀(x:Ex) (s:Sp),wfX p found.length x=true->dF p found x = .ok s->∃s',dF p' found' x = .ok s'/\PW s' s
 | .mk k nm i m l,s,hw,h=>by
  obtain⟨_,g2,g3⟩:=bZ hw
  rw[gV]at h
  rw[gV]
  simp only[Ex.l,Ex.kind,Ex.index,Ex.n]at h g2 g3 ⊢
  cases hl:dw p found l with
  |error e=>rw[hl]at h;cases h
  |ok t=>
   rw[hl]at h
   obtain⟨t',ht,hs⟩:=JA hR hp hF l t g3 hl
   rw[ht]
   exact WO hR hp hF hs g2 h
theorem JA{p p':Pr}{found found':List Sp}(hR:Rng p)(hp:Nar p' p)(hF:WI found' found):∀(l:List Ex) (t:List Sp),wfL p found.length l=true->dw p found l = .ok t->∃t',dw p' found' l = .ok t'/\WI t' t
 | [],t,_,h=>by rw[dw]at h;cases h;exact⟨[],rfl,ZY⟩
 |x::r,t,hw,h=>by
  simp only[wfL,Bool.and_eq_true]at hw
  rw[dw]at h
  cases hx:dF p found x with
  |error e=>rw[hx]at h;cases h
  |ok s=>
   rw[hx]at h
   simp only at h
   cases hr:dw p found r with
   |error e=>rw[hr]at h;cases h
   |ok u=>
    rw[hr]at h
    cases h
    obtain⟨s',hs,hi⟩:=Jz hR hp hF x s hw.1 hx
    obtain⟨u',hu,hj⟩:=JA hR hp hF r u hw.2 hr
    exact⟨s'::u',by rw[dw,hs,hu],WJ hi hj⟩
end
theorem JB{p:Pr}{found:List Sp}(hR:Rng p)(hF:WI found found){x:Ex}{s:Sp}(hw:wfX p found.length x=true)(h:dF p found x = .ok s):s.1<=s.2:=by
 obtain⟨s',hs,hi⟩:=Jz hR (PZ hR) hF x s hw h
 rw[h]at hs;cases hs;exact hi.2.1
def InV(vs:List Int)(l:List Sp):Prop:=∀i:Nat,(l.getD i (0,0)).1<=vs.getD i 0/\vs.getD i 0<=(l.getD i (0,0)).2
theorem z88:InV [] []:=λi=>by simp
theorem Z4{v:Int}{s:Sp}{vs:List Int}{l:List Sp}(h:s.1<=v/\v<=s.2)(h2:InV vs l):InV (v::vs) (s::l):=λi=>by
 cases i with
 |zero=>exact h
 |succ i=>simpa using h2 i
theorem z9a{vs:List Int}{l:List Sp}(h:InV vs l):WI (vs.map λv=>(v,v)) l:=λi=>by
 have:=h i
 have e:(vs.map λv=>((v,v):Sp)).getD i (0,0)=(vs.getD i 0,vs.getD i 0):=by
  simp
 rw[e]
 exact⟨this.1,Int.le_refl _,this.2⟩
theorem Z5{l:List Int}{m v:Int}(h:v∈l):minL m l<=v:=(Gu l m).2.1 v h
theorem Z7{l:List Int}{m v:Int}(h:v∈l):v<=maxL m l:=(Gv l m).2.1 v h
structure FOk(found:List Sp):Prop where
 ins:InS found
 ord:∀s∈found,s.1<=s.2
theorem FOk.sub{found:List Sp}(h:FOk found):WI found found:=λi=>by
 rw[List.getD_eq_getElem?_getD]
 cases hq:found[i]? with
 |none=>exact⟨Int.le_refl _,Int.le_refl _,Int.le_refl _⟩
 |some s=>exact lJ (h.ord s (List.mem_of_getElem? hq))
theorem EM{p:Pr}{found:List Sp}:∀{l:List Ex} {t:List Sp},dw p found l = .ok t->∀y∈l,∃s,dF p found y = .ok s
 |x::r,t,h,y,hy=>by
  rw[dw]at h
  cases hx:dF p found x with
  |error e=>simp_all
  |ok s=>
   cases hr:dw p found r with
   |error e=>simp_all
   |ok u=>
    rcases List.mem_cons.1 hy with rfl |hy
    ·simp_all
    ·exact EM hr y hy
theorem WP{p:Pr}(hR:Rng p):∀(r:List Sm) (i:Nat) (fs F:List Sp),vT p i r=true->fs.length=i->FOk fs->bQ p r fs = .ok F->FOk F
 | [],i,fs,F,_,hl,hi,h=>by grind[bQ]
 |s::r,i,fs,F,hw,hl,hi,h=>by
  rw[bQ]at h
  cases hf:dF p fs s.x with
  |error e'=>simp_all
  |ok f=>
   rw[hf]at h
   simp only at h
   have hx:wfX p fs.length s.x=true:=by grind[V4]
   split at h
   ·refine WP hR r (i+1) (fs++[f]) F (qC hw) (by simp[hl]) ⟨Gx hi.ins (vS hR hi.ins _ _ hx hf),λs hs=>?_⟩ h
    rcases List.mem_append.1 hs with q |q<;>try exact hi.ord s q
    rw[List.mem_singleton.1 q];exact JB hR hi.sub hx hf
   ·cases h
theorem BOk.fok{p:Pr}{F:List Sp}(h:BOk p F):FOk F:=WP h.res.rng p.stmts 0 [] F h.res.wf rfl ⟨λs hs=>by simp at hs,λs hs=>by simp at hs⟩ h.run
theorem Nj{p:Pr}:∀(r:List Sm) (fs F:List Sp),bQ p r fs = .ok F->∃t,F=fs++t
 | [],fs,F,h=>by rw[bQ]at h;simp_all
 |s::r,fs,F,h=>by
  rw[bQ]at h
  cases hf:dF p fs s.x with
  |error e'=>simp_all
  |ok f=>
   rw[hf]at h
   simp only at h
   split at h
   ·obtain⟨t,rfl⟩:=Nj r _ F h;simp
   ·cases h
theorem JC{p:Pr}{F:List Sp}(h:bQ p p.stmts [] = .ok F):∀i,i<=p.stmts.length->bQ p (p.stmts.drop i) (F.take i) = .ok F/\(F.take i).length=i
 | 0,_=>by simpa using h
 |i+1,hi=>by
  obtain⟨h1,h2⟩:=JC h i (by omega)
  have hd:p.stmts.drop i=p.stmts[i]::p.stmts.drop (i+1):=List.drop_eq_getElem_cons (by omega)
  rw[hd,bQ]at h1
  cases hf:dF p (F.take i) p.stmts[i].x with
  |error e'=>simp_all
  |ok f=>
   rw[hf]at h1
   simp only at h1
   split at h1<;>try(cases h1)
   obtain⟨t,ht⟩:=Nj _ _ _ h1
   have e:F.take (i+1)=F.take i++[f]:=by
    have:F.take (i+1)=(F.take i++[f]++t).take (i+1):=by rw[<-ht]
    rw[this,List.take_append_of_le_length (by simp[h2])]
    exact List.take_of_length_le (by simp[h2])
   rw[e];exact⟨h1,by simp[h2]⟩
theorem JD{p:Pr}:∀(r:List Sm) (k i:Nat),vT p k r=true->vT p (k+i) (r.drop i)=true
 |r,k,0,h=>by simpa using h
 | [],k,i+1,_=>by simp[vT]
 |s::r,k,i+1,h=>by
  have:=JD r (k+1) i (qC h)
  grind
structure zcp(p:Pr)(F:List Sp)(i:Nat)(s:Sm):Prop where
 lt:i<F.length
 run:dF p (F.take i) s.x = .ok (F.getD i (0,0))
 win:within p s (F.getD i (0,0))=true
 wf:wfS p i s=true
 len:(F.take i).length=i
theorem SS{p:Pr}{F:List Sp}{i:Nat}{s:Sm}{r:List Sm}(h:BOk p F)(hd:p.stmts.drop i=s::r):zcp p F i s:=by
 have hi:i<p.stmts.length:=by
  grind[List.drop_eq_nil_iff]
 obtain⟨h1,h2⟩:=JC h.run i (by omega)
 have hw:=JD p.stmts 0 i h.res.wf
 rw[hd,Nat.zero_add]at hw
 rw[hd,bQ]at h1
 cases hf:dF p (F.take i) s.x with
 |error e'=>simp_all
 |ok f=>
  rw[hf]at h1
  simp only at h1
  split at h1<;>try(cases h1)
  obtain⟨t,ht⟩:=Nj _ _ _ h1
  have hl:i<F.length:=by grind
  have e:F.getD i (0,0)=f:=by
   grind
  refine⟨hl,by rw[e];exact hf,by grind,?_,h2⟩
  simp[vT]at hw;exact hw.1
theorem EN{s:Str}:∀(l:List Sm) (i:Int),0<=i->0<=aA s l i->i<=aA s l i/\((l.getD (aA s l i-i).toNat Sm.none).kind==1)=true
 | [],i,_,h=>by simp[aA]at h
 |x::r,i,hi,h=>by
  simp only[aA]at h ⊢
  split
  ·simp_all
  ·rename_i hq
   rw[if_neg hq]at h
   obtain⟨a,b⟩:=EN r (i+1) (by omega) h
   refine⟨by omega,?_⟩
   rw[show(aA s r (i+1)-i).toNat=(aA s r (i+1)-(i+1)).toNat+1 by omega];exact b
end Go.Fw.Rg
