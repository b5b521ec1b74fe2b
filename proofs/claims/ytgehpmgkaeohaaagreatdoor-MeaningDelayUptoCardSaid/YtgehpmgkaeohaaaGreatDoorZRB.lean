/- A part of the proof. -/
import Derived.Test.YtgehpmgkaeohaaaGreatDoorZRA
import Derived.Test.YtgehpmgkaeohaaaGreatDoorZPX
set_option linter.all false
namespace Go.Fw.Rg
open Go.Fw Go.Fw.Ref15
variable [ae]
structure ja(p:Pr):Prop where
 sm:p.Small
 hn:∀s∈p.stmts,Ref15.nodes s.x<=1073741824
 hT:∀t∈p.tables,t.values.length<=1073741824
theorem ja.hl{p:Pr}(g:ja p):p.stmts.length<=1073741824:=by have:=g.sm.stmts;omega
def resE(p:Pr):Int:=if(Nam.resolveC p).2 != 0 then(Nam.resolveC p).2 else if qA p (Nam.resolveC p).1 then 0 else 150
theorem VL{s:Str}:∀{l:List Str} (i:Int),aX s l i<i+l.length\/aX s l i = -1
 | [],i=>.inr rfl
 |x::r,i=>by
  simp[aX]
  split
  ·grind
  ·rcases VL (s:=s) (l:=r) (i+1)with h |h<;>grind
theorem qV{s:Str}{l:List Str}(h:0<=find l s):find l s<l.length:=by
 rcases VL (s:=s) (l:=l) 0 with q |q<;>grind[find]
theorem O1{s:Str}:∀{l:List Sm} (i:Int),ay s l i<i+l.length\/ay s l i = -1
 | [],i=>.inr rfl
 |x::r,i=>by
  simp[ay]
  split
  ·grind
  ·rcases O1 (s:=s) (l:=r) (i+1)with h |h<;>grind
theorem VM{p:Pr}{s:Str}{b:Nat}(h:0<=given p s b):given p s b<b:=by
 rcases O1 (s:=s) (l:=p.stmts.take b) 0 with q |q<;>grind[given]
theorem Bj:∀{l:List Ex},formeds l=true->∀y∈l,formed y=true
 |x::r,h,y,hy=>by
  simp[formeds]at h
  rcases List.mem_cons.1 hy with rfl |hy
  ·exact h.1
  ·exact Bj h.2 y hy
theorem yh:∀{l:List Ex},qQ l=true->∀y∈l,numbers y=true
 |x::r,h,y,hy=>by
  simp[qQ]at h
  rcases List.mem_cons.1 hy with rfl |hy
  ·exact h.1
  ·exact yh h.2 y hy
theorem oL{p:Pr}{b:Nat}:∀{l:List Ex},dK p b l=(l,true)->∀y∈l,bJ p b y=(y,true)
 |x::r,h,y,hy=>by
  simp[dK]at h
  rcases List.mem_cons.1 hy with rfl |hy
  ·grind
  ·exact oL (Prod.ext h.1.2 h.2.2) y hy
theorem VN{p:Pr}{n:Nat}:∀{l:List Ex},(∀y∈l,wfX p n y=true)->wfL p n l=true
 | [],_=>rfl
 |x::r,h=>by
  simp[wfL]
  exact⟨h x (by simp),VN λy hy=>h y (by simp[hy])⟩
theorem MC{k:Int}(h:0<=Ref15.parts k):1<=k/\k<=19:=by
 grind[Ref15.parts]
theorem zf3{p:Pr}(ht:p.tables.all lq=true)(b:Nat):∀x:Ex,formed x=true->numbers x=true->bJ p b x=(x,true)->wfX p b x=true:=by
 refine Ex.ind λx ih hf hn hr=>?_
 rw[formed_eq]at hf
 rw[Ef]at hn
 rw[oG]at hr
 simp at hf hn
 obtain⟨⟨⟨⟨f1,f2⟩,f3⟩,f4⟩,f5⟩:=hf
 obtain⟨⟨n1,n2⟩,n3⟩:=hn
 rw[OT]
 have hk:=MC (k:=x.kind) (by omega)
 simp only[Bool.and_eq_true,beq_iff_eq]
 refine⟨⟨f1,?_⟩,?_⟩
 ·by_cases hN:(named x.kind&&x.kind != 8&&x.kind != 9)=true
  ·rw[if_pos hN]at hr
   rw[value]at hr
   simp only at hr
   split at hr
   ·split at hr
    ·have e1:x.kind=5:=congrArg (λq=>q.1.kind) hr.symm
     have e2:given p x.name b=x.index:=congrArg (λq=>q.1.index) hr
     have e3:decide (given p x.name b>=0)=true:=congrArg Prod.snd hr
     have e3:=of_decide_eq_true e3
     have e4:=VM (b:=b) e3
     rw[tX,e1]
     simp_all
    ·have e1:x.kind=4:=congrArg (λq=>q.1.kind) hr.symm
     have e2:find (bounds p.states) x.name=x.index:=congrArg (λq=>q.1.index) hr
     have e3:decide (find (bounds p.states) x.name>=0)=true:=congrArg Prod.snd hr
     have e3:=of_decide_eq_true e3
     have e4:=qV e3
     rw[tX,e1]
     rw[e2]at e3 e4;simp only[bounds,List.length_map]at e4
     simp_all
   ·have e1:x.kind=3:=congrArg (λq=>q.1.kind) hr.symm
    have e2:find (bounds p.params) x.name=x.index:=congrArg (λq=>q.1.index) hr
    have e3:decide (find (bounds p.params) x.name>=0)=true:=congrArg Prod.snd hr
    have e3:=of_decide_eq_true e3
    have e4:=qV e3
    rw[tX,e1]
    rw[e2]at e3 e4;simp only[bounds,List.length_map]at e4
    simp_all
  ·rw[if_neg hN]at hr
   have e2:lu p x=x.index:=congrArg (λq=>q.1.index) hr
   have e3:(decide (lu p x>=0)&&(dK p b x.l).2)=true:=congrArg Prod.snd hr
   simp only[Bool.and_eq_true,decide_eq_true_eq]at e3
   have e3:=e3.1
   rw[lu]at e2 e3
   rw[tX]
   rcases Nam.kinds_cases hk with h |h |h |h |h |h |h |h |h |h |h |h |h |h |h |h |h |h |h<;>rw[h]at hN n2 e2 e3 ⊢ <;> first
    |exact absurd (by decide) hN
    |rfl
    |skip
   ·simp;omega
   ·grind[qV,Ref15.lines,List.length_map]
   ·simp only[(by decide:((9:Int)==9)=true),if_true]at e2 e3
    have e4:=qV e3
    rw[e2]at e3 e4;simp only[Ref15.tables,List.length_map]at e4
    have hm:p.tables.getD x.index.toNat Tb.none∈p.tables:=by
     simp_all
    have hq:=List.all_eq_true.1 ht _ hm
    simp only[lq,Bool.not_eq_true',Bool.or_eq_false_iff,decide_eq_false_iff_not]at hq
    grind
   simp_all
 ·refine VN λy hy=>ih y hy (Bj f5 y hy) (yh n3 y hy) ?_
  by_cases hN:(named x.kind&&x.kind != 8&&x.kind != 9)=true
  ·exfalso
   have:Ref15.parts x.kind=0:=by
    simp only[named,Bool.and_eq_true,bne_iff_ne]at hN
    rcases Nam.kinds_cases hk with h |h |h |h |h |h |h |h |h |h |h |h |h |h |h |h |h |h |h<;>rw[h]at hN ⊢ <;> first |rfl |(exfalso;simp at hN;done)
   simp_all
  ·rw[if_neg hN]at hr
   have e1:(dK p b x.l).1=x.l:=congrArg (λq=>q.1.l) hr
   have e3:(decide (lu p x>=0)&&(dK p b x.l).2)=true:=congrArg Prod.snd hr
   simp only[Bool.and_eq_true]at e3
   grind[oL,Prod.ext]
theorem Gp{p:Pr}{s:Sm}{r l:List Sm}{i:Nat}{out:Bool}(h:dM p (s::r) i out = .ok l):(bJ p i s.x).2=true/\0<=di p s/\again p i s=false/\∃t,dM p r (i+1) (s.kind==4) = .ok t/\l=⟨s.kind,s.name,di p s,(bJ p i s.x).1⟩::t:=by
 rw[dM]at h
 grind
theorem O3{p:Pr}(ht:p.tables.all lq=true):∀(r:List Sm) (i:Nat) (out:Bool),r.all stmtOk=true->(r.all λs=>numbers s.x)=true->dM p r i out = .ok r->vF p i r=true
 | [],_,_,_,_,_=>rfl
 |s::r,i,out,h1,h2,h3=>by
  simp only[List.all_cons,Bool.and_eq_true]at h1 h2
  obtain⟨g1,g2,_,t,g3,g4⟩:=Gp h3
  simp at g4
  obtain⟨g4,rfl⟩:=g4
  have e1:di p s=s.index:=congrArg Sm.index g4.symm
  have e2:(bJ p i s.x).1=s.x:=congrArg Sm.x g4.symm
  simp only[vF,wfS,Bool.and_eq_true]
  have hf:formed s.x=true:=by
   grind[stmtOk,Bool.not_eq_true',Bool.not_eq_false']
  refine⟨⟨zf3 ht i s.x hf h2.1 (Prod.ext e2 g1),?_,?_⟩,O3 ht r (i+1) _ h1.2 h2.2 g3⟩
  ·cases hk:s.kind==2 with
   |false=>rfl
   |true=>
    have:s.kind=2:=by simpa using hk
    rw[di,this]at e1 g2
    grind[qV,bounds,List.length_map]
  ·cases hk:s.kind==3 with
   |false=>rfl
   |true=>
    have:s.kind=3:=by simpa using hk
    rw[di,this]at e1 g2
    grind[qV,Ref15.lines,List.length_map]
theorem btw{lo hi:Int}(h:between lo hi=true):-2147483648<=lo/\lo<=hi/\hi<=2147483647:=by
 simp[between]at h;omega
theorem zci{p:Pr}(h:ranged p=true):Rng p:=by
 simp[ranged]at h
 obtain⟨⟨⟨⟨h1,h2⟩,h3⟩,h4⟩,_⟩:=h
 exact⟨λb hb=>btw (h1 b hb),λb hb=>btw (h2 b hb),λb hb=>btw (h3 b hb),λt ht v hv=>by have:=btw (h4 t ht v hv);omega⟩
structure Res(p:Pr):Prop where
 fo:Formed p=true
 li:limited p=true
 nm:qm p.name=true
 dn:(dZ p).all qm=true
 un:iW (dZ p) (dZ p) 0=true
 ra:ranged p=true
 ru:dM p p.stmts 0 false = .ok p.stmts
variable {p : Pr}
theorem Ag{e:Except Int (List Sm)}(h:Ref15.fin p [] e=(p,0))(hne:∀n,e = .error n->n≠0):e = .ok p.stmts:=by
 cases e with
 |error n=>exact absurd (congrArg Prod.snd h) (hne n rfl)
 |ok l=>
  have:=congrArg (λq=>q.1.stmts) h
  simp[Ref15.fin]at this
  rw[this]
theorem VO:∀(r:List Sm) (i:Nat) (out:Bool) (n:Int),dM p r i out = .error n->n≠0
 | [],i,out,n,h=>by
  grind[dM]
 |s::r,i,out,n,h=>by
  rw[dM]at h
  split at h<;>try(cases h;decide)
  split at h<;>try(cases h;decide)
  split at h
  ·cases h;decide
  ·split at h
   ·rename_i q
    cases h
    exact VO r _ _ _ q
   ·cases h
theorem VP:Resolve p=(p,0)↔Res p:=by
 constructor
 ·intro h
  have h0:=congrArg Prod.snd h
  rw[Resolve]at h h0
  split at h
  ·simp_all
  ·rename_i q1;split at h
   ·simp_all
   ·rename_i q2;split at h
    ·simp_all
    ·rename_i q3;split at h
     ·simp_all
     ·rename_i q4;split at h
      ·simp_all
      ·rename_i q5;split at h
       ·simp_all
       ·rename_i q6
        exact⟨by simpa using q1,by simpa using q2,by simpa using q3,by simpa using q4,by simpa using q5,by simpa using q6,Ag h (VO _ _ _)⟩
 ·intro h
  rw[Resolve,h.fo,h.li,h.nm,h.dn,h.un,h.ra,h.ru]
  simp[Ref15.fin]
theorem Res.tb(h:Res p):p.tables.all lq=true:=by
 have:=h.li;rw[limited_eq]at this;simp_all
theorem Res.rng(h:Res p):Rng p:=zci h.ra
theorem Res.wf(h:Res p):vF p 0 p.stmts=true:=by
 refine O3 h.tb _ _ _ h.fo ?_ h.ru
 have:=h.ra;simp only[ranged,Bool.and_eq_true]at this;exact this.2
theorem Jg(h:resE p=0):Nam.resolveC p=(p,0):=by
 grind[resE,gW]
theorem Gq(h:resE p=0):Res p:=VP.1 (by rw[<-Nam.resolve_same];exact Jg h)
theorem O4(h:Res p):resE p=0:=by
 have:=VP.2 h
 rw[<-Nam.resolve_same]at this
 rw[resE,this]
 simp[(gW p p).2 rfl]
end Go.Fw.Rg
namespace Go.Fw
def lkI(k:Int):List (Int×Int)->Option Int
 | []=>none
 |(a,v)::r=>if k==a then some v else lkI k r
abbrev iiC(q:Int×Int):D×D:=(.i q.1,.i q.2)
theorem VQ(a b:Int):dA (.i a) (.i b)=(a==b):=rfl
theorem Gs(k:Int):∀l:List (Int×Int),nS (.i k) (l.map iiC)=(lkI k l).map .i
 | []=>rfl
 |(a,v)::r=>by
  simp only[List.map_cons,nS,VQ,lkI]
  cases k==a with
  |true=>rfl
  |false=>exact Gs k r
theorem VR[ae]{k:Int}{l:List (Int×Int)}{M:List (D×D)}{f:D->Prop}{g:Prop}(hM:M=l.map iiC)(h1:∀n,lkI k l=some n->f (.i n))(h2:lkI k l=none->g):rE (nS (.i k) M) f g:=by
 cases hk:lkI k l with
 |none=>grind[Nam.opt_none,Gs]
 |some n=>grind[Nam.opt_some,Gs]
end Go.Fw
namespace Go.Fw.Rg
open Go.Fw Go.Fw.Ref15
variable [ae]
def lV:List (Int×Int):=[(1,0),(3,0),(4,0),(5,0),(6,1),(7,1),(8,1),(9,1),(10,1),(13,1),(14,1),(18,1),(11,2),(12,2),(15,2),(16,2),(17,2),(19,4)]
def lG(p:Pr):List (Int×Int):=[(3,p.params.length),(4,p.states.length),(8,p.lines.length),(9,p.tables.length),(5,p.stmts.length)]
def zcj(p:Pr):List (Int×Int):=[(3,(p.params.map Bd.cs).length),(4,(p.states.map Bd.cs).length),(8,(p.lines.map Ln.cs).length),(9,(p.tables.map Tb.cs).length),(5,(p.stmts.map Sm.cs).length)]
theorem Zc{p:Pr}{k:Int}{M:List (D×D)}{f:D->Prop}{g:Prop}(hM:M=(zcj p).map iiC)(h1:∀n,lkI k (lG p)=some n->f (.i n))(h2:lkI k (lG p)=none->g):rE (nS (.i k) M) f g:=by
 grind[zcj,lG,VR]
theorem zf4{p:Pr}{k m:Int}(h:lkI k (lG p)=some m)(h5:(k==5)=true):m=p.stmts.length:=by
 have:k=5:=by simpa using h5
 subst this
 exact(Option.some.inj h).symm
theorem zck{p:Pr}{k:Int}(h:lkI k (lG p)=none)(h5:(k==5)=true):False:=by
 have:k=5:=by simpa using h5
 subst this
 cases h
theorem z6n{l:List Ex}{n most:Int}{b:Bool}(h:(bif ((Ex.css l).length:Int) != n then true else decide (most<1))=b):(bif (l.length:Int) != n then true else decide (most<1))=b:=by grind[Ex.css_len]
def inM(i:Int):Option Int->Bool
 |none=>true
 |some m=>!(bif decide (i<0)then true else decide (i>=m))
theorem O5{i m:Int}{b:Bool}(h:(bif decide (i<0)then true else decide (i>=m))=b):inM i (some m) = !b:=by rw[inM,h]
def ok0(p:Pr)(k i m:Int):Bool:=if k==1 then(bif decide (0<=m)then decide (m<=2147483648)else false)else if k==18 then(bif decide (1<=m)then decide (m<=2147483648)else false)else if k==5 then(p.stmts.getD i.toNat Sm.none).kind==1 else true
mutual
def eY(p:Pr):Ex->Int->Int×Bool
 | .mk k _ i m l,most=>match lkI k lV with
  |none=>(0,false)
  |some need=>if(bif (l.length:Int) != need then true else decide (most<1))=true then(0,false)else if inM i (lkI k (lG p))=false then(0,false)else jw p l most 1 (ok0 p k i m)
def jw(p:Pr):List Ex->Int->Int->Bool->Int×Bool
 | [],_,n,ok=>(n,ok)
 |y::r,most,n,ok=>if(!(bif ok then(eY p y (most-n)).2 else false))=true then(0,false)else jw p r most (n+(eY p y (most-n)).1) (bif ok then(eY p y (most-n)).2 else false)
end
theorem vJ(p:Pr)(x:Ex)(most:Int):eY p x most=match lkI x.kind lV with
  |none=>(0,false)
  |some need=>if(bif (x.l.length:Int) != need then true else decide (most<1))=true then(0,false)else if inM x.index (lkI x.kind (lG p))=false then(0,false)else jw p x.l most 1 (ok0 p x.kind x.index x.n):=by cases x;rfl
theorem xn{p:Pr}{x:Ex}{most:Int}(h:lkI x.kind lV=none):eY p x most=(0,false):=by rw[vJ,h]
theorem xq{p:Pr}{x:Ex}{most need:Int}(h:lkI x.kind lV=some need)(h2:(bif (x.l.length:Int) != need then true else decide (most<1))=true):eY p x most=(0,false):=by
 rw[vJ];simp_all
theorem Gt{p:Pr}{x:Ex}{most need:Int}(h:lkI x.kind lV=some need)(h2:(bif (x.l.length:Int) != need then true else decide (most<1))=false)(h3:inM x.index (lkI x.kind (lG p))=false):eY p x most=(0,false):=by
 rw[vJ];simp_all
theorem xu{p:Pr}{x:Ex}{most need:Int}(h:lkI x.kind lV=some need)(h2:(bif (x.l.length:Int) != need then true else decide (most<1))=false)(h3:inM x.index (lkI x.kind (lG p))=true):eY p x most=jw p x.l most 1 (ok0 p x.kind x.index x.n):=by
 rw[vJ];grind
theorem z6o{l:List Ex}{nd most:Int}(h:(bif ((Ex.css l).length:Int) != nd then true else decide (most<1))=false):1<=most:=by
 simp_all
theorem Rw{p:Pr}{x:Ex}{most nd:Int}{o:Option Int}{b:Bool}(hnd:lkI x.kind lV=some nd)(hmd:lkI x.kind (lG p)=o)(h:(bif ((Ex.css x.l).length:Int) != nd then true else decide (most<1))=false)(h2:inM x.index o=true)(h3:ok0 p x.kind x.index x.n=b):eY p x most=jw p x.l most 1 b:=by
 rw[xu hnd (z6n h) (by simp_all),h3]
theorem Zd{p:Pr}{x:Ex}{most nd:Int}{o:Option Int}(hnd:lkI x.kind lV=some nd)(hmd:lkI x.kind (lG p)=o)(h:(bif ((Ex.css x.l).length:Int) != nd then true else decide (most<1))=false)(h2:inM x.index o=false):eY p x most=(0,false):=by
 rw[Gt hnd (z6n h) (by simp_all)]
theorem zf5{p:Pr}{k i m:Int}(h:(k==1)=true):ok0 p k i m=(bif decide (0<=m)then decide (m<=2147483648)else false):=by simp[ok0,h]
theorem zf6{p:Pr}{k i m:Int}(h:(k==1)=false)(h2:(k==18)=true):ok0 p k i m=(bif decide (1<=m)then decide (m<=2147483648)else false):=by simp[ok0,h,h2]
theorem zf7{p:Pr}{k i m:Int}(h:(k==1)=false)(h2:(k==18)=false)(h3:(k==5)=true):ok0 p k i m=((p.stmts.getD i.toNat Sm.none).kind==1):=by simp[ok0,h,h2,h3]
theorem zf8{p:Pr}{k i m:Int}(h:(k==1)=false)(h2:(k==18)=false)(h3:(k==5)=false):ok0 p k i m=true:=by simp[ok0,h,h2,h3]
theorem zhd{p:Pr}{k i m:Int}(h:lkI k (lG p)=some m)(h5:(k==5)=true)(h2:(bif decide (i<0)then true else decide (i>=m))=false):0<=i/\i<p.stmts.length:=by
 grind[zf4]
theorem oM{p:Pr}{y:Ex}{r:List Ex}{most n:Int}{ok:Bool}(h:(!(bif ok then(eY p y (most-n)).2 else false))=true):jw p (y::r) most n ok=(0,false):=by rw[jw,if_pos h]
theorem vK{p:Pr}{y:Ex}{r:List Ex}{most n:Int}{ok:Bool}(h:(!(bif ok then(eY p y (most-n)).2 else false))=false):jw p (y::r) most n ok=jw p r most (n+(eY p y (most-n)).1) (bif ok then(eY p y (most-n)).2 else false):=by rw[jw,if_neg (by rw[h];decide)]
theorem zhe{b c:Bool}(h:(!(bif b then c else false))=false):b=true/\c=true:=by simp_all
theorem O6(p:Pr):∀(x:Ex) (most:Int),most<=512->0<=(eY p x most).1/\(eY p x most).1<=512/\((eY p x most).2=true->1<=(eY p x most).1/\(eY p x most).1<=most):=by
 refine Ex.ind λx ih most hm=>?_
 have hL:∀(l:List Ex),(∀y∈l,y∈x.l)->∀(n:Int) (ok:Bool),1<=n->n<=most->0<=(jw p l most n ok).1/\(jw p l most n ok).1<=512/\((jw p l most n ok).2=true->1<=(jw p l most n ok).1/\(jw p l most n ok).1<=most):=by
  intro l
  induction l with
  |nil=>grind[jw]
  |cons y r ihr=>
   intro hl n ok h1 h2
   cases hb:!(bif ok then(eY p y (most-n)).2 else false)with
   |true=>rw[oM hb];simp
   |false=>
    rw[vK hb]
    obtain⟨a,b⟩:=zhe hb
    have:=ih y (hl y (by simp)) (most-n) (by omega)
    have h3:=this.2.2 b
    exact ihr (λz hz=>hl z (by simp[hz])) _ _ (by omega) (by omega)
 cases h:lkI x.kind lV with
 |none=>rw[xn h];simp
 |some need=>
  cases h2:(bif (x.l.length:Int) != need then true else decide (most<1))with
  |true=>rw[xq h h2];simp
  |false=>
   cases h3:inM x.index (lkI x.kind (lG p))with
   |false=>rw[Gt h h2 h3];simp
   |true=>
    rw[xu h h2 h3]
    have:1<=most:=by
     simp_all
    exact hL x.l (λ_ h=>h) 1 _ (Int.le_refl _) this
def lH(k:Int):Int:=
 if k==1 || k==3 || k==4 || k==5 then 0
 else if k==6 || k==7 || k==8 || k==9 || k==10 || k==13 || k==14 || k==18 then 1
 else if k==11 || k==12 || k==15 || k==16 || k==17 then 2
 else if k==19 then 4 else -1
def yH(p:Pr)(x:Ex):Bool:=
 if((x.l.length:Int) != lH x.kind)=true then false
 else if x.kind==1 then(bif decide (x.n>=0)then decide (x.n<=2147483648)else false)
 else if x.kind==18 then(bif decide (x.n>=1)then decide (x.n<=2147483648)else false)
 else if x.kind==3 then(bif decide (x.index>=0)then decide (x.index<p.params.length)else false)
 else if x.kind==4 then(bif decide (x.index>=0)then decide (x.index<p.states.length)else false)
 else if x.kind==8 then(bif decide (x.index>=0)then decide (x.index<p.lines.length)else false)
 else if x.kind==9 then(bif decide (x.index>=0)then decide (x.index<p.tables.length)else false)
 else if x.kind==5 then(bif (bif decide (x.index>=0)then decide (x.index<p.stmts.length)else false)then(p.stmts.getD x.index.toNat Sm.none).kind==1 else false)
 else true
mutual
def sF(p:Pr):Ex->Int->Int
 | .mk k nm i m l,most=>if(bif decide (most<1)then true else !yH p (.mk k nm i m l))=true then -1 else lI p l most 1
def lI(p:Pr):List Ex->Int->Int->Int
 | [],_,n=>n
 |y::r,most,n=>if sF p y (most-n)<0 then -1 else lI p r most (n+sF p y (most-n))
end
theorem vM(p:Pr)(x:Ex)(most:Int):sF p x most=if(bif decide (most<1)then true else !yH p x)=true then -1 else lI p x.l most 1:=by cases x;rfl
theorem VS(p:Pr):∀(x:Ex) (most:Int),sF p x most = -1\/(1<=sF p x most/\sF p x most<=most):=by
 refine Ex.ind λx ih most=>?_
 have hL:∀(l:List Ex),(∀y∈l,y∈x.l)->∀(n:Int),1<=n->n<=most->lI p l most n = -1\/(1<=lI p l most n/\lI p l most n<=most):=by
  intro l
  induction l with
  |nil=>grind[lI]
  |cons y r ihr=>
   intro hl n h1 h2
   rw[lI]
   grind
 rw[vM]
 grind
theorem Es(k:Int):lkI k lV=if lH k<0 then none else some (lH k):=by
 by_cases hk:1<=k/\k<=19
 ·rcases Nam.kinds_cases hk with h |h |h |h |h |h |h |h |h |h |h |h |h |h |h |h |h |h |h<;>subst h<;>rfl
 ·have h1:∀n:Int,1<=n->n<=19->(k==n)=false:=λn a b=>by
   grind
  simp[lH,lkI,lV,h1]
theorem own_fits{p:Pr}{x:Ex}{most:Int}(hm:1<=most):(∃n,lkI x.kind lV=some n/\(bif (x.l.length:Int) != n then true else decide (most<1))=false/\inM x.index (lkI x.kind (lG p))=true/\ok0 p x.kind x.index x.n=true)↔yH p x=true:=by
 have hm':decide (most<1)=false:=by simp;omega
 rw[hm',Es]
 by_cases hk:1<=x.kind/\x.kind<=19
 ·rcases Nam.kinds_cases hk with h |h |h |h |h |h |h |h |h |h |h |h |h |h |h |h |h |h |h<;>rw[yH,h]<;>simp[lH,inM,lG,lkI,ok0]<;>(try omega)
 ·have h1:∀n:Int,1<=n->n<=19->(x.kind==n)=false:=λn a b=>by
   grind
  have:lH x.kind = -1:=by simp[lH,h1]
  grind[yH]
theorem Et(p:Pr):∀(x:Ex) (most:Int),((eY p x most).2=true->sF p x most=(eY p x most).1)/\((eY p x most).2=false->sF p x most = -1):=by
 refine Ex.ind λx ih most=>?_
 have hL:∀(l:List Ex),(∀y∈l,y∈x.l)->∀(n:Int),((jw p l most n true).2=true->lI p l most n=(jw p l most n true).1)/\((jw p l most n true).2=false->lI p l most n = -1):=by
  intro l
  induction l with
  |nil=>intro _ n;rw[jw,lI];simp
  |cons y r ihr=>
   intro hl n
   have:=ih y (hl y (by simp)) (most-n)
   rw[lI]
   cases hb:(eY p y (most-n)).2 with
   |false=>
    rw[oM (by rw[hb];rfl),this.2 hb]
    simp
   |true=>
    rw[vK (by rw[hb];rfl),this.1 hb,hb]
    split
    ·have hq:∀z:Ex,∀m,(eY p z m).2=true->1<=(eY p z m).1:=by
      refine Ex.ind λz ihz m hz=>?_
      have hLL:∀(l:List Ex),(∀y∈l,y∈z.l)->∀(n:Int) (ok:Bool),1<=n->(jw p l m n ok).2=true->1<=(jw p l m n ok).1:=by
       intro l
       induction l with
       |nil=>grind[jw]
       |cons y r ihr=>
        intro hl n ok h1 h2
        cases hb:!(bif ok then(eY p y (m-n)).2 else false)with
        |true=>rw[oM hb]at h2;simp_all
        |false=>
         rw[vK hb]at h2 ⊢
         grind
      rw[vJ]at hz ⊢
      grind
     grind
    simp_all
 rw[vM]
 by_cases hm:most<1
 ·have hf:eY p x most=(0,false):=by
   cases h:lkI x.kind lV with
   |none=>exact xn h
   |some n=>grind[xq]
  simp_all
 ·have hm':1<=most:=by omega
  rw[decide_eq_false hm]
  cases ho:yH p x with
  |true=>
   obtain⟨n,h1,h2,h3,h4⟩:=(own_fits hm').2 ho
   rw[xu h1 h2 h3,h4]
   simp_all
  |false=>
   have hn:¬∃n,lkI x.kind lV=some n/\(bif (x.l.length:Int) != n then true else decide (most<1))=false/\inM x.index (lkI x.kind (lG p))=true/\ok0 p x.kind x.index x.n=true:=by
    rw[own_fits hm',ho];simp
   refine⟨λh=>?_,λ_=>rfl⟩
   cases h1:lkI x.kind lV with
   |none=>rw[xn h1]at h;simp_all
   |some n=>
    cases h2:(bif (x.l.length:Int) != n then true else decide (most<1))with
    |true=>rw[xq h1 h2]at h;simp_all
    |false=>
     cases h3:inM x.index (lkI x.kind (lG p))with
     |false=>rw[Gt h1 h2 h3]at h;simp_all
     |true=>
      rw[xu h1 h2 h3]at h
      have h4:ok0 p x.kind x.index x.n=false:=by
       simp_all
      rw[h4]at h
      cases hl:x.l with
      |nil=>rw[hl,jw]at h;simp_all
      |cons y r=>rw[hl,oM rfl]at h;simp_all
theorem z6p{p:Pr}(ht:p.tables.all lq=true):∀(x:Ex) (most:Int),(eY p x most).2=true->wfX p p.stmts.length x=true:=by
 refine Ex.ind λx ih most h=>?_
 have hm:1<=most:=by
  rcases VS p x most with q |q<;>try omega
  have:=(Et p x most).1 h
  rw[vM]at q this
  split at q
  ·rename_i hq
   cases hc:decide (most<1)with
   |false=>simpa using hc
   |true=>
    have hf:eY p x most=(0,false):=by
     cases h:lkI x.kind lV with
     |none=>exact xn h
     |some n=>grind[xq]
    simp_all
  simp_all
 have ho:yH p x=true:=by
  cases ho:yH p x with
  |true=>rfl
  |false=>
   exfalso
   cases h1':lkI x.kind lV with
   |none=>rw[xn h1']at h;simp_all
   |some n=>
    cases h2':(bif (x.l.length:Int) != n then true else decide (most<1))with
    |true=>rw[xq h1' h2']at h;simp_all
    |false=>
     cases h3':inM x.index (lkI x.kind (lG p))with
     |false=>rw[Gt h1' h2' h3']at h;simp_all
     |true=>
      cases h4:ok0 p x.kind x.index x.n with
      |true=>have:=(own_fits hm).1 ⟨n,h1',h2',h3',h4⟩;simp_all
      |false=>
       rw[xu h1' h2' h3',h4]at h
       cases hl:x.l with
       |nil=>rw[hl,jw]at h;simp_all
       |cons y r=>rw[hl,oM rfl]at h;simp_all
 obtain⟨n,h1,h2,h3,h4⟩:=(own_fits hm).2 ho
 rw[xu h1 h2 h3,h4]at h
 have hL:∀(l:List Ex),(∀y∈l,y∈x.l)->∀(n:Int) (ok:Bool),(jw p l most n ok).2=true->wfL p p.stmts.length l=true:=by
  intro l
  induction l with
  |nil=>intro _ n ok _;rfl
  |cons y r ihr=>
   intro hl n ok h
   cases hb:!(bif ok then(eY p y (most-n)).2 else false)with
   |true=>rw[oM hb]at h;simp_all
   |false=>
    rw[vK hb]at h
    simp only[wfL,Bool.and_eq_true]
    grind
 rw[OT,hL x.l (λ_ h=>h) _ _ h,Bool.and_true]
 rw[Es]at h1
 have hne:∀i:Int,0<=i->i<p.tables.length->(aI p i==[])=false:=by
  intro i h0 h1
  have hm:p.tables.getD i.toNat Tb.none∈p.tables:=by
   simp_all
  have hq:=List.all_eq_true.1 ht _ hm
  simp only[lq,Bool.not_eq_true',Bool.or_eq_false_iff]at hq
  grind
 by_cases hk:1<=x.kind/\x.kind<=19
 ·rw[yH]at ho
  rcases Nam.kinds_cases hk with h |h |h |h |h |h |h |h |h |h |h |h |h |h |h |h |h |h |h<;>rw[h]at ho ⊢ <;> simp[lH,Ref15.parts,tX]at ho ⊢ <;> first
   |exact ho
   |omega
   |simp_all
   |simp_all
   |exact ho.2.1
   |simp_all
   |simp_all
   |simp_all
 ·have h1':∀n:Int,1<=n->n<=19->(x.kind==n)=false:=λn a b=>by
   grind
  have:lH x.kind = -1:=by simp[lH,h1']
  simp_all
end Go.Fw.Rg
namespace Go.Fw.Rg
open Go.Fw Go.Fw.Ref15
variable [ae] {k i m : Int} {p : Pr} {n : Nat}
def zh5:Except Int Sp->D
 | .ok s=>.tuple [.i s.1,.i s.2,.i 0]
 | .error e=>.tuple [.i 0,.i 0,.i e]
theorem z18(h:tX p n k i m=true)(hk:(k==3)=true):0<=i/\i<p.params.length:=by
 have:k=3:=by simpa using hk
 subst this
 have h:(decide (0<=i)&&decide (i<p.params.length))=true:=h
 simpa using h
theorem VT(h:tX p n k i m=true)(hk:(k==4)=true):0<=i/\i<p.states.length:=by
 have:k=4:=by simpa using hk
 subst this
 have h:(decide (0<=i)&&decide (i<p.states.length))=true:=h
 simpa using h
theorem O7(h:tX p n k i m=true)(hk:(k==5)=true):0<=i/\i<n:=by
 have:k=5:=by simpa using hk
 subst this
 have h:(decide (0<=i)&&decide (i<n))=true:=h
 simpa using h
theorem z19(h:tX p n k i m=true)(hk:(k==8)=true):0<=i/\i<p.lines.length:=by
 have:k=8:=by simpa using hk
 subst this
 have h:(decide (0<=i)&&decide (i<p.lines.length))=true:=h
 simpa using h
theorem zcl(h:tX p n k i m=true)(hk:(k==9)=true):0<=i/\i<p.tables.length/\aI p i ≠ []:=by
 have:k=9:=by simpa using hk
 subst this
 have h:(decide (0<=i)&&decide (i<p.tables.length) && !(aI p i==[]))=true:=h
 simp_all
theorem z6q(h:tX p n k i m=true)(hk:(k==18)=true):1<=m:=by
 have:k=18:=by simpa using hk
 subst this
 have h:(decide (1<=m)&&decide (m<=2147483648))=true:=h
 simp_all
theorem VU(h:tX p n k i m=true)(hk:(k==9)=true):0<(aI p i).length:=List.length_pos_iff.2 (zcl h hk).2.2
theorem z6r{c:Prop}[Decidable c]{a b:Except Int Sp}{e:Int}{P:Prop}(h:(if c then a else b) = .error e)(ha:a = .error e->P)(hb:b = .error e->P):P:=by
 grind
theorem z6s{found:List Sp}:∀(x:Ex) (e:Int),dD p found x = .error e->e=160\/e=161:=by
 have hO:∀(k i m:Int) (l:List Sp) (e:Int),opM p found k i m l = .error e->e=160\/e=161:=by
  intro k i m l e h
  repeat' (refine z6r h ?_ ?_<;>(intro h))
  all_goals first
   |(cases h;done)
   |(cases h;exact .inl rfl)
   |(cases h;exact .inr rfl)
 refine Ex.ind λx ih e h=>?_
 have hL:∀(l:List Ex),(∀y∈l,y∈x.l)->∀e,dh p found l = .error e->e=160\/e=161:=by
  intro l
  induction l with
  |nil=>grind[dh]
  |cons y r ihr=>
   grind[dh]
 grind[gV]
end Go.Fw.Rg
namespace Go.Fw.Rg
open Go.Fw Go.Fw.Ref15
variable [ae]
def aN(p:Pr):List Sp×Int:=if(resE p != 0)=true then([],resE p)else match bT p p.stmts []with
 | .ok F=>(F,0)
 | .error e=>([],e)
def Gu(p:Pr)(x:Ex):Bool:=(eY p x 512).2
def gy(p:Pr)(x:Ex):Except Int Sp:=if((aN p).2 != 0)=true then .error (aN p).2 else if Gu p x then dD p (aN p).1 x else .error 150
theorem qW{p:Pr}{F:List Sp}(h:resE p=0)(h2:bT p p.stmts [] = .ok F):aN p=(F,0):=by
 have h:¬((resE p != 0)=true):=by rw[h];decide
 rw[aN,if_neg h,h2]
theorem Bl{p:Pr}{e:Int}(h:resE p=0)(h2:bT p p.stmts [] = .error e):aN p=([],e):=by
 have h:¬((resE p != 0)=true):=by rw[h];decide
 rw[aN,if_neg h,h2]
theorem qX{p:Pr}(h:(resE p != 0)=true):aN p=([],resE p):=by rw[aN,if_pos h]
theorem z2a{p:Pr}:∀(r:List Sm) (fs:List Sp) (e:Int),bT p r fs = .error e->e=160\/e=161
 | [],fs,e,h=>by grind[bT]
 |s::r,fs,e,h=>by
  rw[bT]at h
  cases hf:dD p fs s.x with
  |error e'=>grind[z6s]
  |ok f=>
   rw[hf]at h
   simp only at h
   split at h
   ·exact z2a r _ e h
   simp_all
theorem VV{p:Pr}{e:Int}(h:bT p p.stmts [] = .error e):(e != 0)=true:=by
 grind[z2a]
structure BOk(p:Pr)(F:List Sp):Prop where
 res:Res p
 run:bT p p.stmts [] = .ok F
 len:F.length=p.stmts.length
 ins:InS F
variable {p : Pr} {F : List Sp} {x : Ex}
theorem VW(hR:Rng p):∀(r:List Sm) (i:Nat) (fs F:List Sp),vF p i r=true->fs.length=i->InS fs->bT p r fs = .ok F->F.length=i+r.length/\InS F
 | [],i,fs,F,_,hl,hi,h=>by grind[bT]
 |s::r,i,fs,F,hw,hl,hi,h=>by
  rw[bT]at h
  cases hf:dD p fs s.x with
  |error e'=>simp_all
  |ok f=>
   rw[hf]at h
   simp only at h
   split at h
   ·have hq:=vC hR hi _ _ (by grind[Vz]) hf
    have:=VW hR r (i+1) (fs++[f]) F (qy hw) (by simp[hl]) (F8 hi hq) h
    grind
   ·cases h
theorem zcm(h:resE p=0)(h2:bT p p.stmts [] = .ok F):BOk p F:=by
 have hr:=Gq h
 have:=VW hr.rng p.stmts 0 [] F hr.wf rfl (λs hs=>by simp at hs) h2
 exact⟨hr,h2,by omega,this.2⟩
theorem mr(h:(aN p).2=0):BOk p (aN p).1/\resE p=0:=by
 cases hz:resE p != 0 with
 |true=>grind[qX]
 |false=>
  have hz:resE p=0:=by simpa using hz
  cases hs:bT p p.stmts []with
  |error e=>rw[Bl hz hs]at h;grind[VV]
  |ok F=>rw[qW hz hs];grind[zcm]
theorem MF(p:Pr)(x:Ex):decide (sF p x 512>0)=Gu p x:=by
 have h:=Et p x 512
 have hr:=O6 p x 512 (by decide)
 grind[Gu]
theorem zcn(h:BOk p F)(hx:Gu p x=true):wfX p F.length x=true:=by
 rw[h.len];exact z6p h.res.tb x 512 hx
theorem z6t(h:((aN p).2 != 0)=true):gy p x = .error (aN p).2:=by rw[gy,if_pos h]
theorem VX(h:(aN p).2=0)(hx:Gu p x=false):gy p x = .error 150:=by
 rw[gy,if_neg (by rw[h];decide),hx];rfl
theorem VY(h:(aN p).2=0)(hx:Gu p x=true):gy p x=dD p (aN p).1 x:=by
 rw[gy,if_neg (by rw[h];decide),hx];rfl
theorem stmF_ok':∀(r:List Sm) (fs F:List Sp),bT p r fs = .ok F->ik p r fs=F
 | [],fs,F,h=>by cases h;rfl
 |s::r,fs,F,h=>by
  rw[bT]at h
  rw[ik]
  cases hf:dD p fs s.x with
  |error e'=>simp_all
  |ok f=>
   rw[hf]at h
   simp only at h ⊢
   split at h
   ·rename_i hw;rw[if_pos hw];exact stmF_ok' r _ F h
   ·cases h
theorem z6u(h:bT p p.stmts [] = .ok F):ik p p.stmts []=F:=stmF_ok' _ _ _ h
def O8(s' s:Sp):Prop:=s.1<=s'.1/\s'.1<=s'.2/\s'.2<=s.2
def VZ(l' l:List Sp):Prop:=∀i:Nat,O8 (l'.getD i (0,0)) (l.getD i (0,0))
theorem lJ{s:Sp}(h:s.1<=s.2):O8 s s:=⟨Int.le_refl _,h,Int.le_refl _⟩
theorem Ze:VZ [] []:=λi=>by simp[O8]
theorem V3{a b:Sp}{l m:List Sp}(h:O8 a b)(h2:VZ l m):VZ (a::l) (b::m):=λi=>by
 cases i with
 |zero=>exact h
 |succ i=>simpa using h2 i
theorem tY{a b x y:Int}(h1:a<=x)(h2:x<=b):(a * y<=x * y/\x * y<=b * y)\/(b * y<=x * y/\x * y<=a * y):=by
 by_cases hy:0<=y
 ·exact .inl ⟨Int.mul_le_mul_of_nonneg_right h1 hy,Int.mul_le_mul_of_nonneg_right h2 hy⟩
 simp_all
theorem z6v{a1 a2 b1 b2 x y L H:Int}(h1:a1<=x)(h2:x<=a2)(h3:b1<=y)(h4:y<=b2)(c1:L<=a1 * b1/\a1 * b1<=H)(c2:L<=a1 * b2/\a1 * b2<=H)(c3:L<=a2 * b1/\a2 * b1<=H)(c4:L<=a2 * b2/\a2 * b2<=H):L<=x * y/\x * y<=H:=by
 have e1:L<=x * b1/\x * b1<=H:=by
  rcases tY (y:=b1) h1 h2 with h |h<;>omega
 have e2:L<=x * b2/\x * b2<=H:=by
  rcases tY (y:=b2) h1 h2 with h |h<;>omega
 rcases tY (y:=x) h3 h4 with h |h<;>rw[Int.mul_comm b1,Int.mul_comm b2,Int.mul_comm y]at h<;>omega
theorem V4(a b c d:Int):KA a b c d<=a/\KA a b c d<=b/\KA a b c d<=c/\KA a b c d<=d:=by
 grind[KA,mm2]
theorem V5(a b c d:Int):a<=KC a b c d/\b<=KC a b c d/\c<=KC a b c d/\d<=KC a b c d:=by
 grind[KC,mm2]
theorem O9{a b c d L:Int}(h1:L<=a)(h2:L<=b)(h3:L<=c)(h4:L<=d):L<=KA a b c d:=by
 grind[KA,mm2]
theorem Pg{a b c d H:Int}(h1:a<=H)(h2:b<=H)(h3:c<=H)(h4:d<=H):KC a b c d<=H:=by
 grind[KC,mm2]
theorem Zf{a b a' b' s:Sp}(h:prodM a b = .ok s)(ha:O8 a' a)(hb:O8 b' b):∃s',prodM a' b' = .ok s'/\O8 s' s:=by
 obtain⟨rfl,w1,w2,w3,w4⟩:=F7 h
 obtain⟨n1,n2,n3,n4⟩:=V4 (a.1 * b.1) (a.1 * b.2) (a.2 * b.1) (a.2 * b.2)
 obtain⟨m1,m2,m3,m4⟩:=V5 (a.1 * b.1) (a.1 * b.2) (a.2 * b.1) (a.2 * b.2)
 obtain⟨p1,p2,p3⟩:=ha
 obtain⟨q1,q2,q3⟩:=hb
 have hin:∀x y:Int,a.1<=x->x<=a.2->b.1<=y->y<=b.2->KA (a.1 * b.1) (a.1 * b.2) (a.2 * b.1) (a.2 * b.2)<=x * y/\x * y<=KC (a.1 * b.1) (a.1 * b.2) (a.2 * b.1) (a.2 * b.2):=λx y g1 g2 g3 g4=>z6v g1 g2 g3 g4 ⟨n1,m1⟩ ⟨n2,m2⟩ ⟨n3,m3⟩ ⟨n4,m4⟩
 have k1:=hin a'.1 b'.1 (by omega) (by omega) (by omega) (by omega)
 have k2:=hin a'.1 b'.2 (by omega) (by omega) (by omega) (by omega)
 have k3:=hin a'.2 b'.1 (by omega) (by omega) (by omega) (by omega)
 have k4:=hin a'.2 b'.2 (by omega) (by omega) (by omega) (by omega)
 have lo:-4611686018427387904<=KA (a.1 * b.1) (a.1 * b.2) (a.2 * b.1) (a.2 * b.2):=by
  have:=dI.1 w1;have:=dI.1 w2;have:=dI.1 w3;have:=dI.1 w4
  exact O9 (by omega) (by omega) (by omega) (by omega)
 have hi:KC (a.1 * b.1) (a.1 * b.2) (a.2 * b.1) (a.2 * b.2)<=4611686018427387904:=by
  have:=dI.1 w1;have:=dI.1 w2;have:=dI.1 w3;have:=dI.1 w4
  exact Pg (by omega) (by omega) (by omega) (by omega)
 refine⟨(KA (a'.1 * b'.1) (a'.1 * b'.2) (a'.2 * b'.1) (a'.2 * b'.2),KC (a'.1 * b'.1) (a'.1 * b'.2) (a'.2 * b'.1) (a'.2 * b'.2)),?_,?_,?_,?_⟩
 ·grind[prodM,dI]
 ·exact O9 k1.1 k2.1 k3.1 k4.1
 ·exact Int.le_trans (V4 _ _ _ _).1 (V5 _ _ _ _).1
 ·exact Pg k1.2 k2.2 k3.2 k4.2
theorem V6{a b c d a' b' c' d':Int}{s:Sp}(h:two (a+b) (c+d) = .ok s)(h1:a<=a')(h2:b<=b')(h3:c'<=c)(h4:d'<=d)(h5:a'+b'<=c'+d'):∃s',two (a'+b') (c'+d') = .ok s'/\O8 s' s:=by
 obtain⟨rfl,w1,w2⟩:=Be h
 refine⟨(a'+b',c'+d'),?_,by omega,by omega,by omega⟩
 grind[two,dI]
theorem Bo{a b:Int}(h:a<=b):oK a<=oK b:=by
 grind[oK]
theorem mD{t:Bool}{a b a' b':Int}(h1:a<=a')(h2:b<=b'):mm2 t a b<=mm2 t a' b':=by
 cases t<;>simp[mm2]<;>(repeat' split)<;>omega
theorem z6w{a a':Sp}(h:O8 a' a):O8 (Tu a') (Tu a):=by
 grind[Tu,mm2,O8]
structure Nar(p' p:Pr):Prop where
 par:∀i:Nat,(p.params.getD i Bd.none).lo<=(p'.params.getD i Bd.none).lo/\(p'.params.getD i Bd.none).lo<=(p'.params.getD i Bd.none).hi/\(p'.params.getD i Bd.none).hi<=(p.params.getD i Bd.none).hi
 sta:p'.states=p.states
 lin:p'.lines=p.lines
 tab:p'.tables=p.tables
theorem Ph{p:Pr}(hR:Rng p):Nar p p:=by
 refine⟨λi=>?_,rfl,rfl,rfl⟩
 rw[List.getD_eq_getElem?_getD]
 cases h:p.params[i]? with
 |none=>simp
 |some b=>have:=hR.par b (List.mem_of_getElem? h);simp_all
theorem zco(m:Int)(l:List Int):minL m l<=maxL m l:=Int.le_trans (F5 l m).1 (F6 l m).1
theorem V7{p p':Pr}{found found' l l':List Sp}{k i m:Int}{s:Sp}{n:Nat}(hR:Rng p)(hp:Nar p' p)(hF:VZ found' found)(hl:VZ l' l)(hw:tX p n k i m=true)(h:opM p found k i m l = .ok s):∃s',opM p' found' k i m l' = .ok s'/\O8 s' s:=by
 have h0:=hl 0;have h1:=hl 1;have h2:=hl 2;have h3:=hl 3
 rcases kinds hw with r |r |r |r |r |r |r |r |r |r |r |r |r |r |r |r |r |r<;>subst r
 ·cases (show(Except.ok (m,m):Except Int Sp) = .ok s from h);exact⟨_,rfl,lJ (Int.le_refl _)⟩
 ·cases (show(Except.ok ((jk p i).lo,(jk p i).hi):Except Int Sp) = .ok s from h);exact⟨_,rfl,hp.par i.toNat⟩
 ·cases (show(Except.ok ((bH p i).lo,(bH p i).hi):Except Int Sp) = .ok s from h)
  refine⟨((bH p i).lo,(bH p i).hi),?_,lJ ?_⟩
  ·show(Except.ok ((bH p' i).lo,(bH p' i).hi):Except Int Sp)=_
   rw[bH,hp.sta]
  ·have hq:=VT hw rfl
   exact(hR.sta _ (getD_mem' Bd.none hq.1 hq.2)).2.1
 ·cases (show(Except.ok (found.getD i.toNat (0,0)):Except Int Sp) = .ok s from h);exact⟨_,rfl,hF i.toNat⟩
 ·have h:aheadM (l.getD 0 (0,0)) = .ok s:=h
  have hs:=nK h
  refine⟨s,?_,by grind[lJ]⟩
  show aheadM (l'.getD 0 (0,0)) = .ok s
  subst hs
  rw[aheadM]at h ⊢
  split at h
  ·cases h
  ·rename_i hq
   obtain⟨g1,g2,g3⟩:=h0
   grind
 ·have h:aheadM (l.getD 0 (0,0)) = .ok s:=h
  have hs:=nK h
  refine⟨s,?_,by grind[lJ]⟩
  show aheadM (l'.getD 0 (0,0)) = .ok s
  subst hs
  rw[aheadM]at h ⊢
  split at h
  ·cases h
  ·rename_i hq
   obtain⟨g1,g2,g3⟩:=h0
   grind
 ·cases (show(Except.ok (mm2 false (bW p i).lo 0,mm2 true (bW p i).hi 0):Except Int Sp) = .ok s from h)
  refine⟨(mm2 false (bW p i).lo 0,mm2 true (bW p i).hi 0),?_,lJ ?_⟩
  ·show(Except.ok (mm2 false (bW p' i).lo 0,mm2 true (bW p' i).hi 0):Except Int Sp)=_
   rw[bW,hp.lin]
  grind[mm2]
 ·cases (show(Except.ok (minL ((aI p i).getD 0 0) (aI p i),maxL ((aI p i).getD 0 0) (aI p i)):Except Int Sp) = .ok s from h)
  refine⟨(minL ((aI p i).getD 0 0) (aI p i),maxL ((aI p i).getD 0 0) (aI p i)),?_,lJ (zco _ _)⟩
  show(Except.ok (minL ((aI p' i).getD 0 0) (aI p' i),maxL ((aI p' i).getD 0 0) (aI p' i)):Except Int Sp)=_
  rw[aI,hp.tab]
 ·cases (show(Except.ok (oK (l.getD 0 (0,0)).1,oK (l.getD 0 (0,0)).2):Except Int Sp) = .ok s from h)
  exact⟨_,rfl,Bo h0.1,Bo h0.2.1,Bo h0.2.2⟩
 ·cases (show(Except.ok (mm2 false (l.getD 0 (0,0)).1 (l.getD 1 (0,0)).1,mm2 false (l.getD 0 (0,0)).2 (l.getD 1 (0,0)).2):Except Int Sp) = .ok s from h)
  exact⟨_,rfl,mD (t:=false) h0.1 h1.1,mD (t:=false) h0.2.1 h1.2.1,mD (t:=false) h0.2.2 h1.2.2⟩
 ·cases (show(Except.ok (mm2 true (l.getD 0 (0,0)).1 (l.getD 1 (0,0)).1,mm2 true (l.getD 0 (0,0)).2 (l.getD 1 (0,0)).2):Except Int Sp) = .ok s from h)
  exact⟨_,rfl,mD (t:=true) h0.1 h1.1,mD (t:=true) h0.2.1 h1.2.1,mD (t:=true) h0.2.2 h1.2.2⟩
 ·cases (show(Except.ok (Tu (l.getD 0 (0,0))):Except Int Sp) = .ok s from h)
  exact⟨_,rfl,z6w h0⟩
 ·cases (show(Except.ok (-(l.getD 0 (0,0)).2,-(l.getD 0 (0,0)).1):Except Int Sp) = .ok s from h)
  exact⟨_,rfl,by grind[O8]⟩
 ·obtain⟨g1,g2,g3⟩:=h0;obtain⟨k1,k2,k3⟩:=h1
  exact V6 (show two ((l.getD 0 (0,0)).1+(l.getD 1 (0,0)).1) ((l.getD 0 (0,0)).2+(l.getD 1 (0,0)).2) = .ok s from h) g1 k1 g3 k3 (by omega)
 ·obtain⟨g1,g2,g3⟩:=h0;obtain⟨k1,k2,k3⟩:=h1
  exact V6 (show two ((l.getD 0 (0,0)).1 + -(l.getD 1 (0,0)).2) ((l.getD 0 (0,0)).2 + -(l.getD 1 (0,0)).1) = .ok s from h) g1 (by omega) g3 (by omega) (by omega)
 ·exact Zf (show prodM (l.getD 0 (0,0)) (l.getD 1 (0,0)) = .ok s from h) h0 h1
 ·cases (show(Except.ok (ji (l.getD 0 (0,0)).1 m,ji (l.getD 0 (0,0)).2 m):Except Int Sp) = .ok s from h)
  have hm:=z6q hw rfl
  obtain⟨g1,g2,g3⟩:=h0
  exact⟨_,rfl,Int.ediv_le_ediv (by omega) g1,Int.ediv_le_ediv (by omega) g2,Int.ediv_le_ediv (by omega) g3⟩
 ·cases (show(Except.ok (mm2 false (l.getD 2 (0,0)).1 (l.getD 3 (0,0)).1,mm2 true (l.getD 2 (0,0)).2 (l.getD 3 (0,0)).2):Except Int Sp) = .ok s from h)
  obtain⟨g1,g2,g3⟩:=h2
  refine⟨_,rfl,mD (t:=false) g1 h3.1,?_,mD (t:=true) g3 h3.2.2⟩
  grind[mm2]
mutual
theorem Jh{p p':Pr}{found found':List Sp}(hR:Rng p)(hp:Nar p' p)(hF:VZ found' found):∀(x:Ex) (s:Sp),wfX p found.length x=true->dD p found x = .ok s->∃s',dD p' found' x = .ok s'/\O8 s' s
 | .mk k nm i m l,s,hw,h=>by
  obtain⟨_,g2,g3⟩:=bZ hw
  rw[gV]at h
  rw[gV]
  simp only[Ex.l,Ex.kind,Ex.index,Ex.n]at h g2 g3 ⊢
  cases hl:dh p found l with
  |error e=>rw[hl]at h;cases h
  |ok t=>
   rw[hl]at h
   obtain⟨t',ht,hs⟩:=Ji hR hp hF l t g3 hl
   rw[ht]
   exact V7 hR hp hF hs g2 h
theorem Ji{p p':Pr}{found found':List Sp}(hR:Rng p)(hp:Nar p' p)(hF:VZ found' found):∀(l:List Ex) (t:List Sp),wfL p found.length l=true->dh p found l = .ok t->∃t',dh p' found' l = .ok t'/\VZ t' t
 | [],t,_,h=>by rw[dh]at h;cases h;exact⟨[],rfl,Ze⟩
 |x::r,t,hw,h=>by
  simp only[wfL,Bool.and_eq_true]at hw
  rw[dh]at h
  cases hx:dD p found x with
  |error e=>rw[hx]at h;cases h
  |ok s=>
   rw[hx]at h
   simp only at h
   cases hr:dh p found r with
   |error e=>rw[hr]at h;cases h
   |ok u=>
    rw[hr]at h
    cases h
    obtain⟨s',hs,hi⟩:=Jh hR hp hF x s hw.1 hx
    obtain⟨u',hu,hj⟩:=Ji hR hp hF r u hw.2 hr
    exact⟨s'::u',by rw[dh,hs,hu],V3 hi hj⟩
end
theorem Jj{p:Pr}{found:List Sp}(hR:Rng p)(hF:VZ found found){x:Ex}{s:Sp}(hw:wfX p found.length x=true)(h:dD p found x = .ok s):s.1<=s.2:=by
 obtain⟨s',hs,hi⟩:=Jh hR (Ph hR) hF x s hw h
 rw[h]at hs;cases hs;exact hi.2.1
def InV(vs:List Int)(l:List Sp):Prop:=∀i:Nat,(l.getD i (0,0)).1<=vs.getD i 0/\vs.getD i 0<=(l.getD i (0,0)).2
theorem z6x:InV [] []:=λi=>by simp
theorem Zg{v:Int}{s:Sp}{vs:List Int}{l:List Sp}(h:s.1<=v/\v<=s.2)(h2:InV vs l):InV (v::vs) (s::l):=λi=>by
 cases i with
 |zero=>exact h
 |succ i=>simpa using h2 i
theorem z6y{vs:List Int}{l:List Sp}(h:InV vs l):VZ (vs.map λv=>(v,v)) l:=λi=>by
 have:=h i
 have e:(vs.map λv=>((v,v):Sp)).getD i (0,0)=(vs.getD i 0,vs.getD i 0):=by
  simp
 rw[e]
 exact⟨this.1,Int.le_refl _,this.2⟩
theorem Zh{l:List Int}{m v:Int}(h:v∈l):minL m l<=v:=(F5 l m).2.1 v h
theorem Zi{l:List Int}{m v:Int}(h:v∈l):v<=maxL m l:=(F6 l m).2.1 v h
structure FOk(found:List Sp):Prop where
 ins:InS found
 ord:∀s∈found,s.1<=s.2
theorem FOk.sub{found:List Sp}(h:FOk found):VZ found found:=λi=>by
 rw[List.getD_eq_getElem?_getD]
 cases hq:found[i]? with
 |none=>exact⟨Int.le_refl _,Int.le_refl _,Int.le_refl _⟩
 |some s=>exact lJ (h.ord s (List.mem_of_getElem? hq))
theorem Eu{p:Pr}{found:List Sp}:∀{l:List Ex} {t:List Sp},dh p found l = .ok t->∀y∈l,∃s,dD p found y = .ok s
 |x::r,t,h,y,hy=>by
  rw[dh]at h
  cases hx:dD p found x with
  |error e=>simp_all
  |ok s=>
   cases hr:dh p found r with
   |error e=>simp_all
   |ok u=>
    rcases List.mem_cons.1 hy with rfl |hy
    ·simp_all
    ·exact Eu hr y hy
theorem V8{p:Pr}(hR:Rng p):∀(r:List Sm) (i:Nat) (fs F:List Sp),vF p i r=true->fs.length=i->FOk fs->bT p r fs = .ok F->FOk F
 | [],i,fs,F,_,hl,hi,h=>by grind[bT]
 |s::r,i,fs,F,hw,hl,hi,h=>by
  rw[bT]at h
  cases hf:dD p fs s.x with
  |error e'=>simp_all
  |ok f=>
   rw[hf]at h
   simp only at h
   have hx:wfX p fs.length s.x=true:=by grind[Vz]
   split at h
   ·refine V8 hR r (i+1) (fs++[f]) F (qy hw) (by simp[hl]) ⟨F8 hi.ins (vC hR hi.ins _ _ hx hf),λs hs=>?_⟩ h
    rcases List.mem_append.1 hs with q |q<;>try exact hi.ord s q
    rw[List.mem_singleton.1 q];exact Jj hR hi.sub hx hf
   ·cases h
theorem BOk.fok{p:Pr}{F:List Sp}(h:BOk p F):FOk F:=V8 h.res.rng p.stmts 0 [] F h.res.wf rfl ⟨λs hs=>by simp at hs,λs hs=>by simp at hs⟩ h.run
theorem MG{p:Pr}:∀(r:List Sm) (fs F:List Sp),bT p r fs = .ok F->∃t,F=fs++t
 | [],fs,F,h=>by rw[bT]at h;simp_all
 |s::r,fs,F,h=>by
  rw[bT]at h
  cases hf:dD p fs s.x with
  |error e'=>simp_all
  |ok f=>
   rw[hf]at h
   simp only at h
   split at h
   ·obtain⟨t,rfl⟩:=MG r _ F h;simp
   ·cases h
theorem Jk{p:Pr}{F:List Sp}(h:bT p p.stmts [] = .ok F):∀i,i<=p.stmts.length->bT p (p.stmts.drop i) (F.take i) = .ok F/\(F.take i).length=i
 | 0,_=>by simpa using h
 |i+1,hi=>by
  obtain⟨h1,h2⟩:=Jk h i (by omega)
  have hd:p.stmts.drop i=p.stmts[i]::p.stmts.drop (i+1):=List.drop_eq_getElem_cons (by omega)
  rw[hd,bT]at h1
  cases hf:dD p (F.take i) p.stmts[i].x with
  |error e'=>simp_all
  |ok f=>
   rw[hf]at h1
   simp only at h1
   split at h1<;>try(cases h1)
   obtain⟨t,ht⟩:=MG _ _ _ h1
   have e:F.take (i+1)=F.take i++[f]:=by
    have:F.take (i+1)=(F.take i++[f]++t).take (i+1):=by rw[<-ht]
    rw[this,List.take_append_of_le_length (by simp[h2])]
    exact List.take_of_length_le (by simp[h2])
   rw[e];exact⟨h1,by simp[h2]⟩
theorem Jl{p:Pr}:∀(r:List Sm) (k i:Nat),vF p k r=true->vF p (k+i) (r.drop i)=true
 |r,k,0,h=>by simpa using h
 | [],k,i+1,_=>by simp[vF]
 |s::r,k,i+1,h=>by
  have:=Jl r (k+1) i (qy h)
  grind
structure zaz(p:Pr)(F:List Sp)(i:Nat)(s:Sm):Prop where
 lt:i<F.length
 run:dD p (F.take i) s.x = .ok (F.getD i (0,0))
 win:within p s (F.getD i (0,0))=true
 wf:wfS p i s=true
 len:(F.take i).length=i
theorem Rx{p:Pr}{F:List Sp}{i:Nat}{s:Sm}{r:List Sm}(h:BOk p F)(hd:p.stmts.drop i=s::r):zaz p F i s:=by
 have hi:i<p.stmts.length:=by
  grind[List.drop_eq_nil_iff]
 obtain⟨h1,h2⟩:=Jk h.run i (by omega)
 have hw:=Jl p.stmts 0 i h.res.wf
 rw[hd,Nat.zero_add]at hw
 rw[hd,bT]at h1
 cases hf:dD p (F.take i) s.x with
 |error e'=>simp_all
 |ok f=>
  rw[hf]at h1
  simp only at h1
  split at h1<;>try(cases h1)
  obtain⟨t,ht⟩:=MG _ _ _ h1
  have hl:i<F.length:=by grind
  have e:F.getD i (0,0)=f:=by
   grind
  refine⟨hl,by rw[e];exact hf,by grind,?_,h2⟩
  simp[vF]at hw;exact hw.1
theorem Ew{s:Str}:∀(l:List Sm) (i:Int),0<=i->0<=ay s l i->i<=ay s l i/\((l.getD (ay s l i-i).toNat Sm.none).kind==1)=true
 | [],i,_,h=>by simp[ay]at h
 |x::r,i,hi,h=>by
  simp only[ay]at h ⊢
  split
  ·simp_all
  ·rename_i hq
   rw[if_neg hq]at h
   obtain⟨a,b⟩:=Ew r (i+1) (by omega) h
   refine⟨by omega,?_⟩
   rw[show(ay s r (i+1)-i).toNat=(ay s r (i+1)-(i+1)).toNat+1 by omega];exact b
end Go.Fw.Rg
