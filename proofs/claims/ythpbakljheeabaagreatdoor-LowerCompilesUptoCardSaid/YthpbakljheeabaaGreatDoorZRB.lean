/- Package ranges in plain words: a whole processor. -/
import Derived.Test.YthpbakljheeabaaGreatDoorZRA
import Derived.Test.YthpbakljheeabaaGreatDoorZPX
set_option linter.unusedSectionVars false
set_option linter.unusedSimpArgs false
set_option linter.unusedVariables false
namespace Go.Fw.Rg
open Go.Fw Go.Fw.Ref15
variable [ah]
structure gq(p:Pr):Prop where
 sm:p.Small
 hn:∀s∈p.stmts,Ref15.nodes s.x<=1073741824
 hT:∀t∈p.tables,t.values.length<=1073741824
theorem gq.hl{p:Pr}(g:gq p):p.stmts.length<=1073741824:=by have:=g.sm.stmts;omega
def resE(p:Pr):Int:=if(Nam.resolveC p).2 != 0 then(Nam.resolveC p).2 else if qO p (Nam.resolveC p).1 then 0 else 150
theorem SY{s:Str}:∀{l:List Str} (i:Int),aW s l i<i+l.length\/aW s l i = -1
 | [],i=>.inr rfl
 |x::r,i=>by
  simp only[aW]
  split
  ·left;simp only[List.length_cons];omega
  ·rcases SY (s:=s) (l:=r) (i+1)with h |h
   ·left;simp only[List.length_cons];omega
   ·exact .inr h
theorem pX{s:Str}{l:List Str}(h:0<=find l s):find l s<l.length:=by
 rcases SY (s:=s) (l:=l) 0 with q |q
 ·simpa[find]using q
 ·rw[find]at h;omega
theorem MP{s:Str}:∀{l:List Sm} (i:Int),aB s l i<i+l.length\/aB s l i = -1
 | [],i=>.inr rfl
 |x::r,i=>by
  simp only[aB]
  split
  ·left;simp only[List.length_cons];omega
  ·rcases MP (s:=s) (l:=r) (i+1)with h |h
   ·left;simp only[List.length_cons];omega
   ·exact .inr h
theorem S9{p:Pr}{s:Str}{b:Nat}(h:0<=given p s b):given p s b<b:=by
 rcases MP (s:=s) (l:=p.stmts.take b) 0 with q |q
 ·rw[given];simp only[List.length_take]at q;omega
 ·rw[given]at h;omega
theorem kV:∀{l:List Ex},formeds l=true->∀y∈l,formed y=true
 |x::r,h,y,hy=>by
  simp only[formeds,Bool.and_eq_true]at h
  rcases List.mem_cons.1 hy with rfl |hy
  ·exact h.1
  ·exact kV h.2 y hy
theorem xg:∀{l:List Ex},pV l=true->∀y∈l,numbers y=true
 |x::r,h,y,hy=>by
  simp only[pV,Bool.and_eq_true]at h
  rcases List.mem_cons.1 hy with rfl |hy
  ·exact h.1
  ·exact xg h.2 y hy
theorem nO{p:Pr}{b:Nat}:∀{l:List Ex},dh p b l=(l,true)->∀y∈l,bz p b y=(y,true)
 |x::r,h,y,hy=>by
  simp only[dh,Prod.mk.injEq,List.cons.injEq,Bool.and_eq_true]at h
  rcases List.mem_cons.1 hy with rfl |hy
  ·exact Prod.ext h.1.1 h.2.1
  ·exact nO (Prod.ext h.1.2 h.2.2) y hy
theorem Tc{p:Pr}{n:Nat}:∀{l:List Ex},(∀y∈l,wfX p n y=true)->wfL p n l=true
 | [],_=>rfl
 |x::r,h=>by
  simp only[wfL,Bool.and_eq_true]
  exact⟨h x (by simp),Tc λy hy=>h y (by simp[hy])⟩
theorem JI{k:Int}(h:0<=Ref15.parts k):1<=k/\k<=19:=by
 by_cases hk:1<=k/\k<=19
 ·exact hk
 ·exfalso
  have h1:∀n:Int,1<=n->n<=19->(k==n)=false:=λn a b=>by
   simp only[beq_eq_false_iff_ne];omega
  simp[Ref15.parts,h1]at h
theorem z8f{p:Pr}(ht:p.tables.all jR=true)(b:Nat):∀x:Ex,formed x=true->numbers x=true->bz p b x=(x,true)->wfX p b x=true:=by
 refine Ex.ind λx ih hf hn hr=>?_
 rw[formed_eq]at hf
 rw[BR]at hn
 rw[kN]at hr
 simp only[Bool.and_eq_true,Bool.not_eq_true',Bool.or_eq_false_iff,bne_eq_false_iff_eq,decide_eq_false_iff_not]at hf hn
 obtain⟨⟨⟨⟨f1,f2⟩,f3⟩,f4⟩,f5⟩:=hf
 obtain⟨⟨n1,n2⟩,n3⟩:=hn
 rw[MF]
 have hk:=JI (k:=x.kind) (by rw[<-f1];omega)
 simp only[Bool.and_eq_true,beq_iff_eq]
 refine⟨⟨f1,?_⟩,?_⟩
 ·by_cases hN:(named x.kind&&x.kind != 8&&x.kind != 9)=true
  ·rw[if_pos hN]at hr
   rw[value]at hr
   simp only at hr
   split at hr
   ·split at hr
    ·have e1:x.kind=5:=congrArg (λq=>q.1.kind) hr.symm
     have e2:given p x.name b=x.index:=congrArg (λq=>q.1.index) hr
     have e3:decide (given p x.name b>=0)=true:=congrArg Prod.snd hr
     have e3:=of_decide_eq_true e3
     have e4:=S9 (b:=b) e3
     rw[qN,e1]
     simp only[e2]at e3 e4
     simp only[(by decide:((5:Int)==1)=false),(by decide:((5:Int)==3)=false),(by decide:((5:Int)==4)=false),(by decide:((5:Int)==5)=true),Bool.false_eq_true,if_false,if_true,Bool.and_eq_true,decide_eq_true_eq]
     omega
    ·have e1:x.kind=4:=congrArg (λq=>q.1.kind) hr.symm
     have e2:find (bounds p.states) x.name=x.index:=congrArg (λq=>q.1.index) hr
     have e3:decide (find (bounds p.states) x.name>=0)=true:=congrArg Prod.snd hr
     have e3:=of_decide_eq_true e3
     have e4:=pX e3
     rw[qN,e1]
     rw[e2]at e3 e4;simp only[bounds,List.length_map]at e4
     simp only[(by decide:((4:Int)==1)=false),(by decide:((4:Int)==3)=false),(by decide:((4:Int)==4)=true),Bool.false_eq_true,if_false,if_true,Bool.and_eq_true,decide_eq_true_eq]
     omega
   ·have e1:x.kind=3:=congrArg (λq=>q.1.kind) hr.symm
    have e2:find (bounds p.params) x.name=x.index:=congrArg (λq=>q.1.index) hr
    have e3:decide (find (bounds p.params) x.name>=0)=true:=congrArg Prod.snd hr
    have e3:=of_decide_eq_true e3
    have e4:=pX e3
    rw[qN,e1]
    rw[e2]at e3 e4;simp only[bounds,List.length_map]at e4
    simp only[(by decide:((3:Int)==1)=false),(by decide:((3:Int)==3)=true),Bool.false_eq_true,if_false,if_true,Bool.and_eq_true,decide_eq_true_eq]
    omega
  ·rw[if_neg hN]at hr
   have e2:jb p x=x.index:=congrArg (λq=>q.1.index) hr
   have e3:(decide (jb p x>=0)&&(dh p b x.l).2)=true:=congrArg Prod.snd hr
   simp only[Bool.and_eq_true,decide_eq_true_eq]at e3
   have e3:=e3.1
   rw[jb]at e2 e3
   rw[qN]
   rcases Nam.kinds_cases hk with h |h |h |h |h |h |h |h |h |h |h |h |h |h |h |h |h |h |h<;>rw[h]at hN n2 e2 e3 ⊢ <;> first
    |exact absurd (by decide) hN
    |rfl
    |skip
   ·simp;omega
   ·simp only[(by decide:((8:Int)==9)=false),(by decide:((8:Int)==8)=true),Bool.false_eq_true,if_false,if_true]at e2 e3
    have e4:=pX e3
    rw[e2]at e3 e4;simp only[Ref15.lines,List.length_map]at e4
    simp;omega
   ·simp only[(by decide:((9:Int)==9)=true),if_true]at e2 e3
    have e4:=pX e3
    rw[e2]at e3 e4;simp only[Ref15.tables,List.length_map]at e4
    have hm:p.tables.getD x.index.toNat Tb.none∈p.tables:=by
     have:x.index.toNat<p.tables.length:=by omega
     rw[List.getD_eq_getElem?_getD,List.getElem?_eq_getElem this];exact List.getElem_mem this
    have hq:=List.all_eq_true.1 ht _ hm
    simp only[jR,Bool.not_eq_true',Bool.or_eq_false_iff,decide_eq_false_iff_not]at hq
    have hne:(aO p x.index==[])=false:=by
     rw[beq_eq_false_iff_ne];intro h0;rw[aO]at h0;rw[h0]at hq;simp at hq
    simp[hne];omega
   ·simp at n2 ⊢;omega
 ·refine Tc λy hy=>ih y hy (kV f5 y hy) (xg n3 y hy) ?_
  by_cases hN:(named x.kind&&x.kind != 8&&x.kind != 9)=true
  ·exfalso
   have:Ref15.parts x.kind=0:=by
    simp only[named,Bool.and_eq_true,bne_iff_ne]at hN
    rcases Nam.kinds_cases hk with h |h |h |h |h |h |h |h |h |h |h |h |h |h |h |h |h |h |h<;>rw[h]at hN ⊢ <;> first |rfl |(exfalso;simp at hN;done)
   rw[this]at f1
   have:x.l.length=0:=by omega
   rw[List.length_eq_zero_iff]at this;rw[this]at hy;simp at hy
  ·rw[if_neg hN]at hr
   have e1:(dh p b x.l).1=x.l:=congrArg (λq=>q.1.l) hr
   have e3:(decide (jb p x>=0)&&(dh p b x.l).2)=true:=congrArg Prod.snd hr
   simp only[Bool.and_eq_true]at e3
   exact nO (Prod.ext e1 e3.2) y hy
theorem Ei{p:Pr}{s:Sm}{r l:List Sm}{i:Nat}{out:Bool}(h:bT p (s::r) i out = .ok l):(bz p i s.x).2=true/\0<=cO p s/\again p i s=false/\∃t,bT p r (i+1) (s.kind==4) = .ok t/\l=⟨s.kind,s.name,cO p s,(bz p i s.x).1⟩::t:=by
 rw[bT]at h
 split at h
 ·cases h
 ·split at h
  ·cases h
  ·split at h
   ·cases h
   ·rename_i h1 h2 h3
    simp only[Bool.not_eq_true',Bool.not_eq_false,decide_eq_true_eq,Int.not_lt,Bool.not_eq_true]at h1 h2 h3
    refine⟨h1,h2,h3,?_⟩
    split at h
    ·cases h
    ·rename_i t ht
     cases h
     exact⟨t,ht,rfl⟩
theorem MQ{p:Pr}(ht:p.tables.all jR=true):∀(r:List Sm) (i:Nat) (out:Bool),r.all stmtOk=true->(r.all λs=>numbers s.x)=true->bT p r i out = .ok r->ut p i r=true
 | [],_,_,_,_,_=>rfl
 |s::r,i,out,h1,h2,h3=>by
  simp only[List.all_cons,Bool.and_eq_true]at h1 h2
  obtain⟨g1,g2,_,t,g3,g4⟩:=Ei h3
  simp only[List.cons.injEq]at g4
  obtain⟨g4,rfl⟩:=g4
  have e1:cO p s=s.index:=congrArg Sm.index g4.symm
  have e2:(bz p i s.x).1=s.x:=congrArg Sm.x g4.symm
  simp only[ut,wfS,Bool.and_eq_true]
  have hf:formed s.x=true:=by
   have:=h1.1
   simp only[stmtOk,Bool.not_eq_true',Bool.or_eq_false_iff,Bool.not_eq_false']at this
   exact this.2
  refine⟨⟨z8f ht i s.x hf h2.1 (Prod.ext e2 g1),?_,?_⟩,MQ ht r (i+1) _ h1.2 h2.2 g3⟩
  ·cases hk:s.kind==2 with
   |false=>rfl
   |true=>
    have:s.kind=2:=by simpa using hk
    rw[cO,this]at e1 g2
    simp only[(by decide:((2:Int)==3)=false),(by decide:((2:Int)==2)=true),Bool.false_eq_true,if_false,if_true]at e1 g2
    have:=pX g2
    rw[e1]at this g2;simp only[bounds,List.length_map]at this
    simp;omega
  ·cases hk:s.kind==3 with
   |false=>rfl
   |true=>
    have:s.kind=3:=by simpa using hk
    rw[cO,this]at e1 g2
    simp only[(by decide:((3:Int)==3)=true),if_true]at e1 g2
    have:=pX g2
    rw[e1]at this g2;simp only[Ref15.lines,List.length_map]at this
    simp;omega
theorem btw{lo hi:Int}(h:between lo hi=true):-2147483648<=lo/\lo<=hi/\hi<=2147483647:=by
 simp only[between,Bool.and_eq_true,decide_eq_true_eq]at h;omega
theorem z4w{p:Pr}(h:ranged p=true):Rng p:=by
 simp only[ranged,Bool.and_eq_true,List.all_eq_true]at h
 obtain⟨⟨⟨⟨h1,h2⟩,h3⟩,h4⟩,_⟩:=h
 exact⟨λb hb=>btw (h1 b hb),λb hb=>btw (h2 b hb),λb hb=>btw (h3 b hb),λt ht v hv=>by have:=btw (h4 t ht v hv);omega⟩
structure Res(p:Pr):Prop where
 fo:Formed p=true
 li:limited p=true
 nm:o7 p.name=true
 dn:(dY p).all o7=true
 un:iM (dY p) (dY p) 0=true
 ra:ranged p=true
 ru:bT p p.stmts 0 false = .ok p.stmts
variable {p : Pr}
theorem FT{e:Except Int (List Sm)}(h:Ref15.fin p [] e=(p,0))(hne:∀n,e = .error n->n≠0):e = .ok p.stmts:=by
 cases e with
 |error n=>exact absurd (congrArg Prod.snd h) (hne n rfl)
 |ok l=>
  have:=congrArg (λq=>q.1.stmts) h
  simp only[Ref15.fin,List.nil_append]at this
  rw[this]
theorem Td:∀(r:List Sm) (i:Nat) (out:Bool) (n:Int),bT p r i out = .error n->n≠0
 | [],i,out,n,h=>by
  rw[bT]at h
  split at h
  ·cases h;decide
  ·cases h
 |s::r,i,out,n,h=>by
  rw[bT]at h
  split at h
  ·cases h;decide
  ·split at h
   ·cases h;decide
   ·split at h
    ·cases h;decide
    ·split at h
     ·rename_i q
      cases h
      exact Td r _ _ _ q
     ·cases h
theorem Tf:Resolve p=(p,0)↔Res p:=by
 constructor
 ·intro h
  have h0:=congrArg Prod.snd h
  rw[Resolve]at h h0
  split at h
  ·rename_i q;rw[if_pos q]at h0;exfalso;simp at h0
  ·rename_i q1;rw[if_neg q1]at h0
   split at h
   ·rename_i q;rw[if_pos q]at h0;exfalso;simp at h0
   ·rename_i q2;rw[if_neg q2]at h0
    split at h
    ·rename_i q;rw[if_pos q]at h0;exfalso;simp at h0
    ·rename_i q3;rw[if_neg q3]at h0
     split at h
     ·rename_i q;rw[if_pos q]at h0;exfalso;simp at h0
     ·rename_i q4;rw[if_neg q4]at h0
      split at h
      ·rename_i q;rw[if_pos q]at h0;exfalso;simp at h0
      ·rename_i q5;rw[if_neg q5]at h0
       split at h
       ·rename_i q;rw[if_pos q]at h0;exfalso;simp at h0
       ·rename_i q6
        exact⟨by simpa using q1,by simpa using q2,by simpa using q3,by simpa using q4,by simpa using q5,by simpa using q6,FT h (Td _ _ _)⟩
 ·intro h
  rw[Resolve,h.fo,h.li,h.nm,h.dn,h.un,h.ra,h.ru]
  simp[Ref15.fin]
theorem Res.tb(h:Res p):p.tables.all jR=true:=by
 have:=h.li;rw[limited_eq]at this;simp only[Bool.and_eq_true]at this;exact this.2.2.1
theorem Res.rng(h:Res p):Rng p:=z4w h.ra
theorem Res.wf(h:Res p):ut p 0 p.stmts=true:=by
 refine MQ h.tb _ _ _ h.fo ?_ h.ru
 have:=h.ra;simp only[ranged,Bool.and_eq_true]at this;exact this.2
theorem GL(h:resE p=0):Nam.resolveC p=(p,0):=by
 rw[resE]at h
 split at h
 ·rename_i h1;rw[h]at h1;exact absurd h1 (by decide)
 ·rename_i h1
  split at h
  ·rename_i h2
   exact Prod.ext ((iO _ _).1 h2).symm (by simpa using h1)
  ·exact absurd h (by decide)
theorem xZ(h:resE p=0):Res p:=Tf.1 (by rw[<-Nam.resolve_same];exact GL h)
theorem MR(h:Res p):resE p=0:=by
 have:=Tf.2 h
 rw[<-Nam.resolve_same]at this
 rw[resE,this]
 simp[(iO p p).2 rfl]
end Go.Fw.Rg
namespace Go.Fw
def lkI(k:Int):List (Int×Int)->Option Int
 | []=>none
 |(a,v)::r=>if k==a then some v else lkI k r
abbrev iiC(q:Int×Int):D×D:=(.i q.1,.i q.2)
theorem Ti(a b:Int):dH (.i a) (.i b)=(a==b):=rfl
theorem Ej(k:Int):∀l:List (Int×Int),oh (.i k) (l.map iiC)=(lkI k l).map .i
 | []=>rfl
 |(a,v)::r=>by
  simp only[List.map_cons,iiC,oh,Ti,lkI]
  cases k==a with
  |true=>rfl
  |false=>simp only[Bool.false_eq_true,if_false];exact Ej k r
theorem Tj[ah]{k:Int}{l:List (Int×Int)}{M:List (D×D)}{f:D->Prop}{g:Prop}(hM:M=l.map iiC)(h1:∀n,lkI k l=some n->f (.i n))(h2:lkI k l=none->g):sF (oh (.i k) M) f g:=by
 subst hM
 cases hk:lkI k l with
 |none=>exact Nam.opt_none (by rw[Ej,hk];rfl) (h2 hk)
 |some n=>exact Nam.opt_some (d:=.i n) (by rw[Ej,hk];rfl) (h1 n hk)
end Go.Fw
namespace Go.Fw.Rg
open Go.Fw Go.Fw.Ref15
variable [ah]
def bW:List (Int×Int):=[(1,0),(3,0),(4,0),(5,0),(6,1),(7,1),(8,1),(9,1),(10,1),(13,1),(14,1),(18,1),(11,2),(12,2),(15,2),(16,2),(17,2),(19,4)]
def kD(p:Pr):List (Int×Int):=[(3,p.params.length),(4,p.states.length),(8,p.lines.length),(9,p.tables.length),(5,p.stmts.length)]
def z0e(p:Pr):List (Int×Int):=[(3,(p.params.map Bd.cs).length),(4,(p.states.map Bd.cs).length),(8,(p.lines.map Ln.cs).length),(9,(p.tables.map Tb.cs).length),(5,(p.stmts.map Sm.cs).length)]
theorem WJ{p:Pr}{k:Int}{M:List (D×D)}{f:D->Prop}{g:Prop}(hM:M=(z0e p).map iiC)(h1:∀n,lkI k (kD p)=some n->f (.i n))(h2:lkI k (kD p)=none->g):sF (oh (.i k) M) f g:=by
 have e:z0e p=kD p:=by simp only[z0e,kD,List.length_map]
 rw[e]at hM
 exact Tj hM h1 h2
theorem z8g{p:Pr}{k m:Int}(h:lkI k (kD p)=some m)(h5:(k==5)=true):m=p.stmts.length:=by
 have:k=5:=by simpa using h5
 subst this
 exact(Option.some.inj h).symm
theorem z4x{p:Pr}{k:Int}(h:lkI k (kD p)=none)(h5:(k==5)=true):False:=by
 have:k=5:=by simpa using h5
 subst this
 cases h
theorem z0f{l:List Ex}{n most:Int}{b:Bool}(h:(bif ((Ex.css l).length:Int) != n then true else decide (most<1))=b):(bif (l.length:Int) != n then true else decide (most<1))=b:=by rw[Ex.css_len]at h;exact h
def inM(i:Int):Option Int->Bool
 |none=>true
 |some m=>!(bif decide (i<0)then true else decide (i>=m))
theorem MS{i m:Int}{b:Bool}(h:(bif decide (i<0)then true else decide (i>=m))=b):inM i (some m) = !b:=by rw[inM,h]
def ok0(p:Pr)(k i m:Int):Bool:=if k==1 then(bif decide (0<=m)then decide (m<=2147483648)else false)else if k==18 then(bif decide (1<=m)then decide (m<=2147483648)else false)else if k==5 then(p.stmts.getD i.toNat Sm.none).kind==1 else true
mutual
def eu(p:Pr):Ex->Int->Int×Bool
 | .mk k _ i m l,most=>match lkI k bW with
  |none=>(0,false)
  |some need=>if(bif (l.length:Int) != need then true else decide (most<1))=true then(0,false)else if inM i (lkI k (kD p))=false then(0,false)else jh p l most 1 (ok0 p k i m)
def jh(p:Pr):List Ex->Int->Int->Bool->Int×Bool
 | [],_,n,ok=>(n,ok)
 |y::r,most,n,ok=>if(!(bif ok then(eu p y (most-n)).2 else false))=true then(0,false)else jh p r most (n+(eu p y (most-n)).1) (bif ok then(eu p y (most-n)).2 else false)
end
theorem uA(p:Pr)(x:Ex)(most:Int):eu p x most=match lkI x.kind bW with
  |none=>(0,false)
  |some need=>if(bif (x.l.length:Int) != need then true else decide (most<1))=true then(0,false)else if inM x.index (lkI x.kind (kD p))=false then(0,false)else jh p x.l most 1 (ok0 p x.kind x.index x.n):=by cases x;rw[eu];rfl
theorem vY{p:Pr}{x:Ex}{most:Int}(h:lkI x.kind bW=none):eu p x most=(0,false):=by rw[uA,h]
theorem vZ{p:Pr}{x:Ex}{most need:Int}(h:lkI x.kind bW=some need)(h2:(bif (x.l.length:Int) != need then true else decide (most<1))=true):eu p x most=(0,false):=by
 rw[uA,h];simp only[h2,if_true]
theorem Em{p:Pr}{x:Ex}{most need:Int}(h:lkI x.kind bW=some need)(h2:(bif (x.l.length:Int) != need then true else decide (most<1))=false)(h3:inM x.index (lkI x.kind (kD p))=false):eu p x most=(0,false):=by
 rw[uA,h];simp only[h2,h3,if_true,Bool.false_eq_true,if_false]
theorem wo{p:Pr}{x:Ex}{most need:Int}(h:lkI x.kind bW=some need)(h2:(bif (x.l.length:Int) != need then true else decide (most<1))=false)(h3:inM x.index (lkI x.kind (kD p))=true):eu p x most=jh p x.l most 1 (ok0 p x.kind x.index x.n):=by
 rw[uA,h];simp only[h2,h3,Bool.false_eq_true,if_false,Bool.true_eq_false]
theorem z0g{l:List Ex}{nd most:Int}(h:(bif ((Ex.css l).length:Int) != nd then true else decide (most<1))=false):1<=most:=by
 cases hc:((Ex.css l).length:Int) != nd<;>rw[hc]at h<;>simp at h;omega
theorem OZ{p:Pr}{x:Ex}{most nd:Int}{o:Option Int}{b:Bool}(hnd:lkI x.kind bW=some nd)(hmd:lkI x.kind (kD p)=o)(h:(bif ((Ex.css x.l).length:Int) != nd then true else decide (most<1))=false)(h2:inM x.index o=true)(h3:ok0 p x.kind x.index x.n=b):eu p x most=jh p x.l most 1 b:=by
 rw[wo hnd (z0f h) (by rw[hmd];exact h2),h3]
theorem WL{p:Pr}{x:Ex}{most nd:Int}{o:Option Int}(hnd:lkI x.kind bW=some nd)(hmd:lkI x.kind (kD p)=o)(h:(bif ((Ex.css x.l).length:Int) != nd then true else decide (most<1))=false)(h2:inM x.index o=false):eu p x most=(0,false):=by
 rw[Em hnd (z0f h) (by rw[hmd];exact h2)]
theorem z8h{p:Pr}{k i m:Int}(h:(k==1)=true):ok0 p k i m=(bif decide (0<=m)then decide (m<=2147483648)else false):=by simp only[ok0,h,if_true]
theorem z8i{p:Pr}{k i m:Int}(h:(k==1)=false)(h2:(k==18)=true):ok0 p k i m=(bif decide (1<=m)then decide (m<=2147483648)else false):=by simp only[ok0,h,h2,if_true,Bool.false_eq_true,if_false]
theorem z8j{p:Pr}{k i m:Int}(h:(k==1)=false)(h2:(k==18)=false)(h3:(k==5)=true):ok0 p k i m=((p.stmts.getD i.toNat Sm.none).kind==1):=by simp only[ok0,h,h2,h3,if_true,Bool.false_eq_true,if_false]
theorem z8k{p:Pr}{k i m:Int}(h:(k==1)=false)(h2:(k==18)=false)(h3:(k==5)=false):ok0 p k i m=true:=by simp only[ok0,h,h2,h3,Bool.false_eq_true,if_false]
theorem z92{p:Pr}{k i m:Int}(h:lkI k (kD p)=some m)(h5:(k==5)=true)(h2:(bif decide (i<0)then true else decide (i>=m))=false):0<=i/\i<p.stmts.length:=by
 have:=z8g h h5
 cases hc:decide (i<0)<;>rw[hc]at h2<;>simp at h2 hc;omega
theorem nP{p:Pr}{y:Ex}{r:List Ex}{most n:Int}{ok:Bool}(h:(!(bif ok then(eu p y (most-n)).2 else false))=true):jh p (y::r) most n ok=(0,false):=by rw[jh,if_pos h]
theorem uB{p:Pr}{y:Ex}{r:List Ex}{most n:Int}{ok:Bool}(h:(!(bif ok then(eu p y (most-n)).2 else false))=false):jh p (y::r) most n ok=jh p r most (n+(eu p y (most-n)).1) (bif ok then(eu p y (most-n)).2 else false):=by rw[jh,if_neg (by rw[h];decide)]
theorem z7m{b c:Bool}(h:(!(bif b then c else false))=false):b=true/\c=true:=by cases b<;>cases c<;>first |exact⟨rfl,rfl⟩ |exact Bool.noConfusion h
theorem x9(p:Pr):∀(x:Ex) (most:Int),most<=512->0<=(eu p x most).1/\(eu p x most).1<=512/\((eu p x most).2=true->1<=(eu p x most).1/\(eu p x most).1<=most):=by
 refine Ex.ind λx ih most hm=>?_
 have hL:∀(l:List Ex),(∀y∈l,y∈x.l)->∀(n:Int) (ok:Bool),1<=n->n<=most->0<=(jh p l most n ok).1/\(jh p l most n ok).1<=512/\((jh p l most n ok).2=true->1<=(jh p l most n ok).1/\(jh p l most n ok).1<=most):=by
  intro l
  induction l with
  |nil=>intro _ n ok h1 h2;rw[jh];exact⟨by simp only;omega,by simp only;omega,λ_=>⟨h1,h2⟩⟩
  |cons y r ihr=>
   intro hl n ok h1 h2
   cases hb:!(bif ok then(eu p y (most-n)).2 else false)with
   |true=>rw[nP hb];exact⟨Int.le_refl _,by decide,λh=>Bool.noConfusion h⟩
   |false=>
    rw[uB hb]
    obtain⟨a,b⟩:=z7m hb
    have:=ih y (hl y (by simp)) (most-n) (by omega)
    have h3:=this.2.2 b
    exact ihr (λz hz=>hl z (by simp[hz])) _ _ (by omega) (by omega)
 cases h:lkI x.kind bW with
 |none=>rw[vY h];exact⟨Int.le_refl _,by decide,λh=>Bool.noConfusion h⟩
 |some need=>
  cases h2:(bif (x.l.length:Int) != need then true else decide (most<1))with
  |true=>rw[vZ h h2];exact⟨Int.le_refl _,by decide,λh=>Bool.noConfusion h⟩
  |false=>
   cases h3:inM x.index (lkI x.kind (kD p))with
   |false=>rw[Em h h2 h3];exact⟨Int.le_refl _,by decide,λh=>Bool.noConfusion h⟩
   |true=>
    rw[wo h h2 h3]
    have:1<=most:=by
     cases hc:(x.l.length:Int) != need<;>rw[hc]at h2<;>simp at h2;omega
    exact hL x.l (λ_ h=>h) 1 _ (Int.le_refl _) this
def kW(k:Int):Int:=
 if k==1 || k==3 || k==4 || k==5 then 0
 else if k==6 || k==7 || k==8 || k==9 || k==10 || k==13 || k==14 || k==18 then 1
 else if k==11 || k==12 || k==15 || k==16 || k==17 then 2
 else if k==19 then 4 else -1
def wu(p:Pr)(x:Ex):Bool:=
 if((x.l.length:Int) != kW x.kind)=true then false
 else if x.kind==1 then(bif decide (x.n>=0)then decide (x.n<=2147483648)else false)
 else if x.kind==18 then(bif decide (x.n>=1)then decide (x.n<=2147483648)else false)
 else if x.kind==3 then(bif decide (x.index>=0)then decide (x.index<p.params.length)else false)
 else if x.kind==4 then(bif decide (x.index>=0)then decide (x.index<p.states.length)else false)
 else if x.kind==8 then(bif decide (x.index>=0)then decide (x.index<p.lines.length)else false)
 else if x.kind==9 then(bif decide (x.index>=0)then decide (x.index<p.tables.length)else false)
 else if x.kind==5 then(bif (bif decide (x.index>=0)then decide (x.index<p.stmts.length)else false)then(p.stmts.getD x.index.toNat Sm.none).kind==1 else false)
 else true
mutual
def nX(p:Pr):Ex->Int->Int
 | .mk k nm i m l,most=>if(bif decide (most<1)then true else !wu p (.mk k nm i m l))=true then -1 else kX p l most 1
def kX(p:Pr):List Ex->Int->Int->Int
 | [],_,n=>n
 |y::r,most,n=>if nX p y (most-n)<0 then -1 else kX p r most (n+nX p y (most-n))
end
theorem pF(p:Pr)(x:Ex)(most:Int):nX p x most=if(bif decide (most<1)then true else !wu p x)=true then -1 else kX p x.l most 1:=by cases x;rw[nX];rfl
theorem zS(p:Pr):∀(x:Ex) (most:Int),nX p x most = -1\/(1<=nX p x most/\nX p x most<=most):=by
 refine Ex.ind λx ih most=>?_
 have hL:∀(l:List Ex),(∀y∈l,y∈x.l)->∀(n:Int),1<=n->n<=most->kX p l most n = -1\/(1<=kX p l most n/\kX p l most n<=most):=by
  intro l
  induction l with
  |nil=>intro _ n h1 h2;rw[kX];exact .inr ⟨h1,h2⟩
  |cons y r ihr=>
   intro hl n h1 h2
   rw[kX]
   have:=ih y (hl y (by simp)) (most-n)
   split
   ·exact .inl rfl
   ·exact ihr (λz hz=>hl z (by simp[hz])) _ (by omega) (by omega)
 rw[pF]
 split
 ·exact .inl rfl
 ·rename_i h
  refine hL x.l (λ_ h=>h) 1 (Int.le_refl _) ?_
  cases hc:decide (most<1)with
  |true=>rw[hc]at h;exact absurd rfl h
  |false=>simpa using hc
theorem Cf(k:Int):lkI k bW=if kW k<0 then none else some (kW k):=by
 by_cases hk:1<=k/\k<=19
 ·rcases Nam.kinds_cases hk with h |h |h |h |h |h |h |h |h |h |h |h |h |h |h |h |h |h |h<;>subst h<;>rfl
 ·have h1:∀n:Int,1<=n->n<=19->(k==n)=false:=λn a b=>by
   simp only[beq_eq_false_iff_ne];omega
  simp[kW,lkI,bW,h1]
theorem own_fits{p:Pr}{x:Ex}{most:Int}(hm:1<=most):(∃n,lkI x.kind bW=some n/\(bif (x.l.length:Int) != n then true else decide (most<1))=false/\inM x.index (lkI x.kind (kD p))=true/\ok0 p x.kind x.index x.n=true)↔wu p x=true:=by
 have hm':decide (most<1)=false:=by simp;omega
 rw[hm',Cf]
 by_cases hk:1<=x.kind/\x.kind<=19
 ·rcases Nam.kinds_cases hk with h |h |h |h |h |h |h |h |h |h |h |h |h |h |h |h |h |h |h<;>rw[wu,h]<;>simp[kW,inM,kD,lkI,ok0]<;>(try omega)
 ·have h1:∀n:Int,1<=n->n<=19->(x.kind==n)=false:=λn a b=>by
   simp only[beq_eq_false_iff_ne];omega
  have:kW x.kind = -1:=by simp[kW,h1]
  rw[wu,this]
  simp<;>omega
theorem ww(p:Pr):∀(x:Ex) (most:Int),((eu p x most).2=true->nX p x most=(eu p x most).1)/\((eu p x most).2=false->nX p x most = -1):=by
 refine Ex.ind λx ih most=>?_
 have hL:∀(l:List Ex),(∀y∈l,y∈x.l)->∀(n:Int),((jh p l most n true).2=true->kX p l most n=(jh p l most n true).1)/\((jh p l most n true).2=false->kX p l most n = -1):=by
  intro l
  induction l with
  |nil=>intro _ n;rw[jh,kX];exact⟨λ_=>rfl,λh=>Bool.noConfusion h⟩
  |cons y r ihr=>
   intro hl n
   have:=ih y (hl y (by simp)) (most-n)
   have hr:=x9
   rw[kX]
   cases hb:(eu p y (most-n)).2 with
   |false=>
    rw[nP (by rw[hb];rfl),this.2 hb]
    exact⟨λh=>Bool.noConfusion h,λ_=>rfl⟩
   |true=>
    rw[uB (by rw[hb];rfl),this.1 hb,hb]
    have hc:=zS p y (most-n)
    rw[this.1 hb]at hc
    split
    ·rename_i h;exfalso
     have hq:∀z:Ex,∀m,(eu p z m).2=true->1<=(eu p z m).1:=by
      refine Ex.ind λz ihz m hz=>?_
      have hLL:∀(l:List Ex),(∀y∈l,y∈z.l)->∀(n:Int) (ok:Bool),1<=n->(jh p l m n ok).2=true->1<=(jh p l m n ok).1:=by
       intro l
       induction l with
       |nil=>intro _ n ok h1 h2;rw[jh];exact h1
       |cons y r ihr=>
        intro hl n ok h1 h2
        cases hb:!(bif ok then(eu p y (m-n)).2 else false)with
        |true=>rw[nP hb]at h2;exact Bool.noConfusion h2
        |false=>
         rw[uB hb]at h2 ⊢
         have:=ihz y (hl y (by simp)) (m-n) (z7m hb).2
         exact ihr (λz hz=>hl z (by simp[hz])) _ _ (by omega) h2
      rw[uA]at hz ⊢
      split
      ·rename_i hh;rw[hh]at hz;exact Bool.noConfusion hz
      ·rename_i hh;rw[hh]at hz
       simp only at hz
       split
       ·rename_i h3;rw[if_pos h3]at hz;exact Bool.noConfusion hz
       ·rename_i h3;rw[if_neg h3]at hz
        split
        ·rename_i h4;rw[if_pos h4]at hz;exact Bool.noConfusion hz
        ·rename_i h4;rw[if_neg h4]at hz
         exact hLL z.l (λ_ h=>h) 1 _ (Int.le_refl _) hz
     have:=hq y _ hb
     omega
    ·exact ihr (λz hz=>hl z (by simp[hz])) _
 rw[pF]
 by_cases hm:most<1
 ·have hf:eu p x most=(0,false):=by
   cases h:lkI x.kind bW with
   |none=>exact vY h
   |some n=>exact vZ h (by rw[decide_eq_true hm];cases ((x.l.length:Int) != n)<;>rfl)
  rw[hf,decide_eq_true hm]
  exact⟨λh=>Bool.noConfusion h,λ_=>rfl⟩
 ·have hm':1<=most:=by omega
  rw[decide_eq_false hm]
  cases ho:wu p x with
  |true=>
   obtain⟨n,h1,h2,h3,h4⟩:=(own_fits hm').2 ho
   rw[wo h1 h2 h3,h4]
   exact hL x.l (λ_ h=>h) 1
  |false=>
   have hn:¬∃n,lkI x.kind bW=some n/\(bif (x.l.length:Int) != n then true else decide (most<1))=false/\inM x.index (lkI x.kind (kD p))=true/\ok0 p x.kind x.index x.n=true:=by
    rw[own_fits hm',ho];exact Bool.noConfusion
   refine⟨λh=>?_,λ_=>rfl⟩
   exfalso
   cases h1:lkI x.kind bW with
   |none=>rw[vY h1]at h;exact Bool.noConfusion h
   |some n=>
    cases h2:(bif (x.l.length:Int) != n then true else decide (most<1))with
    |true=>rw[vZ h1 h2]at h;exact Bool.noConfusion h
    |false=>
     cases h3:inM x.index (lkI x.kind (kD p))with
     |false=>rw[Em h1 h2 h3]at h;exact Bool.noConfusion h
     |true=>
      rw[wo h1 h2 h3]at h
      have h4:ok0 p x.kind x.index x.n=false:=by
       cases h4:ok0 p x.kind x.index x.n with
       |false=>rfl
       |true=>exact absurd ⟨n,h1,h2,h3,h4⟩ hn
      rw[h4]at h
      cases hl:x.l with
      |nil=>rw[hl,jh]at h;exact Bool.noConfusion h
      |cons y r=>rw[hl,nP rfl]at h;exact Bool.noConfusion h
theorem z0h{p:Pr}(ht:p.tables.all jR=true):∀(x:Ex) (most:Int),(eu p x most).2=true->wfX p p.stmts.length x=true:=by
 refine Ex.ind λx ih most h=>?_
 have hm:1<=most:=by
  rcases zS p x most with q |q
  ·have:=(ww p x most).1 h
   rw[pF]at q this
   split at q
   ·rename_i hq
    cases hc:decide (most<1)with
    |false=>simpa using hc
    |true=>
     have hf:eu p x most=(0,false):=by
      cases h:lkI x.kind bW with
      |none=>exact vY h
      |some n=>exact vZ h (by rw[hc];cases ((x.l.length:Int) != n)<;>rfl)
     rw[hf]at h;exact Bool.noConfusion h
   ·rename_i hq
    cases hc:decide (most<1)with
    |false=>simpa using hc
    |true=>rw[hc]at hq;exact absurd rfl hq
  ·omega
 have ho:wu p x=true:=by
  cases ho:wu p x with
  |true=>rfl
  |false=>
   have h1:=(ww p x most).1 h
   have h2:nX p x most = -1:=by rw[pF,ho];cases decide (most<1)<;>rfl
   have:=x9 p x
   have h3:=zS p x most
   exfalso
   cases h1':lkI x.kind bW with
   |none=>rw[vY h1']at h;exact Bool.noConfusion h
   |some n=>
    cases h2':(bif (x.l.length:Int) != n then true else decide (most<1))with
    |true=>rw[vZ h1' h2']at h;exact Bool.noConfusion h
    |false=>
     cases h3':inM x.index (lkI x.kind (kD p))with
     |false=>rw[Em h1' h2' h3']at h;exact Bool.noConfusion h
     |true=>
      cases h4:ok0 p x.kind x.index x.n with
      |true=>have:=(own_fits hm).1 ⟨n,h1',h2',h3',h4⟩;rw[ho]at this;exact Bool.noConfusion this
      |false=>
       rw[wo h1' h2' h3',h4]at h
       cases hl:x.l with
       |nil=>rw[hl,jh]at h;exact Bool.noConfusion h
       |cons y r=>rw[hl,nP rfl]at h;exact Bool.noConfusion h
 obtain⟨n,h1,h2,h3,h4⟩:=(own_fits hm).2 ho
 rw[wo h1 h2 h3,h4]at h
 have hL:∀(l:List Ex),(∀y∈l,y∈x.l)->∀(n:Int) (ok:Bool),(jh p l most n ok).2=true->wfL p p.stmts.length l=true:=by
  intro l
  induction l with
  |nil=>intro _ n ok _;rfl
  |cons y r ihr=>
   intro hl n ok h
   cases hb:!(bif ok then(eu p y (most-n)).2 else false)with
   |true=>rw[nP hb]at h;exact Bool.noConfusion h
   |false=>
    rw[uB hb]at h
    simp only[wfL,Bool.and_eq_true]
    exact⟨ih y (hl y (by simp)) _ (z7m hb).2,ihr (λz hz=>hl z (by simp[hz])) _ _ h⟩
 rw[MF,hL x.l (λ_ h=>h) _ _ h,Bool.and_true]
 rw[Cf]at h1
 have hne:∀i:Int,0<=i->i<p.tables.length->(aO p i==[])=false:=by
  intro i h0 h1
  have hm:p.tables.getD i.toNat Tb.none∈p.tables:=by
   have:i.toNat<p.tables.length:=by omega
   rw[List.getD_eq_getElem?_getD,List.getElem?_eq_getElem this];exact List.getElem_mem this
  have hq:=List.all_eq_true.1 ht _ hm
  simp only[jR,Bool.not_eq_true',Bool.or_eq_false_iff,decide_eq_false_iff_not]at hq
  rw[beq_eq_false_iff_ne];intro h0;rw[aO]at h0;rw[h0]at hq;simp at hq
 by_cases hk:1<=x.kind/\x.kind<=19
 ·rw[wu]at ho
  rcases Nam.kinds_cases hk with h |h |h |h |h |h |h |h |h |h |h |h |h |h |h |h |h |h |h<;>rw[h]at ho ⊢ <;> simp[kW,Ref15.parts,qN]at ho ⊢ <;> first
   |exact ho
   |omega
   |exact⟨ho.1.1,ho.1.2⟩
   |exact⟨ho.2.1.1,ho.2.1.2⟩
   |exact ho.2.1
   |exact⟨ho.2.1,ho.2.2.1⟩
   |exact⟨ho.1,ho.2.1⟩
   |exact⟨ho.1,ho.2,beq_eq_false_iff_ne.1 (hne x.index ho.2.1 ho.2.2)⟩
 ·have h1':∀n:Int,1<=n->n<=19->(x.kind==n)=false:=λn a b=>by
   simp only[beq_eq_false_iff_ne];omega
  have:kW x.kind = -1:=by simp[kW,h1']
  rw[this]at h1;cases h1
end Go.Fw.Rg
namespace Go.Fw.Rg
open Go.Fw Go.Fw.Ref15
variable [ah] {k i m : Int} {p : Pr} {n : Nat}
def z99:Except Int Sp->D
 | .ok s=>.tuple [.i s.1,.i s.2,.i 0]
 | .error e=>.tuple [.i 0,.i 0,.i e]
theorem z4y(h:qN p n k i m=true)(hk:(k==3)=true):0<=i/\i<p.params.length:=by
 have:k=3:=by simpa using hk
 subst this
 have h:(decide (0<=i)&&decide (i<p.params.length))=true:=h
 simpa using h
theorem Yt(h:qN p n k i m=true)(hk:(k==4)=true):0<=i/\i<p.states.length:=by
 have:k=4:=by simpa using hk
 subst this
 have h:(decide (0<=i)&&decide (i<p.states.length))=true:=h
 simpa using h
theorem Tm(h:qN p n k i m=true)(hk:(k==5)=true):0<=i/\i<n:=by
 have:k=5:=by simpa using hk
 subst this
 have h:(decide (0<=i)&&decide (i<n))=true:=h
 simpa using h
theorem Yu(h:qN p n k i m=true)(hk:(k==8)=true):0<=i/\i<p.lines.length:=by
 have:k=8:=by simpa using hk
 subst this
 have h:(decide (0<=i)&&decide (i<p.lines.length))=true:=h
 simpa using h
theorem Yv(h:qN p n k i m=true)(hk:(k==9)=true):0<=i/\i<p.tables.length/\aO p i ≠ []:=by
 have:k=9:=by simpa using hk
 subst this
 have h:(decide (0<=i)&&decide (i<p.tables.length) && !(aO p i==[]))=true:=h
 simp only[Bool.and_eq_true,decide_eq_true_eq,Bool.not_eq_true',beq_eq_false_iff_ne]at h
 exact⟨h.1.1,h.1.2,h.2⟩
theorem z0i(h:qN p n k i m=true)(hk:(k==18)=true):1<=m:=by
 have:k=18:=by simpa using hk
 subst this
 have h:(decide (1<=m)&&decide (m<=2147483648))=true:=h
 simp only[Bool.and_eq_true,decide_eq_true_eq]at h;exact h.1
theorem z4z{found l:List Sp}(c:Int)(hk:(k==c)=true):opM p found k i m l=opM p found c i m l:=by
 have:k=c:=by simpa using hk
 rw[this]
theorem z0j{c:Prop}[Decidable c]{a b:Except Int Sp}{e:Int}{P:Prop}(h:(if c then a else b) = .error e)(ha:a = .error e->P)(hb:b = .error e->P):P:=by
 split at h
 ·exact ha h
 ·exact hb h
theorem z0k{found:List Sp}:∀(x:Ex) (e:Int),dN p found x = .error e->e=160\/e=161:=by
 have hO:∀(k i m:Int) (l:List Sp) (e:Int),opM p found k i m l = .error e->e=160\/e=161:=by
  intro k i m l e h
  unfold opM at h
  repeat' (refine z0j h ?_ ?_<;>(clear h;intro h))
  all_goals first
   |(cases h;done)
   |(cases h;exact .inl rfl)
   |(cases h;exact .inr rfl)
 refine Ex.ind λx ih e h=>?_
 have hL:∀(l:List Ex),(∀y∈l,y∈x.l)->∀e,di p found l = .error e->e=160\/e=161:=by
  intro l
  induction l with
  |nil=>intro _ e h;rw[di]at h;cases h
  |cons y r ihr=>
   intro hl e h
   rw[di]at h
   cases hy:dN p found y with
   |error e'=>rw[hy]at h;cases h;exact ih y (hl y (by simp)) _ hy
   |ok s=>
    rw[hy]at h
    simp only at h
    cases hr:di p found r with
    |error e'=>rw[hr]at h;cases h;exact ihr (λz hz=>hl z (by simp[hz])) _ hr
    |ok t=>rw[hr]at h;cases h
 rw[jD]at h
 cases hl:di p found x.l with
 |error e'=>rw[hl]at h;cases h;exact hL _ (λ_ h=>h) _ hl
 |ok s=>rw[hl]at h;exact hO _ _ _ _ _ h
end Go.Fw.Rg
namespace Go.Fw.Rg
open Go.Fw Go.Fw.Ref15
variable [ah]
def aH(p:Pr):List Sp×Int:=if(resE p != 0)=true then([],resE p)else match bM p p.stmts []with
 | .ok F=>(F,0)
 | .error e=>([],e)
def Eo(p:Pr)(x:Ex):Bool:=(eu p x 512).2
def gu(p:Pr)(x:Ex):Except Int Sp:=if((aH p).2 != 0)=true then .error (aH p).2 else if Eo p x then dN p (aH p).1 x else .error 150
theorem pY{p:Pr}{F:List Sp}(h:resE p=0)(h2:bM p p.stmts [] = .ok F):aH p=(F,0):=by
 have h:¬((resE p != 0)=true):=by rw[h];decide
 rw[aH,if_neg h,h2]
theorem zT{p:Pr}{e:Int}(h:resE p=0)(h2:bM p p.stmts [] = .error e):aH p=([],e):=by
 have h:¬((resE p != 0)=true):=by rw[h];decide
 rw[aH,if_neg h,h2]
theorem qc{p:Pr}(h:(resE p != 0)=true):aH p=([],resE p):=by rw[aH,if_pos h]
theorem Yw{p:Pr}:∀(r:List Sm) (fs:List Sp) (e:Int),bM p r fs = .error e->e=160\/e=161
 | [],fs,e,h=>by rw[bM]at h;cases h
 |s::r,fs,e,h=>by
  rw[bM]at h
  cases hf:dN p fs s.x with
  |error e'=>rw[hf]at h;cases h;exact z0k _ _ hf
  |ok f=>
   rw[hf]at h
   simp only at h
   split at h
   ·exact Yw r _ e h
   ·cases h;exact .inr rfl
theorem Tn{p:Pr}{e:Int}(h:bM p p.stmts [] = .error e):(e != 0)=true:=by
 rcases Yw _ _ _ h with r |r<;>subst r<;>rfl
structure BOk(p:Pr)(F:List Sp):Prop where
 res:Res p
 run:bM p p.stmts [] = .ok F
 len:F.length=p.stmts.length
 ins:InS F
theorem Tq{p:Pr}(hR:Rng p):∀(r:List Sm) (i:Nat) (fs F:List Sp),ut p i r=true->fs.length=i->InS fs->bM p r fs = .ok F->F.length=i+r.length/\InS F
 | [],i,fs,F,_,hl,hi,h=>by rw[bM]at h;cases h;exact⟨by simp[hl],hi⟩
 |s::r,i,fs,F,hw,hl,hi,h=>by
  rw[bM]at h
  cases hf:dN p fs s.x with
  |error e'=>rw[hf]at h;cases h
  |ok f=>
   rw[hf]at h
   simp only at h
   split at h
   ·have hq:=xW hR hi _ _ (by rw[hl];exact SA hw) hf
    have:=Tq hR r (i+1) (fs++[f]) F (pg hw) (by simp[hl]) (D8 hi hq) h
    exact⟨by simp only[List.length_cons];omega,this.2⟩
   ·cases h
theorem z5a{p:Pr}{F:List Sp}(h:resE p=0)(h2:bM p p.stmts [] = .ok F):BOk p F:=by
 have hr:=xZ h
 have:=Tq hr.rng p.stmts 0 [] F hr.wf rfl (λs hs=>by simp at hs) h2
 exact⟨hr,h2,by simpa using this.1,this.2⟩
theorem lJ{p:Pr}(h:(aH p).2=0):BOk p (aH p).1/\resE p=0:=by
 cases hz:resE p != 0 with
 |true=>rw[qc hz]at h;have h:resE p=0:=h;rw[h]at hz;exact absurd hz (by decide)
 |false=>
  have hz:resE p=0:=by simpa using hz
  cases hs:bM p p.stmts []with
  |error e=>rw[zT hz hs]at h;have h:e=0:=h;have:=Tn hs;rw[h]at this;exact absurd this (by decide)
  |ok F=>rw[pY hz hs];exact⟨z5a hz hs,hz⟩
theorem JJ(p:Pr)(x:Ex):decide (nX p x 512>0)=Eo p x:=by
 have h:=ww p x 512
 have hr:=x9 p x 512 (by decide)
 cases hb:Eo p x with
 |true=>have hb':(eu p x 512).2=true:=hb;rw[h.1 hb'];have:=hr.2.2 hb';exact decide_eq_true (by omega)
 |false=>have hb':(eu p x 512).2=false:=hb;rw[h.2 hb'];rfl
theorem z5b{p:Pr}{F:List Sp}{x:Ex}(h:BOk p F)(hx:Eo p x=true):wfX p F.length x=true:=by
 rw[h.len];exact z0h h.res.tb x 512 hx
theorem z0l{p:Pr}{x:Ex}(h:((aH p).2 != 0)=true):gu p x = .error (aH p).2:=by rw[gu,if_pos h]
theorem Tt{p:Pr}{x:Ex}(h:(aH p).2=0)(hx:Eo p x=false):gu p x = .error 150:=by
 rw[gu,if_neg (by rw[h];decide),hx];rfl
theorem Tu{p:Pr}{x:Ex}(h:(aH p).2=0)(hx:Eo p x=true):gu p x=dN p (aH p).1 x:=by
 rw[gu,if_neg (by rw[h];decide),hx];rfl
theorem stmF_ok'{p:Pr}:∀(r:List Sm) (fs F:List Sp),bM p r fs = .ok F->gX p r fs=F
 | [],fs,F,h=>by rw[bM]at h;cases h;rfl
 |s::r,fs,F,h=>by
  rw[bM]at h
  rw[gX]
  cases hf:dN p fs s.x with
  |error e'=>rw[hf]at h;cases h
  |ok f=>
   rw[hf]at h
   simp only at h ⊢
   split at h
   ·rename_i hw;rw[if_pos hw];exact stmF_ok' r _ F h
   ·cases h
theorem z0m{p:Pr}{F:List Sp}(h:bM p p.stmts [] = .ok F):gX p p.stmts []=F:=stmF_ok' _ _ _ h
mutual
def esz:Ex->Nat
 | .mk _ nm _ _ l=>1+nm.length+z0n l
def z0n:List Ex->Nat
 | []=>0
 |x::r=>esz x+z0n r
end
theorem Yx(x:Ex):esz x=1+x.name.length+z0n x.l:=by cases x;rw[esz];rfl
structure z94(p:Pr):Prop where
 nm:p.name.length<=1073741824
 par:∀b∈p.params,b.name.length<=1073741824
 sta:∀b∈p.states,b.name.length<=1073741824
 lin:∀b∈p.lines,b.name.length<=1073741824
 tab:∀t∈p.tables,t.name.length<=1073741824/\t.values.length<=1073741824
 stm:∀s∈p.stmts,s.name.length<=1073741824/\esz s.x<=1048576
theorem Tv{p:Pr}(h:p.params.length<=4/\p.states.length<=4/\p.lines.length<=4/\p.tables.length<=4/\p.stmts.length<=4/\(p.stmts.all λs=>Nat.ble (Ref15.nodes s.x) 100)=true/\(p.tables.all λt=>Nat.ble t.values.length 100)=true):gq p:=by
 obtain⟨h1,h2,h3,h4,h5,h6,h7⟩:=h
 refine⟨⟨by omega,by omega,by omega,by omega,by omega⟩,λs hs=>?_,λt ht=>?_⟩
 ·have:=Nat.le_of_ble_eq_true (List.all_eq_true.1 h6 s hs);omega
 ·have:=Nat.le_of_ble_eq_true (List.all_eq_true.1 h7 t ht);omega
def MV(s' s:Sp):Prop:=s.1<=s'.1/\s'.1<=s'.2/\s'.2<=s.2
def Ve(l' l:List Sp):Prop:=∀i:Nat,MV (l'.getD i (0,0)) (l.getD i (0,0))
theorem kY{s:Sp}(h:s.1<=s.2):MV s s:=⟨Int.le_refl _,h,Int.le_refl _⟩
theorem WM:Ve [] []:=λi=>by simp[MV]
theorem Tz{a b:Sp}{l m:List Sp}(h:MV a b)(h2:Ve l m):Ve (a::l) (b::m):=λi=>by
 cases i with
 |zero=>exact h
 |succ i=>simpa using h2 i
theorem rU{a b x y:Int}(h1:a<=x)(h2:x<=b):(a * y<=x * y/\x * y<=b * y)\/(b * y<=x * y/\x * y<=a * y):=by
 by_cases hy:0<=y
 ·exact .inl ⟨Int.mul_le_mul_of_nonneg_right h1 hy,Int.mul_le_mul_of_nonneg_right h2 hy⟩
 ·exact .inr ⟨Int.mul_le_mul_of_nonpos_right h2 (by omega),Int.mul_le_mul_of_nonpos_right h1 (by omega)⟩
theorem z0o{a1 a2 b1 b2 x y L H:Int}(h1:a1<=x)(h2:x<=a2)(h3:b1<=y)(h4:y<=b2)(c1:L<=a1 * b1/\a1 * b1<=H)(c2:L<=a1 * b2/\a1 * b2<=H)(c3:L<=a2 * b1/\a2 * b1<=H)(c4:L<=a2 * b2/\a2 * b2<=H):L<=x * y/\x * y<=H:=by
 have e1:L<=x * b1/\x * b1<=H:=by
  rcases rU (y:=b1) h1 h2 with h |h<;>omega
 have e2:L<=x * b2/\x * b2<=H:=by
  rcases rU (y:=b2) h1 h2 with h |h<;>omega
 rcases rU (y:=x) h3 h4 with h |h<;>rw[Int.mul_comm b1,Int.mul_comm b2,Int.mul_comm y]at h<;>omega
theorem TA(a b c d:Int):MB a b c d<=a/\MB a b c d<=b/\MB a b c d<=c/\MB a b c d<=d:=by
 simp only[MB,mm2];(repeat' split)<;>omega
theorem TB(a b c d:Int):a<=MC a b c d/\b<=MC a b c d/\c<=MC a b c d/\d<=MC a b c d:=by
 simp only[MC,mm2];(repeat' split)<;>omega
theorem MW{a b c d L:Int}(h1:L<=a)(h2:L<=b)(h3:L<=c)(h4:L<=d):L<=MB a b c d:=by
 simp only[MB,mm2];(repeat' split)<;>omega
theorem MX{a b c d H:Int}(h1:a<=H)(h2:b<=H)(h3:c<=H)(h4:d<=H):MC a b c d<=H:=by
 simp only[MC,mm2];(repeat' split)<;>omega
theorem WN{a b a' b' s:Sp}(h:prodM a b = .ok s)(ha:MV a' a)(hb:MV b' b):∃s',prodM a' b' = .ok s'/\MV s' s:=by
 obtain⟨rfl,w1,w2,w3,w4⟩:=MJ h
 obtain⟨n1,n2,n3,n4⟩:=TA (a.1 * b.1) (a.1 * b.2) (a.2 * b.1) (a.2 * b.2)
 obtain⟨m1,m2,m3,m4⟩:=TB (a.1 * b.1) (a.1 * b.2) (a.2 * b.1) (a.2 * b.2)
 obtain⟨p1,p2,p3⟩:=ha
 obtain⟨q1,q2,q3⟩:=hb
 have hin:∀x y:Int,a.1<=x->x<=a.2->b.1<=y->y<=b.2->MB (a.1 * b.1) (a.1 * b.2) (a.2 * b.1) (a.2 * b.2)<=x * y/\x * y<=MC (a.1 * b.1) (a.1 * b.2) (a.2 * b.1) (a.2 * b.2):=λx y g1 g2 g3 g4=>z0o g1 g2 g3 g4 ⟨n1,m1⟩ ⟨n2,m2⟩ ⟨n3,m3⟩ ⟨n4,m4⟩
 have k1:=hin a'.1 b'.1 (by omega) (by omega) (by omega) (by omega)
 have k2:=hin a'.1 b'.2 (by omega) (by omega) (by omega) (by omega)
 have k3:=hin a'.2 b'.1 (by omega) (by omega) (by omega) (by omega)
 have k4:=hin a'.2 b'.2 (by omega) (by omega) (by omega) (by omega)
 have lo:-4611686018427387904<=MB (a.1 * b.1) (a.1 * b.2) (a.2 * b.1) (a.2 * b.2):=by
  have:=bZ.1 w1;have:=bZ.1 w2;have:=bZ.1 w3;have:=bZ.1 w4
  exact MW (by omega) (by omega) (by omega) (by omega)
 have hi:MC (a.1 * b.1) (a.1 * b.2) (a.2 * b.1) (a.2 * b.2)<=4611686018427387904:=by
  have:=bZ.1 w1;have:=bZ.1 w2;have:=bZ.1 w3;have:=bZ.1 w4
  exact MX (by omega) (by omega) (by omega) (by omega)
 refine⟨(MB (a'.1 * b'.1) (a'.1 * b'.2) (a'.2 * b'.1) (a'.2 * b'.2),MC (a'.1 * b'.1) (a'.1 * b'.2) (a'.2 * b'.1) (a'.2 * b'.2)),?_,?_,?_,?_⟩
 ·rw[prodM,bZ.2 (show _<=a'.1 * b'.1/\_ by omega),bZ.2 (show _<=a'.1 * b'.2/\_ by omega),bZ.2 (show _<=a'.2 * b'.1/\_ by omega),bZ.2 (show _<=a'.2 * b'.2/\_ by omega)];rfl
 ·exact MW k1.1 k2.1 k3.1 k4.1
 ·exact Int.le_trans (TA _ _ _ _).1 (TB _ _ _ _).1
 ·exact MX k1.2 k2.2 k3.2 k4.2
theorem TC{a b c d a' b' c' d':Int}{s:Sp}(h:two (a+b) (c+d) = .ok s)(h1:a<=a')(h2:b<=b')(h3:c'<=c)(h4:d'<=d)(h5:a'+b'<=c'+d'):∃s',two (a'+b') (c'+d') = .ok s'/\MV s' s:=by
 obtain⟨rfl,w1,w2⟩:=JA h
 have w1:=bZ.1 w1;have w2:=bZ.1 w2
 refine⟨(a'+b',c'+d'),?_,by simp only;omega,by simp only;omega,by simp only;omega⟩
 rw[two,bZ.2 (show _<=a'+b'/\_ by omega),bZ.2 (show _<=c'+d'/\_ by omega)];rfl
theorem zU{a b:Int}(h:a<=b):qw a<=qw b:=by
 simp only[qw];(repeat' split)<;>omega
theorem lK{t:Bool}{a b a' b':Int}(h1:a<=a')(h2:b<=b'):mm2 t a b<=mm2 t a' b':=by
 cases t<;>simp only[mm2]<;>(repeat' split)<;>omega
theorem z0p{a a':Sp}(h:MV a' a):MV (RX a') (RX a):=by
 obtain⟨h1,h2,h3⟩:=h
 simp only[RX,mm2]
 (repeat' split)<;>simp only[MV]<;>omega
structure Nar(p' p:Pr):Prop where
 par:∀i:Nat,(p.params.getD i Bd.none).lo<=(p'.params.getD i Bd.none).lo/\(p'.params.getD i Bd.none).lo<=(p'.params.getD i Bd.none).hi/\(p'.params.getD i Bd.none).hi<=(p.params.getD i Bd.none).hi
 sta:p'.states=p.states
 lin:p'.lines=p.lines
 tab:p'.tables=p.tables
theorem WO{p:Pr}(hR:Rng p):Nar p p:=by
 refine⟨λi=>?_,rfl,rfl,rfl⟩
 rw[List.getD_eq_getElem?_getD]
 cases h:p.params[i]? with
 |none=>exact⟨Int.le_refl _,Int.le_refl _,Int.le_refl _⟩
 |some b=>have:=hR.par b (List.mem_of_getElem? h);exact⟨Int.le_refl _,this.2.1,Int.le_refl _⟩
theorem z5c(m:Int)(l:List Int):minL m l<=maxL m l:=Int.le_trans (Jy l m).1 (Jz l m).1
theorem z0q{p p':Pr}{found found' l l':List Sp}{k i m:Int}{s:Sp}{n:Nat}(hR:Rng p)(hp:Nar p' p)(hF:Ve found' found)(hl:Ve l' l)(hw:qN p n k i m=true)(h:opM p found k i m l = .ok s):∃s',opM p' found' k i m l' = .ok s'/\MV s' s:=by
 have h0:=hl 0;have h1:=hl 1;have h2:=hl 2;have h3:=hl 3
 rcases kinds hw with r |r |r |r |r |r |r |r |r |r |r |r |r |r |r |r |r |r<;>subst r
 ·cases (show(Except.ok (m,m):Except Int Sp) = .ok s from h);exact⟨_,rfl,kY (Int.le_refl _)⟩
 ·cases (show(Except.ok ((jS p i).lo,(jS p i).hi):Except Int Sp) = .ok s from h);exact⟨_,rfl,hp.par i.toNat⟩
 ·cases (show(Except.ok ((bU p i).lo,(bU p i).hi):Except Int Sp) = .ok s from h)
  refine⟨((bU p i).lo,(bU p i).hi),?_,kY ?_⟩
  ·show(Except.ok ((bU p' i).lo,(bU p' i).hi):Except Int Sp)=_
   rw[bU,hp.sta]
  ·have hq:=Yt hw rfl
   exact(hR.sta _ (getD_mem' Bd.none hq.1 hq.2)).2.1
 ·cases (show(Except.ok (found.getD i.toNat (0,0)):Except Int Sp) = .ok s from h);exact⟨_,rfl,hF i.toNat⟩
 ·have h:aheadM (l.getD 0 (0,0)) = .ok s:=h
  have hs:=uq h
  refine⟨s,?_,by subst hs;exact kY (by decide)⟩
  show aheadM (l'.getD 0 (0,0)) = .ok s
  subst hs
  rw[aheadM]at h ⊢
  split at h
  ·cases h
  ·rename_i hq
   simp only[Bool.or_eq_true,decide_eq_true_eq,not_or]at hq
   obtain⟨g1,g2,g3⟩:=h0
   rw[if_neg]
   simp only[Bool.or_eq_true,decide_eq_true_eq,not_or];omega
 ·have h:aheadM (l.getD 0 (0,0)) = .ok s:=h
  have hs:=uq h
  refine⟨s,?_,by subst hs;exact kY (by decide)⟩
  show aheadM (l'.getD 0 (0,0)) = .ok s
  subst hs
  rw[aheadM]at h ⊢
  split at h
  ·cases h
  ·rename_i hq
   simp only[Bool.or_eq_true,decide_eq_true_eq,not_or]at hq
   obtain⟨g1,g2,g3⟩:=h0
   rw[if_neg]
   simp only[Bool.or_eq_true,decide_eq_true_eq,not_or];omega
 ·cases (show(Except.ok (mm2 false (cu p i).lo 0,mm2 true (cu p i).hi 0):Except Int Sp) = .ok s from h)
  refine⟨(mm2 false (cu p i).lo 0,mm2 true (cu p i).hi 0),?_,kY ?_⟩
  ·show(Except.ok (mm2 false (cu p' i).lo 0,mm2 true (cu p' i).hi 0):Except Int Sp)=_
   rw[cu,hp.lin]
  ·simp only[mm2];(repeat' split)<;>omega
 ·cases (show(Except.ok (minL ((aO p i).getD 0 0) (aO p i),maxL ((aO p i).getD 0 0) (aO p i)):Except Int Sp) = .ok s from h)
  refine⟨(minL ((aO p i).getD 0 0) (aO p i),maxL ((aO p i).getD 0 0) (aO p i)),?_,kY (z5c _ _)⟩
  show(Except.ok (minL ((aO p' i).getD 0 0) (aO p' i),maxL ((aO p' i).getD 0 0) (aO p' i)):Except Int Sp)=_
  rw[aO,hp.tab]
 ·cases (show(Except.ok (qw (l.getD 0 (0,0)).1,qw (l.getD 0 (0,0)).2):Except Int Sp) = .ok s from h)
  exact⟨_,rfl,zU h0.1,zU h0.2.1,zU h0.2.2⟩
 ·cases (show(Except.ok (mm2 false (l.getD 0 (0,0)).1 (l.getD 1 (0,0)).1,mm2 false (l.getD 0 (0,0)).2 (l.getD 1 (0,0)).2):Except Int Sp) = .ok s from h)
  exact⟨_,rfl,lK (t:=false) h0.1 h1.1,lK (t:=false) h0.2.1 h1.2.1,lK (t:=false) h0.2.2 h1.2.2⟩
 ·cases (show(Except.ok (mm2 true (l.getD 0 (0,0)).1 (l.getD 1 (0,0)).1,mm2 true (l.getD 0 (0,0)).2 (l.getD 1 (0,0)).2):Except Int Sp) = .ok s from h)
  exact⟨_,rfl,lK (t:=true) h0.1 h1.1,lK (t:=true) h0.2.1 h1.2.1,lK (t:=true) h0.2.2 h1.2.2⟩
 ·cases (show(Except.ok (RX (l.getD 0 (0,0))):Except Int Sp) = .ok s from h)
  exact⟨_,rfl,z0p h0⟩
 ·cases (show(Except.ok (-(l.getD 0 (0,0)).2,-(l.getD 0 (0,0)).1):Except Int Sp) = .ok s from h)
  obtain⟨g1,g2,g3⟩:=h0
  exact⟨_,rfl,by simp only[MV];omega⟩
 ·obtain⟨g1,g2,g3⟩:=h0;obtain⟨k1,k2,k3⟩:=h1
  exact TC (show two ((l.getD 0 (0,0)).1+(l.getD 1 (0,0)).1) ((l.getD 0 (0,0)).2+(l.getD 1 (0,0)).2) = .ok s from h) g1 k1 g3 k3 (by omega)
 ·obtain⟨g1,g2,g3⟩:=h0;obtain⟨k1,k2,k3⟩:=h1
  exact TC (show two ((l.getD 0 (0,0)).1 + -(l.getD 1 (0,0)).2) ((l.getD 0 (0,0)).2 + -(l.getD 1 (0,0)).1) = .ok s from h) g1 (by omega) g3 (by omega) (by omega)
 ·exact WN (show prodM (l.getD 0 (0,0)) (l.getD 1 (0,0)) = .ok s from h) h0 h1
 ·cases (show(Except.ok (o9 (l.getD 0 (0,0)).1 m,o9 (l.getD 0 (0,0)).2 m):Except Int Sp) = .ok s from h)
  have hm:=z0i hw rfl
  obtain⟨g1,g2,g3⟩:=h0
  exact⟨_,rfl,Int.ediv_le_ediv (by omega) g1,Int.ediv_le_ediv (by omega) g2,Int.ediv_le_ediv (by omega) g3⟩
 ·cases (show(Except.ok (mm2 false (l.getD 2 (0,0)).1 (l.getD 3 (0,0)).1,mm2 true (l.getD 2 (0,0)).2 (l.getD 3 (0,0)).2):Except Int Sp) = .ok s from h)
  obtain⟨g1,g2,g3⟩:=h2
  refine⟨_,rfl,lK (t:=false) g1 h3.1,?_,lK (t:=true) g3 h3.2.2⟩
  simp only[mm2];(repeat' split)<;>omega
mutual
theorem GM{p p':Pr}{found found':List Sp}(hR:Rng p)(hp:Nar p' p)(hF:Ve found' found):∀(x:Ex) (s:Sp),wfX p found.length x=true->dN p found x = .ok s->∃s',dN p' found' x = .ok s'/\MV s' s
 | .mk k nm i m l,s,hw,h=>by
  obtain⟨_,g2,g3⟩:=bG hw
  rw[jD]at h
  rw[jD]
  simp only[Ex.l,Ex.kind,Ex.index,Ex.n]at h g2 g3 ⊢
  cases hl:di p found l with
  |error e=>rw[hl]at h;cases h
  |ok t=>
   rw[hl]at h
   obtain⟨t',ht,hs⟩:=GN hR hp hF l t g3 hl
   rw[ht]
   exact z0q hR hp hF hs g2 h
theorem GN{p p':Pr}{found found':List Sp}(hR:Rng p)(hp:Nar p' p)(hF:Ve found' found):∀(l:List Ex) (t:List Sp),wfL p found.length l=true->di p found l = .ok t->∃t',di p' found' l = .ok t'/\Ve t' t
 | [],t,_,h=>by rw[di]at h;cases h;exact⟨[],rfl,WM⟩
 |x::r,t,hw,h=>by
  simp only[wfL,Bool.and_eq_true]at hw
  rw[di]at h
  cases hx:dN p found x with
  |error e=>rw[hx]at h;cases h
  |ok s=>
   rw[hx]at h
   simp only at h
   cases hr:di p found r with
   |error e=>rw[hr]at h;cases h
   |ok u=>
    rw[hr]at h
    cases h
    obtain⟨s',hs,hi⟩:=GM hR hp hF x s hw.1 hx
    obtain⟨u',hu,hj⟩:=GN hR hp hF r u hw.2 hr
    exact⟨s'::u',by rw[di,hs,hu],Tz hi hj⟩
end
theorem GR{p:Pr}{found:List Sp}(hR:Rng p)(hF:Ve found found){x:Ex}{s:Sp}(hw:wfX p found.length x=true)(h:dN p found x = .ok s):s.1<=s.2:=by
 obtain⟨s',hs,hi⟩:=GM hR (WO hR) hF x s hw h
 rw[h]at hs;cases hs;exact hi.2.1
structure FOk(found:List Sp):Prop where
 ins:InS found
 ord:∀s∈found,s.1<=s.2
theorem FOk.sub{found:List Sp}(h:FOk found):Ve found found:=λi=>by
 rw[List.getD_eq_getElem?_getD]
 cases hq:found[i]? with
 |none=>exact⟨Int.le_refl _,Int.le_refl _,Int.le_refl _⟩
 |some s=>exact kY (h.ord s (List.mem_of_getElem? hq))
theorem Ci{p:Pr}{found:List Sp}:∀{l:List Ex} {t:List Sp},di p found l = .ok t->∀y∈l,∃s,dN p found y = .ok s
 |x::r,t,h,y,hy=>by
  rw[di]at h
  cases hx:dN p found x with
  |error e=>rw[hx]at h;cases h
  |ok s=>
   rw[hx]at h
   simp only at h
   cases hr:di p found r with
   |error e=>rw[hr]at h;cases h
   |ok u=>
    rcases List.mem_cons.1 hy with rfl |hy
    ·exact⟨s,hx⟩
    ·exact Ci hr y hy
theorem TD{p:Pr}(hR:Rng p):∀(r:List Sm) (i:Nat) (fs F:List Sp),ut p i r=true->fs.length=i->FOk fs->bM p r fs = .ok F->FOk F
 | [],i,fs,F,_,hl,hi,h=>by rw[bM]at h;cases h;exact hi
 |s::r,i,fs,F,hw,hl,hi,h=>by
  rw[bM]at h
  cases hf:dN p fs s.x with
  |error e'=>rw[hf]at h;cases h
  |ok f=>
   rw[hf]at h
   simp only at h
   have hx:wfX p fs.length s.x=true:=by rw[hl];exact SA hw
   split at h
   ·refine TD hR r (i+1) (fs++[f]) F (pg hw) (by simp[hl]) ⟨D8 hi.ins (xW hR hi.ins _ _ hx hf),λs hs=>?_⟩ h
    rcases List.mem_append.1 hs with q |q
    ·exact hi.ord s q
    ·rw[List.mem_singleton.1 q];exact GR hR hi.sub hx hf
   ·cases h
theorem BOk.fok{p:Pr}{F:List Sp}(h:BOk p F):FOk F:=TD h.res.rng p.stmts 0 [] F h.res.wf rfl ⟨λs hs=>by simp at hs,λs hs=>by simp at hs⟩ h.run
theorem JK{p:Pr}:∀(r:List Sm) (fs F:List Sp),bM p r fs = .ok F->∃t,F=fs++t
 | [],fs,F,h=>by rw[bM]at h;cases h;exact⟨[],by simp⟩
 |s::r,fs,F,h=>by
  rw[bM]at h
  cases hf:dN p fs s.x with
  |error e'=>rw[hf]at h;cases h
  |ok f=>
   rw[hf]at h
   simp only at h
   split at h
   ·obtain⟨t,rfl⟩:=JK r _ F h;exact⟨f::t,by simp⟩
   ·cases h
theorem GU{p:Pr}{F:List Sp}(h:bM p p.stmts [] = .ok F):∀i,i<=p.stmts.length->bM p (p.stmts.drop i) (F.take i) = .ok F/\(F.take i).length=i
 | 0,_=>by simpa using h
 |i+1,hi=>by
  obtain⟨h1,h2⟩:=GU h i (by omega)
  have hd:p.stmts.drop i=p.stmts[i]::p.stmts.drop (i+1):=List.drop_eq_getElem_cons (by omega)
  rw[hd,bM]at h1
  cases hf:dN p (F.take i) p.stmts[i].x with
  |error e'=>rw[hf]at h1;cases h1
  |ok f=>
   rw[hf]at h1
   simp only at h1
   split at h1
   ·obtain⟨t,ht⟩:=JK _ _ _ h1
    have e:F.take (i+1)=F.take i++[f]:=by
     have:F.take (i+1)=(F.take i++[f]++t).take (i+1):=by rw[<-ht]
     rw[this,List.take_append_of_le_length (by simp[h2])]
     exact List.take_of_length_le (by simp[h2])
    rw[e];exact⟨h1,by simp[h2]⟩
   ·cases h1
theorem GV{p:Pr}:∀(r:List Sm) (k i:Nat),ut p k r=true->ut p (k+i) (r.drop i)=true
 |r,k,0,h=>by simpa using h
 | [],k,i+1,_=>by simp[ut]
 |s::r,k,i+1,h=>by
  have:=GV r (k+1) i (pg h)
  rw[show k+1+i=k+(i+1)by omega]at this
  simpa using this
structure zaa(p:Pr)(F:List Sp)(i:Nat)(s:Sm):Prop where
 lt:i<F.length
 run:dN p (F.take i) s.x = .ok (F.getD i (0,0))
 win:within p s (F.getD i (0,0))=true
 wf:wfS p i s=true
 len:(F.take i).length=i
theorem z8l{p:Pr}{F:List Sp}{i:Nat}{s:Sm}{r:List Sm}(h:BOk p F)(hd:p.stmts.drop i=s::r):zaa p F i s:=by
 have hi:i<p.stmts.length:=by
  by_cases hq:i<p.stmts.length
  ·exact hq
  ·rw[List.drop_eq_nil_iff.2 (by omega)]at hd;cases hd
 obtain⟨h1,h2⟩:=GU h.run i (by omega)
 have hw:=GV p.stmts 0 i h.res.wf
 rw[hd,Nat.zero_add]at hw
 rw[hd,bM]at h1
 cases hf:dN p (F.take i) s.x with
 |error e'=>rw[hf]at h1;cases h1
 |ok f=>
  rw[hf]at h1
  simp only at h1
  split at h1
  ·rename_i hwi
   obtain⟨t,ht⟩:=JK _ _ _ h1
   have hl:i<F.length:=by rw[h.len];exact hi
   have e:F.getD i (0,0)=f:=by
    rw[List.getD_eq_getElem?_getD]
    have:F[i]? = some f:=by
     rw[ht,List.append_assoc,List.getElem?_append_right (by omega),h2];simp
    rw[this];rfl
   refine⟨hl,by rw[e];exact hf,by rw[e];exact hwi,?_,h2⟩
   simp only[ut,Bool.and_eq_true]at hw;exact hw.1
  ·cases h1
theorem Cj{s:Str}:∀(l:List Sm) (i:Int),0<=i->0<=aB s l i->i<=aB s l i/\((l.getD (aB s l i-i).toNat Sm.none).kind==1)=true
 | [],i,_,h=>by simp[aB]at h
 |x::r,i,hi,h=>by
  simp only[aB]at h ⊢
  split
  ·rename_i hq
   simp only[Bool.and_eq_true]at hq
   refine⟨Int.le_refl _,?_⟩
   rw[show(i-i).toNat=0 by omega];exact hq.1
  ·rename_i hq
   rw[if_neg hq]at h
   obtain⟨a,b⟩:=Cj r (i+1) (by omega) h
   refine⟨by omega,?_⟩
   rw[show(aB s r (i+1)-i).toNat=(aB s r (i+1)-(i+1)).toNat+1 by omega];exact b
end Go.Fw.Rg
