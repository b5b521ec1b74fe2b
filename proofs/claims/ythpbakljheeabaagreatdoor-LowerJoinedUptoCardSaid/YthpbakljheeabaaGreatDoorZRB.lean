/- Package ranges in plain words: a whole processor. -/
import Derived.Test.YthpbakljheeabaaGreatDoorZRA
import Derived.Test.YthpbakljheeabaaGreatDoorZPX
set_option linter.unusedSectionVars false
set_option linter.unusedSimpArgs false
set_option linter.unusedVariables false
namespace Go.Fw.Rg
open Go.Fw Go.Fw.Ref15
variable [af]
structure jc(p:Pr):Prop where
 sm:p.Small
 hn:∀s∈p.stmts,Ref15.nodes s.x<=1073741824
 hT:∀t∈p.tables,t.values.length<=1073741824
theorem jc.hl{p:Pr}(g:jc p):p.stmts.length<=1073741824:=by have:=g.sm.stmts;omega
def resE(p:Pr):Int:=if(Nam.resolveC p).2 != 0 then(Nam.resolveC p).2 else if qG p (Nam.resolveC p).1 then 0 else 150
theorem Sl{s:Str}:∀{l:List Str} (i:Int),aV s l i<i+l.length\/aV s l i = -1
 | [],i=>.inr rfl
 |x::r,i=>by
  simp only[aV]
  split
  ·left;simp only[List.length_cons];omega
  ·rcases Sl (s:=s) (l:=r) (i+1)with h |h
   ·left;simp only[List.length_cons];omega
   ·exact .inr h
theorem pM{s:Str}{l:List Str}(h:0<=find l s):find l s<l.length:=by
 rcases Sl (s:=s) (l:=l) 0 with q |q
 ·simpa[find]using q
 ·rw[find]at h;omega
theorem LV{s:Str}:∀{l:List Sm} (i:Int),aC s l i<i+l.length\/aC s l i = -1
 | [],i=>.inr rfl
 |x::r,i=>by
  simp only[aC]
  split
  ·left;simp only[List.length_cons];omega
  ·rcases LV (s:=s) (l:=r) (i+1)with h |h
   ·left;simp only[List.length_cons];omega
   ·exact .inr h
theorem Sr{p:Pr}{s:Str}{b:Nat}(h:0<=given p s b):given p s b<b:=by
 rcases LV (s:=s) (l:=p.stmts.take b) 0 with q |q
 ·rw[given];simp only[List.length_take]at q;omega
 ·rw[given]at h;omega
theorem kR:∀{l:List Ex},formeds l=true->∀y∈l,formed y=true
 |x::r,h,y,hy=>by
  simp only[formeds,Bool.and_eq_true]at h
  rcases List.mem_cons.1 hy with rfl |hy
  ·exact h.1
  ·exact kR h.2 y hy
theorem wJ:∀{l:List Ex},pK l=true->∀y∈l,numbers y=true
 |x::r,h,y,hy=>by
  simp only[pK,Bool.and_eq_true]at h
  rcases List.mem_cons.1 hy with rfl |hy
  ·exact h.1
  ·exact wJ h.2 y hy
theorem nH{p:Pr}{b:Nat}:∀{l:List Ex},cO p b l=(l,true)->∀y∈l,bz p b y=(y,true)
 |x::r,h,y,hy=>by
  simp only[cO,Prod.mk.injEq,List.cons.injEq,Bool.and_eq_true]at h
  rcases List.mem_cons.1 hy with rfl |hy
  ·exact Prod.ext h.1.1 h.2.1
  ·exact nH (Prod.ext h.1.2 h.2.2) y hy
theorem Su{p:Pr}{n:Nat}:∀{l:List Ex},(∀y∈l,wfX p n y=true)->wfL p n l=true
 | [],_=>rfl
 |x::r,h=>by
  simp only[wfL,Bool.and_eq_true]
  exact⟨h x (by simp),Su λy hy=>h y (by simp[hy])⟩
theorem Jm{k:Int}(h:0<=Ref15.parts k):1<=k/\k<=19:=by
 by_cases hk:1<=k/\k<=19
 ·exact hk
 ·exfalso
  have h1:∀n:Int,1<=n->n<=19->(k==n)=false:=λn a b=>by
   simp only[beq_eq_false_iff_ne];omega
  simp[Ref15.parts,h1]at h
theorem z8l{p:Pr}(ht:p.tables.all kH=true)(b:Nat):∀x:Ex,formed x=true->numbers x=true->bz p b x=(x,true)->wfX p b x=true:=by
 refine Ex.ind λx ih hf hn hr=>?_
 rw[formed_eq]at hf
 rw[BF]at hn
 rw[kJ]at hr
 simp only[Bool.and_eq_true,Bool.not_eq_true',Bool.or_eq_false_iff,bne_eq_false_iff_eq,decide_eq_false_iff_not]at hf hn
 obtain⟨⟨⟨⟨f1,f2⟩,f3⟩,f4⟩,f5⟩:=hf
 obtain⟨⟨n1,n2⟩,n3⟩:=hn
 rw[LC]
 have hk:=Jm (k:=x.kind) (by rw[<-f1];omega)
 simp only[Bool.and_eq_true,beq_iff_eq]
 refine⟨⟨f1,?_⟩,?_⟩
 ·by_cases hN:(named x.kind&&x.kind != 8&&x.kind != 9)=true
  ·rw[if_pos hN]at hr
   rw[value]at hr
   simp only at hr
   split at hr
   ·split at hr
    ·have e1:x.kind=5:=congrArg (λq=>q.1.kind) hr.symm
     have e2:given p x.name b=x.index:=congrArg (λq=>q.1.index) hr
     have e3:decide (given p x.name b>=0)=true:=congrArg Prod.snd hr
     have e3:=of_decide_eq_true e3
     have e4:=Sr (b:=b) e3
     rw[uG,e1]
     simp only[e2]at e3 e4
     simp only[(by decide:((5:Int)==1)=false),(by decide:((5:Int)==3)=false),(by decide:((5:Int)==4)=false),(by decide:((5:Int)==5)=true),Bool.false_eq_true,if_false,if_true,Bool.and_eq_true,decide_eq_true_eq]
     omega
    ·have e1:x.kind=4:=congrArg (λq=>q.1.kind) hr.symm
     have e2:find (bounds p.states) x.name=x.index:=congrArg (λq=>q.1.index) hr
     have e3:decide (find (bounds p.states) x.name>=0)=true:=congrArg Prod.snd hr
     have e3:=of_decide_eq_true e3
     have e4:=pM e3
     rw[uG,e1]
     rw[e2]at e3 e4;simp only[bounds,List.length_map]at e4
     simp only[(by decide:((4:Int)==1)=false),(by decide:((4:Int)==3)=false),(by decide:((4:Int)==4)=true),Bool.false_eq_true,if_false,if_true,Bool.and_eq_true,decide_eq_true_eq]
     omega
   ·have e1:x.kind=3:=congrArg (λq=>q.1.kind) hr.symm
    have e2:find (bounds p.params) x.name=x.index:=congrArg (λq=>q.1.index) hr
    have e3:decide (find (bounds p.params) x.name>=0)=true:=congrArg Prod.snd hr
    have e3:=of_decide_eq_true e3
    have e4:=pM e3
    rw[uG,e1]
    rw[e2]at e3 e4;simp only[bounds,List.length_map]at e4
    simp only[(by decide:((3:Int)==1)=false),(by decide:((3:Int)==3)=true),Bool.false_eq_true,if_false,if_true,Bool.and_eq_true,decide_eq_true_eq]
    omega
  ·rw[if_neg hN]at hr
   have e2:iT p x=x.index:=congrArg (λq=>q.1.index) hr
   have e3:(decide (iT p x>=0)&&(cO p b x.l).2)=true:=congrArg Prod.snd hr
   simp only[Bool.and_eq_true,decide_eq_true_eq]at e3
   have e3:=e3.1
   rw[iT]at e2 e3
   rw[uG]
   rcases Nam.kinds_cases hk with h |h |h |h |h |h |h |h |h |h |h |h |h |h |h |h |h |h |h<;>rw[h]at hN n2 e2 e3 ⊢ <;> first
    |exact absurd (by decide) hN
    |rfl
    |skip
   ·simp;omega
   ·simp only[(by decide:((8:Int)==9)=false),(by decide:((8:Int)==8)=true),Bool.false_eq_true,if_false,if_true]at e2 e3
    have e4:=pM e3
    rw[e2]at e3 e4;simp only[Ref15.lines,List.length_map]at e4
    simp;omega
   ·simp only[(by decide:((9:Int)==9)=true),if_true]at e2 e3
    have e4:=pM e3
    rw[e2]at e3 e4;simp only[Ref15.tables,List.length_map]at e4
    have hm:p.tables.getD x.index.toNat Tb.none∈p.tables:=by
     have:x.index.toNat<p.tables.length:=by omega
     rw[List.getD_eq_getElem?_getD,List.getElem?_eq_getElem this];exact List.getElem_mem this
    have hq:=List.all_eq_true.1 ht _ hm
    simp only[kH,Bool.not_eq_true',Bool.or_eq_false_iff,decide_eq_false_iff_not]at hq
    have hne:(aO p x.index==[])=false:=by
     rw[beq_eq_false_iff_ne];intro h0;rw[aO]at h0;rw[h0]at hq;simp at hq
    simp[hne];omega
   ·simp at n2 ⊢;omega
 ·refine Su λy hy=>ih y hy (kR f5 y hy) (wJ n3 y hy) ?_
  by_cases hN:(named x.kind&&x.kind != 8&&x.kind != 9)=true
  ·exfalso
   have:Ref15.parts x.kind=0:=by
    simp only[named,Bool.and_eq_true,bne_iff_ne]at hN
    rcases Nam.kinds_cases hk with h |h |h |h |h |h |h |h |h |h |h |h |h |h |h |h |h |h |h<;>rw[h]at hN ⊢ <;> first |rfl |(exfalso;simp at hN;done)
   rw[this]at f1
   have:x.l.length=0:=by omega
   rw[List.length_eq_zero_iff]at this;rw[this]at hy;simp at hy
  ·rw[if_neg hN]at hr
   have e1:(cO p b x.l).1=x.l:=congrArg (λq=>q.1.l) hr
   have e3:(decide (iT p x>=0)&&(cO p b x.l).2)=true:=congrArg Prod.snd hr
   simp only[Bool.and_eq_true]at e3
   exact nH (Prod.ext e1 e3.2) y hy
theorem DX{p:Pr}{s:Sm}{r l:List Sm}{i:Nat}{out:Bool}(h:di p (s::r) i out = .ok l):(bz p i s.x).2=true/\0<=bZ p s/\again p i s=false/\∃t,di p r (i+1) (s.kind==4) = .ok t/\l=⟨s.kind,s.name,bZ p s,(bz p i s.x).1⟩::t:=by
 rw[di]at h
 split at h
 ·cases h
 ·split at h
  ·cases h
  ·split at h
   ·cases h
   ·rename_i h1 h2 h3
    simp only[Bool.not_eq_true',Bool.not_eq_false,decide_eq_true_eq,Int.not_lt,Bool.not_eq_true]at h1 h2 h3
    refine⟨h1,h2,h3,?_⟩
    split at h
    ·cases h
    ·rename_i t ht
     cases h
     exact⟨t,ht,rfl⟩
theorem LW{p:Pr}(ht:p.tables.all kH=true):∀(r:List Sm) (i:Nat) (out:Bool),r.all stmtOk=true->(r.all λs=>numbers s.x)=true->di p r i out = .ok r->uf p i r=true
 | [],_,_,_,_,_=>rfl
 |s::r,i,out,h1,h2,h3=>by
  simp only[List.all_cons,Bool.and_eq_true]at h1 h2
  obtain⟨g1,g2,_,t,g3,g4⟩:=DX h3
  simp only[List.cons.injEq]at g4
  obtain⟨g4,rfl⟩:=g4
  have e1:bZ p s=s.index:=congrArg Sm.index g4.symm
  have e2:(bz p i s.x).1=s.x:=congrArg Sm.x g4.symm
  simp only[uf,wfS,Bool.and_eq_true]
  have hf:formed s.x=true:=by
   have:=h1.1
   simp only[stmtOk,Bool.not_eq_true',Bool.or_eq_false_iff,Bool.not_eq_false']at this
   exact this.2
  refine⟨⟨z8l ht i s.x hf h2.1 (Prod.ext e2 g1),?_,?_⟩,LW ht r (i+1) _ h1.2 h2.2 g3⟩
  ·cases hk:s.kind==2 with
   |false=>rfl
   |true=>
    have:s.kind=2:=by simpa using hk
    rw[bZ,this]at e1 g2
    simp only[(by decide:((2:Int)==3)=false),(by decide:((2:Int)==2)=true),Bool.false_eq_true,if_false,if_true]at e1 g2
    have:=pM g2
    rw[e1]at this g2;simp only[bounds,List.length_map]at this
    simp;omega
  ·cases hk:s.kind==3 with
   |false=>rfl
   |true=>
    have:s.kind=3:=by simpa using hk
    rw[bZ,this]at e1 g2
    simp only[(by decide:((3:Int)==3)=true),if_true]at e1 g2
    have:=pM g2
    rw[e1]at this g2;simp only[Ref15.lines,List.length_map]at this
    simp;omega
theorem btw{lo hi:Int}(h:between lo hi=true):-2147483648<=lo/\lo<=hi/\hi<=2147483647:=by
 simp only[between,Bool.and_eq_true,decide_eq_true_eq]at h;omega
theorem z4q{p:Pr}(h:ranged p=true):Rng p:=by
 simp only[ranged,Bool.and_eq_true,List.all_eq_true]at h
 obtain⟨⟨⟨⟨h1,h2⟩,h3⟩,h4⟩,_⟩:=h
 exact⟨λb hb=>btw (h1 b hb),λb hb=>btw (h2 b hb),λb hb=>btw (h3 b hb),λt ht v hv=>by have:=btw (h4 t ht v hv);omega⟩
structure Res(p:Pr):Prop where
 fo:Formed p=true
 li:limited p=true
 nm:oN p.name=true
 dn:(dP p).all oN=true
 un:iG (dP p) (dP p) 0=true
 ra:ranged p=true
 ru:di p p.stmts 0 false = .ok p.stmts
variable {p : Pr}
theorem Fe{e:Except Int (List Sm)}(h:Ref15.fin p [] e=(p,0))(hne:∀n,e = .error n->n≠0):e = .ok p.stmts:=by
 cases e with
 |error n=>exact absurd (congrArg Prod.snd h) (hne n rfl)
 |ok l=>
  have:=congrArg (λq=>q.1.stmts) h
  simp only[Ref15.fin,List.nil_append]at this
  rw[this]
theorem SA:∀(r:List Sm) (i:Nat) (out:Bool) (n:Int),di p r i out = .error n->n≠0
 | [],i,out,n,h=>by
  rw[di]at h
  split at h
  ·cases h;decide
  ·cases h
 |s::r,i,out,n,h=>by
  rw[di]at h
  split at h
  ·cases h;decide
  ·split at h
   ·cases h;decide
   ·split at h
    ·cases h;decide
    ·split at h
     ·rename_i q
      cases h
      exact SA r _ _ _ q
     ·cases h
theorem SB:Resolve p=(p,0)↔Res p:=by
 constructor
 ·intro h
  have h0:=congrArg Prod.snd h
  rw[Resolve]at h h0
  split at h
  ·rename_i q;rw[if_pos q]at h0;exfalso;simp at h0
  ·rename_i q1;rw[if_neg q1]at h0
   split at h
   ·rename_i q;rw[if_pos q]at h0;exfalso;simp at h0
   ·rename_i q2;rw[if_neg q2]at h0
    split at h
    ·rename_i q;rw[if_pos q]at h0;exfalso;simp at h0
    ·rename_i q3;rw[if_neg q3]at h0
     split at h
     ·rename_i q;rw[if_pos q]at h0;exfalso;simp at h0
     ·rename_i q4;rw[if_neg q4]at h0
      split at h
      ·rename_i q;rw[if_pos q]at h0;exfalso;simp at h0
      ·rename_i q5;rw[if_neg q5]at h0
       split at h
       ·rename_i q;rw[if_pos q]at h0;exfalso;simp at h0
       ·rename_i q6
        exact⟨by simpa using q1,by simpa using q2,by simpa using q3,by simpa using q4,by simpa using q5,by simpa using q6,Fe h (SA _ _ _)⟩
 ·intro h
  rw[Resolve,h.fo,h.li,h.nm,h.dn,h.un,h.ra,h.ru]
  simp[Ref15.fin]
theorem Res.tb(h:Res p):p.tables.all kH=true:=by
 have:=h.li;rw[limited_eq]at this;simp only[Bool.and_eq_true]at this;exact this.2.2.1
theorem Res.rng(h:Res p):Rng p:=z4q h.ra
theorem Res.wf(h:Res p):uf p 0 p.stmts=true:=by
 refine LW h.tb _ _ _ h.fo ?_ h.ru
 have:=h.ra;simp only[ranged,Bool.and_eq_true]at this;exact this.2
theorem Gi(h:resE p=0):Nam.resolveC p=(p,0):=by
 rw[resE]at h
 split at h
 ·rename_i h1;rw[h]at h1;exact absurd h1 (by decide)
 ·rename_i h1
  split at h
  ·rename_i h2
   exact Prod.ext ((iH _ _).1 h2).symm (by simpa using h1)
  ·exact absurd h (by decide)
theorem xK(h:resE p=0):Res p:=SB.1 (by rw[<-Nam.resolve_same];exact Gi h)
theorem LX(h:Res p):resE p=0:=by
 have:=SB.2 h
 rw[<-Nam.resolve_same]at this
 rw[resE,this]
 simp[(iH p p).2 rfl]
end Go.Fw.Rg
namespace Go.Fw
def lkI(k:Int):List (Int×Int)->Option Int
 | []=>none
 |(a,v)::r=>if k==a then some v else lkI k r
abbrev iiC(q:Int×Int):D×D:=(.i q.1,.i q.2)
theorem SC(a b:Int):dD (.i a) (.i b)=(a==b):=rfl
theorem DY(k:Int):∀l:List (Int×Int),nS (.i k) (l.map iiC)=(lkI k l).map .i
 | []=>rfl
 |(a,v)::r=>by
  simp only[List.map_cons,iiC,nS,SC,lkI]
  cases k==a with
  |true=>rfl
  |false=>simp only[Bool.false_eq_true,if_false];exact DY k r
theorem SE[af]{k:Int}{l:List (Int×Int)}{M:List (D×D)}{f:D->Prop}{g:Prop}(hM:M=l.map iiC)(h1:∀n,lkI k l=some n->f (.i n))(h2:lkI k l=none->g):rM (nS (.i k) M) f g:=by
 subst hM
 cases hk:lkI k l with
 |none=>exact Nam.opt_none (by rw[DY,hk];rfl) (h2 hk)
 |some n=>exact Nam.opt_some (d:=.i n) (by rw[DY,hk];rfl) (h1 n hk)
end Go.Fw
namespace Go.Fw.Rg
open Go.Fw Go.Fw.Ref15
variable [af]
def bV:List (Int×Int):=[(1,0),(3,0),(4,0),(5,0),(6,1),(7,1),(8,1),(9,1),(10,1),(13,1),(14,1),(18,1),(11,2),(12,2),(15,2),(16,2),(17,2),(19,4)]
def jX(p:Pr):List (Int×Int):=[(3,p.params.length),(4,p.states.length),(8,p.lines.length),(9,p.tables.length),(5,p.stmts.length)]
def ZV(p:Pr):List (Int×Int):=[(3,(p.params.map Bd.cs).length),(4,(p.states.map Bd.cs).length),(8,(p.lines.map Ln.cs).length),(9,(p.tables.map Tb.cs).length),(5,(p.stmts.map Sm.cs).length)]
theorem V8{p:Pr}{k:Int}{M:List (D×D)}{f:D->Prop}{g:Prop}(hM:M=(ZV p).map iiC)(h1:∀n,lkI k (jX p)=some n->f (.i n))(h2:lkI k (jX p)=none->g):rM (nS (.i k) M) f g:=by
 have e:ZV p=jX p:=by simp only[ZV,jX,List.length_map]
 rw[e]at hM
 exact SE hM h1 h2
theorem z8m{p:Pr}{k m:Int}(h:lkI k (jX p)=some m)(h5:(k==5)=true):m=p.stmts.length:=by
 have:k=5:=by simpa using h5
 subst this
 exact(Option.some.inj h).symm
theorem z4r{p:Pr}{k:Int}(h:lkI k (jX p)=none)(h5:(k==5)=true):False:=by
 have:k=5:=by simpa using h5
 subst this
 cases h
theorem ZW{l:List Ex}{n most:Int}{b:Bool}(h:(bif ((Ex.css l).length:Int) != n then true else decide (most<1))=b):(bif (l.length:Int) != n then true else decide (most<1))=b:=by rw[Ex.css_len]at h;exact h
def inM(i:Int):Option Int->Bool
 |none=>true
 |some m=>!(bif decide (i<0)then true else decide (i>=m))
theorem LY{i m:Int}{b:Bool}(h:(bif decide (i<0)then true else decide (i>=m))=b):inM i (some m) = !b:=by rw[inM,h]
def ok0(p:Pr)(k i m:Int):Bool:=if k==1 then(bif decide (0<=m)then decide (m<=2147483648)else false)else if k==18 then(bif decide (1<=m)then decide (m<=2147483648)else false)else if k==5 then(p.stmts.getD i.toNat Sm.none).kind==1 else true
mutual
def dS(p:Pr):Ex->Int->Int×Bool
 | .mk k _ i m l,most=>match lkI k bV with
  |none=>(0,false)
  |some need=>if(bif (l.length:Int) != need then true else decide (most<1))=true then(0,false)else if inM i (lkI k (jX p))=false then(0,false)else je p l most 1 (ok0 p k i m)
def je(p:Pr):List Ex->Int->Int->Bool->Int×Bool
 | [],_,n,ok=>(n,ok)
 |y::r,most,n,ok=>if(!(bif ok then(dS p y (most-n)).2 else false))=true then(0,false)else je p r most (n+(dS p y (most-n)).1) (bif ok then(dS p y (most-n)).2 else false)
end
theorem uk(p:Pr)(x:Ex)(most:Int):dS p x most=match lkI x.kind bV with
  |none=>(0,false)
  |some need=>if(bif (x.l.length:Int) != need then true else decide (most<1))=true then(0,false)else if inM x.index (lkI x.kind (jX p))=false then(0,false)else je p x.l most 1 (ok0 p x.kind x.index x.n):=by cases x;rw[dS];rfl
theorem vK{p:Pr}{x:Ex}{most:Int}(h:lkI x.kind bV=none):dS p x most=(0,false):=by rw[uk,h]
theorem vM{p:Pr}{x:Ex}{most need:Int}(h:lkI x.kind bV=some need)(h2:(bif (x.l.length:Int) != need then true else decide (most<1))=true):dS p x most=(0,false):=by
 rw[uk,h];simp only[h2,if_true]
theorem DZ{p:Pr}{x:Ex}{most need:Int}(h:lkI x.kind bV=some need)(h2:(bif (x.l.length:Int) != need then true else decide (most<1))=false)(h3:inM x.index (lkI x.kind (jX p))=false):dS p x most=(0,false):=by
 rw[uk,h];simp only[h2,h3,if_true,Bool.false_eq_true,if_false]
theorem vN{p:Pr}{x:Ex}{most need:Int}(h:lkI x.kind bV=some need)(h2:(bif (x.l.length:Int) != need then true else decide (most<1))=false)(h3:inM x.index (lkI x.kind (jX p))=true):dS p x most=je p x.l most 1 (ok0 p x.kind x.index x.n):=by
 rw[uk,h];simp only[h2,h3,Bool.false_eq_true,if_false,Bool.true_eq_false]
theorem ZX{l:List Ex}{nd most:Int}(h:(bif ((Ex.css l).length:Int) != nd then true else decide (most<1))=false):1<=most:=by
 cases hc:((Ex.css l).length:Int) != nd<;>rw[hc]at h<;>simp at h;omega
theorem OB{p:Pr}{x:Ex}{most nd:Int}{o:Option Int}{b:Bool}(hnd:lkI x.kind bV=some nd)(hmd:lkI x.kind (jX p)=o)(h:(bif ((Ex.css x.l).length:Int) != nd then true else decide (most<1))=false)(h2:inM x.index o=true)(h3:ok0 p x.kind x.index x.n=b):dS p x most=je p x.l most 1 b:=by
 rw[vN hnd (ZW h) (by rw[hmd];exact h2),h3]
theorem V9{p:Pr}{x:Ex}{most nd:Int}{o:Option Int}(hnd:lkI x.kind bV=some nd)(hmd:lkI x.kind (jX p)=o)(h:(bif ((Ex.css x.l).length:Int) != nd then true else decide (most<1))=false)(h2:inM x.index o=false):dS p x most=(0,false):=by
 rw[DZ hnd (ZW h) (by rw[hmd];exact h2)]
theorem z8n{p:Pr}{k i m:Int}(h:(k==1)=true):ok0 p k i m=(bif decide (0<=m)then decide (m<=2147483648)else false):=by simp only[ok0,h,if_true]
theorem z8o{p:Pr}{k i m:Int}(h:(k==1)=false)(h2:(k==18)=true):ok0 p k i m=(bif decide (1<=m)then decide (m<=2147483648)else false):=by simp only[ok0,h,h2,if_true,Bool.false_eq_true,if_false]
theorem z8p{p:Pr}{k i m:Int}(h:(k==1)=false)(h2:(k==18)=false)(h3:(k==5)=true):ok0 p k i m=((p.stmts.getD i.toNat Sm.none).kind==1):=by simp only[ok0,h,h2,h3,if_true,Bool.false_eq_true,if_false]
theorem z8q{p:Pr}{k i m:Int}(h:(k==1)=false)(h2:(k==18)=false)(h3:(k==5)=false):ok0 p k i m=true:=by simp only[ok0,h,h2,h3,Bool.false_eq_true,if_false]
theorem z96{p:Pr}{k i m:Int}(h:lkI k (jX p)=some m)(h5:(k==5)=true)(h2:(bif decide (i<0)then true else decide (i>=m))=false):0<=i/\i<p.stmts.length:=by
 have:=z8m h h5
 cases hc:decide (i<0)<;>rw[hc]at h2<;>simp at h2 hc;omega
theorem nI{p:Pr}{y:Ex}{r:List Ex}{most n:Int}{ok:Bool}(h:(!(bif ok then(dS p y (most-n)).2 else false))=true):je p (y::r) most n ok=(0,false):=by rw[je,if_pos h]
theorem ul{p:Pr}{y:Ex}{r:List Ex}{most n:Int}{ok:Bool}(h:(!(bif ok then(dS p y (most-n)).2 else false))=false):je p (y::r) most n ok=je p r most (n+(dS p y (most-n)).1) (bif ok then(dS p y (most-n)).2 else false):=by rw[je,if_neg (by rw[h];decide)]
theorem z7r{b c:Bool}(h:(!(bif b then c else false))=false):b=true/\c=true:=by cases b<;>cases c<;>first |exact⟨rfl,rfl⟩ |exact Bool.noConfusion h
theorem xM(p:Pr):∀(x:Ex) (most:Int),most<=512->0<=(dS p x most).1/\(dS p x most).1<=512/\((dS p x most).2=true->1<=(dS p x most).1/\(dS p x most).1<=most):=by
 refine Ex.ind λx ih most hm=>?_
 have hL:∀(l:List Ex),(∀y∈l,y∈x.l)->∀(n:Int) (ok:Bool),1<=n->n<=most->0<=(je p l most n ok).1/\(je p l most n ok).1<=512/\((je p l most n ok).2=true->1<=(je p l most n ok).1/\(je p l most n ok).1<=most):=by
  intro l
  induction l with
  |nil=>intro _ n ok h1 h2;rw[je];exact⟨by simp only;omega,by simp only;omega,λ_=>⟨h1,h2⟩⟩
  |cons y r ihr=>
   intro hl n ok h1 h2
   cases hb:!(bif ok then(dS p y (most-n)).2 else false)with
   |true=>rw[nI hb];exact⟨Int.le_refl _,by decide,λh=>Bool.noConfusion h⟩
   |false=>
    rw[ul hb]
    obtain⟨a,b⟩:=z7r hb
    have:=ih y (hl y (by simp)) (most-n) (by omega)
    have h3:=this.2.2 b
    exact ihr (λz hz=>hl z (by simp[hz])) _ _ (by omega) (by omega)
 cases h:lkI x.kind bV with
 |none=>rw[vK h];exact⟨Int.le_refl _,by decide,λh=>Bool.noConfusion h⟩
 |some need=>
  cases h2:(bif (x.l.length:Int) != need then true else decide (most<1))with
  |true=>rw[vM h h2];exact⟨Int.le_refl _,by decide,λh=>Bool.noConfusion h⟩
  |false=>
   cases h3:inM x.index (lkI x.kind (jX p))with
   |false=>rw[DZ h h2 h3];exact⟨Int.le_refl _,by decide,λh=>Bool.noConfusion h⟩
   |true=>
    rw[vN h h2 h3]
    have:1<=most:=by
     cases hc:(x.l.length:Int) != need<;>rw[hc]at h2<;>simp at h2;omega
    exact hL x.l (λ_ h=>h) 1 _ (Int.le_refl _) this
def kS(k:Int):Int:=
 if k==1 || k==3 || k==4 || k==5 then 0
 else if k==6 || k==7 || k==8 || k==9 || k==10 || k==13 || k==14 || k==18 then 1
 else if k==11 || k==12 || k==15 || k==16 || k==17 then 2
 else if k==19 then 4 else -1
def wW(p:Pr)(x:Ex):Bool:=
 if((x.l.length:Int) != kS x.kind)=true then false
 else if x.kind==1 then(bif decide (x.n>=0)then decide (x.n<=2147483648)else false)
 else if x.kind==18 then(bif decide (x.n>=1)then decide (x.n<=2147483648)else false)
 else if x.kind==3 then(bif decide (x.index>=0)then decide (x.index<p.params.length)else false)
 else if x.kind==4 then(bif decide (x.index>=0)then decide (x.index<p.states.length)else false)
 else if x.kind==8 then(bif decide (x.index>=0)then decide (x.index<p.lines.length)else false)
 else if x.kind==9 then(bif decide (x.index>=0)then decide (x.index<p.tables.length)else false)
 else if x.kind==5 then(bif (bif decide (x.index>=0)then decide (x.index<p.stmts.length)else false)then(p.stmts.getD x.index.toNat Sm.none).kind==1 else false)
 else true
mutual
def nP(p:Pr):Ex->Int->Int
 | .mk k nm i m l,most=>if(bif decide (most<1)then true else !wW p (.mk k nm i m l))=true then -1 else kT p l most 1
def kT(p:Pr):List Ex->Int->Int->Int
 | [],_,n=>n
 |y::r,most,n=>if nP p y (most-n)<0 then -1 else kT p r most (n+nP p y (most-n))
end
theorem oW(p:Pr)(x:Ex)(most:Int):nP p x most=if(bif decide (most<1)then true else !wW p x)=true then -1 else kT p x.l most 1:=by cases x;rw[nP];rfl
theorem zD(p:Pr):∀(x:Ex) (most:Int),nP p x most = -1\/(1<=nP p x most/\nP p x most<=most):=by
 refine Ex.ind λx ih most=>?_
 have hL:∀(l:List Ex),(∀y∈l,y∈x.l)->∀(n:Int),1<=n->n<=most->kT p l most n = -1\/(1<=kT p l most n/\kT p l most n<=most):=by
  intro l
  induction l with
  |nil=>intro _ n h1 h2;rw[kT];exact .inr ⟨h1,h2⟩
  |cons y r ihr=>
   intro hl n h1 h2
   rw[kT]
   have:=ih y (hl y (by simp)) (most-n)
   split
   ·exact .inl rfl
   ·exact ihr (λz hz=>hl z (by simp[hz])) _ (by omega) (by omega)
 rw[oW]
 split
 ·exact .inl rfl
 ·rename_i h
  refine hL x.l (λ_ h=>h) 1 (Int.le_refl _) ?_
  cases hc:decide (most<1)with
  |true=>rw[hc]at h;exact absurd rfl h
  |false=>simpa using hc
theorem BM(k:Int):lkI k bV=if kS k<0 then none else some (kS k):=by
 by_cases hk:1<=k/\k<=19
 ·rcases Nam.kinds_cases hk with h |h |h |h |h |h |h |h |h |h |h |h |h |h |h |h |h |h |h<;>subst h<;>rfl
 ·have h1:∀n:Int,1<=n->n<=19->(k==n)=false:=λn a b=>by
   simp only[beq_eq_false_iff_ne];omega
  simp[kS,lkI,bV,h1]
theorem own_fits{p:Pr}{x:Ex}{most:Int}(hm:1<=most):(∃n,lkI x.kind bV=some n/\(bif (x.l.length:Int) != n then true else decide (most<1))=false/\inM x.index (lkI x.kind (jX p))=true/\ok0 p x.kind x.index x.n=true)↔wW p x=true:=by
 have hm':decide (most<1)=false:=by simp;omega
 rw[hm',BM]
 by_cases hk:1<=x.kind/\x.kind<=19
 ·rcases Nam.kinds_cases hk with h |h |h |h |h |h |h |h |h |h |h |h |h |h |h |h |h |h |h<;>rw[wW,h]<;>simp[kS,inM,jX,lkI,ok0]<;>(try omega)
 ·have h1:∀n:Int,1<=n->n<=19->(x.kind==n)=false:=λn a b=>by
   simp only[beq_eq_false_iff_ne];omega
  have:kS x.kind = -1:=by simp[kS,h1]
  rw[wW,this]
  simp<;>omega
theorem vO(p:Pr):∀(x:Ex) (most:Int),((dS p x most).2=true->nP p x most=(dS p x most).1)/\((dS p x most).2=false->nP p x most = -1):=by
 refine Ex.ind λx ih most=>?_
 have hL:∀(l:List Ex),(∀y∈l,y∈x.l)->∀(n:Int),((je p l most n true).2=true->kT p l most n=(je p l most n true).1)/\((je p l most n true).2=false->kT p l most n = -1):=by
  intro l
  induction l with
  |nil=>intro _ n;rw[je,kT];exact⟨λ_=>rfl,λh=>Bool.noConfusion h⟩
  |cons y r ihr=>
   intro hl n
   have:=ih y (hl y (by simp)) (most-n)
   have hr:=xM
   rw[kT]
   cases hb:(dS p y (most-n)).2 with
   |false=>
    rw[nI (by rw[hb];rfl),this.2 hb]
    exact⟨λh=>Bool.noConfusion h,λ_=>rfl⟩
   |true=>
    rw[ul (by rw[hb];rfl),this.1 hb,hb]
    have hc:=zD p y (most-n)
    rw[this.1 hb]at hc
    split
    ·rename_i h;exfalso
     have hq:∀z:Ex,∀m,(dS p z m).2=true->1<=(dS p z m).1:=by
      refine Ex.ind λz ihz m hz=>?_
      have hLL:∀(l:List Ex),(∀y∈l,y∈z.l)->∀(n:Int) (ok:Bool),1<=n->(je p l m n ok).2=true->1<=(je p l m n ok).1:=by
       intro l
       induction l with
       |nil=>intro _ n ok h1 h2;rw[je];exact h1
       |cons y r ihr=>
        intro hl n ok h1 h2
        cases hb:!(bif ok then(dS p y (m-n)).2 else false)with
        |true=>rw[nI hb]at h2;exact Bool.noConfusion h2
        |false=>
         rw[ul hb]at h2 ⊢
         have:=ihz y (hl y (by simp)) (m-n) (z7r hb).2
         exact ihr (λz hz=>hl z (by simp[hz])) _ _ (by omega) h2
      rw[uk]at hz ⊢
      split
      ·rename_i hh;rw[hh]at hz;exact Bool.noConfusion hz
      ·rename_i hh;rw[hh]at hz
       simp only at hz
       split
       ·rename_i h3;rw[if_pos h3]at hz;exact Bool.noConfusion hz
       ·rename_i h3;rw[if_neg h3]at hz
        split
        ·rename_i h4;rw[if_pos h4]at hz;exact Bool.noConfusion hz
        ·rename_i h4;rw[if_neg h4]at hz
         exact hLL z.l (λ_ h=>h) 1 _ (Int.le_refl _) hz
     have:=hq y _ hb
     omega
    ·exact ihr (λz hz=>hl z (by simp[hz])) _
 rw[oW]
 by_cases hm:most<1
 ·have hf:dS p x most=(0,false):=by
   cases h:lkI x.kind bV with
   |none=>exact vK h
   |some n=>exact vM h (by rw[decide_eq_true hm];cases ((x.l.length:Int) != n)<;>rfl)
  rw[hf,decide_eq_true hm]
  exact⟨λh=>Bool.noConfusion h,λ_=>rfl⟩
 ·have hm':1<=most:=by omega
  rw[decide_eq_false hm]
  cases ho:wW p x with
  |true=>
   obtain⟨n,h1,h2,h3,h4⟩:=(own_fits hm').2 ho
   rw[vN h1 h2 h3,h4]
   exact hL x.l (λ_ h=>h) 1
  |false=>
   have hn:¬∃n,lkI x.kind bV=some n/\(bif (x.l.length:Int) != n then true else decide (most<1))=false/\inM x.index (lkI x.kind (jX p))=true/\ok0 p x.kind x.index x.n=true:=by
    rw[own_fits hm',ho];exact Bool.noConfusion
   refine⟨λh=>?_,λ_=>rfl⟩
   exfalso
   cases h1:lkI x.kind bV with
   |none=>rw[vK h1]at h;exact Bool.noConfusion h
   |some n=>
    cases h2:(bif (x.l.length:Int) != n then true else decide (most<1))with
    |true=>rw[vM h1 h2]at h;exact Bool.noConfusion h
    |false=>
     cases h3:inM x.index (lkI x.kind (jX p))with
     |false=>rw[DZ h1 h2 h3]at h;exact Bool.noConfusion h
     |true=>
      rw[vN h1 h2 h3]at h
      have h4:ok0 p x.kind x.index x.n=false:=by
       cases h4:ok0 p x.kind x.index x.n with
       |false=>rfl
       |true=>exact absurd ⟨n,h1,h2,h3,h4⟩ hn
      rw[h4]at h
      cases hl:x.l with
      |nil=>rw[hl,je]at h;exact Bool.noConfusion h
      |cons y r=>rw[hl,nI rfl]at h;exact Bool.noConfusion h
theorem ZY{p:Pr}(ht:p.tables.all kH=true):∀(x:Ex) (most:Int),(dS p x most).2=true->wfX p p.stmts.length x=true:=by
 refine Ex.ind λx ih most h=>?_
 have hm:1<=most:=by
  rcases zD p x most with q |q
  ·have:=(vO p x most).1 h
   rw[oW]at q this
   split at q
   ·rename_i hq
    cases hc:decide (most<1)with
    |false=>simpa using hc
    |true=>
     have hf:dS p x most=(0,false):=by
      cases h:lkI x.kind bV with
      |none=>exact vK h
      |some n=>exact vM h (by rw[hc];cases ((x.l.length:Int) != n)<;>rfl)
     rw[hf]at h;exact Bool.noConfusion h
   ·rename_i hq
    cases hc:decide (most<1)with
    |false=>simpa using hc
    |true=>rw[hc]at hq;exact absurd rfl hq
  ·omega
 have ho:wW p x=true:=by
  cases ho:wW p x with
  |true=>rfl
  |false=>
   have h1:=(vO p x most).1 h
   have h2:nP p x most = -1:=by rw[oW,ho];cases decide (most<1)<;>rfl
   have:=xM p x
   have h3:=zD p x most
   exfalso
   cases h1':lkI x.kind bV with
   |none=>rw[vK h1']at h;exact Bool.noConfusion h
   |some n=>
    cases h2':(bif (x.l.length:Int) != n then true else decide (most<1))with
    |true=>rw[vM h1' h2']at h;exact Bool.noConfusion h
    |false=>
     cases h3':inM x.index (lkI x.kind (jX p))with
     |false=>rw[DZ h1' h2' h3']at h;exact Bool.noConfusion h
     |true=>
      cases h4:ok0 p x.kind x.index x.n with
      |true=>have:=(own_fits hm).1 ⟨n,h1',h2',h3',h4⟩;rw[ho]at this;exact Bool.noConfusion this
      |false=>
       rw[vN h1' h2' h3',h4]at h
       cases hl:x.l with
       |nil=>rw[hl,je]at h;exact Bool.noConfusion h
       |cons y r=>rw[hl,nI rfl]at h;exact Bool.noConfusion h
 obtain⟨n,h1,h2,h3,h4⟩:=(own_fits hm).2 ho
 rw[vN h1 h2 h3,h4]at h
 have hL:∀(l:List Ex),(∀y∈l,y∈x.l)->∀(n:Int) (ok:Bool),(je p l most n ok).2=true->wfL p p.stmts.length l=true:=by
  intro l
  induction l with
  |nil=>intro _ n ok _;rfl
  |cons y r ihr=>
   intro hl n ok h
   cases hb:!(bif ok then(dS p y (most-n)).2 else false)with
   |true=>rw[nI hb]at h;exact Bool.noConfusion h
   |false=>
    rw[ul hb]at h
    simp only[wfL,Bool.and_eq_true]
    exact⟨ih y (hl y (by simp)) _ (z7r hb).2,ihr (λz hz=>hl z (by simp[hz])) _ _ h⟩
 rw[LC,hL x.l (λ_ h=>h) _ _ h,Bool.and_true]
 rw[BM]at h1
 have hne:∀i:Int,0<=i->i<p.tables.length->(aO p i==[])=false:=by
  intro i h0 h1
  have hm:p.tables.getD i.toNat Tb.none∈p.tables:=by
   have:i.toNat<p.tables.length:=by omega
   rw[List.getD_eq_getElem?_getD,List.getElem?_eq_getElem this];exact List.getElem_mem this
  have hq:=List.all_eq_true.1 ht _ hm
  simp only[kH,Bool.not_eq_true',Bool.or_eq_false_iff,decide_eq_false_iff_not]at hq
  rw[beq_eq_false_iff_ne];intro h0;rw[aO]at h0;rw[h0]at hq;simp at hq
 by_cases hk:1<=x.kind/\x.kind<=19
 ·rw[wW]at ho
  rcases Nam.kinds_cases hk with h |h |h |h |h |h |h |h |h |h |h |h |h |h |h |h |h |h |h<;>rw[h]at ho ⊢ <;> simp[kS,Ref15.parts,uG]at ho ⊢ <;> first
   |exact ho
   |omega
   |exact⟨ho.1.1,ho.1.2⟩
   |exact⟨ho.2.1.1,ho.2.1.2⟩
   |exact ho.2.1
   |exact⟨ho.2.1,ho.2.2.1⟩
   |exact⟨ho.1,ho.2.1⟩
   |exact⟨ho.1,ho.2,beq_eq_false_iff_ne.1 (hne x.index ho.2.1 ho.2.2)⟩
 ·have h1':∀n:Int,1<=n->n<=19->(x.kind==n)=false:=λn a b=>by
   simp only[beq_eq_false_iff_ne];omega
  have:kS x.kind = -1:=by simp[kS,h1']
  rw[this]at h1;cases h1
end Go.Fw.Rg
namespace Go.Fw.Rg
open Go.Fw Go.Fw.Ref15
variable [af] {k i m : Int} {p : Pr} {n : Nat}
def zad:Except Int Sp->D
 | .ok s=>.tuple [.i s.1,.i s.2,.i 0]
 | .error e=>.tuple [.i 0,.i 0,.i e]
theorem z4s(h:uG p n k i m=true)(hk:(k==4)=true):0<=i/\i<p.states.length:=by
 have:k=4:=by simpa using hk
 subst this
 have h:(decide (0<=i)&&decide (i<p.states.length))=true:=h
 simpa using h
theorem Yb(h:uG p n k i m=true)(hk:(k==5)=true):0<=i/\i<n:=by
 have:k=5:=by simpa using hk
 subst this
 have h:(decide (0<=i)&&decide (i<n))=true:=h
 simpa using h
theorem z4t(h:uG p n k i m=true)(hk:(k==8)=true):0<=i/\i<p.lines.length:=by
 have:k=8:=by simpa using hk
 subst this
 have h:(decide (0<=i)&&decide (i<p.lines.length))=true:=h
 simpa using h
theorem z4u(h:uG p n k i m=true)(hk:(k==9)=true):0<=i/\i<p.tables.length/\aO p i ≠ []:=by
 have:k=9:=by simpa using hk
 subst this
 have h:(decide (0<=i)&&decide (i<p.tables.length) && !(aO p i==[]))=true:=h
 simp only[Bool.and_eq_true,decide_eq_true_eq,Bool.not_eq_true',beq_eq_false_iff_ne]at h
 exact⟨h.1.1,h.1.2,h.2⟩
theorem ZZ(h:uG p n k i m=true)(hk:(k==18)=true):1<=m:=by
 have:k=18:=by simpa using hk
 subst this
 have h:(decide (1<=m)&&decide (m<=2147483648))=true:=h
 simp only[Bool.and_eq_true,decide_eq_true_eq]at h;exact h.1
theorem z4v{found l:List Sp}(c:Int)(hk:(k==c)=true):opM p found k i m l=opM p found c i m l:=by
 have:k=c:=by simpa using hk
 rw[this]
theorem Z4{c:Prop}[Decidable c]{a b:Except Int Sp}{e:Int}{P:Prop}(h:(if c then a else b) = .error e)(ha:a = .error e->P)(hb:b = .error e->P):P:=by
 split at h
 ·exact ha h
 ·exact hb h
theorem Z5{found:List Sp}:∀(x:Ex) (e:Int),dH p found x = .error e->e=160\/e=161:=by
 have hO:∀(k i m:Int) (l:List Sp) (e:Int),opM p found k i m l = .error e->e=160\/e=161:=by
  intro k i m l e h
  unfold opM at h
  repeat' (refine Z4 h ?_ ?_<;>(clear h;intro h))
  all_goals first
   |(cases h;done)
   |(cases h;exact .inl rfl)
   |(cases h;exact .inr rfl)
 refine Ex.ind λx ih e h=>?_
 have hL:∀(l:List Ex),(∀y∈l,y∈x.l)->∀e,cZ p found l = .error e->e=160\/e=161:=by
  intro l
  induction l with
  |nil=>intro _ e h;rw[cZ]at h;cases h
  |cons y r ihr=>
   intro hl e h
   rw[cZ]at h
   cases hy:dH p found y with
   |error e'=>rw[hy]at h;cases h;exact ih y (hl y (by simp)) _ hy
   |ok s=>
    rw[hy]at h
    simp only at h
    cases hr:cZ p found r with
    |error e'=>rw[hr]at h;cases h;exact ihr (λz hz=>hl z (by simp[hz])) _ hr
    |ok t=>rw[hr]at h;cases h
 rw[jv]at h
 cases hl:cZ p found x.l with
 |error e'=>rw[hl]at h;cases h;exact hL _ (λ_ h=>h) _ hl
 |ok s=>rw[hl]at h;exact hO _ _ _ _ _ h
end Go.Fw.Rg
namespace Go.Fw.Rg
open Go.Fw Go.Fw.Ref15
variable [af]
def aK(p:Pr):List Sp×Int:=if(resE p != 0)=true then([],resE p)else match bM p p.stmts []with
 | .ok F=>(F,0)
 | .error e=>([],e)
def D5(p:Pr)(x:Ex):Bool:=(dS p x 512).2
def fU(p:Pr)(x:Ex):Except Int Sp:=if((aK p).2 != 0)=true then .error (aK p).2 else if D5 p x then dH p (aK p).1 x else .error 150
theorem pO{p:Pr}{F:List Sp}(h:resE p=0)(h2:bM p p.stmts [] = .ok F):aK p=(F,0):=by
 have h:¬((resE p != 0)=true):=by rw[h];decide
 rw[aK,if_neg h,h2]
theorem zF{p:Pr}{e:Int}(h:resE p=0)(h2:bM p p.stmts [] = .error e):aK p=([],e):=by
 have h:¬((resE p != 0)=true):=by rw[h];decide
 rw[aK,if_neg h,h2]
theorem pR{p:Pr}(h:(resE p != 0)=true):aK p=([],resE p):=by rw[aK,if_pos h]
theorem Yc{p:Pr}:∀(r:List Sm) (fs:List Sp) (e:Int),bM p r fs = .error e->e=160\/e=161
 | [],fs,e,h=>by rw[bM]at h;cases h
 |s::r,fs,e,h=>by
  rw[bM]at h
  cases hf:dH p fs s.x with
  |error e'=>rw[hf]at h;cases h;exact Z5 _ _ hf
  |ok f=>
   rw[hf]at h
   simp only at h
   split at h
   ·exact Yc r _ e h
   ·cases h;exact .inr rfl
theorem SG{p:Pr}{e:Int}(h:bM p p.stmts [] = .error e):(e != 0)=true:=by
 rcases Yc _ _ _ h with r |r<;>subst r<;>rfl
structure BOk(p:Pr)(F:List Sp):Prop where
 res:Res p
 run:bM p p.stmts [] = .ok F
 len:F.length=p.stmts.length
 ins:InS F
variable {p : Pr} {F : List Sp} {x : Ex}
theorem SH(hR:Rng p):∀(r:List Sm) (i:Nat) (fs F:List Sp),uf p i r=true->fs.length=i->InS fs->bM p r fs = .ok F->F.length=i+r.length/\InS F
 | [],i,fs,F,_,hl,hi,h=>by rw[bM]at h;cases h;exact⟨by simp[hl],hi⟩
 |s::r,i,fs,F,hw,hl,hi,h=>by
  rw[bM]at h
  cases hf:dH p fs s.x with
  |error e'=>rw[hf]at h;cases h
  |ok f=>
   rw[hf]at h
   simp only at h
   split at h
   ·have hq:=xH hR hi _ _ (by rw[hl];exact RG hw) hf
    have:=SH hR r (i+1) (fs++[f]) F (oU hw) (by simp[hl]) (DI hi hq) h
    exact⟨by simp only[List.length_cons];omega,this.2⟩
   ·cases h
theorem z4w(h:resE p=0)(h2:bM p p.stmts [] = .ok F):BOk p F:=by
 have hr:=xK h
 have:=SH hr.rng p.stmts 0 [] F hr.wf rfl (λs hs=>by simp at hs) h2
 exact⟨hr,h2,by simpa using this.1,this.2⟩
theorem lD(h:(aK p).2=0):BOk p (aK p).1/\resE p=0:=by
 cases hz:resE p != 0 with
 |true=>rw[pR hz]at h;have h:resE p=0:=h;rw[h]at hz;exact absurd hz (by decide)
 |false=>
  have hz:resE p=0:=by simpa using hz
  cases hs:bM p p.stmts []with
  |error e=>rw[zF hz hs]at h;have h:e=0:=h;have:=SG hs;rw[h]at this;exact absurd this (by decide)
  |ok F=>rw[pO hz hs];exact⟨z4w hz hs,hz⟩
theorem Jn(p:Pr)(x:Ex):decide (nP p x 512>0)=D5 p x:=by
 have h:=vO p x 512
 have hr:=xM p x 512 (by decide)
 cases hb:D5 p x with
 |true=>have hb':(dS p x 512).2=true:=hb;rw[h.1 hb'];have:=hr.2.2 hb';exact decide_eq_true (by omega)
 |false=>have hb':(dS p x 512).2=false:=hb;rw[h.2 hb'];rfl
theorem z4x(h:BOk p F)(hx:D5 p x=true):wfX p F.length x=true:=by
 rw[h.len];exact ZY h.res.tb x 512 hx
theorem Z7(h:((aK p).2 != 0)=true):fU p x = .error (aK p).2:=by rw[fU,if_pos h]
theorem SI(h:(aK p).2=0)(hx:D5 p x=false):fU p x = .error 150:=by
 rw[fU,if_neg (by rw[h];decide),hx];rfl
theorem SK(h:(aK p).2=0)(hx:D5 p x=true):fU p x=dH p (aK p).1 x:=by
 rw[fU,if_neg (by rw[h];decide),hx];rfl
theorem stmF_ok':∀(r:List Sm) (fs F:List Sp),bM p r fs = .ok F->gK p r fs=F
 | [],fs,F,h=>by rw[bM]at h;cases h;rfl
 |s::r,fs,F,h=>by
  rw[bM]at h
  rw[gK]
  cases hf:dH p fs s.x with
  |error e'=>rw[hf]at h;cases h
  |ok f=>
   rw[hf]at h
   simp only at h ⊢
   split at h
   ·rename_i hw;rw[if_pos hw];exact stmF_ok' r _ F h
   ·cases h
theorem Z8(h:bM p p.stmts [] = .ok F):gK p p.stmts []=F:=stmF_ok' _ _ _ h
theorem SL{p:Pr}(h:p.params.length<=4/\p.states.length<=4/\p.lines.length<=4/\p.tables.length<=4/\p.stmts.length<=4/\(p.stmts.all λs=>Nat.ble (Ref15.nodes s.x) 100)=true/\(p.tables.all λt=>Nat.ble t.values.length 100)=true):jc p:=by
 obtain⟨h1,h2,h3,h4,h5,h6,h7⟩:=h
 refine⟨⟨by omega,by omega,by omega,by omega,by omega⟩,λs hs=>?_,λt ht=>?_⟩
 ·have:=Nat.le_of_ble_eq_true (List.all_eq_true.1 h6 s hs);omega
 ·have:=Nat.le_of_ble_eq_true (List.all_eq_true.1 h7 t ht);omega
def LZ(s' s:Sp):Prop:=s.1<=s'.1/\s'.1<=s'.2/\s'.2<=s.2
def UQ(l' l:List Sp):Prop:=∀i:Nat,LZ (l'.getD i (0,0)) (l.getD i (0,0))
theorem kU{s:Sp}(h:s.1<=s.2):LZ s s:=⟨Int.le_refl _,h,Int.le_refl _⟩
theorem We:UQ [] []:=λi=>by simp[LZ]
theorem SN{a b:Sp}{l m:List Sp}(h:LZ a b)(h2:UQ l m):UQ (a::l) (b::m):=λi=>by
 cases i with
 |zero=>exact h
 |succ i=>simpa using h2 i
theorem rC{a b x y:Int}(h1:a<=x)(h2:x<=b):(a * y<=x * y/\x * y<=b * y)\/(b * y<=x * y/\x * y<=a * y):=by
 by_cases hy:0<=y
 ·exact .inl ⟨Int.mul_le_mul_of_nonneg_right h1 hy,Int.mul_le_mul_of_nonneg_right h2 hy⟩
 ·exact .inr ⟨Int.mul_le_mul_of_nonpos_right h2 (by omega),Int.mul_le_mul_of_nonpos_right h1 (by omega)⟩
theorem Z9{a1 a2 b1 b2 x y L H:Int}(h1:a1<=x)(h2:x<=a2)(h3:b1<=y)(h4:y<=b2)(c1:L<=a1 * b1/\a1 * b1<=H)(c2:L<=a1 * b2/\a1 * b2<=H)(c3:L<=a2 * b1/\a2 * b1<=H)(c4:L<=a2 * b2/\a2 * b2<=H):L<=x * y/\x * y<=H:=by
 have e1:L<=x * b1/\x * b1<=H:=by
  rcases rC (y:=b1) h1 h2 with h |h<;>omega
 have e2:L<=x * b2/\x * b2<=H:=by
  rcases rC (y:=b2) h1 h2 with h |h<;>omega
 rcases rC (y:=x) h3 h4 with h |h<;>rw[Int.mul_comm b1,Int.mul_comm b2,Int.mul_comm y]at h<;>omega
theorem SQ(a b c d:Int):Lt a b c d<=a/\Lt a b c d<=b/\Lt a b c d<=c/\Lt a b c d<=d:=by
 simp only[Lt,mm2];(repeat' split)<;>omega
theorem SS(a b c d:Int):a<=Lu a b c d/\b<=Lu a b c d/\c<=Lu a b c d/\d<=Lu a b c d:=by
 simp only[Lu,mm2];(repeat' split)<;>omega
theorem L6{a b c d L:Int}(h1:L<=a)(h2:L<=b)(h3:L<=c)(h4:L<=d):L<=Lt a b c d:=by
 simp only[Lt,mm2];(repeat' split)<;>omega
theorem L8{a b c d H:Int}(h1:a<=H)(h2:b<=H)(h3:c<=H)(h4:d<=H):Lu a b c d<=H:=by
 simp only[Lu,mm2];(repeat' split)<;>omega
theorem Wh{a b a' b' s:Sp}(h:prodM a b = .ok s)(ha:LZ a' a)(hb:LZ b' b):∃s',prodM a' b' = .ok s'/\LZ s' s:=by
 obtain⟨rfl,w1,w2,w3,w4⟩:=LJ h
 obtain⟨n1,n2,n3,n4⟩:=SQ (a.1 * b.1) (a.1 * b.2) (a.2 * b.1) (a.2 * b.2)
 obtain⟨m1,m2,m3,m4⟩:=SS (a.1 * b.1) (a.1 * b.2) (a.2 * b.1) (a.2 * b.2)
 obtain⟨p1,p2,p3⟩:=ha
 obtain⟨q1,q2,q3⟩:=hb
 have hin:∀x y:Int,a.1<=x->x<=a.2->b.1<=y->y<=b.2->Lt (a.1 * b.1) (a.1 * b.2) (a.2 * b.1) (a.2 * b.2)<=x * y/\x * y<=Lu (a.1 * b.1) (a.1 * b.2) (a.2 * b.1) (a.2 * b.2):=λx y g1 g2 g3 g4=>Z9 g1 g2 g3 g4 ⟨n1,m1⟩ ⟨n2,m2⟩ ⟨n3,m3⟩ ⟨n4,m4⟩
 have k1:=hin a'.1 b'.1 (by omega) (by omega) (by omega) (by omega)
 have k2:=hin a'.1 b'.2 (by omega) (by omega) (by omega) (by omega)
 have k3:=hin a'.2 b'.1 (by omega) (by omega) (by omega) (by omega)
 have k4:=hin a'.2 b'.2 (by omega) (by omega) (by omega) (by omega)
 have lo:-4611686018427387904<=Lt (a.1 * b.1) (a.1 * b.2) (a.2 * b.1) (a.2 * b.2):=by
  have:=bW.1 w1;have:=bW.1 w2;have:=bW.1 w3;have:=bW.1 w4
  exact L6 (by omega) (by omega) (by omega) (by omega)
 have hi:Lu (a.1 * b.1) (a.1 * b.2) (a.2 * b.1) (a.2 * b.2)<=4611686018427387904:=by
  have:=bW.1 w1;have:=bW.1 w2;have:=bW.1 w3;have:=bW.1 w4
  exact L8 (by omega) (by omega) (by omega) (by omega)
 refine⟨(Lt (a'.1 * b'.1) (a'.1 * b'.2) (a'.2 * b'.1) (a'.2 * b'.2),Lu (a'.1 * b'.1) (a'.1 * b'.2) (a'.2 * b'.1) (a'.2 * b'.2)),?_,?_,?_,?_⟩
 ·rw[prodM,bW.2 (show _<=a'.1 * b'.1/\_ by omega),bW.2 (show _<=a'.1 * b'.2/\_ by omega),bW.2 (show _<=a'.2 * b'.1/\_ by omega),bW.2 (show _<=a'.2 * b'.2/\_ by omega)];rfl
 ·exact L6 k1.1 k2.1 k3.1 k4.1
 ·exact Int.le_trans (SQ _ _ _ _).1 (SS _ _ _ _).1
 ·exact L8 k1.2 k2.2 k3.2 k4.2
theorem SX{a b c d a' b' c' d':Int}{s:Sp}(h:two (a+b) (c+d) = .ok s)(h1:a<=a')(h2:b<=b')(h3:c'<=c)(h4:d'<=d)(h5:a'+b'<=c'+d'):∃s',two (a'+b') (c'+d') = .ok s'/\LZ s' s:=by
 obtain⟨rfl,w1,w2⟩:=Je h
 have w1:=bW.1 w1;have w2:=bW.1 w2
 refine⟨(a'+b',c'+d'),?_,by simp only;omega,by simp only;omega,by simp only;omega⟩
 rw[two,bW.2 (show _<=a'+b'/\_ by omega),bW.2 (show _<=c'+d'/\_ by omega)];rfl
theorem zG{a b:Int}(h:a<=b):qg a<=qg b:=by
 simp only[qg];(repeat' split)<;>omega
theorem lF{t:Bool}{a b a' b':Int}(h1:a<=a')(h2:b<=b'):mm2 t a b<=mm2 t a' b':=by
 cases t<;>simp only[mm2]<;>(repeat' split)<;>omega
theorem z0a{a a':Sp}(h:LZ a' a):LZ (Ru a') (Ru a):=by
 obtain⟨h1,h2,h3⟩:=h
 simp only[Ru,mm2]
 (repeat' split)<;>simp only[LZ]<;>omega
structure Nar(p' p:Pr):Prop where
 par:∀i:Nat,(p.params.getD i Bd.none).lo<=(p'.params.getD i Bd.none).lo/\(p'.params.getD i Bd.none).lo<=(p'.params.getD i Bd.none).hi/\(p'.params.getD i Bd.none).hi<=(p.params.getD i Bd.none).hi
 sta:p'.states=p.states
 lin:p'.lines=p.lines
 tab:p'.tables=p.tables
theorem Wi{p:Pr}(hR:Rng p):Nar p p:=by
 refine⟨λi=>?_,rfl,rfl,rfl⟩
 rw[List.getD_eq_getElem?_getD]
 cases h:p.params[i]? with
 |none=>exact⟨Int.le_refl _,Int.le_refl _,Int.le_refl _⟩
 |some b=>have:=hR.par b (List.mem_of_getElem? h);exact⟨Int.le_refl _,this.2.1,Int.le_refl _⟩
theorem z4y(m:Int)(l:List Int):minL m l<=maxL m l:=Int.le_trans (Jc l m).1 (Jd l m).1
theorem z0b{p p':Pr}{found found' l l':List Sp}{k i m:Int}{s:Sp}{n:Nat}(hR:Rng p)(hp:Nar p' p)(hF:UQ found' found)(hl:UQ l' l)(hw:uG p n k i m=true)(h:opM p found k i m l = .ok s):∃s',opM p' found' k i m l' = .ok s'/\LZ s' s:=by
 have h0:=hl 0;have h1:=hl 1;have h2:=hl 2;have h3:=hl 3
 rcases kinds hw with r |r |r |r |r |r |r |r |r |r |r |r |r |r |r |r |r |r<;>subst r
 ·cases (show(Except.ok (m,m):Except Int Sp) = .ok s from h);exact⟨_,rfl,kU (Int.le_refl _)⟩
 ·cases (show(Except.ok ((jJ p i).lo,(jJ p i).hi):Except Int Sp) = .ok s from h);exact⟨_,rfl,hp.par i.toNat⟩
 ·cases (show(Except.ok ((bU p i).lo,(bU p i).hi):Except Int Sp) = .ok s from h)
  refine⟨((bU p i).lo,(bU p i).hi),?_,kU ?_⟩
  ·show(Except.ok ((bU p' i).lo,(bU p' i).hi):Except Int Sp)=_
   rw[bU,hp.sta]
  ·have hq:=z4s hw rfl
   exact(hR.sta _ (getD_mem' Bd.none hq.1 hq.2)).2.1
 ·cases (show(Except.ok (found.getD i.toNat (0,0)):Except Int Sp) = .ok s from h);exact⟨_,rfl,hF i.toNat⟩
 ·have h:aheadM (l.getD 0 (0,0)) = .ok s:=h
  have hs:=tZ h
  refine⟨s,?_,by subst hs;exact kU (by decide)⟩
  show aheadM (l'.getD 0 (0,0)) = .ok s
  subst hs
  rw[aheadM]at h ⊢
  split at h
  ·cases h
  ·rename_i hq
   simp only[Bool.or_eq_true,decide_eq_true_eq,not_or]at hq
   obtain⟨g1,g2,g3⟩:=h0
   rw[if_neg]
   simp only[Bool.or_eq_true,decide_eq_true_eq,not_or];omega
 ·have h:aheadM (l.getD 0 (0,0)) = .ok s:=h
  have hs:=tZ h
  refine⟨s,?_,by subst hs;exact kU (by decide)⟩
  show aheadM (l'.getD 0 (0,0)) = .ok s
  subst hs
  rw[aheadM]at h ⊢
  split at h
  ·cases h
  ·rename_i hq
   simp only[Bool.or_eq_true,decide_eq_true_eq,not_or]at hq
   obtain⟨g1,g2,g3⟩:=h0
   rw[if_neg]
   simp only[Bool.or_eq_true,decide_eq_true_eq,not_or];omega
 ·cases (show(Except.ok (mm2 false (bY p i).lo 0,mm2 true (bY p i).hi 0):Except Int Sp) = .ok s from h)
  refine⟨(mm2 false (bY p i).lo 0,mm2 true (bY p i).hi 0),?_,kU ?_⟩
  ·show(Except.ok (mm2 false (bY p' i).lo 0,mm2 true (bY p' i).hi 0):Except Int Sp)=_
   rw[bY,hp.lin]
  ·simp only[mm2];(repeat' split)<;>omega
 ·cases (show(Except.ok (minL ((aO p i).getD 0 0) (aO p i),maxL ((aO p i).getD 0 0) (aO p i)):Except Int Sp) = .ok s from h)
  refine⟨(minL ((aO p i).getD 0 0) (aO p i),maxL ((aO p i).getD 0 0) (aO p i)),?_,kU (z4y _ _)⟩
  show(Except.ok (minL ((aO p' i).getD 0 0) (aO p' i),maxL ((aO p' i).getD 0 0) (aO p' i)):Except Int Sp)=_
  rw[aO,hp.tab]
 ·cases (show(Except.ok (qg (l.getD 0 (0,0)).1,qg (l.getD 0 (0,0)).2):Except Int Sp) = .ok s from h)
  exact⟨_,rfl,zG h0.1,zG h0.2.1,zG h0.2.2⟩
 ·cases (show(Except.ok (mm2 false (l.getD 0 (0,0)).1 (l.getD 1 (0,0)).1,mm2 false (l.getD 0 (0,0)).2 (l.getD 1 (0,0)).2):Except Int Sp) = .ok s from h)
  exact⟨_,rfl,lF (t:=false) h0.1 h1.1,lF (t:=false) h0.2.1 h1.2.1,lF (t:=false) h0.2.2 h1.2.2⟩
 ·cases (show(Except.ok (mm2 true (l.getD 0 (0,0)).1 (l.getD 1 (0,0)).1,mm2 true (l.getD 0 (0,0)).2 (l.getD 1 (0,0)).2):Except Int Sp) = .ok s from h)
  exact⟨_,rfl,lF (t:=true) h0.1 h1.1,lF (t:=true) h0.2.1 h1.2.1,lF (t:=true) h0.2.2 h1.2.2⟩
 ·cases (show(Except.ok (Ru (l.getD 0 (0,0))):Except Int Sp) = .ok s from h)
  exact⟨_,rfl,z0a h0⟩
 ·cases (show(Except.ok (-(l.getD 0 (0,0)).2,-(l.getD 0 (0,0)).1):Except Int Sp) = .ok s from h)
  obtain⟨g1,g2,g3⟩:=h0
  exact⟨_,rfl,by simp only[LZ];omega⟩
 ·obtain⟨g1,g2,g3⟩:=h0;obtain⟨k1,k2,k3⟩:=h1
  exact SX (show two ((l.getD 0 (0,0)).1+(l.getD 1 (0,0)).1) ((l.getD 0 (0,0)).2+(l.getD 1 (0,0)).2) = .ok s from h) g1 k1 g3 k3 (by omega)
 ·obtain⟨g1,g2,g3⟩:=h0;obtain⟨k1,k2,k3⟩:=h1
  exact SX (show two ((l.getD 0 (0,0)).1 + -(l.getD 1 (0,0)).2) ((l.getD 0 (0,0)).2 + -(l.getD 1 (0,0)).1) = .ok s from h) g1 (by omega) g3 (by omega) (by omega)
 ·exact Wh (show prodM (l.getD 0 (0,0)) (l.getD 1 (0,0)) = .ok s from h) h0 h1
 ·cases (show(Except.ok (oQ (l.getD 0 (0,0)).1 m,oQ (l.getD 0 (0,0)).2 m):Except Int Sp) = .ok s from h)
  have hm:=ZZ hw rfl
  obtain⟨g1,g2,g3⟩:=h0
  exact⟨_,rfl,Int.ediv_le_ediv (by omega) g1,Int.ediv_le_ediv (by omega) g2,Int.ediv_le_ediv (by omega) g3⟩
 ·cases (show(Except.ok (mm2 false (l.getD 2 (0,0)).1 (l.getD 3 (0,0)).1,mm2 true (l.getD 2 (0,0)).2 (l.getD 3 (0,0)).2):Except Int Sp) = .ok s from h)
  obtain⟨g1,g2,g3⟩:=h2
  refine⟨_,rfl,lF (t:=false) g1 h3.1,?_,lF (t:=true) g3 h3.2.2⟩
  simp only[mm2];(repeat' split)<;>omega
mutual
theorem Gj{p p':Pr}{found found':List Sp}(hR:Rng p)(hp:Nar p' p)(hF:UQ found' found):∀(x:Ex) (s:Sp),wfX p found.length x=true->dH p found x = .ok s->∃s',dH p' found' x = .ok s'/\LZ s' s
 | .mk k nm i m l,s,hw,h=>by
  obtain⟨_,g2,g3⟩:=bQ hw
  rw[jv]at h
  rw[jv]
  simp only[Ex.l,Ex.kind,Ex.index,Ex.n]at h g2 g3 ⊢
  cases hl:cZ p found l with
  |error e=>rw[hl]at h;cases h
  |ok t=>
   rw[hl]at h
   obtain⟨t',ht,hs⟩:=Gl hR hp hF l t g3 hl
   rw[ht]
   exact z0b hR hp hF hs g2 h
theorem Gl{p p':Pr}{found found':List Sp}(hR:Rng p)(hp:Nar p' p)(hF:UQ found' found):∀(l:List Ex) (t:List Sp),wfL p found.length l=true->cZ p found l = .ok t->∃t',cZ p' found' l = .ok t'/\UQ t' t
 | [],t,_,h=>by rw[cZ]at h;cases h;exact⟨[],rfl,We⟩
 |x::r,t,hw,h=>by
  simp only[wfL,Bool.and_eq_true]at hw
  rw[cZ]at h
  cases hx:dH p found x with
  |error e=>rw[hx]at h;cases h
  |ok s=>
   rw[hx]at h
   simp only at h
   cases hr:cZ p found r with
   |error e=>rw[hr]at h;cases h
   |ok u=>
    rw[hr]at h
    cases h
    obtain⟨s',hs,hi⟩:=Gj hR hp hF x s hw.1 hx
    obtain⟨u',hu,hj⟩:=Gl hR hp hF r u hw.2 hr
    exact⟨s'::u',by rw[cZ,hs,hu],SN hi hj⟩
end
theorem Gm{p:Pr}{found:List Sp}(hR:Rng p)(hF:UQ found found){x:Ex}{s:Sp}(hw:wfX p found.length x=true)(h:dH p found x = .ok s):s.1<=s.2:=by
 obtain⟨s',hs,hi⟩:=Gj hR (Wi hR) hF x s hw h
 rw[h]at hs;cases hs;exact hi.2.1
structure FOk(found:List Sp):Prop where
 ins:InS found
 ord:∀s∈found,s.1<=s.2
theorem FOk.sub{found:List Sp}(h:FOk found):UQ found found:=λi=>by
 rw[List.getD_eq_getElem?_getD]
 cases hq:found[i]? with
 |none=>exact⟨Int.le_refl _,Int.le_refl _,Int.le_refl _⟩
 |some s=>exact kU (h.ord s (List.mem_of_getElem? hq))
theorem BN{p:Pr}{found:List Sp}:∀{l:List Ex} {t:List Sp},cZ p found l = .ok t->∀y∈l,∃s,dH p found y = .ok s
 |x::r,t,h,y,hy=>by
  rw[cZ]at h
  cases hx:dH p found x with
  |error e=>rw[hx]at h;cases h
  |ok s=>
   rw[hx]at h
   simp only at h
   cases hr:cZ p found r with
   |error e=>rw[hr]at h;cases h
   |ok u=>
    rcases List.mem_cons.1 hy with rfl |hy
    ·exact⟨s,hx⟩
    ·exact BN hr y hy
theorem SY{p:Pr}(hR:Rng p):∀(r:List Sm) (i:Nat) (fs F:List Sp),uf p i r=true->fs.length=i->FOk fs->bM p r fs = .ok F->FOk F
 | [],i,fs,F,_,hl,hi,h=>by rw[bM]at h;cases h;exact hi
 |s::r,i,fs,F,hw,hl,hi,h=>by
  rw[bM]at h
  cases hf:dH p fs s.x with
  |error e'=>rw[hf]at h;cases h
  |ok f=>
   rw[hf]at h
   simp only at h
   have hx:wfX p fs.length s.x=true:=by rw[hl];exact RG hw
   split at h
   ·refine SY hR r (i+1) (fs++[f]) F (oU hw) (by simp[hl]) ⟨DI hi.ins (xH hR hi.ins _ _ hx hf),λs hs=>?_⟩ h
    rcases List.mem_append.1 hs with q |q
    ·exact hi.ord s q
    ·rw[List.mem_singleton.1 q];exact Gm hR hi.sub hx hf
   ·cases h
theorem BOk.fok{p:Pr}{F:List Sp}(h:BOk p F):FOk F:=SY h.res.rng p.stmts 0 [] F h.res.wf rfl ⟨λs hs=>by simp at hs,λs hs=>by simp at hs⟩ h.run
theorem Jo{p:Pr}:∀(r:List Sm) (fs F:List Sp),bM p r fs = .ok F->∃t,F=fs++t
 | [],fs,F,h=>by rw[bM]at h;cases h;exact⟨[],by simp⟩
 |s::r,fs,F,h=>by
  rw[bM]at h
  cases hf:dH p fs s.x with
  |error e'=>rw[hf]at h;cases h
  |ok f=>
   rw[hf]at h
   simp only at h
   split at h
   ·obtain⟨t,rfl⟩:=Jo r _ F h;exact⟨f::t,by simp⟩
   ·cases h
theorem Gn{p:Pr}{F:List Sp}(h:bM p p.stmts [] = .ok F):∀i,i<=p.stmts.length->bM p (p.stmts.drop i) (F.take i) = .ok F/\(F.take i).length=i
 | 0,_=>by simpa using h
 |i+1,hi=>by
  obtain⟨h1,h2⟩:=Gn h i (by omega)
  have hd:p.stmts.drop i=p.stmts[i]::p.stmts.drop (i+1):=List.drop_eq_getElem_cons (by omega)
  rw[hd,bM]at h1
  cases hf:dH p (F.take i) p.stmts[i].x with
  |error e'=>rw[hf]at h1;cases h1
  |ok f=>
   rw[hf]at h1
   simp only at h1
   split at h1
   ·obtain⟨t,ht⟩:=Jo _ _ _ h1
    have e:F.take (i+1)=F.take i++[f]:=by
     have:F.take (i+1)=(F.take i++[f]++t).take (i+1):=by rw[<-ht]
     rw[this,List.take_append_of_le_length (by simp[h2])]
     exact List.take_of_length_le (by simp[h2])
    rw[e];exact⟨h1,by simp[h2]⟩
   ·cases h1
theorem Gp{p:Pr}:∀(r:List Sm) (k i:Nat),uf p k r=true->uf p (k+i) (r.drop i)=true
 |r,k,0,h=>by simpa using h
 | [],k,i+1,_=>by simp[uf]
 |s::r,k,i+1,h=>by
  have:=Gp r (k+1) i (oU h)
  rw[show k+1+i=k+(i+1)by omega]at this
  simpa using this
structure zae(p:Pr)(F:List Sp)(i:Nat)(s:Sm):Prop where
 lt:i<F.length
 run:dH p (F.take i) s.x = .ok (F.getD i (0,0))
 win:within p s (F.getD i (0,0))=true
 wf:wfS p i s=true
 len:(F.take i).length=i
theorem z8r{p:Pr}{F:List Sp}{i:Nat}{s:Sm}{r:List Sm}(h:BOk p F)(hd:p.stmts.drop i=s::r):zae p F i s:=by
 have hi:i<p.stmts.length:=by
  by_cases hq:i<p.stmts.length
  ·exact hq
  ·rw[List.drop_eq_nil_iff.2 (by omega)]at hd;cases hd
 obtain⟨h1,h2⟩:=Gn h.run i (by omega)
 have hw:=Gp p.stmts 0 i h.res.wf
 rw[hd,Nat.zero_add]at hw
 rw[hd,bM]at h1
 cases hf:dH p (F.take i) s.x with
 |error e'=>rw[hf]at h1;cases h1
 |ok f=>
  rw[hf]at h1
  simp only at h1
  split at h1
  ·rename_i hwi
   obtain⟨t,ht⟩:=Jo _ _ _ h1
   have hl:i<F.length:=by rw[h.len];exact hi
   have e:F.getD i (0,0)=f:=by
    rw[List.getD_eq_getElem?_getD]
    have:F[i]? = some f:=by
     rw[ht,List.append_assoc,List.getElem?_append_right (by omega),h2];simp
    rw[this];rfl
   refine⟨hl,by rw[e];exact hf,by rw[e];exact hwi,?_,h2⟩
   simp only[uf,Bool.and_eq_true]at hw;exact hw.1
  ·cases h1
theorem BO{s:Str}:∀(l:List Sm) (i:Int),0<=i->0<=aC s l i->i<=aC s l i/\((l.getD (aC s l i-i).toNat Sm.none).kind==1)=true
 | [],i,_,h=>by simp[aC]at h
 |x::r,i,hi,h=>by
  simp only[aC]at h ⊢
  split
  ·rename_i hq
   simp only[Bool.and_eq_true]at hq
   refine⟨Int.le_refl _,?_⟩
   rw[show(i-i).toNat=0 by omega];exact hq.1
  ·rename_i hq
   rw[if_neg hq]at h
   obtain⟨a,b⟩:=BO r (i+1) (by omega) h
   refine⟨by omega,?_⟩
   rw[show(aC s r (i+1)-i).toNat=(aC s r (i+1)-(i+1)).toNat+1 by omega];exact b
end Go.Fw.Rg
