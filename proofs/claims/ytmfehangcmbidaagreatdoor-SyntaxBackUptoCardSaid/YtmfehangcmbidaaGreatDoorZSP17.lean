/- SyntaxBack: what is read: how great it is; declarations, statements, processors. -/
import Derived.Test.YtmfehangcmbidaaGreatDoorZSP16
set_option linter.unusedSectionVars false
set_option linter.unusedSimpArgs false
set_option linter.unusedVariables false
namespace Go.Fw.Sy
open Go.Fw Go.Fw.Lx
variable [ae]
mutual
def nd:Ex->Nat
 | .mk _ _ _ _ l=>ndL l+1
def ndL:List Ex->Nat
 | []=>0
 |x::r=>nd x+ndL r
end
theorem Uc:∀a b:List Ex,ndL (a++b)=ndL a+ndL b
 | [],b=>by simp[ndL]
 |x::a,b=>by simp only[List.cons_append,ndL,Uc a b];omega
theorem gQ{l:List Tk}(h:l.isEmpty=false):(l.drop 1).length+1=l.length:=by cases l<;>simp at h ⊢
theorem dR{s:Str}{l r:List Tk}{x:Unit}(e:aF s l=(some x,r)):r.length+1=l.length:=by
 unfold aF at e
 split at e
 ·rename_i h;simp only[Prod.mk.injEq]at e;obtain⟨_,rfl⟩:=e;exact gQ (lD l h)
 ·cases e
theorem qJ{l r:List Tk}{x:Str}(e:nameM l=(some x,r)):r.length+1=l.length:=by
 unfold nameM at e
 split at e
 ·rename_i h;simp only[Prod.mk.injEq]at e;obtain⟨_,rfl⟩:=e;exact gQ (Es l h)
 ·cases e
theorem Am{l r:List Tk}{x:Int}(e:numM l=(some x,r)):r.length+1=l.length:=by
 unfold numM at e
 split at e
 ·rename_i h;simp only[Prod.mk.injEq]at e;obtain⟨_,rfl⟩:=e;exact gQ (yz l h)
 ·cases e
theorem ED{l r:List Tk}{x:Int}(e:intM l=(some x,r)):r.length+1<=l.length:=by
 unfold intM at e
 split at e
 ·rename_i h
  obtain⟨n,l1,h1,e⟩:=ah e
  simp only[Prod.mk.injEq]at e;obtain⟨_,rfl⟩:=e
  have:=Am h1;have:=gQ (lD l h);omega
 ·have:=Am e;omega
def Sze(u:PM Ex):Prop:=∀l x r,u l=(some x,r)->nd x+r.length<=l.length
theorem Xc{u:PM Ex}(hu:Sze u):∀(n:Nat) (x:Ex) (l:List Tk) (y:Ex) (r:List Tk),prodL u n x l=(some y,r)->nd y+r.length<=nd x+l.length:=by
 intro n
 induction n with
 |zero=>intro x l y r e;simp only[prodL,Prod.mk.injEq,Option.some.injEq]at e;obtain⟨rfl,rfl⟩:=e;exact Nat.le_refl _
 |succ n ih=>
  intro x l y r e
  rw[pI]at e
  split at e
  ·rename_i h
   obtain⟨z,l1,h1,h2⟩:=ah e
   have a1:=ih _ _ _ _ h2
   have a2:=hu _ _ _ h1
   have a3:=gQ (lD l h)
   simp only[nd,ndL]at a1 ⊢;omega
  ·split at e
   ·rename_i h
    unfold divM at e
    split at e
    ·cases e
    ·obtain⟨z,l1,h1,h2⟩:=ah e
     have a1:=ih _ _ _ _ h2
     have a2:=Am h1
     have a3:=gQ (lD l h)
     simp only[nd,ndL]at a1 ⊢;omega
   ·simp only[Prod.mk.injEq,Option.some.injEq]at e;obtain⟨rfl,rfl⟩:=e;exact Nat.le_refl _
theorem Ud{u:PM Ex}(hu:Sze u):Sze (gm u):=λl y r e=>by
 obtain⟨x,l1,h1,h2⟩:=ah (show bnd (u l) (λx r=>prodL u r.length x r)=_ from e)
 have a1:=Xc hu _ _ _ _ _ h2;have a2:=hu _ _ _ h1;omega
theorem z1e{u:PM Ex}(hu:Sze u):∀(n:Nat) (x:Ex) (l:List Tk) (y:Ex) (r:List Tk),sumL u n x l=(some y,r)->nd y+r.length<=nd x+l.length:=by
 intro n
 induction n with
 |zero=>intro x l y r e;simp only[sumL,Prod.mk.injEq,Option.some.injEq]at e;obtain⟨rfl,rfl⟩:=e;exact Nat.le_refl _
 |succ n ih=>
  intro x l y r e
  rw[xG]at e
  have key:∀{s:Str} {k:Int},isT s l=true->(bnd (gm u (l.drop 1)) λy=>sumL u n (ex2 k x y))=(some y,r)->nd y+r.length<=nd x+l.length:=by
   intro s k h e
   obtain⟨z,l1,h1,h2⟩:=ah e
   have a1:=ih _ _ _ _ h2
   have a2:=Ud hu _ _ _ h1
   have a3:=gQ (lD l h)
   simp only[nd,ndL]at a1 ⊢;omega
  split at e
  ·rename_i h;exact key h e
  ·split at e
   ·rename_i h;exact key h e
   ·simp only[Prod.mk.injEq,Option.some.injEq]at e;obtain⟨rfl,rfl⟩:=e;exact Nat.le_refl _
theorem Ue{u:PM Ex}(hu:Sze u):Sze (sumM u):=λl y r e=>by
 obtain⟨x,l1,h1,h2⟩:=ah (show bnd (gm u l) (λx r=>sumL u r.length x r)=_ from e)
 have a1:=z1e hu _ _ _ _ _ h2;have a2:=Ud hu _ _ _ h1;omega
theorem Xd{u:PM Ex}(hu:Sze u):∀n:Nat,Sze (exprF u n):=by
 intro n
 induction n with
 |zero=>intro l y r e;cases e
 |succ n ih=>
  intro l y r e
  rw[tC]at e
  split at e
  ·rename_i h
   obtain⟨a,l1,h1,e⟩:=ah e
   obtain⟨_,l2,h2,e⟩:=ah e
   obtain⟨b,l3,h3,e⟩:=ah e
   obtain⟨_,l4,h4,e⟩:=ah e
   obtain⟨c,l5,h5,e⟩:=ah e
   obtain⟨_,l6,h6,e⟩:=ah e
   obtain⟨d,l7,h7,e⟩:=ah e
   simp only[Prod.mk.injEq,Option.some.injEq]at e
   obtain⟨rfl,rfl⟩:=e
   have a0:=gQ (lD l h)
   have a1:=Ue hu _ _ _ h1
   have a2:=dR h2
   have a3:=Ue hu _ _ _ h3
   have a4:=dR h4
   have a5:=ih _ _ _ h5
   have a6:=dR h6
   have a7:=ih _ _ _ h7
   simp only[nd,ndL];omega
  ·exact Ue hu _ _ _ e
theorem Ju{u:PM Ex}(hu:Sze u):Sze (jd u):=λl y r e=>Xd hu _ l y r e
theorem z1f{u:PM Ex}(hu:Sze u):∀(n i:Nat) (acc:List Ex) (l:List Tk) (xs:List Ex) (r:List Tk),xy u n i acc l=(some xs,r)->ndL xs+r.length<=ndL acc+l.length:=by
 intro n
 induction n with
 |zero=>intro i acc l xs r e;simp only[xy,Prod.mk.injEq,Option.some.injEq]at e;obtain⟨rfl,rfl⟩:=e;exact Nat.le_refl _
 |succ n ih=>
  intro i acc l xs r e
  rw[xy]at e
  obtain⟨_,l1,h1,e⟩:=ah e
  obtain⟨x,l2,h2,e⟩:=ah e
  have a1:l1.length<=l.length:=by
   split at h1
   ·have:=dR h1;omega
   ·cases h1;exact Nat.le_refl _
  have a2:=Ju hu _ _ _ h2
  have a3:=ih _ _ _ _ _ e
  rw[Uc]at a3
  simp only[ndL]at a3;omega
theorem z1g{u:PM Ex}(hu:Sze u){f:Int}{n:Nat}{nm:Bool}{l r:List Tk}{x:Ex}(e:iR u f n nm l=(some x,r)):nd x+r.length<=l.length:=by
 unfold iR at e
 obtain⟨_,l1,h1,e⟩:=ah e
 obtain⟨s,l2,h2,e⟩:=ah e
 obtain⟨xs,l3,h3,e⟩:=ah e
 obtain⟨_,l4,h4,e⟩:=ah e
 simp only[Prod.mk.injEq,Option.some.injEq]at e
 obtain⟨rfl,rfl⟩:=e
 have key:l2.length<=l1.length:=by
  cases nm with
  |true=>
   simp only[if_true]at h2
   obtain⟨s',l5,h5,h2⟩:=ah h2
   obtain⟨_,l6,h6,h2⟩:=ah h2
   simp only[Prod.mk.injEq,Option.some.injEq]at h2
   obtain⟨rfl,rfl⟩:=h2
   have:=qJ h5;have:=dR h6;omega
  |false=>simp only[Bool.false_eq_true,if_false]at h2;cases h2;exact Nat.le_refl _
 have a1:=dR h1
 have a3:=z1f hu _ _ _ _ _ _ h3
 have a4:=dR h4
 simp only[nd,ndL]at a3 ⊢;omega
theorem z1h:∀k:Nat,Sze (bH k):=by
 have base:∀u:Option (PM Ex),(∀v,u=some v->Sze v)->Sze (unitB u):=by
  intro u hu l x r e
  unfold unitB at e
  split at e
  ·rename_i hN
   simp only[Prod.mk.injEq,Option.some.injEq]at e
   obtain⟨rfl,rfl⟩:=e
   have:=gQ (yz l hN);simp only[nd,ndL];omega
  ·split at e
   ·rename_i hN
    simp only[Prod.mk.injEq,Option.some.injEq]at e
    obtain⟨rfl,rfl⟩:=e
    have:=gQ (Es l hN);simp only[nd,ndL];omega
   ·cases u with
    |none=>cases e
    |some u=>
     have hg:=hu u rfl
     simp only at e
     split at e
     ·rename_i h
      obtain⟨y,l1,h1,e⟩:=ah e
      simp only[Prod.mk.injEq,Option.some.injEq]at e
      obtain⟨rfl,rfl⟩:=e
      have:=hg _ _ _ h1;have:=gQ (lD l h);simp only[nd,ndL];omega
     ·split at e
      ·rename_i h
       obtain⟨y,l1,h1,e⟩:=ah e
       obtain⟨_,l2,h2,e⟩:=ah e
       simp only[Prod.mk.injEq,Option.some.injEq]at e
       obtain⟨rfl,rfl⟩:=e
       have:=Ju hg _ _ _ h1;have:=dR h2;have:=gQ (lD l h);omega
      ·split at e
       ·split at e
        ·have:=z1g hg e
         have:(l.drop 1).length<=l.length:=by rw[List.length_drop];omega
         omega
        ·cases e
       ·cases e
 intro k
 induction k with
 |zero=>exact base none (λv h=>by cases h)
 |succ k ih=>exact base (some (bH k)) (λv h=>by cases h;exact ih)
def szP(p:Pr):Nat:=p.params.length+(p.states.length+(p.lines.length+((p.tables.map λt=>t.values.length).sum+(p.stmts.map λs=>nd s.x).sum)))
def Keep(f:IM):Prop:=∀p l p' r,EC p->Val l->f p l=(true,p',r)->EC p'/\Val r/\szP p'+r.length<=szP p+l.length
theorem jf{α:Type}{p p':Pr}{m:Option α×List Tk}{f:α->List Tk->Bool×Pr×List Tk}{r:List Tk}(h:itB p m f=(true,p',r)):∃x l,m=(some x,l)/\f x l=(true,p',r):=by
 obtain⟨o,l⟩:=m
 cases o with
 |none=>cases h
 |some x=>exact⟨x,l,rfl,h⟩
theorem MH{l r:List Tk}{b:Int×Int}(h:Val l)(e:kM l=(some b,r)):kY b.1/\kY b.2/\Val r/\r.length<=l.length:=by
 unfold kM at e
 obtain⟨_,l1,h1,e⟩:=ah e
 obtain⟨lo,l2,h2,e⟩:=ah e
 obtain⟨_,l3,h3,e⟩:=ah e
 obtain⟨hi,l4,h4,e⟩:=ah e
 simp only[Prod.mk.injEq,Option.some.injEq]at e
 obtain⟨rfl,rfl⟩:=e
 have v1:=(aS _).val h h1
 have v2:=pG.val v1 h2
 have v3:=(aS _).val v2 h3
 refine⟨WZ v1 h2,WZ v3 h4,pG.val v3 h4,?_⟩
 have:=dR h1;have:=ED h2;have:=dR h3;have:=ED h4;omega
theorem Uf{l r:List Tk}{b:Bd}(h:Val l)(e:oV l=(some b,r)):W9 b/\Val r/\r.length+1<=l.length:=by
 unfold oV at e
 obtain⟨s,l1,h1,e⟩:=ah e
 obtain⟨c,l2,h2,e⟩:=ah e
 simp only[Prod.mk.injEq,Option.some.injEq]at e
 obtain⟨rfl,rfl⟩:=e
 obtain⟨a,b,v,n⟩:=MH (iF.val h h1) h2
 exact⟨⟨Aj h h1,a,b⟩,v,by have:=qJ h1;omega⟩
theorem nO{α:Type}{Q:α->Prop}{l:List α}{x:α}(h:∀y∈l,Q y)(hx:Q x):∀y∈l++[x],Q y:=λy hy=>by
 rcases List.mem_append.1 hy with h1 |h1
 ·exact h y h1
 ·rw[List.mem_singleton.1 h1];exact hx
theorem z1i:Keep oW:=λp l p' r hp hv e=>by
 unfold oW at e
 obtain⟨b,l1,h1,e⟩:=jf e
 simp only[Prod.mk.injEq,true_and]at e
 obtain⟨rfl,rfl⟩:=e
 obtain⟨hb,v,n⟩:=Uf hv h1
 exact⟨{ hp with params:=nO hp.params hb },v,by simp only[szP,List.length_append,List.length_singleton];omega⟩
theorem z1j:Keep oZ:=λp l p' r hp hv e=>by
 unfold oZ at e
 obtain⟨b,l1,h1,e⟩:=jf e
 simp only[Prod.mk.injEq,true_and]at e
 obtain⟨rfl,rfl⟩:=e
 obtain⟨hb,v,n⟩:=Uf hv h1
 exact⟨{ hp with states:=nO hp.states hb },v,by simp only[szP,List.length_append,List.length_singleton];omega⟩
theorem z6t:Keep zL:=λp l p' r hp hv e=>by
 unfold zL at e
 obtain⟨s,l1,h1,e⟩:=jf e
 obtain⟨n,l2,h2,e⟩:=jf e
 obtain⟨b,l3,h3,e⟩:=jf e
 simp only[Prod.mk.injEq,true_and]at e
 obtain⟨rfl,rfl⟩:=e
 have v1:=iF.val hv h1
 have v2:=nM.val v1 h2
 obtain⟨a,c,v3,m⟩:=MH v2 h3
 exact⟨{ hp with lines:=nO hp.lines ⟨Aj hv h1,Js v1 h2,a,c⟩ },v3,by have:=qJ h1;have:=Am h2;simp only[szP,List.length_append,List.length_singleton];omega⟩
theorem z1k:∀(n:Nat) (acc:List Int) (l:List Tk) (vs:List Int) (r:List Tk),(∀x∈acc,kY x)->Val l->listL n acc l=(some vs,r)->(∀x∈vs,kY x)/\acc.length<=vs.length/\Val r/\vs.length+r.length<=acc.length+l.length:=by
 intro n
 induction n with
 |zero=>intro acc l vs r ha hv e;simp only[listL,Prod.mk.injEq,Option.some.injEq]at e;obtain⟨rfl,rfl⟩:=e;exact⟨ha,Nat.le_refl _,hv,Nat.le_refl _⟩
 |succ n ih=>
  intro acc l vs r ha hv e
  rw[Ai]at e
  split at e
  ·rename_i h
   obtain⟨v,l1,h1,e⟩:=ah e
   obtain⟨a,b,c,d⟩:=ih _ _ _ _ (nO ha (WZ hv.drop h1)) (pG.val hv.drop h1) e
   have:=gQ (lD l h);have:=ED h1
   rw[List.length_append,List.length_singleton]at b d
   exact⟨a,by omega,c,by omega⟩
  ·simp only[Prod.mk.injEq,Option.some.injEq]at e;obtain⟨rfl,rfl⟩:=e;exact⟨ha,Nat.le_refl _,hv,Nat.le_refl _⟩
theorem z1l:Keep o7:=λp l p' r hp hv e=>by
 unfold o7 at e
 obtain⟨s,l1,h1,e⟩:=jf e
 obtain⟨_,l2,h2,e⟩:=jf e
 obtain⟨vs,l3,h3,e⟩:=jf e
 simp only[Prod.mk.injEq,true_and]at e
 obtain⟨rfl,rfl⟩:=e
 have v1:=iF.val hv h1
 have v2:=(aS _).val v1 h2
 unfold zM at h3
 obtain⟨v,l4,h4,h3⟩:=ah h3
 obtain⟨a,b,c,d⟩:=z1k _ _ _ _ _ (λx hx=>by rw[List.mem_singleton.1 hx];exact WZ v2 h4) (pG.val v2 h4) h3
 rw[List.length_singleton]at b d
 refine⟨{ hp with tables:=nO hp.tables ⟨Aj hv h1,?_,a⟩ },c,?_⟩
 ·intro h0;simp only at h0;rw[h0]at b;simp at b
 ·have:=qJ h1;have:=dR h2;have:=ED h4
  simp only[szP,List.map_append,List.map_cons,List.map_nil,List.sum_append,List.sum_cons,List.sum_nil];omega
theorem MJ{k:Int}(hk:k=1\/k=2\/k=3\/k=4):Keep (jm k):=λp l p' r hp hv e=>by
 unfold jm at e
 obtain⟨s,l1,h1,e⟩:=jf e
 obtain⟨x,l2,h2,e⟩:=jf e
 simp only[Prod.mk.injEq,true_and]at e
 obtain⟨rfl,rfl⟩:=e
 have key:((k=1\/k=2\/k=3)/\CV s\/k=4/\s = [])/\Val l1/\l1.length<=l.length:=by
  split at h1
  ·rename_i h
   obtain⟨s',l5,h5,h1⟩:=ah h1
   obtain⟨_,l6,h6,h1⟩:=ah h1
   simp only[Prod.mk.injEq,Option.some.injEq]at h1
   obtain⟨rfl,rfl⟩:=h1
   have h4:k≠4:=by simpa using h
   exact⟨.inl ⟨by omega,Aj hv h5⟩,(aS _).val (iF.val hv h5) h6,by have:=qJ h5;have:=dR h6;omega⟩
  ·rename_i h
   simp only[Prod.mk.injEq,Option.some.injEq]at h1
   obtain⟨rfl,rfl⟩:=h1
   exact⟨.inr ⟨by simpa using h,rfl⟩,hv,Nat.le_refl _⟩
 refine⟨{ hp with stmts:=nO hp.stmts ⟨key.1,rfl,TT (jw 63) (z6q 63) _ _ _ key.2.1 h2⟩ },(uZ (jw 63)).val key.2.1 h2,?_⟩
 have:=Ju (z1h 63) _ _ _ h2
 simp only[szP,List.map_append,List.map_cons,List.map_nil,List.sum_append,List.sum_cons,List.sum_nil];omega
theorem z6u{t:List (Str×IM)}(ht:∀q∈t,Keep q.2){s:Str}{f:IM}(h:find s t=some f):Keep f:=by
 induction t with
 |nil=>cases h
 |cons q t ih=>
  obtain⟨w,g⟩:=q
  rw[find]at h
  split at h
  ·cases h;exact ht (w,f) (by simp)
  ·exact ih (λq hq=>ht q (by simp[hq])) h
theorem MK{t:List (Str×IM)}(ht:∀q∈t,Keep q.2):∀n,Keep (dH t n):=by
 intro n
 induction n with
 |zero=>intro p l p' r hp hv e;simp only[dH,Prod.mk.injEq,true_and]at e;obtain⟨rfl,rfl⟩:=e;exact⟨hp,hv,Nat.le_refl _⟩
 |succ n ih=>
  intro p l p' r hp hv e
  rw[nN]at e
  have same:((true,p,l):Bool×Pr×List Tk)=(true,p',r)->EC p'/\Val r/\szP p'+r.length<=szP p+l.length:=by
   intro e;simp only[Prod.mk.injEq,true_and]at e;obtain⟨rfl,rfl⟩:=e;exact⟨hp,hv,Nat.le_refl _⟩
  split at e
  ·exact same e
  ·split at e
   ·exact same e
   ·rename_i f hf
    split at e
    ·cases hX:f p (l.drop 1)with
     |mk b q=>
      obtain⟨p1,l1⟩:=q
      rw[hX]at e
      cases b with
      |false=>cases e
      |true=>
       obtain⟨_,l2,h2,e⟩:=jf (show itB p1 (aF sSemi l1) (λ_ l=>dH t n p1 l)=_ from e)
       obtain⟨a1,a2,a3⟩:=z6u ht hf _ _ _ _ hp hv.drop hX
       obtain⟨b1,b2,b3⟩:=ih _ _ _ _ a1 ((aS _).val a2 h2) e
       have:=dR h2
       have:(l.drop 1).length<=l.length:=by rw[List.length_drop];omega
       exact⟨b1,b2,by omega⟩
    ·exact same e
theorem z1m:∀q∈decls,Keep q.2:=by
 intro q hq
 simp only[decls,List.mem_cons,List.not_mem_nil,or_false]at hq
 rcases hq with rfl |rfl |rfl |rfl
 ·exact z1i
 ·exact z1j
 ·exact z6t
 ·exact z1l
theorem z1o:∀q∈stmts,Keep q.2:=by
 intro q hq
 simp only[stmts,List.mem_cons,List.not_mem_nil,or_false]at hq
 rcases hq with rfl |rfl |rfl |rfl
 ·exact MJ (k:=1) (by decide)
 ·exact MJ (k:=2) (by decide)
 ·exact MJ (k:=3) (by decide)
 ·exact MJ (k:=4) (by decide)
theorem Ha{α:Type}{x:Bool×Pr×List Tk}{g:Pr->PM α}{y:α}{r:List Tk}(h:seqP x g=(some y,r)):∃p l,x=(true,p,l)/\g p l=(some y,r):=by
 obtain⟨b,p,l⟩:=x
 cases b with
 |false=>cases h
 |true=>exact⟨p,l,rfl,h⟩
theorem z6v{l r:List Tk}{p:Pr}(hv:Val l)(e:lN l=(some p,r)):EC p/\Val r/\szP p+1+r.length<=l.length:=by
 rw[TP]at e
 obtain⟨_,l1,h1,e⟩:=ah e
 obtain⟨s,l2,h2,e⟩:=ah e
 obtain⟨_,l3,h3,e⟩:=ah e
 obtain⟨a,l4,h4,e⟩:=ah e
 obtain⟨_,l5,h5,e⟩:=ah e
 obtain⟨t,l6,h6,e⟩:=ah e
 obtain⟨_,l7,h7,e⟩:=ah e
 obtain⟨p1,l8,h8,e⟩:=Ha e
 obtain⟨p2,l9,h9,e⟩:=Ha e
 obtain⟨_,l10,h10,e⟩:=ah e
 simp only[Prod.mk.injEq,Option.some.injEq]at e
 obtain⟨rfl,rfl⟩:=e
 have v1:=(aS _).val hv h1
 have v2:=iF.val v1 h2
 have v3:=(aS _).val v2 h3
 have v4:=nM.val v3 h4
 have v5:=(aS _).val v4 h5
 have v6:=Et.val v5 h6
 have v7:=(aS _).val v6 h7
 have n6:l6.length<=l5.length:=(Et.act h6).le
 have ht:t = -1\/qU t:=by
  split at h6
  ·exact .inr (Js v5 h6)
  ·obtain⟨_,l11,h11,h6⟩:=ah h6
   simp only[Prod.mk.injEq,Option.some.injEq]at h6
   exact .inl h6.1.symm
 have hp:EC ⟨s,a,t,[],[],[],[],[]⟩:=⟨Aj v1 h2,Js v3 h4,ht,by simp,by simp,by simp,by simp,by simp⟩
 obtain⟨b1,b2,b3⟩:=MK z1m _ _ _ _ _ hp v7 h8
 obtain⟨c1,c2,c3⟩:=MK z1o _ _ _ _ _ b1 b2 h9
 refine⟨c1,(aS _).val c2 h10,?_⟩
 have:=dR h1;have:=qJ h2;have:=dR h3;have:=Am h4;have:=dR h5;have:=dR h7;have:=dR h10
 have h0:szP ⟨s,a,t,[],[],[],[],[]⟩=0:=rfl
 omega
theorem z1p:∀(n:Nat) (ps:List Pr) (l:List Tk) (x:List Pr) (r:List Tk),(∀p∈ps,EC p)->Val l->readF n ps l=(some x,r)->(∀p∈x,EC p)/\(x.map λp=>szP p+1).sum+r.length<=(ps.map λp=>szP p+1).sum+l.length:=by
 intro n
 induction n with
 |zero=>intro ps l x r hp hv e;simp only[readF,Prod.mk.injEq,Option.some.injEq]at e;obtain⟨rfl,rfl⟩:=e;exact⟨hp,Nat.le_refl _⟩
 |succ n ih=>
  intro ps l x r hp hv e
  cases l with
  |nil=>rw[mg]at e;simp only[Prod.mk.injEq,Option.some.injEq]at e;obtain⟨rfl,rfl⟩:=e;exact⟨hp,Nat.le_refl _⟩
  |cons t l=>
   rw[Eu]at e
   obtain⟨p,l1,h1,e⟩:=ah e
   obtain⟨a1,a2,a3⟩:=z6v hv h1
   obtain⟨b1,b2⟩:=ih _ _ _ _ (nO hp a1) a2 e
   simp only[List.map_append,List.map_cons,List.map_nil,List.sum_append,List.sum_cons,List.sum_nil]at b2
   exact⟨b1,by omega⟩
theorem Yh{l r:List Tk}{x:List Pr}(hv:Val l)(e:readM l=(some x,r)):(∀p∈x,EC p)/\(x.map λp=>szP p+1).sum<=l.length:=by
 obtain⟨a,b⟩:=z1p _ _ _ _ _ (by simp) hv (show readF l.length [] l=_ from e)
 simp only[List.map_nil,List.sum_nil]at b
 exact⟨a,by omega⟩
end Go.Fw.Sy
