/- SyntaxBack: what is read can be written. -/
import Derived.Test.YtmfehangcmbidaaGreatDoorZSP8
set_option linter.unusedSectionVars false
set_option linter.unusedSimpArgs false
set_option linter.unusedVariables false
namespace Go.Fw.Sy
open Go.Fw Go.Fw.Lx
variable [ae] {k : Nat} {u : PM Ex} {l r : List Tk}
def Val(l:List Tk):Prop:=∀t∈l,valid t=true
theorem Val.app{c r:List Tk}(h:Val (c++r)):Val r:=λt ht=>h t (by simp[ht])
theorem Val.drop{l:List Tk}(h:Val l):Val (l.drop 1):=λt ht=>h t (List.mem_of_mem_drop ht)
theorem Loc.val{β:Type}{M:List Tk->β×List Tk}{o:β}(hM:Loc M)(h:Val l)(e:M l=(o,r)):Val r:=by
 obtain⟨c,rfl,_⟩:=hM.act e;exact h.app
theorem zt{s:Str}(h:Val l)(e:nameM l=(some s,r)):RH s:=by
 unfold nameM at e
 split at e
 ·rename_i hN
  cases l with
  |nil=>simp[isNm]at hN
  |cons t l=>
   have hv:=h t (by simp)
   simp only[isNm,hd,List.isEmpty_cons,Bool.not_false,Bool.true_and,Bool.and_eq_true,beq_iff_eq,Bool.not_eq_true']at hN
   simp only[Prod.mk.injEq,Option.some.injEq,hd]at e
   obtain⟨rfl,_⟩:=e
   refine⟨hN.2,?_⟩
   unfold valid at hv
   rw[if_pos (by rw[hN.1];rfl)]at hv
   simp only[Bool.and_eq_true]at hv
   exact hv.1
 ·cases e
theorem Ip{n:Int}(h:Val l)(e:numM l=(some n,r)):FV n:=by
 unfold numM at e
 split at e
 ·rename_i hN
  cases l with
  |nil=>simp[isNum]at hN
  |cons t l=>
   have hv:=h t (by simp)
   simp only[isNum,hd,List.isEmpty_cons,Bool.not_false,Bool.true_and,Bool.and_eq_true,beq_iff_eq,decide_eq_true_eq]at hN
   simp only[Prod.mk.injEq,Option.some.injEq,hd]at e
   obtain⟨rfl,_⟩:=e
   unfold valid at hv
   rw[if_neg (by rw[hN.1];decide),if_pos (by rw[hN.1];rfl)]at hv
   simp only[Bool.and_eq_true,decide_eq_true_eq]at hv
   exact⟨hv.1.2,of_decide_eq_true hN.2⟩
 ·cases e
theorem F.mul{x y:Ex}(h:F k 2 x)(h2:F k 3 y):F k 2 (.mk 17 [] 0 0 [x,y]):=.bare (show(2:Int)<=2 from Int.le_refl _) (.mul h h2)
theorem F.div{x:Ex}{n:Int}(h:F k 2 x)(hn:FV n)(h0:n≠0):F k 2 (.mk 18 [] 0 n [x]):=.bare (show(2:Int)<=2 from Int.le_refl _) (.div h hn h0)
theorem F.add{x y:Ex}(h:F k 1 x)(h2:F k 2 y):F k 1 (.mk 15 [] 0 0 [x,y]):=.bare (show(1:Int)<=1 from Int.le_refl _) (.add h h2)
theorem F.sub{x y:Ex}(h:F k 1 x)(h2:F k 2 y):F k 1 (.mk 16 [] 0 0 [x,y]):=.bare (show(1:Int)<=1 from Int.le_refl _) (.sub h h2)
def Giv(u:PM Ex)(Q:Ex->Prop):Prop:=∀l x r,Val l->u l=(some x,r)->Q x
theorem Zc(hl:Loc u)(hu:Giv u (F k 3)):∀(n:Nat) (x:Ex) (l:List Tk) (y:Ex) (r:List Tk),F k 2 x->Val l->prodL u n x l=(some y,r)->F k 2 y:=by
 intro n
 induction n with
 |zero=>intro x l y r hx _ e;simp only[prodL,Prod.mk.injEq,Option.some.injEq]at e;obtain⟨rfl,_⟩:=e;exact hx
 |succ n ih=>
  intro x l y r hx hv e
  rw[mX]at e
  split at e
  ·obtain⟨z,l1,h1,h2⟩:=af e
   exact ih _ _ _ _ (F.mul hx (hu _ _ _ hv.drop h1)) (hl.val hv.drop h1) h2
  ·split at e
   ·unfold divM at e
    split at e
    ·cases e
    ·rename_i hz
     obtain⟨z,l1,h1,h2⟩:=af e
     have hn:=Ip hv.drop h1
     refine ih _ _ _ _ (F.div hx hn ?_) (mW.val hv.drop h1) h2
     rintro rfl
     unfold numM at h1
     split at h1
     ·rename_i h3
      simp only[Prod.mk.injEq,Option.some.injEq]at h1
      rw[h3,h1.1]at hz
      exact hz rfl
     ·cases h1
   ·simp only[Prod.mk.injEq,Option.some.injEq]at e;obtain⟨rfl,_⟩:=e;exact hx
theorem RI(hl:Loc u)(hu:Giv u (F k 3)):Giv (gy u) (F k 2):=λl y r hv e=>by
 obtain⟨x,l1,h1,h2⟩:=af (show bnd (u l) (λx r=>prodL u r.length x r)=_ from e)
 exact Zc hl hu _ _ _ _ _ ((hu _ _ _ hv h1).low (by decide)) (hl.val hv h1) h2
theorem z3i(hl:Loc u)(hu:Giv u (F k 3)):∀(n:Nat) (x:Ex) (l:List Tk) (y:Ex) (r:List Tk),F k 1 x->Val l->sumL u n x l=(some y,r)->F k 1 y:=by
 intro n
 induction n with
 |zero=>intro x l y r hx _ e;simp only[sumL,Prod.mk.injEq,Option.some.injEq]at e;obtain⟨rfl,_⟩:=e;exact hx
 |succ n ih=>
  intro x l y r hx hv e
  rw[uw]at e
  split at e
  ·obtain⟨z,l1,h1,h2⟩:=af e
   exact ih _ _ _ _ (F.add hx (RI hl hu _ _ _ hv.drop h1)) ((kU hl).val hv.drop h1) h2
  ·split at e
   ·obtain⟨z,l1,h1,h2⟩:=af e
    exact ih _ _ _ _ (F.sub hx (RI hl hu _ _ _ hv.drop h1)) ((kU hl).val hv.drop h1) h2
   ·simp only[Prod.mk.injEq,Option.some.injEq]at e;obtain⟨rfl,_⟩:=e;exact hx
theorem Zd(hl:Loc u)(hu:Giv u (F k 3)):Giv (sumM u) (F k 1):=λl y r hv e=>by
 obtain⟨x,l1,h1,h2⟩:=af (show bnd (gy u l) (λx r=>sumL u r.length x r)=_ from e)
 exact z3i hl hu _ _ _ _ _ ((RI hl hu _ _ _ hv h1).low (by decide)) ((kU hl).val hv h1) h2
theorem Ze(hl:Loc u)(hu:Giv u (F k 3)):∀n:Nat,(∀(l:List Tk) (y:Ex) (r:List Tk),Val l->exprF u n l=(some y,r)->G k y/\Val r):=by
 intro n
 induction n with
 |zero=>intro l y r _ e;cases e
 |succ n ih=>
  intro l y r hv e
  rw[mY]at e
  split at e
  ·obtain⟨a,l1,h1,e⟩:=af e
   obtain⟨_,l2,h2,e⟩:=af e
   obtain⟨b,l3,h3,e⟩:=af e
   obtain⟨_,l4,h4,e⟩:=af e
   obtain⟨c,l5,h5,e⟩:=af e
   obtain⟨_,l6,h6,e⟩:=af e
   obtain⟨d,l7,h7,e⟩:=af e
   simp only[Prod.mk.injEq,Option.some.injEq]at e
   obtain⟨rfl,rfl⟩:=e
   have v1:=(rO hl).val hv.drop h1
   have v2:=(aP _).val v1 h2
   have v3:=(rO hl).val v2 h3
   have v4:=(aP _).val v3 h4
   obtain⟨gc,v5⟩:=ih _ _ _ v4 h5
   have v6:=(aP _).val v5 h6
   obtain⟨gd,v7⟩:=ih _ _ _ v6 h7
   exact⟨.ife (Zd hl hu _ _ _ hv.drop h1) (Zd hl hu _ _ _ v2 h3) gc gd,v7⟩
  ·exact⟨((Zd hl hu _ _ _ hv e).low (by decide)).g,(rO hl).val hv e⟩
theorem RJ(hl:Loc u)(hu:Giv u (F k 3)):Giv (iT u) (G k):=λl y r hv e=>(Ze hl hu _ l y r hv e).1
end Go.Fw.Sy
