/- SyntaxBack: what is read can be written: units. -/
import Derived.Test.YtmfehangcmbidaaGreatDoorZSP9
set_option linter.unusedSectionVars false
set_option linter.unusedSimpArgs false
set_option linter.unusedVariables false
namespace Go.Fw.Sy
open Go.Fw Go.Fw.Lx
variable [ae]
theorem z3j{u:PM Ex}(hl:Loc u){k:Nat}(hu:Giv u (F k 3)):∀(n i:Nat) (acc:List Ex) (l:List Tk) (xs:List Ex) (r:List Tk),(∀x∈acc,G k x)->Val l->wG u n i acc l=(some xs,r)->(∀x∈xs,G k x)/\xs.length=acc.length+n:=by
 intro n
 induction n with
 |zero=>intro i acc l xs r ha _ e;simp only[wG,Prod.mk.injEq,Option.some.injEq]at e;obtain⟨rfl,_⟩:=e;exact⟨ha,rfl⟩
 |succ n ih=>
  intro i acc l xs r ha hv e
  rw[wG]at e
  obtain⟨_,l1,h1,e⟩:=af e
  obtain⟨x,l2,h2,e⟩:=af e
  have v1:Val l1:=by
   split at h1
   ·exact(aP _).val hv h1
   ·cases h1;exact hv
  have hx:=RJ hl hu _ _ _ v1 h2
  obtain⟨h3,h4⟩:=ih _ _ _ _ _ (λy hy=>by
   rcases List.mem_append.1 hy with h |h
   ·exact ha y h
   ·rw[List.mem_singleton.1 h];exact hx) ((uy hl).val v1 h2) e
  exact⟨h3,by rw[h4,List.length_append,List.length_singleton];omega⟩
theorem z3k{u:PM Ex}(hl:Loc u){k:Nat}(hu:Giv u (F k 3)){f:Int}{n:Nat}{nm:Bool}{l r:List Tk}{x:Ex}(hv:Val l)(e:argsM u f n nm l=(some x,r)) :
  ∃s xs,x = .mk f s 0 0 xs/\(∀y∈xs,G k y)/\xs.length=n/\(if nm then RH s else s = []):=by
 unfold argsM at e
 obtain⟨_,l1,h1,e⟩:=af e
 obtain⟨s,l2,h2,e⟩:=af e
 obtain⟨xs,l3,h3,e⟩:=af e
 obtain⟨_,l4,h4,e⟩:=af e
 simp only[Prod.mk.injEq,Option.some.injEq]at e
 obtain⟨rfl,_⟩:=e
 have v1:=(aP _).val hv h1
 have key:(if nm then RH s else s = [])/\Val l2:=by
  cases nm with
  |true=>
   simp only[if_true]at h2 ⊢
   obtain⟨s',l5,h5,h2⟩:=af h2
   obtain⟨_,l6,h6,h2⟩:=af h2
   simp only[Prod.mk.injEq,Option.some.injEq]at h2
   obtain⟨rfl,rfl⟩:=h2
   exact⟨zt v1 h5,(aP _).val (gK.val v1 h5) h6⟩
  |false=>
   simp only[Bool.false_eq_true,if_false]at h2 ⊢
   cases h2;exact⟨rfl,v1⟩
 obtain⟨h5,h6⟩:=z3j hl hu _ _ _ _ _ _ (by simp) key.2 h3
 exact⟨s,xs,rfl,h5,by simpa using h6,key.1⟩
theorem WU{xs:List Ex}(h:xs.length=1):∃x,xs = [x]:=by
 match xs,h with
 | [x],_=>exact⟨x,rfl⟩
theorem z3l{xs:List Ex}(h:xs.length=2):∃x y,xs = [x,y]:=by
 match xs,h with
 | [x,y],_=>exact⟨x,y,rfl⟩
theorem z3m{s:Str}{f:Int×Int×Bool}(h:look s wF=some f):f=(6,1,false)\/f=(7,1,false)\/f=(10,1,false)\/f=(13,1,false)\/f=(8,1,true)\/f=(9,1,true)\/f=(11,2,false)\/f=(12,2,false):=by
 simp only[wF,look]at h
 repeat' (split at h)
 all_goals first |(cases h;simp;done) |cases h
theorem G.f3{k:Nat}{x:Ex}(h:G k x)(hx:3<=level x.kind):F k 3 x:=.bare hx h
theorem z3n:∀k:Nat,Giv (gX k) (F k 3):=by
 have base:∀(k:Nat) (u:Option (PM Ex)),(∀v,u=some v->Loc v/\∃k',k=k'+1/\Giv v (F k' 3))->Giv (unitB u) (F k 3):=by
  intro k u hu l x r hv e
  unfold unitB at e
  split at e
  ·rename_i hN
   have hn:=Ip hv (show numM l=(some (hd l).n,l.drop 1)by rw[numM,if_pos hN])
   simp only[Prod.mk.injEq,Option.some.injEq]at e
   obtain⟨rfl,_⟩:=e
   exact G.f3 (.num hn) (show(3:Int)<=3 from Int.le_refl _)
  ·split at e
   ·rename_i hN
    have hn:=zt hv (show nameM l=(some (hd l).text,l.drop 1)by rw[nameM,if_pos hN])
    simp only[Prod.mk.injEq,Option.some.injEq]at e
    obtain⟨rfl,_⟩:=e
    exact G.f3 (.name hn) (show(3:Int)<=3 from Int.le_refl _)
   ·cases u with
    |none=>cases e
    |some u=>
     obtain⟨hl,k',rfl,hg⟩:=hu u rfl
     simp only at e
     split at e
     ·obtain⟨y,l1,h1,e⟩:=af e
      simp only[Prod.mk.injEq,Option.some.injEq]at e
      obtain⟨rfl,_⟩:=e
      exact G.f3 (.neg (hg _ _ _ hv.drop h1)) (show(3:Int)<=3 from Int.le_refl _)
     ·split at e
      ·obtain⟨y,l1,h1,e⟩:=af e
       obtain⟨_,l2,h2,e⟩:=af e
       simp only[Prod.mk.injEq,Option.some.injEq]at e
       obtain⟨rfl,_⟩:=e
       have hy:=RJ hl hg _ _ _ hv.drop h1
       rcases Int.lt_or_le (level y.kind) 3 with h3 |h3
       ·exact .par h3 hy
       ·exact .bare h3 hy.up
      ·split at e
       ·rename_i f hf
        split at e
        ·obtain⟨s,xs,rfl,h1,h2,h3⟩:=z3k hl hg hv.drop e
         rcases z3m hf with rfl |rfl |rfl |rfl |rfl |rfl |rfl |rfl
         all_goals simp only[Bool.false_eq_true,if_false,if_true]at h3
         all_goals first
          |(obtain⟨y,rfl⟩:=WU h2;subst h3;exact G.f3 (.one (by simp) (h1 y (by simp))) (show(3:Int)<=3 from Int.le_refl _))
          |(obtain⟨y,rfl⟩:=WU h2;exact G.f3 (.named (by simp) h3 (h1 y (by simp))) (show(3:Int)<=3 from Int.le_refl _))
          |(obtain⟨y,z,rfl⟩:=z3l h2;subst h3;exact G.f3 (.two (by simp) (h1 y (by simp)) (h1 z (by simp))) (show(3:Int)<=3 from Int.le_refl _))
        ·cases e
       ·cases e
 intro k
 induction k with
 |zero=>exact base 0 none (λv h=>by cases h)
 |succ k ih=>exact base (k+1) (some (gX k)) (λv h=>by cases h;exact⟨iP k,k,rfl,ih⟩)
end Go.Fw.Sy
