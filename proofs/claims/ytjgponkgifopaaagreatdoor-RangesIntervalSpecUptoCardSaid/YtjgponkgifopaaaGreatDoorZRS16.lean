/- Contracts: the laws of ranges that compare: RangesSpec, RangesIntervalSpec. -/
import Derived.Test.YtjgponkgifopaaaGreatDoorZRS15
import Derived.Test.YtjgponkgifopaaaGreatDoorZRB
set_option linter.unusedSimpArgs false
set_option linter.unusedVariables false
namespace Go.Proofs.YtjgponkgifopaaaGreatDoor
open Go.Fw Go.Fw.Rg Go.Fw.Nam
set_option maxRecDepth 10000
set_option linter.unusedSectionVars false
variable [GlobInt]
set_option maxHeartbeats 2000000 in
theorem interval_at (p : Pr) (x : Ex) (a b e : Int) (g : GoodP p) (H : FewH p) (hx : esz x ≤ 1073741824) (h1 : PCall Tryz.prog 15 [p.d, x.d] (.ret (.tuple [.i a, .i b, .i e]))) (h2 : PCall Tryz.prog 16 [p.d, x.d] (.ret (.tuple [.i a, .i b, .i e]))) : PCall Tryz.prog 4 [p.d, x.d] (.ret (.b true)) := by
  refine pcall_of_wc tok hmix ⟨[], []⟩ Tryz.func4 rfl (by kernel_rfl) (by kernel_rfl) (by kernel_rfl) fun hf => ?_
  clear hf
  repeat' ((try (conv => whnf)) <;> first
    | (exact Bool.noConfusion (show false = true from h))
    | with_reducible refine BrI.intro (fun h => ?_) (fun h => ?_)
    | ((with_reducible refine call_step ?_ ?_ ?_); rotate_left; (first | exact rsane_call | exact rfew_call _ (by assumption) (by assumption) | exact fewex_call _ (by assumption) | exact int_no1 _ _ _ (by assumption) (by assumption) | exact int_no2 _ _ _ _ (by assumption) (by assumption) | exact int_name _ _ _ (by assumption) (by assumption) | exact int_ok _ _ _ _ (by assumption) (by assumption) (by assumption) | exact int_bad _ _ _ _ (by assumption) (by assumption) (by assumption) | exact rint_no _ _ (by assumption) (by assumption) | exact rint_go _ _ (by assumption) (by assumption) (by assumption) (by assumption) | exact rsane_call | exact rfew_call p g.sm H | exact fewex_call x hx | exact h1 | exact h2 | fail))
    | ((with_reducible refine guard_step ?_ ?_ (fun hg => ?_) ?_); exact rfl)
    | ((with_reducible refine val_step ?_ ?_); with_reducible exact rfl; with_reducible exact rfl)
    | ((with_reducible refine ret_step ?_); refine ⟨[], rfl, ?_, trivial⟩; conv => whnf)
    | fail)
  all_goals first
    | ((exact congrArg D.b (self_yes a b e)))
    | skip
theorem interval_law (p : Pr) (x : Ex) (g : GoodP p) (H : FewH p) (hx : esz x ≤ 1073741824) (hn : Ref15.nodes x ≤ 1073741824) : PCall Tryz.prog 4 [p.d, x.d] (.ret (.b true)) := by
  have h1 := ginterval_call p x g hn
  have h2 := rinterval_call p x g hn
  cases hr : intervalR p x with
  | ok s => rw [hr] at h1 h2; exact interval_at p x s.1 s.2 0 g H hx h1 h2
  | error e => rw [hr] at h1 h2; exact interval_at p x 0 0 e g H hx h1 h2
end Go.Proofs.YtjgponkgifopaaaGreatDoor
