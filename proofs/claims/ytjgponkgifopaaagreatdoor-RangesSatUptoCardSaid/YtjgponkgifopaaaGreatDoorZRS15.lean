/- Contracts: the laws of ranges: the chapter's examples. -/
import Derived.Test.YtjgponkgifopaaaGreatDoorZXE
set_option linter.unusedSimpArgs false
set_option linter.unusedVariables false
namespace Go.Proofs.YtjgponkgifopaaaGreatDoor
open Go.Fw Go.Fw.Rg Go.Fw.Nam
set_option maxRecDepth 10000
set_option linter.unusedSectionVars false
variable [GlobInt]
theorem int_at (p : Pr) (x : Ex) (r : Except Int Sp) (hq : intervalR p x = r) (g : GoodP p) (hx : Nat.ble (Ref15.nodes x) 100 = true) : PCall Tryz.prog 15 [p.d, x.d] (.ret (rngT r)) := by
  rw [← hq]; exact ginterval_call p x g (by have := Nat.le_of_ble_eq_true hx; omega)
theorem bnd_at (p : Pr) (F : List Sp) (e : Int) (hq : boundsR p = (F, e)) (g : GoodP p) : PCall Tryz.prog 11 [p.d] (.ret (.tuple [.sl 2 (F.map Sp.cs), .i e])) := by
  have := gbounds_call p g; rw [boundsD, hq] at this; exact this
theorem chk_at (p : Pr) (e : Int) (hq : (boundsR p).2 = e) (g : GoodP p) : PCall Tryz.prog 13 [p.d] (.ret (.i e)) := by
  rw [← hq]; exact gcheck_call p g
theorem sx1 : PCall Tryz.prog 15 [(oneP).d, ((applyM 17 [pE, pE]) : Ex).d] (.ret (rngT (.ok (-15, 25)))) := int_at oneP (applyM 17 [pE, pE]) (.ok (-15, 25)) (by kernel_rfl) (good_at ⟨by decide, by decide, by decide, by decide, by decide, by kernel_rfl, by kernel_rfl⟩) (by kernel_rfl)
theorem sx2 : PCall Tryz.prog 15 [(oneP).d, (⟨3, [], 1, 0, []⟩ : Ex).d] (.ret (rngT (.error 150))) := int_at oneP ⟨3, [], 1, 0, []⟩ (.error 150) (by kernel_rfl) (good_at ⟨by decide, by decide, by decide, by decide, by decide, by kernel_rfl, by kernel_rfl⟩) (by kernel_rfl)
theorem sx3 : PCall Tryz.prog 11 [((Rg.procM bothS digS true (applyM 11 [nextE, numM 9]) sE)).d] (.ret (.tuple [.sl 2 [[.i 1, .i 9], [.i 0, .i 9]], .i 0])) := bnd_at (Rg.procM bothS digS true (applyM 11 [nextE, numM 9]) sE) [(1, 9), (0, 9)] 0 (by kernel_rfl) (good_at ⟨by decide, by decide, by decide, by decide, by decide, by kernel_rfl, by kernel_rfl⟩)
theorem sy0 : PCall Tryz.prog 13 [(oneP).d] (.ret (.i 0)) := chk_at oneP 0 (by kernel_rfl) (good_at ⟨by decide, by decide, by decide, by decide, by decide, by kernel_rfl, by kernel_rfl⟩)
theorem sy1 : PCall Tryz.prog 13 [((Rg.procM bothS digS false (numM 0) (applyM 6 [applyM 14 [numM 1]]))).d] (.ret (.i 161)) := chk_at (Rg.procM bothS digS false (numM 0) (applyM 6 [applyM 14 [numM 1]])) 161 (by kernel_rfl) (good_at ⟨by decide, by decide, by decide, by decide, by decide, by kernel_rfl, by kernel_rfl⟩)
theorem sy2 : PCall Tryz.prog 13 [((Rg.procM bothS digS true nextE sE)).d] (.ret (.i 161)) := chk_at (Rg.procM bothS digS true nextE sE) 161 (by kernel_rfl) (good_at ⟨by decide, by decide, by decide, by decide, by decide, by kernel_rfl, by kernel_rfl⟩)
theorem sy3 : PCall Tryz.prog 13 [((Rg.procM bothS digS false (numM 0) (applyM 15 [inE, inE]))).d] (.ret (.i 161)) := chk_at (Rg.procM bothS digS false (numM 0) (applyM 15 [inE, inE])) 161 (by kernel_rfl) (good_at ⟨by decide, by decide, by decide, by decide, by decide, by kernel_rfl, by kernel_rfl⟩)
theorem sy4 : PCall Tryz.prog 13 [((Rg.procM bothS digS false (numM 0) (applyM 10 [applyM 15 [inE, inE]]))).d] (.ret (.i 0)) := chk_at (Rg.procM bothS digS false (numM 0) (applyM 10 [applyM 15 [inE, inE]])) 0 (by kernel_rfl) (good_at ⟨by decide, by decide, by decide, by decide, by decide, by kernel_rfl, by kernel_rfl⟩)
theorem sy5 : PCall Tryz.prog 13 [((Rg.procM (-1, 1) digS false (numM 0) wideX)).d] (.ret (.i 161)) := chk_at (Rg.procM (-1, 1) digS false (numM 0) wideX) 161 (by kernel_rfl) (good_at ⟨by decide, by decide, by decide, by decide, by decide, by kernel_rfl, by kernel_rfl⟩)
theorem sy6 : PCall Tryz.prog 13 [((Rg.procM (-2, 1) digS false (numM 0) wideX)).d] (.ret (.i 160)) := chk_at (Rg.procM (-2, 1) digS false (numM 0) wideX) 160 (by kernel_rfl) (good_at ⟨by decide, by decide, by decide, by decide, by decide, by kernel_rfl, by kernel_rfl⟩)
set_option maxHeartbeats 8000000 in
theorem rsane_call   : PCall Tryz.prog 9 [] (.ret (.b true)) := by
  refine pcall_of_wc tok hmix ⟨[], []⟩ Tryz.func9 rfl (by kernel_rfl) (by kernel_rfl) (by kernel_rfl) fun hf => ?_
  clear hf
  repeat' ((try (conv => whnf)) <;> first
    | ((with_reducible refine idx_lit ?_ ?_ ?_ ?_ ?_); exact rfl; exact rfl; exact rfl; exact rfl)
    | ((with_reducible refine gi_step ?_ ?_); kernel_rfl)
    | ((with_reducible refine call_step ?_ ?_ ?_); rotate_left; (first | exact lnum_call _ | exact lapply_call _ _ | exact lproc_call _ _ _ _ _ | exact int_no1 _ _ _ (by assumption) (by assumption) | exact int_no2 _ _ _ _ (by assumption) (by assumption) | exact int_name _ _ _ (by assumption) (by assumption) | exact int_ok _ _ _ _ (by assumption) (by assumption) (by assumption) | exact int_bad _ _ _ _ (by assumption) (by assumption) (by assumption) | exact bounds_no _ _ _ (by assumption) (by assumption) | exact bounds_ok _ _ (by assumption) | exact check_any _ _ _ (by assumption) | exact lnum_call 0 | exact lnum_call 5 | exact lnum_call 1 | exact lnum_call 2147483648 | exact lnum_call 9 | exact lapply_call 6 [numM 0] | exact lapply_call 17 [pE, pE] | exact lapply_call 15 [sE, numM 1] | exact lapply_call 17 [pE, numM 2147483648] | exact lapply_call 17 [applyM 17 [pE, numM 2147483648], numM 2147483648] | exact lapply_call 11 [nextE, numM 9] | exact lapply_call 14 [numM 1] | exact lapply_call 6 [applyM 14 [numM 1]] | exact lapply_call 15 [inE, inE] | exact lapply_call 10 [applyM 15 [inE, inE]] | exact lproc_call bothS digS false (numM 0) (numM 5) | exact lproc_call bothS digS true (applyM 11 [nextE, numM 9]) sE | exact lproc_call bothS digS false (numM 0) (applyM 6 [applyM 14 [numM 1]]) | exact lproc_call bothS digS true nextE sE | exact lproc_call bothS digS false (numM 0) (applyM 15 [inE, inE]) | exact lproc_call bothS digS false (numM 0) (applyM 10 [applyM 15 [inE, inE]]) | exact lproc_call (-1, 1) digS false (numM 0) wideX | exact lproc_call (-2, 1) digS false (numM 0) wideX | exact sx1 | exact sx2 | exact sx3 | exact sy0 | exact sy1 | exact sy2 | exact sy3 | exact sy4 | exact sy5 | exact sy6 | fail))
    | (with_reducible refine ChooseI.l _ ?_)
    | ((with_reducible refine kok_step ?_ ?_ ?_); exact rfl; exact rfl)
    | ((with_reducible refine len_step ?_ ?_); exact rfl)
    | ((with_reducible refine guard_step ?_ ?_ (fun hg => ?_) ?_); exact rfl)
    | ((with_reducible refine val_step ?_ ?_); with_reducible exact rfl; with_reducible exact rfl)
    | ((with_reducible refine chk_step ?_ ?_); kernel_rfl)
    | ((with_reducible refine ret_step ?_); refine ⟨[], rfl, ?_, trivial⟩; conv => whnf)
    | fail)
  all_goals (try simp only [Bool.cond_true_left, Bool.cond_false_right, Bool.cond_false_left, Bool.cond_true_right, Bool.not_eq_true', Bool.not_eq_false', bne, Ex.css_len, List.length_map, Int.toNat_zero] at *)
  all_goals first
    | (kernel_rfl)
    | skip
end Go.Proofs.YtjgponkgifopaaaGreatDoor
