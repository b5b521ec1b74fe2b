/- Contracts: package names: Resolve, where it ends early. -/
import Derived.Test.YtogfjinopifenaaDoorZSB
import Derived.Test.YtogfjinopifenaaDoorZF28
set_option linter.unusedSectionVars false
set_option linter.unusedSimpArgs false
set_option linter.unusedVariables false
set_option maxHeartbeats 400000
namespace Go.Proofs.YtogfjinopifenaaDoor
open Go.Fw Go.Fw.Nam Go.Fw.Ref15
set_option maxRecDepth 10000
variable [af]
theorem FT (p : Pr) (hF : Nam.formed p = false) : PCall Tryd.prog 9 [p.d] (.ret (.tuple [Pr.none.d, .i 1])) := by
 refine ae tok hmix ⟨[], []⟩ Tryd.func9 rfl (by kernel_rfl) (by kernel_rfl) (by kernel_rfl) fun hf => ?_
 clear hf
 repeat' ((try (conv => whnf)) <;> first
  | with_reducible refine aS (gZ _) (fun h => ?_) (fun h => ?_)
  | (exact Bool.noConfusion (hF.symm.trans h))
  | ((refine ⟨_, _, _, [(1000000, 2), (1000001, 3)], ji (.data (.str [])) (.data (.i 0)) (.data (.i 0)) (.nilsl 3) (.nilsl 3) (.nilsl 4) (.nilsl 2) (.nilsl 8) (.data (.i 0)) 1, rfl, ⟨rfl, rfl, trivial⟩, ?_, ?_⟩); kernel_rfl)
  | (refine ⟨([] : List (Nat × Nat)), rfl, ?_, trivial⟩)
  | fail)
 all_goals (try simp only [Bool.cond_true_left, Bool.cond_false_right, Bool.cond_false_left, Bool.cond_true_right, Bool.not_eq_true', Bool.not_eq_false', bne, Ex.css_len, List.length_map, Int.toNat_zero] at *)
 all_goals first
  | (rfl)
  | skip
theorem FU (p : Pr) (hF : Nam.formed p = true) (hL : Nam.limited p = false) (hn : ∀ s ∈ p.stmts, Ref15.nodes s.x ≤ 1073741824) : PCall Tryd.prog 9 [p.d] (.ret (.tuple [Pr.none.d, .i 2])) := by
 refine ae tok hmix ⟨[], []⟩ Tryd.func9 rfl (by kernel_rfl) (by kernel_rfl) (by kernel_rfl) fun hf => ?_
 clear hf
 repeat' ((try (conv => whnf)) <;> first
  | with_reducible refine aS (gZ _) (fun h => ?_) (fun h => ?_)
  | with_reducible refine aS (iP _ (by assumption)) (fun h => ?_) (fun h => ?_)
  | (exact Bool.noConfusion (hF.symm.trans h))
  | (exact Bool.noConfusion (hL.symm.trans h))
  | ((refine ⟨_, _, _, [(1000000, 2), (1000001, 3)], ji (.data (.str [])) (.data (.i 0)) (.data (.i 0)) (.nilsl 3) (.nilsl 3) (.nilsl 4) (.nilsl 2) (.nilsl 8) (.data (.i 0)) 2, rfl, ⟨rfl, rfl, trivial⟩, ?_, ?_⟩); kernel_rfl)
  | (refine ⟨([] : List (Nat × Nat)), rfl, ?_, trivial⟩)
  | fail)
 all_goals (try simp only [Bool.cond_true_left, Bool.cond_false_right, Bool.cond_false_left, Bool.cond_true_right, Bool.not_eq_true', Bool.not_eq_false', bne, Ex.css_len, List.length_map, Int.toNat_zero] at *)
 all_goals first
  | (rfl)
  | skip
theorem FV (p : Pr) (hF : Nam.formed p = true) (hL : Nam.limited p = true) (hn : ∀ s ∈ p.stmts, Ref15.nodes s.x ≤ 1073741824) (hp : p.Small) (hN : (p.name :: iR (decl p)).all Nam.nmOk = false) : PCall Tryd.prog 9 [p.d] (.ret (.tuple [Pr.none.d, .i 150])) := by
 refine ae tok hmix ⟨[], []⟩ Tryd.func9 rfl (by kernel_rfl) (by kernel_rfl) (by kernel_rfl) fun hf => ?_
 clear hf
 repeat' ((try (conv => whnf)) <;> first
  | with_reducible refine aS (gZ _) (fun h => ?_) (fun h => ?_)
  | with_reducible refine aS (iP _ (by assumption)) (fun h => ?_) (fun h => ?_)
  | (exact Bool.noConfusion (hF.symm.trans h))
  | (exact Bool.noConfusion (hL.symm.trans h))
  | ((refine ⟨_, _, _, [(1000000, 2), (1000001, 3)], ji (.data (.str [])) (.data (.i 0)) (.data (.i 0)) (.nilsl 3) (.nilsl 3) (.nilsl 4) (.nilsl 2) (.nilsl 8) (.data (.i 0)) 150, rfl, ⟨rfl, rfl, trivial⟩, ?_, ?_⟩); kernel_rfl)
  | (refine ⟨([] : List (Nat × Nat)), rfl, ?_, trivial⟩)
  | ((with_reducible refine iI [] (FO p hp hN) ?_ ?_ ?_ ?_); rotate_left 0; exact rfl; (exact trivial); exact rfl)
  | fail)
 all_goals (try simp only [Bool.cond_true_left, Bool.cond_false_right, Bool.cond_false_left, Bool.cond_true_right, Bool.not_eq_true', Bool.not_eq_false', bne, Ex.css_len, List.length_map, Int.toNat_zero] at *)
 all_goals first
  | (rfl)
  | skip
theorem FW (p : Pr) (hF : Nam.formed p = true) (hL : Nam.limited p = true) (hn : ∀ s ∈ p.stmts, Ref15.nodes s.x ≤ 1073741824) (hp : p.Small) (hN : (p.name :: iR (decl p)).all Nam.nmOk = true) (hU : ¬ uniq (decl p)) : PCall Tryd.prog 9 [p.d] (.ret (.tuple [Pr.none.d, .i 151])) := by
 refine ae tok hmix ⟨[], []⟩ Tryd.func9 rfl (by kernel_rfl) (by kernel_rfl) (by kernel_rfl) fun hf => ?_
 clear hf
 repeat' ((try (conv => whnf)) <;> first
  | with_reducible refine aS (gZ _) (fun h => ?_) (fun h => ?_)
  | with_reducible refine aS (iP _ (by assumption)) (fun h => ?_) (fun h => ?_)
  | (exact Bool.noConfusion (hF.symm.trans h))
  | (exact Bool.noConfusion (hL.symm.trans h))
  | ((refine ⟨_, _, _, [(1000000, 2), (1000001, 3)], ji (.data (.str [])) (.data (.i 0)) (.data (.i 0)) (.nilsl 3) (.nilsl 3) (.nilsl 4) (.nilsl 2) (.nilsl 8) (.data (.i 0)) 151, rfl, ⟨rfl, rfl, trivial⟩, ?_, ?_⟩); kernel_rfl)
  | (refine ⟨([] : List (Nat × Nat)), rfl, ?_, trivial⟩)
  | ((with_reducible refine iI [] (FP p hp hN hU) ?_ ?_ ?_ ?_); rotate_left 0; exact rfl; (exact trivial); exact rfl)
  | fail)
 all_goals (try simp only [Bool.cond_true_left, Bool.cond_false_right, Bool.cond_false_left, Bool.cond_true_right, Bool.not_eq_true', Bool.not_eq_false', bne, Ex.css_len, List.length_map, Int.toNat_zero] at *)
 all_goals first
  | (rfl)
  | skip
theorem FX (p : Pr) (hF : Nam.formed p = true) (hL : Nam.limited p = true) (hn : ∀ s ∈ p.stmts, Ref15.nodes s.x ≤ 1073741824) (hp : p.Small) (hN : (p.name :: iR (decl p)).all Nam.nmOk = true) (hU : uniq (decl p)) (hR : Nam.ranged p = false) : PCall Tryd.prog 9 [p.d] (.ret (.tuple [Pr.none.d, .i 161])) := by
 refine ae tok hmix ⟨[], []⟩ Tryd.func9 rfl (by kernel_rfl) (by kernel_rfl) (by kernel_rfl) fun hf => ?_
 clear hf
 repeat' ((try (conv => whnf)) <;> first
  | with_reducible refine aS (gZ _) (fun h => ?_) (fun h => ?_)
  | with_reducible refine aS (iP _ (by assumption)) (fun h => ?_) (fun h => ?_)
  | with_reducible refine aS (uP _ (by assumption)) (fun h => ?_) (fun h => ?_)
  | (exact Bool.noConfusion (hF.symm.trans h))
  | (exact Bool.noConfusion (hL.symm.trans h))
  | (exact Bool.noConfusion (hR.symm.trans h))
  | ((refine ⟨_, _, _, [(1000000, 2), (1000001, 3)], ji (.data (.str [])) (.data (.i 0)) (.data (.i 0)) (.nilsl 3) (.nilsl 3) (.nilsl 4) (.nilsl 2) (.nilsl 8) (.data (.i 0)) 161, rfl, ⟨rfl, rfl, trivial⟩, ?_, ?_⟩); kernel_rfl)
  | (refine ⟨([] : List (Nat × Nat)), rfl, ?_, trivial⟩)
  | ((with_reducible refine iI [(1000000, 800000)] (Az p hp hN hU) ?_ ?_ ?_ ?_); rotate_left 0; exact rfl; (exact trivial); exact rfl)
  | fail)
 all_goals (try simp only [Bool.cond_true_left, Bool.cond_false_right, Bool.cond_false_left, Bool.cond_true_right, Bool.not_eq_true', Bool.not_eq_false', bne, Ex.css_len, List.length_map, Int.toNat_zero] at *)
 all_goals first
  | (rfl)
  | skip
end Go.Proofs.YtogfjinopifenaaDoor
