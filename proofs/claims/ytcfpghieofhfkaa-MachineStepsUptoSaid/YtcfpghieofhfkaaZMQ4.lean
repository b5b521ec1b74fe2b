/- MachineSteps: a block is its steps, one after the other, and costs as much fuel; for arguments of a bulk of at most 1048576 together; the arguments read afterwards as before. Conditions: none but the row's own. -/
import Derived.Test.YtcfpghieofhfkaaZMP1
import Derived.Test.YtcfpghieofhfkaaZMS18
set_option linter.unusedSimpArgs false
set_option linter.unusedVariables false
namespace Go.Proofs.Ytcfpghieofhfkaa.stepsLaw
open Go.Fw Go.Fw.Mac Go.Proofs.Ytcfpghieofhfkaa
set_option linter.unusedSectionVars false
set_option maxRecDepth 100000
theorem contract (H : Type) (enc : TypeId × Value → H) (W : World) (base : Nat) (args : Array Value) (ds gs : List (DataW H)) (before : List MemPlace)
    (hval : ∀ (j : Nat) t v, Try.f6.params[j]? = some t → args[j]? = some v → Value.okWide Try.prog W .any base t v)
    (hW : DataW.Whole enc Try.prog Try.f6.params.toList Rows.machineStepsSpec.vars false W args.toList ds gs before) (hk : Rows.uptoSmall H (ds ++ gs) = true) :
    Calls Try.prog 6 args W fun e W' => ∃ v, e = .returned v ∧ Rows.machineStepsSpec.post enc Try.prog Try.f6 false true false false W args v W' := by
  refine law_contract tok' closedS (fn := Try.f6) rfl (tb := 4) rfl (by kernel_rfl) laid ?_ glob_ok hval hW ?_ ?_
  · intro t ht
    simp only [Try.f6, List.mem_cons, List.not_mem_nil, or_false] at ht
    rcases ht with rfl | rfl | rfl | rfl | rfl | rfl
    · exact ⟨by decide, by kernel_rfl, of_decide_eq_true (by kernel_rfl)⟩
    · exact ⟨by decide, by kernel_rfl, of_decide_eq_true (by kernel_rfl)⟩
    · exact ⟨by decide, by kernel_rfl, of_decide_eq_true (by kernel_rfl)⟩
    · exact ⟨by decide, by kernel_rfl, of_decide_eq_true (by kernel_rfl)⟩
    · exact ⟨by decide, by kernel_rfl, of_decide_eq_true (by kernel_rfl)⟩
    · exact ⟨by decide, by kernel_rfl, of_decide_eq_true (by kernel_rfl)⟩
  · intro xs hx
    obtain ⟨d0, ds0, n0, l0, xs0, rfl, k0, rfl, hx0⟩ := arg_cons hx
    obtain ⟨d1, ds1, n1, l1, xs1, rfl, k1, rfl, hx1⟩ := arg_cons hx0
    obtain ⟨d2, ds2, n2, l2, xs2, rfl, k2, rfl, hx2⟩ := arg_cons hx1
    obtain ⟨d3, ds3, n3, l3, xs3, rfl, k3, rfl, hx3⟩ := arg_cons hx2
    obtain ⟨d4, ds4, n4, l4, xs4, rfl, k4, rfl, hx4⟩ := arg_cons hx3
    obtain ⟨d5, ds5, n5, l5, xs5, rfl, k5, rfl, hx5⟩ := arg_cons hx4
    obtain ⟨rfl, rfl⟩ := arg_nil hx5
    rfl
  · intro _ xs hx
    obtain ⟨d0, ds0, n0, l0, xs0, rfl, k0, rfl, hx0⟩ := arg_cons hx
    obtain ⟨d1, ds1, n1, l1, xs1, rfl, k1, rfl, hx1⟩ := arg_cons hx0
    obtain ⟨d2, ds2, n2, l2, xs2, rfl, k2, rfl, hx2⟩ := arg_cons hx1
    obtain ⟨d3, ds3, n3, l3, xs3, rfl, k3, rfl, hx3⟩ := arg_cons hx2
    obtain ⟨d4, ds4, n4, l4, xs4, rfl, k4, rfl, hx4⟩ := arg_cons hx3
    obtain ⟨d5, ds5, n5, l5, xs5, rfl, k5, rfl, hx5⟩ := arg_cons hx4
    obtain ⟨rfl, rfl⟩ := arg_nil hx5
    have hb := bulk_le hk
    simp only [Rows.uptoBulkAll] at hb
    obtain ⟨a0, rfl, h0⟩ := code_of k0 (by omega)
    obtain ⟨a1, rfl, h1⟩ := state_of k1 (by omega)
    obtain ⟨a2, rfl, h2, g2⟩ := lists_of k2
    obtain ⟨a3, rfl, h3⟩ := vals_of k3
    obtain ⟨a4, rfl, h4⟩ := vals_of k4
    obtain ⟨a5, rfl, h5⟩ := int_of (k := .i64) rfl k5
    exact pcallB_of ⟨_, Try.func6, by kernel_rfl, by kernel_rfl⟩ (steps_law a0 a1 a2 a3 a4 a5 h0 h1 (by omega) (fun t ht => by have := g2 t ht; omega) (by omega) (by omega))
theorem lifted (os : Os) (started : os.Started) (H : Type) (enc : TypeId × Value → H) (F : Stop.Interp) :
    ReturnsInHanded {} Try.checked os 6 .any ((Rows.OpenSpec.upto Rows.machineStepsSpec).pre6 enc Try.prog Try.f6 Rows.machineStepsUptoRow.domain false) (((Rows.OpenSpec.upto Rows.machineStepsSpec).at F).post enc Try.prog Try.f6 false true false false) := by
  refine handed_of_cond (C := Try.checked) (s := Rows.OpenSpec.upto Rows.machineStepsSpec) (k := Rows.uptoSmall) rfl own started (by kernel_rfl) Try.func6
    (OpenSpec.witness (enc := enc) (C := Try.checked) (s := Rows.OpenSpec.upto Rows.machineStepsSpec) (k := Rows.uptoSmall) rfl false ⟨#[], #[.agg #[.int .i64 0, .int .i64 0, .slice none 0 0, .slice none 0 0, .slice none 0 0, .slice none 0 0, .int .i64 0, .slice none 0 0], .agg #[.slice none 0 0, .slice none 0 0], .slice none 0 0, .slice none 0 0, .slice none 0 0, .int .i64 0], []⟩ 8 (by kernel_rfl) (by kernel_rfl) (by kernel_rfl)
      (x := ([.agg [.lit (.int .i64 0), .lit (.int .i64 0), .nil, .nil, .nil, .nil, .lit (.int .i64 0), .nil], .agg [.nil, .nil], .nil, .nil, .nil, .lit (.int .i64 0)], [], [])) (by kernel_rfl) rfl (by kernel_rfl)) ?_
  intro W base args ds gs before hsh hval hW hk
  exact contract H enc W base args ds gs before hval hW hk
theorem holds : Rows.MachineStepsUptoSaid :=
  OpenClaim.holds_of_cond 6 Try.f6 rfl rfl rfl rfl rfl rfl rfl ⟨rfl, rfl, rfl, rfl, rfl⟩ rfl rfl rfl rfl rfl (by kernel_rfl) Try.func6 (by kernel_rfl)
    (of_decide_eq_true (by kernel_rfl)) (by unfold Func.isWrapper; first | (rw [if_pos (by decide +kernel)]; kernel_rfl) | (rw [if_neg (by decide +kernel)]; exact ⟨rfl, rfl⟩))
    (fun os started H enc _ F => lifted os started H enc F)
end Go.Proofs.Ytcfpghieofhfkaa.stepsLaw
