/- RangesNarrow: with narrower bounds of a parameter, no interval is wider; for arguments of a bulk of at most 1048576 together; the arguments read afterwards as before. Conditions: the row's own. -/
import Derived.Test.YtjgponkgifopaaaGreatDoorZRP1
import Derived.Test.YtjgponkgifopaaaGreatDoorZRS19
set_option linter.unusedSimpArgs false
set_option linter.unusedVariables false
namespace Go.Proofs.YtjgponkgifopaaaGreatDoor.narrowLaw
open Go.Fw Go.Fw.Ref15 Go.Fw.Rg Go.Proofs.YtjgponkgifopaaaGreatDoor Go.ChangeShapes Go.WideShapes Go.RowKit
set_option linter.unusedSectionVars false
set_option maxRecDepth 100000
theorem contract (H : Type) (enc : TypeId × Value → H) (W : World) (base : Nat) (args : Array Value) (ds gs : List (DataW H)) (before : List MemPlace) (hsh : W.ShapedOpen Tryz.prog) (hL : laidMetH Tryz.prog Rows.rangesNarrowUptoRow.laid W)
    (hval : ∀ (j : Nat) t v, Tryz.f7.params[j]? = some t → args[j]? = some v → Value.okWide Tryz.prog W .any base t v)
    (hW : DataW.Whole enc Tryz.prog Tryz.f7.params.toList Rows.rangesNarrowSpec.vars false W args.toList ds gs before) (hk : Rows.uptoSmall H (ds ++ gs) = true) :
    Calls Tryz.prog 7 args W fun e W' => ∃ v, e = .returned v ∧ Rows.rangesNarrowSpec.post enc Tryz.prog Tryz.f7 false true false false W args v W' := by
  refine law_contract tok' closedS (fn := Tryz.f7) rfl (tb := 4) rfl (by kernel_rfl) laid ?_ (glob_ok hsh hL) hval hW ?_ ?_
  · intro t ht
    have : t = 27 ∨ t = 5 := by simpa [Tryz.f7] using ht
    rcases this with rfl | rfl
    · exact ⟨by decide, by kernel_rfl, of_decide_eq_true (by kernel_rfl)⟩
    · exact ⟨by decide, by kernel_rfl, of_decide_eq_true (by kernel_rfl)⟩
  · intro xs hx
    obtain ⟨d, e, f, rfl, _⟩ := arg3 (t := 27) (u := 5) (v := 5) hx
    rfl
  · intro _ xs hx
    obtain ⟨d, e, f, rfl, n0, l0, n1, l1, n2, l2, k0, k1, k2, rfl⟩ := arg3 (t := 27) (u := 5) (v := 5) hx
    have hb := bulk_le hk
    simp only [Rows.uptoBulkAll] at hb
    obtain ⟨a0, rfl, g0, f0⟩ := pr_of k0 (by omega)
    obtain ⟨a1, rfl, h1⟩ := byte_of k1
    obtain ⟨a2, rfl, h2⟩ := byte_of k2
    exact pcallB_of ⟨_, Tryz.func7, by kernel_rfl, by kernel_rfl⟩ (narrow_law a0 a1 a2 g0 f0 h1 h2)
theorem lifted (os : Os) (started : os.Started) (H : Type) (enc : TypeId × Value → H) (F : Stop.Interp) :
    ReturnsInHanded {} Tryz.checked os 7 .any ((Rows.OpenSpec.upto Rows.rangesNarrowSpec).preRow enc Tryz.prog Tryz.f7 Rows.rangesNarrowUptoRow.domain false Rows.rangesNarrowUptoRow.laid) (((Rows.OpenSpec.upto Rows.rangesNarrowSpec).at F).post enc Tryz.prog Tryz.f7 false true false false) := by
  refine returnsInHanded_of_row (C := Tryz.checked) (s := Rows.OpenSpec.upto Rows.rangesNarrowSpec) own started (by kernel_rfl) Tryz.func7
    (witness_row_at (enc := enc) (C := Tryz.checked) false (laidWorld os) #[.agg #[.string .empty, .int .i64 0, .int .i64 0, .slice none 0 0, .slice none 0 0, .slice none 0 0, .slice none 0 0, .slice none 0 0], .int .u8 0, .int .u8 0] rfl (by kernel_rfl) (by kernel_rfl) (by kernel_rfl)
      (OpenSpec.preRow_of_cond 8 (x := ([.agg [.lit (.string []), .lit (.int .i64 0), .lit (.int .i64 0), .nil, .nil, .nil, .nil, .nil], .lit (.int .u8 0), .lit (.int .u8 0)], [], [])) (by kernel_rfl) (by kernel_rfl) (fun k hk => by cases hk; kernel_rfl) (by kernel_rfl) (laid_met os _))) ?_
  intro W base args ds gs before hval hW _ hk _ hL hsh _
  exact contract H enc W base args ds gs before hsh hL hval hW (hk _ rfl)
theorem said : Rows.RangesNarrowUptoSaid :=
  OpenClaim.holds_of_cond 7 Tryz.f7 rfl rfl rfl rfl rfl rfl rfl ⟨rfl, rfl, rfl, rfl, rfl⟩ rfl rfl rfl rfl rfl (by kernel_rfl) Tryz.func7 (by kernel_rfl)
    (of_decide_eq_true (by kernel_rfl)) (by unfold Func.isWrapper; first | (rw [if_pos (by decide +kernel)]; kernel_rfl) | (rw [if_neg (by decide +kernel)]; exact ⟨rfl, rfl⟩))
    (fun os started H enc _ F => by rw [OpenClaim.pre_eq_preRow]; exact lifted os started H enc F)
theorem plain (f : FuncId) (fn : Func) (hf : Tryz.pinned.checked.prog.funcNamed "soundpost/soundpostlaw16.RangesNarrow" = some f) (hfn : Tryz.pinned.checked.prog.funcs[f]? = some fn) :
    true = Tryz.pinned.checked.prog.looks [] ∧ ∀ (j : Nat) t, fn.params[j]? = some t → Tryz.pinned.checked.prog.wantsStandIn t = false := by
  obtain rfl : f = 7 := Option.some.inj ((show Tryz.prog.funcNamed "soundpost/soundpostlaw16.RangesNarrow" = some 7 by kernel_rfl).symm.trans hf) |>.symm
  obtain rfl : fn = Tryz.f7 := (Option.some.inj (Tryz.func7.symm.trans hfn)).symm
  refine ⟨by kernel_rfl, fun j t ht => ?_⟩
  have ht : t ∈ Tryz.f7.params.toList := by simpa using Array.mem_of_getElem? ht
  have : t = 27 ∨ t = 5 := by simpa [Tryz.f7] using ht
  rcases this with rfl | rfl
  · exact (show Tryz.prog.wantsStandIn 27 = false by kernel_rfl)
  · exact (show Tryz.prog.wantsStandIn 5 = false by kernel_rfl)
theorem holds : Rows.RangesNarrowUptoCardSaid :=
  Claim7.holds_tied_plain_at .later [] _ _ _ _ said (fun _ h => by cases h) (by kernel_rfl) (fun _ h => by cases h) rangesNarrowUpto_row_tie rfl ⟨rfl, rfl⟩ (by kernel_rfl) rfl plain (by kernel_rfl)
end Go.Proofs.YtjgponkgifopaaaGreatDoor.narrowLaw
