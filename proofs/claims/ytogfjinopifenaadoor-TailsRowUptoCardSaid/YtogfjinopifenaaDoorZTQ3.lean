/- TailsRow: delay lines in a row add up, and are endless with a way back; for arguments of a bulk of at most 1048576 together; the arguments read afterwards as before. Conditions: the row's own. -/
import Derived.Test.YtogfjinopifenaaDoorZTP1
import Derived.Test.YtogfjinopifenaaDoorZYE
set_option linter.unusedSectionVars false
set_option linter.unusedSimpArgs false
set_option linter.unusedVariables false
namespace Go.Proofs.YtogfjinopifenaaDoor.rowLaw
open Go.Fw Go.Fw.Ref15 Go.Fw.Rg Go.Proofs.YtogfjinopifenaaDoor Go.ChangeShapes Go.WideShapes Go.RowKit
set_option maxRecDepth 100000
theorem contract (H : Type) (enc : TypeId × Value → H) (W : World) (base : Nat) (args : Array Value) (ds gs : List (DataW H)) (before : List MemPlace) (hsh : W.ShapedOpen Tryd.prog) (hL : laidMetH Tryd.prog Rows.tailsRowUptoRow.laid W)
  (hval : ∀ (j : Nat) t v, Tryd.f5.params[j]? = some t → args[j]? = some v → Value.okWide Tryd.prog W .any base t v)
  (hW : DataW.Whole enc Tryd.prog Tryd.f5.params.toList Rows.tailsRowSpec.vars false W args.toList ds gs before) (hk : Rows.uptoSmall H (ds ++ gs) = true) :
  Calls Tryd.prog 5 args W fun e W' => ∃ v, e = .returned v ∧ Rows.tailsRowSpec.post enc Tryd.prog Tryd.f5 false true false false W args v W' := by
 refine kL tok' Cj (fn := Tryd.f5) rfl (tb := 4) rfl (by kernel_rfl) laid ?_ (Cf hsh hL) hval hW ?_ ?_
 ·intro t ht
  have : t = 41 := by simpa [Tryd.f5] using ht
  subst this
  exact ⟨by decide, by kernel_rfl, of_decide_eq_true (by kernel_rfl)⟩
 ·intro xs hx
  obtain ⟨d, rfl, _⟩ := ZF (t := 41) hx
  rfl
 ·intro _ xs hx
  obtain ⟨d, rfl, n0, l0, k0, rfl⟩ := ZF (t := 41) hx
  have hb := Ci hk
  simp only [Rows.uptoBulkAll] at hb
  obtain ⟨a0, rfl, h0, b0⟩ := ZB k0
  exact rD ⟨_, Tryd.func5, by kernel_rfl, by kernel_rfl⟩ (Yy a0 b0)
theorem lifted (os : Os) (started : os.Started) (H : Type) (enc : TypeId × Value → H) (F : Stop.Interp) :
  ReturnsInHanded {} Tryd.checked os 5 .any ((Rows.OpenSpec.upto Rows.tailsRowSpec).preRow enc Tryd.prog Tryd.f5 Rows.tailsRowUptoRow.domain false Rows.tailsRowUptoRow.laid) (((Rows.OpenSpec.upto Rows.tailsRowSpec).at F).post enc Tryd.prog Tryd.f5 false true false false) := by
 refine returnsInHanded_of_row (C := Tryd.checked) (s := Rows.OpenSpec.upto Rows.tailsRowSpec) own started (by kernel_rfl) Tryd.func5
  (witness_row_at (enc := enc) (C := Tryd.checked) false (laidWorld os) #[.slice none 0 0] rfl (by kernel_rfl) (by kernel_rfl) (by kernel_rfl)
   (OpenSpec.preRow_of_cond 8 (x := ([.nil], [], [])) (by kernel_rfl) (by kernel_rfl) (fun k hk => by cases hk; kernel_rfl) (by kernel_rfl) (laid_met os _))) ?_
 intro W base args ds gs before hval hW _ hk _ hL hsh _
 exact contract H enc W base args ds gs before hsh hL hval hW (hk _ rfl)
theorem said : Rows.TailsRowUptoSaid :=
 OpenClaim.holds_of_cond 5 Tryd.f5 rfl rfl rfl rfl rfl rfl rfl ⟨rfl, rfl, rfl, rfl, rfl⟩ rfl rfl rfl rfl rfl (by kernel_rfl) Tryd.func5 (by kernel_rfl)
  (of_decide_eq_true (by kernel_rfl)) (by unfold Func.isWrapper; first | (rw [if_pos (by decide +kernel)]; kernel_rfl) | (rw [if_neg (by decide +kernel)]; exact ⟨rfl, rfl⟩))
  (fun os started H enc _ F => by rw [OpenClaim.pre_eq_preRow]; exact lifted os started H enc F)
theorem plain (f : FuncId) (fn : Func) (hf : Tryd.pinned.checked.prog.funcNamed "soundpost/soundpostlaw17.TailsRow" = some f) (hfn : Tryd.pinned.checked.prog.funcs[f]? = some fn) :
  true = Tryd.pinned.checked.prog.looks [] ∧ ∀ (j : Nat) t, fn.params[j]? = some t → Tryd.pinned.checked.prog.wantsStandIn t = false := by
 obtain rfl : f = 5 := Option.some.inj ((show Tryd.prog.funcNamed "soundpost/soundpostlaw17.TailsRow" = some 5 by kernel_rfl).symm.trans hf) |>.symm
 obtain rfl : fn = Tryd.f5 := (Option.some.inj (Tryd.func5.symm.trans hfn)).symm
 refine ⟨by kernel_rfl, fun j t ht => ?_⟩
 have ht : t ∈ Tryd.f5.params.toList := by simpa using Array.mem_of_getElem? ht
 have : t = 41 := by simpa [Tryd.f5] using ht
 subst this
 exact (show Tryd.prog.wantsStandIn 41 = false by kernel_rfl)
theorem holds : Rows.TailsRowUptoCardSaid :=
 Claim7.holds_tied_plain_at .later [] _ _ _ _ said (fun _ h => by cases h) (by kernel_rfl) (fun _ h => by cases h) tailsRowUpto_row_tie rfl ⟨rfl, rfl⟩ (by kernel_rfl) rfl plain (by kernel_rfl)
end Go.Proofs.YtogfjinopifenaaDoor.rowLaw
