/- TailsUnheard: what nobody hears changes neither reach nor memory; for arguments of a bulk of at most 1048576 together; the arguments read afterwards as before. Conditions: the row's own. -/
import Derived.Test.YtogfjinopifenaaDoorZTP1
import Derived.Test.YtogfjinopifenaaDoorZYE
set_option linter.unusedSectionVars false
set_option linter.unusedSimpArgs false
set_option linter.unusedVariables false
namespace Go.Proofs.YtogfjinopifenaaDoor.unheardLaw
open Go.Fw Go.Fw.Ref15 Go.Fw.Rg Go.Proofs.YtogfjinopifenaaDoor Go.ChangeShapes Go.WideShapes Go.RowKit
set_option maxRecDepth 100000
theorem contract (H : Type) (enc : TypeId × Value → H) (W : World) (base : Nat) (args : Array Value) (ds gs : List (DataW H)) (before : List MemPlace) (hsh : W.ShapedOpen Tryd.prog) (hL : laidMetH Tryd.prog Rows.tailsUnheardUptoRow.laid W)
  (hval : ∀ (j : Nat) t v, Tryd.f6.params[j]? = some t → args[j]? = some v → Value.okWide Tryd.prog W .any base t v)
  (hW : DataW.Whole enc Tryd.prog Tryd.f6.params.toList Rows.tailsUnheardSpec.vars false W args.toList ds gs before) (hk : Rows.uptoSmall H (ds ++ gs) = true) :
  Calls Tryd.prog 6 args W fun e W' => ∃ v, e = .returned v ∧ Rows.tailsUnheardSpec.post enc Tryd.prog Tryd.f6 false true false false W args v W' := by
 refine kL tok' Cj (fn := Tryd.f6) rfl (tb := 4) rfl (by kernel_rfl) laid ?_ (Cf hsh hL) hval hW ?_ ?_
 ·intro t ht
  have : t = 27 ∨ t = 5 := by simpa [Tryd.f6] using ht
  rcases this with rfl | rfl
  ·exact ⟨by decide, by kernel_rfl, of_decide_eq_true (by kernel_rfl)⟩
  ·exact ⟨by decide, by kernel_rfl, of_decide_eq_true (by kernel_rfl)⟩
 ·intro xs hx
  obtain ⟨d, e, rfl, _⟩ := z1q (t := 27) (u := 5) hx
  rfl
 ·intro _ xs hx
  obtain ⟨d, e, rfl, n0, l0, n1, l1, k0, k1, rfl⟩ := z1q (t := 27) (u := 5) hx
  have hb := Ci hk
  simp only [Rows.uptoBulkAll] at hb
  obtain ⟨a0, rfl, g0, f0⟩ := XD k0 (by omega)
  obtain ⟨a1, rfl, h1⟩ := byte_of k1
  exact rD ⟨_, Tryd.func6, by kernel_rfl, by kernel_rfl⟩ (Iy a0 a1 g0 h1)
theorem lifted (os : Os) (started : os.Started) (H : Type) (enc : TypeId × Value → H) (F : Stop.Interp) :
  ReturnsInHanded {} Tryd.checked os 6 .any ((Rows.OpenSpec.upto Rows.tailsUnheardSpec).preRow enc Tryd.prog Tryd.f6 Rows.tailsUnheardUptoRow.domain false Rows.tailsUnheardUptoRow.laid) (((Rows.OpenSpec.upto Rows.tailsUnheardSpec).at F).post enc Tryd.prog Tryd.f6 false true false false) := by
 refine returnsInHanded_of_row (C := Tryd.checked) (s := Rows.OpenSpec.upto Rows.tailsUnheardSpec) own started (by kernel_rfl) Tryd.func6
  (witness_row_at (enc := enc) (C := Tryd.checked) false (laidWorld os) #[.agg #[.string .empty, .int .i64 0, .int .i64 0, .slice none 0 0, .slice none 0 0, .slice none 0 0, .slice none 0 0, .slice none 0 0], .int .u8 0] rfl (by kernel_rfl) (by kernel_rfl) (by kernel_rfl)
   (OpenSpec.preRow_of_cond 8 (x := ([.agg [.lit (.string []), .lit (.int .i64 0), .lit (.int .i64 0), .nil, .nil, .nil, .nil, .nil], .lit (.int .u8 0)], [], [])) (by kernel_rfl) (by kernel_rfl) (fun k hk => by cases hk; kernel_rfl) (by kernel_rfl) (laid_met os _))) ?_
 intro W base args ds gs before hval hW _ hk _ hL hsh _
 exact contract H enc W base args ds gs before hsh hL hval hW (hk _ rfl)
theorem said : Rows.TailsUnheardUptoSaid :=
 OpenClaim.holds_of_cond 6 Tryd.f6 rfl rfl rfl rfl rfl rfl rfl ⟨rfl, rfl, rfl, rfl, rfl⟩ rfl rfl rfl rfl rfl (by kernel_rfl) Tryd.func6 (by kernel_rfl)
  (of_decide_eq_true (by kernel_rfl)) (by unfold Func.isWrapper; first | (rw [if_pos (by decide +kernel)]; kernel_rfl) | (rw [if_neg (by decide +kernel)]; exact ⟨rfl, rfl⟩))
  (fun os started H enc _ F => by rw [OpenClaim.pre_eq_preRow]; exact lifted os started H enc F)
theorem plain (f : FuncId) (fn : Func) (hf : Tryd.pinned.checked.prog.funcNamed "soundpost/soundpostlaw17.TailsUnheard" = some f) (hfn : Tryd.pinned.checked.prog.funcs[f]? = some fn) :
  true = Tryd.pinned.checked.prog.looks [] ∧ ∀ (j : Nat) t, fn.params[j]? = some t → Tryd.pinned.checked.prog.wantsStandIn t = false := by
 obtain rfl : f = 6 := Option.some.inj ((show Tryd.prog.funcNamed "soundpost/soundpostlaw17.TailsUnheard" = some 6 by kernel_rfl).symm.trans hf) |>.symm
 obtain rfl : fn = Tryd.f6 := (Option.some.inj (Tryd.func6.symm.trans hfn)).symm
 refine ⟨by kernel_rfl, fun j t ht => ?_⟩
 have ht : t ∈ Tryd.f6.params.toList := by simpa using Array.mem_of_getElem? ht
 have : t = 27 ∨ t = 5 := by simpa [Tryd.f6] using ht
 rcases this with rfl | rfl
 ·exact (show Tryd.prog.wantsStandIn 27 = false by kernel_rfl)
 ·exact (show Tryd.prog.wantsStandIn 5 = false by kernel_rfl)
theorem holds : Rows.TailsUnheardUptoCardSaid :=
 Claim7.holds_tied_plain_at .later [] _ _ _ _ said (fun _ h => by cases h) (by kernel_rfl) (fun _ h => by cases h) tailsUnheardUpto_row_tie rfl ⟨rfl, rfl⟩ (by kernel_rfl) rfl plain (by kernel_rfl)
end Go.Proofs.YtogfjinopifenaaDoor.unheardLaw
