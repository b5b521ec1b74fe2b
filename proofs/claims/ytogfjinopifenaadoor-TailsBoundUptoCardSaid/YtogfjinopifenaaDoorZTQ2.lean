/- TailsBound: the memory is at most the states and the sizes of all lines, the reach at most 4096; greater declarations are accepted; for arguments of a bulk of at most 1048576 together; the arguments read afterwards as before. Conditions: the row's own. -/
import Derived.Test.YtogfjinopifenaaDoorZTP1
import Derived.Test.YtogfjinopifenaaDoorZYE
set_option linter.unusedSectionVars false
set_option linter.unusedSimpArgs false
set_option linter.unusedVariables false
namespace Go.Proofs.YtogfjinopifenaaDoor.boundLaw
open Go.Fw Go.Fw.Ref15 Go.Fw.Rg Go.Proofs.YtogfjinopifenaaDoor Go.ChangeShapes Go.WideShapes Go.RowKit
set_option maxRecDepth 100000
theorem contract (H : Type) (enc : TypeId × Value → H) (W : World) (base : Nat) (args : Array Value) (ds gs : List (DataW H)) (before : List MemPlace) (hsh : W.ShapedOpen Tryd.prog) (hL : laidMetH Tryd.prog Rows.tailsBoundUptoRow.laid W)
  (hval : ∀ (j : Nat) t v, Tryd.f4.params[j]? = some t → args[j]? = some v → Value.okWide Tryd.prog W .any base t v)
  (hW : DataW.Whole enc Tryd.prog Tryd.f4.params.toList Rows.tailsBoundSpec.vars false W args.toList ds gs before) (hk : Rows.uptoSmall H (ds ++ gs) = true) :
  Calls Tryd.prog 4 args W fun e W' => ∃ v, e = .returned v ∧ Rows.tailsBoundSpec.post enc Tryd.prog Tryd.f4 false true false false W args v W' := by
 refine gy tok' qm (fn := Tryd.f4) rfl (tb := 4) rfl (by kernel_rfl) laid ?_ (qh hsh hL) hval hW ?_ ?_
 ·intro t ht
  have : t = 27 ∨ t = 37 := by simpa [Tryd.f4] using ht
  rcases this with rfl | rfl
  ·exact ⟨by decide, by kernel_rfl, of_decide_eq_true (by kernel_rfl)⟩
  ·exact ⟨by decide, by kernel_rfl, of_decide_eq_true (by kernel_rfl)⟩
 ·intro xs hx
  obtain ⟨d, e, f, rfl, _⟩ := Le (t := 27) (u := 37) (v := 37) hx
  rfl
 ·intro _ xs hx
  obtain ⟨d, e, f, rfl, n0, l0, n1, l1, n2, l2, k0, k1, k2, rfl⟩ := Le (t := 27) (u := 37) (v := 37) hx
  have hb := qj hk
  simp only [Rows.uptoBulkAll] at hb
  obtain ⟨a0, rfl, g0, f0⟩ := Gp k0 (by omega)
  obtain ⟨a1, rfl, h1⟩ := Ah k1
  obtain ⟨a2, rfl, h2⟩ := Ah k2
  exact jG ⟨_, Tryd.func4, by kernel_rfl, by kernel_rfl⟩ (BM a0 a1 a2 g0 h1 h2)
theorem lifted (os : Os) (started : os.Started) (H : Type) (enc : TypeId × Value → H) (F : Stop.Interp) :
  ReturnsInHanded {} Tryd.checked os 4 .any ((Rows.OpenSpec.upto Rows.tailsBoundSpec).preRow enc Tryd.prog Tryd.f4 Rows.tailsBoundUptoRow.domain false Rows.tailsBoundUptoRow.laid) (((Rows.OpenSpec.upto Rows.tailsBoundSpec).at F).post enc Tryd.prog Tryd.f4 false true false false) := by
 refine returnsInHanded_of_row (C := Tryd.checked) (s := Rows.OpenSpec.upto Rows.tailsBoundSpec) own started (by kernel_rfl) Tryd.func4
  (witness_row_at (enc := enc) (C := Tryd.checked) false (laidWorld os) #[.agg #[.string .empty, .int .i64 0, .int .i64 0, .slice none 0 0, .slice none 0 0, .slice none 0 0, .slice none 0 0, .slice none 0 0], .int .u16 0, .int .u16 0] rfl (by kernel_rfl) (by kernel_rfl) (by kernel_rfl)
   (OpenSpec.preRow_of_cond 8 (x := ([.agg [.lit (.string []), .lit (.int .i64 0), .lit (.int .i64 0), .nil, .nil, .nil, .nil, .nil], .lit (.int .u16 0), .lit (.int .u16 0)], [], [])) (by kernel_rfl) (by kernel_rfl) (fun k hk => by cases hk; kernel_rfl) (by kernel_rfl) (laid_met os _))) ?_
 intro W base args ds gs before hval hW _ hk _ hL hsh _
 exact contract H enc W base args ds gs before hsh hL hval hW (hk _ rfl)
theorem said : Rows.TailsBoundUptoSaid :=
 OpenClaim.holds_of_cond 4 Tryd.f4 rfl rfl rfl rfl rfl rfl rfl ⟨rfl, rfl, rfl, rfl, rfl⟩ rfl rfl rfl rfl rfl (by kernel_rfl) Tryd.func4 (by kernel_rfl)
  (of_decide_eq_true (by kernel_rfl)) (by unfold Func.isWrapper; first | (rw [if_pos (by decide +kernel)]; kernel_rfl) | (rw [if_neg (by decide +kernel)]; exact ⟨rfl, rfl⟩))
  (fun os started H enc _ F => by rw [OpenClaim.pre_eq_preRow]; exact lifted os started H enc F)
theorem plain (f : FuncId) (fn : Func) (hf : Tryd.pinned.checked.prog.funcNamed "soundpost/soundpostlaw17.TailsBound" = some f) (hfn : Tryd.pinned.checked.prog.funcs[f]? = some fn) :
  true = Tryd.pinned.checked.prog.looks [] ∧ ∀ (j : Nat) t, fn.params[j]? = some t → Tryd.pinned.checked.prog.wantsStandIn t = false := by
 obtain rfl : f = 4 := Option.some.inj ((show Tryd.prog.funcNamed "soundpost/soundpostlaw17.TailsBound" = some 4 by kernel_rfl).symm.trans hf) |>.symm
 obtain rfl : fn = Tryd.f4 := (Option.some.inj (Tryd.func4.symm.trans hfn)).symm
 refine ⟨by kernel_rfl, fun j t ht => ?_⟩
 have ht : t ∈ Tryd.f4.params.toList := by simpa using Array.mem_of_getElem? ht
 have : t = 27 ∨ t = 37 := by simpa [Tryd.f4] using ht
 rcases this with rfl | rfl
 ·exact (show Tryd.prog.wantsStandIn 27 = false by kernel_rfl)
 ·exact (show Tryd.prog.wantsStandIn 37 = false by kernel_rfl)
theorem holds : Rows.TailsBoundUptoCardSaid :=
 Claim7.holds_tied_plain_at .later [] _ _ _ _ said (fun _ h => by cases h) (by kernel_rfl) (fun _ h => by cases h) tailsBoundUpto_row_tie rfl ⟨rfl, rfl⟩ (by kernel_rfl) rfl plain (by kernel_rfl)
end Go.Proofs.YtogfjinopifenaaDoor.boundLaw
