/- TailsDeclared: Check accepts exactly what is resolved, accepted by ranges, and declares reach and memory; for arguments of a bulk of at most 1048576 together; the arguments read afterwards as before. Conditions: the row's own. -/
import Derived.Test.YtogfjinopifenaaDoorZTP1
import Derived.Test.YtogfjinopifenaaDoorZYE
set_option linter.unusedSectionVars false
set_option linter.unusedSimpArgs false
set_option linter.unusedVariables false
namespace Go.Proofs.YtogfjinopifenaaDoor.declLaw
open Go.Fw Go.Fw.Ref15 Go.Fw.Rg Go.Proofs.YtogfjinopifenaaDoor Go.ChangeShapes Go.WideShapes Go.RowKit
set_option maxRecDepth 100000
theorem contract (H : Type) (enc : TypeId × Value → H) (W : World) (base : Nat) (args : Array Value) (ds gs : List (DataW H)) (before : List MemPlace) (hsh : W.ShapedOpen Tryd.prog) (hL : laidMetH Tryd.prog Rows.tailsDeclaredUptoRow.laid W)
  (hval : ∀ (j : Nat) t v, Tryd.f3.params[j]? = some t → args[j]? = some v → Value.okWide Tryd.prog W .any base t v)
  (hW : DataW.Whole enc Tryd.prog Tryd.f3.params.toList Rows.tailsDeclaredSpec.vars false W args.toList ds gs before) (hk : Rows.uptoSmall H (ds ++ gs) = true) :
  Calls Tryd.prog 3 args W fun e W' => ∃ v, e = .returned v ∧ Rows.tailsDeclaredSpec.post enc Tryd.prog Tryd.f3 false true false false W args v W' := by
 refine kL tok' Cj (fn := Tryd.f3) rfl (tb := 4) rfl (by kernel_rfl) laid ?_ (Cf hsh hL) hval hW ?_ ?_
 ·intro t ht
  have : t = 27 := by simpa [Tryd.f3] using ht
  subst this
  exact ⟨by decide, by kernel_rfl, of_decide_eq_true (by kernel_rfl)⟩
 ·intro xs hx
  obtain ⟨d, rfl, _⟩ := ZF (t := 27) hx
  rfl
 ·intro _ xs hx
  obtain ⟨d, rfl, n0, l0, k0, rfl⟩ := ZF (t := 27) hx
  have hb := Ci hk
  simp only [Rows.uptoBulkAll] at hb
  obtain ⟨a0, rfl, g0, f0⟩ := XD k0 (by omega)
  exact rD ⟨_, Tryd.func3, by kernel_rfl, by kernel_rfl⟩ (UX a0 g0)
theorem lifted (os : Os) (started : os.Started) (H : Type) (enc : TypeId × Value → H) (F : Stop.Interp) :
  ReturnsInHanded {} Tryd.checked os 3 .any ((Rows.OpenSpec.upto Rows.tailsDeclaredSpec).preRow enc Tryd.prog Tryd.f3 Rows.tailsDeclaredUptoRow.domain false Rows.tailsDeclaredUptoRow.laid) (((Rows.OpenSpec.upto Rows.tailsDeclaredSpec).at F).post enc Tryd.prog Tryd.f3 false true false false) := by
 refine returnsInHanded_of_row (C := Tryd.checked) (s := Rows.OpenSpec.upto Rows.tailsDeclaredSpec) own started (by kernel_rfl) Tryd.func3
  (witness_row_at (enc := enc) (C := Tryd.checked) false (laidWorld os) #[.agg #[.string .empty, .int .i64 0, .int .i64 0, .slice none 0 0, .slice none 0 0, .slice none 0 0, .slice none 0 0, .slice none 0 0]] rfl (by kernel_rfl) (by kernel_rfl) (by kernel_rfl)
   (OpenSpec.preRow_of_cond 8 (x := ([.agg [.lit (.string []), .lit (.int .i64 0), .lit (.int .i64 0), .nil, .nil, .nil, .nil, .nil]], [], [])) (by kernel_rfl) (by kernel_rfl) (fun k hk => by cases hk; kernel_rfl) (by kernel_rfl) (laid_met os _))) ?_
 intro W base args ds gs before hval hW _ hk _ hL hsh _
 exact contract H enc W base args ds gs before hsh hL hval hW (hk _ rfl)
theorem said : Rows.TailsDeclaredUptoSaid :=
 OpenClaim.holds_of_cond 3 Tryd.f3 rfl rfl rfl rfl rfl rfl rfl ⟨rfl, rfl, rfl, rfl, rfl⟩ rfl rfl rfl rfl rfl (by kernel_rfl) Tryd.func3 (by kernel_rfl)
  (of_decide_eq_true (by kernel_rfl)) (by unfold Func.isWrapper; first | (rw [if_pos (by decide +kernel)]; kernel_rfl) | (rw [if_neg (by decide +kernel)]; exact ⟨rfl, rfl⟩))
  (fun os started H enc _ F => by rw [OpenClaim.pre_eq_preRow]; exact lifted os started H enc F)
theorem plain (f : FuncId) (fn : Func) (hf : Tryd.pinned.checked.prog.funcNamed "soundpost/soundpostlaw17.TailsDeclared" = some f) (hfn : Tryd.pinned.checked.prog.funcs[f]? = some fn) :
  true = Tryd.pinned.checked.prog.looks [] ∧ ∀ (j : Nat) t, fn.params[j]? = some t → Tryd.pinned.checked.prog.wantsStandIn t = false := by
 obtain rfl : f = 3 := Option.some.inj ((show Tryd.prog.funcNamed "soundpost/soundpostlaw17.TailsDeclared" = some 3 by kernel_rfl).symm.trans hf) |>.symm
 obtain rfl : fn = Tryd.f3 := (Option.some.inj (Tryd.func3.symm.trans hfn)).symm
 refine ⟨by kernel_rfl, fun j t ht => ?_⟩
 have ht : t ∈ Tryd.f3.params.toList := by simpa using Array.mem_of_getElem? ht
 have : t = 27 := by simpa [Tryd.f3] using ht
 subst this
 exact (show Tryd.prog.wantsStandIn 27 = false by kernel_rfl)
theorem holds : Rows.TailsDeclaredUptoCardSaid :=
 Claim7.holds_tied_plain_at .later [] _ _ _ _ said (fun _ h => by cases h) (by kernel_rfl) (fun _ h => by cases h) tailsDeclaredUpto_row_tie rfl ⟨rfl, rfl⟩ (by kernel_rfl) rfl plain (by kernel_rfl)
end Go.Proofs.YtogfjinopifenaaDoor.declLaw
