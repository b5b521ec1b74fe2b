/- LexSpaces: for all tokens, written with any white space and comments between them, at least one space each, Lex returns them; for arguments of a bulk of at most 1048576 together; the arguments read afterwards as before. Conditions: the row's own. -/
import Derived.Test.YtanmpkhhmjfbnaaDoorZLP1
import Derived.Test.YtanmpkhhmjfbnaaDoorZLS15
set_option linter.unusedSimpArgs false
set_option linter.unusedVariables false
namespace Go.Proofs.YtanmpkhhmjfbnaaDoor.spacesLaw
open Go.Fw Go.Fw.Lx Go.Proofs.YtanmpkhhmjfbnaaDoor Go.ChangeShapes Go.WideShapes Go.RowKit
set_option linter.unusedSectionVars false
set_option maxRecDepth 100000
theorem contract (H : Type) (enc : TypeId × Value → H) (W : World) (base : Nat) (args : Array Value) (ds gs : List (DataW H)) (before : List MemPlace) (hsh : W.ShapedOpen Tryd.prog) (hL : laidMetH Tryd.prog Rows.lexSpacesUptoRow.laid W)
    (hval : ∀ (j : Nat) t v, Tryd.f8.params[j]? = some t → args[j]? = some v → Value.okWide Tryd.prog W .any base t v)
    (hW : DataW.Whole enc Tryd.prog Tryd.f8.params.toList Rows.lexSpacesSpec.vars false W args.toList ds gs before) (hk : Rows.uptoSmall H (ds ++ gs) = true) :
    Calls Tryd.prog 8 args W fun e W' => ∃ v, e = .returned v ∧ Rows.lexSpacesSpec.post enc Tryd.prog Tryd.f8 false true false false W args v W' := by
  refine law_contract tok' closedS (fn := Tryd.f8) rfl (tb := 4) rfl (by kernel_rfl) laid ?_ (glob_ok hsh hL) hval hW ?_ ?_
  · intro t ht
    have : t = 23 ∨ t = 39 ∨ t = 9 := by simpa [Tryd.f8] using ht
    rcases this with rfl | rfl | rfl
    · exact ⟨by decide, by kernel_rfl, of_decide_eq_true (by kernel_rfl)⟩
    · exact ⟨by decide, by kernel_rfl, of_decide_eq_true (by kernel_rfl)⟩
    · exact ⟨by decide, by kernel_rfl, of_decide_eq_true (by kernel_rfl)⟩
  · intro xs hx
    obtain ⟨d, e, f, rfl, _⟩ := arg3 (t := 23) (u := 39) (v := 9) hx
    rfl
  · intro _ xs hx
    obtain ⟨d, e, f, rfl, n0, l0, n1, l1, n2, l2, k0, k1, k2, rfl⟩ := arg3 (t := 23) (u := 39) (v := 9) hx
    have hb := bulk_le hk
    simp only [Rows.uptoBulkAll] at hb
    obtain ⟨a0, rfl, h0⟩ := toks_of k0 (by omega)
    obtain ⟨a1, rfl, h1⟩ := bytes_of k1
    obtain ⟨a2, rfl, h2⟩ := str_of rfl k2
    exact pcallB_of ⟨_, Tryd.func8, by kernel_rfl, by kernel_rfl⟩ (spaces_law a0 a1 a2 h0 (by omega))
theorem lifted (os : Os) (started : os.Started) (H : Type) (enc : TypeId × Value → H) (F : Stop.Interp) :
    ReturnsInHanded {} Tryd.checked os 8 .any ((Rows.OpenSpec.upto Rows.lexSpacesSpec).preRow enc Tryd.prog Tryd.f8 Rows.lexSpacesUptoRow.domain false Rows.lexSpacesUptoRow.laid) (((Rows.OpenSpec.upto Rows.lexSpacesSpec).at F).post enc Tryd.prog Tryd.f8 false true false false) := by
  refine returnsInHanded_of_row (C := Tryd.checked) (s := Rows.OpenSpec.upto Rows.lexSpacesSpec) own started (by kernel_rfl) Tryd.func8
    (witness_row_at (enc := enc) (C := Tryd.checked) false (laidWorld os) #[.slice none 0 0, .slice none 0 0, .string .empty] rfl (by kernel_rfl) (by kernel_rfl) (by kernel_rfl)
      (OpenSpec.preRow_of_cond 8 (x := ([.nil, .nil, .lit (.string [])], [], [])) (by kernel_rfl) (by kernel_rfl) (fun k hk => by cases hk; kernel_rfl) (by kernel_rfl) (laid_met os _))) ?_
  intro W base args ds gs before hval hW _ hk _ hL hsh _
  exact contract H enc W base args ds gs before hsh hL hval hW (hk _ rfl)
theorem said : Rows.LexSpacesUptoSaid :=
  OpenClaim.holds_of_cond 8 Tryd.f8 rfl rfl rfl rfl rfl rfl rfl ⟨rfl, rfl, rfl, rfl, rfl⟩ rfl rfl rfl rfl rfl (by kernel_rfl) Tryd.func8 (by kernel_rfl)
    (of_decide_eq_true (by kernel_rfl)) (by unfold Func.isWrapper; first | (rw [if_pos (by decide +kernel)]; kernel_rfl) | (rw [if_neg (by decide +kernel)]; exact ⟨rfl, rfl⟩))
    (fun os started H enc _ F => by rw [OpenClaim.pre_eq_preRow]; exact lifted os started H enc F)
theorem plain (f : FuncId) (fn : Func) (hf : Tryd.pinned.checked.prog.funcNamed "soundpost/soundpostlaw03.LexSpaces" = some f) (hfn : Tryd.pinned.checked.prog.funcs[f]? = some fn) :
    true = Tryd.pinned.checked.prog.looks [] ∧ ∀ (j : Nat) t, fn.params[j]? = some t → Tryd.pinned.checked.prog.wantsStandIn t = false := by
  obtain rfl : f = 8 := Option.some.inj ((show Tryd.prog.funcNamed "soundpost/soundpostlaw03.LexSpaces" = some 8 by kernel_rfl).symm.trans hf) |>.symm
  obtain rfl : fn = Tryd.f8 := (Option.some.inj (Tryd.func8.symm.trans hfn)).symm
  refine ⟨by kernel_rfl, fun j t ht => ?_⟩
  have ht : t ∈ Tryd.f8.params.toList := by simpa using Array.mem_of_getElem? ht
  have : t = 23 ∨ t = 39 ∨ t = 9 := by simpa [Tryd.f8] using ht
  rcases this with rfl | rfl | rfl
  · exact (show Tryd.prog.wantsStandIn 23 = false by kernel_rfl)
  · exact (show Tryd.prog.wantsStandIn 39 = false by kernel_rfl)
  · exact (show Tryd.prog.wantsStandIn 9 = false by kernel_rfl)
theorem holds : Rows.LexSpacesUptoCardSaid :=
  Claim7.holds_tied_plain_at .later [] _ _ _ _ said (fun _ h => by cases h) (by kernel_rfl) (fun _ h => by cases h) lexSpacesUpto_row_tie rfl ⟨rfl, rfl⟩ (by kernel_rfl) rfl plain (by kernel_rfl)
end Go.Proofs.YtanmpkhhmjfbnaaDoor.spacesLaw
