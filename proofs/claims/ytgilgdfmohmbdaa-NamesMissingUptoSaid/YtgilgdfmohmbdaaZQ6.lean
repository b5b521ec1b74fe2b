/- NamesMissing: for every processor of bulk at most 1048576, names.Resolve of it without its last parameter, state, line or table is refused exactly if the last was used; the processor reads afterwards as before. Conditions: none but the row's own. -/
import Derived.Test.YtgilgdfmohmbdaaZP34
import Derived.Test.YtgilgdfmohmbdaaZP10
import Derived.Test.YtgilgdfmohmbdaaZS13
set_option linter.unusedSimpArgs false
set_option linter.unusedVariables false
namespace Go.Proofs.Ytgilgdfmohmbdaa.missingLaw
open Go.Fw Go.Fw.Ref15 Go.Proofs.Ytgilgdfmohmbdaa
set_option linter.unusedSectionVars false
set_option maxRecDepth 100000
theorem contract (H : Type) (enc : TypeId × Value → H) (W : World) (base : Nat) (args : Array Value) (ds gs : List (DataW H)) (before : List MemPlace) (hsh : W.ShapedOpen Try.prog)
    (hval : ∀ (j : Nat) t v, Try.f8.params[j]? = some t → args[j]? = some v → Value.okWide Try.prog W .any base t v)
    (hW : DataW.Whole enc Try.prog Try.f8.params.toList Rows.namesMissingSpec.vars false W args.toList ds gs before) (hk : Rows.uptoSmall H (ds ++ gs) = true) :
    Calls Try.prog 8 args W fun e W' => ∃ v, e = .returned v ∧ Rows.namesMissingSpec.post enc Try.prog Try.f8 false true false false W args v W' := by
  refine law_contract tok' closedS (fn := Try.f8) rfl (tb := 4) rfl (by kernel_rfl) laid ?_ (glob_ok hsh) hval hW ?_ ?_
  · intro t ht
    have : t = 27 := by simpa [Try.f8] using ht
    subst this
    exact ⟨by decide, by kernel_rfl, of_decide_eq_true (by kernel_rfl)⟩
  · intro xs hx
    obtain ⟨d, rfl, _⟩ := arg1 (t := 27) hx
    rfl
  · intro _ xs hx
    obtain ⟨d, rfl, n, l, hl, rfl⟩ := arg1 (t := 27) hx
    have hb := bulk_le hk
    simp only [Rows.uptoBulkAll] at hb
    obtain ⟨p, hp, h1, h2, h3, _⟩ := pr_arg hl (by omega)
    rw [hp]
    have : PCall Try.prog 8 [p.d] (.ret (.b true)) := by
      by_cases he : (Nam.resolveC p).2 = 0
      · exact law6_ok p h1 h2 h3 he (Nam.missing_p h1 he) (Nam.missing_s h1 he) (Nam.missing_l h1 he) (Nam.missing_t h1 he)
      · exact law6_err p h1 h2 h3 (by simpa using he)
    exact pcallB_of ⟨_, Try.func8, by kernel_rfl, by kernel_rfl⟩ this
theorem lifted (os : Os) (started : os.Started) (H : Type) (enc : TypeId × Value → H) (F : Stop.Interp) :
    ReturnsInHanded {} Try.checked os 8 .any ((Rows.OpenSpec.upto Rows.namesMissingSpec).pre6 enc Try.prog Try.f8 Rows.namesMissingUptoRow.domain false) (((Rows.OpenSpec.upto Rows.namesMissingSpec).at F).post enc Try.prog Try.f8 false true false false) := by
  refine handed_of_cond (C := Try.checked) (s := Rows.OpenSpec.upto Rows.namesMissingSpec) (k := Rows.uptoSmall) rfl own started (by kernel_rfl) Try.func8
    (OpenSpec.witness (enc := enc) (C := Try.checked) (s := Rows.OpenSpec.upto Rows.namesMissingSpec) (k := Rows.uptoSmall) rfl false ⟨#[], #[zeroPr], []⟩ 8 (by kernel_rfl) (by kernel_rfl) (by kernel_rfl)
      (x := ([zeroD], [], [])) (by kernel_rfl) rfl (by kernel_rfl)) ?_
  intro W base args ds gs before hsh hval hW hk
  exact contract H enc W base args ds gs before hsh hval hW hk
theorem holds : Rows.NamesMissingUptoSaid :=
  OpenClaim.holds_of_cond 8 Try.f8 rfl rfl rfl rfl rfl rfl rfl ⟨rfl, rfl, rfl, rfl, rfl⟩ rfl rfl rfl rfl rfl (by kernel_rfl) Try.func8 (by kernel_rfl)
    (of_decide_eq_true (by kernel_rfl)) (by unfold Func.isWrapper; first | (rw [if_pos (by decide +kernel)]; kernel_rfl) | (rw [if_neg (by decide +kernel)]; exact ⟨rfl, rfl⟩))
    (fun os started H enc _ F => lifted os started H enc F)
end Go.Proofs.Ytgilgdfmohmbdaa.missingLaw
