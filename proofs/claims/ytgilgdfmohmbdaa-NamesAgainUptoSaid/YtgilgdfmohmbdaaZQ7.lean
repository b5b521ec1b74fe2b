/- NamesAgain: for every processor and number that are together of bulk at most 1048576, what is resolved is resolved again to itself, with its indices changed too; the arguments read afterwards as before. Conditions: none but the row's own. -/
import Derived.Test.YtgilgdfmohmbdaaZP34
import Derived.Test.YtgilgdfmohmbdaaZP11
import Derived.Test.YtgilgdfmohmbdaaZS16
set_option linter.unusedSimpArgs false
set_option linter.unusedVariables false
namespace Go.Proofs.Ytgilgdfmohmbdaa.againLaw
open Go.Fw Go.Fw.Ref15 Go.Proofs.Ytgilgdfmohmbdaa
set_option linter.unusedSectionVars false
set_option maxRecDepth 100000
theorem contract (H : Type) (enc : TypeId × Value → H) (W : World) (base : Nat) (args : Array Value) (ds gs : List (DataW H)) (before : List MemPlace) (hsh : W.ShapedOpen Try.prog)
    (hval : ∀ (j : Nat) t v, Try.f5.params[j]? = some t → args[j]? = some v → Value.okWide Try.prog W .any base t v)
    (hW : DataW.Whole enc Try.prog Try.f5.params.toList Rows.namesAgainSpec.vars false W args.toList ds gs before) (hk : Rows.uptoSmall H (ds ++ gs) = true) :
    Calls Try.prog 5 args W fun e W' => ∃ v, e = .returned v ∧ Rows.namesAgainSpec.post enc Try.prog Try.f5 false true false false W args v W' := by
  refine law_contract tok' closedS (fn := Try.f5) rfl (tb := 4) rfl (by kernel_rfl) laid ?_ (glob_ok hsh) hval hW ?_ ?_
  · intro t ht
    have : t = 27 ∨ t = 3 := by simpa [Try.f5] using ht
    rcases this with rfl | rfl
    · exact ⟨by decide, by kernel_rfl, of_decide_eq_true (by kernel_rfl)⟩
    · exact ⟨by decide, by kernel_rfl, of_decide_eq_true (by kernel_rfl)⟩
  · intro xs hx
    obtain ⟨d, e, rfl, _⟩ := arg2 (t := 27) (u := 3) hx
    rfl
  · intro _ xs hx
    obtain ⟨d, e, rfl, n, l, m, k, hl, hk2, rfl⟩ := arg2 (t := 27) (u := 3) hx
    have hb := bulk_le hk
    simp only [Rows.uptoBulkAll] at hb
    obtain ⟨p, hp, h1, h2, h3, _⟩ := pr_arg hl (by omega)
    obtain ⟨v, rfl, hv0, hv1⟩ := int_of (k := .i64) rfl hk2
    rw [hp]
    have : PCall Try.prog 5 [p.d, .i v] (.ret (.b true)) := by
      by_cases he : (Nam.resolveC p).2 = 0
      · exact law5_ok p v h1 h2 h3 he
      · exact law5_err p v h1 h2 h3 (by simpa using he)
    exact pcallB_of ⟨_, Try.func5, by kernel_rfl, by kernel_rfl⟩ this
theorem lifted (os : Os) (started : os.Started) (H : Type) (enc : TypeId × Value → H) (F : Stop.Interp) :
    ReturnsInHanded {} Try.checked os 5 .any ((Rows.OpenSpec.upto Rows.namesAgainSpec).pre6 enc Try.prog Try.f5 Rows.namesAgainUptoRow.domain false) (((Rows.OpenSpec.upto Rows.namesAgainSpec).at F).post enc Try.prog Try.f5 false true false false) := by
  refine handed_of_cond (C := Try.checked) (s := Rows.OpenSpec.upto Rows.namesAgainSpec) (k := Rows.uptoSmall) rfl own started (by kernel_rfl) Try.func5
    (OpenSpec.witness (enc := enc) (C := Try.checked) (s := Rows.OpenSpec.upto Rows.namesAgainSpec) (k := Rows.uptoSmall) rfl false ⟨#[], #[zeroPr, .int .i64 0], []⟩ 8 (by kernel_rfl) (by kernel_rfl) (by kernel_rfl)
      (x := ([zeroD, .lit (.int .i64 0)], [], [])) (by kernel_rfl) rfl (by kernel_rfl)) ?_
  intro W base args ds gs before hsh hval hW hk
  exact contract H enc W base args ds gs before hsh hval hW hk
theorem holds : Rows.NamesAgainUptoSaid :=
  OpenClaim.holds_of_cond 5 Try.f5 rfl rfl rfl rfl rfl rfl rfl ⟨rfl, rfl, rfl, rfl, rfl⟩ rfl rfl rfl rfl rfl (by kernel_rfl) Try.func5 (by kernel_rfl)
    (of_decide_eq_true (by kernel_rfl)) (by unfold Func.isWrapper; first | (rw [if_pos (by decide +kernel)]; kernel_rfl) | (rw [if_neg (by decide +kernel)]; exact ⟨rfl, rfl⟩))
    (fun os started H enc _ F => lifted os started H enc F)
end Go.Proofs.Ytgilgdfmohmbdaa.againLaw
