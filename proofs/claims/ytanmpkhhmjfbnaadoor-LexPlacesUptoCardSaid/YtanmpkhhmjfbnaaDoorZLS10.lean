/- Contracts: the law LexTextSpec. -/
import Derived.Test.YtanmpkhhmjfbnaaDoorZLS9
import Derived.Test.YtanmpkhhmjfbnaaDoorZLM
set_option linter.unusedSimpArgs false
set_option linter.unusedVariables false
namespace Go.Proofs.YtanmpkhhmjfbnaaDoor
open Go.Fw Go.Fw.Lx
set_option maxRecDepth 10000
set_option linter.unusedSectionVars false
variable [GlobInt]
theorem text_is {l : List Tk} {r : D} (h : Rd l) (e : textM l = r) : PCall Tryd.prog 16 [toks l] (.ret r) := by
  have := text_call l (by have := h.len; omega) h.join; rw [e] at this; exact this
theorem rtext_is {l : List Tk} {r : D} (h : Rd l) (e : textM l = r) : PCall Tryd.prog 17 [toks l] (.ret r) := by
  have := textR_call l (by have := h.len; omega) h.join; rw [textR_eq, e] at this; exact this
theorem few_is {l : List Tk} (h : Rd l) : PCall Tryd.prog 15 [toks l] (.ret (.b (fewM l))) := few_call l (by have := h.lens; omega)
set_option maxHeartbeats 400000 in
theorem text_law0 (a b : List Tk) (s x : Str) (e : Int) (ha : Rd a) (hb : Rd b) (hx : textM a = .tuple [.str x, .i e]) : PCall Tryd.prog 4 [toks a, toks b, .str s] (.ret (.b true)) := by
  refine pcall_of_wc tok hmix ⟨[], []⟩ Tryd.func4 rfl (by kernel_rfl) (by kernel_rfl) (by kernel_rfl) fun hf => ?_
  clear hf
  repeat' ((try (conv => whnf)) <;> first
    | with_reducible exact trivial
    | with_reducible exact rfl
    | with_reducible refine BrI.tt ?_
    | with_reducible refine BrI.ff ?_
    | with_reducible refine BrI.intro (fun h => ?_) (fun h => ?_)
    | ((with_reducible refine call_step ?_ ?_ ?_); rotate_left; (first | exact sane_call | exact few_call _ (by assumption) | exact text_call _ (by assumption) (by assumption) | exact textR_call _ (by assumption) (by assumption) | exact same_call _ _ | exact sameR_call _ _ | exact lname_call _ | exact name_call _ | exact sane_call | exact few_is ha | exact few_is hb | exact text_is ha hx | exact rtext_is ha hx | exact same_call a b | exact sameR_call a b | exact same_call a a | exact lname_call s | exact name_call s | fail))
    | (with_reducible refine ChooseI.l _ ?_)
    | ((with_reducible refine nilgs_step ?_ ?_ ?_ ?_ ?_ ?_) <;> exact rfl)
    | ((with_reducible refine tok0_step ?_ ?_ ?_ ?_) <;> exact rfl)
    | ((with_reducible refine kok_step ?_ ?_ ?_); exact rfl; exact rfl)
    | ((with_reducible refine idx_step ?_ ?_ ?_ ?_ ?_); exact rfl; exact rfl; rotate_left; (first | with_reducible exact idx_get ‹_› | fail))
    | ((with_reducible refine len_step ?_ ?_); exact rfl)
    | ((with_reducible refine app_step' ?_ ?_ ?_ ?_ ?_ ?_ ?_); exact rfl; exact rfl; exact rfl; exact rfl)
    | ((with_reducible refine nil_step' ?_ ?_ ?_ ?_); exact rfl; exact rfl)
    | ((with_reducible refine guard_step ?_ ?_ (fun hg => ?_) ?_); exact rfl)
    | ((with_reducible refine val_step ?_ ?_); with_reducible exact rfl; with_reducible exact rfl)
    | ((with_reducible refine same_step ?_ ?_); with_reducible exact rfl)
    | ((with_reducible refine chk_step ?_ ?_); kernel_rfl)
    | ((with_reducible refine ret_step ?_); refine ⟨[], rfl, ?_, trivial⟩; conv => whnf)
    | ((with_reducible refine ret_need ?_ ?_); rotate_left; refine ⟨[], rfl, ?_, trivial⟩; conv => whnf)
    | ((with_reducible refine pan_need ?_ ?_); rotate_left; refine ⟨[], rfl, ?_, trivial⟩; conv => whnf)
    | ((with_reducible refine pan_step ?_); refine ⟨[], rfl, ?_, trivial⟩; conv => whnf)
    | (with_reducible refine And.intro ?_ ?_)
    | ((with_reducible refine gs_eq ?_ ?_ ?_); exact rfl; exact rfl; (first | with_reducible exact map_app | with_reducible exact map_app3 | with_reducible exact map_app4 | exact map_snoc | exact rfl | skip))
    | ((with_reducible refine tok_eq ?_ ?_); exact rfl; (first | with_reducible exact map_app | with_reducible exact map_app3 | with_reducible exact map_app4 | exact map_snoc | exact rfl | skip))
    | ((with_reducible refine ren_guard ?_); refine gs_ren ?_ ?_ ?_; exact rfl; exact rfl; (first | exact rfl | skip))
    | exact @rfl AV _
    | exact @rfl Block _
    | exact @rfl (List AV) _
    | exact ble_le rfl
    | fail)
  all_goals (try simp only [Bool.cond_true_left, Bool.cond_false_right, Bool.cond_false_left, Bool.cond_true_right, Bool.not_eq_true', Bool.not_eq_false', bne, Ex.css_len, List.length_map, Int.toNat_zero] at *)
  all_goals first
    | omega
    | ((refine congrArg (fun z => D.val (Value.bool z)) ?_; simp [same_refl, name_eq]; done))
    | (exfalso; simp_all; done)
    | skip
theorem text_law (a b : List Tk) (s : Str) (ha : Rd a) (hb : Rd b) : PCall Tryd.prog 4 [toks a, toks b, .str s] (.ret (.b true)) := by
  cases hv : a.all valid with
  | true => exact text_law0 a b s _ 0 ha hb (by rw [textM, hv]; rfl)
  | false => exact text_law0 a b s [] 30 ha hb (by rw [textM, hv]; rfl)
end Go.Proofs.YtanmpkhhmjfbnaaDoor

