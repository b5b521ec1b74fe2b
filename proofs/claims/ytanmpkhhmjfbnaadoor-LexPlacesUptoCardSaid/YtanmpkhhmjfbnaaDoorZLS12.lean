/- Contracts: the law LexNames. -/
import Derived.Test.YtanmpkhhmjfbnaaDoorZLS11
import Derived.Test.YtanmpkhhmjfbnaaDoorZLM
set_option linter.unusedSimpArgs false
set_option linter.unusedVariables false
namespace Go.Proofs.YtanmpkhhmjfbnaaDoor
open Go.Fw Go.Fw.Lx
set_option maxRecDepth 10000
set_option linter.unusedSectionVars false
variable [GlobInt]
theorem one_rd (s : Str) (h : s.length ≤ 1000) : Rd [⟨1, s, 0, 0⟩] := ⟨by simp, by simp [lens]; omega, by simp [InI]⟩
theorem lname_is {s : Str} {b : Bool} (h : lname s = b) : PCall Tryd.prog 20 [.str s] (.ret (.b b)) := by
  have := lname_call s; rw [h] at this; exact this
set_option maxHeartbeats 400000 in
theorem names_early (s : Str) (hE : decide ((s.length : Int) > 1000) = true) : PCall Tryd.prog 10 [.str s] (.ret (.b true)) := by
  refine pcall_of_wc tok hmix ⟨[], []⟩ Tryd.func10 rfl (by kernel_rfl) (by kernel_rfl) (by kernel_rfl) fun hf => ?_
  clear hf
  repeat' ((try (conv => whnf)) <;> first
    | with_reducible exact trivial
    | with_reducible exact rfl
    | with_reducible refine BrI.tt ?_
    | with_reducible refine BrI.ff ?_
    | with_reducible refine BrI.intro (fun h => ?_) (fun h => ?_)
    | (exact Bool.noConfusion (hE.symm.trans h))
    | ((with_reducible refine call_step ?_ ?_ ?_); rotate_left; (first | exact sane_call | exact text_call _ (by assumption) (by assumption) | exact lname_call _ | exact sane_call | fail))
    | (with_reducible refine ChooseI.l _ ?_)
    | ((with_reducible refine nilgs_step ?_ ?_ ?_ ?_ ?_ ?_) <;> exact rfl)
    | ((with_reducible refine tok0_step ?_ ?_ ?_ ?_) <;> exact rfl)
    | ((with_reducible refine kok_step ?_ ?_ ?_); exact rfl; exact rfl)
    | ((with_reducible refine idx_step ?_ ?_ ?_ ?_ ?_); exact rfl; exact rfl; rotate_left; (first | with_reducible exact idx_get ‹_› | fail))
    | ((with_reducible refine len_step ?_ ?_); exact rfl)
    | ((with_reducible refine app_step' ?_ ?_ ?_ ?_ ?_ ?_ ?_); exact rfl; exact rfl; exact rfl; exact rfl)
    | ((with_reducible refine nil_step' ?_ ?_ ?_ ?_); exact rfl; exact rfl)
    | ((with_reducible refine guard_step ?_ ?_ (fun hg => ?_) ?_); exact rfl)
    | ((with_reducible refine val_step ?_ ?_); with_reducible exact rfl; with_reducible exact rfl)
    | ((with_reducible refine same_step ?_ ?_); with_reducible exact rfl)
    | ((with_reducible refine chk_step ?_ ?_); kernel_rfl)
    | ((with_reducible refine ret_step ?_); refine ⟨[], rfl, ?_, trivial⟩; conv => whnf)
    | ((with_reducible refine ret_need ?_ ?_); rotate_left; refine ⟨[], rfl, ?_, trivial⟩; conv => whnf)
    | ((with_reducible refine pan_need ?_ ?_); rotate_left; refine ⟨[], rfl, ?_, trivial⟩; conv => whnf)
    | ((with_reducible refine pan_step ?_); refine ⟨[], rfl, ?_, trivial⟩; conv => whnf)
    | (with_reducible refine And.intro ?_ ?_)
    | ((with_reducible refine gs_eq ?_ ?_ ?_); exact rfl; exact rfl; (first | with_reducible exact map_app | with_reducible exact map_app3 | with_reducible exact map_app4 | exact map_snoc | exact rfl | skip))
    | ((with_reducible refine tok_eq ?_ ?_); exact rfl; (first | with_reducible exact map_app | with_reducible exact map_app3 | with_reducible exact map_app4 | exact map_snoc | exact rfl | skip))
    | ((with_reducible refine ren_guard ?_); refine gs_ren ?_ ?_ ?_; exact rfl; exact rfl; (first | exact rfl | skip))
    | exact @rfl AV _
    | exact @rfl Block _
    | exact @rfl (List AV) _
    | exact ble_le rfl
    | fail)
  all_goals (try simp only [Bool.cond_true_left, Bool.cond_false_right, Bool.cond_false_left, Bool.cond_true_right, Bool.not_eq_true', Bool.not_eq_false', bne, Ex.css_len, List.length_map, Int.toNat_zero] at *)
  all_goals first
    | omega
    | (rfl)
    | (exfalso; simp_all; done)
    | skip
set_option maxHeartbeats 400000 in
theorem names_yes (s : Str) (hE : decide ((s.length : Int) > 1000) = false) (hr : Rd [⟨1, s, 0, 0⟩]) (b1 : decide ((s.length : Int) > 65536) = false) (e1 : lexR pStep s 0 = .ok [⟨1, s, 0, 0⟩]) (e2 : textM [⟨1, s, 0, 0⟩] = .tuple [.str s, .i 0]) (e3 : lname s = true) : PCall Tryd.prog 10 [.str s] (.ret (.b true)) := by
  refine pcall_of_wc tok hmix ⟨[], []⟩ Tryd.func10 rfl (by kernel_rfl) (by kernel_rfl) (by kernel_rfl) fun hf => ?_
  clear hf
  repeat' ((try (conv => whnf)) <;> first
    | with_reducible exact trivial
    | with_reducible exact rfl
    | with_reducible refine BrI.tt ?_
    | with_reducible refine BrI.ff ?_
    | with_reducible refine BrI.intro (fun h => ?_) (fun h => ?_)
    | (exact Bool.noConfusion (hE.symm.trans h))
    | ((with_reducible refine idx_lit' ?_ ?_ ?_ ?_); exact rfl; exact rfl; exact rfl)
    | ((with_reducible refine gi_step ?_ ?_); kernel_rfl)
    | ((with_reducible refine call_step ?_ ?_ ?_); rotate_left; (first | exact sane_call | exact text_call _ (by assumption) (by assumption) | exact lname_call _ | exact sane_call | exact lex_is b1 e1 | exact text_is hr e2 | exact lname_is e3 | fail))
    | (with_reducible refine ChooseI.l _ ?_)
    | ((with_reducible refine nilgs_step ?_ ?_ ?_ ?_ ?_ ?_) <;> exact rfl)
    | ((with_reducible refine tok0_step ?_ ?_ ?_ ?_) <;> exact rfl)
    | ((with_reducible refine kok_step ?_ ?_ ?_); exact rfl; exact rfl)
    | ((with_reducible refine idx_step ?_ ?_ ?_ ?_ ?_); exact rfl; exact rfl; rotate_left; (first | with_reducible exact idx_get ‹_› | fail))
    | ((with_reducible refine len_step ?_ ?_); exact rfl)
    | ((with_reducible refine app_step' ?_ ?_ ?_ ?_ ?_ ?_ ?_); exact rfl; exact rfl; exact rfl; exact rfl)
    | ((with_reducible refine nil_step' ?_ ?_ ?_ ?_); exact rfl; exact rfl)
    | ((with_reducible refine guard_step ?_ ?_ (fun hg => ?_) ?_); exact rfl)
    | ((with_reducible refine val_step ?_ ?_); with_reducible exact rfl; with_reducible exact rfl)
    | ((with_reducible refine same_step ?_ ?_); with_reducible exact rfl)
    | ((with_reducible refine chk_step ?_ ?_); kernel_rfl)
    | ((with_reducible refine ret_step ?_); refine ⟨[], rfl, ?_, trivial⟩; conv => whnf)
    | ((with_reducible refine ret_need ?_ ?_); rotate_left; refine ⟨[], rfl, ?_, trivial⟩; conv => whnf)
    | ((with_reducible refine pan_need ?_ ?_); rotate_left; refine ⟨[], rfl, ?_, trivial⟩; conv => whnf)
    | ((with_reducible refine pan_step ?_); refine ⟨[], rfl, ?_, trivial⟩; conv => whnf)
    | (with_reducible refine And.intro ?_ ?_)
    | ((with_reducible refine gs_eq ?_ ?_ ?_); exact rfl; exact rfl; (first | with_reducible exact map_app | with_reducible exact map_app3 | with_reducible exact map_app4 | exact map_snoc | exact rfl | skip))
    | ((with_reducible refine tok_eq ?_ ?_); exact rfl; (first | with_reducible exact map_app | with_reducible exact map_app3 | with_reducible exact map_app4 | exact map_snoc | exact rfl | skip))
    | ((with_reducible refine ren_guard ?_); refine gs_ren ?_ ?_ ?_; exact rfl; exact rfl; (first | exact rfl | skip))
    | exact @rfl AV _
    | exact @rfl Block _
    | exact @rfl (List AV) _
    | exact ble_le rfl
    | fail)
  all_goals (try simp only [Bool.cond_true_left, Bool.cond_false_right, Bool.cond_false_left, Bool.cond_true_right, Bool.not_eq_true', Bool.not_eq_false', bne, Ex.css_len, List.length_map, Int.toNat_zero] at *)
  all_goals first
    | omega
    | ((refine congrArg (fun z => D.val (Value.bool z)) ?_; simp [e3]; done))
    | (exfalso; simp_all; done)
    | skip
set_option maxHeartbeats 400000 in
theorem names_err (s : Str) (a : Nat) (hE : decide ((s.length : Int) > 1000) = false) (hr : Rd [⟨1, s, 0, 0⟩]) (b1 : decide ((s.length : Int) > 65536) = false) (e1 : lexR pStep s 0 = .error a) (e2 : textM [⟨1, s, 0, 0⟩] = .tuple [.str [], .i 30]) (e3 : lname s = false) : PCall Tryd.prog 10 [.str s] (.ret (.b true)) := by
  refine pcall_of_wc tok hmix ⟨[], []⟩ Tryd.func10 rfl (by kernel_rfl) (by kernel_rfl) (by kernel_rfl) fun hf => ?_
  clear hf
  repeat' ((try (conv => whnf)) <;> first
    | ((with_reducible refine guard_no ?_ ?_ ?_); exact rfl; first | exact rfl | (simp [wantB]; done) | (simp [wantB]; omega))
    | with_reducible exact trivial
    | with_reducible exact rfl
    | with_reducible refine BrI.tt ?_
    | with_reducible refine BrI.ff ?_
    | with_reducible refine BrI.intro (fun h => ?_) (fun h => ?_)
    | (exact Bool.noConfusion (hE.symm.trans h))
    | ((with_reducible refine idx_lit' ?_ ?_ ?_ ?_); exact rfl; exact rfl; exact rfl)
    | ((with_reducible refine gi_step ?_ ?_); kernel_rfl)
    | ((with_reducible refine call_step ?_ ?_ ?_); rotate_left; (first | exact sane_call | exact text_call _ (by assumption) (by assumption) | exact lname_call _ | exact sane_call | exact lex_is b1 e1 | exact text_is hr e2 | exact lname_is e3 | fail))
    | (with_reducible refine ChooseI.l _ ?_)
    | ((with_reducible refine nilgs_step ?_ ?_ ?_ ?_ ?_ ?_) <;> exact rfl)
    | ((with_reducible refine tok0_step ?_ ?_ ?_ ?_) <;> exact rfl)
    | ((with_reducible refine kok_step ?_ ?_ ?_); exact rfl; exact rfl)
    | ((with_reducible refine idx_step ?_ ?_ ?_ ?_ ?_); exact rfl; exact rfl; rotate_left; (first | with_reducible exact idx_get ‹_› | fail))
    | ((with_reducible refine len_step ?_ ?_); exact rfl)
    | ((with_reducible refine app_step' ?_ ?_ ?_ ?_ ?_ ?_ ?_); exact rfl; exact rfl; exact rfl; exact rfl)
    | ((with_reducible refine nil_step' ?_ ?_ ?_ ?_); exact rfl; exact rfl)
    | ((with_reducible refine guard_step ?_ ?_ (fun hg => ?_) ?_); exact rfl)
    | ((with_reducible refine val_step ?_ ?_); with_reducible exact rfl; with_reducible exact rfl)
    | ((with_reducible refine same_step ?_ ?_); with_reducible exact rfl)
    | ((with_reducible refine chk_step ?_ ?_); kernel_rfl)
    | ((with_reducible refine ret_step ?_); refine ⟨[], rfl, ?_, trivial⟩; conv => whnf)
    | ((with_reducible refine ret_need ?_ ?_); rotate_left; refine ⟨[], rfl, ?_, trivial⟩; conv => whnf)
    | ((with_reducible refine pan_need ?_ ?_); rotate_left; refine ⟨[], rfl, ?_, trivial⟩; conv => whnf)
    | ((with_reducible refine pan_step ?_); refine ⟨[], rfl, ?_, trivial⟩; conv => whnf)
    | (with_reducible refine And.intro ?_ ?_)
    | ((with_reducible refine gs_eq ?_ ?_ ?_); exact rfl; exact rfl; (first | with_reducible exact map_app | with_reducible exact map_app3 | with_reducible exact map_app4 | exact map_snoc | exact rfl | skip))
    | ((with_reducible refine tok_eq ?_ ?_); exact rfl; (first | with_reducible exact map_app | with_reducible exact map_app3 | with_reducible exact map_app4 | exact map_snoc | exact rfl | skip))
    | ((with_reducible refine ren_guard ?_); refine gs_ren ?_ ?_ ?_; exact rfl; exact rfl; (first | exact rfl | skip))
    | exact @rfl AV _
    | exact @rfl Block _
    | exact @rfl (List AV) _
    | exact ble_le rfl
    | fail)
  all_goals (try simp only [Bool.cond_true_left, Bool.cond_false_right, Bool.cond_false_left, Bool.cond_true_right, Bool.not_eq_true', Bool.not_eq_false', bne, Ex.css_len, List.length_map, Int.toNat_zero] at *)
  all_goals first
    | omega
    | ((refine congrArg (fun z => D.val (Value.bool z)) ?_; simp [e3]; done))
    | (exfalso; simp_all; done)
    | skip
set_option maxHeartbeats 400000 in
theorem names_nil (s : Str) (hE : decide ((s.length : Int) > 1000) = false) (hr : Rd [⟨1, s, 0, 0⟩]) (b1 : decide ((s.length : Int) > 65536) = false) (e1 : lexR pStep s 0 = .ok []) (e2 : textM [⟨1, s, 0, 0⟩] = .tuple [.str [], .i 30]) (e3 : lname s = false) : PCall Tryd.prog 10 [.str s] (.ret (.b true)) := by
  refine pcall_of_wc tok hmix ⟨[], []⟩ Tryd.func10 rfl (by kernel_rfl) (by kernel_rfl) (by kernel_rfl) fun hf => ?_
  clear hf
  repeat' ((try (conv => whnf)) <;> first
    | ((with_reducible refine guard_no ?_ ?_ ?_); exact rfl; first | exact rfl | (simp [wantB]; done) | (simp [wantB]; omega))
    | with_reducible exact trivial
    | with_reducible exact rfl
    | with_reducible refine BrI.tt ?_
    | with_reducible refine BrI.ff ?_
    | with_reducible refine BrI.intro (fun h => ?_) (fun h => ?_)
    | (exact Bool.noConfusion (hE.symm.trans h))
    | ((with_reducible refine idx_lit' ?_ ?_ ?_ ?_); exact rfl; exact rfl; exact rfl)
    | ((with_reducible refine gi_step ?_ ?_); kernel_rfl)
    | ((with_reducible refine call_step ?_ ?_ ?_); rotate_left; (first | exact sane_call | exact text_call _ (by assumption) (by assumption) | exact lname_call _ | exact sane_call | exact lex_is b1 e1 | exact text_is hr e2 | exact lname_is e3 | fail))
    | (with_reducible refine ChooseI.l _ ?_)
    | ((with_reducible refine nilgs_step ?_ ?_ ?_ ?_ ?_ ?_) <;> exact rfl)
    | ((with_reducible refine tok0_step ?_ ?_ ?_ ?_) <;> exact rfl)
    | ((with_reducible refine kok_step ?_ ?_ ?_); exact rfl; exact rfl)
    | ((with_reducible refine idx_step ?_ ?_ ?_ ?_ ?_); exact rfl; exact rfl; rotate_left; (first | with_reducible exact idx_get ‹_› | fail))
    | ((with_reducible refine len_step ?_ ?_); exact rfl)
    | ((with_reducible refine app_step' ?_ ?_ ?_ ?_ ?_ ?_ ?_); exact rfl; exact rfl; exact rfl; exact rfl)
    | ((with_reducible refine nil_step' ?_ ?_ ?_ ?_); exact rfl; exact rfl)
    | ((with_reducible refine guard_step ?_ ?_ (fun hg => ?_) ?_); exact rfl)
    | ((with_reducible refine val_step ?_ ?_); with_reducible exact rfl; with_reducible exact rfl)
    | ((with_reducible refine same_step ?_ ?_); with_reducible exact rfl)
    | ((with_reducible refine chk_step ?_ ?_); kernel_rfl)
    | ((with_reducible refine ret_step ?_); refine ⟨[], rfl, ?_, trivial⟩; conv => whnf)
    | ((with_reducible refine ret_need ?_ ?_); rotate_left; refine ⟨[], rfl, ?_, trivial⟩; conv => whnf)
    | ((with_reducible refine pan_need ?_ ?_); rotate_left; refine ⟨[], rfl, ?_, trivial⟩; conv => whnf)
    | ((with_reducible refine pan_step ?_); refine ⟨[], rfl, ?_, trivial⟩; conv => whnf)
    | (with_reducible refine And.intro ?_ ?_)
    | ((with_reducible refine gs_eq ?_ ?_ ?_); exact rfl; exact rfl; (first | with_reducible exact map_app | with_reducible exact map_app3 | with_reducible exact map_app4 | exact map_snoc | exact rfl | skip))
    | ((with_reducible refine tok_eq ?_ ?_); exact rfl; (first | with_reducible exact map_app | with_reducible exact map_app3 | with_reducible exact map_app4 | exact map_snoc | exact rfl | skip))
    | ((with_reducible refine ren_guard ?_); refine gs_ren ?_ ?_ ?_; exact rfl; exact rfl; (first | exact rfl | skip))
    | exact @rfl AV _
    | exact @rfl Block _
    | exact @rfl (List AV) _
    | exact ble_le rfl
    | fail)
  all_goals (try simp only [Bool.cond_true_left, Bool.cond_false_right, Bool.cond_false_left, Bool.cond_true_right, Bool.not_eq_true', Bool.not_eq_false', bne, Ex.css_len, List.length_map, Int.toNat_zero] at *)
  all_goals first
    | omega
    | ((refine congrArg (fun z => D.val (Value.bool z)) ?_; simp [e3]; done))
    | (exfalso; simp_all; done)
    | skip
set_option maxHeartbeats 400000 in
theorem names_one (s : Str) (t : Tk) (hE : decide ((s.length : Int) > 1000) = false) (hr : Rd [⟨1, s, 0, 0⟩]) (b1 : decide ((s.length : Int) > 65536) = false) (e1 : lexR pStep s 0 = .ok [t]) (e2 : textM [⟨1, s, 0, 0⟩] = .tuple [.str [], .i 30]) (e3 : lname s = false) (e4 : (t.kind == 1 && t.text == s) = false) : PCall Tryd.prog 10 [.str s] (.ret (.b true)) := by
  refine pcall_of_wc tok hmix ⟨[], []⟩ Tryd.func10 rfl (by kernel_rfl) (by kernel_rfl) (by kernel_rfl) fun hf => ?_
  clear hf
  repeat' ((try (conv => whnf)) <;> first
    | with_reducible exact trivial
    | with_reducible exact rfl
    | with_reducible refine BrI.tt ?_
    | with_reducible refine BrI.ff ?_
    | with_reducible refine BrI.intro (fun h => ?_) (fun h => ?_)
    | (exact Bool.noConfusion (hE.symm.trans h))
    | ((with_reducible refine idx_lit' ?_ ?_ ?_ ?_); exact rfl; exact rfl; exact rfl)
    | ((with_reducible refine gi_step ?_ ?_); kernel_rfl)
    | ((with_reducible refine call_step ?_ ?_ ?_); rotate_left; (first | exact sane_call | exact text_call _ (by assumption) (by assumption) | exact lname_call _ | exact sane_call | exact lex_is b1 e1 | exact text_is hr e2 | exact lname_is e3 | fail))
    | (with_reducible refine ChooseI.l _ ?_)
    | ((with_reducible refine nilgs_step ?_ ?_ ?_ ?_ ?_ ?_) <;> exact rfl)
    | ((with_reducible refine tok0_step ?_ ?_ ?_ ?_) <;> exact rfl)
    | ((with_reducible refine kok_step ?_ ?_ ?_); exact rfl; exact rfl)
    | ((with_reducible refine idx_step ?_ ?_ ?_ ?_ ?_); exact rfl; exact rfl; rotate_left; (first | with_reducible exact idx_get ‹_› | fail))
    | ((with_reducible refine len_step ?_ ?_); exact rfl)
    | ((with_reducible refine app_step' ?_ ?_ ?_ ?_ ?_ ?_ ?_); exact rfl; exact rfl; exact rfl; exact rfl)
    | ((with_reducible refine nil_step' ?_ ?_ ?_ ?_); exact rfl; exact rfl)
    | ((with_reducible refine guard_step ?_ ?_ (fun hg => ?_) ?_); exact rfl)
    | ((with_reducible refine val_step ?_ ?_); with_reducible exact rfl; with_reducible exact rfl)
    | ((with_reducible refine same_step ?_ ?_); with_reducible exact rfl)
    | ((with_reducible refine chk_step ?_ ?_); kernel_rfl)
    | ((with_reducible refine ret_step ?_); refine ⟨[], rfl, ?_, trivial⟩; conv => whnf)
    | ((with_reducible refine ret_need ?_ ?_); rotate_left; refine ⟨[], rfl, ?_, trivial⟩; conv => whnf)
    | ((with_reducible refine pan_need ?_ ?_); rotate_left; refine ⟨[], rfl, ?_, trivial⟩; conv => whnf)
    | ((with_reducible refine pan_step ?_); refine ⟨[], rfl, ?_, trivial⟩; conv => whnf)
    | (with_reducible refine And.intro ?_ ?_)
    | ((with_reducible refine gs_eq ?_ ?_ ?_); exact rfl; exact rfl; (first | with_reducible exact map_app | with_reducible exact map_app3 | with_reducible exact map_app4 | exact map_snoc | exact rfl | skip))
    | ((with_reducible refine tok_eq ?_ ?_); exact rfl; (first | with_reducible exact map_app | with_reducible exact map_app3 | with_reducible exact map_app4 | exact map_snoc | exact rfl | skip))
    | ((with_reducible refine ren_guard ?_); refine gs_ren ?_ ?_ ?_; exact rfl; exact rfl; (first | exact rfl | skip))
    | exact @rfl AV _
    | exact @rfl Block _
    | exact @rfl (List AV) _
    | exact ble_le rfl
    | fail)
  all_goals (try simp only [Bool.cond_true_left, Bool.cond_false_right, Bool.cond_false_left, Bool.cond_true_right, Bool.not_eq_true', Bool.not_eq_false', bne, Ex.css_len, List.length_map, Int.toNat_zero] at *)
  all_goals first
    | omega
    | ((refine congrArg (fun z => D.val (Value.bool z)) ?_; (try simp only [e3]); revert e4; cases (t.kind == 1) <;> cases (t.text == s) <;> intro e4 <;> first | (exact Bool.noConfusion e4) | (simp; done)))
    | (exfalso; simp_all; done)
    | skip
set_option maxHeartbeats 400000 in
theorem names_more (s : Str) (t u : Tk) (r : List Tk) (hE : decide ((s.length : Int) > 1000) = false) (hr : Rd [⟨1, s, 0, 0⟩]) (b1 : decide ((s.length : Int) > 65536) = false) (e1 : lexR pStep s 0 = .ok (t :: u :: r)) (e2 : textM [⟨1, s, 0, 0⟩] = .tuple [.str [], .i 30]) (e3 : lname s = false) : PCall Tryd.prog 10 [.str s] (.ret (.b true)) := by
  refine pcall_of_wc tok hmix ⟨[], []⟩ Tryd.func10 rfl (by kernel_rfl) (by kernel_rfl) (by kernel_rfl) fun hf => ?_
  clear hf
  repeat' ((try (conv => whnf)) <;> first
    | ((with_reducible refine guard_no ?_ ?_ ?_); exact rfl; first | exact rfl | (simp [wantB]; done) | (simp [wantB]; omega))
    | with_reducible exact trivial
    | with_reducible exact rfl
    | with_reducible refine BrI.tt ?_
    | with_reducible refine BrI.ff ?_
    | with_reducible refine BrI.intro (fun h => ?_) (fun h => ?_)
    | (exact Bool.noConfusion (hE.symm.trans h))
    | ((with_reducible refine idx_lit' ?_ ?_ ?_ ?_); exact rfl; exact rfl; exact rfl)
    | ((with_reducible refine gi_step ?_ ?_); kernel_rfl)
    | ((with_reducible refine call_step ?_ ?_ ?_); rotate_left; (first | exact sane_call | exact text_call _ (by assumption) (by assumption) | exact lname_call _ | exact sane_call | exact lex_is b1 e1 | exact text_is hr e2 | exact lname_is e3 | fail))
    | (with_reducible refine ChooseI.l _ ?_)
    | ((with_reducible refine nilgs_step ?_ ?_ ?_ ?_ ?_ ?_) <;> exact rfl)
    | ((with_reducible refine tok0_step ?_ ?_ ?_ ?_) <;> exact rfl)
    | ((with_reducible refine kok_step ?_ ?_ ?_); exact rfl; exact rfl)
    | ((with_reducible refine idx_step ?_ ?_ ?_ ?_ ?_); exact rfl; exact rfl; rotate_left; (first | with_reducible exact idx_get ‹_› | fail))
    | ((with_reducible refine len_step ?_ ?_); exact rfl)
    | ((with_reducible refine app_step' ?_ ?_ ?_ ?_ ?_ ?_ ?_); exact rfl; exact rfl; exact rfl; exact rfl)
    | ((with_reducible refine nil_step' ?_ ?_ ?_ ?_); exact rfl; exact rfl)
    | ((with_reducible refine guard_step ?_ ?_ (fun hg => ?_) ?_); exact rfl)
    | ((with_reducible refine val_step ?_ ?_); with_reducible exact rfl; with_reducible exact rfl)
    | ((with_reducible refine same_step ?_ ?_); with_reducible exact rfl)
    | ((with_reducible refine chk_step ?_ ?_); kernel_rfl)
    | ((with_reducible refine ret_step ?_); refine ⟨[], rfl, ?_, trivial⟩; conv => whnf)
    | ((with_reducible refine ret_need ?_ ?_); rotate_left; refine ⟨[], rfl, ?_, trivial⟩; conv => whnf)
    | ((with_reducible refine pan_need ?_ ?_); rotate_left; refine ⟨[], rfl, ?_, trivial⟩; conv => whnf)
    | ((with_reducible refine pan_step ?_); refine ⟨[], rfl, ?_, trivial⟩; conv => whnf)
    | (with_reducible refine And.intro ?_ ?_)
    | ((with_reducible refine gs_eq ?_ ?_ ?_); exact rfl; exact rfl; (first | with_reducible exact map_app | with_reducible exact map_app3 | with_reducible exact map_app4 | exact map_snoc | exact rfl | skip))
    | ((with_reducible refine tok_eq ?_ ?_); exact rfl; (first | with_reducible exact map_app | with_reducible exact map_app3 | with_reducible exact map_app4 | exact map_snoc | exact rfl | skip))
    | ((with_reducible refine ren_guard ?_); refine gs_ren ?_ ?_ ?_; exact rfl; exact rfl; (first | exact rfl | skip))
    | exact @rfl AV _
    | exact @rfl Block _
    | exact @rfl (List AV) _
    | exact ble_le rfl
    | fail)
  all_goals (try simp only [Bool.cond_true_left, Bool.cond_false_right, Bool.cond_false_left, Bool.cond_true_right, Bool.not_eq_true', Bool.not_eq_false', bne, Ex.css_len, List.length_map, Int.toNat_zero] at *)
  all_goals first
    | omega
    | ((refine congrArg (fun z => D.val (Value.bool z)) ?_; (try simp only [e3]); (try rw [(two_ne (t := t) (u := u) (r := r))]); simp [e3]; done))
    | (exfalso; simp_all; done)
    | skip
theorem names_law (s : Str) : PCall Tryd.prog 10 [.str s] (.ret (.b true)) := by
  cases hE : decide ((s.length : Int) > 1000) with
  | true => exact names_early s hE
  | false =>
    have hn := of_decide_eq_false hE
    have b1 : decide ((s.length : Int) > 65536) = false := nb (by omega)
    have hr := one_rd s (by omega)
    cases e3 : lname s with
    | true =>
      have hv : ([⟨1, s, 0, 0⟩] : List Tk).all valid = true := by simp [valid, e3]
      have e2 := text_ok hv
      rw [show Lib.join (([⟨1, s, 0, 0⟩] : List Tk).map word) [32] = s by simp [Lib.join_one, word]] at e2
      exact names_yes s hE hr b1 (name_one e3) e2 e3
    | false =>
      have e2 : textM [⟨1, s, 0, 0⟩] = .tuple [.str [], .i 30] := text_no (by simp [valid, e3])
      cases e1 : lexR pStep s 0 with
      | error a => exact names_err s a hE hr b1 e1 e2 e3
      | ok l =>
        obtain ⟨_, hw, _⟩ := rd_of (by omega) e1
        match l, e1, hw with
        | [], e1, _ => exact names_nil s hE hr b1 e1 e2 e3
        | [t], e1, hw =>
          refine names_one s t hE hr b1 e1 e2 e3 ?_
          have hw : valid t = true := by simpa using hw
          cases hk : t.kind == 1 with
          | false => rfl
          | true =>
            cases ht : t.text == s with
            | false => rfl
            | true =>
              have ht := eq_of_beq ht
              unfold valid at hw
              rw [hk, ht, e3] at hw; cases hw
        | t :: u :: r, e1, _ => exact names_more s t u r hE hr b1 e1 e2 e3
end Go.Proofs.YtanmpkhhmjfbnaaDoor

