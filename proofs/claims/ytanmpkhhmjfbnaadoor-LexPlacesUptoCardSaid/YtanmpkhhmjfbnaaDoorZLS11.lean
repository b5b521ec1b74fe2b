/- Contracts: the law LexBack. -/
import Derived.Test.YtanmpkhhmjfbnaaDoorZLS10
import Derived.Test.YtanmpkhhmjfbnaaDoorZLM
set_option linter.unusedSimpArgs false
set_option linter.unusedVariables false
namespace Go.Proofs.YtanmpkhhmjfbnaaDoor
open Go.Fw Go.Fw.Lx
set_option maxRecDepth 10000
set_option linter.unusedSectionVars false
variable [GlobInt]
def backE (l : List Tk) (src : Str) : Bool := bif !fewM l then true else decide ((src.length : Int) > 3000)
set_option maxHeartbeats 400000 in
theorem back_early (l : List Tk) (src : Str) (hl : Rd l) (hE : backE l src = true) : PCall Tryd.prog 5 [toks l, .str src] (.ret (.b true)) := by
  refine pcall_of_wc tok hmix ⟨[], []⟩ Tryd.func5 rfl (by kernel_rfl) (by kernel_rfl) (by kernel_rfl) fun hf => ?_
  clear hf
  repeat' ((try (conv => whnf)) <;> first
    | with_reducible exact trivial
    | with_reducible exact rfl
    | with_reducible refine BrI.tt ?_
    | with_reducible refine BrI.ff ?_
    | with_reducible refine BrI.intro (fun h => ?_) (fun h => ?_)
    | (exact Bool.noConfusion (hE.symm.trans h))
    | ((with_reducible refine call_step ?_ ?_ ?_); rotate_left; (first | exact sane_call | exact few_call _ (by assumption) | exact text_call _ (by assumption) (by assumption) | exact same_call _ _ | exact sane_call | exact few_is hl | fail))
    | (with_reducible refine ChooseI.l _ ?_)
    | ((with_reducible refine nilgs_step ?_ ?_ ?_ ?_ ?_ ?_) <;> exact rfl)
    | ((with_reducible refine tok0_step ?_ ?_ ?_ ?_) <;> exact rfl)
    | ((with_reducible refine kok_step ?_ ?_ ?_); exact rfl; exact rfl)
    | ((with_reducible refine idx_step ?_ ?_ ?_ ?_ ?_); exact rfl; exact rfl; rotate_left; (first | with_reducible exact idx_get ‹_› | fail))
    | ((with_reducible refine len_step ?_ ?_); exact rfl)
    | ((with_reducible refine app_step' ?_ ?_ ?_ ?_ ?_ ?_ ?_); exact rfl; exact rfl; exact rfl; exact rfl)
    | ((with_reducible refine nil_step' ?_ ?_ ?_ ?_); exact rfl; exact rfl)
    | ((with_reducible refine guard_step ?_ ?_ (fun hg => ?_) ?_); exact rfl)
    | ((with_reducible refine val_step ?_ ?_); with_reducible exact rfl; with_reducible exact rfl)
    | ((with_reducible refine same_step ?_ ?_); with_reducible exact rfl)
    | ((with_reducible refine chk_step ?_ ?_); kernel_rfl)
    | ((with_reducible refine ret_step ?_); refine ⟨[], rfl, ?_, trivial⟩; conv => whnf)
    | ((with_reducible refine ret_need ?_ ?_); rotate_left; refine ⟨[], rfl, ?_, trivial⟩; conv => whnf)
    | ((with_reducible refine pan_need ?_ ?_); rotate_left; refine ⟨[], rfl, ?_, trivial⟩; conv => whnf)
    | ((with_reducible refine pan_step ?_); refine ⟨[], rfl, ?_, trivial⟩; conv => whnf)
    | (with_reducible refine And.intro ?_ ?_)
    | ((with_reducible refine gs_eq ?_ ?_ ?_); exact rfl; exact rfl; (first | with_reducible exact map_app | with_reducible exact map_app3 | with_reducible exact map_app4 | exact map_snoc | exact rfl | skip))
    | ((with_reducible refine tok_eq ?_ ?_); exact rfl; (first | with_reducible exact map_app | with_reducible exact map_app3 | with_reducible exact map_app4 | exact map_snoc | exact rfl | skip))
    | ((with_reducible refine ren_guard ?_); refine gs_ren ?_ ?_ ?_; exact rfl; exact rfl; (first | exact rfl | skip))
    | exact @rfl AV _
    | exact @rfl Block _
    | exact @rfl (List AV) _
    | exact ble_le rfl
    | fail)
  all_goals (try simp only [Bool.cond_true_left, Bool.cond_false_right, Bool.cond_false_left, Bool.cond_true_right, Bool.not_eq_true', Bool.not_eq_false', bne, Ex.css_len, List.length_map, Int.toNat_zero] at *)
  all_goals first
    | omega
    | (rfl)
    | (exfalso; simp_all; done)
    | skip
set_option maxHeartbeats 400000 in
theorem back_oo (l : List Tk) (src s t : Str) (m x y : List Tk) (hl : Rd l) (hE : backE l src = false) (e1 : textM l = .tuple [.str s, .i 0]) (b1 : decide ((s.length : Int) > 65536) = false) (e2 : lexR pStep s 0 = .ok m) (e3 : sameM l m = true) (b2 : decide ((src.length : Int) > 65536) = false) (e4 : lexR pStep src 0 = .ok x) (hx : Rd x) (e5 : textM x = .tuple [.str t, .i 0]) (b3 : decide ((t.length : Int) > 65536) = false) (e6 : lexR pStep t 0 = .ok y) (e7 : sameM x y = true) : PCall Tryd.prog 5 [toks l, .str src] (.ret (.b true)) := by
  refine pcall_of_wc tok hmix ⟨[], []⟩ Tryd.func5 rfl (by kernel_rfl) (by kernel_rfl) (by kernel_rfl) fun hf => ?_
  clear hf
  repeat' ((try (conv => whnf)) <;> first
    | with_reducible exact trivial
    | with_reducible exact rfl
    | with_reducible refine BrI.tt ?_
    | with_reducible refine BrI.ff ?_
    | with_reducible refine BrI.intro (fun h => ?_) (fun h => ?_)
    | (exact Bool.noConfusion (hE.symm.trans h))
    | ((with_reducible refine call_step ?_ ?_ ?_); rotate_left; (first | exact sane_call | exact few_call _ (by assumption) | exact text_call _ (by assumption) (by assumption) | exact same_call _ _ | exact sane_call | exact few_is hl | exact text_is hl e1 | exact text_is hx e5 | exact lex_is b1 e2 | exact lex_is b2 e4 | exact lex_is b3 e6 | exact same_call l m | exact same_call x y | fail))
    | (with_reducible refine ChooseI.l _ ?_)
    | ((with_reducible refine nilgs_step ?_ ?_ ?_ ?_ ?_ ?_) <;> exact rfl)
    | ((with_reducible refine tok0_step ?_ ?_ ?_ ?_) <;> exact rfl)
    | ((with_reducible refine kok_step ?_ ?_ ?_); exact rfl; exact rfl)
    | ((with_reducible refine idx_step ?_ ?_ ?_ ?_ ?_); exact rfl; exact rfl; rotate_left; (first | with_reducible exact idx_get ‹_› | fail))
    | ((with_reducible refine len_step ?_ ?_); exact rfl)
    | ((with_reducible refine app_step' ?_ ?_ ?_ ?_ ?_ ?_ ?_); exact rfl; exact rfl; exact rfl; exact rfl)
    | ((with_reducible refine nil_step' ?_ ?_ ?_ ?_); exact rfl; exact rfl)
    | ((with_reducible refine guard_step ?_ ?_ (fun hg => ?_) ?_); exact rfl)
    | ((with_reducible refine val_step ?_ ?_); with_reducible exact rfl; with_reducible exact rfl)
    | ((with_reducible refine same_step ?_ ?_); with_reducible exact rfl)
    | ((with_reducible refine chk_step ?_ ?_); kernel_rfl)
    | ((with_reducible refine ret_step ?_); refine ⟨[], rfl, ?_, trivial⟩; conv => whnf)
    | ((with_reducible refine ret_need ?_ ?_); rotate_left; refine ⟨[], rfl, ?_, trivial⟩; conv => whnf)
    | ((with_reducible refine pan_need ?_ ?_); rotate_left; refine ⟨[], rfl, ?_, trivial⟩; conv => whnf)
    | ((with_reducible refine pan_step ?_); refine ⟨[], rfl, ?_, trivial⟩; conv => whnf)
    | (with_reducible refine And.intro ?_ ?_)
    | ((with_reducible refine gs_eq ?_ ?_ ?_); exact rfl; exact rfl; (first | with_reducible exact map_app | with_reducible exact map_app3 | with_reducible exact map_app4 | exact map_snoc | exact rfl | skip))
    | ((with_reducible refine tok_eq ?_ ?_); exact rfl; (first | with_reducible exact map_app | with_reducible exact map_app3 | with_reducible exact map_app4 | exact map_snoc | exact rfl | skip))
    | ((with_reducible refine ren_guard ?_); refine gs_ren ?_ ?_ ?_; exact rfl; exact rfl; (first | exact rfl | skip))
    | exact @rfl AV _
    | exact @rfl Block _
    | exact @rfl (List AV) _
    | exact ble_le rfl
    | fail)
  all_goals (try simp only [Bool.cond_true_left, Bool.cond_false_right, Bool.cond_false_left, Bool.cond_true_right, Bool.not_eq_true', Bool.not_eq_false', bne, Ex.css_len, List.length_map, Int.toNat_zero] at *)
  all_goals first
    | omega
    | ((exact Bool.noConfusion h))
    | ((refine congrArg (fun z => D.val (Value.bool z)) ?_; rw [e7]; rfl))
    | (rfl)
    | (exfalso; simp_all; done)
    | skip
set_option maxHeartbeats 400000 in
theorem back_oe (l : List Tk) (src s : Str) (m : List Tk) (a : Nat) (hl : Rd l) (hE : backE l src = false) (e1 : textM l = .tuple [.str s, .i 0]) (b1 : decide ((s.length : Int) > 65536) = false) (e2 : lexR pStep s 0 = .ok m) (e3 : sameM l m = true) (b2 : decide ((src.length : Int) > 65536) = false) (e4 : lexR pStep src 0 = .error a) : PCall Tryd.prog 5 [toks l, .str src] (.ret (.b true)) := by
  refine pcall_of_wc tok hmix ⟨[], []⟩ Tryd.func5 rfl (by kernel_rfl) (by kernel_rfl) (by kernel_rfl) fun hf => ?_
  clear hf
  repeat' ((try (conv => whnf)) <;> first
    | with_reducible exact trivial
    | with_reducible exact rfl
    | with_reducible refine BrI.tt ?_
    | with_reducible refine BrI.ff ?_
    | with_reducible refine BrI.intro (fun h => ?_) (fun h => ?_)
    | (exact Bool.noConfusion (hE.symm.trans h))
    | ((with_reducible refine call_step ?_ ?_ ?_); rotate_left; (first | exact sane_call | exact few_call _ (by assumption) | exact text_call _ (by assumption) (by assumption) | exact same_call _ _ | exact sane_call | exact few_is hl | exact text_is hl e1 | exact lex_is b1 e2 | exact lex_is b2 e4 | exact same_call l m | fail))
    | (with_reducible refine ChooseI.l _ ?_)
    | ((with_reducible refine nilgs_step ?_ ?_ ?_ ?_ ?_ ?_) <;> exact rfl)
    | ((with_reducible refine tok0_step ?_ ?_ ?_ ?_) <;> exact rfl)
    | ((with_reducible refine kok_step ?_ ?_ ?_); exact rfl; exact rfl)
    | ((with_reducible refine idx_step ?_ ?_ ?_ ?_ ?_); exact rfl; exact rfl; rotate_left; (first | with_reducible exact idx_get ‹_› | fail))
    | ((with_reducible refine len_step ?_ ?_); exact rfl)
    | ((with_reducible refine app_step' ?_ ?_ ?_ ?_ ?_ ?_ ?_); exact rfl; exact rfl; exact rfl; exact rfl)
    | ((with_reducible refine nil_step' ?_ ?_ ?_ ?_); exact rfl; exact rfl)
    | ((with_reducible refine guard_step ?_ ?_ (fun hg => ?_) ?_); exact rfl)
    | ((with_reducible refine val_step ?_ ?_); with_reducible exact rfl; with_reducible exact rfl)
    | ((with_reducible refine same_step ?_ ?_); with_reducible exact rfl)
    | ((with_reducible refine chk_step ?_ ?_); kernel_rfl)
    | ((with_reducible refine ret_step ?_); refine ⟨[], rfl, ?_, trivial⟩; conv => whnf)
    | ((with_reducible refine ret_need ?_ ?_); rotate_left; refine ⟨[], rfl, ?_, trivial⟩; conv => whnf)
    | ((with_reducible refine pan_need ?_ ?_); rotate_left; refine ⟨[], rfl, ?_, trivial⟩; conv => whnf)
    | ((with_reducible refine pan_step ?_); refine ⟨[], rfl, ?_, trivial⟩; conv => whnf)
    | (with_reducible refine And.intro ?_ ?_)
    | ((with_reducible refine gs_eq ?_ ?_ ?_); exact rfl; exact rfl; (first | with_reducible exact map_app | with_reducible exact map_app3 | with_reducible exact map_app4 | exact map_snoc | exact rfl | skip))
    | ((with_reducible refine tok_eq ?_ ?_); exact rfl; (first | with_reducible exact map_app | with_reducible exact map_app3 | with_reducible exact map_app4 | exact map_snoc | exact rfl | skip))
    | ((with_reducible refine ren_guard ?_); refine gs_ren ?_ ?_ ?_; exact rfl; exact rfl; (first | exact rfl | skip))
    | exact @rfl AV _
    | exact @rfl Block _
    | exact @rfl (List AV) _
    | exact ble_le rfl
    | fail)
  all_goals (try simp only [Bool.cond_true_left, Bool.cond_false_right, Bool.cond_false_left, Bool.cond_true_right, Bool.not_eq_true', Bool.not_eq_false', bne, Ex.css_len, List.length_map, Int.toNat_zero] at *)
  all_goals first
    | omega
    | (rfl)
    | (exfalso; simp_all; done)
    | skip
set_option maxHeartbeats 400000 in
theorem back_eo (l : List Tk) (src t : Str) (x y : List Tk) (hl : Rd l) (hE : backE l src = false) (e1 : textM l = .tuple [.str [], .i 30]) (b2 : decide ((src.length : Int) > 65536) = false) (e4 : lexR pStep src 0 = .ok x) (hx : Rd x) (e5 : textM x = .tuple [.str t, .i 0]) (b3 : decide ((t.length : Int) > 65536) = false) (e6 : lexR pStep t 0 = .ok y) (e7 : sameM x y = true) : PCall Tryd.prog 5 [toks l, .str src] (.ret (.b true)) := by
  refine pcall_of_wc tok hmix ⟨[], []⟩ Tryd.func5 rfl (by kernel_rfl) (by kernel_rfl) (by kernel_rfl) fun hf => ?_
  clear hf
  repeat' ((try (conv => whnf)) <;> first
    | with_reducible exact trivial
    | with_reducible exact rfl
    | with_reducible refine BrI.tt ?_
    | with_reducible refine BrI.ff ?_
    | with_reducible refine BrI.intro (fun h => ?_) (fun h => ?_)
    | (exact Bool.noConfusion (hE.symm.trans h))
    | ((with_reducible refine call_step ?_ ?_ ?_); rotate_left; (first | exact sane_call | exact few_call _ (by assumption) | exact text_call _ (by assumption) (by assumption) | exact same_call _ _ | exact sane_call | exact few_is hl | exact text_is hl e1 | exact text_is hx e5 | exact lex_is b2 e4 | exact lex_is b3 e6 | exact same_call x y | fail))
    | (with_reducible refine ChooseI.l _ ?_)
    | ((with_reducible refine nilgs_step ?_ ?_ ?_ ?_ ?_ ?_) <;> exact rfl)
    | ((with_reducible refine tok0_step ?_ ?_ ?_ ?_) <;> exact rfl)
    | ((with_reducible refine kok_step ?_ ?_ ?_); exact rfl; exact rfl)
    | ((with_reducible refine idx_step ?_ ?_ ?_ ?_ ?_); exact rfl; exact rfl; rotate_left; (first | with_reducible exact idx_get ‹_› | fail))
    | ((with_reducible refine len_step ?_ ?_); exact rfl)
    | ((with_reducible refine app_step' ?_ ?_ ?_ ?_ ?_ ?_ ?_); exact rfl; exact rfl; exact rfl; exact rfl)
    | ((with_reducible refine nil_step' ?_ ?_ ?_ ?_); exact rfl; exact rfl)
    | ((with_reducible refine guard_step ?_ ?_ (fun hg => ?_) ?_); exact rfl)
    | ((with_reducible refine val_step ?_ ?_); with_reducible exact rfl; with_reducible exact rfl)
    | ((with_reducible refine same_step ?_ ?_); with_reducible exact rfl)
    | ((with_reducible refine chk_step ?_ ?_); kernel_rfl)
    | ((with_reducible refine ret_step ?_); refine ⟨[], rfl, ?_, trivial⟩; conv => whnf)
    | ((with_reducible refine ret_need ?_ ?_); rotate_left; refine ⟨[], rfl, ?_, trivial⟩; conv => whnf)
    | ((with_reducible refine pan_need ?_ ?_); rotate_left; refine ⟨[], rfl, ?_, trivial⟩; conv => whnf)
    | ((with_reducible refine pan_step ?_); refine ⟨[], rfl, ?_, trivial⟩; conv => whnf)
    | (with_reducible refine And.intro ?_ ?_)
    | ((with_reducible refine gs_eq ?_ ?_ ?_); exact rfl; exact rfl; (first | with_reducible exact map_app | with_reducible exact map_app3 | with_reducible exact map_app4 | exact map_snoc | exact rfl | skip))
    | ((with_reducible refine tok_eq ?_ ?_); exact rfl; (first | with_reducible exact map_app | with_reducible exact map_app3 | with_reducible exact map_app4 | exact map_snoc | exact rfl | skip))
    | ((with_reducible refine ren_guard ?_); refine gs_ren ?_ ?_ ?_; exact rfl; exact rfl; (first | exact rfl | skip))
    | exact @rfl AV _
    | exact @rfl Block _
    | exact @rfl (List AV) _
    | exact ble_le rfl
    | fail)
  all_goals (try simp only [Bool.cond_true_left, Bool.cond_false_right, Bool.cond_false_left, Bool.cond_true_right, Bool.not_eq_true', Bool.not_eq_false', bne, Ex.css_len, List.length_map, Int.toNat_zero] at *)
  all_goals first
    | omega
    | ((exact Bool.noConfusion h))
    | ((refine congrArg (fun z => D.val (Value.bool z)) ?_; rw [e7]; rfl))
    | (exfalso; simp_all; done)
    | skip
set_option maxHeartbeats 400000 in
theorem back_ee (l : List Tk) (src : Str) (a : Nat) (hl : Rd l) (hE : backE l src = false) (e1 : textM l = .tuple [.str [], .i 30]) (b2 : decide ((src.length : Int) > 65536) = false) (e4 : lexR pStep src 0 = .error a) : PCall Tryd.prog 5 [toks l, .str src] (.ret (.b true)) := by
  refine pcall_of_wc tok hmix ⟨[], []⟩ Tryd.func5 rfl (by kernel_rfl) (by kernel_rfl) (by kernel_rfl) fun hf => ?_
  clear hf
  repeat' ((try (conv => whnf)) <;> first
    | with_reducible exact trivial
    | with_reducible exact rfl
    | with_reducible refine BrI.tt ?_
    | with_reducible refine BrI.ff ?_
    | with_reducible refine BrI.intro (fun h => ?_) (fun h => ?_)
    | (exact Bool.noConfusion (hE.symm.trans h))
    | ((with_reducible refine call_step ?_ ?_ ?_); rotate_left; (first | exact sane_call | exact few_call _ (by assumption) | exact text_call _ (by assumption) (by assumption) | exact same_call _ _ | exact sane_call | exact few_is hl | exact text_is hl e1 | exact lex_is b2 e4 | fail))
    | (with_reducible refine ChooseI.l _ ?_)
    | ((with_reducible refine nilgs_step ?_ ?_ ?_ ?_ ?_ ?_) <;> exact rfl)
    | ((with_reducible refine tok0_step ?_ ?_ ?_ ?_) <;> exact rfl)
    | ((with_reducible refine kok_step ?_ ?_ ?_); exact rfl; exact rfl)
    | ((with_reducible refine idx_step ?_ ?_ ?_ ?_ ?_); exact rfl; exact rfl; rotate_left; (first | with_reducible exact idx_get ‹_› | fail))
    | ((with_reducible refine len_step ?_ ?_); exact rfl)
    | ((with_reducible refine app_step' ?_ ?_ ?_ ?_ ?_ ?_ ?_); exact rfl; exact rfl; exact rfl; exact rfl)
    | ((with_reducible refine nil_step' ?_ ?_ ?_ ?_); exact rfl; exact rfl)
    | ((with_reducible refine guard_step ?_ ?_ (fun hg => ?_) ?_); exact rfl)
    | ((with_reducible refine val_step ?_ ?_); with_reducible exact rfl; with_reducible exact rfl)
    | ((with_reducible refine same_step ?_ ?_); with_reducible exact rfl)
    | ((with_reducible refine chk_step ?_ ?_); kernel_rfl)
    | ((with_reducible refine ret_step ?_); refine ⟨[], rfl, ?_, trivial⟩; conv => whnf)
    | ((with_reducible refine ret_need ?_ ?_); rotate_left; refine ⟨[], rfl, ?_, trivial⟩; conv => whnf)
    | ((with_reducible refine pan_need ?_ ?_); rotate_left; refine ⟨[], rfl, ?_, trivial⟩; conv => whnf)
    | ((with_reducible refine pan_step ?_); refine ⟨[], rfl, ?_, trivial⟩; conv => whnf)
    | (with_reducible refine And.intro ?_ ?_)
    | ((with_reducible refine gs_eq ?_ ?_ ?_); exact rfl; exact rfl; (first | with_reducible exact map_app | with_reducible exact map_app3 | with_reducible exact map_app4 | exact map_snoc | exact rfl | skip))
    | ((with_reducible refine tok_eq ?_ ?_); exact rfl; (first | with_reducible exact map_app | with_reducible exact map_app3 | with_reducible exact map_app4 | exact map_snoc | exact rfl | skip))
    | ((with_reducible refine ren_guard ?_); refine gs_ren ?_ ?_ ?_; exact rfl; exact rfl; (first | exact rfl | skip))
    | exact @rfl AV _
    | exact @rfl Block _
    | exact @rfl (List AV) _
    | exact ble_le rfl
    | fail)
  all_goals (try simp only [Bool.cond_true_left, Bool.cond_false_right, Bool.cond_false_left, Bool.cond_true_right, Bool.not_eq_true', Bool.not_eq_false', bne, Ex.css_len, List.length_map, Int.toNat_zero] at *)
  all_goals first
    | omega
    | (rfl)
    | (exfalso; simp_all; done)
    | skip
theorem back_law (l : List Tk) (src : Str) (hl : Rd l) : PCall Tryd.prog 5 [toks l, .str src] (.ret (.b true)) := by
  cases hE : backE l src with
  | true => exact back_early l src hl hE
  | false =>
    have hE2 := hE
    unfold backE at hE2
    cases hf : fewM l with
    | false => rw [hf] at hE2; cases hE2
    | true =>
      rw [hf] at hE2
      have hn := of_decide_eq_false (p := (src.length : Int) > 3000) hE2
      have b2 : decide ((src.length : Int) > 65536) = false := nb (by omega)
      cases hR : lexR pStep src 0 with
      | error a =>
        cases hv : l.all valid with
        | true =>
          obtain ⟨m, e2, e3⟩ := back_ok hv
          exact back_oe l src _ m a hl hE (text_ok hv) (few_join hl hf) e2 e3 b2 hR
        | false => exact back_ee l src a hl hE (text_no hv) b2 hR
      | ok x =>
        obtain ⟨hx, hw, hb⟩ := rd_of (by omega) hR
        obtain ⟨y, e6, e7⟩ := back_ok hw
        have b3 : decide (((Lib.join (x.map word) [32]).length : Int) > 65536) = false := nb (by omega)
        cases hv : l.all valid with
        | true =>
          obtain ⟨m, e2, e3⟩ := back_ok hv
          exact back_oo l src _ _ m x y hl hE (text_ok hv) (few_join hl hf) e2 e3 b2 hR hx (text_ok hw) b3 e6 e7
        | false => exact back_eo l src _ x y hl hE (text_no hv) b2 hR hx (text_ok hw) b3 e6 e7
end Go.Proofs.YtanmpkhhmjfbnaaDoor

