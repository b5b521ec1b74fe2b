/- Contracts: the law LexJoined. -/
import Derived.Test.YtanmpkhhmjfbnaaDoorZLS12
import Derived.Test.YtanmpkhhmjfbnaaDoorZLD15
set_option linter.unusedSimpArgs false
set_option linter.unusedVariables false
namespace Go.Proofs.YtanmpkhhmjfbnaaDoor
open Go.Fw Go.Fw.Lx
set_option maxRecDepth 10000
set_option linter.unusedSectionVars false
variable [GlobInt]
def joinE (a b : Str) : Bool := decide (IntKind.i64.wrap ((a.length : Int) + (b.length : Int)) > 3000)
set_option maxHeartbeats 400000 in
theorem joined_early (a b : Str) (hE : joinE a b = true) : PCall Tryd.prog 7 [.str a, .str b] (.ret (.b true)) := by
  refine pcall_of_wc tok hmix ⟨[], []⟩ Tryd.func7 rfl (by kernel_rfl) (by kernel_rfl) (by kernel_rfl) fun hf => ?_
  clear hf
  repeat' ((try (conv => whnf)) <;> first
    | with_reducible exact trivial
    | with_reducible exact rfl
    | with_reducible refine BrI.tt ?_
    | with_reducible refine BrI.ff ?_
    | with_reducible refine BrI.intro (fun h => ?_) (fun h => ?_)
    | (exact Bool.noConfusion (hE.symm.trans h))
    | ((with_reducible refine call_step ?_ ?_ ?_); rotate_left; (first | exact sane_call | exact equal_call _ _ | exact sane_call | fail))
    | (with_reducible refine ChooseI.l _ ?_)
    | ((with_reducible refine nilgs_step ?_ ?_ ?_ ?_ ?_ ?_) <;> exact rfl)
    | ((with_reducible refine tok0_step ?_ ?_ ?_ ?_) <;> exact rfl)
    | ((with_reducible refine kok_step ?_ ?_ ?_); exact rfl; exact rfl)
    | ((with_reducible refine idx_step ?_ ?_ ?_ ?_ ?_); exact rfl; exact rfl; rotate_left; (first | with_reducible exact idx_get ‹_› | fail))
    | ((with_reducible refine len_step ?_ ?_); exact rfl)
    | ((with_reducible refine app_step' ?_ ?_ ?_ ?_ ?_ ?_ ?_); exact rfl; exact rfl; exact rfl; exact rfl)
    | ((with_reducible refine nil_step' ?_ ?_ ?_ ?_); exact rfl; exact rfl)
    | ((with_reducible refine guard_step ?_ ?_ (fun hg => ?_) ?_); exact rfl)
    | ((with_reducible refine val_step ?_ ?_); with_reducible exact rfl; with_reducible exact rfl)
    | ((with_reducible refine same_step ?_ ?_); with_reducible exact rfl)
    | ((with_reducible refine chk_step ?_ ?_); kernel_rfl)
    | ((with_reducible refine ret_step ?_); refine ⟨[], rfl, ?_, trivial⟩; conv => whnf)
    | ((with_reducible refine ret_need ?_ ?_); rotate_left; refine ⟨[], rfl, ?_, trivial⟩; conv => whnf)
    | ((with_reducible refine pan_need ?_ ?_); rotate_left; refine ⟨[], rfl, ?_, trivial⟩; conv => whnf)
    | ((with_reducible refine pan_step ?_); refine ⟨[], rfl, ?_, trivial⟩; conv => whnf)
    | (with_reducible refine And.intro ?_ ?_)
    | ((with_reducible refine gs_eq ?_ ?_ ?_); exact rfl; exact rfl; (first | with_reducible exact map_app | with_reducible exact map_app3 | with_reducible exact map_app4 | exact map_snoc | exact rfl | skip))
    | ((with_reducible refine tok_eq ?_ ?_); exact rfl; (first | with_reducible exact map_app | with_reducible exact map_app3 | with_reducible exact map_app4 | exact map_snoc | exact rfl | skip))
    | ((with_reducible refine ren_guard ?_); refine gs_ren ?_ ?_ ?_; exact rfl; exact rfl; (first | exact rfl | skip))
    | exact @rfl AV _
    | exact @rfl Block _
    | exact @rfl (List AV) _
    | exact ble_le rfl
    | fail)
  all_goals (try simp only [Bool.cond_true_left, Bool.cond_false_right, Bool.cond_false_left, Bool.cond_true_right, Bool.not_eq_true', Bool.not_eq_false', bne, Ex.css_len, List.length_map, Int.toNat_zero] at *)
  all_goals first
    | omega
    | (rfl)
    | (exfalso; simp_all; done)
    | skip
set_option maxHeartbeats 400000 in
theorem joined_eo (a b : Str) (i : Nat) (y : List Tk) (ha : a.length ≤ 1048576) (hb : b.length ≤ 1048576) (hE : joinE a b = false) (b1 : decide ((a.length : Int) > 65536) = false) (b2 : decide ((b.length : Int) > 65536) = false) (b3 : decide (((a ++ [10] ++ b).length : Int) > 65536) = false) (e1 : lexR pStep a 0 = .error i) (e2 : lexR pStep b 0 = .ok y) (e3 : lexR pStep (a ++ [10] ++ b) 0 = .error i) : PCall Tryd.prog 7 [.str a, .str b] (.ret (.b true)) := by
  refine pcall_of_wc tok hmix ⟨[], []⟩ Tryd.func7 rfl (by kernel_rfl) (by kernel_rfl) (by kernel_rfl) fun hf => ?_
  clear hf
  repeat' ((try (conv => whnf)) <;> first
    | with_reducible exact trivial
    | with_reducible exact rfl
    | with_reducible refine BrI.tt ?_
    | with_reducible refine BrI.ff ?_
    | with_reducible refine BrI.intro (fun h => ?_) (fun h => ?_)
    | (exact Bool.noConfusion (hE.symm.trans h))
    | ((with_reducible refine call_step ?_ ?_ ?_); rotate_left; (first | exact sane_call | exact equal_call _ _ | exact sane_call | exact lex_is b1 e1 | exact lex_is b2 e2 | exact lex_is b3 e3 | fail))
    | (with_reducible refine ChooseI.l _ ?_)
    | ((with_reducible refine nilgs_step ?_ ?_ ?_ ?_ ?_ ?_) <;> exact rfl)
    | ((with_reducible refine tok0_step ?_ ?_ ?_ ?_) <;> exact rfl)
    | ((with_reducible refine kok_step ?_ ?_ ?_); exact rfl; exact rfl)
    | ((with_reducible refine idx_step ?_ ?_ ?_ ?_ ?_); exact rfl; exact rfl; rotate_left; (first | with_reducible exact idx_get ‹_› | fail))
    | ((with_reducible refine len_step ?_ ?_); exact rfl)
    | ((with_reducible refine app_step' ?_ ?_ ?_ ?_ ?_ ?_ ?_); exact rfl; exact rfl; exact rfl; exact rfl)
    | ((with_reducible refine nil_step' ?_ ?_ ?_ ?_); exact rfl; exact rfl)
    | ((with_reducible refine guard_step ?_ ?_ (fun hg => ?_) ?_); exact rfl)
    | ((with_reducible refine val_step ?_ ?_); with_reducible exact rfl; with_reducible exact rfl)
    | ((with_reducible refine same_step ?_ ?_); with_reducible exact rfl)
    | ((with_reducible refine chk_step ?_ ?_); kernel_rfl)
    | ((with_reducible refine ret_step ?_); refine ⟨[], rfl, ?_, trivial⟩; conv => whnf)
    | ((with_reducible refine ret_need ?_ ?_); rotate_left; refine ⟨[], rfl, ?_, trivial⟩; conv => whnf)
    | ((with_reducible refine pan_need ?_ ?_); rotate_left; refine ⟨[], rfl, ?_, trivial⟩; conv => whnf)
    | ((with_reducible refine pan_step ?_); refine ⟨[], rfl, ?_, trivial⟩; conv => whnf)
    | (with_reducible refine And.intro ?_ ?_)
    | ((with_reducible refine gs_eq ?_ ?_ ?_); exact rfl; exact rfl; (first | with_reducible exact map_app | with_reducible exact map_app3 | with_reducible exact map_app4 | exact map_snoc | exact rfl | skip))
    | ((with_reducible refine tok_eq ?_ ?_); exact rfl; (first | with_reducible exact map_app | with_reducible exact map_app3 | with_reducible exact map_app4 | exact map_snoc | exact rfl | skip))
    | ((with_reducible refine ren_guard ?_); refine gs_ren ?_ ?_ ?_; exact rfl; exact rfl; (first | exact rfl | skip))
    | exact @rfl AV _
    | exact @rfl Block _
    | exact @rfl (List AV) _
    | exact ble_le rfl
    | fail)
  all_goals (try simp only [Bool.cond_true_left, Bool.cond_false_right, Bool.cond_false_left, Bool.cond_true_right, Bool.not_eq_true', Bool.not_eq_false', bne, Ex.css_len, List.length_map, Int.toNat_zero] at *)
  all_goals first
    | omega
    | ((exact Bool.noConfusion h))
    | ((show (_ : Int) ≤ 9223372036854775807; simp only [List.length_append, List.length_cons, List.length_nil]; omega))
    | ((refine congrArg (fun z => D.val (Value.bool z)) ?_; simp; done))
    | (exfalso; simp_all; done)
    | skip
set_option maxHeartbeats 400000 in
theorem joined_ee (a b : Str) (i k : Nat) (ha : a.length ≤ 1048576) (hb : b.length ≤ 1048576) (hE : joinE a b = false) (b1 : decide ((a.length : Int) > 65536) = false) (b2 : decide ((b.length : Int) > 65536) = false) (b3 : decide (((a ++ [10] ++ b).length : Int) > 65536) = false) (e1 : lexR pStep a 0 = .error i) (e2 : lexR pStep b 0 = .error k) (e3 : lexR pStep (a ++ [10] ++ b) 0 = .error i) : PCall Tryd.prog 7 [.str a, .str b] (.ret (.b true)) := by
  refine pcall_of_wc tok hmix ⟨[], []⟩ Tryd.func7 rfl (by kernel_rfl) (by kernel_rfl) (by kernel_rfl) fun hf => ?_
  clear hf
  repeat' ((try (conv => whnf)) <;> first
    | with_reducible exact trivial
    | with_reducible exact rfl
    | with_reducible refine BrI.tt ?_
    | with_reducible refine BrI.ff ?_
    | with_reducible refine BrI.intro (fun h => ?_) (fun h => ?_)
    | (exact Bool.noConfusion (hE.symm.trans h))
    | ((with_reducible refine call_step ?_ ?_ ?_); rotate_left; (first | exact sane_call | exact equal_call _ _ | exact sane_call | exact lex_is b1 e1 | exact lex_is b2 e2 | exact lex_is b3 e3 | fail))
    | (with_reducible refine ChooseI.l _ ?_)
    | ((with_reducible refine nilgs_step ?_ ?_ ?_ ?_ ?_ ?_) <;> exact rfl)
    | ((with_reducible refine tok0_step ?_ ?_ ?_ ?_) <;> exact rfl)
    | ((with_reducible refine kok_step ?_ ?_ ?_); exact rfl; exact rfl)
    | ((with_reducible refine idx_step ?_ ?_ ?_ ?_ ?_); exact rfl; exact rfl; rotate_left; (first | with_reducible exact idx_get ‹_› | fail))
    | ((with_reducible refine len_step ?_ ?_); exact rfl)
    | ((with_reducible refine app_step' ?_ ?_ ?_ ?_ ?_ ?_ ?_); exact rfl; exact rfl; exact rfl; exact rfl)
    | ((with_reducible refine nil_step' ?_ ?_ ?_ ?_); exact rfl; exact rfl)
    | ((with_reducible refine guard_step ?_ ?_ (fun hg => ?_) ?_); exact rfl)
    | ((with_reducible refine val_step ?_ ?_); with_reducible exact rfl; with_reducible exact rfl)
    | ((with_reducible refine same_step ?_ ?_); with_reducible exact rfl)
    | ((with_reducible refine chk_step ?_ ?_); kernel_rfl)
    | ((with_reducible refine ret_step ?_); refine ⟨[], rfl, ?_, trivial⟩; conv => whnf)
    | ((with_reducible refine ret_need ?_ ?_); rotate_left; refine ⟨[], rfl, ?_, trivial⟩; conv => whnf)
    | ((with_reducible refine pan_need ?_ ?_); rotate_left; refine ⟨[], rfl, ?_, trivial⟩; conv => whnf)
    | ((with_reducible refine pan_step ?_); refine ⟨[], rfl, ?_, trivial⟩; conv => whnf)
    | (with_reducible refine And.intro ?_ ?_)
    | ((with_reducible refine gs_eq ?_ ?_ ?_); exact rfl; exact rfl; (first | with_reducible exact map_app | with_reducible exact map_app3 | with_reducible exact map_app4 | exact map_snoc | exact rfl | skip))
    | ((with_reducible refine tok_eq ?_ ?_); exact rfl; (first | with_reducible exact map_app | with_reducible exact map_app3 | with_reducible exact map_app4 | exact map_snoc | exact rfl | skip))
    | ((with_reducible refine ren_guard ?_); refine gs_ren ?_ ?_ ?_; exact rfl; exact rfl; (first | exact rfl | skip))
    | exact @rfl AV _
    | exact @rfl Block _
    | exact @rfl (List AV) _
    | exact ble_le rfl
    | fail)
  all_goals (try simp only [Bool.cond_true_left, Bool.cond_false_right, Bool.cond_false_left, Bool.cond_true_right, Bool.not_eq_true', Bool.not_eq_false', bne, Ex.css_len, List.length_map, Int.toNat_zero] at *)
  all_goals first
    | omega
    | ((exact Bool.noConfusion h))
    | ((show (_ : Int) ≤ 9223372036854775807; simp only [List.length_append, List.length_cons, List.length_nil]; omega))
    | ((refine congrArg (fun z => D.val (Value.bool z)) ?_; simp; done))
    | (exfalso; simp_all; done)
    | skip
set_option maxHeartbeats 400000 in
theorem joined_oe (a b : Str) (k : Nat) (x : List Tk) (ha : a.length ≤ 1048576) (hb : b.length ≤ 1048576) (hk : k < b.length) (hE : joinE a b = false) (b1 : decide ((a.length : Int) > 65536) = false) (b2 : decide ((b.length : Int) > 65536) = false) (b3 : decide (((a ++ [10] ++ b).length : Int) > 65536) = false) (e1 : lexR pStep a 0 = .ok x) (e2 : lexR pStep b 0 = .error k) (e3 : lexR pStep (a ++ [10] ++ b) 0 = .error (k + (a.length + 1))) : PCall Tryd.prog 7 [.str a, .str b] (.ret (.b true)) := by
  refine pcall_of_wc tok hmix ⟨[], []⟩ Tryd.func7 rfl (by kernel_rfl) (by kernel_rfl) (by kernel_rfl) fun hf => ?_
  clear hf
  repeat' ((try (conv => whnf)) <;> first
    | with_reducible exact trivial
    | with_reducible exact rfl
    | with_reducible refine BrI.tt ?_
    | with_reducible refine BrI.ff ?_
    | with_reducible refine BrI.intro (fun h => ?_) (fun h => ?_)
    | (exact Bool.noConfusion (hE.symm.trans h))
    | ((with_reducible refine call_step ?_ ?_ ?_); rotate_left; (first | exact sane_call | exact equal_call _ _ | exact sane_call | exact lex_is b1 e1 | exact lex_is b2 e2 | exact lex_is b3 e3 | fail))
    | (with_reducible refine ChooseI.l _ ?_)
    | ((with_reducible refine nilgs_step ?_ ?_ ?_ ?_ ?_ ?_) <;> exact rfl)
    | ((with_reducible refine tok0_step ?_ ?_ ?_ ?_) <;> exact rfl)
    | ((with_reducible refine kok_step ?_ ?_ ?_); exact rfl; exact rfl)
    | ((with_reducible refine idx_step ?_ ?_ ?_ ?_ ?_); exact rfl; exact rfl; rotate_left; (first | with_reducible exact idx_get ‹_› | fail))
    | ((with_reducible refine len_step ?_ ?_); exact rfl)
    | ((with_reducible refine app_step' ?_ ?_ ?_ ?_ ?_ ?_ ?_); exact rfl; exact rfl; exact rfl; exact rfl)
    | ((with_reducible refine nil_step' ?_ ?_ ?_ ?_); exact rfl; exact rfl)
    | ((with_reducible refine guard_step ?_ ?_ (fun hg => ?_) ?_); exact rfl)
    | ((with_reducible refine val_step ?_ ?_); with_reducible exact rfl; with_reducible exact rfl)
    | ((with_reducible refine same_step ?_ ?_); with_reducible exact rfl)
    | ((with_reducible refine chk_step ?_ ?_); kernel_rfl)
    | ((with_reducible refine ret_step ?_); refine ⟨[], rfl, ?_, trivial⟩; conv => whnf)
    | ((with_reducible refine ret_need ?_ ?_); rotate_left; refine ⟨[], rfl, ?_, trivial⟩; conv => whnf)
    | ((with_reducible refine pan_need ?_ ?_); rotate_left; refine ⟨[], rfl, ?_, trivial⟩; conv => whnf)
    | ((with_reducible refine pan_step ?_); refine ⟨[], rfl, ?_, trivial⟩; conv => whnf)
    | (with_reducible refine And.intro ?_ ?_)
    | ((with_reducible refine gs_eq ?_ ?_ ?_); exact rfl; exact rfl; (first | with_reducible exact map_app | with_reducible exact map_app3 | with_reducible exact map_app4 | exact map_snoc | exact rfl | skip))
    | ((with_reducible refine tok_eq ?_ ?_); exact rfl; (first | with_reducible exact map_app | with_reducible exact map_app3 | with_reducible exact map_app4 | exact map_snoc | exact rfl | skip))
    | ((with_reducible refine ren_guard ?_); refine gs_ren ?_ ?_ ?_; exact rfl; exact rfl; (first | exact rfl | skip))
    | exact @rfl AV _
    | exact @rfl Block _
    | exact @rfl (List AV) _
    | exact ble_le rfl
    | fail)
  all_goals (try simp only [Bool.cond_true_left, Bool.cond_false_right, Bool.cond_false_left, Bool.cond_true_right, Bool.not_eq_true', Bool.not_eq_false', bne, Ex.css_len, List.length_map, Int.toNat_zero] at *)
  all_goals first
    | omega
    | ((exact Bool.noConfusion h))
    | ((show (_ : Int) ≤ 9223372036854775807; simp only [List.length_append, List.length_cons, List.length_nil]; omega))
    | ((refine congrArg (fun z => D.val (Value.bool z)) ?_; rw [far_eq ha hb hk]; rfl))
    | (exfalso; simp_all; done)
    | skip
set_option maxHeartbeats 400000 in
theorem joined_oo (a b : Str) (x y : List Tk) (ha : a.length ≤ 1048576) (hb : b.length ≤ 1048576) (hp : ∀ t ∈ y, 0 ≤ t.pos ∧ t.pos < b.length) (hxl : x.length ≤ 1048576) (hyl : y.length ≤ 1048576) (hE : joinE a b = false) (b1 : decide ((a.length : Int) > 65536) = false) (b2 : decide ((b.length : Int) > 65536) = false) (b3 : decide (((a ++ [10] ++ b).length : Int) > 65536) = false) (e1 : lexR pStep a 0 = .ok x) (e2 : lexR pStep b 0 = .ok y) (e3 : lexR pStep (a ++ [10] ++ b) 0 = .ok (x ++ y.map (moved (a.length + 1)))) : PCall Tryd.prog 7 [.str a, .str b] (.ret (.b true)) := by
  refine pcall_of_wc tok hmix ⟨[], []⟩ Tryd.func7 rfl (by kernel_rfl) (by kernel_rfl) (by kernel_rfl) fun hf => ?_
  have hlen : y.length ≤ 9223372036854775807 := by omega
  clear hf
  repeat' ((try (conv => whnf)) <;> first
    | with_reducible exact trivial
    | with_reducible exact rfl
    | with_reducible exact idx_next hd1 ‹_›
    | with_reducible refine BrI.tt ?_
    | with_reducible refine BrI.ff ?_
    | with_reducible refine br_nil hd1 ?_
    | with_reducible refine br_cons hd1 ?_
    | ((with_reducible refine br_nil_k hd1 ?_ ?_); (first | exact rfl | assumption | fail))
    | ((with_reducible refine br_cons_k hd1 ?_ ?_); (first | exact rfl | assumption | fail))
    | with_reducible refine br_nil_and hd1 ?_
    | with_reducible refine br_cons_and hd1 ?_
    | with_reducible refine br_nil_e hd1 ?_
    | with_reducible refine br_cons_e hd1 ?_
    | with_reducible refine BrI.intro (fun h => ?_) (fun h => ?_)
    | (exact Bool.noConfusion (hE.symm.trans h))
    | ((with_reducible refine LoopAt.mk 1 ?_); refine ⟨rangeL (y) 87 (fun (ts : (List Tk)) => [(14, .gs 82 4 (ts.map Tk.cs))]) (fun (ts : (List Tk)) => [(82, .tok 4 (ts.map Tk.cs).length)]) [0, 11, 12, 13, 85, 86] (fun i1 r1 ts => ts ++ r1.map (moved (a.length + 1)) = x ++ y.map (moved (a.length + 1)) ∧ ts.length = x.length + i1), ?_⟩; with_reducible refine rangeL_rule (x) ?_ ?_ (fun i1 (ts : (List Tk)) hd1 hI1 => ?_) (fun i1 x1 r1 (ts : (List Tk)) hd1 hl1 hI1 => ?_))
    | (with_reducible refine rangeL_next hd1 (ts ++ [moved (a.length + 1) x1]) ?_ ?_)
    | ((with_reducible refine call_step ?_ ?_ ?_); rotate_left; (first | exact sane_call | exact equal_call _ _ | exact sane_call | exact lex_is b1 e1 | exact lex_is b2 e2 | exact lex_is b3 e3 | exact equal_call (x ++ y.map (moved (a.length + 1))) ts | fail))
    | with_reducible refine str_idx hd1 ?_
    | (with_reducible refine ChooseI.l _ ?_)
    | ((with_reducible refine nilgs_step ?_ ?_ ?_ ?_ ?_ ?_) <;> exact rfl)
    | ((with_reducible refine tok0_step ?_ ?_ ?_ ?_) <;> exact rfl)
    | ((with_reducible refine kok_step ?_ ?_ ?_); exact rfl; exact rfl)
    | ((with_reducible refine idx_step ?_ ?_ ?_ ?_ ?_); exact rfl; exact rfl; rotate_left; (first | with_reducible exact idx_get ‹_› | with_reducible exact idx_drop hd1 | with_reducible exact idx_take hd1 | with_reducible exact idx_zip1 hd1 | with_reducible exact idx_zip2 hd1 | with_reducible exact idx_zip1e hd1 | with_reducible exact idx_zip2e hd1 | with_reducible exact idx_drop_e hd1 | fail))
    | ((with_reducible refine len_step ?_ ?_); exact rfl)
    | ((with_reducible refine app_step' ?_ ?_ ?_ ?_ ?_ ?_ ?_); exact rfl; exact rfl; exact rfl; exact rfl)
    | ((with_reducible refine nil_step' ?_ ?_ ?_ ?_); exact rfl; exact rfl)
    | ((with_reducible refine guard_step ?_ ?_ (fun hg => ?_) ?_); exact rfl)
    | ((with_reducible refine val_step ?_ ?_); with_reducible exact rfl; with_reducible exact rfl)
    | ((with_reducible refine same_step ?_ ?_); with_reducible exact rfl)
    | ((with_reducible refine chk_step ?_ ?_); kernel_rfl)
    | ((with_reducible refine ret_step ?_); refine ⟨[], rfl, ?_, trivial⟩; conv => whnf)
    | ((with_reducible refine ret_need ?_ ?_); rotate_left; refine ⟨[], rfl, ?_, trivial⟩; conv => whnf)
    | ((with_reducible refine pan_need ?_ ?_); rotate_left; refine ⟨[], rfl, ?_, trivial⟩; conv => whnf)
    | ((with_reducible refine pan_step ?_); refine ⟨[], rfl, ?_, trivial⟩; conv => whnf)
    | (with_reducible refine And.intro ?_ ?_)
    | ((with_reducible refine gs_eq ?_ ?_ ?_); exact rfl; exact rfl; (first | with_reducible exact map_app | with_reducible exact map_app3 | with_reducible exact map_app4 | exact map_snoc | exact rfl | skip))
    | ((with_reducible refine tok_eq ?_ ?_); exact rfl; (first | with_reducible exact map_app | with_reducible exact map_app3 | with_reducible exact map_app4 | exact map_snoc | exact rfl | skip))
    | ((with_reducible refine ren_guard ?_); refine gs_ren ?_ ?_ ?_; exact rfl; exact rfl; (first | exact rfl | skip))
    | exact @rfl AV _
    | exact @rfl Block _
    | exact @rfl (List AV) _
    | exact ble_le rfl
    | fail)
  all_goals first
    | ((exact Bool.noConfusion h))
    | (rfl)
    | ((show (_ : Int) ≤ 9223372036854775807; simp only [List.length_append, List.length_cons, List.length_nil]; omega))
    | ((rw [List.length_map]; omega))
    | ((refine congrArg (fun z => D.val (Value.bool z)) ?_; rw [fin_ts hI1.1, equal_refl]; rfl))
    | ((exact moved_cs (hp _ (drop_mem hd1)) ha hb))
    | ((rw [← hI1.1, List.map_cons, List.append_assoc]; rfl))
    | ((rw [List.length_append, hI1.2]; show _ + 1 = _; omega))
    | skip
theorem joined_law (a b : Str) (ha : a.length ≤ 1048576) (hb : b.length ≤ 1048576) : PCall Tryd.prog 7 [.str a, .str b] (.ret (.b true)) := by
  cases hE : joinE a b with
  | true => exact joined_early a b hE
  | false =>
    have hE2 := hE
    unfold joinE at hE2
    rw [wrap_ok (by omega) (by omega)] at hE2
    have hn := of_decide_eq_false hE2
    have b1 : decide ((a.length : Int) > 65536) = false := nb (by omega)
    have b2 : decide ((b.length : Int) > 65536) = false := nb (by omega)
    have b3 : decide (((a ++ [10] ++ b).length : Int) > 65536) = false := nb (by simp only [List.length_append, List.length_cons, List.length_nil]; omega)
    cases e1 : lexR pStep a 0 with
    | error i =>
      cases e2 : lexR pStep b 0 with
      | error k => exact joined_ee a b i k ha hb hE b1 b2 b3 e1 e2 (joined_e1 e1)
      | ok y => exact joined_eo a b i y ha hb hE b1 b2 b3 e1 e2 (joined_e1 e1)
    | ok x =>
      cases e2 : lexR pStep b 0 with
      | error k => exact joined_oe a b k x ha hb (err_lt e2) hE b1 b2 b3 e1 e2 (joined_e2 e1 e2)
      | ok y => exact joined_oo a b x y ha hb (pos_lt e2) (rd_of (by omega) e1).1.len (rd_of (by omega) e2).1.len hE b1 b2 b3 e1 e2 (joined_ok e1 e2)
end Go.Proofs.YtanmpkhhmjfbnaaDoor

