/- Contracts: package lex: classes, names, the scanner's run and add. -/
import Derived.Test.YtanmpkhhmjfbnaaDoorZLA
set_option linter.unusedSimpArgs false
set_option linter.unusedVariables false
namespace Go.Proofs.YtanmpkhhmjfbnaaDoor
open Go.Fw Go.Fw.Lx
set_option maxRecDepth 10000
set_option linter.unusedSectionVars false
variable [GlobInt]
set_option maxHeartbeats 400000 in
theorem class_call (c : UInt8)  : PCall Tryd.prog 30 [D.u8 c] (.ret (.i (cls c))) := by
  refine pcall_of_wc tok hmix ⟨[], []⟩ Tryd.func30 rfl (by kernel_rfl) (by kernel_rfl) (by kernel_rfl) fun hf => ?_
  clear hf
  repeat' ((try (conv => whnf)) <;> first
    | with_reducible exact trivial
    | with_reducible exact rfl
    | with_reducible refine BrI.tt ?_
    | with_reducible refine BrI.ff ?_
    | with_reducible refine BrI.intro (fun h => ?_) (fun h => ?_)
    | ((with_reducible refine call_step ?_ ?_ ?_); rotate_left; (first | exact indexByte_call _ _ | fail))
    | (with_reducible refine ChooseI.l _ ?_)
    | ((with_reducible refine nilgs_step ?_ ?_ ?_ ?_ ?_ ?_) <;> exact rfl)
    | ((with_reducible refine tok0_step ?_ ?_ ?_ ?_) <;> exact rfl)
    | ((with_reducible refine kok_step ?_ ?_ ?_); exact rfl; exact rfl)
    | ((with_reducible refine idx_step ?_ ?_ ?_ ?_ ?_); exact rfl; exact rfl; rotate_left; (first | with_reducible exact idx_get ‹_› | fail))
    | ((with_reducible refine len_step ?_ ?_); exact rfl)
    | ((with_reducible refine app_step' ?_ ?_ ?_ ?_ ?_ ?_ ?_); exact rfl; exact rfl; exact rfl; exact rfl)
    | ((with_reducible refine nil_step' ?_ ?_ ?_ ?_); exact rfl; exact rfl)
    | ((with_reducible refine guard_step ?_ ?_ (fun hg => ?_) ?_); exact rfl)
    | ((with_reducible refine val_step ?_ ?_); with_reducible exact rfl; with_reducible exact rfl)
    | ((with_reducible refine same_step ?_ ?_); with_reducible exact rfl)
    | ((with_reducible refine chk_step ?_ ?_); kernel_rfl)
    | ((with_reducible refine ret_step ?_); refine ⟨[], rfl, ?_, trivial⟩; conv => whnf)
    | ((with_reducible refine ret_need ?_ ?_); rotate_left; refine ⟨[], rfl, ?_, trivial⟩; conv => whnf)
    | ((with_reducible refine pan_need ?_ ?_); rotate_left; refine ⟨[], rfl, ?_, trivial⟩; conv => whnf)
    | ((with_reducible refine pan_step ?_); refine ⟨[], rfl, ?_, trivial⟩; conv => whnf)
    | (with_reducible refine And.intro ?_ ?_)
    | ((with_reducible refine gs_eq ?_ ?_ ?_); exact rfl; exact rfl; (first | with_reducible exact map_app | with_reducible exact map_app3 | with_reducible exact map_app4 | exact map_snoc | exact rfl | skip))
    | ((with_reducible refine tok_eq ?_ ?_); exact rfl; (first | with_reducible exact map_app | with_reducible exact map_app3 | with_reducible exact map_app4 | exact map_snoc | exact rfl | skip))
    | ((with_reducible refine ren_guard ?_); refine gs_ren ?_ ?_ ?_; exact rfl; exact rfl; (first | exact rfl | skip))
    | exact @rfl AV _
    | exact @rfl Block _
    | exact @rfl (List AV) _
    | exact ble_le rfl
    | fail)
  all_goals (try simp only [Bool.cond_true_left, Bool.cond_false_right, Bool.cond_false_left, Bool.cond_true_right, Bool.not_eq_true', Bool.not_eq_false', bne, Ex.css_len, List.length_map, Int.toNat_zero] at *)
  all_goals first
    | omega
    | ((refine congrArg (fun z => D.val (Value.int IntKind.i64 z)) ?_; simp only [cls, Ref03.letter, Ref03.figure, if_true, if_false, Bool.false_eq_true, reduceIte, *]; first | done | exact (if_pos (by assumption)).symm | exact (if_neg (ne_true_of_eq_false (by assumption))).symm))
    | (exfalso; simp_all; done)
    | skip
set_option maxHeartbeats 400000 in
theorem lname_call (s : Str)  : PCall Tryd.prog 20 [.str s] (.ret (.b (lname s))) := by
  refine pcall_of_wc tok hmix ⟨[], []⟩ Tryd.func20 rfl (by kernel_rfl) (by kernel_rfl) (by kernel_rfl) fun hf => ?_
  clear hf
  repeat' ((try (conv => whnf)) <;> first
    | with_reducible exact trivial
    | with_reducible exact rfl
    | with_reducible exact idx_next hd0 ‹_›
    | with_reducible refine BrI.tt ?_
    | with_reducible refine BrI.ff ?_
    | with_reducible refine br_nil hd0 ?_
    | with_reducible refine br_cons hd0 ?_
    | ((with_reducible refine br_nil_k hd0 ?_ ?_); (first | exact rfl | assumption | fail))
    | ((with_reducible refine br_cons_k hd0 ?_ ?_); (first | exact rfl | assumption | fail))
    | with_reducible refine br_nil_and hd0 ?_
    | with_reducible refine br_cons_and hd0 ?_
    | with_reducible refine br_nil_e hd0 ?_
    | with_reducible refine br_cons_e hd0 ?_
    | with_reducible refine BrI.intro (fun h => ?_) (fun h => ?_)
    | ((with_reducible refine str_getD ?_ ?_ ?_); decide; (simp [wantB] at hg; have := List.length_pos_iff.2 hg.1; omega))
    | ((with_reducible refine LoopAt.mk 0 ?_); have hlen : s.length ≤ 9223372036854775807 := (by simp only [Bool.cond_true_left, Bool.or_eq_false_iff, decide_eq_false_iff_not] at h; omega); refine ⟨rangeL (s) 20 (fun (_ : Unit) => []) (fun (_ : Unit) => []) [0, 19] (fun i0 r0 _ => lname s = r0.all clsOk), ?_⟩; with_reducible refine rangeL_rule () ?_ ?_ (fun i0 (_ : Unit) hd0 hI0 => ?_) (fun i0 x0 r0 (_ : Unit) hd0 hl0 hI0 => ?_))
    | (with_reducible refine rangeL_next hd0 () ?_ ?_)
    | ((with_reducible refine call_step ?_ ?_ ?_); rotate_left; (first | exact class_call _ | fail))
    | with_reducible refine str_idx hd0 ?_
    | (with_reducible refine ChooseI.l _ ?_)
    | ((with_reducible refine nilgs_step ?_ ?_ ?_ ?_ ?_ ?_) <;> exact rfl)
    | ((with_reducible refine tok0_step ?_ ?_ ?_ ?_) <;> exact rfl)
    | ((with_reducible refine kok_step ?_ ?_ ?_); exact rfl; exact rfl)
    | ((with_reducible refine idx_step ?_ ?_ ?_ ?_ ?_); exact rfl; exact rfl; rotate_left; (first | with_reducible exact idx_get ‹_› | with_reducible exact idx_drop hd0 | with_reducible exact idx_take hd0 | with_reducible exact idx_zip1 hd0 | with_reducible exact idx_zip2 hd0 | with_reducible exact idx_zip1e hd0 | with_reducible exact idx_zip2e hd0 | with_reducible exact idx_drop_e hd0 | fail))
    | ((with_reducible refine len_step ?_ ?_); exact rfl)
    | ((with_reducible refine app_step' ?_ ?_ ?_ ?_ ?_ ?_ ?_); exact rfl; exact rfl; exact rfl; exact rfl)
    | ((with_reducible refine nil_step' ?_ ?_ ?_ ?_); exact rfl; exact rfl)
    | ((with_reducible refine guard_step ?_ ?_ (fun hg => ?_) ?_); exact rfl)
    | ((with_reducible refine val_step ?_ ?_); with_reducible exact rfl; with_reducible exact rfl)
    | ((with_reducible refine same_step ?_ ?_); with_reducible exact rfl)
    | ((with_reducible refine chk_step ?_ ?_); kernel_rfl)
    | ((with_reducible refine ret_step ?_); refine ⟨[], rfl, ?_, trivial⟩; conv => whnf)
    | ((with_reducible refine ret_need ?_ ?_); rotate_left; refine ⟨[], rfl, ?_, trivial⟩; conv => whnf)
    | ((with_reducible refine pan_need ?_ ?_); rotate_left; refine ⟨[], rfl, ?_, trivial⟩; conv => whnf)
    | ((with_reducible refine pan_step ?_); refine ⟨[], rfl, ?_, trivial⟩; conv => whnf)
    | (with_reducible refine And.intro ?_ ?_)
    | ((with_reducible refine gs_eq ?_ ?_ ?_); exact rfl; exact rfl; (first | with_reducible exact map_app | with_reducible exact map_app3 | with_reducible exact map_app4 | exact map_snoc | exact rfl | skip))
    | ((with_reducible refine tok_eq ?_ ?_); exact rfl; (first | with_reducible exact map_app | with_reducible exact map_app3 | with_reducible exact map_app4 | exact map_snoc | exact rfl | skip))
    | ((with_reducible refine ren_guard ?_); refine gs_ren ?_ ?_ ?_; exact rfl; exact rfl; (first | exact rfl | skip))
    | exact @rfl AV _
    | exact @rfl Block _
    | exact @rfl (List AV) _
    | exact ble_le rfl
    | fail)
  all_goals (try simp only [Bool.cond_true_left, Bool.cond_false_right, Bool.cond_false_left, Bool.cond_true_right, Bool.not_eq_true', Bool.not_eq_false', bne, Ex.css_len, List.length_map, Int.toNat_zero] at *)
  all_goals first
    | (rw [hI0]; (try simp only [lname, clsOk, Bool.not_true, Bool.not_false, Bool.and_true, Bool.true_and, Bool.and_false, Bool.false_and, Bool.or_true, Bool.true_or, Bool.or_false, Bool.false_or, if_true, if_false, reduceIte, Bool.false_eq_true, Bool.not_not, Bool.not_eq_true', beq_self_eq_true, List.all_cons, List.all_nil, List.any_cons, List.any_nil, List.length_map, bne, eq_self, Int.toNat_zero, *]); first | done | rfl)
    | (rw [hI0.1]; (try simp only [lname, clsOk, Bool.not_true, Bool.not_false, Bool.and_true, Bool.true_and, Bool.and_false, Bool.false_and, Bool.or_true, Bool.true_or, Bool.or_false, Bool.false_or, if_true, if_false, reduceIte, Bool.false_eq_true, Bool.not_not, Bool.not_eq_true', beq_self_eq_true, List.all_cons, List.all_nil, List.any_cons, List.any_nil, List.length_map, bne, eq_self, Int.toNat_zero, *]); first | done | rfl)
    | (simp only [lname, clsOk, Bool.not_true, Bool.not_false, Bool.and_true, Bool.true_and, Bool.and_false, Bool.false_and, Bool.or_true, Bool.true_or, Bool.or_false, Bool.false_or, if_true, if_false, reduceIte, Bool.false_eq_true, Bool.not_not, Bool.not_eq_true', beq_self_eq_true, List.all_cons, List.all_nil, List.any_cons, List.any_nil, List.length_map, bne, eq_self, Int.toNat_zero, *]; done)
    | omega
    | (exfalso; simp_all; done)
    | skip
set_option maxHeartbeats 400000 in
theorem index_call (l : List Int) (v : Int)  : PCall Tryd.prog 60 [.sl 1 (l.map iC), .i v] (.ret (.i (idxFrom v l 0))) := by
  refine pcall_of_wc tok hmix ⟨[], []⟩ Tryd.func60 rfl (by kernel_rfl) (by kernel_rfl) (by kernel_rfl) fun hf => ?_
  have hlen : l.length ≤ 9223372036854775807 := by simpa using (hf (.sl 1 (l.map iC)) (by simp)).sl.1
  clear hf
  repeat' ((try (conv => whnf)) <;> first
    | with_reducible exact trivial
    | with_reducible exact rfl
    | with_reducible exact idx_next hd0 ‹_›
    | with_reducible refine BrI.tt ?_
    | with_reducible refine BrI.ff ?_
    | with_reducible refine br_nil hd0 ?_
    | with_reducible refine br_cons hd0 ?_
    | ((with_reducible refine br_nil_k hd0 ?_ ?_); (first | exact rfl | assumption | fail))
    | ((with_reducible refine br_cons_k hd0 ?_ ?_); (first | exact rfl | assumption | fail))
    | with_reducible refine br_nil_and hd0 ?_
    | with_reducible refine br_cons_and hd0 ?_
    | with_reducible refine br_nil_e hd0 ?_
    | with_reducible refine br_cons_e hd0 ?_
    | with_reducible refine BrI.intro (fun h => ?_) (fun h => ?_)
    | ((with_reducible refine LoopAt.mk 0 ?_); refine ⟨rangeL (l) 8 (fun (_ : Unit) => []) (fun (_ : Unit) => []) [0, 1, 7] (fun i0 r0 _ => idxFrom v l 0 = idxFrom v r0 i0), ?_⟩; with_reducible refine rangeL_rule () ?_ ?_ (fun i0 (_ : Unit) hd0 hI0 => ?_) (fun i0 x0 r0 (_ : Unit) hd0 hl0 hI0 => ?_))
    | (with_reducible refine rangeL_next hd0 () ?_ ?_)
    | with_reducible refine str_idx hd0 ?_
    | (with_reducible refine ChooseI.l _ ?_)
    | ((with_reducible refine nilgs_step ?_ ?_ ?_ ?_ ?_ ?_) <;> exact rfl)
    | ((with_reducible refine tok0_step ?_ ?_ ?_ ?_) <;> exact rfl)
    | ((with_reducible refine kok_step ?_ ?_ ?_); exact rfl; exact rfl)
    | ((with_reducible refine idx_step ?_ ?_ ?_ ?_ ?_); exact rfl; exact rfl; rotate_left; (first | with_reducible exact idx_get ‹_› | with_reducible exact idx_drop hd0 | with_reducible exact idx_take hd0 | with_reducible exact idx_zip1 hd0 | with_reducible exact idx_zip2 hd0 | with_reducible exact idx_zip1e hd0 | with_reducible exact idx_zip2e hd0 | with_reducible exact idx_drop_e hd0 | fail))
    | ((with_reducible refine len_step ?_ ?_); exact rfl)
    | ((with_reducible refine app_step' ?_ ?_ ?_ ?_ ?_ ?_ ?_); exact rfl; exact rfl; exact rfl; exact rfl)
    | ((with_reducible refine nil_step' ?_ ?_ ?_ ?_); exact rfl; exact rfl)
    | ((with_reducible refine guard_step ?_ ?_ (fun hg => ?_) ?_); exact rfl)
    | ((with_reducible refine val_step ?_ ?_); with_reducible exact rfl; with_reducible exact rfl)
    | ((with_reducible refine same_step ?_ ?_); with_reducible exact rfl)
    | ((with_reducible refine chk_step ?_ ?_); kernel_rfl)
    | ((with_reducible refine ret_step ?_); refine ⟨[], rfl, ?_, trivial⟩; conv => whnf)
    | ((with_reducible refine ret_need ?_ ?_); rotate_left; refine ⟨[], rfl, ?_, trivial⟩; conv => whnf)
    | ((with_reducible refine pan_need ?_ ?_); rotate_left; refine ⟨[], rfl, ?_, trivial⟩; conv => whnf)
    | ((with_reducible refine pan_step ?_); refine ⟨[], rfl, ?_, trivial⟩; conv => whnf)
    | (with_reducible refine And.intro ?_ ?_)
    | ((with_reducible refine gs_eq ?_ ?_ ?_); exact rfl; exact rfl; (first | with_reducible exact map_app | with_reducible exact map_app3 | with_reducible exact map_app4 | exact map_snoc | exact rfl | skip))
    | ((with_reducible refine tok_eq ?_ ?_); exact rfl; (first | with_reducible exact map_app | with_reducible exact map_app3 | with_reducible exact map_app4 | exact map_snoc | exact rfl | skip))
    | ((with_reducible refine ren_guard ?_); refine gs_ren ?_ ?_ ?_; exact rfl; exact rfl; (first | exact rfl | skip))
    | exact @rfl AV _
    | exact @rfl Block _
    | exact @rfl (List AV) _
    | exact ble_le rfl
    | fail)
  all_goals (try simp only [Bool.cond_true_left, Bool.cond_false_right, Bool.cond_false_left, Bool.cond_true_right, Bool.not_eq_true', Bool.not_eq_false', bne, Ex.css_len, List.length_map, Int.toNat_zero] at *)
  all_goals first
    | (rw [hI0]; (try simp only [idxFrom, Bool.not_true, Bool.not_false, Bool.and_true, Bool.true_and, Bool.and_false, Bool.false_and, Bool.or_true, Bool.true_or, Bool.or_false, Bool.false_or, if_true, if_false, reduceIte, Bool.false_eq_true, Bool.not_not, Bool.not_eq_true', beq_self_eq_true, List.all_cons, List.all_nil, List.any_cons, List.any_nil, List.length_map, bne, eq_self, Int.toNat_zero, *]); first | done | rfl)
    | (rw [hI0.1]; (try simp only [idxFrom, Bool.not_true, Bool.not_false, Bool.and_true, Bool.true_and, Bool.and_false, Bool.false_and, Bool.or_true, Bool.true_or, Bool.or_false, Bool.false_or, if_true, if_false, reduceIte, Bool.false_eq_true, Bool.not_not, Bool.not_eq_true', beq_self_eq_true, List.all_cons, List.all_nil, List.any_cons, List.any_nil, List.length_map, bne, eq_self, Int.toNat_zero, *]); first | done | rfl)
    | (simp only [idxFrom, Bool.not_true, Bool.not_false, Bool.and_true, Bool.true_and, Bool.and_false, Bool.false_and, Bool.or_true, Bool.true_or, Bool.or_false, Bool.false_or, if_true, if_false, reduceIte, Bool.false_eq_true, Bool.not_not, Bool.not_eq_true', beq_self_eq_true, List.all_cons, List.all_nil, List.any_cons, List.any_nil, List.length_map, bne, eq_self, Int.toNat_zero, *]; done)
    | omega
    | (simp_all [idxFrom])
    | (exfalso; simp_all; done)
    | skip
set_option maxHeartbeats 400000 in
theorem has_call (l : List Int) (v : Int)  : PCall Tryd.prog 52 [.sl 1 (l.map iC), .i v] (.ret (.b (has l v))) := by
  refine pcall_of_wc tok hmix ⟨[], []⟩ Tryd.func52 rfl (by kernel_rfl) (by kernel_rfl) (by kernel_rfl) fun hf => ?_
  clear hf
  repeat' ((try (conv => whnf)) <;> first
    | with_reducible exact trivial
    | with_reducible exact rfl
    | with_reducible refine BrI.tt ?_
    | with_reducible refine BrI.ff ?_
    | with_reducible refine BrI.intro (fun h => ?_) (fun h => ?_)
    | ((with_reducible refine call_step ?_ ?_ ?_); rotate_left; (first | exact index_call _ _ | fail))
    | (with_reducible refine ChooseI.l _ ?_)
    | ((with_reducible refine nilgs_step ?_ ?_ ?_ ?_ ?_ ?_) <;> exact rfl)
    | ((with_reducible refine tok0_step ?_ ?_ ?_ ?_) <;> exact rfl)
    | ((with_reducible refine kok_step ?_ ?_ ?_); exact rfl; exact rfl)
    | ((with_reducible refine idx_step ?_ ?_ ?_ ?_ ?_); exact rfl; exact rfl; rotate_left; (first | with_reducible exact idx_get ‹_› | fail))
    | ((with_reducible refine len_step ?_ ?_); exact rfl)
    | ((with_reducible refine app_step' ?_ ?_ ?_ ?_ ?_ ?_ ?_); exact rfl; exact rfl; exact rfl; exact rfl)
    | ((with_reducible refine nil_step' ?_ ?_ ?_ ?_); exact rfl; exact rfl)
    | ((with_reducible refine guard_step ?_ ?_ (fun hg => ?_) ?_); exact rfl)
    | ((with_reducible refine val_step ?_ ?_); with_reducible exact rfl; with_reducible exact rfl)
    | ((with_reducible refine same_step ?_ ?_); with_reducible exact rfl)
    | ((with_reducible refine chk_step ?_ ?_); kernel_rfl)
    | ((with_reducible refine ret_step ?_); refine ⟨[], rfl, ?_, trivial⟩; conv => whnf)
    | ((with_reducible refine ret_need ?_ ?_); rotate_left; refine ⟨[], rfl, ?_, trivial⟩; conv => whnf)
    | ((with_reducible refine pan_need ?_ ?_); rotate_left; refine ⟨[], rfl, ?_, trivial⟩; conv => whnf)
    | ((with_reducible refine pan_step ?_); refine ⟨[], rfl, ?_, trivial⟩; conv => whnf)
    | (with_reducible refine And.intro ?_ ?_)
    | ((with_reducible refine gs_eq ?_ ?_ ?_); exact rfl; exact rfl; (first | with_reducible exact map_app | with_reducible exact map_app3 | with_reducible exact map_app4 | exact map_snoc | exact rfl | skip))
    | ((with_reducible refine tok_eq ?_ ?_); exact rfl; (first | with_reducible exact map_app | with_reducible exact map_app3 | with_reducible exact map_app4 | exact map_snoc | exact rfl | skip))
    | ((with_reducible refine ren_guard ?_); refine gs_ren ?_ ?_ ?_; exact rfl; exact rfl; (first | exact rfl | skip))
    | exact @rfl AV _
    | exact @rfl Block _
    | exact @rfl (List AV) _
    | exact ble_le rfl
    | fail)
  all_goals (try simp only [Bool.cond_true_left, Bool.cond_false_right, Bool.cond_false_left, Bool.cond_true_right, Bool.not_eq_true', Bool.not_eq_false', bne, Ex.css_len, List.length_map, Int.toNat_zero] at *)
  all_goals first
    | omega
    | (rfl)
    | (exfalso; simp_all; done)
    | skip
set_option maxHeartbeats 400000 in
theorem valid_call (t : Tk)  : PCall Tryd.prog 36 [t.d] (.ret (.b (valid t))) := by
  refine pcall_of_wc tok hmix ⟨[], []⟩ Tryd.func36 rfl (by kernel_rfl) (by kernel_rfl) (by kernel_rfl) fun hf => ?_
  clear hf
  repeat' ((try (conv => whnf)) <;> first
    | with_reducible exact trivial
    | with_reducible exact rfl
    | with_reducible refine BrI.tt ?_
    | with_reducible refine BrI.ff ?_
    | with_reducible refine BrI.intro (fun h => ?_) (fun h => ?_)
    | ((with_reducible refine str_getD ?_ ?_ ?_); decide; (simp [wantB] at hg; omega))
    | ((with_reducible refine call_step ?_ ?_ ?_); rotate_left; (first | exact lname_call _ | exact class_call _ | fail))
    | (with_reducible refine ChooseI.l _ ?_)
    | ((with_reducible refine nilgs_step ?_ ?_ ?_ ?_ ?_ ?_) <;> exact rfl)
    | ((with_reducible refine tok0_step ?_ ?_ ?_ ?_) <;> exact rfl)
    | ((with_reducible refine kok_step ?_ ?_ ?_); exact rfl; exact rfl)
    | ((with_reducible refine idx_step ?_ ?_ ?_ ?_ ?_); exact rfl; exact rfl; rotate_left; (first | with_reducible exact idx_get ‹_› | fail))
    | ((with_reducible refine len_step ?_ ?_); exact rfl)
    | ((with_reducible refine app_step' ?_ ?_ ?_ ?_ ?_ ?_ ?_); exact rfl; exact rfl; exact rfl; exact rfl)
    | ((with_reducible refine nil_step' ?_ ?_ ?_ ?_); exact rfl; exact rfl)
    | ((with_reducible refine guard_step ?_ ?_ (fun hg => ?_) ?_); exact rfl)
    | ((with_reducible refine val_step ?_ ?_); with_reducible exact rfl; with_reducible exact rfl)
    | ((with_reducible refine same_step ?_ ?_); with_reducible exact rfl)
    | ((with_reducible refine chk_step ?_ ?_); kernel_rfl)
    | ((with_reducible refine ret_step ?_); refine ⟨[], rfl, ?_, trivial⟩; conv => whnf)
    | ((with_reducible refine ret_need ?_ ?_); rotate_left; refine ⟨[], rfl, ?_, trivial⟩; conv => whnf)
    | ((with_reducible refine pan_need ?_ ?_); rotate_left; refine ⟨[], rfl, ?_, trivial⟩; conv => whnf)
    | ((with_reducible refine pan_step ?_); refine ⟨[], rfl, ?_, trivial⟩; conv => whnf)
    | (with_reducible refine And.intro ?_ ?_)
    | ((with_reducible refine gs_eq ?_ ?_ ?_); exact rfl; exact rfl; (first | with_reducible exact map_app | with_reducible exact map_app3 | with_reducible exact map_app4 | exact map_snoc | exact rfl | skip))
    | ((with_reducible refine tok_eq ?_ ?_); exact rfl; (first | with_reducible exact map_app | with_reducible exact map_app3 | with_reducible exact map_app4 | exact map_snoc | exact rfl | skip))
    | ((with_reducible refine ren_guard ?_); refine gs_ren ?_ ?_ ?_; exact rfl; exact rfl; (first | exact rfl | skip))
    | exact @rfl AV _
    | exact @rfl Block _
    | exact @rfl (List AV) _
    | exact ble_le rfl
    | fail)
  all_goals (try simp only [Bool.cond_true_left, Bool.cond_false_right, Bool.cond_false_left, Bool.cond_true_right, Bool.not_eq_true', Bool.not_eq_false', bne, Ex.css_len, List.length_map, Int.toNat_zero] at *)
  all_goals first
    | (simp only [valid, Bool.not_true, Bool.not_false, Bool.and_true, Bool.true_and, Bool.and_false, Bool.false_and, Bool.or_true, Bool.true_or, Bool.or_false, Bool.false_or, if_true, if_false, reduceIte, Bool.false_eq_true, Bool.not_not, Bool.not_eq_true', beq_self_eq_true, List.all_cons, List.all_nil, List.any_cons, List.any_nil, List.length_map, bne, eq_self, Int.toNat_zero, *]; done)
    | omega
    | (exfalso; simp_all; done)
    | skip
end Go.Proofs.YtanmpkhhmjfbnaaDoor

namespace Go.Proofs.YtanmpkhhmjfbnaaDoor
open Go.Fw Go.Fw.Lx
set_option maxRecDepth 10000
set_option linter.unusedSectionVars false
variable [GlobInt]
set_option maxHeartbeats 400000 in
theorem run_call (ks : List Int) (src : Str) (a : Nat) (ts : List Tk) (ha : a ≤ src.length) (hs : src.length ≤ 1073741824) : PCall Tryd.prog 43 [.ptr [.str src, .i (a : Int), toks ts], .sl 1 (ks.map iC)] (.ret (.str (Lx.run ks src a))) := by
  refine pcall_of_wc tok hmix ⟨[], []⟩ Tryd.func43 rfl (by kernel_rfl) (by kernel_rfl) (by kernel_rfl) fun hf => ?_
  clear hf
  repeat' ((try (conv => whnf)) <;> first
    | with_reducible exact trivial
    | with_reducible exact rfl
    | with_reducible refine BrI.tt ?_
    | with_reducible refine BrI.ff ?_
    | with_reducible refine BrI.intro (fun h => ?_) (fun h => ?_)
    | ((with_reducible refine str_at (lt_nat hg) ?_))
    | ((with_reducible refine LoopAt.mk 0 ?_); refine ⟨whileL (fun (n : (Nat)) => [(5, .data (.val (.int .i64 (n : Nat))))]) (fun (n : (Nat)) => []) [0, 1] (fun (n : (Nat)) => TwAt (fun c => has ks (cls c)) src a n) (fun (n : (Nat)) => src.length - n), ?_⟩; with_reducible refine whileL_rule (a) ?_ ?_ (fun (n : (Nat)) hI0 => ?_))
    | (with_reducible refine whileL_next (n + 1) ?_ ?_ ?_)
    | ((with_reducible refine call_step ?_ ?_ ?_); rotate_left; (first | exact class_call _ | exact has_call _ _ | fail))
    | (with_reducible refine ChooseI.l _ ?_)
    | ((with_reducible refine nilgs_step ?_ ?_ ?_ ?_ ?_ ?_) <;> exact rfl)
    | ((with_reducible refine tok0_step ?_ ?_ ?_ ?_) <;> exact rfl)
    | ((with_reducible refine kok_step ?_ ?_ ?_); exact rfl; exact rfl)
    | ((with_reducible refine idx_step ?_ ?_ ?_ ?_ ?_); exact rfl; exact rfl; rotate_left; (first | with_reducible exact idx_get ‹_› | fail))
    | ((with_reducible refine len_step ?_ ?_); exact rfl)
    | ((with_reducible refine app_step' ?_ ?_ ?_ ?_ ?_ ?_ ?_); exact rfl; exact rfl; exact rfl; exact rfl)
    | ((with_reducible refine nil_step' ?_ ?_ ?_ ?_); exact rfl; exact rfl)
    | ((with_reducible refine guard_step ?_ ?_ (fun hg => ?_) ?_); exact rfl)
    | ((with_reducible refine val_step ?_ ?_); with_reducible exact rfl; with_reducible exact rfl)
    | ((with_reducible refine same_step ?_ ?_); with_reducible exact rfl)
    | ((with_reducible refine chk_step ?_ ?_); kernel_rfl)
    | ((with_reducible refine ret_step ?_); refine ⟨[], rfl, ?_, trivial⟩; conv => whnf)
    | ((with_reducible refine ret_need ?_ ?_); rotate_left; refine ⟨[], rfl, ?_, trivial⟩; conv => whnf)
    | ((with_reducible refine pan_need ?_ ?_); rotate_left; refine ⟨[], rfl, ?_, trivial⟩; conv => whnf)
    | ((with_reducible refine pan_step ?_); refine ⟨[], rfl, ?_, trivial⟩; conv => whnf)
    | (with_reducible refine And.intro ?_ ?_)
    | ((with_reducible refine gs_eq ?_ ?_ ?_); exact rfl; exact rfl; (first | with_reducible exact map_app | with_reducible exact map_app3 | with_reducible exact map_app4 | exact map_snoc | exact rfl | skip))
    | ((with_reducible refine tok_eq ?_ ?_); exact rfl; (first | with_reducible exact map_app | with_reducible exact map_app3 | with_reducible exact map_app4 | exact map_snoc | exact rfl | skip))
    | ((with_reducible refine ren_guard ?_); refine gs_ren ?_ ?_ ?_; exact rfl; exact rfl; (first | exact rfl | skip))
    | exact @rfl AV _
    | exact @rfl Block _
    | exact @rfl (List AV) _
    | exact ble_le rfl
    | fail)
  all_goals first
    | ((exact twAt_start ha))
    | ((exact nat_next (by have := hI0.end_; omega)))
    | ((have := and_tt h; exact twAt_next hI0 (by omega) this.2))
    | ((have := (and_tt h).1; omega))
    | ((have := hI0.le; have := hI0.end_; omega))
    | ((rw [cut_to, twAt_cut (twAt_end hI0 (by rcases and_ff h with h | h; exact .inl (by omega); exact .inr ⟨by omega, h.2⟩))]; rfl))
    | skip
set_option maxHeartbeats 400000 in
theorem add_ok (text : Str) (t : Tk) (src : Str) (a : Nat) (ts : List Tk) (hv : (!valid t) = false) (hts : ts.length ≤ 1073741824) (ha : a + text.length ≤ 1073741824) : LCall Tryd.prog 44 [.ptr 1000000 0, .data (.str text), .data t.d] [(1000000, .cells [.data (.str src), .data (.i (a : Int)), .gs 1000001 4 (ts.map Tk.cs)]), (1000001, .tok 4 (ts.map Tk.cs).length)] (.ret (.data (.tuple []))) [(1000000, .cells [.data (.str src), .data (.i ((a + text.length : Nat) : Int)), .gs 1000001 4 ((ts ++ [at' t a]).map Tk.cs)]), (1000001, .tok 4 ((ts ++ [at' t a]).map Tk.cs).length)] := by
  refine lcall_of_wc tok hmix ⟨[], []⟩ Tryd.func44 rfl (by kernel_rfl) (by kernel_rfl) (by kernel_rfl) fun hf => ?_
  clear hf
  repeat' ((try (conv => whnf)) <;> first
    | with_reducible exact trivial
    | with_reducible exact rfl
    | with_reducible refine BrI.tt ?_
    | with_reducible refine BrI.ff ?_
    | with_reducible refine BrI.intro (fun h => ?_) (fun h => ?_)
    | (exact Bool.noConfusion (hv.symm.trans h))
    | ((with_reducible refine call_step ?_ ?_ ?_); rotate_left; (first | exact valid_call _ | fail))
    | ((with_reducible refine pan_stepA ?_); refine fin_step' [(1000000, 1000000), (1000001, 1000001)] rfl ?_ ?_)
    | ((with_reducible refine ret_step ?_); refine fin_step' [(1000000, 1000000), (1000001, 1000001)] rfl ?_ ?_)
    | (with_reducible refine fin_step' [(1000000, 1000000), (1000001, 1000001)] ?_ ?_ ?_; exact rfl)
    | (with_reducible refine ChooseI.l _ ?_)
    | ((with_reducible refine nilgs_step ?_ ?_ ?_ ?_ ?_ ?_) <;> exact rfl)
    | ((with_reducible refine tok0_step ?_ ?_ ?_ ?_) <;> exact rfl)
    | ((with_reducible refine kok_step ?_ ?_ ?_); exact rfl; exact rfl)
    | ((with_reducible refine idx_step ?_ ?_ ?_ ?_ ?_); exact rfl; exact rfl; rotate_left; (first | with_reducible exact idx_get ‹_› | fail))
    | ((with_reducible refine len_step ?_ ?_); exact rfl)
    | ((with_reducible refine app_step' ?_ ?_ ?_ ?_ ?_ ?_ ?_); exact rfl; exact rfl; exact rfl; exact rfl)
    | ((with_reducible refine nil_step' ?_ ?_ ?_ ?_); exact rfl; exact rfl)
    | ((with_reducible refine guard_step ?_ ?_ (fun hg => ?_) ?_); exact rfl)
    | ((with_reducible refine val_step ?_ ?_); with_reducible exact rfl; with_reducible exact rfl)
    | ((with_reducible refine same_step ?_ ?_); with_reducible exact rfl)
    | ((with_reducible refine chk_step ?_ ?_); kernel_rfl)
    | ((with_reducible refine ret_need ?_ ?_); rotate_left; refine ⟨[], rfl, ?_, trivial⟩; conv => whnf)
    | ((with_reducible refine pan_need ?_ ?_); rotate_left; refine ⟨[], rfl, ?_, trivial⟩; conv => whnf)
    | ((with_reducible refine pan_step ?_); refine ⟨[], rfl, ?_, trivial⟩; conv => whnf)
    | (with_reducible refine And.intro ?_ ?_)
    | ((with_reducible refine gs_eq ?_ ?_ ?_); exact rfl; exact rfl; (first | with_reducible exact map_app | with_reducible exact map_app3 | with_reducible exact map_app4 | exact map_snoc | exact rfl | skip))
    | ((with_reducible refine tok_eq ?_ ?_); exact rfl; (first | with_reducible exact map_app | with_reducible exact map_app3 | with_reducible exact map_app4 | exact map_snoc | exact rfl | skip))
    | ((with_reducible refine ren_guard ?_); refine gs_ren ?_ ?_ ?_; exact rfl; exact rfl; (first | exact rfl | skip))
    | exact @rfl AV _
    | exact @rfl Block _
    | exact @rfl (List AV) _
    | exact ble_le rfl
    | fail)
  all_goals (try simp only [Bool.cond_true_left, Bool.cond_false_right, Bool.cond_false_left, Bool.cond_true_right, Bool.not_eq_true', Bool.not_eq_false', bne, Ex.css_len, List.length_map, Int.toNat_zero] at *)
  all_goals first
    | omega
    | ((refine Eq.trans ?_ map_snoc; rfl))
    | (((conv => whnf); (with_reducible refine congrArg D.i (nat_add ?_)); omega))
    | (exfalso; simp_all; done)
    | skip
set_option maxHeartbeats 400000 in
theorem add_bad (text : Str) (t : Tk) (src : Str) (a : Nat) (ts : List Tk) (hv : (!valid t) = true) : LCall Tryd.prog 44 [.ptr 1000000 0, .data (.str text), .data t.d] [(1000000, .cells [.data (.str src), .data (.i (a : Int)), .gs 1000001 4 (ts.map Tk.cs)]), (1000001, .tok 4 (ts.map Tk.cs).length)] (.pan (.iface 42 (.data (.i (a : Int))))) [(1000000, .cells [.data (.str src), .data (.i (a : Int)), .gs 1000001 4 (ts.map Tk.cs)]), (1000001, .tok 4 (ts.map Tk.cs).length)] := by
  refine lcall_of_wc tok hmix ⟨[], []⟩ Tryd.func44 rfl (by kernel_rfl) (by kernel_rfl) (by kernel_rfl) fun hf => ?_
  clear hf
  repeat' ((try (conv => whnf)) <;> first
    | with_reducible exact trivial
    | with_reducible exact rfl
    | with_reducible refine BrI.tt ?_
    | with_reducible refine BrI.ff ?_
    | with_reducible refine BrI.intro (fun h => ?_) (fun h => ?_)
    | (exact Bool.noConfusion (hv.symm.trans h))
    | ((with_reducible refine call_step ?_ ?_ ?_); rotate_left; (first | exact valid_call _ | fail))
    | ((with_reducible refine pan_stepA ?_); refine fin_step' [(1000000, 1000000), (1000001, 1000001)] rfl ?_ ?_)
    | ((with_reducible refine ret_step ?_); refine fin_step' [(1000000, 1000000), (1000001, 1000001)] rfl ?_ ?_)
    | (with_reducible refine fin_step' [(1000000, 1000000), (1000001, 1000001)] ?_ ?_ ?_; exact rfl)
    | (with_reducible refine ChooseI.l _ ?_)
    | ((with_reducible refine nilgs_step ?_ ?_ ?_ ?_ ?_ ?_) <;> exact rfl)
    | ((with_reducible refine tok0_step ?_ ?_ ?_ ?_) <;> exact rfl)
    | ((with_reducible refine kok_step ?_ ?_ ?_); exact rfl; exact rfl)
    | ((with_reducible refine idx_step ?_ ?_ ?_ ?_ ?_); exact rfl; exact rfl; rotate_left; (first | with_reducible exact idx_get ‹_› | fail))
    | ((with_reducible refine len_step ?_ ?_); exact rfl)
    | ((with_reducible refine app_step' ?_ ?_ ?_ ?_ ?_ ?_ ?_); exact rfl; exact rfl; exact rfl; exact rfl)
    | ((with_reducible refine nil_step' ?_ ?_ ?_ ?_); exact rfl; exact rfl)
    | ((with_reducible refine guard_step ?_ ?_ (fun hg => ?_) ?_); exact rfl)
    | ((with_reducible refine val_step ?_ ?_); with_reducible exact rfl; with_reducible exact rfl)
    | ((with_reducible refine same_step ?_ ?_); with_reducible exact rfl)
    | ((with_reducible refine chk_step ?_ ?_); kernel_rfl)
    | ((with_reducible refine ret_need ?_ ?_); rotate_left; refine ⟨[], rfl, ?_, trivial⟩; conv => whnf)
    | ((with_reducible refine pan_need ?_ ?_); rotate_left; refine ⟨[], rfl, ?_, trivial⟩; conv => whnf)
    | ((with_reducible refine pan_step ?_); refine ⟨[], rfl, ?_, trivial⟩; conv => whnf)
    | (with_reducible refine And.intro ?_ ?_)
    | ((with_reducible refine gs_eq ?_ ?_ ?_); exact rfl; exact rfl; (first | with_reducible exact map_app | with_reducible exact map_app3 | with_reducible exact map_app4 | exact map_snoc | exact rfl | skip))
    | ((with_reducible refine tok_eq ?_ ?_); exact rfl; (first | with_reducible exact map_app | with_reducible exact map_app3 | with_reducible exact map_app4 | exact map_snoc | exact rfl | skip))
    | ((with_reducible refine ren_guard ?_); refine gs_ren ?_ ?_ ?_; exact rfl; exact rfl; (first | exact rfl | skip))
    | exact @rfl AV _
    | exact @rfl Block _
    | exact @rfl (List AV) _
    | exact ble_le rfl
    | fail)
set_option maxHeartbeats 400000 in
theorem wrong_call (src : Str) (a : Nat) (ts : List Tk)  : LCall Tryd.prog 25 [.ptr 1000000 0] [(1000000, .cells [.data (.str src), .data (.i (a : Int)), .gs 1000001 4 (ts.map Tk.cs)]), (1000001, .tok 4 (ts.map Tk.cs).length)] (.pan (.iface 42 (.data (.i (a : Int))))) [(1000000, .cells [.data (.str src), .data (.i (a : Int)), .gs 1000001 4 (ts.map Tk.cs)]), (1000001, .tok 4 (ts.map Tk.cs).length)] := by
  refine lcall_of_wc tok hmix ⟨[], []⟩ Tryd.func25 rfl (by kernel_rfl) (by kernel_rfl) (by kernel_rfl) fun hf => ?_
  clear hf
  repeat' ((try (conv => whnf)) <;> first
    | with_reducible exact trivial
    | with_reducible exact rfl
    | with_reducible refine BrI.tt ?_
    | with_reducible refine BrI.ff ?_
    | with_reducible refine BrI.intro (fun h => ?_) (fun h => ?_)
    | ((with_reducible refine pan_stepA ?_); refine fin_step' [(1000000, 1000000), (1000001, 1000001)] rfl ?_ ?_)
    | ((with_reducible refine ret_step ?_); refine fin_step' [(1000000, 1000000), (1000001, 1000001)] rfl ?_ ?_)
    | (with_reducible refine fin_step' [(1000000, 1000000), (1000001, 1000001)] ?_ ?_ ?_; exact rfl)
    | (with_reducible refine ChooseI.l _ ?_)
    | ((with_reducible refine nilgs_step ?_ ?_ ?_ ?_ ?_ ?_) <;> exact rfl)
    | ((with_reducible refine tok0_step ?_ ?_ ?_ ?_) <;> exact rfl)
    | ((with_reducible refine kok_step ?_ ?_ ?_); exact rfl; exact rfl)
    | ((with_reducible refine idx_step ?_ ?_ ?_ ?_ ?_); exact rfl; exact rfl; rotate_left; (first | with_reducible exact idx_get ‹_› | fail))
    | ((with_reducible refine len_step ?_ ?_); exact rfl)
    | ((with_reducible refine app_step' ?_ ?_ ?_ ?_ ?_ ?_ ?_); exact rfl; exact rfl; exact rfl; exact rfl)
    | ((with_reducible refine nil_step' ?_ ?_ ?_ ?_); exact rfl; exact rfl)
    | ((with_reducible refine guard_step ?_ ?_ (fun hg => ?_) ?_); exact rfl)
    | ((with_reducible refine val_step ?_ ?_); with_reducible exact rfl; with_reducible exact rfl)
    | ((with_reducible refine same_step ?_ ?_); with_reducible exact rfl)
    | ((with_reducible refine chk_step ?_ ?_); kernel_rfl)
    | ((with_reducible refine ret_need ?_ ?_); rotate_left; refine ⟨[], rfl, ?_, trivial⟩; conv => whnf)
    | ((with_reducible refine pan_need ?_ ?_); rotate_left; refine ⟨[], rfl, ?_, trivial⟩; conv => whnf)
    | ((with_reducible refine pan_step ?_); refine ⟨[], rfl, ?_, trivial⟩; conv => whnf)
    | (with_reducible refine And.intro ?_ ?_)
    | ((with_reducible refine gs_eq ?_ ?_ ?_); exact rfl; exact rfl; (first | with_reducible exact map_app | with_reducible exact map_app3 | with_reducible exact map_app4 | exact map_snoc | exact rfl | skip))
    | ((with_reducible refine tok_eq ?_ ?_); exact rfl; (first | with_reducible exact map_app | with_reducible exact map_app3 | with_reducible exact map_app4 | exact map_snoc | exact rfl | skip))
    | ((with_reducible refine ren_guard ?_); refine gs_ren ?_ ?_ ?_; exact rfl; exact rfl; (first | exact rfl | skip))
    | exact @rfl AV _
    | exact @rfl Block _
    | exact @rfl (List AV) _
    | exact ble_le rfl
    | fail)
set_option maxHeartbeats 400000 in
theorem space_call (src : Str) (a : Nat) (ts : List Tk) (ha : a ≤ src.length) (hs : src.length ≤ 1073741824) : LCall Tryd.prog 26 [.ptr 1000000 0] [(1000000, .cells [.data (.str src), .data (.i (a : Int)), .gs 1000001 4 (ts.map Tk.cs)]), (1000001, .tok 4 (ts.map Tk.cs).length)] (.ret (.data (.tuple []))) [(1000000, .cells [.data (.str src), .data (.i ((a + (Lx.run [1] src a).length : Nat) : Int)), .gs 1000001 4 (ts.map Tk.cs)]), (1000001, .tok 4 (ts.map Tk.cs).length)] := by
  refine lcall_of_wc tok hmix ⟨[], []⟩ Tryd.func26 rfl (by kernel_rfl) (by kernel_rfl) (by kernel_rfl) fun hf => ?_
  clear hf
  repeat' ((try (conv => whnf)) <;> first
    | with_reducible exact trivial
    | with_reducible exact rfl
    | with_reducible refine BrI.tt ?_
    | with_reducible refine BrI.ff ?_
    | with_reducible refine BrI.intro (fun h => ?_) (fun h => ?_)
    | ((with_reducible refine call_step ?_ ?_ ?_); rotate_left; (first | exact run_call [1] src a ts ha hs | fail))
    | ((with_reducible refine flat_step ?_ ?_); exact rfl)
    | ((with_reducible refine read_step ?_ ?_ ?_); rotate_left; (first | exact run_call [1] src a ts ha hs | fail))
    | ((with_reducible refine pan_stepA ?_); refine fin_step' [(1000000, 1000000), (1000001, 1000001)] rfl ?_ ?_)
    | ((with_reducible refine ret_step ?_); refine fin_step' [(1000000, 1000000), (1000001, 1000001)] rfl ?_ ?_)
    | (with_reducible refine fin_step' [(1000000, 1000000), (1000001, 1000001)] ?_ ?_ ?_; exact rfl)
    | (with_reducible refine ChooseI.l _ ?_)
    | ((with_reducible refine nilgs_step ?_ ?_ ?_ ?_ ?_ ?_) <;> exact rfl)
    | ((with_reducible refine tok0_step ?_ ?_ ?_ ?_) <;> exact rfl)
    | ((with_reducible refine kok_step ?_ ?_ ?_); exact rfl; exact rfl)
    | ((with_reducible refine idx_step ?_ ?_ ?_ ?_ ?_); exact rfl; exact rfl; rotate_left; (first | with_reducible exact idx_get ‹_› | fail))
    | ((with_reducible refine len_step ?_ ?_); exact rfl)
    | ((with_reducible refine app_step' ?_ ?_ ?_ ?_ ?_ ?_ ?_); exact rfl; exact rfl; exact rfl; exact rfl)
    | ((with_reducible refine nil_step' ?_ ?_ ?_ ?_); exact rfl; exact rfl)
    | ((with_reducible refine guard_step ?_ ?_ (fun hg => ?_) ?_); exact rfl)
    | ((with_reducible refine val_step ?_ ?_); with_reducible exact rfl; with_reducible exact rfl)
    | ((with_reducible refine same_step ?_ ?_); with_reducible exact rfl)
    | ((with_reducible refine chk_step ?_ ?_); kernel_rfl)
    | ((with_reducible refine ret_need ?_ ?_); rotate_left; refine ⟨[], rfl, ?_, trivial⟩; conv => whnf)
    | ((with_reducible refine pan_need ?_ ?_); rotate_left; refine ⟨[], rfl, ?_, trivial⟩; conv => whnf)
    | ((with_reducible refine pan_step ?_); refine ⟨[], rfl, ?_, trivial⟩; conv => whnf)
    | (with_reducible refine And.intro ?_ ?_)
    | ((with_reducible refine gs_eq ?_ ?_ ?_); exact rfl; exact rfl; (first | with_reducible exact map_app | with_reducible exact map_app3 | with_reducible exact map_app4 | exact map_snoc | exact rfl | skip))
    | ((with_reducible refine tok_eq ?_ ?_); exact rfl; (first | with_reducible exact map_app | with_reducible exact map_app3 | with_reducible exact map_app4 | exact map_snoc | exact rfl | skip))
    | ((with_reducible refine ren_guard ?_); refine gs_ren ?_ ?_ ?_; exact rfl; exact rfl; (first | exact rfl | skip))
    | exact @rfl AV _
    | exact @rfl Block _
    | exact @rfl (List AV) _
    | exact ble_le rfl
    | fail)
  all_goals (try simp only [Bool.cond_true_left, Bool.cond_false_right, Bool.cond_false_left, Bool.cond_true_right, Bool.not_eq_true', Bool.not_eq_false', bne, Ex.css_len, List.length_map, Int.toNat_zero] at *)
  all_goals first
    | omega
    | (((conv => whnf); have := twAt_in (p := fun c => has [1] (cls c)) ha; (with_reducible refine congrArg D.i (nat_add ?_)); simp only [Lx.run]; omega))
    | ((simp only [AV.ren]; rfl))
    | (exfalso; simp_all; done)
    | skip
set_option maxHeartbeats 400000 in
theorem name_ok (src : Str) (a : Nat) (ts : List Tk) (ha : a ≤ src.length) (hs : src.length ≤ 1073741824) (hts : ts.length ≤ 1073741824) (hv : (!valid ⟨1, Lx.run [2, 3, 5] src a, 0, 0⟩) = false) : LCall Tryd.prog 27 [.ptr 1000000 0] [(1000000, .cells [.data (.str src), .data (.i (a : Int)), .gs 1000001 4 (ts.map Tk.cs)]), (1000001, .tok 4 (ts.map Tk.cs).length)] (.ret (.data (.tuple []))) [(1000000, .cells [.data (.str src), .data (.i ((a + (Lx.run [2, 3, 5] src a).length : Nat) : Int)), .gs 1000001 4 ((ts ++ [at' ⟨1, Lx.run [2, 3, 5] src a, 0, 0⟩ a]).map Tk.cs)]), (1000001, .tok 4 ((ts ++ [at' ⟨1, Lx.run [2, 3, 5] src a, 0, 0⟩ a]).map Tk.cs).length)] := by
  have hin := twAt_in (p := fun c => has [2, 3, 5] (cls c)) ha
  refine lcall_of_wc tok hmix ⟨[], []⟩ Tryd.func27 rfl (by kernel_rfl) (by kernel_rfl) (by kernel_rfl) fun hf => ?_
  clear hf
  repeat' ((try (conv => whnf)) <;> first
    | with_reducible exact trivial
    | with_reducible exact rfl
    | with_reducible refine BrI.tt ?_
    | with_reducible refine BrI.ff ?_
    | with_reducible refine BrI.intro (fun h => ?_) (fun h => ?_)
    | ((with_reducible refine call_step ?_ ?_ ?_); rotate_left; (first | exact run_call [2, 3, 5] src a ts ha hs | fail))
    | ((with_reducible refine flat_step ?_ ?_); exact rfl)
    | ((with_reducible refine read_step ?_ ?_ ?_); rotate_left; (first | exact run_call [2, 3, 5] src a ts ha hs | fail))
    | ((first | with_reducible refine lent_step [(1000000, 1000000), (1000001, 1000001)] (add_ok (Lx.run [2, 3, 5] src a) ⟨1, Lx.run [2, 3, 5] src a, 0, 0⟩ src a ts hv hts (by simp only [Lx.run]; omega)) ?_ ?_ ?_ ?_ | with_reducible refine lent_step' [(1000000, 1000000), (1000001, 1000001)] (add_ok (Lx.run [2, 3, 5] src a) ⟨1, Lx.run [2, 3, 5] src a, 0, 0⟩ src a ts hv hts (by simp only [Lx.run]; omega)) ?_ ?_ ?_ ?_ | fail); rotate_left 0; exact rfl; (first | exact trivial | exact ⟨rfl, trivial⟩ | exact ⟨rfl, rfl, trivial⟩ | exact ⟨rfl, rfl, rfl, trivial⟩ | exact ⟨rfl, rfl, rfl, rfl, trivial⟩ | exact ⟨rfl, rfl, rfl, rfl, rfl, trivial⟩ | exact ⟨rfl, rfl, rfl, rfl, rfl, rfl, trivial⟩); exact rfl)
    | ((with_reducible refine pan_stepA ?_); refine fin_step' [(1000000, 1000000), (1000001, 1000001)] rfl ?_ ?_)
    | ((with_reducible refine ret_step ?_); refine fin_step' [(1000000, 1000000), (1000001, 1000001)] rfl ?_ ?_)
    | (with_reducible refine fin_step' [(1000000, 1000000), (1000001, 1000001)] ?_ ?_ ?_; exact rfl)
    | (with_reducible refine ChooseI.l _ ?_)
    | ((with_reducible refine nilgs_step ?_ ?_ ?_ ?_ ?_ ?_) <;> exact rfl)
    | ((with_reducible refine tok0_step ?_ ?_ ?_ ?_) <;> exact rfl)
    | ((with_reducible refine kok_step ?_ ?_ ?_); exact rfl; exact rfl)
    | ((with_reducible refine idx_step ?_ ?_ ?_ ?_ ?_); exact rfl; exact rfl; rotate_left; (first | with_reducible exact idx_get ‹_› | fail))
    | ((with_reducible refine len_step ?_ ?_); exact rfl)
    | ((with_reducible refine app_step' ?_ ?_ ?_ ?_ ?_ ?_ ?_); exact rfl; exact rfl; exact rfl; exact rfl)
    | ((with_reducible refine nil_step' ?_ ?_ ?_ ?_); exact rfl; exact rfl)
    | ((with_reducible refine guard_step ?_ ?_ (fun hg => ?_) ?_); exact rfl)
    | ((with_reducible refine val_step ?_ ?_); with_reducible exact rfl; with_reducible exact rfl)
    | ((with_reducible refine same_step ?_ ?_); with_reducible exact rfl)
    | ((with_reducible refine chk_step ?_ ?_); kernel_rfl)
    | ((with_reducible refine ret_need ?_ ?_); rotate_left; refine ⟨[], rfl, ?_, trivial⟩; conv => whnf)
    | ((with_reducible refine pan_need ?_ ?_); rotate_left; refine ⟨[], rfl, ?_, trivial⟩; conv => whnf)
    | ((with_reducible refine pan_step ?_); refine ⟨[], rfl, ?_, trivial⟩; conv => whnf)
    | (with_reducible refine And.intro ?_ ?_)
    | ((with_reducible refine gs_eq ?_ ?_ ?_); exact rfl; exact rfl; (first | with_reducible exact map_app | with_reducible exact map_app3 | with_reducible exact map_app4 | exact map_snoc | exact rfl | skip))
    | ((with_reducible refine tok_eq ?_ ?_); exact rfl; (first | with_reducible exact map_app | with_reducible exact map_app3 | with_reducible exact map_app4 | exact map_snoc | exact rfl | skip))
    | ((with_reducible refine ren_guard ?_); refine gs_ren ?_ ?_ ?_; exact rfl; exact rfl; (first | exact rfl | skip))
    | exact @rfl AV _
    | exact @rfl Block _
    | exact @rfl (List AV) _
    | exact ble_le rfl
    | fail)
  all_goals (try simp only [Bool.cond_true_left, Bool.cond_false_right, Bool.cond_false_left, Bool.cond_true_right, Bool.not_eq_true', Bool.not_eq_false', bne, Ex.css_len, List.length_map, Int.toNat_zero] at *)
  all_goals first
    | omega
    | ((simp only [AV.ren]; rfl))
    | (exfalso; simp_all; done)
    | skip
set_option maxHeartbeats 400000 in
theorem name_bad (src : Str) (a : Nat) (ts : List Tk) (ha : a ≤ src.length) (hs : src.length ≤ 1073741824) (hv : (!valid ⟨1, Lx.run [2, 3, 5] src a, 0, 0⟩) = true) : LCall Tryd.prog 27 [.ptr 1000000 0] [(1000000, .cells [.data (.str src), .data (.i (a : Int)), .gs 1000001 4 (ts.map Tk.cs)]), (1000001, .tok 4 (ts.map Tk.cs).length)] (.pan (.iface 42 (.data (.i (a : Int))))) [(1000000, .cells [.data (.str src), .data (.i (a : Int)), .gs 1000001 4 (ts.map Tk.cs)]), (1000001, .tok 4 (ts.map Tk.cs).length)] := by
  refine lcall_of_wc tok hmix ⟨[], []⟩ Tryd.func27 rfl (by kernel_rfl) (by kernel_rfl) (by kernel_rfl) fun hf => ?_
  clear hf
  repeat' ((try (conv => whnf)) <;> first
    | with_reducible exact trivial
    | with_reducible exact rfl
    | with_reducible refine BrI.tt ?_
    | with_reducible refine BrI.ff ?_
    | with_reducible refine BrI.intro (fun h => ?_) (fun h => ?_)
    | ((with_reducible refine call_step ?_ ?_ ?_); rotate_left; (first | exact run_call [2, 3, 5] src a ts ha hs | fail))
    | ((with_reducible refine flat_step ?_ ?_); exact rfl)
    | ((with_reducible refine read_step ?_ ?_ ?_); rotate_left; (first | exact run_call [2, 3, 5] src a ts ha hs | fail))
    | ((first | with_reducible refine lent_step [(1000000, 1000000), (1000001, 1000001)] (add_bad (Lx.run [2, 3, 5] src a) ⟨1, Lx.run [2, 3, 5] src a, 0, 0⟩ src a ts hv) ?_ ?_ ?_ ?_ | with_reducible refine lent_step' [(1000000, 1000000), (1000001, 1000001)] (add_bad (Lx.run [2, 3, 5] src a) ⟨1, Lx.run [2, 3, 5] src a, 0, 0⟩ src a ts hv) ?_ ?_ ?_ ?_ | fail); rotate_left 0; exact rfl; (first | exact trivial | exact ⟨rfl, trivial⟩ | exact ⟨rfl, rfl, trivial⟩ | exact ⟨rfl, rfl, rfl, trivial⟩ | exact ⟨rfl, rfl, rfl, rfl, trivial⟩ | exact ⟨rfl, rfl, rfl, rfl, rfl, trivial⟩ | exact ⟨rfl, rfl, rfl, rfl, rfl, rfl, trivial⟩); exact rfl)
    | ((with_reducible refine pan_stepA ?_); refine fin_step' [(1000000, 1000000), (1000001, 1000001)] rfl ?_ ?_)
    | ((with_reducible refine ret_step ?_); refine fin_step' [(1000000, 1000000), (1000001, 1000001)] rfl ?_ ?_)
    | (with_reducible refine fin_step' [(1000000, 1000000), (1000001, 1000001)] ?_ ?_ ?_; exact rfl)
    | (with_reducible refine ChooseI.l _ ?_)
    | ((with_reducible refine nilgs_step ?_ ?_ ?_ ?_ ?_ ?_) <;> exact rfl)
    | ((with_reducible refine tok0_step ?_ ?_ ?_ ?_) <;> exact rfl)
    | ((with_reducible refine kok_step ?_ ?_ ?_); exact rfl; exact rfl)
    | ((with_reducible refine idx_step ?_ ?_ ?_ ?_ ?_); exact rfl; exact rfl; rotate_left; (first | with_reducible exact idx_get ‹_› | fail))
    | ((with_reducible refine len_step ?_ ?_); exact rfl)
    | ((with_reducible refine app_step' ?_ ?_ ?_ ?_ ?_ ?_ ?_); exact rfl; exact rfl; exact rfl; exact rfl)
    | ((with_reducible refine nil_step' ?_ ?_ ?_ ?_); exact rfl; exact rfl)
    | ((with_reducible refine guard_step ?_ ?_ (fun hg => ?_) ?_); exact rfl)
    | ((with_reducible refine val_step ?_ ?_); with_reducible exact rfl; with_reducible exact rfl)
    | ((with_reducible refine same_step ?_ ?_); with_reducible exact rfl)
    | ((with_reducible refine chk_step ?_ ?_); kernel_rfl)
    | ((with_reducible refine ret_need ?_ ?_); rotate_left; refine ⟨[], rfl, ?_, trivial⟩; conv => whnf)
    | ((with_reducible refine pan_need ?_ ?_); rotate_left; refine ⟨[], rfl, ?_, trivial⟩; conv => whnf)
    | ((with_reducible refine pan_step ?_); refine ⟨[], rfl, ?_, trivial⟩; conv => whnf)
    | (with_reducible refine And.intro ?_ ?_)
    | ((with_reducible refine gs_eq ?_ ?_ ?_); exact rfl; exact rfl; (first | with_reducible exact map_app | with_reducible exact map_app3 | with_reducible exact map_app4 | exact map_snoc | exact rfl | skip))
    | ((with_reducible refine tok_eq ?_ ?_); exact rfl; (first | with_reducible exact map_app | with_reducible exact map_app3 | with_reducible exact map_app4 | exact map_snoc | exact rfl | skip))
    | ((with_reducible refine ren_guard ?_); refine gs_ren ?_ ?_ ?_; exact rfl; exact rfl; (first | exact rfl | skip))
    | exact @rfl AV _
    | exact @rfl Block _
    | exact @rfl (List AV) _
    | exact ble_le rfl
    | fail)
  all_goals (try simp only [Bool.cond_true_left, Bool.cond_false_right, Bool.cond_false_left, Bool.cond_true_right, Bool.not_eq_true', Bool.not_eq_false', bne, Ex.css_len, List.length_map, Int.toNat_zero] at *)
  all_goals first
    | omega
    | ((simp only [AV.ren]; rfl))
    | (exfalso; simp_all; done)
    | skip
end Go.Proofs.YtanmpkhhmjfbnaaDoor

namespace Go.Proofs.YtanmpkhhmjfbnaaDoor
open Go.Fw Go.Fw.Lx
set_option maxRecDepth 10000
set_option linter.unusedSectionVars false
variable [GlobInt]
set_option maxHeartbeats 400000 in
theorem number_ok (src : Str) (a : Nat) (ts : List Tk) (v : Int) (ha : a ≤ src.length) (hs : src.length ≤ 1073741824) (hts : ts.length ≤ 1073741824) (hv : Lib.atoiAll (Lx.run [3] src a) = .ok v) (hi : (!(Lib.itoa v == (Lx.run [3] src a))) = false) (hw : (!valid ⟨2, [], v, 0⟩) = false) : LCall Tryd.prog 28 [.ptr 1000000 0] [(1000000, .cells [.data (.str src), .data (.i (a : Int)), .gs 1000001 4 (ts.map Tk.cs)]), (1000001, .tok 4 (ts.map Tk.cs).length)] (.ret (.data (.tuple []))) [(1000000, .cells [.data (.str src), .data (.i ((a + (Lx.run [3] src a).length : Nat) : Int)), .gs 1000001 4 ((ts ++ [at' ⟨2, [], v, 0⟩ a]).map Tk.cs)]), (1000001, .tok 4 ((ts ++ [at' ⟨2, [], v, 0⟩ a]).map Tk.cs).length)] := by
  have hin := twAt_in (p := fun c => has [3] (cls c)) ha
  have hsz : (Lx.run [3] src a).length ≤ 9223372036854775806 := by simp only [Lx.run]; omega
  refine lcall_of_wc tok hmix ⟨[], []⟩ Tryd.func28 rfl (by kernel_rfl) (by kernel_rfl) (by kernel_rfl) fun hf => ?_
  clear hf
  repeat' ((try (conv => whnf)) <;> first
    | with_reducible exact trivial
    | with_reducible exact rfl
    | with_reducible refine BrI.tt ?_
    | with_reducible refine BrI.ff ?_
    | with_reducible refine BrI.intro (fun h => ?_) (fun h => ?_)
    | ((with_reducible refine isC_step ?_ ?_); exact rfl)
    | (exact Bool.noConfusion (hi.symm.trans h))
    | ((with_reducible refine call_step ?_ ?_ ?_); rotate_left; (first | exact run_call [3] src a ts ha hs | exact itoa_call v (atoi_bounds hv).1 (atoi_bounds hv).2 | exact atoi_ok _ v hsz hv | fail))
    | ((with_reducible refine flat_step ?_ ?_); exact rfl)
    | ((with_reducible refine read_step ?_ ?_ ?_); rotate_left; (first | exact run_call [3] src a ts ha hs | exact itoa_call v (atoi_bounds hv).1 (atoi_bounds hv).2 | exact atoi_ok _ v hsz hv | fail))
    | ((first | with_reducible refine lent_step [(1000000, 1000000), (1000001, 1000001)] (add_ok (Lx.run [3] src a) ⟨2, [], v, 0⟩ src a ts hw hts (by simp only [Lx.run]; omega)) ?_ ?_ ?_ ?_ | with_reducible refine lent_step' [(1000000, 1000000), (1000001, 1000001)] (add_ok (Lx.run [3] src a) ⟨2, [], v, 0⟩ src a ts hw hts (by simp only [Lx.run]; omega)) ?_ ?_ ?_ ?_ | fail); rotate_left 0; exact rfl; (first | exact trivial | exact ⟨rfl, trivial⟩ | exact ⟨rfl, rfl, trivial⟩ | exact ⟨rfl, rfl, rfl, trivial⟩ | exact ⟨rfl, rfl, rfl, rfl, trivial⟩ | exact ⟨rfl, rfl, rfl, rfl, rfl, trivial⟩ | exact ⟨rfl, rfl, rfl, rfl, rfl, rfl, trivial⟩); exact rfl)
    | ((with_reducible refine pan_stepA ?_); refine fin_step' [(1000000, 1000000), (1000001, 1000001)] rfl ?_ ?_)
    | ((with_reducible refine ret_step ?_); refine fin_step' [(1000000, 1000000), (1000001, 1000001)] rfl ?_ ?_)
    | (with_reducible refine fin_step' [(1000000, 1000000), (1000001, 1000001)] ?_ ?_ ?_; exact rfl)
    | (with_reducible refine ChooseI.l _ ?_)
    | ((with_reducible refine nilgs_step ?_ ?_ ?_ ?_ ?_ ?_) <;> exact rfl)
    | ((with_reducible refine tok0_step ?_ ?_ ?_ ?_) <;> exact rfl)
    | ((with_reducible refine kok_step ?_ ?_ ?_); exact rfl; exact rfl)
    | ((with_reducible refine idx_step ?_ ?_ ?_ ?_ ?_); exact rfl; exact rfl; rotate_left; (first | with_reducible exact idx_get ‹_› | fail))
    | ((with_reducible refine len_step ?_ ?_); exact rfl)
    | ((with_reducible refine app_step' ?_ ?_ ?_ ?_ ?_ ?_ ?_); exact rfl; exact rfl; exact rfl; exact rfl)
    | ((with_reducible refine nil_step' ?_ ?_ ?_ ?_); exact rfl; exact rfl)
    | ((with_reducible refine guard_step ?_ ?_ (fun hg => ?_) ?_); exact rfl)
    | ((with_reducible refine val_step ?_ ?_); with_reducible exact rfl; with_reducible exact rfl)
    | ((with_reducible refine same_step ?_ ?_); with_reducible exact rfl)
    | ((with_reducible refine chk_step ?_ ?_); kernel_rfl)
    | ((with_reducible refine ret_need ?_ ?_); rotate_left; refine ⟨[], rfl, ?_, trivial⟩; conv => whnf)
    | ((with_reducible refine pan_need ?_ ?_); rotate_left; refine ⟨[], rfl, ?_, trivial⟩; conv => whnf)
    | ((with_reducible refine pan_step ?_); refine ⟨[], rfl, ?_, trivial⟩; conv => whnf)
    | (with_reducible refine And.intro ?_ ?_)
    | ((with_reducible refine gs_eq ?_ ?_ ?_); exact rfl; exact rfl; (first | with_reducible exact map_app | with_reducible exact map_app3 | with_reducible exact map_app4 | exact map_snoc | exact rfl | skip))
    | ((with_reducible refine tok_eq ?_ ?_); exact rfl; (first | with_reducible exact map_app | with_reducible exact map_app3 | with_reducible exact map_app4 | exact map_snoc | exact rfl | skip))
    | ((with_reducible refine ren_guard ?_); refine gs_ren ?_ ?_ ?_; exact rfl; exact rfl; (first | exact rfl | skip))
    | exact @rfl AV _
    | exact @rfl Block _
    | exact @rfl (List AV) _
    | exact ble_le rfl
    | fail)
  all_goals first
    | ((simp only [AV.ren]; rfl))
    | skip
set_option maxHeartbeats 400000 in
theorem number_bad1 (src : Str) (a : Nat) (ts : List Tk) (v : Int) (ha : a ≤ src.length) (hs : src.length ≤ 1073741824) (hv : Lib.atoiAll (Lx.run [3] src a) = .ok v) (hi : (!(Lib.itoa v == (Lx.run [3] src a))) = true) : LCall Tryd.prog 28 [.ptr 1000000 0] [(1000000, .cells [.data (.str src), .data (.i (a : Int)), .gs 1000001 4 (ts.map Tk.cs)]), (1000001, .tok 4 (ts.map Tk.cs).length)] (.pan (.iface 42 (.data (.i (a : Int))))) [(1000000, .cells [.data (.str src), .data (.i (a : Int)), .gs 1000001 4 (ts.map Tk.cs)]), (1000001, .tok 4 (ts.map Tk.cs).length)] := by
  have hin := twAt_in (p := fun c => has [3] (cls c)) ha
  have hsz : (Lx.run [3] src a).length ≤ 9223372036854775806 := by simp only [Lx.run]; omega
  refine lcall_of_wc tok hmix ⟨[], []⟩ Tryd.func28 rfl (by kernel_rfl) (by kernel_rfl) (by kernel_rfl) fun hf => ?_
  clear hf
  repeat' ((try (conv => whnf)) <;> first
    | with_reducible exact trivial
    | with_reducible exact rfl
    | with_reducible refine BrI.tt ?_
    | with_reducible refine BrI.ff ?_
    | with_reducible refine BrI.intro (fun h => ?_) (fun h => ?_)
    | ((with_reducible refine isC_step ?_ ?_); exact rfl)
    | (exact Bool.noConfusion (hi.symm.trans h))
    | ((with_reducible refine call_step ?_ ?_ ?_); rotate_left; (first | exact run_call [3] src a ts ha hs | exact itoa_call v (atoi_bounds hv).1 (atoi_bounds hv).2 | exact atoi_ok _ v hsz hv | fail))
    | ((with_reducible refine flat_step ?_ ?_); exact rfl)
    | ((with_reducible refine read_step ?_ ?_ ?_); rotate_left; (first | exact run_call [3] src a ts ha hs | exact itoa_call v (atoi_bounds hv).1 (atoi_bounds hv).2 | exact atoi_ok _ v hsz hv | fail))
    | ((with_reducible refine pan_stepA ?_); refine fin_step' [(1000000, 1000000), (1000001, 1000001)] rfl ?_ ?_)
    | ((with_reducible refine ret_step ?_); refine fin_step' [(1000000, 1000000), (1000001, 1000001)] rfl ?_ ?_)
    | (with_reducible refine fin_step' [(1000000, 1000000), (1000001, 1000001)] ?_ ?_ ?_; exact rfl)
    | (with_reducible refine ChooseI.l _ ?_)
    | ((with_reducible refine nilgs_step ?_ ?_ ?_ ?_ ?_ ?_) <;> exact rfl)
    | ((with_reducible refine tok0_step ?_ ?_ ?_ ?_) <;> exact rfl)
    | ((with_reducible refine kok_step ?_ ?_ ?_); exact rfl; exact rfl)
    | ((with_reducible refine idx_step ?_ ?_ ?_ ?_ ?_); exact rfl; exact rfl; rotate_left; (first | with_reducible exact idx_get ‹_› | fail))
    | ((with_reducible refine len_step ?_ ?_); exact rfl)
    | ((with_reducible refine app_step' ?_ ?_ ?_ ?_ ?_ ?_ ?_); exact rfl; exact rfl; exact rfl; exact rfl)
    | ((with_reducible refine nil_step' ?_ ?_ ?_ ?_); exact rfl; exact rfl)
    | ((with_reducible refine guard_step ?_ ?_ (fun hg => ?_) ?_); exact rfl)
    | ((with_reducible refine val_step ?_ ?_); with_reducible exact rfl; with_reducible exact rfl)
    | ((with_reducible refine same_step ?_ ?_); with_reducible exact rfl)
    | ((with_reducible refine chk_step ?_ ?_); kernel_rfl)
    | ((with_reducible refine ret_need ?_ ?_); rotate_left; refine ⟨[], rfl, ?_, trivial⟩; conv => whnf)
    | ((with_reducible refine pan_need ?_ ?_); rotate_left; refine ⟨[], rfl, ?_, trivial⟩; conv => whnf)
    | ((with_reducible refine pan_step ?_); refine ⟨[], rfl, ?_, trivial⟩; conv => whnf)
    | (with_reducible refine And.intro ?_ ?_)
    | ((with_reducible refine gs_eq ?_ ?_ ?_); exact rfl; exact rfl; (first | with_reducible exact map_app | with_reducible exact map_app3 | with_reducible exact map_app4 | exact map_snoc | exact rfl | skip))
    | ((with_reducible refine tok_eq ?_ ?_); exact rfl; (first | with_reducible exact map_app | with_reducible exact map_app3 | with_reducible exact map_app4 | exact map_snoc | exact rfl | skip))
    | ((with_reducible refine ren_guard ?_); refine gs_ren ?_ ?_ ?_; exact rfl; exact rfl; (first | exact rfl | skip))
    | exact @rfl AV _
    | exact @rfl Block _
    | exact @rfl (List AV) _
    | exact ble_le rfl
    | fail)
  all_goals first
    | ((simp only [AV.ren]; rfl))
    | skip
set_option maxHeartbeats 400000 in
theorem number_bad2 (src : Str) (a : Nat) (ts : List Tk) (v : Int) (ha : a ≤ src.length) (hs : src.length ≤ 1073741824) (hv : Lib.atoiAll (Lx.run [3] src a) = .ok v) (hi : (!(Lib.itoa v == (Lx.run [3] src a))) = false) (hw : (!valid ⟨2, [], v, 0⟩) = true) : LCall Tryd.prog 28 [.ptr 1000000 0] [(1000000, .cells [.data (.str src), .data (.i (a : Int)), .gs 1000001 4 (ts.map Tk.cs)]), (1000001, .tok 4 (ts.map Tk.cs).length)] (.pan (.iface 42 (.data (.i (a : Int))))) [(1000000, .cells [.data (.str src), .data (.i (a : Int)), .gs 1000001 4 (ts.map Tk.cs)]), (1000001, .tok 4 (ts.map Tk.cs).length)] := by
  have hin := twAt_in (p := fun c => has [3] (cls c)) ha
  have hsz : (Lx.run [3] src a).length ≤ 9223372036854775806 := by simp only [Lx.run]; omega
  refine lcall_of_wc tok hmix ⟨[], []⟩ Tryd.func28 rfl (by kernel_rfl) (by kernel_rfl) (by kernel_rfl) fun hf => ?_
  clear hf
  repeat' ((try (conv => whnf)) <;> first
    | with_reducible exact trivial
    | with_reducible exact rfl
    | with_reducible refine BrI.tt ?_
    | with_reducible refine BrI.ff ?_
    | with_reducible refine BrI.intro (fun h => ?_) (fun h => ?_)
    | ((with_reducible refine isC_step ?_ ?_); exact rfl)
    | (exact Bool.noConfusion (hi.symm.trans h))
    | ((with_reducible refine call_step ?_ ?_ ?_); rotate_left; (first | exact run_call [3] src a ts ha hs | exact itoa_call v (atoi_bounds hv).1 (atoi_bounds hv).2 | exact atoi_ok _ v hsz hv | fail))
    | ((with_reducible refine flat_step ?_ ?_); exact rfl)
    | ((with_reducible refine read_step ?_ ?_ ?_); rotate_left; (first | exact run_call [3] src a ts ha hs | exact itoa_call v (atoi_bounds hv).1 (atoi_bounds hv).2 | exact atoi_ok _ v hsz hv | fail))
    | ((first | with_reducible refine lent_step [(1000000, 1000000), (1000001, 1000001)] (add_bad (Lx.run [3] src a) ⟨2, [], v, 0⟩ src a ts hw) ?_ ?_ ?_ ?_ | with_reducible refine lent_step' [(1000000, 1000000), (1000001, 1000001)] (add_bad (Lx.run [3] src a) ⟨2, [], v, 0⟩ src a ts hw) ?_ ?_ ?_ ?_ | fail); rotate_left 0; exact rfl; (first | exact trivial | exact ⟨rfl, trivial⟩ | exact ⟨rfl, rfl, trivial⟩ | exact ⟨rfl, rfl, rfl, trivial⟩ | exact ⟨rfl, rfl, rfl, rfl, trivial⟩ | exact ⟨rfl, rfl, rfl, rfl, rfl, trivial⟩ | exact ⟨rfl, rfl, rfl, rfl, rfl, rfl, trivial⟩); exact rfl)
    | ((with_reducible refine pan_stepA ?_); refine fin_step' [(1000000, 1000000), (1000001, 1000001)] rfl ?_ ?_)
    | ((with_reducible refine ret_step ?_); refine fin_step' [(1000000, 1000000), (1000001, 1000001)] rfl ?_ ?_)
    | (with_reducible refine fin_step' [(1000000, 1000000), (1000001, 1000001)] ?_ ?_ ?_; exact rfl)
    | (with_reducible refine ChooseI.l _ ?_)
    | ((with_reducible refine nilgs_step ?_ ?_ ?_ ?_ ?_ ?_) <;> exact rfl)
    | ((with_reducible refine tok0_step ?_ ?_ ?_ ?_) <;> exact rfl)
    | ((with_reducible refine kok_step ?_ ?_ ?_); exact rfl; exact rfl)
    | ((with_reducible refine idx_step ?_ ?_ ?_ ?_ ?_); exact rfl; exact rfl; rotate_left; (first | with_reducible exact idx_get ‹_› | fail))
    | ((with_reducible refine len_step ?_ ?_); exact rfl)
    | ((with_reducible refine app_step' ?_ ?_ ?_ ?_ ?_ ?_ ?_); exact rfl; exact rfl; exact rfl; exact rfl)
    | ((with_reducible refine nil_step' ?_ ?_ ?_ ?_); exact rfl; exact rfl)
    | ((with_reducible refine guard_step ?_ ?_ (fun hg => ?_) ?_); exact rfl)
    | ((with_reducible refine val_step ?_ ?_); with_reducible exact rfl; with_reducible exact rfl)
    | ((with_reducible refine same_step ?_ ?_); with_reducible exact rfl)
    | ((with_reducible refine chk_step ?_ ?_); kernel_rfl)
    | ((with_reducible refine ret_need ?_ ?_); rotate_left; refine ⟨[], rfl, ?_, trivial⟩; conv => whnf)
    | ((with_reducible refine pan_need ?_ ?_); rotate_left; refine ⟨[], rfl, ?_, trivial⟩; conv => whnf)
    | ((with_reducible refine pan_step ?_); refine ⟨[], rfl, ?_, trivial⟩; conv => whnf)
    | (with_reducible refine And.intro ?_ ?_)
    | ((with_reducible refine gs_eq ?_ ?_ ?_); exact rfl; exact rfl; (first | with_reducible exact map_app | with_reducible exact map_app3 | with_reducible exact map_app4 | exact map_snoc | exact rfl | skip))
    | ((with_reducible refine tok_eq ?_ ?_); exact rfl; (first | with_reducible exact map_app | with_reducible exact map_app3 | with_reducible exact map_app4 | exact map_snoc | exact rfl | skip))
    | ((with_reducible refine ren_guard ?_); refine gs_ren ?_ ?_ ?_; exact rfl; exact rfl; (first | exact rfl | skip))
    | exact @rfl AV _
    | exact @rfl Block _
    | exact @rfl (List AV) _
    | exact ble_le rfl
    | fail)
  all_goals first
    | ((simp only [AV.ren]; rfl))
    | skip
set_option maxHeartbeats 400000 in
theorem number_bad3 (src : Str) (a : Nat) (ts : List Tk) (ha : a ≤ src.length) (hs : src.length ≤ 1073741824) (hv : Lib.atoiAll (Lx.run [3] src a) = .range) : LCall Tryd.prog 28 [.ptr 1000000 0] [(1000000, .cells [.data (.str src), .data (.i (a : Int)), .gs 1000001 4 (ts.map Tk.cs)]), (1000001, .tok 4 (ts.map Tk.cs).length)] (.pan (.iface 42 (.data (.i (a : Int))))) [(1000000, .cells [.data (.str src), .data (.i (a : Int)), .gs 1000001 4 (ts.map Tk.cs)]), (1000001, .tok 4 (ts.map Tk.cs).length)] := by
  have hin := twAt_in (p := fun c => has [3] (cls c)) ha
  have hsz : (Lx.run [3] src a).length ≤ 281474976710656 := by simp only [Lx.run]; omega
  refine lcall_of_wc tok hmix ⟨[], []⟩ Tryd.func28 rfl (by kernel_rfl) (by kernel_rfl) (by kernel_rfl) fun hf => ?_
  clear hf
  repeat' ((try (conv => whnf)) <;> first
    | with_reducible exact trivial
    | with_reducible exact rfl
    | with_reducible refine BrI.tt ?_
    | with_reducible refine BrI.ff ?_
    | with_reducible refine BrI.intro (fun h => ?_) (fun h => ?_)
    | (exact Bool.noConfusion (h : true = false))
    | ((with_reducible refine guard_step ?_ (.data (.str [])) (fun hg => ?_) ?_); exact rfl; exact Bool.noConfusion (hg : false = true))
    | ((with_reducible refine call_step ?_ ?_ ?_); rotate_left; (first | exact run_call [3] src a ts ha hs | exact atoi_range _ hsz hv | fail))
    | ((with_reducible refine flat_step ?_ ?_); exact rfl)
    | ((with_reducible refine read_step ?_ ?_ ?_); rotate_left; (first | exact run_call [3] src a ts ha hs | exact atoi_range _ hsz hv | fail))
    | ((with_reducible refine pan_stepA ?_); refine fin_step' [(1000000, 1000000), (1000001, 1000001)] rfl ?_ ?_)
    | ((with_reducible refine ret_step ?_); refine fin_step' [(1000000, 1000000), (1000001, 1000001)] rfl ?_ ?_)
    | (with_reducible refine fin_step' [(1000000, 1000000), (1000001, 1000001)] ?_ ?_ ?_; exact rfl)
    | (with_reducible refine ChooseI.l _ ?_)
    | ((with_reducible refine nilgs_step ?_ ?_ ?_ ?_ ?_ ?_) <;> exact rfl)
    | ((with_reducible refine tok0_step ?_ ?_ ?_ ?_) <;> exact rfl)
    | ((with_reducible refine kok_step ?_ ?_ ?_); exact rfl; exact rfl)
    | ((with_reducible refine idx_step ?_ ?_ ?_ ?_ ?_); exact rfl; exact rfl; rotate_left; (first | with_reducible exact idx_get ‹_› | fail))
    | ((with_reducible refine len_step ?_ ?_); exact rfl)
    | ((with_reducible refine app_step' ?_ ?_ ?_ ?_ ?_ ?_ ?_); exact rfl; exact rfl; exact rfl; exact rfl)
    | ((with_reducible refine nil_step' ?_ ?_ ?_ ?_); exact rfl; exact rfl)
    | ((with_reducible refine guard_step ?_ ?_ (fun hg => ?_) ?_); exact rfl)
    | ((with_reducible refine val_step ?_ ?_); with_reducible exact rfl; with_reducible exact rfl)
    | ((with_reducible refine same_step ?_ ?_); with_reducible exact rfl)
    | ((with_reducible refine chk_step ?_ ?_); kernel_rfl)
    | ((with_reducible refine ret_need ?_ ?_); rotate_left; refine ⟨[], rfl, ?_, trivial⟩; conv => whnf)
    | ((with_reducible refine pan_need ?_ ?_); rotate_left; refine ⟨[], rfl, ?_, trivial⟩; conv => whnf)
    | ((with_reducible refine pan_step ?_); refine ⟨[], rfl, ?_, trivial⟩; conv => whnf)
    | (with_reducible refine And.intro ?_ ?_)
    | ((with_reducible refine gs_eq ?_ ?_ ?_); exact rfl; exact rfl; (first | with_reducible exact map_app | with_reducible exact map_app3 | with_reducible exact map_app4 | exact map_snoc | exact rfl | skip))
    | ((with_reducible refine tok_eq ?_ ?_); exact rfl; (first | with_reducible exact map_app | with_reducible exact map_app3 | with_reducible exact map_app4 | exact map_snoc | exact rfl | skip))
    | ((with_reducible refine ren_guard ?_); refine gs_ren ?_ ?_ ?_; exact rfl; exact rfl; (first | exact rfl | skip))
    | exact @rfl AV _
    | exact @rfl Block _
    | exact @rfl (List AV) _
    | exact ble_le rfl
    | fail)
set_option maxHeartbeats 400000 in
theorem sign_cmt (src : Str) (a : Nat) (ts : List Tk) (ha : a ≤ src.length) (hs : src.length ≤ 1073741824) (hp : Lib.hasPrefix (src.drop a) [47, 47] = true) : LCall Tryd.prog 29 [.ptr 1000000 0] [(1000000, .cells [.data (.str src), .data (.i (a : Int)), .gs 1000001 4 (ts.map Tk.cs)]), (1000001, .tok 4 (ts.map Tk.cs).length)] (.ret (.data (.tuple []))) [(1000000, .cells [.data (.str src), .data (.i ((a + cmt (src.drop a) : Nat) : Int)), .gs 1000001 4 (ts.map Tk.cs)]), (1000001, .tok 4 (ts.map Tk.cs).length)] := by
  refine lcall_of_wc tok hmix ⟨[], []⟩ Tryd.func29 rfl (by kernel_rfl) (by kernel_rfl) (by kernel_rfl) fun hf => ?_
  clear hf
  repeat' ((try (conv => whnf)) <;> first
    | with_reducible exact trivial
    | with_reducible exact rfl
    | with_reducible refine BrI.tt ?_
    | with_reducible refine BrI.ff ?_
    | with_reducible refine BrI.intro (fun h => ?_) (fun h => ?_)
    | (exact Bool.noConfusion (hp.symm.trans h))
    | ((with_reducible refine call_step ?_ ?_ ?_); rotate_left; (first | exact prefix_call _ _ | exact indexByte_call (src.drop a) 10 | fail))
    | ((with_reducible refine pan_stepA ?_); refine fin_step' [(1000000, 1000000), (1000001, 1000001)] rfl ?_ ?_)
    | ((with_reducible refine ret_step ?_); refine fin_step' [(1000000, 1000000), (1000001, 1000001)] rfl ?_ ?_)
    | (with_reducible refine fin_step' [(1000000, 1000000), (1000001, 1000001)] ?_ ?_ ?_; exact rfl)
    | (with_reducible refine ChooseI.l _ ?_)
    | ((with_reducible refine nilgs_step ?_ ?_ ?_ ?_ ?_ ?_) <;> exact rfl)
    | ((with_reducible refine tok0_step ?_ ?_ ?_ ?_) <;> exact rfl)
    | ((with_reducible refine kok_step ?_ ?_ ?_); exact rfl; exact rfl)
    | ((with_reducible refine idx_step ?_ ?_ ?_ ?_ ?_); exact rfl; exact rfl; rotate_left; (first | with_reducible exact idx_get ‹_› | fail))
    | ((with_reducible refine len_step ?_ ?_); exact rfl)
    | ((with_reducible refine app_step' ?_ ?_ ?_ ?_ ?_ ?_ ?_); exact rfl; exact rfl; exact rfl; exact rfl)
    | ((with_reducible refine nil_step' ?_ ?_ ?_ ?_); exact rfl; exact rfl)
    | ((with_reducible refine guard_step ?_ ?_ (fun hg => ?_) ?_); exact rfl)
    | ((with_reducible refine val_step ?_ ?_); with_reducible exact rfl; with_reducible exact rfl)
    | ((with_reducible refine same_step ?_ ?_); with_reducible exact rfl)
    | ((with_reducible refine chk_step ?_ ?_); kernel_rfl)
    | ((with_reducible refine ret_need ?_ ?_); rotate_left; refine ⟨[], rfl, ?_, trivial⟩; conv => whnf)
    | ((with_reducible refine pan_need ?_ ?_); rotate_left; refine ⟨[], rfl, ?_, trivial⟩; conv => whnf)
    | ((with_reducible refine pan_step ?_); refine ⟨[], rfl, ?_, trivial⟩; conv => whnf)
    | (with_reducible refine And.intro ?_ ?_)
    | ((with_reducible refine gs_eq ?_ ?_ ?_); exact rfl; exact rfl; (first | with_reducible exact map_app | with_reducible exact map_app3 | with_reducible exact map_app4 | exact map_snoc | exact rfl | skip))
    | ((with_reducible refine tok_eq ?_ ?_); exact rfl; (first | with_reducible exact map_app | with_reducible exact map_app3 | with_reducible exact map_app4 | exact map_snoc | exact rfl | skip))
    | ((with_reducible refine ren_guard ?_); refine gs_ren ?_ ?_ ?_; exact rfl; exact rfl; (first | exact rfl | skip))
    | exact @rfl AV _
    | exact @rfl Block _
    | exact @rfl (List AV) _
    | exact ble_le rfl
    | fail)
  all_goals first
    | (((conv => whnf); exact sign_lt ha hs h))
    | (((conv => whnf); exact sign_no ha h))
    | (omega)
    | skip
set_option maxHeartbeats 400000 in
theorem sign_ok (src : Str) (a : Nat) (ts : List Tk) (ha : a ≤ src.length) (hs : src.length ≤ 1073741824) (hts : ts.length ≤ 1073741824) (hl : a < src.length) (hp : Lib.hasPrefix (src.drop a) [47, 47] = false) (hw : (!valid ⟨3, (src.take (a + 1)).drop a, 0, 0⟩) = false) : LCall Tryd.prog 29 [.ptr 1000000 0] [(1000000, .cells [.data (.str src), .data (.i (a : Int)), .gs 1000001 4 (ts.map Tk.cs)]), (1000001, .tok 4 (ts.map Tk.cs).length)] (.ret (.data (.tuple []))) [(1000000, .cells [.data (.str src), .data (.i ((a + ((src.take (a + 1)).drop a).length : Nat) : Int)), .gs 1000001 4 ((ts ++ [at' ⟨3, (src.take (a + 1)).drop a, 0, 0⟩ a]).map Tk.cs)]), (1000001, .tok 4 ((ts ++ [at' ⟨3, (src.take (a + 1)).drop a, 0, 0⟩ a]).map Tk.cs).length)] := by
  have e1 : (src.drop a).take 1 = (src.take (a + 1)).drop a := by rw [List.drop_take, Nat.add_sub_cancel_left]
  have e2 : ((src.take (a + 1)).drop a).length = 1 := by rw [← e1]; simp; omega
  refine lcall_of_wc tok hmix ⟨[], []⟩ Tryd.func29 rfl (by kernel_rfl) (by kernel_rfl) (by kernel_rfl) fun hf => ?_
  clear hf
  repeat' ((try (conv => whnf)) <;> first
    | with_reducible exact trivial
    | with_reducible exact rfl
    | with_reducible refine BrI.tt ?_
    | with_reducible refine BrI.ff ?_
    | with_reducible refine BrI.intro (fun h => ?_) (fun h => ?_)
    | (exact Bool.noConfusion (hp.symm.trans h))
    | ((with_reducible refine incut_stop ?_); rw [wrap1 (a := a) (by omega)])
    | ((with_reducible refine call_step ?_ ?_ ?_); rotate_left; (first | exact prefix_call _ _ | exact indexByte_call (src.drop a) 10 | fail))
    | ((first | with_reducible refine lent_step [(1000000, 1000000), (1000001, 1000001)] (add_ok ((src.take (a + 1)).drop a) ⟨3, (src.take (a + 1)).drop a, 0, 0⟩ src a ts hw hts (by omega)) ?_ ?_ ?_ ?_ | with_reducible refine lent_step' [(1000000, 1000000), (1000001, 1000001)] (add_ok ((src.take (a + 1)).drop a) ⟨3, (src.take (a + 1)).drop a, 0, 0⟩ src a ts hw hts (by omega)) ?_ ?_ ?_ ?_ | fail); rotate_left 0; exact rfl; (first | exact trivial | exact ⟨rfl, trivial⟩ | exact ⟨rfl, rfl, trivial⟩ | exact ⟨rfl, rfl, rfl, trivial⟩ | exact ⟨rfl, rfl, rfl, rfl, trivial⟩ | exact ⟨rfl, rfl, rfl, rfl, rfl, trivial⟩ | exact ⟨rfl, rfl, rfl, rfl, rfl, rfl, trivial⟩); exact rfl)
    | ((with_reducible refine pan_stepA ?_); refine fin_step' [(1000000, 1000000), (1000001, 1000001)] rfl ?_ ?_)
    | ((with_reducible refine ret_step ?_); refine fin_step' [(1000000, 1000000), (1000001, 1000001)] rfl ?_ ?_)
    | (with_reducible refine fin_step' [(1000000, 1000000), (1000001, 1000001)] ?_ ?_ ?_; exact rfl)
    | (with_reducible refine ChooseI.l _ ?_)
    | ((with_reducible refine nilgs_step ?_ ?_ ?_ ?_ ?_ ?_) <;> exact rfl)
    | ((with_reducible refine tok0_step ?_ ?_ ?_ ?_) <;> exact rfl)
    | ((with_reducible refine kok_step ?_ ?_ ?_); exact rfl; exact rfl)
    | ((with_reducible refine idx_step ?_ ?_ ?_ ?_ ?_); exact rfl; exact rfl; rotate_left; (first | with_reducible exact idx_get ‹_› | fail))
    | ((with_reducible refine len_step ?_ ?_); exact rfl)
    | ((with_reducible refine app_step' ?_ ?_ ?_ ?_ ?_ ?_ ?_); exact rfl; exact rfl; exact rfl; exact rfl)
    | ((with_reducible refine nil_step' ?_ ?_ ?_ ?_); exact rfl; exact rfl)
    | ((with_reducible refine guard_step ?_ ?_ (fun hg => ?_) ?_); exact rfl)
    | ((with_reducible refine val_step ?_ ?_); with_reducible exact rfl; with_reducible exact rfl)
    | ((with_reducible refine same_step ?_ ?_); with_reducible exact rfl)
    | ((with_reducible refine chk_step ?_ ?_); kernel_rfl)
    | ((with_reducible refine ret_need ?_ ?_); rotate_left; refine ⟨[], rfl, ?_, trivial⟩; conv => whnf)
    | ((with_reducible refine pan_need ?_ ?_); rotate_left; refine ⟨[], rfl, ?_, trivial⟩; conv => whnf)
    | ((with_reducible refine pan_step ?_); refine ⟨[], rfl, ?_, trivial⟩; conv => whnf)
    | (with_reducible refine And.intro ?_ ?_)
    | ((with_reducible refine gs_eq ?_ ?_ ?_); exact rfl; exact rfl; (first | with_reducible exact map_app | with_reducible exact map_app3 | with_reducible exact map_app4 | exact map_snoc | exact rfl | skip))
    | ((with_reducible refine tok_eq ?_ ?_); exact rfl; (first | with_reducible exact map_app | with_reducible exact map_app3 | with_reducible exact map_app4 | exact map_snoc | exact rfl | skip))
    | ((with_reducible refine ren_guard ?_); refine gs_ren ?_ ?_ ?_; exact rfl; exact rfl; (first | exact rfl | skip))
    | exact @rfl AV _
    | exact @rfl Block _
    | exact @rfl (List AV) _
    | exact ble_le rfl
    | fail)
  all_goals first
    | (omega)
    | skip
end Go.Proofs.YtanmpkhhmjfbnaaDoor

