/- Contracts: package syntax and its reference: equality of processors. -/
import Derived.Test.YtjgponkgifopaaaGreatDoorZXA
import Derived.Test.YtjgponkgifopaaaGreatDoorZRA
set_option linter.unusedSimpArgs false
set_option linter.unusedVariables false
namespace Go.Proofs.YtjgponkgifopaaaGreatDoor
open Go.Fw Go.Fw.Ref15 Go.Fw.Rg
set_option maxRecDepth 10000
set_option linter.unusedSectionVars false
variable [GlobInt]
set_option maxHeartbeats 400000 in
theorem eqInts_call (l m : List Int)  : PCall Tryz.prog 71 [ints l, ints m] (.ret (.b (intsE l m))) := by
  refine pcall_of_wc tok hmix ⟨[], []⟩ Tryz.func71 rfl (by kernel_rfl) (by kernel_rfl) (by kernel_rfl) fun hf => ?_
  have hlen : l.length ≤ 9223372036854775807 := by simpa using (hf (ints l) (by simp)).sl.1
  clear hf
  repeat' ((try (conv => whnf)) <;> first
    | with_reducible exact trivial
    | with_reducible exact idx_next hd0 ‹_›
    | ((with_reducible refine br_nil_k hd0 ?_ ?_); (first | exact rfl | assumption | fail))
    | ((with_reducible refine br_cons_k hd0 ?_ ?_); (first | exact rfl | assumption | fail))
    | with_reducible refine BrI.intro (fun h => ?_) (fun h => ?_)
    | ((with_reducible refine LoopAt.mk 0 ?_); have hz : l.length = m.length := (by simp at h; omega); have hk0 : (l.zip m).length = (l.map intC).length := (by rw [zip_len hz, List.length_map]); have hlz : (l.zip m).length ≤ 9223372036854775807 := (by rw [zip_len hz]; exact hlen); refine ⟨rangeL (l.zip m) 13 (fun (_ : Unit) => []) (fun (_ : Unit) => []) [0, 1, 12] (fun i0 r0 _ => intsE l m = r0.all intE), ?_⟩; with_reducible refine rangeL_rule () ?_ ?_ (fun i0 (_ : Unit) hd0 hI0 => ?_) (fun i0 x0 r0 (_ : Unit) hd0 hl0 hI0 => ?_))
    | (with_reducible refine rangeL_next hd0 () ?_ ?_)
    | ((with_reducible refine idx_step ?_ ?_ ?_ ?_ ?_); exact rfl; exact rfl; rotate_left; (first | with_reducible exact idx_get ‹_› | with_reducible exact idx_drop hd0 | with_reducible exact idx_take hd0 | with_reducible exact idx_zip1 hd0 | with_reducible exact idx_zip2 hd0 | with_reducible exact idx_zip1e hd0 | with_reducible exact idx_zip2e hd0 | with_reducible exact idx_drop_e hd0 | fail))
    | ((with_reducible refine chk_step ?_ ?_); kernel_rfl)
    | ((with_reducible refine ret_step ?_); refine ⟨[], rfl, ?_, trivial⟩; conv => whnf)
    | (with_reducible refine And.intro ?_ ?_)
    | exact @rfl AV _
    | fail)
  all_goals (try simp only [Bool.cond_true_left, Bool.cond_false_right, Bool.cond_false_left, Bool.cond_true_right, Bool.not_eq_true', Bool.not_eq_false', bne, Ex.css_len, List.length_map, Int.toNat_zero] at *)
  all_goals first
    | (rw [hI0]; (try simp only [intE, Bool.not_true, Bool.not_false, Bool.and_true, Bool.true_and, Bool.and_false, Bool.false_and, Bool.or_true, Bool.true_or, Bool.or_false, Bool.false_or, if_true, if_false, reduceIte, Bool.false_eq_true, Bool.not_not, Bool.not_eq_true', beq_self_eq_true, List.all_cons, List.all_nil, List.any_cons, List.any_nil, List.length_map, bne, eq_self, Int.toNat_zero, *]); first | done | rfl)
    | (simp only [intsE, lenE, Bool.not_true, Bool.not_false, Bool.and_true, Bool.true_and, Bool.and_false, Bool.false_and, Bool.or_true, Bool.true_or, Bool.or_false, Bool.false_or, if_true, if_false, reduceIte, Bool.false_eq_true, Bool.not_not, Bool.not_eq_true', beq_self_eq_true, List.all_cons, List.all_nil, List.any_cons, List.any_nil, List.length_map, bne, eq_self, Int.toNat_zero, *]; done)
    | skip
set_option maxHeartbeats 400000 in
theorem eqBds_call (l m : List Bd)  : PCall Tryz.prog 74 [.sl 3 (l.map Bd.cs), .sl 3 (m.map Bd.cs)] (.ret (.b (sameBounds l m))) := by
  refine pcall_of_wc tok hmix ⟨[], []⟩ Tryz.func74 rfl (by kernel_rfl) (by kernel_rfl) (by kernel_rfl) fun hf => ?_
  have hlen : l.length ≤ 9223372036854775807 := by simpa using (hf (.sl 3 (l.map Bd.cs)) (by simp)).sl.1
  clear hf
  repeat' ((try (conv => whnf)) <;> first
    | with_reducible exact trivial
    | with_reducible exact idx_next hd0 ‹_›
    | ((with_reducible refine br_nil_k hd0 ?_ ?_); (first | exact rfl | assumption | fail))
    | ((with_reducible refine br_cons_k hd0 ?_ ?_); (first | exact rfl | assumption | fail))
    | with_reducible refine BrI.intro (fun h => ?_) (fun h => ?_)
    | ((with_reducible refine LoopAt.mk 0 ?_); have hz : l.length = m.length := (by simp at h; omega); have hk0 : (l.zip m).length = (l.map Bd.cs).length := (by rw [zip_len hz, List.length_map]); have hlz : (l.zip m).length ≤ 9223372036854775807 := (by rw [zip_len hz]; exact hlen); refine ⟨rangeL (l.zip m) 13 (fun (_ : Unit) => []) (fun (_ : Unit) => []) [0, 1, 12] (fun i0 r0 _ => sameBounds l m = r0.all bdSame), ?_⟩; with_reducible refine rangeL_rule () ?_ ?_ (fun i0 (_ : Unit) hd0 hI0 => ?_) (fun i0 x0 r0 (_ : Unit) hd0 hl0 hI0 => ?_))
    | (with_reducible refine rangeL_next hd0 () ?_ ?_)
    | ((with_reducible refine kok_step ?_ ?_ ?_); exact rfl; exact rfl)
    | ((with_reducible refine idx_step ?_ ?_ ?_ ?_ ?_); exact rfl; exact rfl; rotate_left; (first | with_reducible exact idx_get ‹_› | with_reducible exact idx_drop hd0 | with_reducible exact idx_take hd0 | with_reducible exact idx_zip1 hd0 | with_reducible exact idx_zip2 hd0 | with_reducible exact idx_zip1e hd0 | with_reducible exact idx_zip2e hd0 | with_reducible exact idx_drop_e hd0 | fail))
    | ((with_reducible refine len_step ?_ ?_); exact rfl)
    | ((with_reducible refine chk_step ?_ ?_); kernel_rfl)
    | ((with_reducible refine ret_step ?_); refine ⟨[], rfl, ?_, trivial⟩; conv => whnf)
    | (with_reducible refine And.intro ?_ ?_)
    | exact @rfl AV _
    | fail)
  all_goals (try simp only [Bool.cond_true_left, Bool.cond_false_right, Bool.cond_false_left, Bool.cond_true_right, Bool.not_eq_true', Bool.not_eq_false', bne, Ex.css_len, List.length_map, Int.toNat_zero] at *)
  all_goals first
    | (rw [hI0]; (try simp only [bdSame, Bool.not_true, Bool.not_false, Bool.and_true, Bool.true_and, Bool.and_false, Bool.false_and, Bool.or_true, Bool.true_or, Bool.or_false, Bool.false_or, if_true, if_false, reduceIte, Bool.false_eq_true, Bool.not_not, Bool.not_eq_true', beq_self_eq_true, List.all_cons, List.all_nil, List.any_cons, List.any_nil, List.length_map, bne, eq_self, Int.toNat_zero, *]); first | done | rfl)
    | (simp only [sameBounds, Bool.not_true, Bool.not_false, Bool.and_true, Bool.true_and, Bool.and_false, Bool.false_and, Bool.or_true, Bool.true_or, Bool.or_false, Bool.false_or, if_true, if_false, reduceIte, Bool.false_eq_true, Bool.not_not, Bool.not_eq_true', beq_self_eq_true, List.all_cons, List.all_nil, List.any_cons, List.any_nil, List.length_map, bne, eq_self, Int.toNat_zero, *]; done)
    | skip
set_option maxHeartbeats 400000 in
theorem eqLns_call (l m : List Ln)  : PCall Tryz.prog 75 [.sl 4 (l.map Ln.cs), .sl 4 (m.map Ln.cs)] (.ret (.b (lenE lnSame l m))) := by
  refine pcall_of_wc tok hmix ⟨[], []⟩ Tryz.func75 rfl (by kernel_rfl) (by kernel_rfl) (by kernel_rfl) fun hf => ?_
  have hlen : l.length ≤ 9223372036854775807 := by simpa using (hf (.sl 4 (l.map Ln.cs)) (by simp)).sl.1
  clear hf
  repeat' ((try (conv => whnf)) <;> first
    | with_reducible exact trivial
    | with_reducible exact idx_next hd0 ‹_›
    | ((with_reducible refine br_nil_k hd0 ?_ ?_); (first | exact rfl | assumption | fail))
    | ((with_reducible refine br_cons_k hd0 ?_ ?_); (first | exact rfl | assumption | fail))
    | with_reducible refine BrI.intro (fun h => ?_) (fun h => ?_)
    | ((with_reducible refine LoopAt.mk 0 ?_); have hz : l.length = m.length := (by simp at h; omega); have hk0 : (l.zip m).length = (l.map Ln.cs).length := (by rw [zip_len hz, List.length_map]); have hlz : (l.zip m).length ≤ 9223372036854775807 := (by rw [zip_len hz]; exact hlen); refine ⟨rangeL (l.zip m) 13 (fun (_ : Unit) => []) (fun (_ : Unit) => []) [0, 1, 12] (fun i0 r0 _ => lenE lnSame l m = r0.all lnSame), ?_⟩; with_reducible refine rangeL_rule () ?_ ?_ (fun i0 (_ : Unit) hd0 hI0 => ?_) (fun i0 x0 r0 (_ : Unit) hd0 hl0 hI0 => ?_))
    | (with_reducible refine rangeL_next hd0 () ?_ ?_)
    | ((with_reducible refine kok_step ?_ ?_ ?_); exact rfl; exact rfl)
    | ((with_reducible refine idx_step ?_ ?_ ?_ ?_ ?_); exact rfl; exact rfl; rotate_left; (first | with_reducible exact idx_get ‹_› | with_reducible exact idx_drop hd0 | with_reducible exact idx_take hd0 | with_reducible exact idx_zip1 hd0 | with_reducible exact idx_zip2 hd0 | with_reducible exact idx_zip1e hd0 | with_reducible exact idx_zip2e hd0 | with_reducible exact idx_drop_e hd0 | fail))
    | ((with_reducible refine len_step ?_ ?_); exact rfl)
    | ((with_reducible refine chk_step ?_ ?_); kernel_rfl)
    | ((with_reducible refine ret_step ?_); refine ⟨[], rfl, ?_, trivial⟩; conv => whnf)
    | (with_reducible refine And.intro ?_ ?_)
    | exact @rfl AV _
    | fail)
  all_goals (try simp only [Bool.cond_true_left, Bool.cond_false_right, Bool.cond_false_left, Bool.cond_true_right, Bool.not_eq_true', Bool.not_eq_false', bne, Ex.css_len, List.length_map, Int.toNat_zero] at *)
  all_goals first
    | (rw [hI0]; (try simp only [lnSame, Bool.not_true, Bool.not_false, Bool.and_true, Bool.true_and, Bool.and_false, Bool.false_and, Bool.or_true, Bool.true_or, Bool.or_false, Bool.false_or, if_true, if_false, reduceIte, Bool.false_eq_true, Bool.not_not, Bool.not_eq_true', beq_self_eq_true, List.all_cons, List.all_nil, List.any_cons, List.any_nil, List.length_map, bne, eq_self, Int.toNat_zero, *]); first | done | rfl)
    | (simp only [lenE, Bool.not_true, Bool.not_false, Bool.and_true, Bool.true_and, Bool.and_false, Bool.false_and, Bool.or_true, Bool.true_or, Bool.or_false, Bool.false_or, if_true, if_false, reduceIte, Bool.false_eq_true, Bool.not_not, Bool.not_eq_true', beq_self_eq_true, List.all_cons, List.all_nil, List.any_cons, List.any_nil, List.length_map, bne, eq_self, Int.toNat_zero, *]; done)
    | skip
set_option maxHeartbeats 400000 in
theorem tbE_call (a b : Tb)  : PCall Tryz.prog 70 [.agg a.cs, .agg b.cs] (.ret (.b (tbE (a, b)))) := by
  refine pcall_of_wc tok hmix ⟨[], []⟩ Tryz.func70 rfl (by kernel_rfl) (by kernel_rfl) (by kernel_rfl) fun hf => ?_
  clear hf
  repeat' ((try (conv => whnf)) <;> first
    | ((with_reducible refine call_step ?_ ?_ ?_); rotate_left; (first | exact eqInts_call _ _ | fail))
    | ((with_reducible refine guard_step ?_ ?_ (fun hg => ?_) ?_); exact rfl)
    | ((with_reducible refine val_step ?_ ?_); with_reducible exact rfl; with_reducible exact rfl)
    | ((with_reducible refine ret_step ?_); refine ⟨[], rfl, ?_, trivial⟩; conv => whnf)
    | fail)
  all_goals (try simp only [Bool.cond_true_left, Bool.cond_false_right, Bool.cond_false_left, Bool.cond_true_right, Bool.not_eq_true', Bool.not_eq_false', bne, Ex.css_len, List.length_map, Int.toNat_zero] at *)
  all_goals first
    | (simp only [tbE, Bool.not_true, Bool.not_false, Bool.and_true, Bool.true_and, Bool.and_false, Bool.false_and, Bool.or_true, Bool.true_or, Bool.or_false, Bool.false_or, if_true, if_false, reduceIte, Bool.false_eq_true, Bool.not_not, Bool.not_eq_true', beq_self_eq_true, List.all_cons, List.all_nil, List.any_cons, List.any_nil, List.length_map, bne, eq_self, Int.toNat_zero, *]; done)
    | skip
set_option maxHeartbeats 400000 in
theorem eqExs_call (l m : List Ex) (ih : ∀ x ∈ l, ∀ y, PCall Tryz.prog 73 [x.d, y.d] (.ret (.b (SameExpr x y)))) : PCall Tryz.prog 121 [.sl 5 (l.map Ex.cs), .sl 5 (m.map Ex.cs), .fn 73 []] (.ret (.b (exsE l m))) := by
  refine pcall_of_wc tok hmix ⟨[], []⟩ Tryz.func121 rfl (by kernel_rfl) (by kernel_rfl) (by kernel_rfl) fun hf => ?_
  have hlen : l.length ≤ 9223372036854775807 := by simpa using (hf (.sl 5 (l.map Ex.cs)) (by simp)).sl.1
  clear hf
  repeat' ((try (conv => whnf)) <;> first
    | with_reducible exact trivial
    | with_reducible exact idx_next hd0 ‹_›
    | ((with_reducible refine br_nil_k hd0 ?_ ?_); (first | exact rfl | assumption | fail))
    | ((with_reducible refine br_cons_k hd0 ?_ ?_); (first | exact rfl | assumption | fail))
    | with_reducible refine BrI.intro (fun h => ?_) (fun h => ?_)
    | ((with_reducible refine LoopAt.mk 0 ?_); have hz : l.length = m.length := (by simp at h; omega); have hk0 : (l.zip m).length = (l.map Ex.cs).length := (by rw [zip_len hz, List.length_map]); have hlz : (l.zip m).length ≤ 9223372036854775807 := (by rw [zip_len hz]; exact hlen); refine ⟨rangeL (l.zip m) 17 (fun (_ : Unit) => []) (fun (_ : Unit) => []) [1, 2, 15, 16] (fun i0 r0 _ => exsE l m = r0.all exE), ?_⟩; with_reducible refine rangeL_rule () ?_ ?_ (fun i0 (_ : Unit) hd0 hI0 => ?_) (fun i0 x0 r0 (_ : Unit) hd0 hl0 hI0 => ?_))
    | (with_reducible refine rangeL_next hd0 () ?_ ?_)
    | ((with_reducible refine call_step ?_ ?_ ?_); rotate_left; (first | exact ih _ (List.of_mem_zip (drop_mem hd0)).1 _ | fail))
    | ((with_reducible refine idx_step ?_ ?_ ?_ ?_ ?_); exact rfl; exact rfl; rotate_left; (first | with_reducible exact idx_get ‹_› | with_reducible exact idx_drop hd0 | with_reducible exact idx_take hd0 | with_reducible exact idx_zip1 hd0 | with_reducible exact idx_zip2 hd0 | with_reducible exact idx_zip1e hd0 | with_reducible exact idx_zip2e hd0 | with_reducible exact idx_drop_e hd0 | fail))
    | ((with_reducible refine len_step ?_ ?_); exact rfl)
    | ((with_reducible refine ret_step ?_); refine ⟨[], rfl, ?_, trivial⟩; conv => whnf)
    | (with_reducible refine And.intro ?_ ?_)
    | exact @rfl AV _
    | fail)
  all_goals (try simp only [Bool.cond_true_left, Bool.cond_false_right, Bool.cond_false_left, Bool.cond_true_right, Bool.not_eq_true', Bool.not_eq_false', bne, Ex.css_len, List.length_map, Int.toNat_zero] at *)
  all_goals first
    | (rw [hI0]; (try simp only [exE, Bool.not_true, Bool.not_false, Bool.and_true, Bool.true_and, Bool.and_false, Bool.false_and, Bool.or_true, Bool.true_or, Bool.or_false, Bool.false_or, if_true, if_false, reduceIte, Bool.false_eq_true, Bool.not_not, Bool.not_eq_true', beq_self_eq_true, List.all_cons, List.all_nil, List.any_cons, List.any_nil, List.length_map, bne, eq_self, Int.toNat_zero, *]); first | done | rfl)
    | (simp only [exsE, lenE, Bool.not_true, Bool.not_false, Bool.and_true, Bool.true_and, Bool.and_false, Bool.false_and, Bool.or_true, Bool.true_or, Bool.or_false, Bool.false_or, if_true, if_false, reduceIte, Bool.false_eq_true, Bool.not_not, Bool.not_eq_true', beq_self_eq_true, List.all_cons, List.all_nil, List.any_cons, List.any_nil, List.length_map, bne, eq_self, Int.toNat_zero, *]; done)
    | skip
set_option maxHeartbeats 400000 in
theorem sameExprS_call (a b : Ex)  : PCall Tryz.prog 73 [a.d, b.d] (.ret (.b (SameExpr a b))) := by
  revert b; revert a; refine Ex.ind fun a ih b => ?_
  refine pcall_of_wc tok hmix ⟨[], []⟩ Tryz.func73 rfl (by kernel_rfl) (by kernel_rfl) (by kernel_rfl) fun hf => ?_
  clear hf
  repeat' ((try (conv => whnf)) <;> first
    | ((with_reducible refine call_step ?_ ?_ ?_); rotate_left; (first | (have hq := eqExs_call a.l b.l ih; rw [← Ex.css_eq, ← Ex.css_eq] at hq; exact hq) | fail))
    | ((with_reducible refine guard_step ?_ ?_ (fun hg => ?_) ?_); exact rfl)
    | ((with_reducible refine val_step ?_ ?_); with_reducible exact rfl; with_reducible exact rfl)
    | ((with_reducible refine ret_step ?_); refine ⟨[], rfl, ?_, trivial⟩; conv => whnf)
    | fail)
  all_goals (try simp only [Bool.cond_true_left, Bool.cond_false_right, Bool.cond_false_left, Bool.cond_true_right, Bool.not_eq_true', Bool.not_eq_false', bne, Ex.css_len, List.length_map, Int.toNat_zero] at *)
  all_goals first
    | ((exact congrArg D.b (sameExpr_walk a b)))
    | skip
set_option maxHeartbeats 400000 in
theorem smE_call (a b : Sm)  : PCall Tryz.prog 72 [a.d, b.d] (.ret (.b (smE (a, b)))) := by
  refine pcall_of_wc tok hmix ⟨[], []⟩ Tryz.func72 rfl (by kernel_rfl) (by kernel_rfl) (by kernel_rfl) fun hf => ?_
  clear hf
  repeat' ((try (conv => whnf)) <;> first
    | ((with_reducible refine call_step ?_ ?_ ?_); rotate_left; (first | exact sameExprS_call _ _ | fail))
    | ((with_reducible refine guard_step ?_ ?_ (fun hg => ?_) ?_); exact rfl)
    | ((with_reducible refine val_step ?_ ?_); with_reducible exact rfl; with_reducible exact rfl)
    | ((with_reducible refine ret_step ?_); refine ⟨[], rfl, ?_, trivial⟩; conv => whnf)
    | fail)
  all_goals (try simp only [Bool.cond_true_left, Bool.cond_false_right, Bool.cond_false_left, Bool.cond_true_right, Bool.not_eq_true', Bool.not_eq_false', bne, Ex.css_len, List.length_map, Int.toNat_zero] at *)
  all_goals first
    | (simp only [smE, Bool.not_true, Bool.not_false, Bool.and_true, Bool.true_and, Bool.and_false, Bool.false_and, Bool.or_true, Bool.true_or, Bool.or_false, Bool.false_or, if_true, if_false, reduceIte, Bool.false_eq_true, Bool.not_not, Bool.not_eq_true', beq_self_eq_true, List.all_cons, List.all_nil, List.any_cons, List.any_nil, List.length_map, bne, eq_self, Int.toNat_zero, *]; done)
    | skip
set_option maxHeartbeats 400000 in
theorem eqTbs_call (l m : List Tb)  : PCall Tryz.prog 76 [.sl 2 (l.map Tb.cs), .sl 2 (m.map Tb.cs), .fn 70 []] (.ret (.b (lenE tbE l m))) := by
  refine pcall_of_wc tok hmix ⟨[], []⟩ Tryz.func76 rfl (by kernel_rfl) (by kernel_rfl) (by kernel_rfl) fun hf => ?_
  have hlen : l.length ≤ 9223372036854775807 := by simpa using (hf (.sl 2 (l.map Tb.cs)) (by simp)).sl.1
  clear hf
  repeat' ((try (conv => whnf)) <;> first
    | with_reducible exact trivial
    | with_reducible exact idx_next hd0 ‹_›
    | ((with_reducible refine br_nil_k hd0 ?_ ?_); (first | exact rfl | assumption | fail))
    | ((with_reducible refine br_cons_k hd0 ?_ ?_); (first | exact rfl | assumption | fail))
    | with_reducible refine BrI.intro (fun h => ?_) (fun h => ?_)
    | ((with_reducible refine LoopAt.mk 0 ?_); have hz : l.length = m.length := (by simp at h; omega); have hk0 : (l.zip m).length = (l.map Tb.cs).length := (by rw [zip_len hz, List.length_map]); have hlz : (l.zip m).length ≤ 9223372036854775807 := (by rw [zip_len hz]; exact hlen); refine ⟨rangeL (l.zip m) 17 (fun (_ : Unit) => []) (fun (_ : Unit) => []) [1, 2, 15, 16] (fun i0 r0 _ => lenE tbE l m = r0.all tbE), ?_⟩; with_reducible refine rangeL_rule () ?_ ?_ (fun i0 (_ : Unit) hd0 hI0 => ?_) (fun i0 x0 r0 (_ : Unit) hd0 hl0 hI0 => ?_))
    | (with_reducible refine rangeL_next hd0 () ?_ ?_)
    | ((with_reducible refine call_step ?_ ?_ ?_); rotate_left; (first | exact tbE_call _ _ | fail))
    | ((with_reducible refine idx_step ?_ ?_ ?_ ?_ ?_); exact rfl; exact rfl; rotate_left; (first | with_reducible exact idx_get ‹_› | with_reducible exact idx_drop hd0 | with_reducible exact idx_take hd0 | with_reducible exact idx_zip1 hd0 | with_reducible exact idx_zip2 hd0 | with_reducible exact idx_zip1e hd0 | with_reducible exact idx_zip2e hd0 | with_reducible exact idx_drop_e hd0 | fail))
    | ((with_reducible refine len_step ?_ ?_); exact rfl)
    | ((with_reducible refine ret_step ?_); refine ⟨[], rfl, ?_, trivial⟩; conv => whnf)
    | (with_reducible refine And.intro ?_ ?_)
    | exact @rfl AV _
    | fail)
  all_goals (try simp only [Bool.cond_true_left, Bool.cond_false_right, Bool.cond_false_left, Bool.cond_true_right, Bool.not_eq_true', Bool.not_eq_false', bne, Ex.css_len, List.length_map, Int.toNat_zero] at *)
  all_goals first
    | (rw [hI0]; (try simp only [List.all_cons, Bool.not_true, Bool.not_false, Bool.and_true, Bool.true_and, Bool.and_false, Bool.false_and, Bool.or_true, Bool.true_or, Bool.or_false, Bool.false_or, if_true, if_false, reduceIte, Bool.false_eq_true, Bool.not_not, Bool.not_eq_true', beq_self_eq_true, List.all_cons, List.all_nil, List.any_cons, List.any_nil, List.length_map, bne, eq_self, Int.toNat_zero, *]); first | done | rfl)
    | (simp only [lenE, Bool.not_true, Bool.not_false, Bool.and_true, Bool.true_and, Bool.and_false, Bool.false_and, Bool.or_true, Bool.true_or, Bool.or_false, Bool.false_or, if_true, if_false, reduceIte, Bool.false_eq_true, Bool.not_not, Bool.not_eq_true', beq_self_eq_true, List.all_cons, List.all_nil, List.any_cons, List.any_nil, List.length_map, bne, eq_self, Int.toNat_zero, *]; done)
    | skip
set_option maxHeartbeats 400000 in
theorem eqSms_call (l m : List Sm)  : PCall Tryz.prog 77 [.sl 8 (l.map Sm.cs), .sl 8 (m.map Sm.cs), .fn 72 []] (.ret (.b (lenE smE l m))) := by
  refine pcall_of_wc tok hmix ⟨[], []⟩ Tryz.func77 rfl (by kernel_rfl) (by kernel_rfl) (by kernel_rfl) fun hf => ?_
  have hlen : l.length ≤ 9223372036854775807 := by simpa using (hf (.sl 8 (l.map Sm.cs)) (by simp)).sl.1
  clear hf
  repeat' ((try (conv => whnf)) <;> first
    | with_reducible exact trivial
    | with_reducible exact idx_next hd0 ‹_›
    | ((with_reducible refine br_nil_k hd0 ?_ ?_); (first | exact rfl | assumption | fail))
    | ((with_reducible refine br_cons_k hd0 ?_ ?_); (first | exact rfl | assumption | fail))
    | with_reducible refine BrI.intro (fun h => ?_) (fun h => ?_)
    | ((with_reducible refine LoopAt.mk 0 ?_); have hz : l.length = m.length := (by simp at h; omega); have hk0 : (l.zip m).length = (l.map Sm.cs).length := (by rw [zip_len hz, List.length_map]); have hlz : (l.zip m).length ≤ 9223372036854775807 := (by rw [zip_len hz]; exact hlen); refine ⟨rangeL (l.zip m) 17 (fun (_ : Unit) => []) (fun (_ : Unit) => []) [1, 2, 15, 16] (fun i0 r0 _ => lenE smE l m = r0.all smE), ?_⟩; with_reducible refine rangeL_rule () ?_ ?_ (fun i0 (_ : Unit) hd0 hI0 => ?_) (fun i0 x0 r0 (_ : Unit) hd0 hl0 hI0 => ?_))
    | (with_reducible refine rangeL_next hd0 () ?_ ?_)
    | ((with_reducible refine call_step ?_ ?_ ?_); rotate_left; (first | exact smE_call _ _ | fail))
    | ((with_reducible refine idx_step ?_ ?_ ?_ ?_ ?_); exact rfl; exact rfl; rotate_left; (first | with_reducible exact idx_get ‹_› | with_reducible exact idx_drop hd0 | with_reducible exact idx_take hd0 | with_reducible exact idx_zip1 hd0 | with_reducible exact idx_zip2 hd0 | with_reducible exact idx_zip1e hd0 | with_reducible exact idx_zip2e hd0 | with_reducible exact idx_drop_e hd0 | fail))
    | ((with_reducible refine len_step ?_ ?_); exact rfl)
    | ((with_reducible refine ret_step ?_); refine ⟨[], rfl, ?_, trivial⟩; conv => whnf)
    | (with_reducible refine And.intro ?_ ?_)
    | exact @rfl AV _
    | fail)
  all_goals (try simp only [Bool.cond_true_left, Bool.cond_false_right, Bool.cond_false_left, Bool.cond_true_right, Bool.not_eq_true', Bool.not_eq_false', bne, Ex.css_len, List.length_map, Int.toNat_zero] at *)
  all_goals first
    | (rw [hI0]; (try simp only [List.all_cons, Bool.not_true, Bool.not_false, Bool.and_true, Bool.true_and, Bool.and_false, Bool.false_and, Bool.or_true, Bool.true_or, Bool.or_false, Bool.false_or, if_true, if_false, reduceIte, Bool.false_eq_true, Bool.not_not, Bool.not_eq_true', beq_self_eq_true, List.all_cons, List.all_nil, List.any_cons, List.any_nil, List.length_map, bne, eq_self, Int.toNat_zero, *]); first | done | rfl)
    | (simp only [lenE, Bool.not_true, Bool.not_false, Bool.and_true, Bool.true_and, Bool.and_false, Bool.false_and, Bool.or_true, Bool.true_or, Bool.or_false, Bool.false_or, if_true, if_false, reduceIte, Bool.false_eq_true, Bool.not_not, Bool.not_eq_true', beq_self_eq_true, List.all_cons, List.all_nil, List.any_cons, List.any_nil, List.length_map, bne, eq_self, Int.toNat_zero, *]; done)
    | skip
set_option maxHeartbeats 400000 in
theorem sameS_call (a b : Pr)  : PCall Tryz.prog 39 [a.d, b.d] (.ret (.b (samePr a b))) := by
  refine pcall_of_wc tok hmix ⟨[], []⟩ Tryz.func39 rfl (by kernel_rfl) (by kernel_rfl) (by kernel_rfl) fun hf => ?_
  clear hf
  repeat' ((try (conv => whnf)) <;> first
    | ((with_reducible refine call_step ?_ ?_ ?_); rotate_left; (first | exact tbE_call _ _ | exact smE_call _ _ | exact eqBds_call _ _ | exact eqLns_call _ _ | exact eqTbs_call _ _ | exact eqSms_call _ _ | fail))
    | ((with_reducible refine guard_step ?_ ?_ (fun hg => ?_) ?_); exact rfl)
    | ((with_reducible refine val_step ?_ ?_); with_reducible exact rfl; with_reducible exact rfl)
    | ((with_reducible refine ret_step ?_); refine ⟨[], rfl, ?_, trivial⟩; conv => whnf)
    | fail)
  all_goals (try simp only [Bool.cond_true_left, Bool.cond_false_right, Bool.cond_false_left, Bool.cond_true_right, Bool.not_eq_true', Bool.not_eq_false', bne, Ex.css_len, List.length_map, Int.toNat_zero] at *)
  all_goals first
    | (simp only [samePr, plainE, Bool.not_true, Bool.not_false, Bool.and_true, Bool.true_and, Bool.and_false, Bool.false_and, Bool.or_true, Bool.true_or, Bool.or_false, Bool.false_or, if_true, if_false, reduceIte, Bool.false_eq_true, Bool.not_not, Bool.not_eq_true', beq_self_eq_true, List.all_cons, List.all_nil, List.any_cons, List.any_nil, List.length_map, bne, eq_self, Int.toNat_zero, *]; done)
    | skip
set_option maxHeartbeats 400000 in
theorem rints_call (l m : List Int)  : PCall Tryz.prog 60 [ints l, ints m] (.ret (.b (intsE l m))) := by
  refine pcall_of_wc tok hmix ⟨[], []⟩ Tryz.func60 rfl (by kernel_rfl) (by kernel_rfl) (by kernel_rfl) fun hf => ?_
  have hlen : l.length ≤ 9223372036854775807 := by simpa using (hf (ints l) (by simp)).sl.1
  clear hf
  repeat' ((try (conv => whnf)) <;> first
    | with_reducible exact trivial
    | with_reducible exact idx_next hd0 ‹_›
    | ((with_reducible refine br_nil_k hd0 ?_ ?_); (first | exact rfl | assumption | fail))
    | ((with_reducible refine br_cons_k hd0 ?_ ?_); (first | exact rfl | assumption | fail))
    | with_reducible refine BrI.intro (fun h => ?_) (fun h => ?_)
    | ((with_reducible refine LoopAt.mk 0 ?_); have hz : l.length = m.length := (by simp at h; omega); have hk0 : (l.zip m).length = (l.map intC).length := (by rw [zip_len hz, List.length_map]); have hlz : (l.zip m).length ≤ 9223372036854775807 := (by rw [zip_len hz]; exact hlen); refine ⟨rangeL (l.zip m) 5 (fun (_ : Unit) => []) (fun (_ : Unit) => []) [0, 1] (fun i0 r0 _ => intsE l m = r0.all intE), ?_⟩; with_reducible refine rangeL_rule () ?_ ?_ (fun i0 (_ : Unit) hd0 hI0 => ?_) (fun i0 x0 r0 (_ : Unit) hd0 hl0 hI0 => ?_))
    | (with_reducible refine rangeL_next hd0 () ?_ ?_)
    | ((with_reducible refine idx_step ?_ ?_ ?_ ?_ ?_); exact rfl; exact rfl; rotate_left; (first | with_reducible exact idx_get ‹_› | with_reducible exact idx_drop hd0 | with_reducible exact idx_take hd0 | with_reducible exact idx_zip1 hd0 | with_reducible exact idx_zip2 hd0 | with_reducible exact idx_zip1e hd0 | with_reducible exact idx_zip2e hd0 | with_reducible exact idx_drop_e hd0 | fail))
    | ((with_reducible refine chk_step ?_ ?_); kernel_rfl)
    | ((with_reducible refine ret_step ?_); refine ⟨[], rfl, ?_, trivial⟩; conv => whnf)
    | (with_reducible refine And.intro ?_ ?_)
    | exact @rfl AV _
    | fail)
  all_goals (try simp only [Bool.cond_true_left, Bool.cond_false_right, Bool.cond_false_left, Bool.cond_true_right, Bool.not_eq_true', Bool.not_eq_false', bne, Ex.css_len, List.length_map, Int.toNat_zero] at *)
  all_goals first
    | (rw [hI0]; (try simp only [intE, Bool.not_true, Bool.not_false, Bool.and_true, Bool.true_and, Bool.and_false, Bool.false_and, Bool.or_true, Bool.true_or, Bool.or_false, Bool.false_or, if_true, if_false, reduceIte, Bool.false_eq_true, Bool.not_not, Bool.not_eq_true', beq_self_eq_true, List.all_cons, List.all_nil, List.any_cons, List.any_nil, List.length_map, bne, eq_self, Int.toNat_zero, *]); first | done | rfl)
    | (simp only [intsE, lenE, Bool.not_true, Bool.not_false, Bool.and_true, Bool.true_and, Bool.and_false, Bool.false_and, Bool.or_true, Bool.true_or, Bool.or_false, Bool.false_or, if_true, if_false, reduceIte, Bool.false_eq_true, Bool.not_not, Bool.not_eq_true', beq_self_eq_true, List.all_cons, List.all_nil, List.any_cons, List.any_nil, List.length_map, bne, eq_self, Int.toNat_zero, *]; done)
    | skip
set_option maxHeartbeats 400000 in
theorem rsameExpr_call (a b : Ex)  : PCall Tryz.prog 61 [a.d, b.d] (.ret (.b (SameExpr a b))) := by
  revert b; revert a; refine Ex.ind fun a ih b => ?_
  refine pcall_of_wc tok hmix ⟨[], []⟩ Tryz.func61 rfl (by kernel_rfl) (by kernel_rfl) (by kernel_rfl) fun hf => ?_
  have hlen := Ex.fits (hf a.d (by simp))
  clear hf
  repeat' ((try (conv => whnf)) <;> first
    | with_reducible exact trivial
    | with_reducible exact idx_next hd0 ‹_›
    | ((with_reducible refine br_nil_k hd0 ?_ ?_); (first | exact rfl | assumption | fail))
    | ((with_reducible refine br_cons_k hd0 ?_ ?_); (first | exact rfl | assumption | fail))
    | with_reducible refine BrI.intro (fun h => ?_) (fun h => ?_)
    | ((with_reducible refine LoopAt.mk 0 ?_); have hz : a.l.length = b.l.length := (by simp [Ex.css_len] at h; omega); have hk0 : (a.l.zip b.l).length = (Ex.css a.l).length := (by rw [zip_len hz, Ex.css_len]); have hlz : (a.l.zip b.l).length ≤ 9223372036854775807 := (by rw [zip_len hz]; exact hlen); refine ⟨rangeL (a.l.zip b.l) 5 (fun (_ : Unit) => []) (fun (_ : Unit) => []) [2, 3] (fun i0 r0 _ => SameExpr a b = r0.all fun q => SameExpr q.1 q.2), ?_⟩; with_reducible refine rangeL_rule () ?_ ?_ (fun i0 (_ : Unit) hd0 hI0 => ?_) (fun i0 x0 r0 (_ : Unit) hd0 hl0 hI0 => ?_))
    | (with_reducible refine rangeL_next hd0 () ?_ ?_)
    | ((with_reducible refine call_step ?_ ?_ ?_); rotate_left; (first | exact ih _ (List.of_mem_zip (drop_mem hd0)).1 _ | fail))
    | ((with_reducible refine idx_step ?_ ?_ ?_ ?_ ?_); exact rfl; exact rfl; rotate_left; (first | with_reducible exact idx_get ‹_› | with_reducible exact idx_drop hd0 | with_reducible exact idx_take hd0 | with_reducible exact idx_zip1 hd0 | with_reducible exact idx_zip2 hd0 | with_reducible exact idx_zip1e hd0 | with_reducible exact idx_zip2e hd0 | with_reducible exact idx_drop_e hd0 | fail))
    | ((with_reducible refine len_step ?_ ?_); exact rfl)
    | ((with_reducible refine chk_step ?_ ?_); kernel_rfl)
    | ((with_reducible refine ret_step ?_); refine ⟨[], rfl, ?_, trivial⟩; conv => whnf)
    | (with_reducible refine And.intro ?_ ?_)
    | exact @rfl AV _
    | fail)
  all_goals (try simp only [Bool.cond_true_left, Bool.cond_false_right, Bool.cond_false_left, Bool.cond_true_right, Bool.not_eq_true', Bool.not_eq_false', bne, Ex.css_len, List.length_map, Int.toNat_zero] at *)
  all_goals first
    | (rw [hI0]; (try simp only [List.all_cons, Bool.not_true, Bool.not_false, Bool.and_true, Bool.true_and, Bool.and_false, Bool.false_and, Bool.or_true, Bool.true_or, Bool.or_false, Bool.false_or, if_true, if_false, reduceIte, Bool.false_eq_true, Bool.not_not, Bool.not_eq_true', beq_self_eq_true, List.all_cons, List.all_nil, List.any_cons, List.any_nil, List.length_map, bne, eq_self, Int.toNat_zero, *]); first | done | rfl)
    | (simp only [SameExpr_eq, Bool.not_true, Bool.not_false, Bool.and_true, Bool.true_and, Bool.and_false, Bool.false_and, Bool.or_true, Bool.true_or, Bool.or_false, Bool.false_or, if_true, if_false, reduceIte, Bool.false_eq_true, Bool.not_not, Bool.not_eq_true', beq_self_eq_true, List.all_cons, List.all_nil, List.any_cons, List.any_nil, List.length_map, bne, eq_self, Int.toNat_zero, *]; done)
    | ((rw [SameExpr_eq, ← sameL_zip hz]; simp_all; done))
    | skip
set_option maxHeartbeats 400000 in
theorem rsameBounds_call (l m : List Bd)  : PCall Tryz.prog 59 [.sl 3 (l.map Bd.cs), .sl 3 (m.map Bd.cs)] (.ret (.b (sameBounds l m))) := by
  refine pcall_of_wc tok hmix ⟨[], []⟩ Tryz.func59 rfl (by kernel_rfl) (by kernel_rfl) (by kernel_rfl) fun hf => ?_
  have hlen : l.length ≤ 9223372036854775807 := by simpa using (hf (.sl 3 (l.map Bd.cs)) (by simp)).sl.1
  clear hf
  repeat' ((try (conv => whnf)) <;> first
    | with_reducible exact trivial
    | with_reducible exact idx_next hd0 ‹_›
    | ((with_reducible refine br_nil_k hd0 ?_ ?_); (first | exact rfl | assumption | fail))
    | ((with_reducible refine br_cons_k hd0 ?_ ?_); (first | exact rfl | assumption | fail))
    | with_reducible refine BrI.intro (fun h => ?_) (fun h => ?_)
    | ((with_reducible refine LoopAt.mk 0 ?_); have hz : l.length = m.length := (by simp at h; omega); have hk0 : (l.zip m).length = (l.map Bd.cs).length := (by rw [zip_len hz, List.length_map]); have hlz : (l.zip m).length ≤ 9223372036854775807 := (by rw [zip_len hz]; exact hlen); refine ⟨rangeL (l.zip m) 5 (fun (_ : Unit) => []) (fun (_ : Unit) => []) [0, 1] (fun i0 r0 _ => sameBounds l m = r0.all bdSame), ?_⟩; with_reducible refine rangeL_rule () ?_ ?_ (fun i0 (_ : Unit) hd0 hI0 => ?_) (fun i0 x0 r0 (_ : Unit) hd0 hl0 hI0 => ?_))
    | (with_reducible refine rangeL_next hd0 () ?_ ?_)
    | ((with_reducible refine kok_step ?_ ?_ ?_); exact rfl; exact rfl)
    | ((with_reducible refine idx_step ?_ ?_ ?_ ?_ ?_); exact rfl; exact rfl; rotate_left; (first | with_reducible exact idx_get ‹_› | with_reducible exact idx_drop hd0 | with_reducible exact idx_take hd0 | with_reducible exact idx_zip1 hd0 | with_reducible exact idx_zip2 hd0 | with_reducible exact idx_zip1e hd0 | with_reducible exact idx_zip2e hd0 | with_reducible exact idx_drop_e hd0 | fail))
    | ((with_reducible refine len_step ?_ ?_); exact rfl)
    | ((with_reducible refine chk_step ?_ ?_); kernel_rfl)
    | ((with_reducible refine ret_step ?_); refine ⟨[], rfl, ?_, trivial⟩; conv => whnf)
    | (with_reducible refine And.intro ?_ ?_)
    | exact @rfl AV _
    | fail)
  all_goals (try simp only [Bool.cond_true_left, Bool.cond_false_right, Bool.cond_false_left, Bool.cond_true_right, Bool.not_eq_true', Bool.not_eq_false', bne, Ex.css_len, List.length_map, Int.toNat_zero] at *)
  all_goals first
    | (rw [hI0]; (try simp only [bdSame, Bool.not_true, Bool.not_false, Bool.and_true, Bool.true_and, Bool.and_false, Bool.false_and, Bool.or_true, Bool.true_or, Bool.or_false, Bool.false_or, if_true, if_false, reduceIte, Bool.false_eq_true, Bool.not_not, Bool.not_eq_true', beq_self_eq_true, List.all_cons, List.all_nil, List.any_cons, List.any_nil, List.length_map, bne, eq_self, Int.toNat_zero, *]); first | done | rfl)
    | (simp only [sameBounds, Bool.not_true, Bool.not_false, Bool.and_true, Bool.true_and, Bool.and_false, Bool.false_and, Bool.or_true, Bool.true_or, Bool.or_false, Bool.false_or, if_true, if_false, reduceIte, Bool.false_eq_true, Bool.not_not, Bool.not_eq_true', beq_self_eq_true, List.all_cons, List.all_nil, List.any_cons, List.any_nil, List.length_map, bne, eq_self, Int.toNat_zero, *]; done)
    | skip
set_option maxHeartbeats 400000 in
theorem rsame_e1 (a b : Pr) (hE : early1 a b = true) : PCall Tryz.prog 37 [a.d, b.d] (.ret (.b false)) := by
  refine pcall_of_wc tok hmix ⟨[], []⟩ Tryz.func37 rfl (by kernel_rfl) (by kernel_rfl) (by kernel_rfl) fun hf => ?_
  clear hf
  repeat' ((try (conv => whnf)) <;> first
    | (exact Bool.noConfusion (show true = false from hE.symm.trans h))
    | with_reducible refine BrI.intro (fun h => ?_) (fun h => ?_)
    | ((with_reducible refine call_step ?_ ?_ ?_); rotate_left; (first | exact rsameBounds_call _ _ | exact rints_call _ _ | exact rsameExpr_call _ _ | fail))
    | ((with_reducible refine guard_step ?_ ?_ (fun hg => ?_) ?_); exact rfl)
    | ((with_reducible refine val_step ?_ ?_); with_reducible exact rfl; with_reducible exact rfl)
    | ((with_reducible refine ret_step ?_); refine ⟨[], rfl, ?_, trivial⟩; conv => whnf)
    | fail)
  all_goals first
    | skip
set_option maxHeartbeats 2000000 in
theorem rsame_e2 (a b : Pr) (hE : early1 a b = false) (hE2 : early2 a b = true) : PCall Tryz.prog 37 [a.d, b.d] (.ret (.b false)) := by
  refine pcall_of_wc tok hmix ⟨[], []⟩ Tryz.func37 rfl (by kernel_rfl) (by kernel_rfl) (by kernel_rfl) fun hf => ?_
  clear hf
  repeat' ((try (conv => whnf)) <;> first
    | (exact Bool.noConfusion ((show true = false from hE2.symm.trans h)))
    | with_reducible refine BrI.intro (fun h => ?_) (fun h => ?_)
    | (exact Bool.noConfusion (hE.symm.trans h))
    | ((with_reducible refine call_step ?_ ?_ ?_); rotate_left; (first | exact rsameBounds_call _ _ | exact rints_call _ _ | exact rsameExpr_call _ _ | fail))
    | ((with_reducible refine guard_step ?_ ?_ (fun hg => ?_) ?_); exact rfl)
    | ((with_reducible refine val_step ?_ ?_); with_reducible exact rfl; with_reducible exact rfl)
    | ((with_reducible refine ret_step ?_); refine ⟨[], rfl, ?_, trivial⟩; conv => whnf)
    | fail)
  all_goals first
    | skip
set_option maxHeartbeats 400000 in
theorem rsame_ok (a b : Pr) (hE : early1 a b = false) (hE2 : early2 a b = false) (hz0 : a.lines.length = b.lines.length) (hz2 : a.tables.length = b.tables.length) (hz4 : a.stmts.length = b.stmts.length) : PCall Tryz.prog 37 [a.d, b.d] (.ret (.b ((a.lines.zip b.lines).all lnSame && ((a.tables.zip b.tables).all tbE && (a.stmts.zip b.stmts).all smE)))) := by
  refine pcall_of_wc tok hmix ⟨[], []⟩ Tryz.func37 rfl (by kernel_rfl) (by kernel_rfl) (by kernel_rfl) fun hf => ?_
  have hq := Pr.fits (hf a.d (by simp))
  have hl0 : (a.lines.zip b.lines).length ≤ 9223372036854775807 := by rw [zip_len hz0]; exact hq.lines
  have hl2 : (a.tables.zip b.tables).length ≤ 9223372036854775807 := by rw [zip_len hz2]; exact hq.tables
  have hl4 : (a.stmts.zip b.stmts).length ≤ 9223372036854775807 := by rw [zip_len hz4]; exact hq.stmts
  have hk0 : (a.lines.zip b.lines).length = (a.lines.map Ln.cs).length := by rw [zip_len hz0, List.length_map]
  have hk2 : (a.tables.zip b.tables).length = (a.tables.map Tb.cs).length := by rw [zip_len hz2, List.length_map]
  have hk4 : (a.stmts.zip b.stmts).length = (a.stmts.map Sm.cs).length := by rw [zip_len hz4, List.length_map]
  clear hf
  repeat' ((try (conv => whnf)) <;> first
    | with_reducible exact trivial
    | with_reducible exact idx_next hd4 ‹_›
    | with_reducible exact idx_next hd2 ‹_›
    | with_reducible exact idx_next hd0 ‹_›
    | ((with_reducible refine br_nil_k hd4 ?_ ?_); (first | exact rfl | assumption | fail))
    | ((with_reducible refine br_nil_k hd2 ?_ ?_); (first | exact rfl | assumption | fail))
    | ((with_reducible refine br_nil_k hd0 ?_ ?_); (first | exact rfl | assumption | fail))
    | ((with_reducible refine br_cons_k hd4 ?_ ?_); (first | exact rfl | assumption | fail))
    | ((with_reducible refine br_cons_k hd2 ?_ ?_); (first | exact rfl | assumption | fail))
    | ((with_reducible refine br_cons_k hd0 ?_ ?_); (first | exact rfl | assumption | fail))
    | with_reducible refine BrI.intro (fun h => ?_) (fun h => ?_)
    | (exact Bool.noConfusion (hE.symm.trans h))
    | (exact Bool.noConfusion (hE2.symm.trans h))
    | ((with_reducible refine kok_step ?_ ?_ ?_); exact rfl; exact rfl)
    | ((with_reducible refine LoopAt.mk 0 ?_); refine ⟨rangeL (a.lines.zip b.lines) 5 (fun (_ : Unit) => []) (fun (_ : Unit) => []) [2, 3] (fun i0 r0 _ => (a.lines.zip b.lines).all lnSame = r0.all lnSame), ?_⟩; with_reducible refine rangeL_rule () ?_ ?_ (fun i0 (_ : Unit) hd0 hI0 => ?_) (fun i0 x0 r0 (_ : Unit) hd0 hl0 hI0 => ?_))
    | (with_reducible refine rangeL_next hd0 () ?_ ?_)
    | ((with_reducible refine LoopAt.mk 2 ?_); refine ⟨rangeL (a.tables.zip b.tables) 6 (fun (_ : Unit) => []) (fun (_ : Unit) => []) [2, 3] (fun i2 r2 _ => (a.lines.zip b.lines).all lnSame = true ∧ (a.tables.zip b.tables).all tbE = r2.all tbE), ?_⟩; with_reducible refine rangeL_rule () ?_ ?_ (fun i2 (_ : Unit) hd2 hI2 => ?_) (fun i2 x2 r2 (_ : Unit) hd2 hl2 hI2 => ?_))
    | (with_reducible refine rangeL_next hd2 () ?_ ?_)
    | ((with_reducible refine LoopAt.mk 4 ?_); refine ⟨rangeL (a.stmts.zip b.stmts) 7 (fun (_ : Unit) => []) (fun (_ : Unit) => []) [2, 3] (fun i4 r4 _ => (a.lines.zip b.lines).all lnSame = true ∧ (a.tables.zip b.tables).all tbE = true ∧ (a.stmts.zip b.stmts).all smE = r4.all smE), ?_⟩; with_reducible refine rangeL_rule () ?_ ?_ (fun i4 (_ : Unit) hd4 hI4 => ?_) (fun i4 x4 r4 (_ : Unit) hd4 hl4 hI4 => ?_))
    | (with_reducible refine rangeL_next hd4 () ?_ ?_)
    | ((with_reducible refine call_step ?_ ?_ ?_); rotate_left; (first | exact rsameBounds_call _ _ | exact rints_call _ _ | exact rsameExpr_call _ _ | fail))
    | ((with_reducible refine idx_step ?_ ?_ ?_ ?_ ?_); exact rfl; exact rfl; rotate_left; (first | with_reducible exact idx_get ‹_› | with_reducible exact idx_drop hd4 | with_reducible exact idx_take hd4 | with_reducible exact idx_zip1 hd4 | with_reducible exact idx_zip2 hd4 | with_reducible exact idx_zip1e hd4 | with_reducible exact idx_zip2e hd4 | with_reducible exact idx_drop_e hd4 | with_reducible exact idx_drop hd2 | with_reducible exact idx_take hd2 | with_reducible exact idx_zip1 hd2 | with_reducible exact idx_zip2 hd2 | with_reducible exact idx_zip1e hd2 | with_reducible exact idx_zip2e hd2 | with_reducible exact idx_drop_e hd2 | with_reducible exact idx_drop hd0 | with_reducible exact idx_take hd0 | with_reducible exact idx_zip1 hd0 | with_reducible exact idx_zip2 hd0 | with_reducible exact idx_zip1e hd0 | with_reducible exact idx_zip2e hd0 | with_reducible exact idx_drop_e hd0 | fail))
    | ((with_reducible refine len_step ?_ ?_); exact rfl)
    | ((with_reducible refine guard_step ?_ ?_ (fun hg => ?_) ?_); exact rfl)
    | ((with_reducible refine val_step ?_ ?_); with_reducible exact rfl; with_reducible exact rfl)
    | ((with_reducible refine chk_step ?_ ?_); kernel_rfl)
    | ((with_reducible refine ret_step ?_); refine ⟨[], rfl, ?_, trivial⟩; conv => whnf)
    | (with_reducible refine And.intro ?_ ?_)
    | exact @rfl AV _
    | fail)
  all_goals first
    | ((refine congrArg D.b ?_; rw [all_no hI0 (ln_no h)]; rfl))
    | ((exact all_yes hI0 (ln_yes h)))
    | ((exact hI0))
    | ((refine congrArg D.b ?_; rw [hI2.1, all_no hI2.2 (by have := (tbE_walk x2).symm.trans h; simpa using this)]; rfl))
    | ((exact all_yes hI2.2 (by have := (tbE_walk x2).symm.trans h; simpa using this)))
    | ((exact hI2.2))
    | ((refine congrArg D.b ?_; rw [hI4.1, hI4.2.1, all_no hI4.2.2 (by have := (smE_walk x4).symm.trans h; simpa using this)]; rfl))
    | ((exact all_yes hI4.2.2 (by have := (smE_walk x4).symm.trans h; simpa using this)))
    | ((refine congrArg D.b ?_; rw [hI4.1, hI4.2.1, hI4.2.2]; rfl))
    | skip
theorem rsame_call (a b : Pr) : PCall Tryz.prog 37 [a.d, b.d] (.ret (.b (samePr a b))) := by
  cases h1 : early1 a b with
  | true => rw [same_e1 h1]; exact rsame_e1 a b h1
  | false =>
    cases h2 : early2 a b with
    | true => rw [same_e2 h2]; exact rsame_e2 a b h1 h2
    | false =>
      obtain ⟨e, z0, z2, z4⟩ := same_rest h1 h2
      rw [e]; exact rsame_ok a b h1 h2 z0 z2 z4
end Go.Proofs.YtjgponkgifopaaaGreatDoor
