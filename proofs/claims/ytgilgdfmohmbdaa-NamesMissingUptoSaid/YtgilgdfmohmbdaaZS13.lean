/- Contracts: the laws of names: what is missing. -/
import Derived.Test.YtgilgdfmohmbdaaZS9
import Derived.Test.YtgilgdfmohmbdaaZD12
set_option linter.unusedSimpArgs false
set_option linter.unusedVariables false
namespace Go.Proofs.Ytgilgdfmohmbdaa
open Go.Fw Go.Fw.Nam Go.Fw.Ref15
set_option maxRecDepth 10000
set_option linter.unusedSectionVars false
variable [GlobInt]
theorem dropP_call (p : Pr) (hs : (dropP p).Small) (hn : ∀ s ∈ p.stmts, Ref15.nodes s.x ≤ 1073741824) : PCall Try.prog 11 [.agg [.str p.name, .i p.latency, .i p.tail, .sl 3 ((p.params.map Bd.cs).take (lastI (p.params.map Bd.cs).length).toNat), .sl 3 (p.states.map Bd.cs), .sl 4 (p.lines.map Ln.cs), .sl 2 (p.tables.map Tb.cs), .sl 8 (p.stmts.map Sm.cs)]] (.ret (.tuple [(resolveC (dropP p)).1.d, .i (resolveC (dropP p)).2])) := by
  rw [← List.map_take]; exact resolve_call (dropP p) hs hn
theorem dropS_call (p : Pr) (hs : (dropS p).Small) (hn : ∀ s ∈ p.stmts, Ref15.nodes s.x ≤ 1073741824) : PCall Try.prog 11 [.agg [.str p.name, .i p.latency, .i p.tail, .sl 3 (p.params.map Bd.cs), .sl 3 ((p.states.map Bd.cs).take (lastI (p.states.map Bd.cs).length).toNat), .sl 4 (p.lines.map Ln.cs), .sl 2 (p.tables.map Tb.cs), .sl 8 (p.stmts.map Sm.cs)]] (.ret (.tuple [(resolveC (dropS p)).1.d, .i (resolveC (dropS p)).2])) := by
  rw [← List.map_take]; exact resolve_call (dropS p) hs hn
theorem dropL_call (p : Pr) (hs : (dropL p).Small) (hn : ∀ s ∈ p.stmts, Ref15.nodes s.x ≤ 1073741824) : PCall Try.prog 11 [.agg [.str p.name, .i p.latency, .i p.tail, .sl 3 (p.params.map Bd.cs), .sl 3 (p.states.map Bd.cs), .sl 4 ((p.lines.map Ln.cs).take (lastI (p.lines.map Ln.cs).length).toNat), .sl 2 (p.tables.map Tb.cs), .sl 8 (p.stmts.map Sm.cs)]] (.ret (.tuple [(resolveC (dropL p)).1.d, .i (resolveC (dropL p)).2])) := by
  rw [← List.map_take]; exact resolve_call (dropL p) hs hn
theorem dropT_call (p : Pr) (hs : (dropT p).Small) (hn : ∀ s ∈ p.stmts, Ref15.nodes s.x ≤ 1073741824) : PCall Try.prog 11 [.agg [.str p.name, .i p.latency, .i p.tail, .sl 3 (p.params.map Bd.cs), .sl 3 (p.states.map Bd.cs), .sl 4 (p.lines.map Ln.cs), .sl 2 ((p.tables.map Tb.cs).take (lastI (p.tables.map Tb.cs).length).toNat), .sl 8 (p.stmts.map Sm.cs)]] (.ret (.tuple [(resolveC (dropT p)).1.d, .i (resolveC (dropT p)).2])) := by
  rw [← List.map_take]; exact resolve_call (dropT p) hs hn
set_option maxHeartbeats 400000 in
theorem uses_call (x : Ex) (k i : Int)  : PCall Try.prog 22 [x.d, .i k, .i i] (.ret (.b (uses k i x))) := by
  revert x; refine Ex.ind fun x ih => ?_
  refine pcall_of_wc tok hmix ⟨[], []⟩ Try.func22 rfl (by kernel_rfl) (by kernel_rfl) (by kernel_rfl) fun hf => ?_
  have hlen := Ex.fits (hf x.d (by simp))
  clear hf
  repeat' ((try (conv => whnf)) <;> first
    | with_reducible exact trivial
    | with_reducible exact rfl
    | with_reducible exact idx_next hd0 ‹_›
    | with_reducible refine BrI.tt ?_
    | with_reducible refine BrI.ff ?_
    | with_reducible refine br_nil hd0 ?_
    | with_reducible refine br_cons hd0 ?_
    | ((with_reducible refine br_nil_k hd0 ?_ ?_); (first | exact rfl | assumption | fail))
    | ((with_reducible refine br_cons_k hd0 ?_ ?_); (first | exact rfl | assumption | fail))
    | with_reducible refine br_nil_and hd0 ?_
    | with_reducible refine br_cons_and hd0 ?_
    | with_reducible refine br_nil_e hd0 ?_
    | with_reducible refine br_cons_e hd0 ?_
    | with_reducible refine BrI.intro (fun h => ?_) (fun h => ?_)
    | ((with_reducible refine LoopAt.mk 0 ?_); refine ⟨rangeL (x.l) 22 (fun (_ : Unit) => []) (fun (_ : Unit) => []) [1, 2, 20, 21] (fun i0 r0 _ => uses k i x = usesL k i r0), ?_⟩; with_reducible refine rangeL_rule () ?_ ?_ (fun i0 (_ : Unit) hd0 hI0 => ?_) (fun i0 x0 r0 (_ : Unit) hd0 hl0 hI0 => ?_))
    | (with_reducible refine rangeL_next hd0 () ?_ ?_)
    | ((with_reducible refine call_step ?_ ?_ ?_); rotate_left; (first | exact ih x0 (drop_mem hd0) | fail))
    | with_reducible refine str_idx hd0 ?_
    | ((with_reducible refine nilgs_step ?_ ?_ ?_ ?_ ?_ ?_) <;> exact rfl)
    | ((with_reducible refine tok0_step ?_ ?_ ?_ ?_) <;> exact rfl)
    | ((with_reducible refine kok_step ?_ ?_ ?_); exact rfl; exact rfl)
    | ((with_reducible refine idx_step ?_ ?_ ?_ ?_ ?_); exact rfl; exact rfl; rotate_left; (first | with_reducible exact idx_get ‹_› | with_reducible exact idx_drop hd0 | with_reducible exact idx_take hd0 | with_reducible exact idx_zip1 hd0 | with_reducible exact idx_zip2 hd0 | with_reducible exact idx_zip1e hd0 | with_reducible exact idx_zip2e hd0 | with_reducible exact idx_drop_e hd0 | fail))
    | ((with_reducible refine len_step ?_ ?_); exact rfl)
    | ((with_reducible refine app_step' ?_ ?_ ?_ ?_ ?_ ?_ ?_); exact rfl; exact rfl; exact rfl; exact rfl)
    | ((with_reducible refine nil_step' ?_ ?_ ?_ ?_); exact rfl; exact rfl)
    | ((with_reducible refine guard_step ?_ ?_ (fun hg => ?_) ?_); exact rfl)
    | ((with_reducible refine val_step ?_ ?_); with_reducible exact rfl; with_reducible exact rfl)
    | ((with_reducible refine same_step ?_ ?_); with_reducible exact rfl)
    | ((with_reducible refine chk_step ?_ ?_); kernel_rfl)
    | ((with_reducible refine ret_step ?_); refine ⟨[], rfl, ?_, trivial⟩; conv => whnf)
    | ((with_reducible refine ret_need ?_ ?_); rotate_left; refine ⟨[], rfl, ?_, trivial⟩; conv => whnf)
    | ((with_reducible refine pan_need ?_ ?_); rotate_left; refine ⟨[], rfl, ?_, trivial⟩; conv => whnf)
    | ((with_reducible refine pan_step ?_); refine ⟨[], rfl, ?_, trivial⟩; conv => whnf)
    | (with_reducible refine And.intro ?_ ?_)
    | ((with_reducible refine gs_eq ?_ ?_ ?_); exact rfl; exact rfl; (first | with_reducible exact map_app | with_reducible exact map_app3 | with_reducible exact map_app4 | exact map_snoc | exact rfl | skip))
    | ((with_reducible refine tok_eq ?_ ?_); exact rfl; (first | with_reducible exact map_app | with_reducible exact map_app3 | with_reducible exact map_app4 | exact map_snoc | exact rfl | skip))
    | ((with_reducible refine ren_guard ?_); refine gs_ren ?_ ?_ ?_; exact rfl; exact rfl; (first | exact rfl | skip))
    | exact @rfl AV _
    | exact @rfl Block _
    | exact @rfl (List AV) _
    | exact ble_le rfl
    | fail)
  all_goals (try simp only [Bool.cond_true_left, Bool.cond_false_right, Bool.cond_false_left, Bool.cond_true_right, Bool.not_eq_true', Bool.not_eq_false', bne, Ex.css_len, List.length_map, Int.toNat_zero] at *)
  all_goals first
    | (rw [hI0]; (try simp only [usesL, Bool.not_true, Bool.not_false, Bool.and_true, Bool.true_and, Bool.and_false, Bool.false_and, Bool.or_true, Bool.true_or, Bool.or_false, Bool.false_or, if_true, if_false, reduceIte, Bool.false_eq_true, Bool.not_not, Bool.not_eq_true', beq_self_eq_true, List.all_cons, List.all_nil, List.any_cons, List.any_nil, List.length_map, bne, eq_self, Int.toNat_zero, *]); first | done | rfl)
    | (rw [hI0.1]; (try simp only [usesL, Bool.not_true, Bool.not_false, Bool.and_true, Bool.true_and, Bool.and_false, Bool.false_and, Bool.or_true, Bool.true_or, Bool.or_false, Bool.false_or, if_true, if_false, reduceIte, Bool.false_eq_true, Bool.not_not, Bool.not_eq_true', beq_self_eq_true, List.all_cons, List.all_nil, List.any_cons, List.any_nil, List.length_map, bne, eq_self, Int.toNat_zero, *]); first | done | rfl)
    | (simp only [usesL, Bool.not_true, Bool.not_false, Bool.and_true, Bool.true_and, Bool.and_false, Bool.false_and, Bool.or_true, Bool.true_or, Bool.or_false, Bool.false_or, if_true, if_false, reduceIte, Bool.false_eq_true, Bool.not_not, Bool.not_eq_true', beq_self_eq_true, List.all_cons, List.all_nil, List.any_cons, List.any_nil, List.length_map, bne, eq_self, Int.toNat_zero, *]; done)
    | (simp only [uses_eq, Bool.not_true, Bool.not_false, Bool.and_true, Bool.true_and, Bool.and_false, Bool.false_and, Bool.or_true, Bool.true_or, Bool.or_false, Bool.false_or, if_true, if_false, reduceIte, Bool.false_eq_true, Bool.not_not, Bool.not_eq_true', beq_self_eq_true, List.all_cons, List.all_nil, List.any_cons, List.any_nil, List.length_map, bne, eq_self, Int.toNat_zero, *]; done)
    | omega
    | (exfalso; simp_all; done)
    | skip
set_option maxHeartbeats 400000 in
theorem used_call (x : Pr) (k i st : Int) (hlen : x.stmts.length ≤ 9223372036854775807) : LCall Try.prog 21 [.data (.i k), .data (.i i), .data (.i st), .ptr 1000000 0] [(1000000, .cells [.data (.str x.name), .data (.i x.latency), .data (.i x.tail), .data (.sl 3 (x.params.map Bd.cs)), .data (.sl 3 (x.states.map Bd.cs)), .data (.sl 4 (x.lines.map Ln.cs)), .data (.sl 2 (x.tables.map Tb.cs)), .data (.sl 8 (x.stmts.map Sm.cs))])] (.ret (.data (.b (usedM k i st x.stmts)))) [(1000000, .cells [.data (.str x.name), .data (.i x.latency), .data (.i x.tail), .data (.sl 3 (x.params.map Bd.cs)), .data (.sl 3 (x.states.map Bd.cs)), .data (.sl 4 (x.lines.map Ln.cs)), .data (.sl 2 (x.tables.map Tb.cs)), .data (.sl 8 (x.stmts.map Sm.cs))])] := by
  refine lcall_of_wc tok hmix ⟨[], []⟩ Try.func21 rfl (by kernel_rfl) (by kernel_rfl) (by kernel_rfl) fun hf => ?_
  clear hf
  repeat' ((try (conv => whnf)) <;> first
    | with_reducible exact trivial
    | with_reducible exact rfl
    | with_reducible exact idx_next hd0 ‹_›
    | with_reducible refine BrI.tt ?_
    | with_reducible refine BrI.ff ?_
    | with_reducible refine br_nil hd0 ?_
    | with_reducible refine br_cons hd0 ?_
    | ((with_reducible refine br_nil_k hd0 ?_ ?_); (first | exact rfl | assumption | fail))
    | ((with_reducible refine br_cons_k hd0 ?_ ?_); (first | exact rfl | assumption | fail))
    | with_reducible refine br_nil_and hd0 ?_
    | with_reducible refine br_cons_and hd0 ?_
    | with_reducible refine br_nil_e hd0 ?_
    | with_reducible refine br_cons_e hd0 ?_
    | with_reducible refine BrI.intro (fun h => ?_) (fun h => ?_)
    | ((with_reducible refine LoopAt.mk 0 ?_); refine ⟨rangeL (x.stmts) 13 (fun (_ : Unit) => []) (fun (_ : Unit) => []) [0, 1, 2, 11, 12, 3] (fun i0 r0 _ => usedM k i st x.stmts = usedM k i st r0), ?_⟩; with_reducible refine rangeL_rule () ?_ ?_ (fun i0 (_ : Unit) hd0 hI0 => ?_) (fun i0 x0 r0 (_ : Unit) hd0 hl0 hI0 => ?_))
    | (with_reducible refine rangeL_next hd0 () ?_ ?_)
    | ((with_reducible refine call_step ?_ ?_ ?_); rotate_left; (first | exact uses_call _ _ _ | exact uses_call x0.x k i | fail))
    | ((with_reducible refine pan_stepA ?_); refine fin_step' [(1000000, 1000000)] rfl ?_ ?_)
    | ((with_reducible refine ret_step ?_); refine fin_step' [(1000000, 1000000)] rfl ?_ ?_)
    | (with_reducible refine fin_step' [(1000000, 1000000)] ?_ ?_ ?_; exact rfl)
    | with_reducible refine str_idx hd0 ?_
    | ((with_reducible refine nilgs_step ?_ ?_ ?_ ?_ ?_ ?_) <;> exact rfl)
    | ((with_reducible refine tok0_step ?_ ?_ ?_ ?_) <;> exact rfl)
    | ((with_reducible refine kok_step ?_ ?_ ?_); exact rfl; exact rfl)
    | ((with_reducible refine idx_step ?_ ?_ ?_ ?_ ?_); exact rfl; exact rfl; rotate_left; (first | with_reducible exact idx_get ‹_› | with_reducible exact idx_drop hd0 | with_reducible exact idx_take hd0 | with_reducible exact idx_zip1 hd0 | with_reducible exact idx_zip2 hd0 | with_reducible exact idx_zip1e hd0 | with_reducible exact idx_zip2e hd0 | with_reducible exact idx_drop_e hd0 | fail))
    | ((with_reducible refine len_step ?_ ?_); exact rfl)
    | ((with_reducible refine app_step' ?_ ?_ ?_ ?_ ?_ ?_ ?_); exact rfl; exact rfl; exact rfl; exact rfl)
    | ((with_reducible refine nil_step' ?_ ?_ ?_ ?_); exact rfl; exact rfl)
    | ((with_reducible refine guard_step ?_ ?_ (fun hg => ?_) ?_); exact rfl)
    | ((with_reducible refine val_step ?_ ?_); with_reducible exact rfl; with_reducible exact rfl)
    | ((with_reducible refine same_step ?_ ?_); with_reducible exact rfl)
    | ((with_reducible refine chk_step ?_ ?_); kernel_rfl)
    | ((with_reducible refine ret_need ?_ ?_); rotate_left; refine ⟨[], rfl, ?_, trivial⟩; conv => whnf)
    | ((with_reducible refine pan_need ?_ ?_); rotate_left; refine ⟨[], rfl, ?_, trivial⟩; conv => whnf)
    | ((with_reducible refine pan_step ?_); refine ⟨[], rfl, ?_, trivial⟩; conv => whnf)
    | (with_reducible refine And.intro ?_ ?_)
    | ((with_reducible refine gs_eq ?_ ?_ ?_); exact rfl; exact rfl; (first | with_reducible exact map_app | with_reducible exact map_app3 | with_reducible exact map_app4 | exact map_snoc | exact rfl | skip))
    | ((with_reducible refine tok_eq ?_ ?_); exact rfl; (first | with_reducible exact map_app | with_reducible exact map_app3 | with_reducible exact map_app4 | exact map_snoc | exact rfl | skip))
    | ((with_reducible refine ren_guard ?_); refine gs_ren ?_ ?_ ?_; exact rfl; exact rfl; (first | exact rfl | skip))
    | exact @rfl AV _
    | exact @rfl Block _
    | exact @rfl (List AV) _
    | exact ble_le rfl
    | fail)
  all_goals (try simp only [Bool.cond_true_left, Bool.cond_false_right, Bool.cond_false_left, Bool.cond_true_right, Bool.not_eq_true', Bool.not_eq_false', bne, Ex.css_len, List.length_map, Int.toNat_zero] at *)
  all_goals first
    | (rw [hI0]; (try simp only [usedM, use1, List.any_cons, Bool.not_true, Bool.not_false, Bool.and_true, Bool.true_and, Bool.and_false, Bool.false_and, Bool.or_true, Bool.true_or, Bool.or_false, Bool.false_or, if_true, if_false, reduceIte, Bool.false_eq_true, Bool.not_not, Bool.not_eq_true', beq_self_eq_true, List.all_cons, List.all_nil, List.any_cons, List.any_nil, List.length_map, bne, eq_self, Int.toNat_zero, *]); first | done | rfl)
    | (rw [hI0.1]; (try simp only [usedM, use1, List.any_cons, Bool.not_true, Bool.not_false, Bool.and_true, Bool.true_and, Bool.and_false, Bool.false_and, Bool.or_true, Bool.true_or, Bool.or_false, Bool.false_or, if_true, if_false, reduceIte, Bool.false_eq_true, Bool.not_not, Bool.not_eq_true', beq_self_eq_true, List.all_cons, List.all_nil, List.any_cons, List.any_nil, List.length_map, bne, eq_self, Int.toNat_zero, *]); first | done | rfl)
    | (simp only [usedM, use1, List.any_cons, Bool.not_true, Bool.not_false, Bool.and_true, Bool.true_and, Bool.and_false, Bool.false_and, Bool.or_true, Bool.true_or, Bool.or_false, Bool.false_or, if_true, if_false, reduceIte, Bool.false_eq_true, Bool.not_not, Bool.not_eq_true', beq_self_eq_true, List.all_cons, List.all_nil, List.any_cons, List.any_nil, List.length_map, bne, eq_self, Int.toNat_zero, *]; done)
    | omega
    | (exfalso; simp_all; done)
    | skip
set_option maxHeartbeats 4000000 in
theorem law6_err (p : Pr) (hp : p.Small) (hn : ∀ s ∈ p.stmts, Ref15.nodes s.x ≤ 1073741824) (hv : ∀ t ∈ p.tables, t.values.length ≤ 1073741824) (he : ((resolveC p).2 != 0) = true) : PCall Try.prog 8 [p.d] (.ret (.b true)) := by
  refine pcall_of_wc tok hmix ⟨[], []⟩ Try.func8 rfl (by kernel_rfl) (by kernel_rfl) (by kernel_rfl) fun hf => ?_
  clear hf
  repeat' ((try (conv => whnf)) <;> first
    | (exact Bool.noConfusion (he.symm.trans h))
    | with_reducible exact trivial
    | with_reducible exact rfl
    | with_reducible refine BrI.tt ?_
    | with_reducible refine BrI.ff ?_
    | with_reducible refine BrI.intro (fun h => ?_) (fun h => ?_)
    | (exact Bool.noConfusion (h : false = true))
    | ((with_reducible refine call_step ?_ ?_ ?_); rotate_left; (first | exact sane_call | exact few_call _ (by assumption) (by assumption) (by assumption) | exact Resolve_bad1 _ (by assumption) | exact Resolve_bad2 _ (by assumption) (by assumption) (by assumption) | exact Resolve_bad3 _ (by assumption) (by assumption) (by assumption) (by assumption) (by assumption) | exact Resolve_bad4 _ (by assumption) (by assumption) (by assumption) (by assumption) (by assumption) (by assumption) | exact Resolve_bad5 _ (by assumption) (by assumption) (by assumption) (by assumption) (by assumption) (by assumption) (by assumption) | exact Resolve_run _ (by assumption) (by assumption) (by assumption) (by assumption) (by assumption) (by assumption) (by assumption) | exact resolve_call p hp hn | exact few_call p hp hn hv | fail))
    | ((first | with_reducible refine lent_step [(1000000, 800000)] (used_call ?_ ?_ ?_ ?_ ?_) ?_ ?_ ?_ ?_ | with_reducible refine lent_step' [(1000000, 800000)] (used_call ?_ ?_ ?_ ?_ ?_) ?_ ?_ ?_ ?_ | fail); rotate_left 5; exact rfl; (first | exact trivial | exact ⟨rfl, trivial⟩ | exact ⟨rfl, rfl, trivial⟩ | exact ⟨rfl, rfl, rfl, trivial⟩ | exact ⟨rfl, rfl, rfl, rfl, trivial⟩ | exact ⟨rfl, rfl, rfl, rfl, rfl, trivial⟩ | exact ⟨rfl, rfl, rfl, rfl, rfl, rfl, trivial⟩); exact rfl)
    | ((with_reducible refine nilgs_step ?_ ?_ ?_ ?_ ?_ ?_) <;> exact rfl)
    | ((with_reducible refine tok0_step ?_ ?_ ?_ ?_) <;> exact rfl)
    | ((with_reducible refine kok_step ?_ ?_ ?_); exact rfl; exact rfl)
    | ((with_reducible refine idx_step ?_ ?_ ?_ ?_ ?_); exact rfl; exact rfl; rotate_left; (first | with_reducible exact idx_get ‹_› | fail))
    | ((with_reducible refine len_step ?_ ?_); exact rfl)
    | ((with_reducible refine app_step' ?_ ?_ ?_ ?_ ?_ ?_ ?_); exact rfl; exact rfl; exact rfl; exact rfl)
    | ((with_reducible refine nil_step' ?_ ?_ ?_ ?_); exact rfl; exact rfl)
    | ((with_reducible refine guard_step ?_ ?_ (fun hg => ?_) ?_); exact rfl)
    | ((with_reducible refine val_step ?_ ?_); with_reducible exact rfl; with_reducible exact rfl)
    | ((with_reducible refine same_step ?_ ?_); with_reducible exact rfl)
    | ((with_reducible refine chk_step ?_ ?_); kernel_rfl)
    | ((with_reducible refine ret_step ?_); refine ⟨[], rfl, ?_, trivial⟩; conv => whnf)
    | ((with_reducible refine ret_need ?_ ?_); rotate_left; refine ⟨[], rfl, ?_, trivial⟩; conv => whnf)
    | ((with_reducible refine pan_need ?_ ?_); rotate_left; refine ⟨[], rfl, ?_, trivial⟩; conv => whnf)
    | ((with_reducible refine pan_step ?_); refine ⟨[], rfl, ?_, trivial⟩; conv => whnf)
    | (with_reducible refine And.intro ?_ ?_)
    | ((with_reducible refine gs_eq ?_ ?_ ?_); exact rfl; exact rfl; (first | with_reducible exact map_app | with_reducible exact map_app3 | with_reducible exact map_app4 | exact map_snoc | exact rfl | skip))
    | ((with_reducible refine tok_eq ?_ ?_); exact rfl; (first | with_reducible exact map_app | with_reducible exact map_app3 | with_reducible exact map_app4 | exact map_snoc | exact rfl | skip))
    | ((with_reducible refine ren_guard ?_); refine gs_ren ?_ ?_ ?_; exact rfl; exact rfl; (first | exact rfl | skip))
    | exact @rfl AV _
    | exact @rfl Block _
    | exact @rfl (List AV) _
    | exact ble_le rfl
    | fail)
  all_goals first
    | (rfl)
    | skip
set_option maxHeartbeats 8000000 in
theorem law6_ok (p : Pr) (hp : p.Small) (hn : ∀ s ∈ p.stmts, Ref15.nodes s.x ≤ 1073741824) (hv : ∀ t ∈ p.tables, t.values.length ≤ 1073741824) (hr : (resolveC p).2 = 0) (hP : decide (lastI (p.params.map Bd.cs).length ≥ 0) = true → missB (dropP p) (usedM 3 (lastI (p.params.map Bd.cs).length) 0 (resolveC p).1.stmts) = false) (hS : decide (lastI (p.states.map Bd.cs).length ≥ 0) = true → missB (dropS p) (usedM 4 (lastI (p.states.map Bd.cs).length) 2 (resolveC p).1.stmts) = false) (hL : decide (lastI (p.lines.map Ln.cs).length ≥ 0) = true → missB (dropL p) (usedM 8 (lastI (p.lines.map Ln.cs).length) 3 (resolveC p).1.stmts) = false) (hT : decide (lastI (p.tables.map Tb.cs).length ≥ 0) = true → missB (dropT p) (usedM 9 (lastI (p.tables.map Tb.cs).length) 0 (resolveC p).1.stmts) = false) : PCall Try.prog 8 [p.d] (.ret (.b true)) := by
  have c1 : PCall Try.prog 11 [p.d] (.ret (.tuple [(resolveC p).1.d, .i 0])) := by have := resolve_call p hp hn; rw [hr] at this; exact this
  refine pcall_of_wc tok hmix ⟨[14, 16, 21, 23, 28, 30, 35, 37], []⟩ Try.func8 rfl (by kernel_rfl) (by kernel_rfl) (by kernel_rfl) fun hf => ?_
  have hs := small_take hp
  have hs1 := hp.params; have hs2 := hp.states; have hs3 := hp.lines; have hs4 := hp.tables; have hs5 := hp.stmts
  clear hf
  repeat' ((try (conv => whnf)) <;> first
    | with_reducible exact trivial
    | with_reducible exact rfl
    | with_reducible refine BrI.tt ?_
    | with_reducible refine BrI.ff ?_
    | with_reducible refine BrI.intro (fun h => ?_) (fun h => ?_)
    | (exact Bool.noConfusion (h : false = true))
    | ((with_reducible refine LoopAt.mk 14 ?_); refine ⟨⟨Unit, fun _ => [(6, .data (.i (lastI (p.params.map Bd.cs).length))), (9, .data (.i (resolveC (dropP p)).2))], fun _ => [(3, .cells [.data (.str (resolveC p).1.name), .data (.i (resolveC p).1.latency), .data (.i (resolveC p).1.tail), .data (.sl 3 ((resolveC p).1.params.map Bd.cs)), .data (.sl 3 ((resolveC p).1.states.map Bd.cs)), .data (.sl 4 ((resolveC p).1.lines.map Ln.cs)), .data (.sl 2 ((resolveC p).1.tables.map Tb.cs)), .data (.sl 8 ((resolveC p).1.stmts.map Sm.cs))]), (1, .cells [.data (.str p.name), .data (.i p.latency), .data (.i p.tail), .data (.sl 3 (p.params.map Bd.cs)), .data (.sl 3 (p.states.map Bd.cs)), .data (.sl 4 (p.lines.map Ln.cs)), .data (.sl 2 (p.tables.map Tb.cs)), .data (.sl 8 (p.stmts.map Sm.cs))])], [1, 5], fun _ => True, fun _ => 0⟩, ?_, fun _ _ => ?_⟩)
    | ((with_reducible refine LoopAt.mk 16 ?_); refine ⟨⟨Unit, fun _ => [], fun _ => [(3, .cells [.data (.str (resolveC p).1.name), .data (.i (resolveC p).1.latency), .data (.i (resolveC p).1.tail), .data (.sl 3 ((resolveC p).1.params.map Bd.cs)), .data (.sl 3 ((resolveC p).1.states.map Bd.cs)), .data (.sl 4 ((resolveC p).1.lines.map Ln.cs)), .data (.sl 2 ((resolveC p).1.tables.map Tb.cs)), .data (.sl 8 ((resolveC p).1.stmts.map Sm.cs))]), (1, .cells [.data (.str p.name), .data (.i p.latency), .data (.i p.tail), .data (.sl 3 (p.params.map Bd.cs)), .data (.sl 3 (p.states.map Bd.cs)), .data (.sl 4 (p.lines.map Ln.cs)), .data (.sl 2 (p.tables.map Tb.cs)), .data (.sl 8 (p.stmts.map Sm.cs))])], [1, 5], fun _ => True, fun _ => 0⟩, ?_, fun _ _ => ?_⟩)
    | ((with_reducible refine LoopAt.mk 21 ?_); refine ⟨⟨Unit, fun _ => [(10, .data (.i (lastI (p.states.map Bd.cs).length))), (13, .data (.i (resolveC (dropS p)).2))], fun _ => [(3, .cells [.data (.str (resolveC p).1.name), .data (.i (resolveC p).1.latency), .data (.i (resolveC p).1.tail), .data (.sl 3 ((resolveC p).1.params.map Bd.cs)), .data (.sl 3 ((resolveC p).1.states.map Bd.cs)), .data (.sl 4 ((resolveC p).1.lines.map Ln.cs)), .data (.sl 2 ((resolveC p).1.tables.map Tb.cs)), .data (.sl 8 ((resolveC p).1.stmts.map Sm.cs))]), (1, .cells [.data (.str p.name), .data (.i p.latency), .data (.i p.tail), .data (.sl 3 (p.params.map Bd.cs)), .data (.sl 3 (p.states.map Bd.cs)), .data (.sl 4 (p.lines.map Ln.cs)), .data (.sl 2 (p.tables.map Tb.cs)), .data (.sl 8 (p.stmts.map Sm.cs))])], [1, 5], fun _ => True, fun _ => 0⟩, ?_, fun _ _ => ?_⟩)
    | ((with_reducible refine LoopAt.mk 23 ?_); refine ⟨⟨Unit, fun _ => [], fun _ => [(3, .cells [.data (.str (resolveC p).1.name), .data (.i (resolveC p).1.latency), .data (.i (resolveC p).1.tail), .data (.sl 3 ((resolveC p).1.params.map Bd.cs)), .data (.sl 3 ((resolveC p).1.states.map Bd.cs)), .data (.sl 4 ((resolveC p).1.lines.map Ln.cs)), .data (.sl 2 ((resolveC p).1.tables.map Tb.cs)), .data (.sl 8 ((resolveC p).1.stmts.map Sm.cs))]), (1, .cells [.data (.str p.name), .data (.i p.latency), .data (.i p.tail), .data (.sl 3 (p.params.map Bd.cs)), .data (.sl 3 (p.states.map Bd.cs)), .data (.sl 4 (p.lines.map Ln.cs)), .data (.sl 2 (p.tables.map Tb.cs)), .data (.sl 8 (p.stmts.map Sm.cs))])], [1, 5], fun _ => True, fun _ => 0⟩, ?_, fun _ _ => ?_⟩)
    | ((with_reducible refine LoopAt.mk 28 ?_); refine ⟨⟨Unit, fun _ => [(14, .data (.i (lastI (p.lines.map Ln.cs).length))), (17, .data (.i (resolveC (dropL p)).2))], fun _ => [(3, .cells [.data (.str (resolveC p).1.name), .data (.i (resolveC p).1.latency), .data (.i (resolveC p).1.tail), .data (.sl 3 ((resolveC p).1.params.map Bd.cs)), .data (.sl 3 ((resolveC p).1.states.map Bd.cs)), .data (.sl 4 ((resolveC p).1.lines.map Ln.cs)), .data (.sl 2 ((resolveC p).1.tables.map Tb.cs)), .data (.sl 8 ((resolveC p).1.stmts.map Sm.cs))]), (1, .cells [.data (.str p.name), .data (.i p.latency), .data (.i p.tail), .data (.sl 3 (p.params.map Bd.cs)), .data (.sl 3 (p.states.map Bd.cs)), .data (.sl 4 (p.lines.map Ln.cs)), .data (.sl 2 (p.tables.map Tb.cs)), .data (.sl 8 (p.stmts.map Sm.cs))])], [1, 5], fun _ => True, fun _ => 0⟩, ?_, fun _ _ => ?_⟩)
    | ((with_reducible refine LoopAt.mk 30 ?_); refine ⟨⟨Unit, fun _ => [], fun _ => [(3, .cells [.data (.str (resolveC p).1.name), .data (.i (resolveC p).1.latency), .data (.i (resolveC p).1.tail), .data (.sl 3 ((resolveC p).1.params.map Bd.cs)), .data (.sl 3 ((resolveC p).1.states.map Bd.cs)), .data (.sl 4 ((resolveC p).1.lines.map Ln.cs)), .data (.sl 2 ((resolveC p).1.tables.map Tb.cs)), .data (.sl 8 ((resolveC p).1.stmts.map Sm.cs))]), (1, .cells [.data (.str p.name), .data (.i p.latency), .data (.i p.tail), .data (.sl 3 (p.params.map Bd.cs)), .data (.sl 3 (p.states.map Bd.cs)), .data (.sl 4 (p.lines.map Ln.cs)), .data (.sl 2 (p.tables.map Tb.cs)), .data (.sl 8 (p.stmts.map Sm.cs))])], [1, 5], fun _ => True, fun _ => 0⟩, ?_, fun _ _ => ?_⟩)
    | ((with_reducible refine LoopAt.mk 35 ?_); refine ⟨⟨Unit, fun _ => [(18, .data (.i (lastI (p.tables.map Tb.cs).length))), (21, .data (.i (resolveC (dropT p)).2))], fun _ => [(3, .cells [.data (.str (resolveC p).1.name), .data (.i (resolveC p).1.latency), .data (.i (resolveC p).1.tail), .data (.sl 3 ((resolveC p).1.params.map Bd.cs)), .data (.sl 3 ((resolveC p).1.states.map Bd.cs)), .data (.sl 4 ((resolveC p).1.lines.map Ln.cs)), .data (.sl 2 ((resolveC p).1.tables.map Tb.cs)), .data (.sl 8 ((resolveC p).1.stmts.map Sm.cs))]), (1, .cells [.data (.str p.name), .data (.i p.latency), .data (.i p.tail), .data (.sl 3 (p.params.map Bd.cs)), .data (.sl 3 (p.states.map Bd.cs)), .data (.sl 4 (p.lines.map Ln.cs)), .data (.sl 2 (p.tables.map Tb.cs)), .data (.sl 8 (p.stmts.map Sm.cs))])], [1, 5], fun _ => True, fun _ => 0⟩, ?_, fun _ _ => ?_⟩)
    | ((with_reducible refine LoopAt.mk 37 ?_); refine ⟨⟨Unit, fun _ => [], fun _ => [(3, .cells [.data (.str (resolveC p).1.name), .data (.i (resolveC p).1.latency), .data (.i (resolveC p).1.tail), .data (.sl 3 ((resolveC p).1.params.map Bd.cs)), .data (.sl 3 ((resolveC p).1.states.map Bd.cs)), .data (.sl 4 ((resolveC p).1.lines.map Ln.cs)), .data (.sl 2 ((resolveC p).1.tables.map Tb.cs)), .data (.sl 8 ((resolveC p).1.stmts.map Sm.cs))]), (1, .cells [.data (.str p.name), .data (.i p.latency), .data (.i p.tail), .data (.sl 3 (p.params.map Bd.cs)), .data (.sl 3 (p.states.map Bd.cs)), .data (.sl 4 (p.lines.map Ln.cs)), .data (.sl 2 (p.tables.map Tb.cs)), .data (.sl 8 (p.stmts.map Sm.cs))])], [1, 5], fun _ => True, fun _ => 0⟩, ?_, fun _ _ => ?_⟩)
    | (refine ⟨(), trivial, ?_⟩)
    | ((with_reducible refine call_step ?_ ?_ ?_); rotate_left; (first | exact sane_call | exact few_call _ (by assumption) (by assumption) (by assumption) | exact Resolve_bad1 _ (by assumption) | exact Resolve_bad2 _ (by assumption) (by assumption) (by assumption) | exact Resolve_bad3 _ (by assumption) (by assumption) (by assumption) (by assumption) (by assumption) | exact Resolve_bad4 _ (by assumption) (by assumption) (by assumption) (by assumption) (by assumption) (by assumption) | exact Resolve_bad5 _ (by assumption) (by assumption) (by assumption) (by assumption) (by assumption) (by assumption) (by assumption) | exact Resolve_run _ (by assumption) (by assumption) (by assumption) (by assumption) (by assumption) (by assumption) (by assumption) | exact c1 | exact dropP_call p hs.1 hn | exact dropS_call p hs.2.1 hn | exact dropL_call p hs.2.2.1 hn | exact dropT_call p hs.2.2.2 hn | exact few_call p hp hn hv | fail))
    | ((first | with_reducible refine lent_step [(1000000, 3)] (used_call (resolveC p).1 3 (lastI (p.params.map Bd.cs).length) 0 (by rw [res_len hr]; omega)) ?_ ?_ ?_ ?_ | with_reducible refine lent_step' [(1000000, 3)] (used_call (resolveC p).1 3 (lastI (p.params.map Bd.cs).length) 0 (by rw [res_len hr]; omega)) ?_ ?_ ?_ ?_ | fail); rotate_left 0; exact rfl; (first | exact trivial | exact ⟨rfl, trivial⟩ | exact ⟨rfl, rfl, trivial⟩ | exact ⟨rfl, rfl, rfl, trivial⟩ | exact ⟨rfl, rfl, rfl, rfl, trivial⟩ | exact ⟨rfl, rfl, rfl, rfl, rfl, trivial⟩ | exact ⟨rfl, rfl, rfl, rfl, rfl, rfl, trivial⟩); exact rfl)
    | ((first | with_reducible refine lent_step [(1000000, 3)] (used_call (resolveC p).1 4 (lastI (p.states.map Bd.cs).length) 2 (by rw [res_len hr]; omega)) ?_ ?_ ?_ ?_ | with_reducible refine lent_step' [(1000000, 3)] (used_call (resolveC p).1 4 (lastI (p.states.map Bd.cs).length) 2 (by rw [res_len hr]; omega)) ?_ ?_ ?_ ?_ | fail); rotate_left 0; exact rfl; (first | exact trivial | exact ⟨rfl, trivial⟩ | exact ⟨rfl, rfl, trivial⟩ | exact ⟨rfl, rfl, rfl, trivial⟩ | exact ⟨rfl, rfl, rfl, rfl, trivial⟩ | exact ⟨rfl, rfl, rfl, rfl, rfl, trivial⟩ | exact ⟨rfl, rfl, rfl, rfl, rfl, rfl, trivial⟩); exact rfl)
    | ((first | with_reducible refine lent_step [(1000000, 3)] (used_call (resolveC p).1 8 (lastI (p.lines.map Ln.cs).length) 3 (by rw [res_len hr]; omega)) ?_ ?_ ?_ ?_ | with_reducible refine lent_step' [(1000000, 3)] (used_call (resolveC p).1 8 (lastI (p.lines.map Ln.cs).length) 3 (by rw [res_len hr]; omega)) ?_ ?_ ?_ ?_ | fail); rotate_left 0; exact rfl; (first | exact trivial | exact ⟨rfl, trivial⟩ | exact ⟨rfl, rfl, trivial⟩ | exact ⟨rfl, rfl, rfl, trivial⟩ | exact ⟨rfl, rfl, rfl, rfl, trivial⟩ | exact ⟨rfl, rfl, rfl, rfl, rfl, trivial⟩ | exact ⟨rfl, rfl, rfl, rfl, rfl, rfl, trivial⟩); exact rfl)
    | ((first | with_reducible refine lent_step [(1000000, 3)] (used_call (resolveC p).1 9 (lastI (p.tables.map Tb.cs).length) 0 (by rw [res_len hr]; omega)) ?_ ?_ ?_ ?_ | with_reducible refine lent_step' [(1000000, 3)] (used_call (resolveC p).1 9 (lastI (p.tables.map Tb.cs).length) 0 (by rw [res_len hr]; omega)) ?_ ?_ ?_ ?_ | fail); rotate_left 0; exact rfl; (first | exact trivial | exact ⟨rfl, trivial⟩ | exact ⟨rfl, rfl, trivial⟩ | exact ⟨rfl, rfl, rfl, trivial⟩ | exact ⟨rfl, rfl, rfl, rfl, trivial⟩ | exact ⟨rfl, rfl, rfl, rfl, rfl, trivial⟩ | exact ⟨rfl, rfl, rfl, rfl, rfl, rfl, trivial⟩); exact rfl)
    | ((first | with_reducible refine lent_step [(1000000, 800400)] (used_call ?_ ?_ ?_ ?_ ?_) ?_ ?_ ?_ ?_ | with_reducible refine lent_step' [(1000000, 800400)] (used_call ?_ ?_ ?_ ?_ ?_) ?_ ?_ ?_ ?_ | fail); rotate_left 5; exact rfl; (first | exact trivial | exact ⟨rfl, trivial⟩ | exact ⟨rfl, rfl, trivial⟩ | exact ⟨rfl, rfl, rfl, trivial⟩ | exact ⟨rfl, rfl, rfl, rfl, trivial⟩ | exact ⟨rfl, rfl, rfl, rfl, rfl, trivial⟩ | exact ⟨rfl, rfl, rfl, rfl, rfl, rfl, trivial⟩); exact rfl)
    | ((with_reducible refine nilgs_step ?_ ?_ ?_ ?_ ?_ ?_) <;> exact rfl)
    | ((with_reducible refine tok0_step ?_ ?_ ?_ ?_) <;> exact rfl)
    | ((with_reducible refine kok_step ?_ ?_ ?_); exact rfl; exact rfl)
    | ((with_reducible refine idx_step ?_ ?_ ?_ ?_ ?_); exact rfl; exact rfl; rotate_left; (first | with_reducible exact idx_get ‹_› | fail))
    | ((with_reducible refine len_step ?_ ?_); exact rfl)
    | ((with_reducible refine app_step' ?_ ?_ ?_ ?_ ?_ ?_ ?_); exact rfl; exact rfl; exact rfl; exact rfl)
    | ((with_reducible refine nil_step' ?_ ?_ ?_ ?_); exact rfl; exact rfl)
    | ((with_reducible refine guard_step ?_ ?_ (fun hg => ?_) ?_); exact rfl)
    | ((with_reducible refine val_step ?_ ?_); with_reducible exact rfl; with_reducible exact rfl)
    | ((with_reducible refine same_step ?_ ?_); with_reducible exact rfl)
    | ((with_reducible refine chk_step ?_ ?_); kernel_rfl)
    | ((with_reducible refine ret_step ?_); refine ⟨[], rfl, ?_, trivial⟩; conv => whnf)
    | ((with_reducible refine ret_need ?_ ?_); rotate_left; refine ⟨[], rfl, ?_, trivial⟩; conv => whnf)
    | ((with_reducible refine pan_need ?_ ?_); rotate_left; refine ⟨[], rfl, ?_, trivial⟩; conv => whnf)
    | ((with_reducible refine pan_step ?_); refine ⟨[], rfl, ?_, trivial⟩; conv => whnf)
    | (with_reducible refine And.intro ?_ ?_)
    | ((with_reducible refine gs_eq ?_ ?_ ?_); exact rfl; exact rfl; (first | with_reducible exact map_app | with_reducible exact map_app3 | with_reducible exact map_app4 | exact map_snoc | exact rfl | skip))
    | ((with_reducible refine tok_eq ?_ ?_); exact rfl; (first | with_reducible exact map_app | with_reducible exact map_app3 | with_reducible exact map_app4 | exact map_snoc | exact rfl | skip))
    | ((with_reducible refine ren_guard ?_); refine gs_ren ?_ ?_ ?_; exact rfl; exact rfl; (first | exact rfl | skip))
    | exact @rfl AV _
    | exact @rfl Block _
    | exact @rfl (List AV) _
    | exact ble_le rfl
    | fail)
  all_goals first
    | (rfl)
    | ((exact last_cut h (by rw [List.length_map]; omega)))
    | ((exact (last_cut h (by rw [List.length_map]; omega)).1))
    | ((exact (last_cut h (by rw [List.length_map]; omega)).2))
    | ((refine Bool.noConfusion ((hP ?_).symm.trans h); assumption))
    | ((refine Bool.noConfusion ((hS ?_).symm.trans h); assumption))
    | ((refine Bool.noConfusion ((hL ?_).symm.trans h); assumption))
    | ((refine Bool.noConfusion ((hT ?_).symm.trans h); assumption))
    | skip
end Go.Proofs.Ytgilgdfmohmbdaa

