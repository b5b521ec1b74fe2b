/- Contracts: the reference of names: resolving and comparing. -/
import Derived.Test.YtgilgdfmohmbdaaZR
set_option linter.unusedSimpArgs false
set_option linter.unusedVariables false
namespace Go.Proofs.Ytgilgdfmohmbdaa
open Go.Fw Go.Fw.Ref15
set_option maxRecDepth 10000
set_option linter.unusedSectionVars false
variable [GlobInt]
set_option maxHeartbeats 400000 in
theorem resolved_call (p : Pr) (b : Nat) (x : Ex) (hp : p.Small) (hb : b ≤ p.stmts.length) (hx : nodes x ≤ 1073741824) : PCall Try.prog 42 [p.d, x.d, .i (b : Int)] (.ret (.tuple [(resolved p b x).1.d, .b (resolved p b x).2])) := by
  revert x; refine Ex.ind fun x ih hx => ?_
  refine pcall_of_wc tok hmix ⟨[], []⟩ Try.func42 rfl (by kernel_rfl) (by kernel_rfl) (by kernel_rfl) fun hf => ?_
  have hlen := Ex.fits (hf x.d (by simp))
  have hN := nodes_eq x
  have hL := len_nodes x.l
  clear hf
  repeat' ((try (conv => whnf)) <;> first
    | with_reducible exact trivial
    | with_reducible exact rfl
    | with_reducible exact idx_next hd0 ‹_›
    | with_reducible refine BrI.tt ?_
    | with_reducible refine BrI.ff ?_
    | with_reducible refine br_nil hd0 ?_
    | with_reducible refine br_cons hd0 ?_
    | ((with_reducible refine br_nil_k hd0 ?_ ?_); (first | exact rfl | assumption | fail))
    | ((with_reducible refine br_cons_k hd0 ?_ ?_); (first | exact rfl | assumption | fail))
    | with_reducible refine br_nil_and hd0 ?_
    | with_reducible refine br_cons_and hd0 ?_
    | with_reducible refine br_nil_e hd0 ?_
    | with_reducible refine br_cons_e hd0 ?_
    | with_reducible refine BrI.intro (fun h => ?_) (fun h => ?_)
    | ((with_reducible refine LoopAt.mk 0 ?_); refine ⟨rangeL (x.l) 10 (fun (q : (Bool) × (Int) × (List Ex)) => match q with | (ok, idx, out) => [(9, .data (.val (.bool ok)))]) (fun (q : (Bool) × (Int) × (List Ex)) => match q with | (ok, idx, out) => [(8, .cells [.data (.i x.kind), .data (.str x.name), .data (.val (.int .i64 idx)), .data (.i x.n), .gs 900008 5 (out.map Ex.cs)]), (900008, .tok 5 (out.map Ex.cs).length)]) [2, 3, 4, 6, 8] (fun i0 r0 q => match q with | (ok, idx, out) => resolved p b x = (⟨x.kind, x.name, idx, x.n, out ++ (resolvedL p b r0).1⟩, ok && (resolvedL p b r0).2) ∧ out.length = i0 ∧ nodesL r0 ≤ 1073741824), ?_⟩; with_reducible refine rangeL_rule (?_, ?_, ([])) ?_ ?_ (fun i0 ⟨ok, idx, out⟩ hd0 hI0 => ?_) (fun i0 x0 r0 ⟨ok, idx, out⟩ hd0 hl0 hI0 => ?_))
    | (with_reducible refine rangeL_next hd0 (?_, ?_, ?_) ?_ ?_)
    | ((with_reducible refine call_step ?_ ?_ ?_); rotate_left; (first | exact named_call _ | exact value_call _ _ _ (by assumption) (by assumption) | exact lines_call _ (by assumption) | exact find_call _ _ | exact tables_call _ (by assumption) | exact ih _ (drop_mem hd0) (by have := hI0.2.2; simp only [nodesL] at this; omega) | fail))
    | with_reducible refine str_idx hd0 ?_
    | (with_reducible refine ChooseI.l _ ?_)
    | ((with_reducible refine nilgs_step ?_ ?_ ?_ ?_ ?_ ?_) <;> exact rfl)
    | ((with_reducible refine tok0_step ?_ ?_ ?_ ?_) <;> exact rfl)
    | ((with_reducible refine kok_step ?_ ?_ ?_); exact rfl; exact rfl)
    | ((with_reducible refine idx_step ?_ ?_ ?_ ?_ ?_); exact rfl; exact rfl; rotate_left; (first | with_reducible exact idx_get ‹_› | with_reducible exact idx_drop hd0 | with_reducible exact idx_take hd0 | with_reducible exact idx_zip1 hd0 | with_reducible exact idx_zip2 hd0 | with_reducible exact idx_zip1e hd0 | with_reducible exact idx_zip2e hd0 | with_reducible exact idx_drop_e hd0 | fail))
    | ((with_reducible refine len_step ?_ ?_); exact rfl)
    | ((with_reducible refine app_step' ?_ ?_ ?_ ?_ ?_ ?_ ?_); exact rfl; exact rfl; exact rfl; exact rfl)
    | ((with_reducible refine nil_step' ?_ ?_ ?_ ?_); exact rfl; exact rfl)
    | ((with_reducible refine guard_step ?_ ?_ (fun hg => ?_) ?_); exact rfl)
    | ((with_reducible refine val_step ?_ ?_); with_reducible exact rfl; with_reducible exact rfl)
    | ((with_reducible refine same_step ?_ ?_); with_reducible exact rfl)
    | ((with_reducible refine chk_step ?_ ?_); kernel_rfl)
    | ((with_reducible refine ret_step ?_); refine ⟨[], rfl, ?_, trivial⟩; conv => whnf)
    | ((with_reducible refine ret_need ?_ ?_); rotate_left; refine ⟨[], rfl, ?_, trivial⟩; conv => whnf)
    | ((with_reducible refine pan_need ?_ ?_); rotate_left; refine ⟨[], rfl, ?_, trivial⟩; conv => whnf)
    | ((with_reducible refine pan_step ?_); refine ⟨[], rfl, ?_, trivial⟩; conv => whnf)
    | (with_reducible refine And.intro ?_ ?_)
    | ((with_reducible refine gs_eq ?_ ?_ ?_); exact rfl; exact rfl; (first | with_reducible exact map_app | with_reducible exact map_app3 | with_reducible exact map_app4 | exact map_snoc | exact rfl | skip))
    | ((with_reducible refine tok_eq ?_ ?_); exact rfl; (first | with_reducible exact map_app | with_reducible exact map_app3 | with_reducible exact map_app4 | exact map_snoc | exact rfl | skip))
    | ((with_reducible refine ren_guard ?_); refine gs_ren ?_ ?_ ?_; exact rfl; exact rfl; (first | exact rfl | skip))
    | exact @rfl AV _
    | exact @rfl Block _
    | exact @rfl (List AV) _
    | exact ble_le rfl
    | fail)
  all_goals (try simp only [Bool.cond_true_left, Bool.cond_false_right, Bool.cond_false_left, Bool.cond_true_right, Bool.not_eq_true', Bool.not_eq_false', bne, Ex.css_len, List.length_map, Int.toNat_zero] at *)
  all_goals first
    | (rw [hI0]; (try simp only [resolved_eq, Bool.not_true, Bool.not_false, Bool.and_true, Bool.true_and, Bool.and_false, Bool.false_and, Bool.or_true, Bool.true_or, Bool.or_false, Bool.false_or, if_true, if_false, reduceIte, Bool.false_eq_true, Bool.not_not, Bool.not_eq_true', beq_self_eq_true, List.all_cons, List.all_nil, List.any_cons, List.any_nil, List.length_map, bne, eq_self, Int.toNat_zero, *]); first | done | rfl)
    | (rw [hI0.1]; (try simp only [resolved_eq, Bool.not_true, Bool.not_false, Bool.and_true, Bool.true_and, Bool.and_false, Bool.false_and, Bool.or_true, Bool.true_or, Bool.or_false, Bool.false_or, if_true, if_false, reduceIte, Bool.false_eq_true, Bool.not_not, Bool.not_eq_true', beq_self_eq_true, List.all_cons, List.all_nil, List.any_cons, List.any_nil, List.length_map, bne, eq_self, Int.toNat_zero, *]); first | done | rfl)
    | (simp only [resolved_eq, Bool.not_true, Bool.not_false, Bool.and_true, Bool.true_and, Bool.and_false, Bool.false_and, Bool.or_true, Bool.true_or, Bool.or_false, Bool.false_or, if_true, if_false, reduceIte, Bool.false_eq_true, Bool.not_not, Bool.not_eq_true', beq_self_eq_true, List.all_cons, List.all_nil, List.any_cons, List.any_nil, List.length_map, bne, eq_self, Int.toNat_zero, *] <;> rfl)
    | omega
    | ((rw [hI0.1]; simp only [resolvedL, List.append_nil, Bool.and_true, Ex.css_map]; rfl))
    | ((rw [hI0.1]; simp only [resolvedL, List.append_assoc, List.cons_append, List.nil_append, Bool.and_assoc, Bool.cond_false_right]; done))
    | ((simp only [resolved_eq, exIndex, List.nil_append, bne, Bool.not_false, Bool.not_true, Bool.and_true, Bool.and_false, Bool.false_eq_true, if_true, if_false, reduceIte, *]; done))
    | ((simp only [List.length_nil]; done))
    | ((simp only [List.length_append, List.length_cons, List.length_nil]; omega))
    | ((have := hI0.2.2; simp only [nodesL] at this; omega))
    | ((rw [resolved_eq, exIndex]; simp_all; done))
    | (exfalso; simp_all; done)
    | skip
set_option maxHeartbeats 8000000 in
theorem Resolve_call (p : Pr) (hp : p.Small) (hn : ∀ s ∈ p.stmts, nodes s.x ≤ 1073741824) : PCall Try.prog 12 [p.d] (.ret (.tuple [(Resolve p).1.d, .i (Resolve p).2])) := by
  refine pcall_of_wc tok hmix ⟨[], []⟩ Try.func12 rfl (by kernel_rfl) (by kernel_rfl) (by kernel_rfl) fun hf => ?_
  have hlen := (Pr.fits (hf p.d (by simp))).stmts
  have hs1 := hp.params; have hs2 := hp.states; have hs3 := hp.lines; have hs4 := hp.tables; have hs5 := hp.stmts
  have hb1 : p.states.length ≤ 1073741824 := by omega
  have hld : (Declared p).length ≤ 9223372036854775807 := by (have := declared_len p; omega)
  clear hf
  repeat' ((try (conv => whnf)) <;> first
    | with_reducible exact trivial
    | with_reducible exact rfl
    | with_reducible exact idx_next hd4 ‹_›
    | with_reducible exact idx_next hd2 ‹_›
    | with_reducible exact idx_next hd0 ‹_›
    | with_reducible refine BrI.tt ?_
    | with_reducible refine BrI.ff ?_
    | with_reducible refine br_nil hd4 ?_
    | with_reducible refine br_nil hd2 ?_
    | with_reducible refine br_nil hd0 ?_
    | with_reducible refine br_cons hd4 ?_
    | with_reducible refine br_cons hd2 ?_
    | with_reducible refine br_cons hd0 ?_
    | ((with_reducible refine br_nil_k hd4 ?_ ?_); (first | exact rfl | assumption | fail))
    | ((with_reducible refine br_nil_k hd2 ?_ ?_); (first | exact rfl | assumption | fail))
    | ((with_reducible refine br_nil_k hd0 ?_ ?_); (first | exact rfl | assumption | fail))
    | ((with_reducible refine br_cons_k hd4 ?_ ?_); (first | exact rfl | assumption | fail))
    | ((with_reducible refine br_cons_k hd2 ?_ ?_); (first | exact rfl | assumption | fail))
    | ((with_reducible refine br_cons_k hd0 ?_ ?_); (first | exact rfl | assumption | fail))
    | with_reducible refine br_nil_and hd4 ?_
    | with_reducible refine br_nil_and hd2 ?_
    | with_reducible refine br_nil_and hd0 ?_
    | with_reducible refine br_cons_and hd4 ?_
    | with_reducible refine br_cons_and hd2 ?_
    | with_reducible refine br_cons_and hd0 ?_
    | with_reducible refine br_nil_e hd4 ?_
    | with_reducible refine br_nil_e hd2 ?_
    | with_reducible refine br_nil_e hd0 ?_
    | with_reducible refine br_cons_e hd4 ?_
    | with_reducible refine br_cons_e hd2 ?_
    | with_reducible refine br_cons_e hd0 ?_
    | with_reducible refine BrI.intro (fun h => ?_) (fun h => ?_)
    | ((with_reducible refine LoopAt.mk 0 ?_); refine ⟨rangeL (Declared p) 5 (fun (_ : Unit) => []) (fun (_ : Unit) => []) [1, 2, 4] (fun i0 r0 _ => Resolve p = if !r0.all nameOk then (Pr.none, 150) else if !uniqueFrom (Declared p) (Declared p) 0 then (Pr.none, 151) else if !ranged p then (Pr.none, 161) else fin p [] (resolveL p p.stmts 0 false)), ?_⟩; with_reducible refine rangeL_rule () ?_ ?_ (fun i0 (_ : Unit) hd0 hI0 => ?_) (fun i0 x0 r0 (_ : Unit) hd0 hl0 hI0 => ?_))
    | (with_reducible refine rangeL_next hd0 () ?_ ?_)
    | ((with_reducible refine LoopAt.mk 2 ?_); refine ⟨rangeL (Declared p) 6 (fun (_ : Unit) => []) (fun (_ : Unit) => []) [1, 2, 4] (fun i2 r2 _ => Resolve p = if !uniqueFrom (Declared p) r2 i2 then (Pr.none, 151) else if !ranged p then (Pr.none, 161) else fin p [] (resolveL p p.stmts 0 false)), ?_⟩; with_reducible refine rangeL_rule () ?_ ?_ (fun i2 (_ : Unit) hd2 hI2 => ?_) (fun i2 x2 r2 (_ : Unit) hd2 hl2 hI2 => ?_))
    | (with_reducible refine rangeL_next hd2 () ?_ ?_)
    | ((with_reducible refine LoopAt.mk 4 ?_); refine ⟨rangeL (p.stmts) 9 (fun (q : (Bool) × (List Sm)) => match q with | (out, done) => [(8, .data (.val (.bool out)))]) (fun (q : (Bool) × (List Sm)) => match q with | (out, done) => [(7, .cells [.data (.str p.name), .data (.i p.latency), .data (.i p.tail), .data (.sl 3 (p.params.map Bd.cs)), .data (.sl 3 (p.states.map Bd.cs)), .data (.sl 4 (p.lines.map Ln.cs)), .data (.sl 2 (p.tables.map Tb.cs)), .gs 78 8 (done.map Sm.cs)]), (78, .tok 8 (done.map Sm.cs).length)]) [1, 2, 7] (fun i4 r4 q => match q with | (out, done) => Resolve p = fin p done (resolveL p r4 i4 out) ∧ done.length = i4), ?_⟩; with_reducible refine rangeL_rule (?_, ([])) ?_ ?_ (fun i4 ⟨out, done⟩ hd4 hI4 => ?_) (fun i4 x4 r4 ⟨out, done⟩ hd4 hl4 hI4 => ?_))
    | (with_reducible refine rangeL_next hd4 (?_, (done ++ [⟨x4.kind, x4.name, smIndex p x4, (resolved p i4 x4.x).1⟩])) ?_ ?_)
    | ((with_reducible refine call_step ?_ ?_ ?_); rotate_left; (first | exact Formed_call _ | exact limited_call _ (by assumption) | exact Declared_call _ (by assumption) | exact name_call _ | exact words_call | exact find_call _ _ | exact ranged_call _ | exact resolved_call _ _ _ (by assumption) (by assumption) (by assumption) | exact bounds_call _ (by assumption) | exact lines_call _ (by assumption) | exact again_call _ _ _ (by assumption) | exact again_call _ _ x4 (drop_get hd4) | exact resolved_call _ _ _ hp (Nat.le_of_lt hl4) (hn _ (drop_mem hd4)) | exact limited_call _ hn | fail))
    | ((first | with_reducible refine lent_step [(1000000, 800000)] (bounds_gs ?_ ?_) ?_ ?_ ?_ ?_ | with_reducible refine lent_step' [(1000000, 800000)] (bounds_gs ?_ ?_) ?_ ?_ ?_ ?_ | fail); rotate_left 2; exact rfl; (first | exact trivial | exact ⟨rfl, trivial⟩ | exact ⟨rfl, rfl, trivial⟩ | exact ⟨rfl, rfl, rfl, trivial⟩ | exact ⟨rfl, rfl, rfl, rfl, trivial⟩ | exact ⟨rfl, rfl, rfl, rfl, rfl, trivial⟩ | exact ⟨rfl, rfl, rfl, rfl, rfl, rfl, trivial⟩); exact rfl)
    | with_reducible refine str_idx hd4 ?_
    | with_reducible refine str_idx hd2 ?_
    | with_reducible refine str_idx hd0 ?_
    | (with_reducible refine ChooseI.l _ ?_)
    | ((with_reducible refine nilgs_step ?_ ?_ ?_ ?_ ?_ ?_) <;> exact rfl)
    | ((with_reducible refine tok0_step ?_ ?_ ?_ ?_) <;> exact rfl)
    | ((with_reducible refine kok_step ?_ ?_ ?_); exact rfl; exact rfl)
    | ((with_reducible refine idx_step ?_ ?_ ?_ ?_ ?_); exact rfl; exact rfl; rotate_left; (first | with_reducible exact idx_get ‹_› | with_reducible exact idx_drop hd4 | with_reducible exact idx_take hd4 | with_reducible exact idx_zip1 hd4 | with_reducible exact idx_zip2 hd4 | with_reducible exact idx_zip1e hd4 | with_reducible exact idx_zip2e hd4 | with_reducible exact idx_drop_e hd4 | with_reducible exact idx_drop hd2 | with_reducible exact idx_take hd2 | with_reducible exact idx_zip1 hd2 | with_reducible exact idx_zip2 hd2 | with_reducible exact idx_zip1e hd2 | with_reducible exact idx_zip2e hd2 | with_reducible exact idx_drop_e hd2 | with_reducible exact idx_drop hd0 | with_reducible exact idx_take hd0 | with_reducible exact idx_zip1 hd0 | with_reducible exact idx_zip2 hd0 | with_reducible exact idx_zip1e hd0 | with_reducible exact idx_zip2e hd0 | with_reducible exact idx_drop_e hd0 | fail))
    | ((with_reducible refine len_step ?_ ?_); exact rfl)
    | ((with_reducible refine app_step' ?_ ?_ ?_ ?_ ?_ ?_ ?_); exact rfl; exact rfl; exact rfl; exact rfl)
    | ((with_reducible refine nil_step' ?_ ?_ ?_ ?_); exact rfl; exact rfl)
    | ((with_reducible refine guard_step ?_ ?_ (fun hg => ?_) ?_); exact rfl)
    | ((with_reducible refine val_step ?_ ?_); with_reducible exact rfl; with_reducible exact rfl)
    | ((with_reducible refine same_step ?_ ?_); with_reducible exact rfl)
    | ((with_reducible refine chk_step ?_ ?_); kernel_rfl)
    | ((with_reducible refine ret_step ?_); refine ⟨[], rfl, ?_, trivial⟩; conv => whnf)
    | ((with_reducible refine ret_need ?_ ?_); rotate_left; refine ⟨[], rfl, ?_, trivial⟩; conv => whnf)
    | ((with_reducible refine pan_need ?_ ?_); rotate_left; refine ⟨[], rfl, ?_, trivial⟩; conv => whnf)
    | ((with_reducible refine pan_step ?_); refine ⟨[], rfl, ?_, trivial⟩; conv => whnf)
    | (with_reducible refine And.intro ?_ ?_)
    | ((with_reducible refine gs_eq ?_ ?_ ?_); exact rfl; exact rfl; (first | with_reducible exact map_app | with_reducible exact map_app3 | with_reducible exact map_app4 | exact map_snoc | exact rfl | skip))
    | ((with_reducible refine tok_eq ?_ ?_); exact rfl; (first | with_reducible exact map_app | with_reducible exact map_app3 | with_reducible exact map_app4 | exact map_snoc | exact rfl | skip))
    | ((with_reducible refine ren_guard ?_); refine gs_ren ?_ ?_ ?_; exact rfl; exact rfl; (first | exact rfl | skip))
    | exact @rfl AV _
    | exact @rfl Block _
    | exact @rfl (List AV) _
    | exact ble_le rfl
    | fail)
  all_goals (try simp only [Bool.cond_true_left, Bool.cond_false_right, Bool.cond_false_left, Bool.cond_true_right, Bool.not_eq_true', Bool.not_eq_false', bne, Ex.css_len, List.length_map, Int.toNat_zero] at *)
  all_goals first
    | (rw [hI4]; (try simp only [nameOk, uniqueFrom, resolveL, smIndex, Bool.not_true, Bool.not_false, Bool.and_true, Bool.true_and, Bool.and_false, Bool.false_and, Bool.or_true, Bool.true_or, Bool.or_false, Bool.false_or, if_true, if_false, reduceIte, Bool.false_eq_true, Bool.not_not, Bool.not_eq_true', beq_self_eq_true, List.all_cons, List.all_nil, List.any_cons, List.any_nil, List.length_map, bne, eq_self, Int.toNat_zero, *]); first | done | rfl)
    | (rw [hI2]; (try simp only [nameOk, uniqueFrom, resolveL, smIndex, Bool.not_true, Bool.not_false, Bool.and_true, Bool.true_and, Bool.and_false, Bool.false_and, Bool.or_true, Bool.true_or, Bool.or_false, Bool.false_or, if_true, if_false, reduceIte, Bool.false_eq_true, Bool.not_not, Bool.not_eq_true', beq_self_eq_true, List.all_cons, List.all_nil, List.any_cons, List.any_nil, List.length_map, bne, eq_self, Int.toNat_zero, *]); first | done | rfl)
    | (rw [hI0]; (try simp only [nameOk, uniqueFrom, resolveL, smIndex, Bool.not_true, Bool.not_false, Bool.and_true, Bool.true_and, Bool.and_false, Bool.false_and, Bool.or_true, Bool.true_or, Bool.or_false, Bool.false_or, if_true, if_false, reduceIte, Bool.false_eq_true, Bool.not_not, Bool.not_eq_true', beq_self_eq_true, List.all_cons, List.all_nil, List.any_cons, List.any_nil, List.length_map, bne, eq_self, Int.toNat_zero, *]); first | done | rfl)
    | (rw [hI4.1]; (try simp only [nameOk, uniqueFrom, resolveL, smIndex, Bool.not_true, Bool.not_false, Bool.and_true, Bool.true_and, Bool.and_false, Bool.false_and, Bool.or_true, Bool.true_or, Bool.or_false, Bool.false_or, if_true, if_false, reduceIte, Bool.false_eq_true, Bool.not_not, Bool.not_eq_true', beq_self_eq_true, List.all_cons, List.all_nil, List.any_cons, List.any_nil, List.length_map, bne, eq_self, Int.toNat_zero, *]); first | done | rfl)
    | (rw [hI2.1]; (try simp only [nameOk, uniqueFrom, resolveL, smIndex, Bool.not_true, Bool.not_false, Bool.and_true, Bool.true_and, Bool.and_false, Bool.false_and, Bool.or_true, Bool.true_or, Bool.or_false, Bool.false_or, if_true, if_false, reduceIte, Bool.false_eq_true, Bool.not_not, Bool.not_eq_true', beq_self_eq_true, List.all_cons, List.all_nil, List.any_cons, List.any_nil, List.length_map, bne, eq_self, Int.toNat_zero, *]); first | done | rfl)
    | (rw [hI0.1]; (try simp only [nameOk, uniqueFrom, resolveL, smIndex, Bool.not_true, Bool.not_false, Bool.and_true, Bool.true_and, Bool.and_false, Bool.false_and, Bool.or_true, Bool.true_or, Bool.or_false, Bool.false_or, if_true, if_false, reduceIte, Bool.false_eq_true, Bool.not_not, Bool.not_eq_true', beq_self_eq_true, List.all_cons, List.all_nil, List.any_cons, List.any_nil, List.length_map, bne, eq_self, Int.toNat_zero, *]); first | done | rfl)
    | (simp only [nameOk, uniqueFrom, resolveL, smIndex, Bool.not_true, Bool.not_false, Bool.and_true, Bool.true_and, Bool.and_false, Bool.false_and, Bool.or_true, Bool.true_or, Bool.or_false, Bool.false_or, if_true, if_false, reduceIte, Bool.false_eq_true, Bool.not_not, Bool.not_eq_true', beq_self_eq_true, List.all_cons, List.all_nil, List.any_cons, List.any_nil, List.length_map, bne, eq_self, Int.toNat_zero, *]; done)
    | (simp only [Resolve, nameOk, Bool.not_true, Bool.not_false, Bool.and_true, Bool.true_and, Bool.and_false, Bool.false_and, Bool.or_true, Bool.true_or, Bool.or_false, Bool.false_or, if_true, if_false, reduceIte, Bool.false_eq_true, Bool.not_not, Bool.not_eq_true', beq_self_eq_true, List.all_cons, List.all_nil, List.any_cons, List.any_nil, List.length_map, bne, eq_self, Int.toNat_zero, *] <;> rfl)
    | omega
    | ((rw [hI4.1]; simp only [nameOk, uniqueFrom, resolveL, smIndex, Bool.not_true, Bool.not_false, Bool.and_true, Bool.true_and, Bool.and_false, Bool.false_and, Bool.or_true, Bool.true_or, Bool.or_false, Bool.false_or, if_true, if_false, reduceIte, Bool.false_eq_true, Bool.not_not, Bool.not_eq_true', beq_self_eq_true, List.all_cons, List.all_nil, List.any_cons, List.any_nil, List.length_map, bne, eq_self, Int.toNat_zero, *]; exact fin_cons))
    | ((rw [hI4.1]; simp only [resolveL, Ref15.fin, List.append_nil, Bool.not_true, Bool.not_false, Bool.and_true, Bool.true_and, Bool.and_false, Bool.false_and, Bool.or_true, Bool.true_or, Bool.or_false, Bool.false_or, if_true, if_false, reduceIte, Bool.false_eq_true, Bool.not_not, Bool.not_eq_true', beq_self_eq_true, List.all_cons, List.all_nil, List.any_cons, List.any_nil, List.length_map, bne, eq_self, Int.toNat_zero, *] <;> rfl))
    | ((simp only [List.length_append, List.length_cons, List.length_nil]; omega))
    | ((simp only [List.length_nil]; done))
    | ((simp only [smIndex, Bool.not_true, Bool.not_false, Bool.and_true, Bool.true_and, Bool.and_false, Bool.false_and, Bool.or_true, Bool.true_or, Bool.or_false, Bool.false_or, if_true, if_false, reduceIte, Bool.false_eq_true, Bool.not_not, Bool.not_eq_true', beq_self_eq_true, List.all_cons, List.all_nil, List.any_cons, List.any_nil, List.length_map, bne, eq_self, Int.toNat_zero, *]; refine Eq.trans ?_ map_snoc; rfl))
    | (exfalso; simp_all; done)
    | skip
set_option maxHeartbeats 400000 in
theorem sameExpr_call (a b : Ex)  : PCall Try.prog 26 [a.d, b.d] (.ret (.b (SameExpr a b))) := by
  revert b; revert a; refine Ex.ind fun a ih b => ?_
  refine pcall_of_wc tok hmix ⟨[], []⟩ Try.func26 rfl (by kernel_rfl) (by kernel_rfl) (by kernel_rfl) fun hf => ?_
  have hlen := Ex.fits (hf a.d (by simp))
  clear hf
  repeat' ((try (conv => whnf)) <;> first
    | with_reducible exact trivial
    | with_reducible exact rfl
    | with_reducible exact idx_next hd0 ‹_›
    | with_reducible refine BrI.tt ?_
    | with_reducible refine BrI.ff ?_
    | with_reducible refine br_nil hd0 ?_
    | with_reducible refine br_cons hd0 ?_
    | ((with_reducible refine br_nil_k hd0 ?_ ?_); (first | exact rfl | assumption | fail))
    | ((with_reducible refine br_cons_k hd0 ?_ ?_); (first | exact rfl | assumption | fail))
    | with_reducible refine br_nil_and hd0 ?_
    | with_reducible refine br_cons_and hd0 ?_
    | with_reducible refine br_nil_e hd0 ?_
    | with_reducible refine br_cons_e hd0 ?_
    | with_reducible refine BrI.intro (fun h => ?_) (fun h => ?_)
    | ((with_reducible refine LoopAt.mk 0 ?_); have hz : a.l.length = b.l.length := (by simp [Ex.css_len] at h; omega); have hk0 : (a.l.zip b.l).length = (Ex.css a.l).length := (by rw [zip_len hz, Ex.css_len]); have hlz : (a.l.zip b.l).length ≤ 9223372036854775807 := (by rw [zip_len hz]; exact hlen); refine ⟨rangeL (a.l.zip b.l) 5 (fun (_ : Unit) => []) (fun (_ : Unit) => []) [2, 3] (fun i0 r0 _ => SameExpr a b = r0.all fun q => SameExpr q.1 q.2), ?_⟩; with_reducible refine rangeL_rule () ?_ ?_ (fun i0 (_ : Unit) hd0 hI0 => ?_) (fun i0 x0 r0 (_ : Unit) hd0 hl0 hI0 => ?_))
    | (with_reducible refine rangeL_next hd0 () ?_ ?_)
    | ((with_reducible refine call_step ?_ ?_ ?_); rotate_left; (first | exact ih _ (List.of_mem_zip (drop_mem hd0)).1 _ | fail))
    | with_reducible refine str_idx hd0 ?_
    | (with_reducible refine ChooseI.l _ ?_)
    | ((with_reducible refine nilgs_step ?_ ?_ ?_ ?_ ?_ ?_) <;> exact rfl)
    | ((with_reducible refine tok0_step ?_ ?_ ?_ ?_) <;> exact rfl)
    | ((with_reducible refine kok_step ?_ ?_ ?_); exact rfl; exact rfl)
    | ((with_reducible refine idx_step ?_ ?_ ?_ ?_ ?_); exact rfl; exact rfl; rotate_left; (first | with_reducible exact idx_get ‹_› | with_reducible exact idx_drop hd0 | with_reducible exact idx_take hd0 | with_reducible exact idx_zip1 hd0 | with_reducible exact idx_zip2 hd0 | with_reducible exact idx_zip1e hd0 | with_reducible exact idx_zip2e hd0 | with_reducible exact idx_drop_e hd0 | fail))
    | ((with_reducible refine len_step ?_ ?_); exact rfl)
    | ((with_reducible refine app_step' ?_ ?_ ?_ ?_ ?_ ?_ ?_); exact rfl; exact rfl; exact rfl; exact rfl)
    | ((with_reducible refine nil_step' ?_ ?_ ?_ ?_); exact rfl; exact rfl)
    | ((with_reducible refine guard_step ?_ ?_ (fun hg => ?_) ?_); exact rfl)
    | ((with_reducible refine val_step ?_ ?_); with_reducible exact rfl; with_reducible exact rfl)
    | ((with_reducible refine same_step ?_ ?_); with_reducible exact rfl)
    | ((with_reducible refine chk_step ?_ ?_); kernel_rfl)
    | ((with_reducible refine ret_step ?_); refine ⟨[], rfl, ?_, trivial⟩; conv => whnf)
    | ((with_reducible refine ret_need ?_ ?_); rotate_left; refine ⟨[], rfl, ?_, trivial⟩; conv => whnf)
    | ((with_reducible refine pan_need ?_ ?_); rotate_left; refine ⟨[], rfl, ?_, trivial⟩; conv => whnf)
    | ((with_reducible refine pan_step ?_); refine ⟨[], rfl, ?_, trivial⟩; conv => whnf)
    | (with_reducible refine And.intro ?_ ?_)
    | ((with_reducible refine gs_eq ?_ ?_ ?_); exact rfl; exact rfl; (first | with_reducible exact map_app | with_reducible exact map_app3 | with_reducible exact map_app4 | exact map_snoc | exact rfl | skip))
    | ((with_reducible refine tok_eq ?_ ?_); exact rfl; (first | with_reducible exact map_app | with_reducible exact map_app3 | with_reducible exact map_app4 | exact map_snoc | exact rfl | skip))
    | ((with_reducible refine ren_guard ?_); refine gs_ren ?_ ?_ ?_; exact rfl; exact rfl; (first | exact rfl | skip))
    | exact @rfl AV _
    | exact @rfl Block _
    | exact @rfl (List AV) _
    | exact ble_le rfl
    | fail)
  all_goals (try simp only [Bool.cond_true_left, Bool.cond_false_right, Bool.cond_false_left, Bool.cond_true_right, Bool.not_eq_true', Bool.not_eq_false', bne, Ex.css_len, List.length_map, Int.toNat_zero] at *)
  all_goals first
    | (rw [hI0]; (try simp only [List.all_cons, Bool.not_true, Bool.not_false, Bool.and_true, Bool.true_and, Bool.and_false, Bool.false_and, Bool.or_true, Bool.true_or, Bool.or_false, Bool.false_or, if_true, if_false, reduceIte, Bool.false_eq_true, Bool.not_not, Bool.not_eq_true', beq_self_eq_true, List.all_cons, List.all_nil, List.any_cons, List.any_nil, List.length_map, bne, eq_self, Int.toNat_zero, *]); first | done | rfl)
    | (rw [hI0.1]; (try simp only [List.all_cons, Bool.not_true, Bool.not_false, Bool.and_true, Bool.true_and, Bool.and_false, Bool.false_and, Bool.or_true, Bool.true_or, Bool.or_false, Bool.false_or, if_true, if_false, reduceIte, Bool.false_eq_true, Bool.not_not, Bool.not_eq_true', beq_self_eq_true, List.all_cons, List.all_nil, List.any_cons, List.any_nil, List.length_map, bne, eq_self, Int.toNat_zero, *]); first | done | rfl)
    | (simp only [List.all_cons, Bool.not_true, Bool.not_false, Bool.and_true, Bool.true_and, Bool.and_false, Bool.false_and, Bool.or_true, Bool.true_or, Bool.or_false, Bool.false_or, if_true, if_false, reduceIte, Bool.false_eq_true, Bool.not_not, Bool.not_eq_true', beq_self_eq_true, List.all_cons, List.all_nil, List.any_cons, List.any_nil, List.length_map, bne, eq_self, Int.toNat_zero, *]; done)
    | (simp only [SameExpr_eq, Bool.not_true, Bool.not_false, Bool.and_true, Bool.true_and, Bool.and_false, Bool.false_and, Bool.or_true, Bool.true_or, Bool.or_false, Bool.false_or, if_true, if_false, reduceIte, Bool.false_eq_true, Bool.not_not, Bool.not_eq_true', beq_self_eq_true, List.all_cons, List.all_nil, List.any_cons, List.any_nil, List.length_map, bne, eq_self, Int.toNat_zero, *]; done)
    | omega
    | ((rw [SameExpr_eq, ← sameL_zip hz]; simp_all; done))
    | (exfalso; simp_all; done)
    | skip
set_option maxHeartbeats 400000 in
theorem sameBounds_call (l m : List Bd)  : PCall Try.prog 46 [.sl 3 (l.map Bd.cs), .sl 3 (m.map Bd.cs)] (.ret (.b (sameBounds l m))) := by
  refine pcall_of_wc tok hmix ⟨[], []⟩ Try.func46 rfl (by kernel_rfl) (by kernel_rfl) (by kernel_rfl) fun hf => ?_
  have hlen : l.length ≤ 9223372036854775807 := by simpa using (hf (.sl 3 (l.map Bd.cs)) (by simp)).sl.1
  clear hf
  repeat' ((try (conv => whnf)) <;> first
    | with_reducible exact trivial
    | with_reducible exact rfl
    | with_reducible exact idx_next hd0 ‹_›
    | with_reducible refine BrI.tt ?_
    | with_reducible refine BrI.ff ?_
    | with_reducible refine br_nil hd0 ?_
    | with_reducible refine br_cons hd0 ?_
    | ((with_reducible refine br_nil_k hd0 ?_ ?_); (first | exact rfl | assumption | fail))
    | ((with_reducible refine br_cons_k hd0 ?_ ?_); (first | exact rfl | assumption | fail))
    | with_reducible refine br_nil_and hd0 ?_
    | with_reducible refine br_cons_and hd0 ?_
    | with_reducible refine br_nil_e hd0 ?_
    | with_reducible refine br_cons_e hd0 ?_
    | with_reducible refine BrI.intro (fun h => ?_) (fun h => ?_)
    | ((with_reducible refine LoopAt.mk 0 ?_); have hz : l.length = m.length := (by simp at h; omega); have hk0 : (l.zip m).length = (l.map Bd.cs).length := (by rw [zip_len hz, List.length_map]); have hlz : (l.zip m).length ≤ 9223372036854775807 := (by rw [zip_len hz]; exact hlen); refine ⟨rangeL (l.zip m) 5 (fun (_ : Unit) => []) (fun (_ : Unit) => []) [0, 1] (fun i0 r0 _ => sameBounds l m = r0.all bdSame), ?_⟩; with_reducible refine rangeL_rule () ?_ ?_ (fun i0 (_ : Unit) hd0 hI0 => ?_) (fun i0 x0 r0 (_ : Unit) hd0 hl0 hI0 => ?_))
    | (with_reducible refine rangeL_next hd0 () ?_ ?_)
    | with_reducible refine str_idx hd0 ?_
    | (with_reducible refine ChooseI.l _ ?_)
    | ((with_reducible refine nilgs_step ?_ ?_ ?_ ?_ ?_ ?_) <;> exact rfl)
    | ((with_reducible refine tok0_step ?_ ?_ ?_ ?_) <;> exact rfl)
    | ((with_reducible refine kok_step ?_ ?_ ?_); exact rfl; exact rfl)
    | ((with_reducible refine idx_step ?_ ?_ ?_ ?_ ?_); exact rfl; exact rfl; rotate_left; (first | with_reducible exact idx_get ‹_› | with_reducible exact idx_drop hd0 | with_reducible exact idx_take hd0 | with_reducible exact idx_zip1 hd0 | with_reducible exact idx_zip2 hd0 | with_reducible exact idx_zip1e hd0 | with_reducible exact idx_zip2e hd0 | with_reducible exact idx_drop_e hd0 | fail))
    | ((with_reducible refine len_step ?_ ?_); exact rfl)
    | ((with_reducible refine app_step' ?_ ?_ ?_ ?_ ?_ ?_ ?_); exact rfl; exact rfl; exact rfl; exact rfl)
    | ((with_reducible refine nil_step' ?_ ?_ ?_ ?_); exact rfl; exact rfl)
    | ((with_reducible refine guard_step ?_ ?_ (fun hg => ?_) ?_); exact rfl)
    | ((with_reducible refine val_step ?_ ?_); with_reducible exact rfl; with_reducible exact rfl)
    | ((with_reducible refine same_step ?_ ?_); with_reducible exact rfl)
    | ((with_reducible refine chk_step ?_ ?_); kernel_rfl)
    | ((with_reducible refine ret_step ?_); refine ⟨[], rfl, ?_, trivial⟩; conv => whnf)
    | ((with_reducible refine ret_need ?_ ?_); rotate_left; refine ⟨[], rfl, ?_, trivial⟩; conv => whnf)
    | ((with_reducible refine pan_need ?_ ?_); rotate_left; refine ⟨[], rfl, ?_, trivial⟩; conv => whnf)
    | ((with_reducible refine pan_step ?_); refine ⟨[], rfl, ?_, trivial⟩; conv => whnf)
    | (with_reducible refine And.intro ?_ ?_)
    | ((with_reducible refine gs_eq ?_ ?_ ?_); exact rfl; exact rfl; (first | with_reducible exact map_app | with_reducible exact map_app3 | with_reducible exact map_app4 | exact map_snoc | exact rfl | skip))
    | ((with_reducible refine tok_eq ?_ ?_); exact rfl; (first | with_reducible exact map_app | with_reducible exact map_app3 | with_reducible exact map_app4 | exact map_snoc | exact rfl | skip))
    | ((with_reducible refine ren_guard ?_); refine gs_ren ?_ ?_ ?_; exact rfl; exact rfl; (first | exact rfl | skip))
    | exact @rfl AV _
    | exact @rfl Block _
    | exact @rfl (List AV) _
    | exact ble_le rfl
    | fail)
  all_goals (try simp only [Bool.cond_true_left, Bool.cond_false_right, Bool.cond_false_left, Bool.cond_true_right, Bool.not_eq_true', Bool.not_eq_false', bne, Ex.css_len, List.length_map, Int.toNat_zero] at *)
  all_goals first
    | (rw [hI0]; (try simp only [bdSame, Bool.not_true, Bool.not_false, Bool.and_true, Bool.true_and, Bool.and_false, Bool.false_and, Bool.or_true, Bool.true_or, Bool.or_false, Bool.false_or, if_true, if_false, reduceIte, Bool.false_eq_true, Bool.not_not, Bool.not_eq_true', beq_self_eq_true, List.all_cons, List.all_nil, List.any_cons, List.any_nil, List.length_map, bne, eq_self, Int.toNat_zero, *]); first | done | rfl)
    | (rw [hI0.1]; (try simp only [bdSame, Bool.not_true, Bool.not_false, Bool.and_true, Bool.true_and, Bool.and_false, Bool.false_and, Bool.or_true, Bool.true_or, Bool.or_false, Bool.false_or, if_true, if_false, reduceIte, Bool.false_eq_true, Bool.not_not, Bool.not_eq_true', beq_self_eq_true, List.all_cons, List.all_nil, List.any_cons, List.any_nil, List.length_map, bne, eq_self, Int.toNat_zero, *]); first | done | rfl)
    | (simp only [bdSame, Bool.not_true, Bool.not_false, Bool.and_true, Bool.true_and, Bool.and_false, Bool.false_and, Bool.or_true, Bool.true_or, Bool.or_false, Bool.false_or, if_true, if_false, reduceIte, Bool.false_eq_true, Bool.not_not, Bool.not_eq_true', beq_self_eq_true, List.all_cons, List.all_nil, List.any_cons, List.any_nil, List.length_map, bne, eq_self, Int.toNat_zero, *]; done)
    | (simp only [sameBounds, Bool.not_true, Bool.not_false, Bool.and_true, Bool.true_and, Bool.and_false, Bool.false_and, Bool.or_true, Bool.true_or, Bool.or_false, Bool.false_or, if_true, if_false, reduceIte, Bool.false_eq_true, Bool.not_not, Bool.not_eq_true', beq_self_eq_true, List.all_cons, List.all_nil, List.any_cons, List.any_nil, List.length_map, bne, eq_self, Int.toNat_zero, *]; done)
    | omega
    | (exfalso; simp_all; done)
    | skip
set_option maxHeartbeats 400000 in
theorem sameDecls_call (a b : Pr)  : PCall Try.prog 14 [a.d, b.d] (.ret (.b (SameDecls a b))) := by
  refine pcall_of_wc tok hmix ⟨[], []⟩ Try.func14 rfl (by kernel_rfl) (by kernel_rfl) (by kernel_rfl) fun hf => ?_
  have hq := Pr.fits (hf a.d (by simp))
  have hlen1 := hq.lines; have hlen2 := hq.tables; have hlen3 := hq.values
  clear hf
  repeat' ((try (conv => whnf)) <;> first
    | with_reducible exact trivial
    | with_reducible exact rfl
    | with_reducible exact idx_next hd4 ‹_›
    | with_reducible exact idx_next hd2 ‹_›
    | with_reducible exact idx_next hd0 ‹_›
    | with_reducible refine BrI.tt ?_
    | with_reducible refine BrI.ff ?_
    | with_reducible refine br_nil hd4 ?_
    | with_reducible refine br_nil hd2 ?_
    | with_reducible refine br_nil hd0 ?_
    | with_reducible refine br_cons hd4 ?_
    | with_reducible refine br_cons hd2 ?_
    | with_reducible refine br_cons hd0 ?_
    | ((with_reducible refine br_nil_k hd4 ?_ ?_); (first | exact rfl | assumption | fail))
    | ((with_reducible refine br_nil_k hd2 ?_ ?_); (first | exact rfl | assumption | fail))
    | ((with_reducible refine br_nil_k hd0 ?_ ?_); (first | exact rfl | assumption | fail))
    | ((with_reducible refine br_cons_k hd4 ?_ ?_); (first | exact rfl | assumption | fail))
    | ((with_reducible refine br_cons_k hd2 ?_ ?_); (first | exact rfl | assumption | fail))
    | ((with_reducible refine br_cons_k hd0 ?_ ?_); (first | exact rfl | assumption | fail))
    | with_reducible refine br_nil_and hd4 ?_
    | with_reducible refine br_nil_and hd2 ?_
    | with_reducible refine br_nil_and hd0 ?_
    | with_reducible refine br_cons_and hd4 ?_
    | with_reducible refine br_cons_and hd2 ?_
    | with_reducible refine br_cons_and hd0 ?_
    | with_reducible refine br_nil_e hd4 ?_
    | with_reducible refine br_nil_e hd2 ?_
    | with_reducible refine br_nil_e hd0 ?_
    | with_reducible refine br_cons_e hd4 ?_
    | with_reducible refine br_cons_e hd2 ?_
    | with_reducible refine br_cons_e hd0 ?_
    | with_reducible refine BrI.intro (fun h => ?_) (fun h => ?_)
    | ((with_reducible refine LoopAt.mk 0 ?_); have hh : heads a b = true := (by simp only [heads]; simp_all); have hz : a.lines.length = b.lines.length := (by simp at h; omega); have hz2 : a.tables.length = b.tables.length := (by simp at h; omega); have hk0 : (a.lines.zip b.lines).length = (a.lines.map Ln.cs).length := (by rw [zip_len hz, List.length_map]); have hlz : (a.lines.zip b.lines).length ≤ 9223372036854775807 := (by rw [zip_len hz]; exact hlen1); refine ⟨rangeL (a.lines.zip b.lines) 5 (fun (_ : Unit) => []) (fun (_ : Unit) => []) [2, 3] (fun i0 r0 _ => SameDecls a b = (r0.all lnSame && (a.tables.zip b.tables).all tbSame)), ?_⟩; with_reducible refine rangeL_rule () ?_ ?_ (fun i0 (_ : Unit) hd0 hI0 => ?_) (fun i0 x0 r0 (_ : Unit) hd0 hl0 hI0 => ?_))
    | (with_reducible refine rangeL_next hd0 () ?_ ?_)
    | ((with_reducible refine LoopAt.mk 2 ?_); have hk2 : (a.tables.zip b.tables).length = (a.tables.map Tb.cs).length := (by rw [zip_len hz2, List.length_map]); have hlz2 : (a.tables.zip b.tables).length ≤ 9223372036854775807 := (by rw [zip_len hz2]; exact hlen2); refine ⟨rangeL (a.tables.zip b.tables) 6 (fun (_ : Unit) => []) (fun (_ : Unit) => []) [2, 3] (fun i2 r2 _ => SameDecls a b = r2.all tbSame), ?_⟩; with_reducible refine rangeL_rule () ?_ ?_ (fun i2 (_ : Unit) hd2 hI2 => ?_) (fun i2 x2 r2 (_ : Unit) hd2 hl2 hI2 => ?_))
    | (with_reducible refine rangeL_next hd2 () ?_ ?_)
    | ((with_reducible refine LoopAt.mk 4 ?_); have hz4 : x2.1.values.length = x2.2.values.length := (by simp at h; omega); have hl4 : x2.1.values.length ≤ 9223372036854775807 := hlen3 _ (List.of_mem_zip (drop_mem hd2)).1; have hk4 : (x2.1.values.zip x2.2.values).length = (x2.1.values.map intC).length := (by rw [zip_len hz4, List.length_map]); have hlz4 : (x2.1.values.zip x2.2.values).length ≤ 9223372036854775807 := (by rw [zip_len hz4]; exact hl4); refine ⟨rangeL (x2.1.values.zip x2.2.values) 7 (fun (_ : Unit) => []) (fun (_ : Unit) => []) [2, 3, 6] (fun i4 r4 _ => SameDecls a b = ((r4.all fun v => !(v.1 != v.2)) && r2.all tbSame)), ?_⟩; with_reducible refine rangeL_rule () ?_ ?_ (fun i4 (_ : Unit) hd4 hI4 => ?_) (fun i4 x4 r4 (_ : Unit) hd4 hl4 hI4 => ?_))
    | (with_reducible refine rangeL_next hd4 () ?_ ?_)
    | ((with_reducible refine call_step ?_ ?_ ?_); rotate_left; (first | exact sameBounds_call _ _ | fail))
    | with_reducible refine str_idx hd4 ?_
    | with_reducible refine str_idx hd2 ?_
    | with_reducible refine str_idx hd0 ?_
    | (with_reducible refine ChooseI.l _ ?_)
    | ((with_reducible refine nilgs_step ?_ ?_ ?_ ?_ ?_ ?_) <;> exact rfl)
    | ((with_reducible refine tok0_step ?_ ?_ ?_ ?_) <;> exact rfl)
    | ((with_reducible refine kok_step ?_ ?_ ?_); exact rfl; exact rfl)
    | ((with_reducible refine idx_step ?_ ?_ ?_ ?_ ?_); exact rfl; exact rfl; rotate_left; (first | with_reducible exact idx_get ‹_› | with_reducible exact idx_drop hd4 | with_reducible exact idx_take hd4 | with_reducible exact idx_zip1 hd4 | with_reducible exact idx_zip2 hd4 | with_reducible exact idx_zip1e hd4 | with_reducible exact idx_zip2e hd4 | with_reducible exact idx_drop_e hd4 | with_reducible exact idx_drop hd2 | with_reducible exact idx_take hd2 | with_reducible exact idx_zip1 hd2 | with_reducible exact idx_zip2 hd2 | with_reducible exact idx_zip1e hd2 | with_reducible exact idx_zip2e hd2 | with_reducible exact idx_drop_e hd2 | with_reducible exact idx_drop hd0 | with_reducible exact idx_take hd0 | with_reducible exact idx_zip1 hd0 | with_reducible exact idx_zip2 hd0 | with_reducible exact idx_zip1e hd0 | with_reducible exact idx_zip2e hd0 | with_reducible exact idx_drop_e hd0 | fail))
    | ((with_reducible refine len_step ?_ ?_); exact rfl)
    | ((with_reducible refine app_step' ?_ ?_ ?_ ?_ ?_ ?_ ?_); exact rfl; exact rfl; exact rfl; exact rfl)
    | ((with_reducible refine nil_step' ?_ ?_ ?_ ?_); exact rfl; exact rfl)
    | ((with_reducible refine guard_step ?_ ?_ (fun hg => ?_) ?_); exact rfl)
    | ((with_reducible refine val_step ?_ ?_); with_reducible exact rfl; with_reducible exact rfl)
    | ((with_reducible refine same_step ?_ ?_); with_reducible exact rfl)
    | ((with_reducible refine chk_step ?_ ?_); kernel_rfl)
    | ((with_reducible refine ret_step ?_); refine ⟨[], rfl, ?_, trivial⟩; conv => whnf)
    | ((with_reducible refine ret_need ?_ ?_); rotate_left; refine ⟨[], rfl, ?_, trivial⟩; conv => whnf)
    | ((with_reducible refine pan_need ?_ ?_); rotate_left; refine ⟨[], rfl, ?_, trivial⟩; conv => whnf)
    | ((with_reducible refine pan_step ?_); refine ⟨[], rfl, ?_, trivial⟩; conv => whnf)
    | (with_reducible refine And.intro ?_ ?_)
    | ((with_reducible refine gs_eq ?_ ?_ ?_); exact rfl; exact rfl; (first | with_reducible exact map_app | with_reducible exact map_app3 | with_reducible exact map_app4 | exact map_snoc | exact rfl | skip))
    | ((with_reducible refine tok_eq ?_ ?_); exact rfl; (first | with_reducible exact map_app | with_reducible exact map_app3 | with_reducible exact map_app4 | exact map_snoc | exact rfl | skip))
    | ((with_reducible refine ren_guard ?_); refine gs_ren ?_ ?_ ?_; exact rfl; exact rfl; (first | exact rfl | skip))
    | exact @rfl AV _
    | exact @rfl Block _
    | exact @rfl (List AV) _
    | exact ble_le rfl
    | fail)
  all_goals (try simp only [Bool.cond_true_left, Bool.cond_false_right, Bool.cond_false_left, Bool.cond_true_right, Bool.not_eq_true', Bool.not_eq_false', bne, Ex.css_len, List.length_map, Int.toNat_zero] at *)
  all_goals first
    | (rw [hI4]; (try simp only [lnSame, tbSame, Bool.not_true, Bool.not_false, Bool.and_true, Bool.true_and, Bool.and_false, Bool.false_and, Bool.or_true, Bool.true_or, Bool.or_false, Bool.false_or, if_true, if_false, reduceIte, Bool.false_eq_true, Bool.not_not, Bool.not_eq_true', beq_self_eq_true, List.all_cons, List.all_nil, List.any_cons, List.any_nil, List.length_map, bne, eq_self, Int.toNat_zero, *]); first | done | rfl)
    | (rw [hI2]; (try simp only [lnSame, tbSame, Bool.not_true, Bool.not_false, Bool.and_true, Bool.true_and, Bool.and_false, Bool.false_and, Bool.or_true, Bool.true_or, Bool.or_false, Bool.false_or, if_true, if_false, reduceIte, Bool.false_eq_true, Bool.not_not, Bool.not_eq_true', beq_self_eq_true, List.all_cons, List.all_nil, List.any_cons, List.any_nil, List.length_map, bne, eq_self, Int.toNat_zero, *]); first | done | rfl)
    | (rw [hI0]; (try simp only [lnSame, tbSame, Bool.not_true, Bool.not_false, Bool.and_true, Bool.true_and, Bool.and_false, Bool.false_and, Bool.or_true, Bool.true_or, Bool.or_false, Bool.false_or, if_true, if_false, reduceIte, Bool.false_eq_true, Bool.not_not, Bool.not_eq_true', beq_self_eq_true, List.all_cons, List.all_nil, List.any_cons, List.any_nil, List.length_map, bne, eq_self, Int.toNat_zero, *]); first | done | rfl)
    | (rw [hI4.1]; (try simp only [lnSame, tbSame, Bool.not_true, Bool.not_false, Bool.and_true, Bool.true_and, Bool.and_false, Bool.false_and, Bool.or_true, Bool.true_or, Bool.or_false, Bool.false_or, if_true, if_false, reduceIte, Bool.false_eq_true, Bool.not_not, Bool.not_eq_true', beq_self_eq_true, List.all_cons, List.all_nil, List.any_cons, List.any_nil, List.length_map, bne, eq_self, Int.toNat_zero, *]); first | done | rfl)
    | (rw [hI2.1]; (try simp only [lnSame, tbSame, Bool.not_true, Bool.not_false, Bool.and_true, Bool.true_and, Bool.and_false, Bool.false_and, Bool.or_true, Bool.true_or, Bool.or_false, Bool.false_or, if_true, if_false, reduceIte, Bool.false_eq_true, Bool.not_not, Bool.not_eq_true', beq_self_eq_true, List.all_cons, List.all_nil, List.any_cons, List.any_nil, List.length_map, bne, eq_self, Int.toNat_zero, *]); first | done | rfl)
    | (rw [hI0.1]; (try simp only [lnSame, tbSame, Bool.not_true, Bool.not_false, Bool.and_true, Bool.true_and, Bool.and_false, Bool.false_and, Bool.or_true, Bool.true_or, Bool.or_false, Bool.false_or, if_true, if_false, reduceIte, Bool.false_eq_true, Bool.not_not, Bool.not_eq_true', beq_self_eq_true, List.all_cons, List.all_nil, List.any_cons, List.any_nil, List.length_map, bne, eq_self, Int.toNat_zero, *]); first | done | rfl)
    | (simp only [lnSame, tbSame, Bool.not_true, Bool.not_false, Bool.and_true, Bool.true_and, Bool.and_false, Bool.false_and, Bool.or_true, Bool.true_or, Bool.or_false, Bool.false_or, if_true, if_false, reduceIte, Bool.false_eq_true, Bool.not_not, Bool.not_eq_true', beq_self_eq_true, List.all_cons, List.all_nil, List.any_cons, List.any_nil, List.length_map, bne, eq_self, Int.toNat_zero, *]; done)
    | (simp only [SameDecls, Bool.not_true, Bool.not_false, Bool.and_true, Bool.true_and, Bool.and_false, Bool.false_and, Bool.or_true, Bool.true_or, Bool.or_false, Bool.false_or, if_true, if_false, reduceIte, Bool.false_eq_true, Bool.not_not, Bool.not_eq_true', beq_self_eq_true, List.all_cons, List.all_nil, List.any_cons, List.any_nil, List.length_map, bne, eq_self, Int.toNat_zero, *]; done)
    | (simp only [heads, SameDecls, Bool.not_true, Bool.not_false, Bool.and_true, Bool.true_and, Bool.and_false, Bool.false_and, Bool.or_true, Bool.true_or, Bool.or_false, Bool.false_or, if_true, if_false, reduceIte, Bool.false_eq_true, Bool.not_not, Bool.not_eq_true', beq_self_eq_true, List.all_cons, List.all_nil, List.any_cons, List.any_nil, List.length_map, bne, eq_self, Int.toNat_zero, *]; done)
    | omega
    | ((rw [hI2]; simp only [List.all_cons, tbSame, bne, Bool.not_not, h, Bool.not_false, Bool.true_and]; done))
    | (exfalso; simp_all; done)
    | skip
set_option maxHeartbeats 400000 in
theorem same_call (a b : Pr)  : PCall Try.prog 13 [a.d, b.d] (.ret (.b (Same a b))) := by
  refine pcall_of_wc tok hmix ⟨[], []⟩ Try.func13 rfl (by kernel_rfl) (by kernel_rfl) (by kernel_rfl) fun hf => ?_
  have hlen := (Pr.fits (hf a.d (by simp))).stmts
  clear hf
  repeat' ((try (conv => whnf)) <;> first
    | with_reducible exact trivial
    | with_reducible exact rfl
    | with_reducible exact idx_next hd0 ‹_›
    | with_reducible refine BrI.tt ?_
    | with_reducible refine BrI.ff ?_
    | with_reducible refine br_nil hd0 ?_
    | with_reducible refine br_cons hd0 ?_
    | ((with_reducible refine br_nil_k hd0 ?_ ?_); (first | exact rfl | assumption | fail))
    | ((with_reducible refine br_cons_k hd0 ?_ ?_); (first | exact rfl | assumption | fail))
    | with_reducible refine br_nil_and hd0 ?_
    | with_reducible refine br_cons_and hd0 ?_
    | with_reducible refine br_nil_e hd0 ?_
    | with_reducible refine br_cons_e hd0 ?_
    | with_reducible refine BrI.intro (fun h => ?_) (fun h => ?_)
    | ((with_reducible refine LoopAt.mk 0 ?_); have hz : a.stmts.length = b.stmts.length := (by simp at h; omega); have hk0 : (a.stmts.zip b.stmts).length = (a.stmts.map Sm.cs).length := (by rw [zip_len hz, List.length_map]); have hlz : (a.stmts.zip b.stmts).length ≤ 9223372036854775807 := (by rw [zip_len hz]; exact hlen); refine ⟨rangeL (a.stmts.zip b.stmts) 5 (fun (_ : Unit) => []) (fun (_ : Unit) => []) [2, 3] (fun i0 r0 _ => Same a b = r0.all smSame), ?_⟩; with_reducible refine rangeL_rule () ?_ ?_ (fun i0 (_ : Unit) hd0 hI0 => ?_) (fun i0 x0 r0 (_ : Unit) hd0 hl0 hI0 => ?_))
    | (with_reducible refine rangeL_next hd0 () ?_ ?_)
    | ((with_reducible refine call_step ?_ ?_ ?_); rotate_left; (first | exact sameDecls_call _ _ | exact sameExpr_call _ _ | fail))
    | with_reducible refine str_idx hd0 ?_
    | (with_reducible refine ChooseI.l _ ?_)
    | ((with_reducible refine nilgs_step ?_ ?_ ?_ ?_ ?_ ?_) <;> exact rfl)
    | ((with_reducible refine tok0_step ?_ ?_ ?_ ?_) <;> exact rfl)
    | ((with_reducible refine kok_step ?_ ?_ ?_); exact rfl; exact rfl)
    | ((with_reducible refine idx_step ?_ ?_ ?_ ?_ ?_); exact rfl; exact rfl; rotate_left; (first | with_reducible exact idx_get ‹_› | with_reducible exact idx_drop hd0 | with_reducible exact idx_take hd0 | with_reducible exact idx_zip1 hd0 | with_reducible exact idx_zip2 hd0 | with_reducible exact idx_zip1e hd0 | with_reducible exact idx_zip2e hd0 | with_reducible exact idx_drop_e hd0 | fail))
    | ((with_reducible refine len_step ?_ ?_); exact rfl)
    | ((with_reducible refine app_step' ?_ ?_ ?_ ?_ ?_ ?_ ?_); exact rfl; exact rfl; exact rfl; exact rfl)
    | ((with_reducible refine nil_step' ?_ ?_ ?_ ?_); exact rfl; exact rfl)
    | ((with_reducible refine guard_step ?_ ?_ (fun hg => ?_) ?_); exact rfl)
    | ((with_reducible refine val_step ?_ ?_); with_reducible exact rfl; with_reducible exact rfl)
    | ((with_reducible refine same_step ?_ ?_); with_reducible exact rfl)
    | ((with_reducible refine chk_step ?_ ?_); kernel_rfl)
    | ((with_reducible refine ret_step ?_); refine ⟨[], rfl, ?_, trivial⟩; conv => whnf)
    | ((with_reducible refine ret_need ?_ ?_); rotate_left; refine ⟨[], rfl, ?_, trivial⟩; conv => whnf)
    | ((with_reducible refine pan_need ?_ ?_); rotate_left; refine ⟨[], rfl, ?_, trivial⟩; conv => whnf)
    | ((with_reducible refine pan_step ?_); refine ⟨[], rfl, ?_, trivial⟩; conv => whnf)
    | (with_reducible refine And.intro ?_ ?_)
    | ((with_reducible refine gs_eq ?_ ?_ ?_); exact rfl; exact rfl; (first | with_reducible exact map_app | with_reducible exact map_app3 | with_reducible exact map_app4 | exact map_snoc | exact rfl | skip))
    | ((with_reducible refine tok_eq ?_ ?_); exact rfl; (first | with_reducible exact map_app | with_reducible exact map_app3 | with_reducible exact map_app4 | exact map_snoc | exact rfl | skip))
    | ((with_reducible refine ren_guard ?_); refine gs_ren ?_ ?_ ?_; exact rfl; exact rfl; (first | exact rfl | skip))
    | exact @rfl AV _
    | exact @rfl Block _
    | exact @rfl (List AV) _
    | exact ble_le rfl
    | fail)
  all_goals (try simp only [Bool.cond_true_left, Bool.cond_false_right, Bool.cond_false_left, Bool.cond_true_right, Bool.not_eq_true', Bool.not_eq_false', bne, Ex.css_len, List.length_map, Int.toNat_zero] at *)
  all_goals first
    | (rw [hI0]; (try simp only [smSame, Bool.not_true, Bool.not_false, Bool.and_true, Bool.true_and, Bool.and_false, Bool.false_and, Bool.or_true, Bool.true_or, Bool.or_false, Bool.false_or, if_true, if_false, reduceIte, Bool.false_eq_true, Bool.not_not, Bool.not_eq_true', beq_self_eq_true, List.all_cons, List.all_nil, List.any_cons, List.any_nil, List.length_map, bne, eq_self, Int.toNat_zero, *]); first | done | rfl)
    | (rw [hI0.1]; (try simp only [smSame, Bool.not_true, Bool.not_false, Bool.and_true, Bool.true_and, Bool.and_false, Bool.false_and, Bool.or_true, Bool.true_or, Bool.or_false, Bool.false_or, if_true, if_false, reduceIte, Bool.false_eq_true, Bool.not_not, Bool.not_eq_true', beq_self_eq_true, List.all_cons, List.all_nil, List.any_cons, List.any_nil, List.length_map, bne, eq_self, Int.toNat_zero, *]); first | done | rfl)
    | (simp only [smSame, Bool.not_true, Bool.not_false, Bool.and_true, Bool.true_and, Bool.and_false, Bool.false_and, Bool.or_true, Bool.true_or, Bool.or_false, Bool.false_or, if_true, if_false, reduceIte, Bool.false_eq_true, Bool.not_not, Bool.not_eq_true', beq_self_eq_true, List.all_cons, List.all_nil, List.any_cons, List.any_nil, List.length_map, bne, eq_self, Int.toNat_zero, *]; done)
    | (simp only [Same, Bool.not_true, Bool.not_false, Bool.and_true, Bool.true_and, Bool.and_false, Bool.false_and, Bool.or_true, Bool.true_or, Bool.or_false, Bool.false_or, if_true, if_false, reduceIte, Bool.false_eq_true, Bool.not_not, Bool.not_eq_true', beq_self_eq_true, List.all_cons, List.all_nil, List.any_cons, List.any_nil, List.length_map, bne, eq_self, Int.toNat_zero, *]; done)
    | omega
    | ((rw [Same]; simp_all; done))
    | (exfalso; simp_all; done)
    | skip
set_option maxHeartbeats 400000 in
theorem few_call (p : Pr) (hp : p.Small) (hn : ∀ s ∈ p.stmts, nodes s.x ≤ 1073741824) (hv : ∀ t ∈ p.tables, t.values.length ≤ 1073741824) : PCall Try.prog 10 [p.d] (.ret (.b (Few p))) := by
  refine pcall_of_wc tok hmix ⟨[], []⟩ Try.func10 rfl (by kernel_rfl) (by kernel_rfl) (by kernel_rfl) fun hf => ?_
  have hq := Pr.fits (hf p.d (by simp))
  have hlen1 := hq.stmts; have hlen2 := hq.tables
  have hs1 := hp.params; have hs2 := hp.states; have hs3 := hp.lines; have hs4 := hp.tables; have hs5 := hp.stmts
  clear hf
  repeat' ((try (conv => whnf)) <;> first
    | with_reducible exact trivial
    | with_reducible exact rfl
    | with_reducible exact idx_next hd2 ‹_›
    | with_reducible exact idx_next hd0 ‹_›
    | with_reducible refine BrI.tt ?_
    | with_reducible refine BrI.ff ?_
    | with_reducible refine br_nil hd2 ?_
    | with_reducible refine br_nil hd0 ?_
    | with_reducible refine br_cons hd2 ?_
    | with_reducible refine br_cons hd0 ?_
    | ((with_reducible refine br_nil_k hd2 ?_ ?_); (first | exact rfl | assumption | fail))
    | ((with_reducible refine br_nil_k hd0 ?_ ?_); (first | exact rfl | assumption | fail))
    | ((with_reducible refine br_cons_k hd2 ?_ ?_); (first | exact rfl | assumption | fail))
    | ((with_reducible refine br_cons_k hd0 ?_ ?_); (first | exact rfl | assumption | fail))
    | with_reducible refine br_nil_and hd2 ?_
    | with_reducible refine br_nil_and hd0 ?_
    | with_reducible refine br_cons_and hd2 ?_
    | with_reducible refine br_cons_and hd0 ?_
    | with_reducible refine br_nil_e hd2 ?_
    | with_reducible refine br_nil_e hd0 ?_
    | with_reducible refine br_cons_e hd2 ?_
    | with_reducible refine br_cons_e hd0 ?_
    | with_reducible refine BrI.intro (fun h => ?_) (fun h => ?_)
    | ((with_reducible refine LoopAt.mk 0 ?_); refine ⟨rangeL (p.stmts) 4 (fun (n : (Int)) => [(3, .data (.val (.int .i64 n)))]) (fun (n : (Int)) => []) [1] (fun i0 r0 n => Few p = fewEnd p (few2 p.tables (few1 r0 n)) ∧ 0 ≤ n ∧ n ≤ 1099511627776), ?_⟩; with_reducible refine rangeL_rule ?_ ?_ ?_ (fun i0 (n : (Int)) hd0 hI0 => ?_) (fun i0 x0 r0 (n : (Int)) hd0 hl0 hI0 => ?_))
    | (with_reducible refine rangeL_next hd0 ?_ ?_ ?_)
    | ((with_reducible refine LoopAt.mk 2 ?_); refine ⟨rangeL (p.tables) 5 (fun (n : (Int)) => [(3, .data (.val (.int .i64 n)))]) (fun (n : (Int)) => []) [1] (fun i2 r2 n => Few p = fewEnd p (few2 r2 n) ∧ 0 ≤ n ∧ n ≤ 1099511627776), ?_⟩; with_reducible refine rangeL_rule ?_ ?_ ?_ (fun i2 (n : (Int)) hd2 hI2 => ?_) (fun i2 x2 r2 (n : (Int)) hd2 hl2 hI2 => ?_))
    | (with_reducible refine rangeL_next hd2 ?_ ?_ ?_)
    | ((with_reducible refine call_step ?_ ?_ ?_); rotate_left; (first | exact nodes_call _ (by assumption) | exact nodes_call _ (hn _ (drop_mem hd0)) | fail))
    | with_reducible refine str_idx hd2 ?_
    | with_reducible refine str_idx hd0 ?_
    | (with_reducible refine ChooseI.l _ ?_)
    | ((with_reducible refine nilgs_step ?_ ?_ ?_ ?_ ?_ ?_) <;> exact rfl)
    | ((with_reducible refine tok0_step ?_ ?_ ?_ ?_) <;> exact rfl)
    | ((with_reducible refine kok_step ?_ ?_ ?_); exact rfl; exact rfl)
    | ((with_reducible refine idx_step ?_ ?_ ?_ ?_ ?_); exact rfl; exact rfl; rotate_left; (first | with_reducible exact idx_get ‹_› | with_reducible exact idx_drop hd2 | with_reducible exact idx_take hd2 | with_reducible exact idx_zip1 hd2 | with_reducible exact idx_zip2 hd2 | with_reducible exact idx_zip1e hd2 | with_reducible exact idx_zip2e hd2 | with_reducible exact idx_drop_e hd2 | with_reducible exact idx_drop hd0 | with_reducible exact idx_take hd0 | with_reducible exact idx_zip1 hd0 | with_reducible exact idx_zip2 hd0 | with_reducible exact idx_zip1e hd0 | with_reducible exact idx_zip2e hd0 | with_reducible exact idx_drop_e hd0 | fail))
    | ((with_reducible refine len_step ?_ ?_); exact rfl)
    | ((with_reducible refine app_step' ?_ ?_ ?_ ?_ ?_ ?_ ?_); exact rfl; exact rfl; exact rfl; exact rfl)
    | ((with_reducible refine nil_step' ?_ ?_ ?_ ?_); exact rfl; exact rfl)
    | ((with_reducible refine guard_step ?_ ?_ (fun hg => ?_) ?_); exact rfl)
    | ((with_reducible refine val_step ?_ ?_); with_reducible exact rfl; with_reducible exact rfl)
    | ((with_reducible refine same_step ?_ ?_); with_reducible exact rfl)
    | ((with_reducible refine chk_step ?_ ?_); kernel_rfl)
    | ((with_reducible refine ret_step ?_); refine ⟨[], rfl, ?_, trivial⟩; conv => whnf)
    | ((with_reducible refine ret_need ?_ ?_); rotate_left; refine ⟨[], rfl, ?_, trivial⟩; conv => whnf)
    | ((with_reducible refine pan_need ?_ ?_); rotate_left; refine ⟨[], rfl, ?_, trivial⟩; conv => whnf)
    | ((with_reducible refine pan_step ?_); refine ⟨[], rfl, ?_, trivial⟩; conv => whnf)
    | (with_reducible refine And.intro ?_ ?_)
    | ((with_reducible refine gs_eq ?_ ?_ ?_); exact rfl; exact rfl; (first | with_reducible exact map_app | with_reducible exact map_app3 | with_reducible exact map_app4 | exact map_snoc | exact rfl | skip))
    | ((with_reducible refine tok_eq ?_ ?_); exact rfl; (first | with_reducible exact map_app | with_reducible exact map_app3 | with_reducible exact map_app4 | exact map_snoc | exact rfl | skip))
    | ((with_reducible refine ren_guard ?_); refine gs_ren ?_ ?_ ?_; exact rfl; exact rfl; (first | exact rfl | skip))
    | exact @rfl AV _
    | exact @rfl Block _
    | exact @rfl (List AV) _
    | exact ble_le rfl
    | fail)
  all_goals (try simp only [Bool.cond_true_left, Bool.cond_false_right, Bool.cond_false_left, Bool.cond_true_right, Bool.not_eq_true', Bool.not_eq_false', bne, Ex.css_len, List.length_map, Int.toNat_zero] at *)
  all_goals first
    | (rw [hI2]; (try simp only [few1, few2, fewEnd, Bool.not_true, Bool.not_false, Bool.and_true, Bool.true_and, Bool.and_false, Bool.false_and, Bool.or_true, Bool.true_or, Bool.or_false, Bool.false_or, if_true, if_false, reduceIte, Bool.false_eq_true, Bool.not_not, Bool.not_eq_true', beq_self_eq_true, List.all_cons, List.all_nil, List.any_cons, List.any_nil, List.length_map, bne, eq_self, Int.toNat_zero, *]); first | done | rfl)
    | (rw [hI0]; (try simp only [few1, few2, fewEnd, Bool.not_true, Bool.not_false, Bool.and_true, Bool.true_and, Bool.and_false, Bool.false_and, Bool.or_true, Bool.true_or, Bool.or_false, Bool.false_or, if_true, if_false, reduceIte, Bool.false_eq_true, Bool.not_not, Bool.not_eq_true', beq_self_eq_true, List.all_cons, List.all_nil, List.any_cons, List.any_nil, List.length_map, bne, eq_self, Int.toNat_zero, *]); first | done | rfl)
    | (rw [hI2.1]; (try simp only [few1, few2, fewEnd, Bool.not_true, Bool.not_false, Bool.and_true, Bool.true_and, Bool.and_false, Bool.false_and, Bool.or_true, Bool.true_or, Bool.or_false, Bool.false_or, if_true, if_false, reduceIte, Bool.false_eq_true, Bool.not_not, Bool.not_eq_true', beq_self_eq_true, List.all_cons, List.all_nil, List.any_cons, List.any_nil, List.length_map, bne, eq_self, Int.toNat_zero, *]); first | done | rfl)
    | (rw [hI0.1]; (try simp only [few1, few2, fewEnd, Bool.not_true, Bool.not_false, Bool.and_true, Bool.true_and, Bool.and_false, Bool.false_and, Bool.or_true, Bool.true_or, Bool.or_false, Bool.false_or, if_true, if_false, reduceIte, Bool.false_eq_true, Bool.not_not, Bool.not_eq_true', beq_self_eq_true, List.all_cons, List.all_nil, List.any_cons, List.any_nil, List.length_map, bne, eq_self, Int.toNat_zero, *]); first | done | rfl)
    | (simp only [few1, few2, fewEnd, Bool.not_true, Bool.not_false, Bool.and_true, Bool.true_and, Bool.and_false, Bool.false_and, Bool.or_true, Bool.true_or, Bool.or_false, Bool.false_or, if_true, if_false, reduceIte, Bool.false_eq_true, Bool.not_not, Bool.not_eq_true', beq_self_eq_true, List.all_cons, List.all_nil, List.any_cons, List.any_nil, List.length_map, bne, eq_self, Int.toNat_zero, *]; done)
    | omega
    | ((rw [show IntKind.i64.wrap ((p.params.length : Int) + p.states.length) = _ from wrap_ok (by omega) (by omega), show IntKind.i64.wrap ((p.params.length : Int) + p.states.length + p.lines.length) = _ from wrap_ok (by omega) (by omega), show IntKind.i64.wrap ((p.params.length : Int) + p.states.length + p.lines.length + p.tables.length) = _ from wrap_ok (by omega) (by omega), show IntKind.i64.wrap ((p.params.length : Int) + p.states.length + p.lines.length + p.tables.length + p.stmts.length) = _ from wrap_ok (by omega) (by omega)]; first | rfl | omega))
    | ((have h' := h; simp only [decide_eq_true_eq] at h'; have := hn _ (drop_mem hd0); rw [wrap_ok (by omega) (by omega)]; first | omega | (rw [hI0.1]; simp only [few1, Bool.not_true, Bool.not_false, Bool.and_true, Bool.true_and, Bool.and_false, Bool.false_and, Bool.or_true, Bool.true_or, Bool.or_false, Bool.false_or, if_true, if_false, reduceIte, Bool.false_eq_true, Bool.not_not, Bool.not_eq_true', beq_self_eq_true, List.all_cons, List.all_nil, List.any_cons, List.any_nil, List.length_map, bne, eq_self, Int.toNat_zero, h]; done)))
    | ((have h' := h; simp only [decide_eq_true_eq] at h'; have := hv _ (drop_mem hd2); rw [wrap_ok (by omega) (by omega)]; first | omega | (rw [hI2.1]; simp only [few2, Bool.not_true, Bool.not_false, Bool.and_true, Bool.true_and, Bool.and_false, Bool.false_and, Bool.or_true, Bool.true_or, Bool.or_false, Bool.false_or, if_true, if_false, reduceIte, Bool.false_eq_true, Bool.not_not, Bool.not_eq_true', beq_self_eq_true, List.all_cons, List.all_nil, List.any_cons, List.any_nil, List.length_map, bne, eq_self, Int.toNat_zero, h]; done)))
    | (exfalso; simp_all; done)
    | skip
end Go.Proofs.Ytgilgdfmohmbdaa

