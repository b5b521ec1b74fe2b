/- Contracts: the laws of names: other names. -/
import Derived.Test.YtgilgdfmohmbdaaZS9
import Derived.Test.YtgilgdfmohmbdaaZD11
set_option linter.unusedSimpArgs false
set_option linter.unusedVariables false
namespace Go.Proofs.Ytgilgdfmohmbdaa
open Go.Fw Go.Fw.Nam Go.Fw.Ref15
set_option maxRecDepth 10000
set_option linter.unusedSectionVars false
variable [GlobInt]
set_option maxHeartbeats 400000 in
theorem renamed_call (x : Ex) (hx : nodes x ≤ 1073741824) (hs : every short x = true) : PCall Try.prog 49 [x.d] (.ret (renamed x).d) := by
  revert x; refine Ex.ind fun x ih hx hs => ?_
  refine pcall_of_wc tok hmix ⟨[], []⟩ Try.func49 rfl (by kernel_rfl) (by kernel_rfl) (by kernel_rfl) fun hf => ?_
  have hlen := Ex.fits (hf x.d (by simp))
  have hN := nodes_eq x
  have hL := len_nodes x.l
  have hS : x.name.length ≤ 1048576 ∧ everyL short x.l = true := by rw [every_eq, Bool.and_eq_true] at hs; exact ⟨by simpa [short] using hs.1, hs.2⟩
  have hA := add_ok hS.1
  clear hf
  repeat' ((try (conv => whnf)) <;> first
    | with_reducible exact trivial
    | with_reducible exact rfl
    | with_reducible exact idx_next hd0 ‹_›
    | with_reducible refine BrI.tt ?_
    | with_reducible refine BrI.ff ?_
    | with_reducible refine br_nil hd0 ?_
    | with_reducible refine br_cons hd0 ?_
    | ((with_reducible refine br_nil_k hd0 ?_ ?_); (first | exact rfl | assumption | fail))
    | ((with_reducible refine br_cons_k hd0 ?_ ?_); (first | exact rfl | assumption | fail))
    | with_reducible refine br_nil_and hd0 ?_
    | with_reducible refine br_cons_and hd0 ?_
    | with_reducible refine br_nil_e hd0 ?_
    | with_reducible refine br_cons_e hd0 ?_
    | with_reducible refine BrI.intro (fun h => ?_) (fun h => ?_)
    | (refine And.intro hA ?_)
    | ((with_reducible refine LoopAt.mk 0 ?_); refine ⟨rangeL (x.l) 18 (fun (q : (List UInt8) × (List Ex)) => match q with | (nm, out) => []) (fun (q : (List UInt8) × (List Ex)) => match q with | (nm, out) => [(1, .cells [.data (.i x.kind), .data (.str nm), .data (.i x.index), .data (.i x.n), .gs 900001 5 (out.map Ex.cs)]), (900001, .tok 5 (out.map Ex.cs).length)]) [1, 2, 16, 17] (fun i0 r0 q => match q with | (nm, out) => renamedL x.l = out ++ renamedL r0 ∧ out.length = i0 ∧ nodesL r0 ≤ 1073741824 ∧ everyL short r0 = true ∧ nm = (if named x.kind then qS x.name else x.name)), ?_⟩; with_reducible refine rangeL_rule (?_, ([])) ?_ ?_ (fun i0 ⟨nm, out⟩ hd0 hI0 => ?_) (fun i0 x0 r0 ⟨nm, out⟩ hd0 hl0 hI0 => ?_))
    | (with_reducible refine rangeL_next hd0 (?_, (out ++ [renamed x0])) ?_ ?_)
    | ((with_reducible refine call_step ?_ ?_ ?_); rotate_left; (first | exact named_call _ | exact ih _ (drop_mem hd0) (by have := hI0.2.2.1; simp only [nodesL] at this; omega) (by have := hI0.2.2.2; simp only [everyL, Bool.and_eq_true] at this; exact this.1.1) | fail))
    | with_reducible refine str_idx hd0 ?_
    | ((with_reducible refine nilgs_step ?_ ?_ ?_ ?_ ?_ ?_) <;> exact rfl)
    | ((with_reducible refine tok0_step ?_ ?_ ?_ ?_) <;> exact rfl)
    | ((with_reducible refine kok_step ?_ ?_ ?_); exact rfl; exact rfl)
    | ((with_reducible refine idx_step ?_ ?_ ?_ ?_ ?_); exact rfl; exact rfl; rotate_left; (first | with_reducible exact idx_get ‹_› | with_reducible exact idx_drop hd0 | with_reducible exact idx_take hd0 | with_reducible exact idx_zip1 hd0 | with_reducible exact idx_zip2 hd0 | with_reducible exact idx_zip1e hd0 | with_reducible exact idx_zip2e hd0 | with_reducible exact idx_drop_e hd0 | fail))
    | ((with_reducible refine len_step ?_ ?_); exact rfl)
    | ((with_reducible refine app_step' ?_ ?_ ?_ ?_ ?_ ?_ ?_); exact rfl; exact rfl; exact rfl; exact rfl)
    | ((with_reducible refine nil_step' ?_ ?_ ?_ ?_); exact rfl; exact rfl)
    | ((with_reducible refine guard_step ?_ ?_ (fun hg => ?_) ?_); exact rfl)
    | ((with_reducible refine val_step ?_ ?_); with_reducible exact rfl; with_reducible exact rfl)
    | ((with_reducible refine same_step ?_ ?_); with_reducible exact rfl)
    | ((with_reducible refine chk_step ?_ ?_); kernel_rfl)
    | ((with_reducible refine ret_step ?_); refine ⟨[], rfl, ?_, trivial⟩; conv => whnf)
    | ((with_reducible refine ret_need ?_ ?_); rotate_left; refine ⟨[], rfl, ?_, trivial⟩; conv => whnf)
    | ((with_reducible refine pan_need ?_ ?_); rotate_left; refine ⟨[], rfl, ?_, trivial⟩; conv => whnf)
    | ((with_reducible refine pan_step ?_); refine ⟨[], rfl, ?_, trivial⟩; conv => whnf)
    | (with_reducible refine And.intro ?_ ?_)
    | ((with_reducible refine gs_eq ?_ ?_ ?_); exact rfl; exact rfl; (first | with_reducible exact map_app | with_reducible exact map_app3 | with_reducible exact map_app4 | exact map_snoc | exact rfl | skip))
    | ((with_reducible refine tok_eq ?_ ?_); exact rfl; (first | with_reducible exact map_app | with_reducible exact map_app3 | with_reducible exact map_app4 | exact map_snoc | exact rfl | skip))
    | ((with_reducible refine ren_guard ?_); refine gs_ren ?_ ?_ ?_; exact rfl; exact rfl; (first | exact rfl | skip))
    | exact @rfl AV _
    | exact @rfl Block _
    | exact @rfl (List AV) _
    | exact ble_le rfl
    | fail)
  all_goals first
    | (rfl)
    | ((exact hS.2))
    | ((rw [hN] at hx; omega))
    | ((simp only [h, if_true, reduceIte]; rfl))
    | ((simp only [h, Bool.false_eq_true, if_false, reduceIte]; done))
    | ((rw [renamed_eq, hI0.1, hI0.2.2.2.2]; simp only [renamedL, List.append_nil, Ex.css_map]; rfl))
    | ((have := hI0.2.2.1; simp only [nodesL] at this; omega))
    | ((have := hI0.2.2.2.1; simp only [everyL, Bool.and_eq_true] at this; exact this.2))
    | ((exact hI0.2.2.2.2))
    | ((rw [hI0.1]; simp only [renamedL, List.append_assoc, List.cons_append, List.nil_append]; done))
    | ((simp only [List.length_append, List.length_cons, List.length_nil]; omega))
    | ((have := hI0.2.1; simp only [List.length_map]; omega))
    | ((refine Eq.trans ?_ map_snoc; rfl))
    | skip
set_option maxHeartbeats 4000000 in
theorem prefixed_call (p : Pr) (hp : p.Small) (hn : ∀ s ∈ p.stmts, Ref15.nodes s.x ≤ 1073741824) (hs : Shorts p) : PCall Try.prog 19 [p.d] (.ret (prefixed p).d) := by
  refine pcall_of_wc tok hmix ⟨[], []⟩ Try.func19 rfl (by kernel_rfl) (by kernel_rfl) (by kernel_rfl) fun hf => ?_
  have hq := Pr.fits (hf p.d (by simp))
  have hq1 := hq.params; have hq2 := hq.states; have hq3 := hq.lines; have hq4 := hq.tables; have hq5 := hq.stmts
  have hs1 := hp.params; have hs2 := hp.states; have hs3 := hp.lines; have hs4 := hp.tables; have hs5 := hp.stmts
  clear hf
  repeat' ((try (conv => whnf)) <;> first
    | with_reducible exact trivial
    | with_reducible exact rfl
    | with_reducible exact idx_next hd8 ‹_›
    | with_reducible exact idx_next hd6 ‹_›
    | with_reducible exact idx_next hd4 ‹_›
    | with_reducible exact idx_next hd2 ‹_›
    | with_reducible exact idx_next hd0 ‹_›
    | with_reducible refine BrI.tt ?_
    | with_reducible refine BrI.ff ?_
    | with_reducible refine br_nil hd8 ?_
    | with_reducible refine br_nil hd6 ?_
    | with_reducible refine br_nil hd4 ?_
    | with_reducible refine br_nil hd2 ?_
    | with_reducible refine br_nil hd0 ?_
    | with_reducible refine br_cons hd8 ?_
    | with_reducible refine br_cons hd6 ?_
    | with_reducible refine br_cons hd4 ?_
    | with_reducible refine br_cons hd2 ?_
    | with_reducible refine br_cons hd0 ?_
    | ((with_reducible refine br_nil_k hd8 ?_ ?_); (first | exact rfl | assumption | fail))
    | ((with_reducible refine br_nil_k hd6 ?_ ?_); (first | exact rfl | assumption | fail))
    | ((with_reducible refine br_nil_k hd4 ?_ ?_); (first | exact rfl | assumption | fail))
    | ((with_reducible refine br_nil_k hd2 ?_ ?_); (first | exact rfl | assumption | fail))
    | ((with_reducible refine br_nil_k hd0 ?_ ?_); (first | exact rfl | assumption | fail))
    | ((with_reducible refine br_cons_k hd8 ?_ ?_); (first | exact rfl | assumption | fail))
    | ((with_reducible refine br_cons_k hd6 ?_ ?_); (first | exact rfl | assumption | fail))
    | ((with_reducible refine br_cons_k hd4 ?_ ?_); (first | exact rfl | assumption | fail))
    | ((with_reducible refine br_cons_k hd2 ?_ ?_); (first | exact rfl | assumption | fail))
    | ((with_reducible refine br_cons_k hd0 ?_ ?_); (first | exact rfl | assumption | fail))
    | with_reducible refine br_nil_and hd8 ?_
    | with_reducible refine br_nil_and hd6 ?_
    | with_reducible refine br_nil_and hd4 ?_
    | with_reducible refine br_nil_and hd2 ?_
    | with_reducible refine br_nil_and hd0 ?_
    | with_reducible refine br_cons_and hd8 ?_
    | with_reducible refine br_cons_and hd6 ?_
    | with_reducible refine br_cons_and hd4 ?_
    | with_reducible refine br_cons_and hd2 ?_
    | with_reducible refine br_cons_and hd0 ?_
    | with_reducible refine br_nil_e hd8 ?_
    | with_reducible refine br_nil_e hd6 ?_
    | with_reducible refine br_nil_e hd4 ?_
    | with_reducible refine br_nil_e hd2 ?_
    | with_reducible refine br_nil_e hd0 ?_
    | with_reducible refine br_cons_e hd8 ?_
    | with_reducible refine br_cons_e hd6 ?_
    | with_reducible refine br_cons_e hd4 ?_
    | with_reducible refine br_cons_e hd2 ?_
    | with_reducible refine br_cons_e hd0 ?_
    | with_reducible refine BrI.intro (fun h => ?_) (fun h => ?_)
    | (refine And.intro (add_ok (hs.params _ (drop_mem hd0))) ?_)
    | (refine And.intro (add_ok (hs.states _ (drop_mem hd2))) ?_)
    | (refine And.intro (add_ok (hs.lines _ (drop_mem hd4))) ?_)
    | (refine And.intro (add_ok (hs.tables _ (drop_mem hd6))) ?_)
    | (refine And.intro (add_ok (hs.stmts _ (drop_mem hd8)).1) ?_)
    | ((with_reducible refine LoopAt.mk 0 ?_); refine ⟨rangeL (p.params) 23 (fun (a : (List Bd)) => []) (fun (a : (List Bd)) => [(3, .cells [.data (.str p.name), .data (.i p.latency), .data (.i p.tail), .gs 900010 3 (a.map Bd.cs), .nilsl 3, .nilsl 4, .nilsl 2, .nilsl 8]), (900010, .tok 3 (a.map Bd.cs).length)]) [1, 2, 3, 21, 22] (fun i0 r0 a => p.params.map qBd = a ++ r0.map qBd ∧ a.length = i0), ?_⟩; with_reducible refine rangeL_rule ([]) ?_ ?_ (fun i0 (a : (List Bd)) hd0 hI0 => ?_) (fun i0 x0 r0 (a : (List Bd)) hd0 hl0 hI0 => ?_))
    | (with_reducible refine rangeL_next hd0 (a ++ [qBd x0]) ?_ ?_)
    | ((with_reducible refine LoopAt.mk 2 ?_); refine ⟨rangeL (p.states) 41 (fun (b : (List Bd)) => []) (fun (b : (List Bd)) => [(3, .cells [.data (.str p.name), .data (.i p.latency), .data (.i p.tail), .gs 900010 3 (a.map Bd.cs), .gs 900011 3 (b.map Bd.cs), .nilsl 4, .nilsl 2, .nilsl 8]), (900011, .tok 3 (b.map Bd.cs).length)]) [1, 2, 3, 39, 40] (fun i2 r2 b => p.states.map qBd = b ++ r2.map qBd ∧ b.length = i2), ?_⟩; with_reducible refine rangeL_rule ([]) ?_ ?_ (fun i2 (b : (List Bd)) hd2 hI2 => ?_) (fun i2 x2 r2 (b : (List Bd)) hd2 hl2 hI2 => ?_))
    | (with_reducible refine rangeL_next hd2 (b ++ [qBd x2]) ?_ ?_)
    | ((with_reducible refine LoopAt.mk 4 ?_); refine ⟨rangeL (p.lines) 59 (fun (c : (List Ln)) => []) (fun (c : (List Ln)) => [(3, .cells [.data (.str p.name), .data (.i p.latency), .data (.i p.tail), .gs 900010 3 (a.map Bd.cs), .gs 900011 3 (b.map Bd.cs), .gs 900012 4 (c.map Ln.cs), .nilsl 2, .nilsl 8]), (900012, .tok 4 (c.map Ln.cs).length)]) [1, 2, 3, 57, 58] (fun i4 r4 c => p.lines.map qLn = c ++ r4.map qLn ∧ c.length = i4), ?_⟩; with_reducible refine rangeL_rule ([]) ?_ ?_ (fun i4 (c : (List Ln)) hd4 hI4 => ?_) (fun i4 x4 r4 (c : (List Ln)) hd4 hl4 hI4 => ?_))
    | (with_reducible refine rangeL_next hd4 (c ++ [qLn x4]) ?_ ?_)
    | ((with_reducible refine LoopAt.mk 6 ?_); refine ⟨rangeL (p.tables) 77 (fun (d : (List Tb)) => []) (fun (d : (List Tb)) => [(3, .cells [.data (.str p.name), .data (.i p.latency), .data (.i p.tail), .gs 900010 3 (a.map Bd.cs), .gs 900011 3 (b.map Bd.cs), .gs 900012 4 (c.map Ln.cs), .gs 900013 2 (d.map Tb.cs), .nilsl 8]), (900013, .tok 2 (d.map Tb.cs).length)]) [1, 2, 3, 75, 76] (fun i6 r6 d => p.tables.map qTb = d ++ r6.map qTb ∧ d.length = i6), ?_⟩; with_reducible refine rangeL_rule ([]) ?_ ?_ (fun i6 (d : (List Tb)) hd6 hI6 => ?_) (fun i6 x6 r6 (d : (List Tb)) hd6 hl6 hI6 => ?_))
    | (with_reducible refine rangeL_next hd6 (d ++ [qTb x6]) ?_ ?_)
    | ((with_reducible refine LoopAt.mk 8 ?_); refine ⟨rangeL (p.stmts) 95 (fun (e : (List Sm)) => []) (fun (e : (List Sm)) => [(3, .cells [.data (.str p.name), .data (.i p.latency), .data (.i p.tail), .gs 900010 3 (a.map Bd.cs), .gs 900011 3 (b.map Bd.cs), .gs 900012 4 (c.map Ln.cs), .gs 900013 2 (d.map Tb.cs), .gs 900014 8 (e.map Sm.cs)]), (900014, .tok 8 (e.map Sm.cs).length)]) [2, 3, 93, 94] (fun i8 r8 e => p.stmts.map qSm = e ++ r8.map qSm ∧ e.length = i8), ?_⟩; with_reducible refine rangeL_rule ([]) ?_ ?_ (fun i8 (e : (List Sm)) hd8 hI8 => ?_) (fun i8 x8 r8 (e : (List Sm)) hd8 hl8 hI8 => ?_))
    | (with_reducible refine rangeL_next hd8 (e ++ [qSm x8]) ?_ ?_)
    | ((with_reducible refine call_step ?_ ?_ ?_); rotate_left; (first | exact renamed_call _ (by assumption) (by assumption) | exact renamed_call x8.x (hn _ (drop_mem hd8)) (hs.stmts _ (drop_mem hd8)).2 | fail))
    | with_reducible refine str_idx hd8 ?_
    | with_reducible refine str_idx hd6 ?_
    | with_reducible refine str_idx hd4 ?_
    | with_reducible refine str_idx hd2 ?_
    | with_reducible refine str_idx hd0 ?_
    | ((with_reducible refine nilgs_step ?_ ?_ ?_ ?_ ?_ ?_) <;> exact rfl)
    | ((with_reducible refine tok0_step ?_ ?_ ?_ ?_) <;> exact rfl)
    | ((with_reducible refine kok_step ?_ ?_ ?_); exact rfl; exact rfl)
    | ((with_reducible refine idx_step ?_ ?_ ?_ ?_ ?_); exact rfl; exact rfl; rotate_left; (first | with_reducible exact idx_get ‹_› | with_reducible exact idx_drop hd8 | with_reducible exact idx_take hd8 | with_reducible exact idx_zip1 hd8 | with_reducible exact idx_zip2 hd8 | with_reducible exact idx_zip1e hd8 | with_reducible exact idx_zip2e hd8 | with_reducible exact idx_drop_e hd8 | with_reducible exact idx_drop hd6 | with_reducible exact idx_take hd6 | with_reducible exact idx_zip1 hd6 | with_reducible exact idx_zip2 hd6 | with_reducible exact idx_zip1e hd6 | with_reducible exact idx_zip2e hd6 | with_reducible exact idx_drop_e hd6 | with_reducible exact idx_drop hd4 | with_reducible exact idx_take hd4 | with_reducible exact idx_zip1 hd4 | with_reducible exact idx_zip2 hd4 | with_reducible exact idx_zip1e hd4 | with_reducible exact idx_zip2e hd4 | with_reducible exact idx_drop_e hd4 | with_reducible exact idx_drop hd2 | with_reducible exact idx_take hd2 | with_reducible exact idx_zip1 hd2 | with_reducible exact idx_zip2 hd2 | with_reducible exact idx_zip1e hd2 | with_reducible exact idx_zip2e hd2 | with_reducible exact idx_drop_e hd2 | with_reducible exact idx_drop hd0 | with_reducible exact idx_take hd0 | with_reducible exact idx_zip1 hd0 | with_reducible exact idx_zip2 hd0 | with_reducible exact idx_zip1e hd0 | with_reducible exact idx_zip2e hd0 | with_reducible exact idx_drop_e hd0 | fail))
    | ((with_reducible refine len_step ?_ ?_); exact rfl)
    | ((with_reducible refine app_step' ?_ ?_ ?_ ?_ ?_ ?_ ?_); exact rfl; exact rfl; exact rfl; exact rfl)
    | ((with_reducible refine nil_step' ?_ ?_ ?_ ?_); exact rfl; exact rfl)
    | ((with_reducible refine guard_step ?_ ?_ (fun hg => ?_) ?_); exact rfl)
    | ((with_reducible refine val_step ?_ ?_); with_reducible exact rfl; with_reducible exact rfl)
    | ((with_reducible refine same_step ?_ ?_); with_reducible exact rfl)
    | ((with_reducible refine chk_step ?_ ?_); kernel_rfl)
    | ((with_reducible refine ret_step ?_); refine ⟨[], rfl, ?_, trivial⟩; conv => whnf)
    | ((with_reducible refine ret_need ?_ ?_); rotate_left; refine ⟨[], rfl, ?_, trivial⟩; conv => whnf)
    | ((with_reducible refine pan_need ?_ ?_); rotate_left; refine ⟨[], rfl, ?_, trivial⟩; conv => whnf)
    | ((with_reducible refine pan_step ?_); refine ⟨[], rfl, ?_, trivial⟩; conv => whnf)
    | (with_reducible refine And.intro ?_ ?_)
    | ((with_reducible refine gs_eq ?_ ?_ ?_); exact rfl; exact rfl; (first | with_reducible exact map_app | with_reducible exact map_app3 | with_reducible exact map_app4 | exact map_snoc | exact rfl | skip))
    | ((with_reducible refine tok_eq ?_ ?_); exact rfl; (first | with_reducible exact map_app | with_reducible exact map_app3 | with_reducible exact map_app4 | exact map_snoc | exact rfl | skip))
    | ((with_reducible refine ren_guard ?_); refine gs_ren ?_ ?_ ?_; exact rfl; exact rfl; (first | exact rfl | skip))
    | exact @rfl AV _
    | exact @rfl Block _
    | exact @rfl (List AV) _
    | exact ble_le rfl
    | fail)
  all_goals first
    | (rfl)
    | ((have := hI0.2; have := drop_lt hd0; simp only [List.length_map]; omega))
    | ((have := hI0.2; simp only [List.length_append, List.length_cons, List.length_nil]; omega))
    | ((rw [hI0.1]; simp only [List.map_cons, List.append_assoc, List.cons_append, List.nil_append]; done))
    | ((have := hI2.2; have := drop_lt hd2; simp only [List.length_map]; omega))
    | ((have := hI2.2; simp only [List.length_append, List.length_cons, List.length_nil]; omega))
    | ((rw [hI2.1]; simp only [List.map_cons, List.append_assoc, List.cons_append, List.nil_append]; done))
    | ((have := hI4.2; have := drop_lt hd4; simp only [List.length_map]; omega))
    | ((have := hI4.2; simp only [List.length_append, List.length_cons, List.length_nil]; omega))
    | ((rw [hI4.1]; simp only [List.map_cons, List.append_assoc, List.cons_append, List.nil_append]; done))
    | ((have := hI6.2; have := drop_lt hd6; simp only [List.length_map]; omega))
    | ((have := hI6.2; simp only [List.length_append, List.length_cons, List.length_nil]; omega))
    | ((rw [hI6.1]; simp only [List.map_cons, List.append_assoc, List.cons_append, List.nil_append]; done))
    | ((have := hI8.2; have := drop_lt hd8; simp only [List.length_map]; omega))
    | ((have := hI8.2; simp only [List.length_append, List.length_cons, List.length_nil]; omega))
    | ((rw [hI8.1]; simp only [List.map_cons, List.append_assoc, List.cons_append, List.nil_append]; done))
    | ((simp only [List.nil_append]; done))
    | ((simp only [Pr.d, Pr.cs, prefixed, hI0.1, hI2.1, hI4.1, hI6.1, hI8.1, List.map_nil, List.append_nil]; done))
    | ((refine Eq.trans ?_ map_snoc; rfl))
    | ((refine (congrArg (List.map Sm.cs e ++ ·) ?_).trans map_snoc; simp only [qSm, h, if_true, Bool.false_eq_true, if_false, reduceIte]; rfl))
    | skip
set_option maxHeartbeats 4000000 in
theorem law4_call (p : Pr) (hp : p.Small) (hn : ∀ s ∈ p.stmts, Ref15.nodes s.x ≤ 1073741824) (hv : ∀ t ∈ p.tables, t.values.length ≤ 1073741824) (hs : Shorts p) : PCall Try.prog 6 [p.d] (.ret (.b (lawRenamed p))) := by
  refine pcall_of_wc tok hmix ⟨[], []⟩ Try.func6 rfl (by kernel_rfl) (by kernel_rfl) (by kernel_rfl) fun hf => ?_
  have hld : (Declared p).length ≤ 9223372036854775807 := by (have := declared_len p; have := hp.params; have := hp.states; have := hp.lines; have := hp.tables; have := hp.stmts; omega)
  clear hf
  repeat' ((try (conv => whnf)) <;> first
    | with_reducible exact trivial
    | with_reducible exact rfl
    | with_reducible exact idx_next hd0 ‹_›
    | with_reducible refine BrI.tt ?_
    | with_reducible refine BrI.ff ?_
    | with_reducible refine br_nil hd0 ?_
    | with_reducible refine br_cons hd0 ?_
    | ((with_reducible refine br_nil_k hd0 ?_ ?_); (first | exact rfl | assumption | fail))
    | ((with_reducible refine br_cons_k hd0 ?_ ?_); (first | exact rfl | assumption | fail))
    | with_reducible refine br_nil_and hd0 ?_
    | with_reducible refine br_cons_and hd0 ?_
    | with_reducible refine br_nil_e hd0 ?_
    | with_reducible refine br_cons_e hd0 ?_
    | with_reducible refine BrI.intro (fun h => ?_) (fun h => ?_)
    | (exact Bool.noConfusion (h : false = true))
    | ((with_reducible refine LoopAt.mk 0 ?_); refine ⟨rangeL (Declared p) 24 (fun (_ : Unit) => []) (fun (_ : Unit) => []) [1, 3, 22, 23] (fun i0 r0 _ => lawRenamed p = if r0.any (fun s => decide ((s.length : Int) ≥ 32)) then true else (resolveC (prefixed p)).2 == 0 && Same (prefixed (resolveC p).1) (resolveC (prefixed p)).1), ?_⟩; with_reducible refine rangeL_rule () ?_ ?_ (fun i0 (_ : Unit) hd0 hI0 => ?_) (fun i0 x0 r0 (_ : Unit) hd0 hl0 hI0 => ?_))
    | (with_reducible refine rangeL_next hd0 () ?_ ?_)
    | ((with_reducible refine call_step ?_ ?_ ?_); rotate_left; (first | exact sane_call | exact few_call _ (by assumption) (by assumption) (by assumption) | exact Resolve_bad1 _ (by assumption) | exact Resolve_bad2 _ (by assumption) (by assumption) (by assumption) | exact Resolve_bad3 _ (by assumption) (by assumption) (by assumption) (by assumption) (by assumption) | exact Resolve_bad4 _ (by assumption) (by assumption) (by assumption) (by assumption) (by assumption) (by assumption) | exact Resolve_bad5 _ (by assumption) (by assumption) (by assumption) (by assumption) (by assumption) (by assumption) (by assumption) | exact Resolve_run _ (by assumption) (by assumption) (by assumption) (by assumption) (by assumption) (by assumption) (by assumption) | exact Declared_call _ (by assumption) | exact prefixed_call _ (by assumption) (by assumption) (by assumption) | exact same_call _ _ | exact resolve_call p hp hn | exact resolve_call (prefixed p) (prefixed_small hp) (prefixed_nodes hn) | exact few_call p hp hn hv | exact prefixed_call p hp hn hs | exact prefixed_call (resolveC p).1 (res_small (ne_of h) hp) (res_nodes (ne_of h) hn) (res_shorts (ne_of h) hs) | exact same_call (prefixed (resolveC p).1) (resolveC (prefixed p)).1 | fail))
    | with_reducible refine str_idx hd0 ?_
    | ((with_reducible refine nilgs_step ?_ ?_ ?_ ?_ ?_ ?_) <;> exact rfl)
    | ((with_reducible refine tok0_step ?_ ?_ ?_ ?_) <;> exact rfl)
    | ((with_reducible refine kok_step ?_ ?_ ?_); exact rfl; exact rfl)
    | ((with_reducible refine idx_step ?_ ?_ ?_ ?_ ?_); exact rfl; exact rfl; rotate_left; (first | with_reducible exact idx_get ‹_› | with_reducible exact idx_drop hd0 | with_reducible exact idx_take hd0 | with_reducible exact idx_zip1 hd0 | with_reducible exact idx_zip2 hd0 | with_reducible exact idx_zip1e hd0 | with_reducible exact idx_zip2e hd0 | with_reducible exact idx_drop_e hd0 | fail))
    | ((with_reducible refine len_step ?_ ?_); exact rfl)
    | ((with_reducible refine app_step' ?_ ?_ ?_ ?_ ?_ ?_ ?_); exact rfl; exact rfl; exact rfl; exact rfl)
    | ((with_reducible refine nil_step' ?_ ?_ ?_ ?_); exact rfl; exact rfl)
    | ((with_reducible refine guard_step ?_ ?_ (fun hg => ?_) ?_); exact rfl)
    | ((with_reducible refine val_step ?_ ?_); with_reducible exact rfl; with_reducible exact rfl)
    | ((with_reducible refine same_step ?_ ?_); with_reducible exact rfl)
    | ((with_reducible refine chk_step ?_ ?_); kernel_rfl)
    | ((with_reducible refine ret_step ?_); refine ⟨[], rfl, ?_, trivial⟩; conv => whnf)
    | ((with_reducible refine ret_need ?_ ?_); rotate_left; refine ⟨[], rfl, ?_, trivial⟩; conv => whnf)
    | ((with_reducible refine pan_need ?_ ?_); rotate_left; refine ⟨[], rfl, ?_, trivial⟩; conv => whnf)
    | ((with_reducible refine pan_step ?_); refine ⟨[], rfl, ?_, trivial⟩; conv => whnf)
    | (with_reducible refine And.intro ?_ ?_)
    | ((with_reducible refine gs_eq ?_ ?_ ?_); exact rfl; exact rfl; (first | with_reducible exact map_app | with_reducible exact map_app3 | with_reducible exact map_app4 | exact map_snoc | exact rfl | skip))
    | ((with_reducible refine tok_eq ?_ ?_); exact rfl; (first | with_reducible exact map_app | with_reducible exact map_app3 | with_reducible exact map_app4 | exact map_snoc | exact rfl | skip))
    | ((with_reducible refine ren_guard ?_); refine gs_ren ?_ ?_ ?_; exact rfl; exact rfl; (first | exact rfl | skip))
    | exact @rfl AV _
    | exact @rfl Block _
    | exact @rfl (List AV) _
    | exact ble_le rfl
    | fail)
  all_goals first
    | ((rw [lr_no h]))
    | ((rw [lr_err ?_ h]; assumption))
    | ((exact lr_eq (by assumption) h))
    | ((rw [hI0]; simp only [List.any_cons, h, Bool.true_or, if_true]; done))
    | ((rw [hI0]; simp only [List.any_cons, h, Bool.false_or]; done))
    | ((rw [hI0]; simp only [List.any_nil, Bool.false_eq_true, if_false, Bool.cond_false_right]; done))
    | (rfl)
    | skip
end Go.Proofs.Ytgilgdfmohmbdaa

