/- Contracts: how the machine begins. -/
import Derived.Test.YtcfpghieofhfkaaZXA
import Derived.Test.YtcfpghieofhfkaaZMS7
set_option linter.unusedSimpArgs false
set_option linter.unusedVariables false
namespace Go.Proofs.Ytcfpghieofhfkaa
open Go.Fw Go.Fw.Mac
set_option maxRecDepth 10000
set_option linter.unusedSectionVars false
variable [GlobInt]
set_option maxHeartbeats 400000 in
theorem start_bad (c : Cd) (g : c.Sm) (hc : checkP c = false) : PCall Try.prog 11 [c.d] (.ret (.tuple [.agg [ints [], .sl 1 []], .i 200])) := by
  refine pcall_of_wc tok hmix ⟨[], []⟩ Try.func11 rfl (by kernel_rfl) (by kernel_rfl) (by kernel_rfl) fun hf => ?_
  have hk := check_call c g; rw [hc] at hk
  clear hf
  repeat' ((try (conv => whnf)) <;> first
    | (exact Bool.noConfusion (okE_yes h))
    | with_reducible refine BrI.intro (fun h => ?_) (fun h => ?_)
    | ((with_reducible refine call_step ?_ ?_ ?_); rotate_left; (exact hk))
    | ((with_reducible refine ret_step ?_); refine ⟨[], rfl, ?_, trivial⟩; conv => whnf)
    | fail)
  all_goals first
    | (rfl)
    | skip
set_option maxHeartbeats 2000000 in
theorem start_ok (c : Cd) (g : c.Sm) (hc : checkP c = true) (hsz : ∀ x ∈ c.lines, 1 ≤ x.size ∧ x.size ≤ 65536) : PCall Try.prog 11 [c.d] (.ret (.tuple [(startM c).d, .i 0])) := by
  refine pcall_of_wc tok hmix ⟨[], []⟩ Try.func11 rfl (by kernel_rfl) (by kernel_rfl) (by kernel_rfl) fun hf => ?_
  have hk := check_call c g; rw [hc] at hk
  have g2 := g.states; have g3 := g.lines
  have hlen : c.states.length ≤ 9223372036854775807 := by omega
  have hlen2 : c.lines.length ≤ 9223372036854775807 := by omega
  clear hf
  repeat' ((try (conv => whnf)) <;> first
    | with_reducible exact trivial
    | with_reducible exact idx_next hd2 ‹_›
    | with_reducible exact idx_next hd0 ‹_›
    | with_reducible refine br_nil hd2 ?_
    | with_reducible refine br_nil hd0 ?_
    | with_reducible refine br_cons hd2 ?_
    | with_reducible refine br_cons hd0 ?_
    | with_reducible refine BrI.intro (fun h => ?_) (fun h => ?_)
    | ((with_reducible refine mk_step ?_ ?_ ?_ ?_ ?_); (have := hsz _ (drop_mem hd2); omega); (exact Int.le_refl _); exact rfl; (have := hsz _ (drop_mem hd2); omega))
    | ((with_reducible refine LoopAt.mk 0 ?_); refine ⟨rangeL (c.states) 18 (fun (vs : (List Int)) => []) (fun (vs : (List Int)) => [(2, .cells [.gs 900001 1 (vs.map intC), .nilsl 1]), (900001, .tok 1 (vs.map intC).length)]) [1, 2, 16, 17] (fun i0 r0 vs => (startM c).values = vs ++ r0.map (fun b => heldM 0 b.lo b.hi)), ?_⟩; with_reducible refine rangeL_rule ([]) ?_ ?_ (fun i0 (vs : (List Int)) hd0 hI0 => ?_) (fun i0 x0 r0 (vs : (List Int)) hd0 hl0 hI0 => ?_))
    | (with_reducible refine rangeL_next hd0 (vs ++ [heldM 0 x0.lo x0.hi]) ?_ ?_)
    | ((with_reducible refine LoopAt.mk 2 ?_); refine ⟨rangeL (c.lines) 36 (fun (ls : (List (List Int))) => []) (fun (ls : (List (List Int))) => [(2, .cells [.gs 900001 1 (vs.map intC), .gs 900002 1 (ls.map lnC)]), (900001, .tok 1 (vs.map intC).length), (900002, .tok 1 (ls.map lnC).length)]) [2, 34, 35] (fun i2 r2 ls => (startM c).lines = ls ++ r2.map (fun l => List.replicate l.size.toNat 0)), ?_⟩; with_reducible refine rangeL_rule ([]) ?_ ?_ (fun i2 (ls : (List (List Int))) hd2 hI2 => ?_) (fun i2 x2 r2 (ls : (List (List Int))) hd2 hl2 hI2 => ?_))
    | (with_reducible refine rangeL_next hd2 (ls ++ [List.replicate x2.size.toNat 0]) ?_ ?_)
    | ((with_reducible refine call_step ?_ ?_ ?_); rotate_left; (first | exact held_call _ _ _ | exact hk))
    | (with_reducible refine ChooseI.l _ ?_)
    | ((with_reducible refine nilgs_step ?_ ?_ ?_ ?_ ?_ ?_) <;> exact rfl)
    | ((with_reducible refine tok0_step ?_ ?_ ?_ ?_) <;> exact rfl)
    | ((with_reducible refine idx_step ?_ ?_ ?_ ?_ ?_); exact rfl; exact rfl; rotate_left; (first | with_reducible exact idx_drop hd2 | with_reducible exact idx_drop hd0))
    | ((with_reducible refine len_step ?_ ?_); exact rfl)
    | ((with_reducible refine app_step' ?_ ?_ ?_ ?_ ?_ ?_ ?_); exact rfl; exact rfl; exact rfl; exact rfl)
    | ((with_reducible refine chk_stepP ?_ ?_); kernel_rfl)
    | ((with_reducible refine ret_step ?_); refine ⟨[], rfl, ?_, trivial⟩; conv => whnf)
    | (with_reducible refine And.intro ?_ ?_)
    | ((with_reducible refine gs_eq ?_ ?_ ?_); exact rfl; exact rfl; (first | exact map_snoc | skip))
    | ((with_reducible refine tok_eq ?_ ?_); exact rfl; (first | exact map_snoc | skip))
    | exact @rfl AV _
    | exact ble_le rfl
    | fail)
  all_goals first
    | (rfl)
    | ((rw [hI0]; simp; done))
    | ((rw [hI2]; simp; done))
    | ((have hq := congrArg List.length hI0; simp only [startM, List.length_append, List.length_map] at hq ⊢; omega))
    | ((have hq := congrArg List.length hI2; simp only [startM, List.length_append, List.length_map] at hq ⊢; omega))
    | ((exact (congrArg (fun d => D.tuple [d, D.i 0]) (start_d hI0 hI2)).symm))
    | ((exact Bool.noConfusion (okE_no h)))
    | ((exact chunk_ln))
    | skip
set_option maxHeartbeats 400000 in
theorem clone_call (l : List Int) (hl : l.length ≤ 1073741824) : LCall Try.prog 49 [.data (ints l)] [] (.ret (.own 1000000 1 1 0 l.length)) [(1000000, .arr 1 1 (l.map intC))] := by
  refine lcall_of_wc tok hmix ⟨[], []⟩ Try.func49 rfl (by kernel_rfl) (by kernel_rfl) (by kernel_rfl) fun hf => ?_
  clear hf
  repeat' ((try (conv => whnf)) <;> first
    | (with_reducible refine ChooseI.r 5 ?_)
    | (obtain rfl : l = [] := (List.length_eq_zero_iff.1 (by simpa using hz)); clear hz; refine ret_weak [(2, .own 5 1 1 0 0)] [(5, .arr 1 1 [])] ?_ ?_)
    | with_reducible exact trivial
    | with_reducible refine BrI.tt ?_
    | with_reducible refine BrI.ff ?_
    | (with_reducible refine NilI.mk (fun hz => ?_) ?_)
    | ((with_reducible refine own_app_step ?_ ?_ ?_ ?_ ?_ ?_ ?_ ?_); exact rfl; exact rfl; exact rfl; exact ble_le rfl; exact rfl; (exact Nat.zero_le _); (rw [List.length_map]; exact hl))
    | (refine fin_step' [(1000000, 5)] rfl ?_ ?_)
    | (exact own_ren rfl ((Nat.zero_add _).trans (List.length_map _)))
    | (exact arr_take rfl)
    | ((with_reducible refine ret_step ?_); refine fin_step' [(1000000, 5)] rfl ?_ ?_)
    | ((with_reducible refine tok0_step ?_ ?_ ?_ ?_) <;> exact rfl)
    | (with_reducible refine And.intro ?_ ?_)
    | exact @rfl AV _
    | exact @rfl Block _
    | fail)
  all_goals first
    | (rfl)
    | skip
set_option maxHeartbeats 400000 in
theorem cloneL_call (l : List (List Int)) (hl : l.length ≤ 1073741824) : LCall Try.prog 50 [.data (.sl 1 (l.map lnC))] [] (.ret (.own 1000000 1 1 0 l.length)) [(1000000, .arr 1 1 (l.map lnC))] := by
  refine lcall_of_wc tok hmix ⟨[], []⟩ Try.func50 rfl (by kernel_rfl) (by kernel_rfl) (by kernel_rfl) fun hf => ?_
  clear hf
  repeat' ((try (conv => whnf)) <;> first
    | (with_reducible refine ChooseI.r 5 ?_)
    | (obtain rfl : l = [] := (List.length_eq_zero_iff.1 (by simpa using hz)); clear hz; refine ret_weak [(2, .own 5 1 1 0 0)] [(5, .arr 1 1 [])] ?_ ?_)
    | with_reducible exact trivial
    | with_reducible refine BrI.tt ?_
    | with_reducible refine BrI.ff ?_
    | (with_reducible refine NilI.mk (fun hz => ?_) ?_)
    | ((with_reducible refine own_app_step ?_ ?_ ?_ ?_ ?_ ?_ ?_ ?_); exact rfl; exact rfl; exact rfl; exact ble_le rfl; exact rfl; (exact Nat.zero_le _); (rw [List.length_map]; exact hl))
    | (refine fin_step' [(1000000, 5)] rfl ?_ ?_)
    | (exact own_ren rfl ((Nat.zero_add _).trans (List.length_map _)))
    | (exact arr_take rfl)
    | ((with_reducible refine ret_step ?_); refine fin_step' [(1000000, 5)] rfl ?_ ?_)
    | ((with_reducible refine tok0_step ?_ ?_ ?_ ?_) <;> exact rfl)
    | (with_reducible refine And.intro ?_ ?_)
    | exact @rfl AV _
    | exact @rfl Block _
    | fail)
  all_goals first
    | (rfl)
    | skip
set_option maxHeartbeats 2000000 in
theorem mstart_call (c : Cd) (s : Sta) (g : c.Sm) (hs : s.Sm) (h0 : 0 ≤ c.regs) (h1 : c.regs ≤ 65536) : LCall Try.prog 34 [.data c.d, .data s.d] [] (.ret (.ptr 1000000 0)) [(1000000, .cells [.data (.i c.latency), .data (.i c.tail), .data (.sl 3 (c.params.map Bd.cs)), .data (.sl 3 (c.states.map Bd.cs)), .data (.sl 4 (c.lines.map Ln.cs)), .data (.sl 1 (c.tables.map lnC)), .data (.i c.regs), .data (.sl 2 (c.instrs.map insC)), .own 1000001 0 1 0 0, .own 1000002 0 1 0 (List.replicate c.regs.toNat (0 : Int)).length, .nilsl 1, .nilsl 1, .nilsl 1, .own 1000003 1 1 0 (s.values).length, .own 1000004 1 1 0 (s.lines).length, .map 1000005, .data (.i 0)]), (1000001, .arr 0 1 ((([] : List Int)).map intC)), (1000002, .arr 0 1 ((List.replicate c.regs.toNat (0 : Int)).map intC)), (1000003, .arr 1 1 ((s.values).map intC)), (1000004, .arr 1 1 ((s.lines).map lnC)), (1000005, .map false [.int .i64] ((([] : List (Int × Int))).map kvD))] := by
  refine lcall_of_wc tok hmix ⟨[], []⟩ Try.func34 rfl (by kernel_rfl) (by kernel_rfl) (by kernel_rfl) fun hf => ?_
  have hv : s.values.length ≤ 1073741824 := by have := hs.values; omega
  have hl : s.lines.length ≤ 1073741824 := by have := hs.lines; omega
  clear hf
  repeat' ((try (conv => whnf)) <;> first
    | (with_reducible refine ChooseI.r 8 ?_)
    | ((with_reducible refine ret_weak [(4, .ptr 18 0)] [(18, .cells [.data (.i c.latency), .data (.i c.tail), .data (.sl 3 (c.params.map Bd.cs)), .data (.sl 3 (c.states.map Bd.cs)), .data (.sl 4 (c.lines.map Ln.cs)), .data (.sl 1 (c.tables.map lnC)), .data (.i c.regs), .data (.sl 2 (c.instrs.map insC)), .own 900001 0 1 0 0, .own 8 0 1 0 (List.replicate c.regs.toNat (0 : Int)).length, .nilsl 1, .nilsl 1, .nilsl 1, .own 800000 1 1 0 s.values.length, .own 800100 1 1 0 s.lines.length, .map 9, .data (.i 0)]), (900001, .arr 0 1 []), (8, .arr 0 1 ((List.replicate c.regs.toNat (0 : Int)).map intC)), (800000, .arr 1 1 (s.values.map intC)), (800100, .arr 1 1 (s.lines.map lnC)), (9, .map false [.int .i64] [])] ?_ ?_); (next => repeat' ((try (conv => whnf)) <;> first | with_reducible exact trivial | with_reducible exact rfl | (with_reducible refine And.intro ?_ ?_) | ((with_reducible refine rep_ownX ?_); exact rfl) | exact @rfl AV _ | exact @rfl Block _ | exact @rfl Bool _ | exact @rfl (Option Block) _ | (exact @rep_arr 0 1 c.regs.toNat) | fail)); (next => refine fin_step' [(1000000, 18), (1000001, 900001), (1000002, 8), (1000003, 800000), (1000004, 800100), (1000005, 9)] rfl ?_ ?_ <;> (repeat' ((try (conv => whnf)) <;> first | with_reducible exact trivial | with_reducible exact rfl | exact @rfl AV _ | exact @rfl Block _ | (with_reducible refine And.intro ?_ ?_) | fail))))
    | ((with_reducible refine mk_step ?_ ?_ ?_ ?_ ?_); exact h0; (exact Int.le_refl _); exact rfl; omega)
    | ((with_reducible refine lent_step [(1000000, 800000)] (clone_call s.values hv) ?_ ?_ ?_ ?_); rotate_left 0; exact rfl; (exact trivial); exact rfl)
    | ((with_reducible refine lent_step [(1000000, 800100)] (cloneL_call s.lines hl) ?_ ?_ ?_ ?_); rotate_left 0; exact rfl; (exact trivial); exact rfl)
    | ((with_reducible refine chk_stepP ?_ ?_); kernel_rfl)
    | fail)
  all_goals first
    | skip
end Go.Proofs.Ytcfpghieofhfkaa
