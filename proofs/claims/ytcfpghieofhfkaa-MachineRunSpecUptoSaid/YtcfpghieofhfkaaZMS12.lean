/- Contracts: the specification of the machine: states, comparing, sizes. -/
import Derived.Test.YtcfpghieofhfkaaZMS10
import Derived.Test.YtcfpghieofhfkaaZMC
set_option linter.unusedSimpArgs false
set_option linter.unusedVariables false
namespace Go.Proofs.Ytcfpghieofhfkaa
open Go.Fw Go.Fw.Mac
set_option maxRecDepth 10000
set_option linter.unusedSectionVars false
variable [GlobInt]
theorem rcheck_call (c : Cd) (g : c.Sm) : PCall Try.prog 20 [c.d] (.ret (.i (okE (checkP c)))) := by
  rw [← check_eq]
  unfold checkR
  cases hd : decR c with
  | false => exact checkR_bad c g hd
  | true => exact checkR_ok c _ g hd rfl
set_option maxHeartbeats 2000000 in
theorem rstate_call (c : Cd) (s : Sta) (cd : CdOk c) (hs : s.Sm) : PCall Try.prog 27 [c.d, s.d] (.ret (.b (stateM c s))) := by
  refine pcall_of_wc tok hmix ⟨[], []⟩ Try.func27 rfl (by kernel_rfl) (by kernel_rfl) (by kernel_rfl) fun hf => ?_
  have g2 := cd.nS; have g3 := cd.nL; have g7 := hs.line
  clear hf
  repeat' ((try (conv => whnf)) <;> first
    | with_reducible exact trivial
    | with_reducible exact idx_next hd4 ‹_›
    | with_reducible exact idx_next hd2 ‹_›
    | with_reducible exact idx_next hd0 ‹_›
    | with_reducible refine br_nil hd4 ?_
    | with_reducible refine br_cons hd4 ?_
    | ((with_reducible refine br_nil_k hd2 ?_ ?_); (assumption))
    | ((with_reducible refine br_nil_k hd0 ?_ ?_); (assumption))
    | ((with_reducible refine br_cons_k hd2 ?_ ?_); (assumption))
    | ((with_reducible refine br_cons_k hd0 ?_ ?_); (assumption))
    | with_reducible refine BrI.intro (fun h => ?_) (fun h => ?_)
    | ((with_reducible refine LoopAt.mk 0 ?_); have heq : s.values.length = c.states.length ∧ s.lines.length = c.lines.length := len_ne2 (by simpa only [List.length_map] using h); have hz : (s.values.zip c.states).length = (s.values.map intC).length := (by rw [List.length_map]; exact zip_len heq.1); have hlen : (s.values.zip c.states).length ≤ 9223372036854775807 := (by rw [hz, List.length_map]; omega); refine ⟨rangeL (s.values.zip c.states) 5 (fun (_ : Unit) => []) (fun (_ : Unit) => []) [2, 3] (fun i0 r0 _ => ctlZ (s.values.zip c.states) = ctlZ r0), ?_⟩; with_reducible refine rangeL_rule () ?_ ?_ (fun i0 (_ : Unit) hd0 hI0 => ?_) (fun i0 x0 r0 (_ : Unit) hd0 hl0 hI0 => ?_))
    | (with_reducible refine rangeL_next hd0 () ?_ ?_)
    | ((with_reducible refine LoopAt.mk 2 ?_); have hz2 : (s.lines.zip c.lines).length = (s.lines.map lnC).length := (by rw [List.length_map]; exact zip_len heq.2); have hlen2 : (s.lines.zip c.lines).length ≤ 9223372036854775807 := (by rw [hz2, List.length_map]; omega); refine ⟨rangeL (s.lines.zip c.lines) 6 (fun (_ : Unit) => []) (fun (_ : Unit) => []) [2, 3] (fun i2 r2 _ => linZ (s.lines.zip c.lines) = linZ r2), ?_⟩; with_reducible refine rangeL_rule () ?_ ?_ (fun i2 (_ : Unit) hd2 hI2 => ?_) (fun i2 x2 r2 (_ : Unit) hd2 hl2 hI2 => ?_))
    | (with_reducible refine rangeL_next hd2 () ?_ ?_)
    | ((with_reducible refine LoopAt.mk 4 ?_); have hlen4 : x2.1.length ≤ 9223372036854775807 := (by have := g7 _ (List.of_mem_zip (drop_mem hd2)).1; omega); have hb4 : ((x2.1.length : Int) != x2.2.size) = false := (by simpa only [List.length_map] using h); refine ⟨rangeL (x2.1) 7 (fun (_ : Unit) => []) (fun (_ : Unit) => []) [2, 3, 6] (fun i4 r4 _ => firstL x2.2 x2.1 0 = firstL x2.2 r4 i4), ?_⟩; with_reducible refine rangeL_rule () ?_ ?_ (fun i4 (_ : Unit) hd4 hI4 => ?_) (fun i4 x4 r4 (_ : Unit) hd4 hl4 hI4 => ?_))
    | (with_reducible refine rangeL_next hd4 () ?_ ?_)
    | ((with_reducible refine idx_step ?_ ?_ ?_ ?_ ?_); exact rfl; exact rfl; rotate_left; (first | with_reducible exact idx_drop hd4 | with_reducible exact idx_zip1 hd2 | with_reducible exact idx_zip2 hd2 | with_reducible exact idx_zip1 hd0 | with_reducible exact idx_zip2 hd0))
    | ((with_reducible refine guard_step ?_ ?_ (fun hg => ?_) ?_); exact rfl)
    | ((with_reducible refine val_step ?_ ?_); with_reducible exact rfl; with_reducible exact rfl)
    | ((with_reducible refine chk_stepP ?_ ?_); kernel_rfl)
    | ((with_reducible refine ret_step ?_); refine ⟨[], rfl, ?_, trivial⟩; conv => whnf)
    | (with_reducible refine And.intro ?_ ?_)
    | exact @rfl AV _
    | fail)
  all_goals first
    | (rfl)
    | ((exact ctl_next hI0 ((held_out (ctl_le cd.states hd0)).trans h)))
    | ((exact congrArg D.b (staM_no (by simpa only [List.length_map] using h)).symm))
    | ((exact congrArg D.b (staM_v (ctl_bad hI0 ((held_out (ctl_le cd.states hd0)).trans h))).symm))
    | ((exact congrArg D.b (staM_l (lin_bad hI2 (bln_len (by simpa only [List.length_map] using h)))).symm))
    | ((exact congrArg D.b (staM_l (lin_bad hI2 (bln_hit hb4 hI4 ((bad_out (lin_le cd.lines hd2)).trans h)))).symm))
    | ((exact firstL_next hI4 ((bad_out (lin_le cd.lines hd2)).trans h)))
    | ((exact lin_next hI2 (bln_end hb4 hI4)))
    | ((refine congrArg D.b (staM_yes ?_ hI0 hI2).symm; (rw [heq.1, heq.2]; simp)))
    | skip
set_option maxHeartbeats 2000000 in
theorem rbegin_call (c : Cd) (cd : CdOk c) : PCall Try.prog 24 [c.d] (.ret (startM c).d) := by
  refine pcall_of_wc tok hmix ⟨[], []⟩ Try.func24 rfl (by kernel_rfl) (by kernel_rfl) (by kernel_rfl) fun hf => ?_
  have g2 := cd.nS; have g3 := cd.nL; have hsz := fun x hx => (cd.lines x hx).2
  have hlen : c.states.length ≤ 9223372036854775807 := by omega
  have hlen2 : c.lines.length ≤ 9223372036854775807 := by omega
  clear hf
  repeat' ((try (conv => whnf)) <;> first
    | with_reducible exact trivial
    | with_reducible exact idx_next hd2 ‹_›
    | with_reducible exact idx_next hd0 ‹_›
    | with_reducible refine br_nil hd2 ?_
    | with_reducible refine br_nil hd0 ?_
    | with_reducible refine br_cons hd2 ?_
    | with_reducible refine br_cons hd0 ?_
    | ((with_reducible refine mk_step ?_ ?_ ?_ ?_ ?_); (have := hsz _ (drop_mem hd2); omega); (exact Int.le_refl _); exact rfl; (have := hsz _ (drop_mem hd2); omega))
    | ((with_reducible refine LoopAt.mk 0 ?_); refine ⟨rangeL (c.states) 4 (fun (vs : (List Int)) => []) (fun (vs : (List Int)) => [(3, .cells [.gs 900001 1 (vs.map intC), .nilsl 1]), (900001, .tok 1 (vs.map intC).length)]) [1, 2, 3] (fun i0 r0 vs => (startM c).values = vs ++ r0.map (fun b => heldM 0 b.lo b.hi)), ?_⟩; with_reducible refine rangeL_rule ([]) ?_ ?_ (fun i0 (vs : (List Int)) hd0 hI0 => ?_) (fun i0 x0 r0 (vs : (List Int)) hd0 hl0 hI0 => ?_))
    | (with_reducible refine rangeL_next hd0 (vs ++ [heldM 0 x0.lo x0.hi]) ?_ ?_)
    | ((with_reducible refine LoopAt.mk 2 ?_); refine ⟨rangeL (c.lines) 5 (fun (ls : (List (List Int))) => []) (fun (ls : (List (List Int))) => [(3, .cells [.gs 900001 1 (vs.map intC), .gs 900002 1 (ls.map lnC)]), (900001, .tok 1 (vs.map intC).length), (900002, .tok 1 (ls.map lnC).length)]) [1, 2, 3] (fun i2 r2 ls => (startM c).lines = ls ++ r2.map (fun l => List.replicate l.size.toNat 0)), ?_⟩; with_reducible refine rangeL_rule ([]) ?_ ?_ (fun i2 (ls : (List (List Int))) hd2 hI2 => ?_) (fun i2 x2 r2 (ls : (List (List Int))) hd2 hl2 hI2 => ?_))
    | (with_reducible refine rangeL_next hd2 (ls ++ [List.replicate x2.size.toNat 0]) ?_ ?_)
    | ((with_reducible refine call_step ?_ ?_ ?_); rotate_left; (exact rhold_call _ _ _))
    | (with_reducible refine ChooseI.l _ ?_)
    | ((with_reducible refine nilgs_step ?_ ?_ ?_ ?_ ?_ ?_) <;> exact rfl)
    | ((with_reducible refine tok0_step ?_ ?_ ?_ ?_) <;> exact rfl)
    | ((with_reducible refine idx_step ?_ ?_ ?_ ?_ ?_); exact rfl; exact rfl; rotate_left; (first | with_reducible exact idx_drop hd2 | with_reducible exact idx_drop hd0))
    | ((with_reducible refine app_step' ?_ ?_ ?_ ?_ ?_ ?_ ?_); exact rfl; exact rfl; exact rfl; exact rfl)
    | ((with_reducible refine chk_stepP ?_ ?_); kernel_rfl)
    | ((with_reducible refine ret_step ?_); refine ⟨[], rfl, ?_, trivial⟩; conv => whnf)
    | (with_reducible refine And.intro ?_ ?_)
    | ((with_reducible refine gs_eq ?_ ?_ ?_); exact rfl; exact rfl; (first | exact map_snoc | skip))
    | ((with_reducible refine tok_eq ?_ ?_); exact rfl; (first | exact map_snoc | skip))
    | exact @rfl AV _
    | exact ble_le rfl
    | fail)
  all_goals first
    | (rfl)
    | ((rw [hI0]; simp; done))
    | ((rw [hI2]; simp; done))
    | ((have hq := congrArg List.length hI0; simp only [startM, List.length_append, List.length_map] at hq ⊢; omega))
    | ((have hq := congrArg List.length hI2; simp only [startM, List.length_append, List.length_map] at hq ⊢; omega))
    | ((exact (start_d hI0 hI2).symm))
    | ((exact chunk_ln))
    | skip
set_option maxHeartbeats 400000 in
theorem rstart_bad (c : Cd) (g : c.Sm) (hc : checkP c = false) : PCall Try.prog 12 [c.d] (.ret (.tuple [.agg [ints [], .sl 1 []], .i 200])) := by
  refine pcall_of_wc tok hmix ⟨[], []⟩ Try.func12 rfl (by kernel_rfl) (by kernel_rfl) (by kernel_rfl) fun hf => ?_
  have hk := rcheck_call c g; rw [hc] at hk
  clear hf
  repeat' ((try (conv => whnf)) <;> first
    | (exact Bool.noConfusion (okE_yes h))
    | with_reducible refine BrI.intro (fun h => ?_) (fun h => ?_)
    | ((with_reducible refine call_step ?_ ?_ ?_); rotate_left; (exact hk))
    | ((with_reducible refine ret_step ?_); refine ⟨[], rfl, ?_, trivial⟩; conv => whnf)
    | fail)
  all_goals first
    | (rfl)
    | skip
set_option maxHeartbeats 400000 in
theorem rstart_ok (c : Cd) (g : c.Sm) (hc : checkP c = true) : PCall Try.prog 12 [c.d] (.ret (.tuple [(startM c).d, .i 0])) := by
  refine pcall_of_wc tok hmix ⟨[], []⟩ Try.func12 rfl (by kernel_rfl) (by kernel_rfl) (by kernel_rfl) fun hf => ?_
  have hk := rcheck_call c g; rw [hc] at hk
  clear hf
  repeat' ((try (conv => whnf)) <;> first
    | with_reducible refine BrI.intro (fun h => ?_) (fun h => ?_)
    | ((with_reducible refine call_step ?_ ?_ ?_); rotate_left; (first | exact hk | exact rbegin_call c (cdOk g hc)))
    | ((with_reducible refine ret_step ?_); refine ⟨[], rfl, ?_, trivial⟩; conv => whnf)
    | fail)
  all_goals first
    | ((exact Bool.noConfusion (okE_no h)))
    | skip
set_option maxHeartbeats 400000 in
theorem msame_call (a b : List Int) (ha : a.length ≤ 1073741824) (hb : b.length ≤ 1073741824) : PCall Try.prog 19 [ints a, ints b] (.ret (.b (sameI a b))) := by
  refine pcall_of_wc tok hmix ⟨[], []⟩ Try.func19 rfl (by kernel_rfl) (by kernel_rfl) (by kernel_rfl) fun hf => ?_
  clear hf
  repeat' ((try (conv => whnf)) <;> first
    | with_reducible exact trivial
    | with_reducible exact idx_next hd0 ‹_›
    | ((with_reducible refine br_nil_k hd0 ?_ ?_); (assumption))
    | ((with_reducible refine br_cons_k hd0 ?_ ?_); (assumption))
    | with_reducible refine BrI.intro (fun h => ?_) (fun h => ?_)
    | ((with_reducible refine LoopAt.mk 0 ?_); have heq : a.length = b.length := len_ne (by simpa only [List.length_map] using h); have hz : (a.zip b).length = (a.map intC).length := (by rw [List.length_map]; exact zip_len heq); have hlen : (a.zip b).length ≤ 9223372036854775807 := (by rw [hz, List.length_map]; omega); refine ⟨rangeL (a.zip b) 5 (fun (_ : Unit) => []) (fun (_ : Unit) => []) [0, 1] (fun i0 r0 _ => sameZ (a.zip b) = sameZ r0), ?_⟩; with_reducible refine rangeL_rule () ?_ ?_ (fun i0 (_ : Unit) hd0 hI0 => ?_) (fun i0 x0 r0 (_ : Unit) hd0 hl0 hI0 => ?_))
    | (with_reducible refine rangeL_next hd0 () ?_ ?_)
    | ((with_reducible refine idx_step ?_ ?_ ?_ ?_ ?_); exact rfl; exact rfl; rotate_left; (first | with_reducible exact idx_zip1 hd0 | with_reducible exact idx_zip2 hd0))
    | ((with_reducible refine chk_stepP ?_ ?_); kernel_rfl)
    | ((with_reducible refine ret_step ?_); refine ⟨[], rfl, ?_, trivial⟩; conv => whnf)
    | (with_reducible refine And.intro ?_ ?_)
    | exact @rfl AV _
    | fail)
  all_goals first
    | ((exact sameZ_next hI0 h))
    | ((exact congrArg D.b (sameI_len (by simpa only [List.length_map] using h)).symm))
    | ((exact congrArg D.b (sameI_no heq hI0 h).symm))
    | ((exact congrArg D.b (sameI_yes heq hI0).symm))
    | skip
set_option maxHeartbeats 400000 in
theorem samest_call (a b : Sta) (ha : a.Sm) (hb : b.Sm) : PCall Try.prog 15 [a.d, b.d] (.ret (.b (sameSt a b))) := by
  refine pcall_of_wc tok hmix ⟨[], []⟩ Try.func15 rfl (by kernel_rfl) (by kernel_rfl) (by kernel_rfl) fun hf => ?_
  have h1 := ha.values; have h2 := hb.values; have h3 := ha.lines; have h4 := hb.lines; have h5 := ha.line; have h6 := hb.line
  clear hf
  repeat' ((try (conv => whnf)) <;> first
    | with_reducible exact trivial
    | with_reducible exact idx_next hd0 ‹_›
    | ((with_reducible refine br_nil_k hd0 ?_ ?_); (assumption))
    | ((with_reducible refine br_cons_k hd0 ?_ ?_); (assumption))
    | with_reducible refine BrI.intro (fun h => ?_) (fun h => ?_)
    | ((with_reducible refine LoopAt.mk 0 ?_); have heq := sameSt_len (by simpa only [List.length_map] using h); have hz : (a.lines.zip b.lines).length = (a.lines.map lnC).length := (by rw [List.length_map]; exact zip_len heq.2); have hlen : (a.lines.zip b.lines).length ≤ 9223372036854775807 := (by rw [hz, List.length_map]; omega); refine ⟨rangeL (a.lines.zip b.lines) 5 (fun (_ : Unit) => []) (fun (_ : Unit) => []) [2, 3] (fun i0 r0 _ => sameL (a.lines.zip b.lines) = sameL r0), ?_⟩; with_reducible refine rangeL_rule () ?_ ?_ (fun i0 (_ : Unit) hd0 hI0 => ?_) (fun i0 x0 r0 (_ : Unit) hd0 hl0 hI0 => ?_))
    | (with_reducible refine rangeL_next hd0 () ?_ ?_)
    | ((with_reducible refine call_step ?_ ?_ ?_); rotate_left; (first | exact msame_call a.values b.values (by omega) (by omega) | exact msame_call x0.1 x0.2 (by have := h5 _ (List.of_mem_zip (drop_mem hd0)).1; omega) (by have := h6 _ (List.of_mem_zip (drop_mem hd0)).2; omega)))
    | ((with_reducible refine idx_step ?_ ?_ ?_ ?_ ?_); exact rfl; exact rfl; rotate_left; (first | with_reducible exact idx_zip1 hd0 | with_reducible exact idx_zip2 hd0))
    | ((with_reducible refine chk_stepP ?_ ?_); kernel_rfl)
    | ((with_reducible refine ret_step ?_); refine ⟨[], rfl, ?_, trivial⟩; conv => whnf)
    | (with_reducible refine And.intro ?_ ?_)
    | exact @rfl AV _
    | fail)
  all_goals first
    | ((exact sameL_next hI0 h))
    | ((exact congrArg D.b (sameSt_no (by simpa only [List.length_map] using h)).symm))
    | ((exact congrArg D.b (sameSt_bad heq hI0 h).symm))
    | ((exact congrArg D.b (sameSt_yes heq hI0).symm))
    | skip
set_option maxHeartbeats 400000 in
theorem fewst_call (s : Sta) (hs : s.Sm) : PCall Try.prog 10 [s.d] (.ret (.b (fewSt s))) := by
  refine pcall_of_wc tok hmix ⟨[], []⟩ Try.func10 rfl (by kernel_rfl) (by kernel_rfl) (by kernel_rfl) fun hf => ?_
  have hlen : s.lines.length ≤ 9223372036854775807 := by have := hs.lines; omega
  clear hf
  repeat' ((try (conv => whnf)) <;> first
    | with_reducible exact trivial
    | with_reducible exact idx_next hd0 ‹_›
    | with_reducible refine br_nil_and hd0 ?_
    | with_reducible refine br_cons_and hd0 ?_
    | with_reducible refine BrI.intro (fun h => ?_) (fun h => ?_)
    | ((with_reducible refine LoopAt.mk 0 ?_); refine ⟨rangeL (s.lines) 4 (fun (n : (Int)) => [(3, .data (.val (.int .i64 n)))]) (fun (n : (Int)) => []) [1] (fun i0 r0 n => fewSt s = decide (fewN n (r0.map List.length) ≤ 500)), ?_⟩; with_reducible refine rangeL_rule ?_ ?_ ?_ (fun i0 (n : (Int)) hd0 hI0 => ?_) (fun i0 x0 r0 (n : (Int)) hd0 hl0 hI0 => ?_))
    | (with_reducible refine rangeL_next hd0 ?_ ?_ ?_)
    | ((with_reducible refine idx_step ?_ ?_ ?_ ?_ ?_); exact rfl; exact rfl; rotate_left; (with_reducible exact idx_drop hd0))
    | ((with_reducible refine ret_step ?_); refine ⟨[], rfl, ?_, trivial⟩; conv => whnf)
    | (with_reducible refine And.intro ?_ ?_)
    | exact @rfl AV _
    | fail)
  all_goals first
    | ((exact fewSt_start))
    | ((exact fewSt_next hI0 h))
    | ((exact congrArg D.b (fewSt_end hI0).symm))
    | ((exact congrArg D.b (fewSt_stop hI0 h).symm))
    | skip
set_option maxHeartbeats 2000000 in
theorem fewc_call (c : Cd) (g : c.Sm) : PCall Try.prog 9 [c.d] (.ret (.b (fewC c))) := by
  refine pcall_of_wc tok hmix ⟨[], []⟩ Try.func9 rfl (by kernel_rfl) (by kernel_rfl) (by kernel_rfl) fun hf => ?_
  have g1 := g.tables; have g2 := g.lines
  have hlen : c.tables.length ≤ 9223372036854775807 := by omega
  have hlen2 : c.lines.length ≤ 9223372036854775807 := by omega
  clear hf
  repeat' ((try (conv => whnf)) <;> first
    | with_reducible exact trivial
    | with_reducible exact idx_next hd2 ‹_›
    | with_reducible exact idx_next hd0 ‹_›
    | with_reducible refine br_nil_and hd2 ?_
    | with_reducible refine br_nil_and hd0 ?_
    | with_reducible refine br_cons_and hd2 ?_
    | with_reducible refine br_cons_and hd0 ?_
    | with_reducible refine BrI.intro (fun h => ?_) (fun h => ?_)
    | ((with_reducible refine LoopAt.mk 0 ?_); refine ⟨rangeL (c.tables) 4 (fun (n : (Int)) => [(3, .data (.val (.int .i64 n)))]) (fun (n : (Int)) => []) [1] (fun i0 r0 n => fewCn c = fewN n (r0.map List.length)), ?_⟩; with_reducible refine rangeL_rule ?_ ?_ ?_ (fun i0 (n : (Int)) hd0 hI0 => ?_) (fun i0 x0 r0 (n : (Int)) hd0 hl0 hI0 => ?_))
    | (with_reducible refine rangeL_next hd0 ?_ ?_ ?_)
    | ((with_reducible refine LoopAt.mk 2 ?_); refine ⟨rangeL (c.lines) 5 (fun (_ : Unit) => []) (fun (_ : Unit) => []) [1, 3] (fun i2 r2 _ => szBad n c.lines = szBad n r2), ?_⟩; with_reducible refine rangeL_rule () ?_ ?_ (fun i2 (_ : Unit) hd2 hI2 => ?_) (fun i2 x2 r2 (_ : Unit) hd2 hl2 hI2 => ?_))
    | (with_reducible refine rangeL_next hd2 () ?_ ?_)
    | ((with_reducible refine idx_step ?_ ?_ ?_ ?_ ?_); exact rfl; exact rfl; rotate_left; (first | with_reducible exact idx_drop hd2 | with_reducible exact idx_drop hd0))
    | ((with_reducible refine ret_step ?_); refine ⟨[], rfl, ?_, trivial⟩; conv => whnf)
    | (with_reducible refine And.intro ?_ ?_)
    | exact @rfl AV _
    | fail)
  all_goals first
    | ((exact fewCn_start))
    | ((exact fewCn_next hI0 h))
    | ((exact szBad_next hI2 ‹decide (n ≤ 500) = true› h))
    | ((exact congrArg D.b (fewC_bad (fewCn_end hI0) (szBad_hit hI2 ‹decide (n ≤ 500) = true› h)).symm))
    | ((exact congrArg D.b (fewC_bad (fewCn_stop hI0 ‹decide (n ≤ 500) = false›) (szBad_hit hI2 ‹decide (n ≤ 500) = true› h)).symm))
    | ((exact congrArg D.b (fewC_end (fewCn_end hI0) (szBad_end hI2)).symm))
    | ((exact congrArg D.b (fewC_end (fewCn_end hI0) (szBad_stop hI2 ‹decide (n ≤ 500) = false›)).symm))
    | ((exact congrArg D.b (fewC_end (fewCn_stop hI0 ‹decide (n ≤ 500) = false›) (szBad_end hI2)).symm))
    | ((exact congrArg D.b (fewC_end (fewCn_stop hI0 ‹decide (n ≤ 500) = false›) (szBad_stop hI2 ‹decide (n ≤ 500) = false›)).symm))
    | skip
end Go.Proofs.Ytcfpghieofhfkaa
