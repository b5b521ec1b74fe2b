/- Contracts: laws of the machine: blocks and steps. -/
import Derived.Test.YtcfpghieofhfkaaZXD
import Derived.Test.YtcfpghieofhfkaaZMC
set_option linter.unusedSimpArgs false
set_option linter.unusedVariables false
namespace Go.Proofs.Ytcfpghieofhfkaa
open Go.Fw Go.Fw.Mac
set_option maxRecDepth 10000
set_option linter.unusedSectionVars false
variable [GlobInt]
section
variable (c : Cd) (s : Sta) (ps : List (List Int)) (inn sid : List Int) (fuel : Int) (g : c.Sm) (hs : s.Sm) (hp : ps.length ≤ 1073741824) (hps : ∀ t ∈ ps, t.length ≤ 1073741824) (hi1 : inn.length ≤ 1073741824) (hi2 : sid.length ≤ 1073741824)
include g hs hp hps hi1 hi2
theorem run_n : PCall Try.prog 17 [c.d, s.d, .sl 1 (ps.map lnC), ints inn, ints sid, .i (((ps.map lnC).length : Nat) : Int), .i fuel] (.ret (runD (runM c s ps inn sid (ps.length : Int) fuel))) := by
  rw [List.length_map]; exact mrun_call c s ps inn sid (ps.length : Int) fuel g hs hp hps hi1 hi2
variable (hG : RunGood c s ps inn sid (ps.length : Int) fuel) (K : Nat) (hK : K ≤ ps.length)
include hG hK
theorem first_call : PCall Try.prog 17 [c.d, s.d, .sl 1 (cut none (some (K : Int)) (ps.map lnC)), .sl 1 (cut none (some (W ((K : Int) + c.latency))) (inn.map intC)), .sl 1 (cut none (some (W ((K : Int) + c.latency))) (sid.map intC)), .i (K : Int), .i fuel] (.ret (.tuple [ints ((List.range K).map (outAt c ps inn sid s)), (stAt c ps inn sid s K).d, .i (fuel - (K : Int) * (c.instrs.length : Int)), .i 0])) := by
  have cd := cdOk g hG.chk
  have hl := cd.lat
  have hn := hG.args.hn
  have e : W ((K : Int) + c.latency) = ((K + c.latency.toNat : Nat) : Int) := by rw [W_ok (by omega) (by omega)]; omega
  rw [blk_p, blk_i e, blk_i e]
  have r := (run_blocks g hG hK (m := K + c.latency.toNat) (by omega)).1
  have q := mrun_call c s (ps.take K) (inn.take (K + c.latency.toNat)) (sid.take (K + c.latency.toNat)) (K : Int) fuel g hs (by rw [List.length_take]; omega) (fun t ht => hps t (List.mem_of_mem_take ht)) (by rw [List.length_take]; omega) (by rw [List.length_take]; omega)
  rw [r] at q; exact q
theorem second_call : PCall Try.prog 17 [c.d, (stAt c ps inn sid s K).d, .sl 1 (cut (some (K : Int)) none (ps.map lnC)), .sl 1 (cut (some (K : Int)) none (inn.map intC)), .sl 1 (cut (some (K : Int)) none (sid.map intC)), .i (W ((((ps.map lnC).length : Nat) : Int) - (K : Int))), .i (fuel - (K : Int) * (c.instrs.length : Int))] (.ret (.tuple [ints ((List.range (ps.length - K)).map (fun i => outAt c ps inn sid s (K + i))), (stAt c ps inn sid s ps.length).d, .i (fuel - (ps.length : Int) * (c.instrs.length : Int)), .i 0])) := by
  have cd := cdOk g hG.chk
  have hl := cd.lat
  have hn := hG.args.hn
  have e : W ((((ps.map lnC).length : Nat) : Int) - (K : Int)) = (ps.length : Int) - (K : Int) := by rw [List.length_map, W_ok (by omega) (by omega)]
  rw [blk_p2, blk_i2, blk_i2, e]
  have r := (run_blocks g hG hK (m := K + c.latency.toNat) (by omega)).2
  have q := mrun_call c (stAt c ps inn sid s K) (ps.drop K) (inn.drop K) (sid.drop K) ((ps.length : Int) - (K : Int)) (fuel - (K : Int) * (c.instrs.length : Int)) g (stOk_sm cd (stAt_ok (run_ok g hG) hK)) (by rw [List.length_drop]; omega) (fun t ht => hps t (List.mem_of_mem_drop ht)) (by rw [List.length_drop]; omega) (by rw [List.length_drop]; omega)
  rw [r] at q; exact q
theorem sameB_call : PCall Try.prog 19 [ints (runM c s ps inn sid (ps.length : Int) fuel).1, .sl 1 (([] : List (List D)) ++ ((List.range K).map (outAt c ps inn sid s)).map intC ++ ((List.range (ps.length - K)).map (fun i => outAt c ps inn sid s (K + i))).map intC)] (.ret (.b true)) := by
  have e : (.sl 1 (([] : List (List D)) ++ ((List.range K).map (outAt c ps inn sid s)).map intC ++ ((List.range (ps.length - K)).map (fun i => outAt c ps inn sid s (K + i))).map intC) : D) = ints ((List.range ps.length).map (outAt c ps inn sid s)) := by
    rw [List.nil_append, ← List.map_append, ← range_parts _ hK]
  rw [e, run_good g hG]
  have q := msame_call ((List.range ps.length).map (outAt c ps inn sid s)) ((List.range ps.length).map (outAt c ps inn sid s)) (by simpa using hp) (by simpa using hp)
  rw [sameI_self] at q; exact q
omit hK
theorem sameE_call : PCall Try.prog 15 [(runM c s ps inn sid (ps.length : Int) fuel).2.1.d, (stAt c ps inn sid s ps.length).d] (.ret (.b true)) := by
  rw [run_good g hG]
  have h := stOk_sm (cdOk g hG.chk) (stAt_ok (run_ok g hG) (Nat.le_refl _))
  have q := samest_call (stAt c ps inn sid s ps.length) (stAt c ps inn sid s ps.length) h h
  rw [sameSt_self] at q; exact q
theorem sameE_call' : PCall Try.prog 15 [(stAt c ps inn sid s ps.length).d, (runM c s ps inn sid (ps.length : Int) fuel).2.1.d] (.ret (.b true)) := by
  rw [run_good g hG]
  have h := stOk_sm (cdOk g hG.chk) (stAt_ok (run_ok g hG) (Nat.le_refl _))
  have q := samest_call (stAt c ps inn sid s ps.length) (stAt c ps inn sid s ps.length) h h
  rw [sameSt_self] at q; exact q
theorem step_i (i : Nat) (hk : K = i) (hi : K < ps.length) : PCall Try.prog 13 [c.d, ints (ps.getD K []), .sl 1 (cut (some (i : Int)) (some (W (W ((i : Int) + c.latency) + 1))) (inn.map intC)), .sl 1 (cut (some (i : Int)) (some (W (W ((i : Int) + c.latency) + 1))) (sid.map intC)), (stAt c ps inn sid s K).d] (.ret (.tuple [.i (outAt c ps inn sid s K), (stAt c ps inn sid s (K + 1)).d, .i 0])) := by
  subst hk
  have cd := cdOk g hG.chk
  have hl := cd.lat
  have hn := hG.args.hn
  have e : W (W ((K : Int) + c.latency) + 1) = ((K + (c.latency.toNat + 1) : Nat) : Int) := by rw [W_ok (n := (K : Int) + c.latency) (by omega) (by omega), W_ok (by omega) (by omega)]; omega
  rw [stp_i e, stp_i e]
  have r := step_one g hG hi (m := c.latency.toNat + 1) (by omega)
  have hm : ps.getD K [] ∈ ps := by rw [List.getD_eq_getElem?_getD, List.getElem?_eq_getElem hi]; exact List.getElem_mem hi
  have q := mstep_call c (ps.getD K []) ((inn.drop K).take (c.latency.toNat + 1)) ((sid.drop K).take (c.latency.toNat + 1)) (stAt c ps inn sid s K) g (stOk_sm cd (stAt_ok (run_ok g hG) (Nat.le_of_lt hi))) (hps _ hm) (by rw [List.length_take, List.length_drop]; omega) (by rw [List.length_take, List.length_drop]; omega)
  rw [r] at q; exact q
end
set_option maxHeartbeats 4000000 in
theorem blocks_law (c : Cd) (s : Sta) (ps : List (List Int)) (inn sid : List Int) (fuel q : Int) (g : c.Sm) (hs : s.Sm) (hp : ps.length ≤ 1073741824) (hps : ∀ t ∈ ps, t.length ≤ 1073741824) (hi1 : inn.length ≤ 1073741824) (hi2 : sid.length ≤ 1073741824) (hq : 0 ≤ q ∧ q ≤ 255) : PCall Try.prog 5 [c.d, s.d, .sl 1 (ps.map lnC), ints inn, ints sid, .i fuel, .val (.int .u8 q)] (.ret (.b true)) := by
  refine pcall_of_wc tok hmix ⟨[12], []⟩ Try.func5 rfl (by kernel_rfl) (by kernel_rfl) (by kernel_rfl) fun hf => ?_
  obtain ⟨K, hKe, hK⟩ : ∃ K : Nat, K = q.toNat % (ps.length + 1) ∧ K ≤ ps.length := ⟨_, rfl, by have := Nat.mod_lt q.toNat (show 0 < ps.length + 1 by omega); omega⟩
  clear hf
  repeat' ((try (conv => whnf)) <;> first
    | ((have hF := few_in h rfl); clear h)
    | ((have hG := blk_good g h); clear h)
    | ((with_reducible refine LoopAt.mk 12 ?_); refine ⟨⟨Unit, fun _ => [(20, .data (.i (K : Int)))], fun _ => [], [2, 3, 4, 5, 7, 8, 14, 15, 16, 17, 18], fun _ => True, fun _ => 0⟩, ?_, fun _ _ => ?_⟩)
    | (refine ⟨(), trivial, ?_⟩)
    | with_reducible exact trivial
    | with_reducible refine BrI.intro (fun h => ?_) (fun h => ?_)
    | ((with_reducible refine GuardI.mk ?_ ?_); kernel_rfl)
    | (exact congrArg (fun x => AV.data (D.i x)) (blk_k hq hF.1 hKe))
    | ((with_reducible refine call_step ?_ ?_ ?_); rotate_left; (first | exact sane_call | exact few_call c s ps inn sid g hs hp | exact run_n c s ps inn sid fuel g hs hp hps hi1 hi2 | exact rcheck_call c g | exact first_call c s ps inn sid fuel g hs hp hps hi1 hi2 hG K hK | exact second_call c s ps inn sid fuel g hs hp hps hi1 hi2 hG K hK | exact sameB_call c s ps inn sid fuel g hs hp hps hi1 hi2 hG K hK | exact sameE_call c s ps inn sid fuel g hs hp hps hi1 hi2 hG))
    | (with_reducible refine ChooseI.l _ ?_)
    | ((with_reducible refine app_step' ?_ ?_ ?_ ?_ ?_ ?_ ?_); exact rfl; exact rfl; exact rfl; exact rfl)
    | ((with_reducible refine guard_step ?_ ?_ (fun hg => ?_) ?_); exact rfl)
    | ((with_reducible refine val_step ?_ ?_); with_reducible exact rfl; with_reducible exact rfl)
    | ((with_reducible refine chk_stepP ?_ ?_); kernel_rfl)
    | ((with_reducible refine ret_step ?_); refine ⟨[], rfl, ?_, trivial⟩; conv => whnf)
    | (with_reducible refine And.intro ?_ ?_)
    | exact @rfl AV _
    | exact ble_le rfl
    | fail)
  all_goals first
    | (rfl)
    | ((exact absurd h (by decide)))
    | ((exact congrArg D.b (blk_e g h)))
    | ((exact (blk_no g hG h).elim))
    | ((exact blk_d hF.1))
    | (omega)
    | ((rw [List.length_map]; omega))
    | ((exact blk_w1 g hG hK))
    | ((exact (blk_w2 g hG hK).1))
    | ((exact (blk_w2 g hG hK).2))
    | ((refine Nat.le_trans (Nat.le_of_eq (show _ = (((List.range K).map (outAt c ps inn sid s)).map intC).length from rfl)) ?_; rw [List.length_map, List.length_map, List.length_range]; omega))
    | ((rw [List.length_map]; have := blk_w g hG hK; omega))
    | ((exact congrArg D.b (blk_f g hG)))
    | ((rw [List.length_map, List.length_map, List.length_range]; omega))
    | skip
set_option maxHeartbeats 4000000 in
theorem steps_law (c : Cd) (s : Sta) (ps : List (List Int)) (inn sid : List Int) (fuel : Int) (g : c.Sm) (hs : s.Sm) (hp : ps.length ≤ 1073741824) (hps : ∀ t ∈ ps, t.length ≤ 1073741824) (hi1 : inn.length ≤ 1073741824) (hi2 : sid.length ≤ 1073741824) : PCall Try.prog 6 [c.d, s.d, .sl 1 (ps.map lnC), ints inn, ints sid, .i fuel] (.ret (.b true)) := by
  refine pcall_of_wc tok hmix ⟨[11], []⟩ Try.func6 rfl (by kernel_rfl) (by kernel_rfl) (by kernel_rfl) fun hf => ?_
  have hlen : ps.length ≤ 9223372036854775807 := by omega
  clear hf
  repeat' ((try (conv => whnf)) <;> first
    | ((have hF := few_in h rfl); clear h)
    | ((have hG := blk_good g h); clear h)
    | ((with_reducible refine LoopAt.mk 11 ?_); refine ⟨⟨Unit, fun _ => [(14, .data (ints ((List.range ps.length).map (outAt c ps inn sid s))))], fun _ => [], [2, 3, 4, 5, 6, 7, 12, 13, 15, 16, 17], fun _ => True, fun _ => 0⟩, ?_, fun _ _ => ?_⟩)
    | (refine ⟨(), trivial, ?_⟩)
    | (have hx := run_x hd0 hI0; subst hx)
    | (have hq := steps_end hd0 hI0; subst hq)
    | with_reducible exact trivial
    | with_reducible exact idx_next hd0 ‹_›
    | with_reducible refine br_nil hd0 ?_
    | with_reducible refine br_cons hd0 ?_
    | with_reducible refine BrI.intro (fun h => ?_) (fun h => ?_)
    | (exact blk_out g hG)
    | ((with_reducible refine idx_step ?_ ?_ ?_ ?_ ?_); exact rfl; exact rfl; rotate_left; exact (out_at hl0))
    | ((with_reducible refine LoopAt.mk 0 ?_); refine ⟨rangeL (ps) 111 (fun (k : (Nat)) => []) (fun (k : (Nat)) => [(7, .cells [.data (ints (stAt c ps inn sid s k).values), .data (.sl 1 ((stAt c ps inn sid s k).lines.map lnC))])]) [2, 3, 4, 6, 7, 14, 15, 110] (fun i0 r0 k => k = i0 ∧ k ≤ ps.length), ?_⟩; with_reducible refine rangeL_rule (0) ?_ ?_ (fun i0 (k : (Nat)) hd0 hI0 => ?_) (fun i0 x0 r0 (k : (Nat)) hd0 hl0 hI0 => ?_))
    | (with_reducible refine rangeL_next hd0 (k + 1) ?_ ?_)
    | ((with_reducible refine call_step ?_ ?_ ?_); rotate_left; (first | exact sane_call | exact few_call c s ps inn sid g hs hp | exact run_n c s ps inn sid fuel g hs hp hps hi1 hi2 | exact rcheck_call c g | exact step_i c s ps inn sid fuel g hs hp hps hi1 hi2 hG k i0 hI0.1 (steps_lt hd0 hI0.1) | exact sameE_call' c s ps inn sid fuel g hs hp hps hi1 hi2 hG))
    | ((with_reducible refine idx_step ?_ ?_ ?_ ?_ ?_); exact rfl; exact rfl; rotate_left; (with_reducible exact idx_drop hd0))
    | ((with_reducible refine guard_step ?_ ?_ (fun hg => ?_) ?_); exact rfl)
    | ((with_reducible refine val_step ?_ ?_); with_reducible exact rfl; with_reducible exact rfl)
    | ((with_reducible refine chk_stepP ?_ ?_); kernel_rfl)
    | ((with_reducible refine ret_step ?_); refine ⟨[], rfl, ?_, trivial⟩; conv => whnf)
    | (with_reducible refine And.intro ?_ ?_)
    | exact @rfl AV _
    | exact ble_le rfl
    | fail)
  all_goals first
    | (rfl)
    | ((exact absurd h (by decide)))
    | ((exact congrArg D.b (stp_e g hF h)))
    | ((exact (stp_no g hG h).elim))
    | ((exact (stp_x (outAt_ok (run_ok g hG) (steps_lt hd0 hI0.1)) hI0.1 h).elim))
    | (omega)
    | ((exact (stp_w1 g hG hI0 hl0).1))
    | ((exact (stp_w1 g hG hI0 hl0).2.1))
    | ((exact (stp_w1 g hG hI0 hl0).2.2))
    | skip
end Go.Proofs.Ytcfpghieofhfkaa
