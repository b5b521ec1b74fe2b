/- Contracts: the specification of the machine: states, comparing, sizes. -/
import Derived.Test.YtcfpghieofhfkaaZMS10
import Derived.Test.YtcfpghieofhfkaaZMC
set_option linter.unusedSimpArgs false
set_option linter.unusedVariables false
namespace Go.Proofs.Ytcfpghieofhfkaa
open Go.Fw Go.Fw.Mac
set_option maxRecDepth 10000
set_option linter.unusedSectionVars false
variable [GlobInt]
theorem rcheck_call (c : Cd) (g : c.Sm) : PCall Try.prog 20 [c.d] (.ret (.i (okE (checkP c)))) := by
  rw [← check_eq]
  unfold checkR
  cases hd : decR c with
  | false => exact checkR_bad c g hd
  | true => exact checkR_ok c _ g hd rfl
set_option maxHeartbeats 400000 in
theorem msame_call (a b : List Int) (ha : a.length ≤ 1073741824) (hb : b.length ≤ 1073741824) : PCall Try.prog 19 [ints a, ints b] (.ret (.b (sameI a b))) := by
  refine pcall_of_wc tok hmix ⟨[], []⟩ Try.func19 rfl (by kernel_rfl) (by kernel_rfl) (by kernel_rfl) fun hf => ?_
  clear hf
  repeat' ((try (conv => whnf)) <;> first
    | with_reducible exact trivial
    | with_reducible exact idx_next hd0 ‹_›
    | ((with_reducible refine br_nil_k hd0 ?_ ?_); (assumption))
    | ((with_reducible refine br_cons_k hd0 ?_ ?_); (assumption))
    | with_reducible refine BrI.intro (fun h => ?_) (fun h => ?_)
    | ((with_reducible refine LoopAt.mk 0 ?_); have heq : a.length = b.length := len_ne (by simpa only [List.length_map] using h); have hz : (a.zip b).length = (a.map intC).length := (by rw [List.length_map]; exact zip_len heq); have hlen : (a.zip b).length ≤ 9223372036854775807 := (by rw [hz, List.length_map]; omega); refine ⟨rangeL (a.zip b) 5 (fun (_ : Unit) => []) (fun (_ : Unit) => []) [0, 1] (fun i0 r0 _ => sameZ (a.zip b) = sameZ r0), ?_⟩; with_reducible refine rangeL_rule () ?_ ?_ (fun i0 (_ : Unit) hd0 hI0 => ?_) (fun i0 x0 r0 (_ : Unit) hd0 hl0 hI0 => ?_))
    | (with_reducible refine rangeL_next hd0 () ?_ ?_)
    | ((with_reducible refine idx_step ?_ ?_ ?_ ?_ ?_); exact rfl; exact rfl; rotate_left; (first | with_reducible exact idx_zip1 hd0 | with_reducible exact idx_zip2 hd0))
    | ((with_reducible refine chk_stepP ?_ ?_); kernel_rfl)
    | ((with_reducible refine ret_step ?_); refine ⟨[], rfl, ?_, trivial⟩; conv => whnf)
    | (with_reducible refine And.intro ?_ ?_)
    | exact @rfl AV _
    | fail)
  all_goals first
    | ((exact sameZ_next hI0 h))
    | ((exact congrArg D.b (sameI_len (by simpa only [List.length_map] using h)).symm))
    | ((exact congrArg D.b (sameI_no heq hI0 h).symm))
    | ((exact congrArg D.b (sameI_yes heq hI0).symm))
    | skip
set_option maxHeartbeats 400000 in
theorem samest_call (a b : Sta) (ha : a.Sm) (hb : b.Sm) : PCall Try.prog 15 [a.d, b.d] (.ret (.b (sameSt a b))) := by
  refine pcall_of_wc tok hmix ⟨[], []⟩ Try.func15 rfl (by kernel_rfl) (by kernel_rfl) (by kernel_rfl) fun hf => ?_
  have h1 := ha.values; have h2 := hb.values; have h3 := ha.lines; have h4 := hb.lines; have h5 := ha.line; have h6 := hb.line
  clear hf
  repeat' ((try (conv => whnf)) <;> first
    | with_reducible exact trivial
    | with_reducible exact idx_next hd0 ‹_›
    | ((with_reducible refine br_nil_k hd0 ?_ ?_); (assumption))
    | ((with_reducible refine br_cons_k hd0 ?_ ?_); (assumption))
    | with_reducible refine BrI.intro (fun h => ?_) (fun h => ?_)
    | ((with_reducible refine LoopAt.mk 0 ?_); have heq := sameSt_len (by simpa only [List.length_map] using h); have hz : (a.lines.zip b.lines).length = (a.lines.map lnC).length := (by rw [List.length_map]; exact zip_len heq.2); have hlen : (a.lines.zip b.lines).length ≤ 9223372036854775807 := (by rw [hz, List.length_map]; omega); refine ⟨rangeL (a.lines.zip b.lines) 5 (fun (_ : Unit) => []) (fun (_ : Unit) => []) [2, 3] (fun i0 r0 _ => sameL (a.lines.zip b.lines) = sameL r0), ?_⟩; with_reducible refine rangeL_rule () ?_ ?_ (fun i0 (_ : Unit) hd0 hI0 => ?_) (fun i0 x0 r0 (_ : Unit) hd0 hl0 hI0 => ?_))
    | (with_reducible refine rangeL_next hd0 () ?_ ?_)
    | ((with_reducible refine call_step ?_ ?_ ?_); rotate_left; (first | exact msame_call a.values b.values (by omega) (by omega) | exact msame_call x0.1 x0.2 (by have := h5 _ (List.of_mem_zip (drop_mem hd0)).1; omega) (by have := h6 _ (List.of_mem_zip (drop_mem hd0)).2; omega)))
    | ((with_reducible refine idx_step ?_ ?_ ?_ ?_ ?_); exact rfl; exact rfl; rotate_left; (first | with_reducible exact idx_zip1 hd0 | with_reducible exact idx_zip2 hd0))
    | ((with_reducible refine chk_stepP ?_ ?_); kernel_rfl)
    | ((with_reducible refine ret_step ?_); refine ⟨[], rfl, ?_, trivial⟩; conv => whnf)
    | (with_reducible refine And.intro ?_ ?_)
    | exact @rfl AV _
    | fail)
  all_goals first
    | ((exact sameL_next hI0 h))
    | ((exact congrArg D.b (sameSt_no (by simpa only [List.length_map] using h)).symm))
    | ((exact congrArg D.b (sameSt_bad heq hI0 h).symm))
    | ((exact congrArg D.b (sameSt_yes heq hI0).symm))
    | skip
set_option maxHeartbeats 400000 in
theorem fewst_call (s : Sta) (hs : s.Sm) : PCall Try.prog 10 [s.d] (.ret (.b (fewSt s))) := by
  refine pcall_of_wc tok hmix ⟨[], []⟩ Try.func10 rfl (by kernel_rfl) (by kernel_rfl) (by kernel_rfl) fun hf => ?_
  have hlen : s.lines.length ≤ 9223372036854775807 := by have := hs.lines; omega
  clear hf
  repeat' ((try (conv => whnf)) <;> first
    | with_reducible exact trivial
    | with_reducible exact idx_next hd0 ‹_›
    | with_reducible refine br_nil_and hd0 ?_
    | with_reducible refine br_cons_and hd0 ?_
    | with_reducible refine BrI.intro (fun h => ?_) (fun h => ?_)
    | ((with_reducible refine LoopAt.mk 0 ?_); refine ⟨rangeL (s.lines) 4 (fun (n : (Int)) => [(3, .data (.val (.int .i64 n)))]) (fun (n : (Int)) => []) [1] (fun i0 r0 n => fewSt s = decide (fewN n (r0.map List.length) ≤ 500)), ?_⟩; with_reducible refine rangeL_rule ?_ ?_ ?_ (fun i0 (n : (Int)) hd0 hI0 => ?_) (fun i0 x0 r0 (n : (Int)) hd0 hl0 hI0 => ?_))
    | (with_reducible refine rangeL_next hd0 ?_ ?_ ?_)
    | ((with_reducible refine idx_step ?_ ?_ ?_ ?_ ?_); exact rfl; exact rfl; rotate_left; (with_reducible exact idx_drop hd0))
    | ((with_reducible refine ret_step ?_); refine ⟨[], rfl, ?_, trivial⟩; conv => whnf)
    | (with_reducible refine And.intro ?_ ?_)
    | exact @rfl AV _
    | fail)
  all_goals first
    | ((exact fewSt_start))
    | ((exact fewSt_next hI0 h))
    | ((exact congrArg D.b (fewSt_end hI0).symm))
    | ((exact congrArg D.b (fewSt_stop hI0 h).symm))
    | skip
set_option maxHeartbeats 2000000 in
theorem fewc_call (c : Cd) (g : c.Sm) : PCall Try.prog 9 [c.d] (.ret (.b (fewC c))) := by
  refine pcall_of_wc tok hmix ⟨[], []⟩ Try.func9 rfl (by kernel_rfl) (by kernel_rfl) (by kernel_rfl) fun hf => ?_
  have g1 := g.tables; have g2 := g.lines
  have hlen : c.tables.length ≤ 9223372036854775807 := by omega
  have hlen2 : c.lines.length ≤ 9223372036854775807 := by omega
  clear hf
  repeat' ((try (conv => whnf)) <;> first
    | with_reducible exact trivial
    | with_reducible exact idx_next hd2 ‹_›
    | with_reducible exact idx_next hd0 ‹_›
    | with_reducible refine br_nil_and hd2 ?_
    | with_reducible refine br_nil_and hd0 ?_
    | with_reducible refine br_cons_and hd2 ?_
    | with_reducible refine br_cons_and hd0 ?_
    | with_reducible refine BrI.intro (fun h => ?_) (fun h => ?_)
    | ((with_reducible refine LoopAt.mk 0 ?_); refine ⟨rangeL (c.tables) 4 (fun (n : (Int)) => [(3, .data (.val (.int .i64 n)))]) (fun (n : (Int)) => []) [1] (fun i0 r0 n => fewCn c = fewN n (r0.map List.length)), ?_⟩; with_reducible refine rangeL_rule ?_ ?_ ?_ (fun i0 (n : (Int)) hd0 hI0 => ?_) (fun i0 x0 r0 (n : (Int)) hd0 hl0 hI0 => ?_))
    | (with_reducible refine rangeL_next hd0 ?_ ?_ ?_)
    | ((with_reducible refine LoopAt.mk 2 ?_); refine ⟨rangeL (c.lines) 5 (fun (_ : Unit) => []) (fun (_ : Unit) => []) [1, 3] (fun i2 r2 _ => szBad n c.lines = szBad n r2), ?_⟩; with_reducible refine rangeL_rule () ?_ ?_ (fun i2 (_ : Unit) hd2 hI2 => ?_) (fun i2 x2 r2 (_ : Unit) hd2 hl2 hI2 => ?_))
    | (with_reducible refine rangeL_next hd2 () ?_ ?_)
    | ((with_reducible refine idx_step ?_ ?_ ?_ ?_ ?_); exact rfl; exact rfl; rotate_left; (first | with_reducible exact idx_drop hd2 | with_reducible exact idx_drop hd0))
    | ((with_reducible refine ret_step ?_); refine ⟨[], rfl, ?_, trivial⟩; conv => whnf)
    | (with_reducible refine And.intro ?_ ?_)
    | exact @rfl AV _
    | fail)
  all_goals first
    | ((exact fewCn_start))
    | ((exact fewCn_next hI0 h))
    | ((exact szBad_next hI2 ‹decide (n ≤ 500) = true› h))
    | ((exact congrArg D.b (fewC_bad (fewCn_end hI0) (szBad_hit hI2 ‹decide (n ≤ 500) = true› h)).symm))
    | ((exact congrArg D.b (fewC_bad (fewCn_stop hI0 ‹decide (n ≤ 500) = false›) (szBad_hit hI2 ‹decide (n ≤ 500) = true› h)).symm))
    | ((exact congrArg D.b (fewC_end (fewCn_end hI0) (szBad_end hI2)).symm))
    | ((exact congrArg D.b (fewC_end (fewCn_end hI0) (szBad_stop hI2 ‹decide (n ≤ 500) = false›)).symm))
    | ((exact congrArg D.b (fewC_end (fewCn_stop hI0 ‹decide (n ≤ 500) = false›) (szBad_end hI2)).symm))
    | ((exact congrArg D.b (fewC_end (fewCn_stop hI0 ‹decide (n ≤ 500) = false›) (szBad_stop hI2 ‹decide (n ≤ 500) = false›)).symm))
    | skip
end Go.Proofs.Ytcfpghieofhfkaa
