/- Contracts: what the machine checks of its arguments. -/
import Derived.Test.YtcfpghieofhfkaaZXB
import Derived.Test.YtcfpghieofhfkaaZMA
set_option linter.unusedSimpArgs false
set_option linter.unusedVariables false
namespace Go.Proofs.Ytcfpghieofhfkaa
open Go.Fw Go.Fw.Mac
set_option maxRecDepth 10000
set_option linter.unusedSectionVars false
variable [GlobInt]
set_option maxHeartbeats 400000 in
theorem smp1_call (x : Int)  : PCall Try.prog 45 [.i x] (.ret (.b (x != clipM x))) := by
  refine pcall_of_wc tok hmix ⟨[], []⟩ Try.func45 rfl (by kernel_rfl) (by kernel_rfl) (by kernel_rfl) fun hf => ?_
  clear hf
  repeat' ((try (conv => whnf)) <;> first
    | ((with_reducible refine call_step ?_ ?_ ?_); rotate_left; (exact clip_call _))
    | ((with_reducible refine ret_step ?_); refine ⟨[], rfl, ?_, trivial⟩; conv => whnf)
    | fail)
  all_goals first
    | skip
set_option maxHeartbeats 400000 in
theorem indexS_call (l : List Int) (hl : l.length ≤ 1073741824) : PCall Try.prog 63 [ints l, .fn 45 []] (.ret (.i (firstS l 0))) := by
  refine pcall_of_wc tok hmix ⟨[], []⟩ Try.func63 rfl (by kernel_rfl) (by kernel_rfl) (by kernel_rfl) fun hf => ?_
  have hlen : l.length ≤ 9223372036854775807 := by omega
  clear hf
  repeat' ((try (conv => whnf)) <;> first
    | with_reducible exact trivial
    | with_reducible exact idx_next hd0 ‹_›
    | with_reducible refine br_nil hd0 ?_
    | with_reducible refine br_cons hd0 ?_
    | with_reducible refine BrI.intro (fun h => ?_) (fun h => ?_)
    | ((with_reducible refine LoopAt.mk 0 ?_); refine ⟨rangeL (l) 8 (fun (_ : Unit) => []) (fun (_ : Unit) => []) [0, 1, 7] (fun i0 r0 _ => firstS l 0 = firstS r0 i0), ?_⟩; with_reducible refine rangeL_rule () ?_ ?_ (fun i0 (_ : Unit) hd0 hI0 => ?_) (fun i0 x0 r0 (_ : Unit) hd0 hl0 hI0 => ?_))
    | (with_reducible refine rangeL_next hd0 () ?_ ?_)
    | ((with_reducible refine call_step ?_ ?_ ?_); rotate_left; (exact smp1_call _))
    | ((with_reducible refine idx_step ?_ ?_ ?_ ?_ ?_); exact rfl; exact rfl; rotate_left; (with_reducible exact idx_drop hd0))
    | ((with_reducible refine ret_step ?_); refine ⟨[], rfl, ?_, trivial⟩; conv => whnf)
    | (with_reducible refine And.intro ?_ ?_)
    | exact @rfl AV _
    | fail)
  all_goals first
    | (rfl)
    | ((exact firstS_next hI0 h))
    | ((exact congrArg D.i (firstS_hit hI0 h).symm))
    | ((exact congrArg D.i hI0.symm))
    | skip
set_option maxHeartbeats 400000 in
theorem containsS_call (l : List Int) (hl : l.length ≤ 1073741824) : PCall Try.prog 44 [ints l, .fn 45 []] (.ret (.b (decide (firstS l 0 ≥ 0)))) := by
  refine pcall_of_wc tok hmix ⟨[], []⟩ Try.func44 rfl (by kernel_rfl) (by kernel_rfl) (by kernel_rfl) fun hf => ?_
  clear hf
  repeat' ((try (conv => whnf)) <;> first
    | ((with_reducible refine call_step ?_ ?_ ?_); rotate_left; (exact indexS_call l hl))
    | ((with_reducible refine ret_step ?_); refine ⟨[], rfl, ?_, trivial⟩; conv => whnf)
    | fail)
  all_goals first
    | skip
set_option maxHeartbeats 400000 in
theorem samples_call (c : Cd) (l : List Int) (n : Int) (hl : l.length ≤ 1073741824) : PCall Try.prog 29 [c.d, ints l, .i n] (.ret (.b (samplesM c l n))) := by
  refine pcall_of_wc tok hmix ⟨[], []⟩ Try.func29 rfl (by kernel_rfl) (by kernel_rfl) (by kernel_rfl) fun hf => ?_
  clear hf
  repeat' ((try (conv => whnf)) <;> first
    | ((with_reducible refine call_step ?_ ?_ ?_); rotate_left; (exact containsS_call l hl))
    | ((with_reducible refine guard_step ?_ ?_ (fun hg => ?_) ?_); exact rfl)
    | ((with_reducible refine val_step ?_ ?_); with_reducible exact rfl; with_reducible exact rfl)
    | ((with_reducible refine ret_step ?_); refine ⟨[], rfl, ?_, trivial⟩; conv => whnf)
    | fail)
  all_goals first
    | ((simp only [samplesM, List.length_map]; done))
    | skip
set_option maxHeartbeats 400000 in
theorem controls_call (c : Cd) (l : List Int) (g : c.Sm) (hl : l.length ≤ 1073741824) : PCall Try.prog 32 [c.d, ints l] (.ret (.b (controlsM c l))) := by
  refine pcall_of_wc tok hmix ⟨[], []⟩ Try.func32 rfl (by kernel_rfl) (by kernel_rfl) (by kernel_rfl) fun hf => ?_
  clear hf
  repeat' ((try (conv => whnf)) <;> first
    | with_reducible exact trivial
    | with_reducible exact idx_next hd0 ‹_›
    | ((with_reducible refine br_nil_k hd0 ?_ ?_); (assumption))
    | ((with_reducible refine br_cons_k hd0 ?_ ?_); (assumption))
    | with_reducible refine BrI.intro (fun h => ?_) (fun h => ?_)
    | ((with_reducible refine LoopAt.mk 0 ?_); have heq : l.length = c.params.length := len_ne (by simpa only [List.length_map] using h); have hz : (l.zip c.params).length = (l.map intC).length := (by rw [List.length_map]; exact zip_len heq); have hlen : (l.zip c.params).length ≤ 9223372036854775807 := (by rw [hz, List.length_map]; omega); refine ⟨rangeL (l.zip c.params) 15 (fun (_ : Unit) => []) (fun (_ : Unit) => []) [2, 13, 14] (fun i0 r0 _ => ctlZ (l.zip c.params) = ctlZ r0), ?_⟩; with_reducible refine rangeL_rule () ?_ ?_ (fun i0 (_ : Unit) hd0 hI0 => ?_) (fun i0 x0 r0 (_ : Unit) hd0 hl0 hI0 => ?_))
    | (with_reducible refine rangeL_next hd0 () ?_ ?_)
    | ((with_reducible refine call_step ?_ ?_ ?_); rotate_left; (exact held_call _ _ _))
    | ((with_reducible refine idx_step ?_ ?_ ?_ ?_ ?_); exact rfl; exact rfl; rotate_left; (first | with_reducible exact idx_zip1 hd0 | with_reducible exact idx_zip2 hd0))
    | ((with_reducible refine chk_stepP ?_ ?_); kernel_rfl)
    | ((with_reducible refine ret_step ?_); refine ⟨[], rfl, ?_, trivial⟩; conv => whnf)
    | (with_reducible refine And.intro ?_ ?_)
    | exact @rfl AV _
    | fail)
  all_goals first
    | ((exact ctl_next hI0 h))
    | ((exact congrArg D.b (ctlM_no (by simpa only [List.length_map] using h)).symm))
    | ((refine congrArg D.b (Eq.trans (ctlM_yes (by rw [heq]; simp)) (ctl_bad hI0 h)).symm))
    | ((refine congrArg D.b (Eq.trans (ctlM_yes (by rw [heq]; simp)) hI0).symm))
    | skip
set_option maxHeartbeats 400000 in
theorem run1_call (c : Cd) (l : List Int) (g : c.Sm) (hl : l.length ≤ 1073741824) : LCall Try.prog 31 [.data (ints l), .ptr 1000000 0] [(1000000, .cells (c.cs.map .data))] (.ret (.data (.b (!(controlsM c l))))) [(1000000, .cells (c.cs.map .data))] := by
  refine lcall_of_wc tok hmix ⟨[], []⟩ Try.func31 rfl (by kernel_rfl) (by kernel_rfl) (by kernel_rfl) fun hf => ?_
  clear hf
  repeat' ((try (conv => whnf)) <;> first
    | with_reducible exact trivial
    | ((with_reducible refine call_step ?_ ?_ ?_); rotate_left; (exact controls_call c l g hl))
    | ((with_reducible refine ret_step ?_); refine fin_step' [] rfl ?_ ?_)
    | (with_reducible refine And.intro ?_ ?_)
    | fail)
  all_goals first
    | skip
set_option maxHeartbeats 400000 in
theorem indexC_call (c : Cd) (l : List (List Int)) (g : c.Sm) (hl : l.length ≤ 1073741824) (hs : ∀ t ∈ l, t.length ≤ 1073741824) : LCall Try.prog 47 [.data (.sl 1 (l.map lnC)), .fn 31 [.ptr 1000000 0]] [(1000000, .cells (c.cs.map .data))] (.ret (.data (.i (firstC c l 0)))) [(1000000, .cells (c.cs.map .data))] := by
  refine lcall_of_wc tok hmix ⟨[], []⟩ Try.func47 rfl (by kernel_rfl) (by kernel_rfl) (by kernel_rfl) fun hf => ?_
  have hlen : l.length ≤ 9223372036854775807 := by omega
  clear hf
  repeat' ((try (conv => whnf)) <;> first
    | with_reducible exact trivial
    | with_reducible exact idx_next hd0 ‹_›
    | with_reducible refine br_nil hd0 ?_
    | with_reducible refine br_cons hd0 ?_
    | with_reducible refine BrI.intro (fun h => ?_) (fun h => ?_)
    | ((with_reducible refine LoopAt.mk 0 ?_); refine ⟨rangeL (l) 8 (fun (_ : Unit) => []) (fun (_ : Unit) => [(1000000, .cells (c.cs.map .data))]) [0, 1, 7] (fun i0 r0 _ => firstC c l 0 = firstC c r0 i0), ?_⟩; with_reducible refine rangeL_rule () ?_ ?_ (fun i0 (_ : Unit) hd0 hI0 => ?_) (fun i0 x0 r0 (_ : Unit) hd0 hl0 hI0 => ?_))
    | (with_reducible refine rangeL_next hd0 () ?_ ?_)
    | ((with_reducible refine lent_step' [] (run1_call c x0 g (hs _ (drop_mem hd0))) ?_ ?_ ?_ ?_); rotate_left 0; exact rfl; (exact ⟨rfl, trivial⟩); exact rfl)
    | ((with_reducible refine ret_step ?_); refine fin_step' [] rfl ?_ ?_)
    | ((with_reducible refine idx_step ?_ ?_ ?_ ?_ ?_); exact rfl; exact rfl; rotate_left; (with_reducible exact idx_drop hd0))
    | (with_reducible refine And.intro ?_ ?_)
    | exact @rfl AV _
    | exact @rfl (List AV) _
    | fail)
  all_goals first
    | (rfl)
    | ((exact firstC_next hI0 h))
    | ((exact congrArg D.i (firstC_hit hI0 h).symm))
    | ((exact congrArg D.i hI0.symm))
    | skip
set_option maxHeartbeats 400000 in
theorem containsC_call (c : Cd) (l : List (List Int)) (g : c.Sm) (hl : l.length ≤ 1073741824) (hs : ∀ t ∈ l, t.length ≤ 1073741824) : LCall Try.prog 30 [.data (.sl 1 (l.map lnC)), .fn 31 [.ptr 1000000 0]] [(1000000, .cells (c.cs.map .data))] (.ret (.data (.b (decide (firstC c l 0 ≥ 0))))) [(1000000, .cells (c.cs.map .data))] := by
  refine lcall_of_wc tok hmix ⟨[], []⟩ Try.func30 rfl (by kernel_rfl) (by kernel_rfl) (by kernel_rfl) fun hf => ?_
  clear hf
  repeat' ((try (conv => whnf)) <;> first
    | with_reducible exact trivial
    | ((with_reducible refine lent_step' [] (indexC_call c l g hl hs) ?_ ?_ ?_ ?_); rotate_left 0; exact rfl; (exact ⟨rfl, trivial⟩); exact rfl)
    | ((with_reducible refine ret_step ?_); refine fin_step' [] rfl ?_ ?_)
    | (with_reducible refine And.intro ?_ ?_)
    | fail)
  all_goals first
    | skip
set_option maxHeartbeats 400000 in
theorem state1_call (x : Ln) (v : Int)  : LCall Try.prog 48 [.data (.i v), .ptr 1000000 0] [(1000000, .cells (x.cs.map .data))] (.ret (.data (.b (badV x v)))) [(1000000, .cells (x.cs.map .data))] := by
  refine lcall_of_wc tok hmix ⟨[], []⟩ Try.func48 rfl (by kernel_rfl) (by kernel_rfl) (by kernel_rfl) fun hf => ?_
  clear hf
  repeat' ((try (conv => whnf)) <;> first
    | with_reducible exact trivial
    | ((with_reducible refine call_step ?_ ?_ ?_); rotate_left; (exact held_call _ _ _))
    | ((with_reducible refine ret_step ?_); refine fin_step' [] rfl ?_ ?_)
    | ((with_reducible refine guard_step ?_ ?_ (fun hg => ?_) ?_); exact rfl)
    | ((with_reducible refine val_step ?_ ?_); with_reducible exact rfl; with_reducible exact rfl)
    | (with_reducible refine And.intro ?_ ?_)
    | fail)
  all_goals first
    | (rfl)
    | skip
set_option maxHeartbeats 400000 in
theorem indexL_call (x : Ln) (l : List Int) (hl : l.length ≤ 1073741824) : LCall Try.prog 63 [.data (ints l), .fn 48 [.ptr 1000000 0]] [(1000000, .cells (x.cs.map .data))] (.ret (.data (.i (firstL x l 0)))) [(1000000, .cells (x.cs.map .data))] := by
  refine lcall_of_wc tok hmix ⟨[], []⟩ Try.func63 rfl (by kernel_rfl) (by kernel_rfl) (by kernel_rfl) fun hf => ?_
  have hlen : l.length ≤ 9223372036854775807 := by omega
  clear hf
  repeat' ((try (conv => whnf)) <;> first
    | with_reducible exact trivial
    | with_reducible exact idx_next hd0 ‹_›
    | with_reducible refine br_nil hd0 ?_
    | with_reducible refine br_cons hd0 ?_
    | with_reducible refine BrI.intro (fun h => ?_) (fun h => ?_)
    | ((with_reducible refine LoopAt.mk 0 ?_); refine ⟨rangeL (l) 8 (fun (_ : Unit) => []) (fun (_ : Unit) => [(1000000, .cells (x.cs.map .data))]) [0, 1, 7] (fun i0 r0 _ => firstL x l 0 = firstL x r0 i0), ?_⟩; with_reducible refine rangeL_rule () ?_ ?_ (fun i0 (_ : Unit) hd0 hI0 => ?_) (fun i0 x0 r0 (_ : Unit) hd0 hl0 hI0 => ?_))
    | (with_reducible refine rangeL_next hd0 () ?_ ?_)
    | ((with_reducible refine lent_step' [] (state1_call x x0) ?_ ?_ ?_ ?_); rotate_left 0; exact rfl; (exact ⟨rfl, trivial⟩); exact rfl)
    | ((with_reducible refine ret_step ?_); refine fin_step' [] rfl ?_ ?_)
    | ((with_reducible refine idx_step ?_ ?_ ?_ ?_ ?_); exact rfl; exact rfl; rotate_left; (with_reducible exact idx_drop hd0))
    | (with_reducible refine And.intro ?_ ?_)
    | exact @rfl AV _
    | exact @rfl (List AV) _
    | fail)
  all_goals first
    | (rfl)
    | ((exact firstL_next hI0 h))
    | ((exact congrArg D.i (firstL_hit hI0 h).symm))
    | ((exact congrArg D.i hI0.symm))
    | skip
set_option maxHeartbeats 400000 in
theorem containsL_call (x : Ln) (l : List Int) (hl : l.length ≤ 1073741824) : LCall Try.prog 44 [.data (ints l), .fn 48 [.ptr 1000000 0]] [(1000000, .cells (x.cs.map .data))] (.ret (.data (.b (decide (firstL x l 0 ≥ 0))))) [(1000000, .cells (x.cs.map .data))] := by
  refine lcall_of_wc tok hmix ⟨[], []⟩ Try.func44 rfl (by kernel_rfl) (by kernel_rfl) (by kernel_rfl) fun hf => ?_
  clear hf
  repeat' ((try (conv => whnf)) <;> first
    | with_reducible exact trivial
    | ((with_reducible refine lent_step' [] (indexL_call x l hl) ?_ ?_ ?_ ?_); rotate_left 0; exact rfl; (exact ⟨rfl, trivial⟩); exact rfl)
    | ((with_reducible refine ret_step ?_); refine fin_step' [] rfl ?_ ?_)
    | (with_reducible refine And.intro ?_ ?_)
    | fail)
  all_goals first
    | skip
set_option maxHeartbeats 2000000 in
theorem state_call (c : Cd) (s : Sta) (g : c.Sm) (hs : s.Sm) : PCall Try.prog 33 [c.d, s.d] (.ret (.b (stateM c s))) := by
  refine pcall_of_wc tok hmix ⟨[], []⟩ Try.func33 rfl (by kernel_rfl) (by kernel_rfl) (by kernel_rfl) fun hf => ?_
  have g2 := g.states; have g3 := g.lines; have g7 := hs.line
  clear hf
  repeat' ((try (conv => whnf)) <;> first
    | with_reducible exact trivial
    | with_reducible exact idx_next hd2 ‹_›
    | with_reducible exact idx_next hd0 ‹_›
    | ((with_reducible refine br_nil_k hd2 ?_ ?_); (assumption))
    | ((with_reducible refine br_nil_k hd0 ?_ ?_); (assumption))
    | ((with_reducible refine br_cons_k hd2 ?_ ?_); (assumption))
    | ((with_reducible refine br_cons_k hd0 ?_ ?_); (assumption))
    | with_reducible refine BrI.intro (fun h => ?_) (fun h => ?_)
    | ((with_reducible refine LoopAt.mk 0 ?_); have heq : s.values.length = c.states.length ∧ s.lines.length = c.lines.length := len_ne2 (by simpa only [List.length_map] using h); have hz : (s.values.zip c.states).length = (s.values.map intC).length := (by rw [List.length_map]; exact zip_len heq.1); have hlen : (s.values.zip c.states).length ≤ 9223372036854775807 := (by rw [hz, List.length_map]; omega); refine ⟨rangeL (s.values.zip c.states) 29 (fun (_ : Unit) => []) (fun (_ : Unit) => []) [2, 3, 27, 28] (fun i0 r0 _ => ctlZ (s.values.zip c.states) = ctlZ r0), ?_⟩; with_reducible refine rangeL_rule () ?_ ?_ (fun i0 (_ : Unit) hd0 hI0 => ?_) (fun i0 x0 r0 (_ : Unit) hd0 hl0 hI0 => ?_))
    | (with_reducible refine rangeL_next hd0 () ?_ ?_)
    | ((with_reducible refine LoopAt.mk 2 ?_); have hz2 : (s.lines.zip c.lines).length = (s.lines.map lnC).length := (by rw [List.length_map]; exact zip_len heq.2); have hlen2 : (s.lines.zip c.lines).length ≤ 9223372036854775807 := (by rw [hz2, List.length_map]; omega); refine ⟨rangeL (s.lines.zip c.lines) 54 (fun (_ : Unit) => []) (fun (_ : Unit) => []) [2, 52, 53] (fun i2 r2 _ => linZ (s.lines.zip c.lines) = linZ r2), ?_⟩; with_reducible refine rangeL_rule () ?_ ?_ (fun i2 (_ : Unit) hd2 hI2 => ?_) (fun i2 x2 r2 (_ : Unit) hd2 hl2 hI2 => ?_))
    | (with_reducible refine rangeL_next hd2 () ?_ ?_)
    | ((with_reducible refine call_step ?_ ?_ ?_); rotate_left; (exact held_call _ _ _))
    | ((with_reducible refine lent_step' [(1000000, 9)] (containsL_call x2.2 x2.1 (by have := g7 _ (List.of_mem_zip (drop_mem hd2)).1; omega)) ?_ ?_ ?_ ?_); rotate_left 0; exact rfl; (exact ⟨rfl, trivial⟩); exact rfl)
    | ((with_reducible refine idx_step ?_ ?_ ?_ ?_ ?_); exact rfl; exact rfl; rotate_left; (first | with_reducible exact idx_zip1 hd2 | with_reducible exact idx_zip2 hd2 | with_reducible exact idx_zip1 hd0 | with_reducible exact idx_zip2 hd0))
    | ((with_reducible refine len_step ?_ ?_); exact rfl)
    | ((with_reducible refine guard_step ?_ ?_ (fun hg => ?_) ?_); exact rfl)
    | ((with_reducible refine val_step ?_ ?_); with_reducible exact rfl; with_reducible exact rfl)
    | ((with_reducible refine chk_stepP ?_ ?_); kernel_rfl)
    | ((with_reducible refine ret_step ?_); refine ⟨[], rfl, ?_, trivial⟩; conv => whnf)
    | (with_reducible refine And.intro ?_ ?_)
    | exact @rfl AV _
    | fail)
  all_goals first
    | (rfl)
    | ((exact ctl_next hI0 h))
    | ((exact lin_next hI2 (by simpa only [badLn, List.length_map] using h)))
    | ((exact congrArg D.b (staM_no (by simpa only [List.length_map] using h)).symm))
    | ((exact congrArg D.b (staM_v (ctl_bad hI0 h)).symm))
    | ((exact congrArg D.b (staM_l (lin_bad hI2 (by simpa only [badLn, List.length_map] using h))).symm))
    | ((refine congrArg D.b (staM_yes ?_ hI0 hI2).symm; (rw [heq.1, heq.2]; simp)))
    | skip
end Go.Proofs.Ytcfpghieofhfkaa
