/- Contracts: the specification of the machine: its checks, its beginning, its numbers. -/
import Derived.Test.YtcfpghieofhfkaaZXA
import Derived.Test.YtcfpghieofhfkaaZMB
set_option linter.unusedSimpArgs false
set_option linter.unusedVariables false
namespace Go.Proofs.Ytcfpghieofhfkaa
open Go.Fw Go.Fw.Mac
set_option maxRecDepth 10000
set_option linter.unusedSectionVars false
variable [GlobInt]
set_option maxHeartbeats 400000 in
theorem rhold_call (v lo hi : Int)  : PCall Try.prog 41 [.i v, .i lo, .i hi] (.ret (.i (heldM v lo hi))) := by
  refine pcall_of_wc tok hmix ⟨[], []⟩ Try.func41 rfl (by kernel_rfl) (by kernel_rfl) (by kernel_rfl) fun hf => ?_
  clear hf
  repeat' ((try (conv => whnf)) <;> first
    | ((with_reducible refine ret_step ?_); refine ⟨[], rfl, ?_, trivial⟩; conv => whnf)
    | fail)
  all_goals first
    | (rfl)
    | skip
set_option maxHeartbeats 400000 in
theorem rclip_call (v : Int)  : PCall Try.prog 60 [.i v] (.ret (.i (clipM v))) := by
  refine pcall_of_wc tok hmix ⟨[], []⟩ Try.func60 rfl (by kernel_rfl) (by kernel_rfl) (by kernel_rfl) fun hf => ?_
  clear hf
  repeat' ((try (conv => whnf)) <;> first
    | ((with_reducible refine ret_step ?_); refine ⟨[], rfl, ?_, trivial⟩; conv => whnf)
    | fail)
  all_goals first
    | ((exact congrArg D.i (clip_held v)))
    | skip
set_option maxHeartbeats 400000 in
theorem rfloor_call (a b : Int) (hb : b ≠ 0) : PCall Try.prog 68 [.i a, .i b] (.ret (.i (floorR a b))) := by
  refine pcall_of_wc tok hmix ⟨[], []⟩ Try.func68 rfl (by kernel_rfl) (by kernel_rfl) (by kernel_rfl) fun hf => ?_
  clear hf
  repeat' ((try (conv => whnf)) <;> first
    | with_reducible refine BrI.intro (fun h => ?_) (fun h => ?_)
    | ((with_reducible refine ret_step ?_); refine ⟨[], rfl, ?_, trivial⟩; conv => whnf)
    | (with_reducible refine And.intro ?_ ?_)
    | fail)
  all_goals first
    | ((simp only [floorR, W, *, cond_true, cond_false]; done))
    | ((simpa using hb))
    | skip
set_option maxHeartbeats 400000 in
theorem radd_call (a b : Int)  : PCall Try.prog 66 [.i a, .i b] (.ret (.i (addR a b))) := by
  refine pcall_of_wc tok hmix ⟨[], []⟩ Try.func66 rfl (by kernel_rfl) (by kernel_rfl) (by kernel_rfl) fun hf => ?_
  clear hf
  repeat' ((try (conv => whnf)) <;> first
    | with_reducible refine BrI.intro (fun h => ?_) (fun h => ?_)
    | ((with_reducible refine ret_step ?_); refine ⟨[], rfl, ?_, trivial⟩; conv => whnf)
    | fail)
  all_goals first
    | ((simp only [addR, W, *, cond_true, cond_false]; done))
    | skip
set_option maxHeartbeats 400000 in
theorem rmul_call (a b : Int) (ha : Bn a) (hb : Bn b) : PCall Try.prog 67 [.i a, .i b] (.ret (.i (mulR a b))) := by
  refine pcall_of_wc tok hmix ⟨[], []⟩ Try.func67 rfl (by kernel_rfl) (by kernel_rfl) (by kernel_rfl) fun hf => ?_
  clear hf
  repeat' ((try (conv => whnf)) <;> first
    | with_reducible refine BrI.intro (fun h => ?_) (fun h => ?_)
    | ((with_reducible refine ret_step ?_); refine ⟨[], rfl, ?_, trivial⟩; conv => whnf)
    | (with_reducible refine And.intro ?_ ?_)
    | fail)
  all_goals first
    | ((exact abs_ne hb ‹_›))
    | ((simp only [mulR, W, *, cond_true, cond_false]; done))
    | skip
set_option maxHeartbeats 400000 in
theorem rtakes_call (op : Int)  : PCall Try.prog 59 [.i op] (.ret (.i (takesN op))) := by
  refine pcall_of_wc tok hmix ⟨[], []⟩ Try.func59 rfl (by kernel_rfl) (by kernel_rfl) (by kernel_rfl) fun hf => ?_
  clear hf
  repeat' ((try (conv => whnf)) <;> first
    | with_reducible refine BrI.tt ?_
    | with_reducible refine BrI.intro (fun h => ?_) (fun h => ?_)
    | ((with_reducible refine ret_step ?_); refine ⟨[], rfl, ?_, trivial⟩; conv => whnf)
    | fail)
  all_goals first
    | ((simp only [takesN, *, cond_true, cond_false]; done))
    | skip
set_option maxHeartbeats 400000 in
theorem between_call (l : List Int) (hl : l.length ≤ 1073741824) : PCall Try.prog 42 [ints l, .i (-2147483648), .i 2147483647] (.ret (.b (!(decide (firstS l 0 ≥ 0))))) := by
  refine pcall_of_wc tok hmix ⟨[], []⟩ Try.func42 rfl (by kernel_rfl) (by kernel_rfl) (by kernel_rfl) fun hf => ?_
  have hlen : l.length ≤ 9223372036854775807 := by omega
  clear hf
  repeat' ((try (conv => whnf)) <;> first
    | with_reducible exact trivial
    | with_reducible exact idx_next hd0 ‹_›
    | with_reducible refine br_nil hd0 ?_
    | with_reducible refine br_cons hd0 ?_
    | with_reducible refine BrI.intro (fun h => ?_) (fun h => ?_)
    | ((with_reducible refine LoopAt.mk 0 ?_); refine ⟨rangeL (l) 7 (fun (_ : Unit) => []) (fun (_ : Unit) => []) [0, 1, 2] (fun i0 r0 _ => firstS l 0 = firstS r0 i0), ?_⟩; with_reducible refine rangeL_rule () ?_ ?_ (fun i0 (_ : Unit) hd0 hI0 => ?_) (fun i0 x0 r0 (_ : Unit) hd0 hl0 hI0 => ?_))
    | (with_reducible refine rangeL_next hd0 () ?_ ?_)
    | ((with_reducible refine idx_step ?_ ?_ ?_ ?_ ?_); exact rfl; exact rfl; rotate_left; (with_reducible exact idx_drop hd0))
    | ((with_reducible refine guard_step ?_ ?_ (fun hg => ?_) ?_); exact rfl)
    | ((with_reducible refine val_step ?_ ?_); with_reducible exact rfl; with_reducible exact rfl)
    | ((with_reducible refine ret_step ?_); refine ⟨[], rfl, ?_, trivial⟩; conv => whnf)
    | (with_reducible refine And.intro ?_ ?_)
    | exact @rfl AV _
    | fail)
  all_goals first
    | (rfl)
    | ((exact firstS_next hI0 ((clip_out _).trans h)))
    | ((exact congrArg D.b (btw_hit hI0 ((clip_out _).trans h)).symm))
    | ((exact congrArg D.b (btw_end hI0).symm))
    | skip
set_option maxHeartbeats 400000 in
theorem inputs_call (c : Cd) (l : List Int) (n : Int) (hl : l.length ≤ 1073741824) : PCall Try.prog 26 [c.d, ints l, .i n] (.ret (.b (samplesM c l n))) := by
  refine pcall_of_wc tok hmix ⟨[], []⟩ Try.func26 rfl (by kernel_rfl) (by kernel_rfl) (by kernel_rfl) fun hf => ?_
  clear hf
  repeat' ((try (conv => whnf)) <;> first
    | ((with_reducible refine call_step ?_ ?_ ?_); rotate_left; (exact between_call l hl))
    | ((with_reducible refine guard_step ?_ ?_ (fun hg => ?_) ?_); exact rfl)
    | ((with_reducible refine val_step ?_ ?_); with_reducible exact rfl; with_reducible exact rfl)
    | ((with_reducible refine ret_step ?_); refine ⟨[], rfl, ?_, trivial⟩; conv => whnf)
    | fail)
  all_goals first
    | ((simp only [samplesM, List.length_map]; done))
    | skip
set_option maxHeartbeats 400000 in
theorem params_call (c : Cd) (l : List Int) (cd : CdOk c) (hl : l.length ≤ 1073741824) : PCall Try.prog 25 [c.d, ints l] (.ret (.b (controlsM c l))) := by
  refine pcall_of_wc tok hmix ⟨[], []⟩ Try.func25 rfl (by kernel_rfl) (by kernel_rfl) (by kernel_rfl) fun hf => ?_
  clear hf
  repeat' ((try (conv => whnf)) <;> first
    | with_reducible exact trivial
    | with_reducible exact idx_next hd0 ‹_›
    | ((with_reducible refine br_nil_k hd0 ?_ ?_); (assumption))
    | ((with_reducible refine br_cons_k hd0 ?_ ?_); (assumption))
    | with_reducible refine BrI.intro (fun h => ?_) (fun h => ?_)
    | ((with_reducible refine LoopAt.mk 0 ?_); have heq : l.length = c.params.length := len_ne (by simpa only [List.length_map] using h); have hz : (l.zip c.params).length = (l.map intC).length := (by rw [List.length_map]; exact zip_len heq); have hlen : (l.zip c.params).length ≤ 9223372036854775807 := (by rw [hz, List.length_map]; omega); refine ⟨rangeL (l.zip c.params) 5 (fun (_ : Unit) => []) (fun (_ : Unit) => []) [1, 2] (fun i0 r0 _ => ctlZ (l.zip c.params) = ctlZ r0), ?_⟩; with_reducible refine rangeL_rule () ?_ ?_ (fun i0 (_ : Unit) hd0 hI0 => ?_) (fun i0 x0 r0 (_ : Unit) hd0 hl0 hI0 => ?_))
    | (with_reducible refine rangeL_next hd0 () ?_ ?_)
    | ((with_reducible refine idx_step ?_ ?_ ?_ ?_ ?_); exact rfl; exact rfl; rotate_left; (first | with_reducible exact idx_zip1 hd0 | with_reducible exact idx_zip2 hd0))
    | ((with_reducible refine guard_step ?_ ?_ (fun hg => ?_) ?_); exact rfl)
    | ((with_reducible refine val_step ?_ ?_); with_reducible exact rfl; with_reducible exact rfl)
    | ((with_reducible refine chk_stepP ?_ ?_); kernel_rfl)
    | ((with_reducible refine ret_step ?_); refine ⟨[], rfl, ?_, trivial⟩; conv => whnf)
    | (with_reducible refine And.intro ?_ ?_)
    | exact @rfl AV _
    | fail)
  all_goals first
    | ((exact ctl_next hI0 ((held_out (ctl_le cd.params hd0)).trans h)))
    | ((exact congrArg D.b (ctlM_no (by simpa only [List.length_map] using h)).symm))
    | ((refine congrArg D.b (Eq.trans (ctlM_yes (by rw [heq]; simp)) (ctl_bad hI0 ((held_out (ctl_le cd.params hd0)).trans h))).symm))
    | ((refine congrArg D.b (Eq.trans (ctlM_yes (by rw [heq]; simp)) hI0).symm))
    | skip
end Go.Proofs.Ytcfpghieofhfkaa
