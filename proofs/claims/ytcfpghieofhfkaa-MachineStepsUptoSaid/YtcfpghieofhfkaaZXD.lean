/- Contracts: the specification of the machine: a step, a run. -/
import Derived.Test.YtcfpghieofhfkaaZMS13
import Derived.Test.YtcfpghieofhfkaaZMC
import Derived.Test.YtcfpghieofhfkaaZXC
set_option linter.unusedSimpArgs false
set_option linter.unusedVariables false
namespace Go.Proofs.Ytcfpghieofhfkaa
open Go.Fw Go.Fw.Mac
set_option maxRecDepth 10000
set_option linter.unusedSectionVars false
variable [GlobInt]
end Go.Proofs.Ytcfpghieofhfkaa
namespace Go.Proofs.Ytcfpghieofhfkaa
open Go.Fw Go.Fw.Mac
set_option maxRecDepth 10000
set_option linter.unusedSectionVars false
variable [GlobInt]
end Go.Proofs.Ytcfpghieofhfkaa
namespace Go.Proofs.Ytcfpghieofhfkaa
open Go.Fw Go.Fw.Mac
set_option maxRecDepth 10000
set_option linter.unusedSectionVars false
variable [GlobInt]
theorem sn0 : PCall Try.prog 11 [(codeC []).d] (.ret (.tuple [.agg [ints [], .sl 1 []], .i 200])) := start_bad (codeC []) (codeC_sm (by decide)) (by kernel_rfl)
theorem sn1 : PCall Try.prog 11 [heldC.d] (.ret (.tuple [.agg [ints [2], .sl 1 []], .i 0])) := start_ok heldC heldC_sm (by kernel_rfl) (fun x hx => by simp [heldC] at hx)
theorem sna : PCall Try.prog 13 [(codeC [(1, 0), (8, 0), (22, 0)]).d, ints [], ints [7], ints [0], (⟨[], []⟩ : Sta).d] (.ret (.tuple [.i 7, .agg [ints [], .sl 1 []], .i 0])) :=
  pcall_out (mstep_call (codeC [(1, 0), (8, 0), (22, 0)]) [] [7] [0] ⟨[], []⟩ (codeC_sm (by decide)) (sta_sm (by decide)) (by decide) (by decide) (by decide)) (by kernel_rfl)
theorem snb : PCall Try.prog 13 [(codeC [(1, 4611686018427387904), (1, 1), (17, 0), (22, 0)]).d, ints [], ints [0], ints [0], (⟨[], []⟩ : Sta).d] (.ret (.tuple [.i 2147483647, .agg [ints [], .sl 1 []], .i 0])) :=
  pcall_out (mstep_call (codeC [(1, 4611686018427387904), (1, 1), (17, 0), (22, 0)]) [] [0] [0] ⟨[], []⟩ (codeC_sm (by decide)) (sta_sm (by decide)) (by decide) (by decide) (by decide)) (by kernel_rfl)
theorem snc : PCall Try.prog 13 [heldC.d, ints [], ints [0], ints [0], (⟨[2], []⟩ : Sta).d] (.ret (.tuple [.i 5, .agg [ints [5], .sl 1 []], .i 0])) :=
  pcall_out (mstep_call heldC [] [0] [0] ⟨[2], []⟩ heldC_sm (sta_sm (by decide)) (by decide) (by decide) (by decide)) (by kernel_rfl)
theorem snm : PCall Try.prog 13 [heldC.d, ints [], ints [0], ints [0], (⟨[], []⟩ : Sta).d] (.ret (.tuple [.i 0, .agg [ints [], .sl 1 []], .i 180])) :=
  pcall_out (mstep_call heldC [] [0] [0] ⟨[], []⟩ heldC_sm (sta_sm (by decide)) (by decide) (by decide) (by decide)) (by kernel_rfl)
theorem snr1 : PCall Try.prog 17 [(codeC [(1, 1), (22, 0)]).d, (⟨[], []⟩ : Sta).d, .sl 1 ([[], [], []].map lnC), ints [0, 0, 0], ints [0, 0, 0], .i 3, .i 6] (.ret (.tuple [ints [1, 1, 1], .agg [ints [], .sl 1 []], .i 0, .i 0])) :=
  pcall_out (mrun_call (codeC [(1, 1), (22, 0)]) ⟨[], []⟩ [[], [], []] [0, 0, 0] [0, 0, 0] 3 6 (codeC_sm (by decide)) (sta_sm (by decide)) (by decide) (fun t ht => by simp at ht; subst ht; decide) (by decide) (by decide)) (by kernel_rfl)
theorem snr2 : PCall Try.prog 17 [(codeC [(1, 1), (22, 0)]).d, (⟨[], []⟩ : Sta).d, .sl 1 ([[], [], []].map lnC), ints [0, 0, 0], ints [0, 0, 0], .i 3, .i 5] (.ret (.tuple [ints [], .agg [ints [], .sl 1 []], .i 0, .i 201])) :=
  pcall_out (mrun_call (codeC [(1, 1), (22, 0)]) ⟨[], []⟩ [[], [], []] [0, 0, 0] [0, 0, 0] 3 5 (codeC_sm (by decide)) (sta_sm (by decide)) (by decide) (fun t ht => by simp at ht; subst ht; decide) (by decide) (by decide)) (by kernel_rfl)
set_option maxHeartbeats 400000 in
theorem code_call (l : List (Int × Int))  : PCall Try.prog 21 [.sl 2 (l.map insC)] (.ret (codeC l).d) := by
  refine pcall_of_wc tok hmix ⟨[], []⟩ Try.func21 rfl (by kernel_rfl) (by kernel_rfl) (by kernel_rfl) fun hf => ?_
  clear hf
  repeat' ((try (conv => whnf)) <;> first
    | ((with_reducible refine ret_step ?_); refine ⟨[], rfl, ?_, trivial⟩; conv => whnf)
    | fail)
  all_goals first
    | (rfl)
    | skip
set_option maxHeartbeats 4000000 in
theorem sane_call   : PCall Try.prog 8 [] (.ret (.b true)) := by
  refine pcall_of_wc tok hmix ⟨[], []⟩ Try.func8 rfl (by kernel_rfl) (by kernel_rfl) (by kernel_rfl) fun hf => ?_
  clear hf
  repeat' ((try (conv => whnf)) <;> first
    | ((with_reducible refine GuardI.mk ?_ ?_); kernel_rfl)
    | ((with_reducible refine mk_step ?_ ?_ ?_ ?_ ?_); decide; decide; exact rfl; decide)
    | ((with_reducible refine call_step ?_ ?_ ?_); rotate_left; (first | exact code_call [(1, 1), (22, 0)] | exact code_call [(1, 0), (8, 0), (22, 0)] | exact code_call [(1, 4611686018427387904), (1, 1), (17, 0), (22, 0)] | exact code_call [(1, 9), (6, 0), (3, 0), (22, 0)] | exact sn0 | exact sn1 | exact sna | exact snb | exact snc | exact snm | exact snr1 | exact snr2 | exact msame_call [2] [2] (by decide) (by decide) | exact msame_call [5] [5] (by decide) (by decide) | exact msame_call [1, 1, 1] [1, 1, 1] (by decide) (by decide)))
    | (with_reducible refine ChooseI.l _ ?_)
    | ((with_reducible refine guard_step ?_ ?_ (fun hg => ?_) ?_); exact rfl)
    | ((with_reducible refine val_step ?_ ?_); with_reducible exact rfl; with_reducible exact rfl)
    | ((with_reducible refine chk_stepP ?_ ?_); kernel_rfl)
    | ((with_reducible refine ret_step ?_); refine ⟨[], rfl, ?_, trivial⟩; conv => whnf)
    | fail)
  all_goals first
    | (rfl)
    | skip
set_option maxHeartbeats 400000 in
theorem few_call (c : Cd) (s : Sta) (ps : List (List Int)) (inn sid : List Int) (g : c.Sm) (hs : s.Sm) (hp : ps.length ≤ 1073741824) : PCall Try.prog 16 [c.d, s.d, .sl 1 (ps.map lnC), ints inn, ints sid] (.ret (.b (fewR c s ps inn sid))) := by
  refine pcall_of_wc tok hmix ⟨[], []⟩ Try.func16 rfl (by kernel_rfl) (by kernel_rfl) (by kernel_rfl) fun hf => ?_
  have hlen : ps.length ≤ 9223372036854775807 := by omega
  clear hf
  repeat' ((try (conv => whnf)) <;> first
    | with_reducible exact trivial
    | with_reducible exact idx_next hd0 ‹_›
    | with_reducible refine br_nil hd0 ?_
    | with_reducible refine br_cons hd0 ?_
    | with_reducible refine BrI.intro (fun h => ?_) (fun h => ?_)
    | ((with_reducible refine LoopAt.mk 0 ?_); refine ⟨rangeL (ps) 15 (fun (_ : Unit) => []) (fun (_ : Unit) => []) [2, 3, 4, 5, 6, 13, 14] (fun i0 r0 _ => anyLong ps = anyLong r0), ?_⟩; with_reducible refine rangeL_rule () ?_ ?_ (fun i0 (_ : Unit) hd0 hI0 => ?_) (fun i0 x0 r0 (_ : Unit) hd0 hl0 hI0 => ?_))
    | (with_reducible refine rangeL_next hd0 () ?_ ?_)
    | ((with_reducible refine call_step ?_ ?_ ?_); rotate_left; (first | exact fewc_call c g | exact fewst_call s hs))
    | ((with_reducible refine idx_step ?_ ?_ ?_ ?_ ?_); exact rfl; exact rfl; rotate_left; (with_reducible exact idx_drop hd0))
    | ((with_reducible refine guard_step ?_ ?_ (fun hg => ?_) ?_); exact rfl)
    | ((with_reducible refine val_step ?_ ?_); with_reducible exact rfl; with_reducible exact rfl)
    | ((with_reducible refine ret_step ?_); refine ⟨[], rfl, ?_, trivial⟩; conv => whnf)
    | (with_reducible refine And.intro ?_ ?_)
    | exact @rfl AV _
    | fail)
  all_goals first
    | ((exact fewR_next hI0 h))
    | ((exact congrArg D.b (fewR_hit hI0 h).symm))
    | ((exact congrArg D.b (fewR_end hI0)))
    | skip
end Go.Proofs.Ytcfpghieofhfkaa
