/- Contracts: laws of the machine: Start, Step and Run match the specification; what is not used. -/
import Derived.Test.YtcfpghieofhfkaaZXD
set_option linter.unusedSimpArgs false
set_option linter.unusedVariables false
namespace Go.Proofs.Ytcfpghieofhfkaa
open Go.Fw Go.Fw.Mac
set_option maxRecDepth 10000
set_option linter.unusedSectionVars false
variable [GlobInt]
theorem more_call (c : Cd) (par inn sid : List Int) (s : Sta) (v : Int) (g : c.Sm) (h : checkP c = true) (hr : c.regs ≤ 60000) (hI : c.instrs.length ≤ 60000) (hs : s.Sm) (hp : par.length ≤ 1073741824) (hi1 : inn.length ≤ 1073741824) (hi2 : sid.length ≤ 1073741824) :
    PCall Try.prog 13 [.agg [.i c.latency, .i c.tail, .sl 3 (c.params.map Bd.cs), .sl 3 (c.states.map Bd.cs), .sl 4 (c.lines.map Ln.cs), .sl 1 (c.tables.map lnC), .i (W (c.regs + 1)), .sl 2 ([[D.i 1, D.i (clM v)], [D.i 16, D.i 0], [D.i 5, D.i c.regs]] ++ c.instrs.map insC)], ints par, ints inn, ints sid, s.d] (.ret (stepD (stepM c par inn sid s))) := by
  rw [more_d (cdOk g h).regs]
  have e := more_step (par := par) (inn := inn) (sid := sid) (s := s) g h hr hI (clM_bn v)
  have q := mstep_call (moreM c (clM v)) par inn sid s (more_Sm g hI) hs hp hi1 hi2
  rw [e] at q; exact q
set_option maxHeartbeats 2000000 in
theorem spec_law (c : Cd) (par inn sid : List Int) (s : Sta) (g : c.Sm) (hs : s.Sm) (hp : par.length ≤ 1073741824) (hi1 : inn.length ≤ 1073741824) (hi2 : sid.length ≤ 1073741824) : PCall Try.prog 3 [c.d, ints par, ints inn, ints sid, s.d] (.ret (.b true)) := by
  refine pcall_of_wc tok hmix ⟨[], []⟩ Try.func3 rfl (by kernel_rfl) (by kernel_rfl) (by kernel_rfl) fun hf => ?_
  clear hf
  repeat' ((try (conv => whnf)) <;> first
    | with_reducible refine BrI.intro (fun h => ?_) (fun h => ?_)
    | ((with_reducible refine call_step ?_ ?_ ?_); rotate_left; (first | exact sane_call | exact fewc_call c g | exact fewst_call s hs | exact mstart_any c g | exact rstart_any c g | exact mstep_call c par inn sid s g hs hp hi1 hi2 | exact rstep_call c par inn sid s g hs hp hi1 hi2 | exact samest_call (startS c) (startS c) (startS_sm g) (startS_sm g) | exact samest_call (stepM c par inn sid s).2.1 (stepM c par inn sid s).2.1 (step_sm g) (step_sm g)))
    | ((with_reducible refine guard_step ?_ ?_ (fun hg => ?_) ?_); exact rfl)
    | ((with_reducible refine val_step ?_ ?_); with_reducible exact rfl; with_reducible exact rfl)
    | ((with_reducible refine ret_step ?_); refine ⟨[], rfl, ?_, trivial⟩; conv => whnf)
    | fail)
  all_goals first
    | ((exact absurd h (by decide)))
    | ((simp only [sameSt_self, beq_self_eq_true, cond_true]; done))
    | skip
set_option maxHeartbeats 2000000 in
theorem run_law (c : Cd) (s : Sta) (ps : List (List Int)) (inn sid : List Int) (n fuel : Int) (g : c.Sm) (hs : s.Sm) (hp : ps.length ≤ 1073741824) (hps : ∀ t ∈ ps, t.length ≤ 1073741824) (hi1 : inn.length ≤ 1073741824) (hi2 : sid.length ≤ 1073741824) : PCall Try.prog 4 [c.d, s.d, .sl 1 (ps.map lnC), ints inn, ints sid, .i n, .i fuel] (.ret (.b true)) := by
  refine pcall_of_wc tok hmix ⟨[], []⟩ Try.func4 rfl (by kernel_rfl) (by kernel_rfl) (by kernel_rfl) fun hf => ?_
  clear hf
  repeat' ((try (conv => whnf)) <;> first
    | with_reducible refine BrI.intro (fun h => ?_) (fun h => ?_)
    | ((with_reducible refine call_step ?_ ?_ ?_); rotate_left; (first | exact sane_call | exact few_call c s ps inn sid g hs hp | exact mrun_call c s ps inn sid n fuel g hs hp hps hi1 hi2 | exact rrun_call c s ps inn sid n fuel g hs hp hps hi1 hi2 | exact msame_call (runM c s ps inn sid n fuel).1 (runM c s ps inn sid n fuel).1 (Nat.le_trans (run_outs g) hp) (Nat.le_trans (run_outs g) hp) | exact samest_call (runM c s ps inn sid n fuel).2.1 (runM c s ps inn sid n fuel).2.1 (run_sm g) (run_sm g)))
    | ((with_reducible refine guard_step ?_ ?_ (fun hg => ?_) ?_); exact rfl)
    | ((with_reducible refine val_step ?_ ?_); with_reducible exact rfl; with_reducible exact rfl)
    | ((with_reducible refine ret_step ?_); refine ⟨[], rfl, ?_, trivial⟩; conv => whnf)
    | fail)
  all_goals first
    | ((exact absurd h (by decide)))
    | ((simp only [sameI_self, sameSt_self, beq_self_eq_true, cond_true]; done))
    | skip
set_option maxHeartbeats 2000000 in
theorem unused_law (c : Cd) (par inn sid : List Int) (s : Sta) (v : Int) (g : c.Sm) (hs : s.Sm) (hp : par.length ≤ 1073741824) (hi1 : inn.length ≤ 1073741824) (hi2 : sid.length ≤ 1073741824) : PCall Try.prog 7 [c.d, ints par, ints inn, ints sid, s.d, .i v] (.ret (.b true)) := by
  refine pcall_of_wc tok hmix ⟨[], []⟩ Try.func7 rfl (by kernel_rfl) (by kernel_rfl) (by kernel_rfl) fun hf => ?_
  clear hf
  repeat' ((try (conv => whnf)) <;> first
    | ((have hF := unused_in h); clear h)
    | with_reducible refine BrI.intro (fun h => ?_) (fun h => ?_)
    | ((with_reducible refine call_step ?_ ?_ ?_); rotate_left; (first | exact sane_call | exact fewc_call c g | exact fewst_call s hs | exact rcheck_call c g | exact mstep_call c par inn sid s g hs hp hi1 hi2 | exact more_call c par inn sid s v g hF.1 hF.2.1 hF.2.2 hs hp hi1 hi2 | exact samest_call (stepM c par inn sid s).2.1 (stepM c par inn sid s).2.1 (step_sm g) (step_sm g)))
    | (with_reducible refine ChooseI.l _ ?_)
    | ((with_reducible refine app_step' ?_ ?_ ?_ ?_ ?_ ?_ ?_); exact rfl; exact rfl; exact rfl; exact rfl)
    | ((with_reducible refine guard_step ?_ ?_ (fun hg => ?_) ?_); exact rfl)
    | ((with_reducible refine val_step ?_ ?_); with_reducible exact rfl; with_reducible exact rfl)
    | ((with_reducible refine ret_step ?_); refine ⟨[], rfl, ?_, trivial⟩; conv => whnf)
    | exact ble_le rfl
    | fail)
  all_goals first
    | ((exact absurd h (by decide)))
    | ((rw [List.length_map]; have := g.instrs; omega))
    | ((simp only [sameSt_self, beq_self_eq_true, cond_true]; done))
    | skip
end Go.Proofs.Ytcfpghieofhfkaa
