/- Contracts: the machine's Run and Step. -/
import Derived.Test.YtcfpghieofhfkaaZMS9
import Derived.Test.YtcfpghieofhfkaaZMB
set_option linter.unusedSimpArgs false
set_option linter.unusedVariables false
namespace Go.Proofs.Ytcfpghieofhfkaa
open Go.Fw Go.Fw.Mac
set_option maxRecDepth 10000
set_option linter.unusedSectionVars false
variable [GlobInt]
set_option maxHeartbeats 8000000 in
theorem mrun_call (c : Cd) (s : Sta) (ps : List (List Int)) (inn sid : List Int) (n fuel : Int) (g : c.Sm) (hs : s.Sm) (hp : ps.length ≤ 1073741824) (hps : ∀ t ∈ ps, t.length ≤ 1073741824) (hi1 : inn.length ≤ 1073741824) (hi2 : sid.length ≤ 1073741824) : PCall Try.prog 17 [c.d, s.d, .sl 1 (ps.map lnC), ints inn, ints sid, .i n, .i fuel] (.ret (runD (runM c s ps inn sid n fuel))) := by
  refine pcall_of_wc tok hmix ⟨[], []⟩ Try.func17 rfl (by kernel_rfl) (by kernel_rfl) (by kernel_rfl) fun hf => ?_
  clear hf
  repeat' ((try (conv => whnf)) <;> first
    | ((have hG := run_mk (c := c) (s := s) (ps := ps) (inn := inn) (sid := sid) (n := n) (fuel := fuel) g (by assumption) (by assumption) (by assumption) (by assumption) h); clear h; (obtain rfl := hG.args.hnp))
    | ((with_reducible refine RangeAt.mk 90 ?_); refine ⟨rfl, ⟨[(14, .ptr 14 0), (15, .ptr 15 0), (16, .data (.i (W (fuel - W ((ps.length : Int) * (((c.instrs.map insC).length : Nat) : Int)))))), (19, .ptr 800000 0), (89, .fn 51 [.ptr 800101 0, .ptr 800102 0, .ptr 800103 0, .ptr 800104 0, .ptr 800105 0])], [(14, .cells [.own 900001 0 1 0 0]), (900001, .arr 0 1 (((List.range 0).map (fun i => (mAt c ps inn sid s (i + 1)).1.out)).map intC)), (15, .cells [.nilsl 1, .nilsl 1]), (800000, .cells [.data (.i c.latency), .data (.i c.tail), .data (.sl 3 (c.params.map Bd.cs)), .data (.sl 3 (c.states.map Bd.cs)), .data (.sl 4 (c.lines.map Ln.cs)), .data (.sl 1 (c.tables.map lnC)), .data (.i c.regs), .data (.sl 2 (c.instrs.map insC)), .own 800001 (mAt c ps inn sid s 0).1.ver 1 0 0, .own 800002 0 1 0 (mAt c ps inn sid s 0).1.regs.length, .nilsl 1, .nilsl 1, .nilsl 1, .own 800003 1 1 0 (mAt c ps inn sid s 0).1.values.length, .own 800004 1 1 0 (mAt c ps inn sid s 0).2.length, .map 800005, .data (.i (mAt c ps inn sid s 0).1.out)]), (800001, .arr (mAt c ps inn sid s 0).1.ver 1 ((mAt c ps inn sid s 0).1.row.map intC)), (800002, .arr 0 1 ((mAt c ps inn sid s 0).1.regs.map intC)), (800003, .arr 1 1 ((mAt c ps inn sid s 0).1.values.map intC)), (800004, .arr 1 1 ((mAt c ps inn sid s 0).2.map lnC)), (800005, .map false [.int .i64] ((mAt c ps inn sid s 0).1.pushed.map kvD)), (800101, .cells [.data (.i (ps.length : Int))]), (800102, .cells [.data (.sl 1 (ps.map lnC))]), (800103, .cells [.data (ints inn)]), (800104, .cells [.data (ints sid)]), (800105, .cells [.ptr 800000 0])], [(1000000, 14), (1000001, 900001)], [(14, .ptr 1000000 0)], fun i => [(1000000, .cells [.own 1000001 i 1 0 i]), (1000001, .arr i 1 (((List.range i).map (fun i => (mAt c ps inn sid s (i + 1)).1.out)).map intC))], ps.length, fun i => [.i (mAt c ps inn sid s (i + 1)).1.out], 900002, none⟩, ⟨?_, rfl, rfl, ?_, ?_, fun i hi => ⟨rfl, rfl, ?_⟩, fun _ _ e => none_some e, ⟨_, _, rfl, rfl, fun Rf Re hy _ => ⟨1000000, [.ptr 1000001 0, .ptr 1000002 0, .ptr 1000003 0, .ptr 1000004 0, .ptr 1000005 0], [(1000001, .cells [.data (.i (ps.length : Int))]), (1000002, .cells [.data (.sl 1 (ps.map lnC))]), (1000003, .cells [.data (ints inn)]), (1000004, .cells [.data (ints sid)]), (1000005, .cells [.ptr 1000006 0]), (1000006, .cells [.data (.i c.latency), .data (.i c.tail), .data (.sl 3 (c.params.map Bd.cs)), .data (.sl 3 (c.states.map Bd.cs)), .data (.sl 4 (c.lines.map Ln.cs)), .data (.sl 1 (c.tables.map lnC)), .data (.i c.regs), .data (.sl 2 (c.instrs.map insC)), .own 1000007 (mAt c ps inn sid s 0).1.ver 1 0 0, .own 1000008 0 1 0 (mAt c ps inn sid s 0).1.regs.length, .nilsl 1, .nilsl 1, .nilsl 1, .own 1000009 1 1 0 (mAt c ps inn sid s 0).1.values.length, .own 1000010 1 1 0 (mAt c ps inn sid s 0).2.length, .map 1000011, .data (.i (mAt c ps inn sid s 0).1.out)]), (1000007, .arr (mAt c ps inn sid s 0).1.ver 1 ((mAt c ps inn sid s 0).1.row.map intC)), (1000008, .arr 0 1 ((mAt c ps inn sid s 0).1.regs.map intC)), (1000009, .arr 1 1 ((mAt c ps inn sid s 0).1.values.map intC)), (1000010, .arr 1 1 ((mAt c ps inn sid s 0).2.map lnC)), (1000011, .map false [.int .i64] ((mAt c ps inn sid s 0).1.pushed.map kvD))], _, [(1000001, .cells [.data (.i (ps.length : Int))]), (1000002, .cells [.data (.sl 1 (ps.map lnC))]), (1000003, .cells [.data (ints inn)]), (1000004, .cells [.data (ints sid)]), (1000005, .cells [.ptr 1000006 0]), (1000006, .cells [.data (.i c.latency), .data (.i c.tail), .data (.sl 3 (c.params.map Bd.cs)), .data (.sl 3 (c.states.map Bd.cs)), .data (.sl 4 (c.lines.map Ln.cs)), .data (.sl 1 (c.tables.map lnC)), .data (.i c.regs), .data (.sl 2 (c.instrs.map insC)), .own 1000007 (mAt c ps inn sid s ps.length).1.ver 1 0 0, .own 1000008 0 1 0 (mAt c ps inn sid s ps.length).1.regs.length, .data (ints (lastP ps ps.length)), .data (ints (lastI inn ps.length)), .data (ints (lastI sid ps.length)), .own 1000009 1 1 0 (mAt c ps inn sid s ps.length).1.values.length, .own 1000010 1 1 0 (mAt c ps inn sid s ps.length).2.length, .map 1000011, .data (.i (mAt c ps inn sid s ps.length).1.out)]), (1000007, .arr (mAt c ps inn sid s ps.length).1.ver 1 ((mAt c ps inn sid s ps.length).1.row.map intC)), (1000008, .arr 0 1 ((mAt c ps inn sid s ps.length).1.regs.map intC)), (1000009, .arr 1 1 ((mAt c ps inn sid s ps.length).1.values.map intC)), (1000010, .arr 1 1 ((mAt c ps inn sid s ps.length).2.map lnC)), (1000011, .map false [.int .i64] ((mAt c ps inn sid s ps.length).1.pushed.map kvD))], [(1000000, 900002), (1000001, 800101), (1000002, 800102), (1000003, 800103), (1000004, 800104), (1000005, 800105), (1000006, 800000), (1000007, 800001), (1000008, 800002), (1000009, 800003), (1000010, 800004), (1000011, 800005)], steps1_call c ps inn sid s Rf (run_ok g hG) (run_len hG) hy, rfl, ?_, rfl, rfl, ?_⟩⟩⟩⟩)
    | with_reducible exact trivial
    | with_reducible refine BrI.intro (fun h => ?_) (fun h => ?_)
    | (refine ⟨((List.range ps.length).map (fun i => (mAt c ps inn sid s (i + 1)).1.out)).map intC, ⟨by simp, take_full (by simp)⟩, ?_⟩)
    | (refine ⟨(mAt c ps inn sid s ps.length).1.values.map intC, ⟨by simp, take_full (by simp)⟩, ?_⟩)
    | (refine ⟨(mAt c ps inn sid s ps.length).2.map lnC, ⟨by simp, take_full (by simp)⟩, ?_⟩)
    | ((have hi2 := hi); (with_reducible refine arr_guard ?_); exact rnd_l)
    | ((with_reducible refine call_step ?_ ?_ ?_); rotate_left; (first | exact check_call c g | exact samples_call c inn n hi1 | exact samples_call c sid n hi2 | exact state_call c s g hs))
    | ((with_reducible refine lent_step' [(1000000, 7)] (containsC_call c ps g hp hps) ?_ ?_ ?_ ?_); rotate_left 0; exact rfl; (exact ⟨rfl, trivial⟩); exact rfl)
    | ((with_reducible refine lent_step [(1000000, 800000), (1000001, 800001), (1000002, 800002), (1000003, 800003), (1000004, 800004), (1000005, 800005)] (mstart_call c s g hs (cdOk g hG.chk).regs.1 (cdOk g hG.chk).regs.2) ?_ ?_ ?_ ?_); rotate_left 0; exact rfl; (exact trivial); exact rfl)
    | ((with_reducible refine lent_step' [(1000006, 800000), (1000001, 800101), (1000002, 800102), (1000003, 800103), (1000004, 800104), (1000005, 800105), (1000007, 800001), (1000008, 800002), (1000009, 800003), (1000010, 800004), (1000011, 800005)] (steps_call c s ps inn sid (ps.length : Int)) ?_ ?_ ?_ ?_); rotate_left 0; exact rfl; (exact ⟨rfl, rfl, rfl, rfl, rfl, rfl, trivial⟩); exact rfl)
    | (with_reducible refine ChooseI.l _ ?_)
    | ((with_reducible refine tok0_step ?_ ?_ ?_ ?_) <;> exact rfl)
    | ((with_reducible refine guard_step ?_ ?_ (fun hg => ?_) ?_); exact rfl)
    | ((with_reducible refine val_step ?_ ?_); with_reducible exact rfl; with_reducible exact rfl)
    | ((with_reducible refine chk_stepP ?_ ?_); kernel_rfl)
    | ((with_reducible refine ret_step ?_); refine ⟨[], rfl, ?_, trivial⟩; conv => whnf)
    | (with_reducible refine And.intro ?_ ?_)
    | exact @rfl AV _
    | fail)
  all_goals first
    | (rfl)
    | ((exact run_e1 h))
    | ((exact run_e2 (by assumption) h))
    | ((exact run_e3 (by assumption) (by assumption) h))
    | ((exact run_e4 (by assumption) (by assumption) (by assumption) h))
    | ((exact run_e5 (by assumption) (by assumption) (by assumption) (by assumption) h))
    | ((exact run_res g hG))
    | ((exact rnd_sz hi (run_len hG)))
    | ((simp; done))
    | skip
set_option maxHeartbeats 2000000 in
theorem mstep_call (c : Cd) (par inn sid : List Int) (s : Sta) (g : c.Sm) (hs : s.Sm) (hp : par.length ≤ 1073741824) (hi1 : inn.length ≤ 1073741824) (hi2 : sid.length ≤ 1073741824) : PCall Try.prog 13 [c.d, ints par, ints inn, ints sid, s.d] (.ret (stepD (stepM c par inn sid s))) := by
  refine pcall_of_wc tok hmix ⟨[], []⟩ Try.func13 rfl (by kernel_rfl) (by kernel_rfl) (by kernel_rfl) fun hf => ?_
  clear hf
  repeat' ((try (conv => whnf)) <;> first
    | with_reducible refine BrI.intro (fun h => ?_) (fun h => ?_)
    | ((with_reducible refine idx_step ?_ ?_ ?_ ?_ ?_); exact rfl; exact rfl; rotate_left; exact step_at g h)
    | ((with_reducible refine call_step ?_ ?_ ?_); rotate_left; (exact mrun_call c s [par] inn sid 1 16777216 g hs (by simp) (fun t ht => by rw [List.mem_singleton.1 ht]; exact hp) hi1 hi2))
    | (with_reducible refine ChooseI.l _ ?_)
    | ((with_reducible refine chk_stepP ?_ ?_); kernel_rfl)
    | ((with_reducible refine ret_step ?_); refine ⟨[], rfl, ?_, trivial⟩; conv => whnf)
    | fail)
  all_goals first
    | ((exact step_bad h))
    | ((exact step_good h))
    | skip
end Go.Proofs.Ytcfpghieofhfkaa
