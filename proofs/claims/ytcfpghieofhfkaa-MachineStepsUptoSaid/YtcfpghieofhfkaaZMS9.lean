/- Contracts: the machine's runs. -/
import Derived.Test.YtcfpghieofhfkaaZMS6
import Derived.Test.YtcfpghieofhfkaaZMS8
import Derived.Test.YtcfpghieofhfkaaZMB
set_option linter.unusedSimpArgs false
set_option linter.unusedVariables false
namespace Go.Proofs.Ytcfpghieofhfkaa
open Go.Fw Go.Fw.Mac
set_option maxRecDepth 10000
set_option linter.unusedSectionVars false
variable [GlobInt]
theorem step_call' (c : Cd) (par inn sid : List Int) (lines : List (List Int)) (ver0 : Nat) (row0 regs0 values0 : List Int) (pu0 : List (Int × Int)) (out0 : Int) (F : PS) (G : List (List Int)) (E : EnvOk c par inn sid lines) (hS : StepI c par inn sid lines F c.instrs ⟨ver0, row0, 0, List.replicate regs0.length 0, values0, [], out0⟩) (hG : F.pushed.foldl updLn lines = G) (hn : F.n = 0) (d1 d2 : D) (e1 : d1 = ints inn) (e2 : d2 = ints sid) :
    LCall Try.prog 52 [.ptr 1000000 0] [(1000000, .cells [.data (.i c.latency), .data (.i c.tail), .data (.sl 3 (c.params.map Bd.cs)), .data (.sl 3 (c.states.map Bd.cs)), .data (.sl 4 (c.lines.map Ln.cs)), .data (.sl 1 (c.tables.map lnC)), .data (.i c.regs), .data (.sl 2 (c.instrs.map insC)), .own 1000001 ver0 1 0 0, .own 1000002 0 1 0 regs0.length, .data (ints par), .data (d1), .data (d2), .own 1000003 1 1 0 values0.length, .own 1000004 1 1 0 lines.length, .map 1000005, .data (.i out0)]), (1000001, .arr ver0 1 (row0.map intC)), (1000002, .arr 0 1 (regs0.map intC)), (1000003, .arr 1 1 (values0.map intC)), (1000004, .arr 1 1 (lines.map lnC)), (1000005, .map false [.int .i64] (pu0.map kvD))] (.ret (.data (.tuple []))) [(1000000, .cells [.data (.i c.latency), .data (.i c.tail), .data (.sl 3 (c.params.map Bd.cs)), .data (.sl 3 (c.states.map Bd.cs)), .data (.sl 4 (c.lines.map Ln.cs)), .data (.sl 1 (c.tables.map lnC)), .data (.i c.regs), .data (.sl 2 (c.instrs.map insC)), .own 1000001 F.ver 1 0 0, .own 1000002 0 1 0 F.regs.length, .data (ints par), .data (d1), .data (d2), .own 1000003 1 1 0 F.values.length, .own 1000004 1 1 0 G.length, .map 1000005, .data (.i F.out)]), (1000001, .arr F.ver 1 (F.row.map intC)), (1000002, .arr 0 1 (F.regs.map intC)), (1000003, .arr 1 1 (F.values.map intC)), (1000004, .arr 1 1 (G.map lnC)), (1000005, .map false [.int .i64] (F.pushed.map kvD))] := by
  subst e1 e2
  have h := step_call c par inn sid lines ver0 row0 regs0 values0 pu0 out0 F G E hS hG
  rw [hn] at h
  exact h
set_option maxHeartbeats 400000 in
theorem steps_call (c : Cd) (s : Sta) (ps : List (List Int)) (inn sid : List Int) (n : Int)  : LCall Try.prog 35 [.ptr 1000006 0, .data (.sl 1 (ps.map lnC)), .data (ints inn), .data (ints sid), .data (.i n)] [(1000006, .cells [.data (.i c.latency), .data (.i c.tail), .data (.sl 3 (c.params.map Bd.cs)), .data (.sl 3 (c.states.map Bd.cs)), .data (.sl 4 (c.lines.map Ln.cs)), .data (.sl 1 (c.tables.map lnC)), .data (.i c.regs), .data (.sl 2 (c.instrs.map insC)), .own 1000007 (mAt c ps inn sid s 0).1.ver 1 0 0, .own 1000008 0 1 0 (mAt c ps inn sid s 0).1.regs.length, .nilsl 1, .nilsl 1, .nilsl 1, .own 1000009 1 1 0 (mAt c ps inn sid s 0).1.values.length, .own 1000010 1 1 0 (mAt c ps inn sid s 0).2.length, .map 1000011, .data (.i (mAt c ps inn sid s 0).1.out)]), (1000007, .arr (mAt c ps inn sid s 0).1.ver 1 ((mAt c ps inn sid s 0).1.row.map intC)), (1000008, .arr 0 1 ((mAt c ps inn sid s 0).1.regs.map intC)), (1000009, .arr 1 1 ((mAt c ps inn sid s 0).1.values.map intC)), (1000010, .arr 1 1 ((mAt c ps inn sid s 0).2.map lnC)), (1000011, .map false [.int .i64] ((mAt c ps inn sid s 0).1.pushed.map kvD))] (.ret (.fn 51 [.ptr 1000001 0, .ptr 1000002 0, .ptr 1000003 0, .ptr 1000004 0, .ptr 1000005 0])) [(1000001, .cells [.data (.i n)]), (1000002, .cells [.data (.sl 1 (ps.map lnC))]), (1000003, .cells [.data (ints inn)]), (1000004, .cells [.data (ints sid)]), (1000005, .cells [.ptr 1000006 0]), (1000006, .cells [.data (.i c.latency), .data (.i c.tail), .data (.sl 3 (c.params.map Bd.cs)), .data (.sl 3 (c.states.map Bd.cs)), .data (.sl 4 (c.lines.map Ln.cs)), .data (.sl 1 (c.tables.map lnC)), .data (.i c.regs), .data (.sl 2 (c.instrs.map insC)), .own 1000007 (mAt c ps inn sid s 0).1.ver 1 0 0, .own 1000008 0 1 0 (mAt c ps inn sid s 0).1.regs.length, .nilsl 1, .nilsl 1, .nilsl 1, .own 1000009 1 1 0 (mAt c ps inn sid s 0).1.values.length, .own 1000010 1 1 0 (mAt c ps inn sid s 0).2.length, .map 1000011, .data (.i (mAt c ps inn sid s 0).1.out)]), (1000007, .arr (mAt c ps inn sid s 0).1.ver 1 ((mAt c ps inn sid s 0).1.row.map intC)), (1000008, .arr 0 1 ((mAt c ps inn sid s 0).1.regs.map intC)), (1000009, .arr 1 1 ((mAt c ps inn sid s 0).1.values.map intC)), (1000010, .arr 1 1 ((mAt c ps inn sid s 0).2.map lnC)), (1000011, .map false [.int .i64] ((mAt c ps inn sid s 0).1.pushed.map kvD))] := by
  refine lcall_of_wc tok hmix ⟨[], []⟩ Try.func35 rfl (by kernel_rfl) (by kernel_rfl) (by kernel_rfl) fun hf => ?_
  clear hf
  repeat' ((try (conv => whnf)) <;> first
    | with_reducible exact trivial
    | ((with_reducible refine ret_step ?_); refine fin_step' [(1000001, 9), (1000002, 6), (1000003, 7), (1000004, 8), (1000005, 5)] rfl ?_ ?_)
    | (with_reducible refine And.intro ?_ ?_)
    | exact @rfl AV _
    | fail)
  all_goals first
    | skip
set_option maxHeartbeats 4000000 in
theorem steps1_call (c : Cd) (ps : List (List Int)) (inn sid : List Int) (s : Sta) (Rf : Nat → RP) (R : RunOk c ps inn sid s ps.length) (hn : ps.length ≤ 65536) (hy : ∀ i, i < ps.length → LCall Try.prog yldF [.yld 1000000, .data (.i (mAt c ps inn sid s (i + 1)).1.out)] [(1000000, .rnd (Rf i))] (.ret (.b true)) [(1000000, .rnd (Rf (i + 1)))]) : LCall Try.prog 51 [.yld 1000000, .ptr 1000001 0, .ptr 1000002 0, .ptr 1000003 0, .ptr 1000004 0, .ptr 1000005 0] [(1000000, .rnd (Rf 0)), (1000001, .cells [.data (.i (ps.length : Int))]), (1000002, .cells [.data (.sl 1 (ps.map lnC))]), (1000003, .cells [.data (ints inn)]), (1000004, .cells [.data (ints sid)]), (1000005, .cells [.ptr 1000006 0]), (1000006, .cells [.data (.i c.latency), .data (.i c.tail), .data (.sl 3 (c.params.map Bd.cs)), .data (.sl 3 (c.states.map Bd.cs)), .data (.sl 4 (c.lines.map Ln.cs)), .data (.sl 1 (c.tables.map lnC)), .data (.i c.regs), .data (.sl 2 (c.instrs.map insC)), .own 1000007 (mAt c ps inn sid s 0).1.ver 1 0 0, .own 1000008 0 1 0 (mAt c ps inn sid s 0).1.regs.length, .nilsl 1, .nilsl 1, .nilsl 1, .own 1000009 1 1 0 (mAt c ps inn sid s 0).1.values.length, .own 1000010 1 1 0 (mAt c ps inn sid s 0).2.length, .map 1000011, .data (.i (mAt c ps inn sid s 0).1.out)]), (1000007, .arr (mAt c ps inn sid s 0).1.ver 1 ((mAt c ps inn sid s 0).1.row.map intC)), (1000008, .arr 0 1 ((mAt c ps inn sid s 0).1.regs.map intC)), (1000009, .arr 1 1 ((mAt c ps inn sid s 0).1.values.map intC)), (1000010, .arr 1 1 ((mAt c ps inn sid s 0).2.map lnC)), (1000011, .map false [.int .i64] ((mAt c ps inn sid s 0).1.pushed.map kvD))] (.ret (.data (.tuple []))) [(1000000, .rnd (Rf ps.length)), (1000001, .cells [.data (.i (ps.length : Int))]), (1000002, .cells [.data (.sl 1 (ps.map lnC))]), (1000003, .cells [.data (ints inn)]), (1000004, .cells [.data (ints sid)]), (1000005, .cells [.ptr 1000006 0]), (1000006, .cells [.data (.i c.latency), .data (.i c.tail), .data (.sl 3 (c.params.map Bd.cs)), .data (.sl 3 (c.states.map Bd.cs)), .data (.sl 4 (c.lines.map Ln.cs)), .data (.sl 1 (c.tables.map lnC)), .data (.i c.regs), .data (.sl 2 (c.instrs.map insC)), .own 1000007 (mAt c ps inn sid s ps.length).1.ver 1 0 0, .own 1000008 0 1 0 (mAt c ps inn sid s ps.length).1.regs.length, .data (ints (lastP ps ps.length)), .data (ints (lastI inn ps.length)), .data (ints (lastI sid ps.length)), .own 1000009 1 1 0 (mAt c ps inn sid s ps.length).1.values.length, .own 1000010 1 1 0 (mAt c ps inn sid s ps.length).2.length, .map 1000011, .data (.i (mAt c ps inn sid s ps.length).1.out)]), (1000007, .arr (mAt c ps inn sid s ps.length).1.ver 1 ((mAt c ps inn sid s ps.length).1.row.map intC)), (1000008, .arr 0 1 ((mAt c ps inn sid s ps.length).1.regs.map intC)), (1000009, .arr 1 1 ((mAt c ps inn sid s ps.length).1.values.map intC)), (1000010, .arr 1 1 ((mAt c ps inn sid s ps.length).2.map lnC)), (1000011, .map false [.int .i64] ((mAt c ps inn sid s ps.length).1.pushed.map kvD))] := by
  refine lcall_of_wc tok hmix ⟨[], []⟩ Try.func51 rfl (by kernel_rfl) (by kernel_rfl) (by kernel_rfl) fun hf => ?_
  have hlen : ps.length ≤ 9223372036854775807 := by omega
  clear hf
  repeat' ((try (conv => whnf)) <;> first
    | (have hq : k = ps.length := steps_end hd0 hI0; clear hI0; subst hq)
    | ((with_reducible refine BrI.ff_of ?_ ?_); exact rfl)
    | with_reducible exact trivial
    | with_reducible exact idx_next hd0 ‹_›
    | ((with_reducible refine br_nil_k hd0 ?_ ?_); (exact rfl))
    | ((with_reducible refine br_cons_k hd0 ?_ ?_); (exact rfl))
    | (exact last_p hd0 hI0.1)
    | (exact last_i hI0.1)
    | ((with_reducible refine LoopAt.mk 0 ?_); refine ⟨rangeL (ps) 9 (fun (k : (Nat)) => []) (fun (k : (Nat)) => [(1000000, .rnd (Rf k)), (1000006, .cells [.data (.i c.latency), .data (.i c.tail), .data (.sl 3 (c.params.map Bd.cs)), .data (.sl 3 (c.states.map Bd.cs)), .data (.sl 4 (c.lines.map Ln.cs)), .data (.sl 1 (c.tables.map lnC)), .data (.i c.regs), .data (.sl 2 (c.instrs.map insC)), .own 1000007 (mAt c ps inn sid s k).1.ver 1 0 0, .own 1000008 0 1 0 (mAt c ps inn sid s k).1.regs.length, .data (ints (lastP ps k)), .data (ints (lastI inn k)), .data (ints (lastI sid k)), .own 1000009 1 1 0 (mAt c ps inn sid s k).1.values.length, .own 1000010 1 1 0 (mAt c ps inn sid s k).2.length, .map 1000011, .data (.i (mAt c ps inn sid s k).1.out)]), (1000007, .arr (mAt c ps inn sid s k).1.ver 1 ((mAt c ps inn sid s k).1.row.map intC)), (1000008, .arr 0 1 ((mAt c ps inn sid s k).1.regs.map intC)), (1000009, .arr 1 1 ((mAt c ps inn sid s k).1.values.map intC)), (1000010, .arr 1 1 ((mAt c ps inn sid s k).2.map lnC)), (1000011, .map false [.int .i64] ((mAt c ps inn sid s k).1.pushed.map kvD))]) [0, 2, 3, 4, 5, 8, 1] (fun i0 r0 k => k = i0 ∧ k ≤ ps.length), ?_⟩; with_reducible refine rangeL_rule (0) ?_ ?_ (fun i0 (k : (Nat)) hd0 hI0 => ?_) (fun i0 x0 r0 (k : (Nat)) hd0 hl0 hI0 => ?_))
    | (with_reducible refine rangeL_next hd0 (k + 1) ?_ ?_)
    | ((with_reducible refine lent_step' [(1000000, 1000006), (1000001, 1000007), (1000002, 1000008), (1000003, 1000009), (1000004, 1000010), (1000005, 1000011)] (step_call' c x0 (inn.drop k) (sid.drop k) (mAt c ps inn sid s k).2 (mAt c ps inn sid s k).1.ver (mAt c ps inn sid s k).1.row (mAt c ps inn sid s k).1.regs (mAt c ps inn sid s k).1.values (mAt c ps inn sid s k).1.pushed (mAt c ps inn sid s k).1.out (mAt c ps inn sid s (k + 1)).1 (mAt c ps inn sid s (k + 1)).2 (steps_E R hd0 hI0.1) (steps_S R hd0 hI0.1) rfl (steps_n R hd0 hI0.1) _ _ (ints_drop hI0.1) (ints_drop hI0.1)) ?_ ?_ ?_ ?_); rotate_left 0; exact rfl; (exact ⟨rfl, rfl, rfl, rfl, rfl, rfl, trivial⟩); exact rfl)
    | ((with_reducible refine lent_step' [] (hy k (steps_lt hd0 hI0.1)) ?_ ?_ ?_ ?_); rotate_left 0; exact rfl; (exact ⟨rfl, trivial⟩); exact rfl)
    | ((with_reducible refine ret_step ?_); refine fin_step' [] rfl ?_ ?_)
    | ((with_reducible refine idx_step ?_ ?_ ?_ ?_ ?_); exact rfl; exact rfl; rotate_left; (with_reducible exact idx_drop hd0))
    | ((with_reducible refine chk_stepP ?_ ?_); kernel_rfl)
    | (with_reducible refine And.intro ?_ ?_)
    | exact @rfl AV _
    | exact ble_le rfl
    | fail)
  all_goals first
    | (rfl)
    | (omega)
    | ((have hq := drop_lt hd0; have := R.inn; have := R.sid; have := R.cd.lat; simp only [List.length_map]; omega))
    | skip
end Go.Proofs.Ytcfpghieofhfkaa
