/- Contracts: the machine's step. -/
import Derived.Test.YtcfpghieofhfkaaZXB
import Derived.Test.YtcfpghieofhfkaaZMA
import Derived.Test.YtcfpghieofhfkaaZK8
set_option linter.unusedSimpArgs false
set_option linter.unusedVariables false
namespace Go.Proofs.Ytcfpghieofhfkaa
open Go.Fw Go.Fw.Mac
set_option maxRecDepth 10000
set_option linter.unusedSectionVars false
variable [GlobInt]
abbrev insA : List D := [.val .nilFunc, .fn 69 [], .fn 71 [], .fn 72 [], .fn 73 [], .fn 74 [], .fn 76 [], .fn 77 [], .fn 78 [], .fn 79 [], .fn 80 [], .fn 81 [], .fn 82 [], .fn 83 [], .fn 84 [], .fn 85 [], .fn 86 [], .fn 87 [], .fn 89 [], .fn 90 [], .fn 92 [], .fn 94 [], .fn 95 []]
set_option maxHeartbeats 400000 in
theorem instr_call   : PCall Try.prog 64 [] (.ret (.agg insA)) := by
  refine pcall_of_wc tok hmix ⟨[], []⟩ Try.func64 rfl (by kernel_rfl) (by kernel_rfl) (by kernel_rfl) fun hf => ?_
  clear hf
  repeat' ((try (conv => whnf)) <;> first
    | ((with_reducible refine ret_step ?_); refine ⟨[], rfl, ?_, trivial⟩; conv => whnf)
    | fail)
  all_goals first
    | skip
abbrev insI : List FuncId := [0, 69, 71, 72, 73, 74, 76, 77, 78, 79, 80, 81, 82, 83, 84, 85, 86, 87, 89, 90, 92, 94, 95]
def insF (op : Int) : FuncId := insI.getD op.toNat 0
theorem ins_ne {op : Int} (h : 1 ≤ op ∧ op ≤ 22) : Nat.beq (insF op) yldF = false := by
  have : op = 1 ∨ op = 2 ∨ op = 3 ∨ op = 4 ∨ op = 5 ∨ op = 6 ∨ op = 7 ∨ op = 8 ∨ op = 9 ∨ op = 10 ∨ op = 11 ∨ op = 12 ∨ op = 13 ∨ op = 14 ∨ op = 15 ∨ op = 16 ∨ op = 17 ∨ op = 18 ∨ op = 19 ∨ op = 20 ∨ op = 21 ∨ op = 22 := by omega
  rcases this with rfl | rfl | rfl | rfl | rfl | rfl | rfl | rfl | rfl | rfl | rfl | rfl | rfl | rfl | rfl | rfl | rfl | rfl | rfl | rfl | rfl | rfl
  all_goals rfl
theorem ins_any (c : Cd) (par inn sid : List Int) (lines : List (List Int)) (F p : PS) (op a : Int) (r : List (Int × Int)) (E : EnvOk c par inn sid lines) (h : StepI c par inn sid lines F ((op, a) :: r) p) :
    LCall Try.prog (insF op) [.ptr 1000000 0, .data (.i a)] [(1000000, .cells [.data (.i c.latency), .data (.i c.tail), .data (.sl 3 (c.params.map Bd.cs)), .data (.sl 3 (c.states.map Bd.cs)), .data (.sl 4 (c.lines.map Ln.cs)), .data (.sl 1 (c.tables.map lnC)), .data (.i c.regs), .data (.sl 2 (c.instrs.map insC)), .own 1000001 (p.ver) 1 0 (p.n), .own 1000002 0 1 0 (p.regs).length, .data (ints par), .data (ints inn), .data (ints sid), .own 1000003 1 1 0 (p.values).length, .own 1000004 1 1 0 lines.length, .map 1000005, .data (.i (p.out))]), (1000001, .arr (p.ver) 1 ((p.row).map intC)), (1000002, .arr 0 1 ((p.regs).map intC)), (1000003, .arr 1 1 ((p.values).map intC)), (1000004, .arr 1 1 (lines.map lnC)), (1000005, .map false [.int .i64] ((p.pushed).map kvD))] (.ret (.data (.tuple []))) [(1000000, .cells [.data (.i c.latency), .data (.i c.tail), .data (.sl 3 (c.params.map Bd.cs)), .data (.sl 3 (c.states.map Bd.cs)), .data (.sl 4 (c.lines.map Ln.cs)), .data (.sl 1 (c.tables.map lnC)), .data (.i c.regs), .data (.sl 2 (c.instrs.map insC)), .own 1000001 ((oneP c par inn sid lines p (op, a)).ver) 1 0 ((oneP c par inn sid lines p (op, a)).n), .own 1000002 0 1 0 ((oneP c par inn sid lines p (op, a)).regs).length, .data (ints par), .data (ints inn), .data (ints sid), .own 1000003 1 1 0 ((oneP c par inn sid lines p (op, a)).values).length, .own 1000004 1 1 0 lines.length, .map 1000005, .data (.i ((oneP c par inn sid lines p (op, a)).out))]), (1000001, .arr ((oneP c par inn sid lines p (op, a)).ver) 1 (((oneP c par inn sid lines p (op, a)).row).map intC)), (1000002, .arr 0 1 (((oneP c par inn sid lines p (op, a)).regs).map intC)), (1000003, .arr 1 1 (((oneP c par inn sid lines p (op, a)).values).map intC)), (1000004, .arr 1 1 (lines.map lnC)), (1000005, .map false [.int .i64] (((oneP c par inn sid lines p (op, a)).pushed).map kvD))] := by
  obtain ⟨ver, row, n, regs, values, pu, out⟩ := p
  rcases mstep_ops E h with ⟨rfl, ⟨m, rfl, hm, hr⟩⟩ | ⟨rfl, ⟨m, rfl, hm, hr⟩, h0, h1⟩ | ⟨rfl, ⟨m, rfl, hm, hr⟩, h0, h1⟩ | ⟨rfl, ⟨m, rfl, hm, hr⟩, h0, h1⟩ | ⟨rfl, ⟨m, rfl, hm, hr⟩, h0, h1⟩ | ⟨rfl, ⟨m, rfl, hm, hr⟩, h0, h1, h2⟩ | ⟨rfl, ⟨m, rfl, hm, hr⟩, h0, h1⟩ | ⟨rfl, ⟨m, rfl, hm, hr⟩, h0, h1⟩ | ⟨rfl, ⟨m, rfl, hm, hr⟩, h0, h1⟩ | ⟨rfl, ⟨m, rfl, hm, hr⟩, h0, h1, h2, h3, h4⟩ | ⟨rfl, ⟨m, rfl, hm, hr⟩, h0, h1, h3, h4⟩ | ⟨rfl, ⟨m, rfl, hm, hr⟩⟩ | ⟨rfl, ⟨m, rfl, hm, hr⟩⟩ | ⟨rfl, ⟨m, rfl, hm, hr⟩⟩ | ⟨rfl, ⟨m, rfl, hm, hr⟩⟩ | ⟨rfl, ⟨m, rfl, hm, hr⟩⟩ | ⟨rfl, ⟨m, rfl, hm, hr⟩⟩ | ⟨rfl, ⟨m, rfl, hm, hr⟩⟩ | ⟨rfl, ⟨m, rfl, hm, hr⟩⟩ | ⟨rfl, ⟨m, rfl, hm, hr⟩, hb⟩ | ⟨rfl, ⟨m, rfl, hm, hr⟩⟩ | ⟨rfl, ⟨m, rfl, hm, hr⟩⟩
  · exact ins1 c par inn sid lines ver row m regs values pu out a hm hr 
  · exact ins2 c par inn sid lines ver row m regs values pu out a hm hr h0 h1
  · exact ins3 c par inn sid lines ver row m regs values pu out a hm hr h0 h1
  · exact ins4 c par inn sid lines ver row m regs values pu out a hm hr h0 h1
  · exact ins5 c par inn sid lines ver row m regs values pu out a hm hr h0 h1
  · exact ins6 c par inn sid lines ver row m regs values pu out a hm hr h0 h1 h2
  · exact ins7 c par inn sid lines ver row m regs values pu out a hm hr h0 h1
  · exact ins8 c par inn sid lines ver row m regs values pu out a hm hr h0 h1
  · exact ins9 c par inn sid lines ver row m regs values pu out a hm hr h0 h1
  · exact ins10 c par inn sid lines ver row m regs values pu out a hm hr h0 h1 h2 h3 h4
  · exact ins11 c par inn sid lines ver row m regs values pu out a hm hr h0 h1 h3 h4
  · exact ins12 c par inn sid lines ver row m regs values pu out a hm hr 
  · exact ins13 c par inn sid lines ver row m regs values pu out a hm hr 
  · exact ins14 c par inn sid lines ver row m regs values pu out a hm hr 
  · exact ins15 c par inn sid lines ver row m regs values pu out a hm hr 
  · exact ins16 c par inn sid lines ver row m regs values pu out a hm hr 
  · exact ins17 c par inn sid lines ver row m regs values pu out a hm hr 
  · exact ins18 c par inn sid lines ver row m regs values pu out a hm hr 
  · exact ins19 c par inn sid lines ver row m regs values pu out a hm hr 
  · exact ins20 c par inn sid lines ver row m regs values pu out a hm hr hb
  · exact ins21 c par inn sid lines ver row m regs values pu out a hm hr 
  · exact ins22 c par inn sid lines ver row m regs values pu out a hm hr 
set_option maxHeartbeats 8000000 in
theorem step_call (c : Cd) (par inn sid : List Int) (lines : List (List Int)) (ver0 : Nat) (row0 regs0 values0 : List Int) (pu0 : List (Int × Int)) (out0 : Int) (F : PS) (G : List (List Int)) (E : EnvOk c par inn sid lines) (hS : StepI c par inn sid lines F c.instrs ⟨ver0, row0, 0, List.replicate regs0.length 0, values0, [], out0⟩) (hG : F.pushed.foldl updLn lines = G) : LCall Try.prog 52 [.ptr 1000000 0] [(1000000, .cells [.data (.i c.latency), .data (.i c.tail), .data (.sl 3 (c.params.map Bd.cs)), .data (.sl 3 (c.states.map Bd.cs)), .data (.sl 4 (c.lines.map Ln.cs)), .data (.sl 1 (c.tables.map lnC)), .data (.i c.regs), .data (.sl 2 (c.instrs.map insC)), .own 1000001 ver0 1 0 0, .own 1000002 0 1 0 regs0.length, .data (ints par), .data (ints inn), .data (ints sid), .own 1000003 1 1 0 values0.length, .own 1000004 1 1 0 lines.length, .map 1000005, .data (.i out0)]), (1000001, .arr ver0 1 (row0.map intC)), (1000002, .arr 0 1 (regs0.map intC)), (1000003, .arr 1 1 (values0.map intC)), (1000004, .arr 1 1 (lines.map lnC)), (1000005, .map false [.int .i64] (pu0.map kvD))] (.ret (.data (.tuple []))) [(1000000, .cells [.data (.i c.latency), .data (.i c.tail), .data (.sl 3 (c.params.map Bd.cs)), .data (.sl 3 (c.states.map Bd.cs)), .data (.sl 4 (c.lines.map Ln.cs)), .data (.sl 1 (c.tables.map lnC)), .data (.i c.regs), .data (.sl 2 (c.instrs.map insC)), .own 1000001 (F.ver) 1 0 (F.n), .own 1000002 0 1 0 (F.regs).length, .data (ints par), .data (ints inn), .data (ints sid), .own 1000003 1 1 0 (F.values).length, .own 1000004 1 1 0 G.length, .map 1000005, .data (.i (F.out))]), (1000001, .arr (F.ver) 1 ((F.row).map intC)), (1000002, .arr 0 1 ((F.regs).map intC)), (1000003, .arr 1 1 ((F.values).map intC)), (1000004, .arr 1 1 (G.map lnC)), (1000005, .map false [.int .i64] ((F.pushed).map kvD))] := by
  refine lcall_of_wcM tok hmix ⟨[], []⟩ Try.func52 rfl (by kernel_rfl) (by kernel_rfl) (by kernel_rfl) fun hf => ?_
  have g5 := E.sm.instrs
  have hlen : c.instrs.length ≤ 9223372036854775807 := by omega
  clear hf
  repeat' ((try (conv => whnf)) <;> first
    | (obtain ⟨op, a⟩ := x0; have hop := step_op E hI0)
    | ((have hop' := hop); clear hop'; split; rotate_left; (rename_i hv; exact none_some (hv.symm.trans (show _ = some (AV.data (D.fn (insF op) [])) by clear hv hI0 hd0; rcases op_list hop with rfl | rfl | rfl | rfl | rfl | rfl | rfl | rfl | rfl | rfl | rfl | rfl | rfl | rfl | rfl | rfl | rfl | rfl | rfl | rfl | rfl | rfl <;> rfl))); (rename_i v hv; obtain rfl : v = AV.data (D.fn (insF op) []) := Option.some.inj (hv.symm.trans (by clear hv hI0 hd0; rcases op_list hop with rfl | rfl | rfl | rfl | rfl | rfl | rfl | rfl | rfl | rfl | rfl | rfl | rfl | rfl | rfl | rfl | rfl | rfl | rfl | rfl | rfl | rfl <;> rfl)); clear hv; have hne := ins_ne hop; clear hop))
    | (refine beq_step hne ?_)
    | (have hq := mstep_end hI0; subst hq)
    | (obtain ⟨kv, rfl, hkv, hk1, hk2, hL2⟩ := mline_pick hL; clear hL)
    | (have hq := mline_end hL; subst hq; clear hL)
    | (refine ⟨lines, mline_start E hI0 hG, fun b => ?_⟩)
    | (refine ⟨updLn L kv, hL2, ?_⟩)
    | (exact Or.inl rfl)
    | with_reducible exact trivial
    | with_reducible exact idx_next hd0 ‹_›
    | with_reducible refine br_nil hd0 ?_
    | with_reducible refine br_cons hd0 ?_
    | ((with_reducible refine own_clear_step ?_ ?_ ?_ ?_ ?_); exact rfl; exact rfl; exact rfl; (exact Nat.le_of_eq (List.length_map _).symm))
    | ((with_reducible refine MapAt.mk 40 ?_); refine ⟨1000005, false, [.int .i64], pu.map kvD, ⟨rfl, rfl⟩, ⟨_, _, rfl⟩, ⟨List (List Int), [(0, .ptr 1000000 0)], fun L => [(1000000, .cells [.data (.i c.latency), .data (.i c.tail), .data (.sl 3 (c.params.map Bd.cs)), .data (.sl 3 (c.states.map Bd.cs)), .data (.sl 4 (c.lines.map Ln.cs)), .data (.sl 1 (c.tables.map lnC)), .data (.i c.regs), .data (.sl 2 (c.instrs.map insC)), .own 1000001 ver 1 0 n, .own 1000002 0 1 0 regs.length, .data (ints par), .data (ints inn), .data (ints sid), .own 1000003 1 1 0 values.length, .own 1000004 1 1 0 L.length, .map 1000005, .data (.i out)]), (1000001, .arr ver 1 (row.map intC)), (1000002, .arr 0 1 (regs.map intC)), (1000003, .arr 1 1 (values.map intC)), (1000004, .arr 1 1 (L.map lnC))], lineI c.lines.length G⟩, ?_⟩; refine ⟨?_, rfl, fun _ _ => rfl, fun _ => rfl, rfl, fun L l1 x l2 b r hL => ?_, fun L hL => ?_⟩)
    | ((with_reducible refine own_idx_step ?_ ?_ ?_ ?_ ?_); exact rfl; exact rfl; exact rfl; exact hkv)
    | ((with_reducible refine own_load_step ?_ ?_ ?_ ?_ ?_ ?_ ?_); exact rfl; exact rfl; rotate_left 2; exact own_inL hkv.1 hkv.2; exact rfl)
    | ((with_reducible refine own_store_step ?_ ?_ ?_ ?_ ?_ ?_ ?_ ?_ ?_); exact rfl; exact rfl; exact rfl; exact rfl; exact ble_le rfl; exact rfl; rotate_left; exact own_inL hkv.1 hkv.2)
    | (exact clear_arr)
    | (exact own_rep)
    | (exact own_upd)
    | (exact mline_arr hk1 hk2)
    | ((with_reducible refine LoopAt.mk 0 ?_); refine ⟨rangeL (c.instrs) 23 (fun (q : (Nat) × (List Int) × (Nat) × (List Int) × (List Int) × (List (Int × Int)) × (Int)) => match q with | (ver, row, n, regs, values, pu, out) => []) (fun (q : (Nat) × (List Int) × (Nat) × (List Int) × (List Int) × (List (Int × Int)) × (Int)) => match q with | (ver, row, n, regs, values, pu, out) => [(1000000, .cells [.data (.i c.latency), .data (.i c.tail), .data (.sl 3 (c.params.map Bd.cs)), .data (.sl 3 (c.states.map Bd.cs)), .data (.sl 4 (c.lines.map Ln.cs)), .data (.sl 1 (c.tables.map lnC)), .data (.i c.regs), .data (.sl 2 (c.instrs.map insC)), .own 1000001 ver 1 0 n, .own 1000002 0 1 0 regs.length, .data (ints par), .data (ints inn), .data (ints sid), .own 1000003 1 1 0 values.length, .own 1000004 1 1 0 lines.length, .map 1000005, .data (.i out)]), (1000001, .arr ver 1 (row.map intC)), (1000002, .arr 0 1 (regs.map intC)), (1000003, .arr 1 1 (values.map intC)), (1000004, .arr 1 1 (lines.map lnC)), (1000005, .map false [.int .i64] (pu.map kvD))]) [0, 2, 21, 22] (fun i0 r0 q => match q with | (ver, row, n, regs, values, pu, out) => StepI c par inn sid lines F r0 ⟨ver, row, n, regs, values, pu, out⟩), ?_⟩; with_reducible refine rangeL_rule ((ver0), (row0), (0), (List.replicate regs0.length 0), (values0), ([]), (out0)) ?_ ?_ (fun i0 ⟨ver, row, n, regs, values, pu, out⟩ hd0 hI0 => ?_) (fun i0 x0 r0 ⟨ver, row, n, regs, values, pu, out⟩ hd0 hl0 hI0 => ?_))
    | (with_reducible refine rangeL_next hd0 (?_, ?_, ?_, ?_, ?_, ?_, ?_) ?_ ?_)
    | ((with_reducible refine call_step ?_ ?_ ?_); rotate_left; (exact instr_call))
    | ((with_reducible refine lent_step' [] (ins_any c par inn sid lines F ⟨ver, row, n, regs, values, pu, out⟩ op a _ E hI0) ?_ ?_ ?_ ?_); rotate_left 0; exact rfl; (exact ⟨rfl, rfl, rfl, rfl, rfl, rfl, trivial⟩); exact rfl)
    | ((with_reducible refine ret_step ?_); refine fin_step' [] rfl ?_ ?_)
    | (with_reducible refine ChooseI.l _ ?_)
    | ((with_reducible refine idx_step ?_ ?_ ?_ ?_ ?_); exact rfl; exact rfl; rotate_left; (with_reducible exact idx_drop hd0))
    | ((with_reducible refine len_step ?_ ?_); exact rfl)
    | ((with_reducible refine app_step' ?_ ?_ ?_ ?_ ?_ ?_ ?_); exact rfl; exact rfl; exact rfl; exact rfl)
    | ((with_reducible refine chk_stepP ?_ ?_); kernel_rfl)
    | (with_reducible refine And.intro ?_ ?_)
    | exact @rfl AV _
    | exact @rfl Block _
    | exact @rfl (List AV) _
    | exact ble_le rfl
    | fail)
  all_goals first
    | (rfl)
    | ((exact hS))
    | ((exact mstep_next E hI0))
    | ((exact (mline_cut hk1 hk2).1))
    | ((exact (mline_cut hk1 hk2).2))
    | ((exact mline_len hk2))
    | (omega)
    | skip
end Go.Proofs.Ytcfpghieofhfkaa
