/- Contracts: the machine's numbers; the stack. -/
import Derived.Test.YtcfpghieofhfkaaZK6
import Derived.Test.YtcfpghieofhfkaaZMA
set_option linter.unusedSimpArgs false
set_option linter.unusedVariables false
namespace Go.Proofs.Ytcfpghieofhfkaa
open Go.Fw Go.Fw.Mac
set_option maxRecDepth 10000
set_option linter.unusedSectionVars false
variable [GlobInt]
set_option maxHeartbeats 400000 in
theorem held_call (v lo hi : Int)  : PCall Try.prog 23 [.i v, .i lo, .i hi] (.ret (.i (heldM v lo hi))) := by
  refine pcall_of_wc tok hmix ⟨[], []⟩ Try.func23 rfl (by kernel_rfl) (by kernel_rfl) (by kernel_rfl) fun hf => ?_
  clear hf
  repeat' ((try (conv => whnf)) <;> first
    | ((with_reducible refine ret_step ?_); refine ⟨[], rfl, ?_, trivial⟩; conv => whnf)
    | fail)
  all_goals first
    | (rfl)
    | skip
set_option maxHeartbeats 400000 in
theorem clip_call (x : Int)  : PCall Try.prog 46 [.i x] (.ret (.i (clipM x))) := by
  refine pcall_of_wc tok hmix ⟨[], []⟩ Try.func46 rfl (by kernel_rfl) (by kernel_rfl) (by kernel_rfl) fun hf => ?_
  clear hf
  repeat' ((try (conv => whnf)) <;> first
    | with_reducible refine BrI.intro (fun h => ?_) (fun h => ?_)
    | ((with_reducible refine ret_step ?_); refine ⟨[], rfl, ?_, trivial⟩; conv => whnf)
    | fail)
  all_goals first
    | ((simp only [clipM, *, cond_true, cond_false]; done))
    | skip
set_option maxHeartbeats 400000 in
theorem add_call (a b : Int)  : PCall Try.prog 88 [.i a, .i b] (.ret (.i (addM a b))) := by
  refine pcall_of_wc tok hmix ⟨[], []⟩ Try.func88 rfl (by kernel_rfl) (by kernel_rfl) (by kernel_rfl) fun hf => ?_
  clear hf
  repeat' ((try (conv => whnf)) <;> first
    | with_reducible refine BrI.intro (fun h => ?_) (fun h => ?_)
    | ((with_reducible refine ret_step ?_); refine ⟨[], rfl, ?_, trivial⟩; conv => whnf)
    | fail)
  all_goals first
    | ((simp only [addM, *, cond_true, cond_false]; done))
    | skip
set_option maxHeartbeats 400000 in
theorem mul_call (a b : Int)  : PCall Try.prog 91 [.i a, .i b] (.ret (.i (mulM a b))) := by
  refine pcall_of_wc tok hmix ⟨[], []⟩ Try.func91 rfl (by kernel_rfl) (by kernel_rfl) (by kernel_rfl) fun hf => ?_
  clear hf
  repeat' ((try (conv => whnf)) <;> first
    | with_reducible refine BrI.intro (fun h => ?_) (fun h => ?_)
    | ((with_reducible refine call_step ?_ ?_ ?_); rotate_left; (exact held_call _ _ _))
    | ((with_reducible refine guard_step ?_ ?_ (fun hg => ?_) ?_); exact rfl)
    | ((with_reducible refine val_step ?_ ?_); with_reducible exact rfl; with_reducible exact rfl)
    | ((with_reducible refine ret_step ?_); refine ⟨[], rfl, ?_, trivial⟩; conv => whnf)
    | (with_reducible refine And.intro ?_ ?_)
    | fail)
  all_goals first
    | ((intro hb; subst hb; cases ha : (a == 0) <;> simp [ha] at h; done))
    | ((simp only [mulM, clM, *, cond_true, cond_false]; done))
    | skip
set_option maxHeartbeats 400000 in
theorem down_call (a b : Int) (hb : b ≠ 0) : PCall Try.prog 93 [.i a, .i b] (.ret (.i (downM a b))) := by
  refine pcall_of_wc tok hmix ⟨[], []⟩ Try.func93 rfl (by kernel_rfl) (by kernel_rfl) (by kernel_rfl) fun hf => ?_
  clear hf
  repeat' ((try (conv => whnf)) <;> first
    | with_reducible refine BrI.intro (fun h => ?_) (fun h => ?_)
    | ((with_reducible refine ret_step ?_); refine ⟨[], rfl, ?_, trivial⟩; conv => whnf)
    | (with_reducible refine And.intro ?_ ?_)
    | fail)
  all_goals first
    | (assumption)
    | ((simp only [downM, *, cond_true, cond_false]; done))
    | skip
set_option maxHeartbeats 400000 in
theorem pop_call (c : Cd) (par inn sid : List Int) (lines : List (List Int)) (ver : Nat) (row : List Int) (m : Nat) (regs values : List Int) (pu : List (Int × Int)) (out : Int) (hm : m ≤ 1073741824) (hr : m < row.length) : LCall Try.prog 75 [.ptr 1000000 0] [(1000000, .cells [.data (.i c.latency), .data (.i c.tail), .data (.sl 3 (c.params.map Bd.cs)), .data (.sl 3 (c.states.map Bd.cs)), .data (.sl 4 (c.lines.map Ln.cs)), .data (.sl 1 (c.tables.map lnC)), .data (.i c.regs), .data (.sl 2 (c.instrs.map insC)), .own 1000001 ver 1 0 (m + 1), .own 1000002 0 1 0 regs.length, .data (ints par), .data (ints inn), .data (ints sid), .own 1000003 1 1 0 values.length, .own 1000004 1 1 0 lines.length, .map 1000005, .data (.i out)]), (1000001, .arr ver 1 (row.map intC)), (1000002, .arr 0 1 (regs.map intC)), (1000003, .arr 1 1 (values.map intC)), (1000004, .arr 1 1 (lines.map lnC)), (1000005, .map false [.int .i64] (pu.map kvD))] (.ret (.data (.i (row.getD m 0)))) [(1000000, .cells [.data (.i c.latency), .data (.i c.tail), .data (.sl 3 (c.params.map Bd.cs)), .data (.sl 3 (c.states.map Bd.cs)), .data (.sl 4 (c.lines.map Ln.cs)), .data (.sl 1 (c.tables.map lnC)), .data (.i c.regs), .data (.sl 2 (c.instrs.map insC)), .own 1000001 ver 1 0 m, .own 1000002 0 1 0 regs.length, .data (ints par), .data (ints inn), .data (ints sid), .own 1000003 1 1 0 values.length, .own 1000004 1 1 0 lines.length, .map 1000005, .data (.i out)]), (1000001, .arr ver 1 (row.map intC)), (1000002, .arr 0 1 (regs.map intC)), (1000003, .arr 1 1 (values.map intC)), (1000004, .arr 1 1 (lines.map lnC)), (1000005, .map false [.int .i64] (pu.map kvD))] := by
  refine lcall_of_wc tok hmix ⟨[], []⟩ Try.func75 rfl (by kernel_rfl) (by kernel_rfl) (by kernel_rfl) fun hf => ?_
  clear hf
  repeat' ((try (conv => whnf)) <;> first
    | with_reducible exact trivial
    | ((with_reducible refine own_idx_step ?_ ?_ ?_ ?_ ?_); exact rfl; exact rfl; exact rfl; exact pop_idx hm)
    | ((with_reducible refine own_load_step ?_ ?_ ?_ ?_ ?_ ?_ ?_); exact rfl; exact rfl; rotate_left 2; exact pop_get hm hr; exact rfl)
    | ((with_reducible refine own_slice_step ?_ ?_ ?_ ?_ ?_); exact rfl; exact rfl; exact rfl; exact pop_cut hm)
    | (exact pop_own hm)
    | ((with_reducible refine ret_step ?_); refine fin_step' [] rfl ?_ ?_)
    | (with_reducible refine And.intro ?_ ?_)
    | exact @rfl AV _
    | fail)
  all_goals first
    | skip
set_option maxHeartbeats 400000 in
theorem put_call (c : Cd) (par inn sid : List Int) (lines : List (List Int)) (ver : Nat) (row : List Int) (n : Nat) (regs values : List Int) (pu : List (Int × Int)) (out : Int) (v : Int) (hn : n ≤ 1073741823) (hr : n ≤ row.length) : LCall Try.prog 70 [.ptr 1000000 0, .data (.i v)] [(1000000, .cells [.data (.i c.latency), .data (.i c.tail), .data (.sl 3 (c.params.map Bd.cs)), .data (.sl 3 (c.states.map Bd.cs)), .data (.sl 4 (c.lines.map Ln.cs)), .data (.sl 1 (c.tables.map lnC)), .data (.i c.regs), .data (.sl 2 (c.instrs.map insC)), .own 1000001 ver 1 0 n, .own 1000002 0 1 0 regs.length, .data (ints par), .data (ints inn), .data (ints sid), .own 1000003 1 1 0 values.length, .own 1000004 1 1 0 lines.length, .map 1000005, .data (.i out)]), (1000001, .arr ver 1 (row.map intC)), (1000002, .arr 0 1 (regs.map intC)), (1000003, .arr 1 1 (values.map intC)), (1000004, .arr 1 1 (lines.map lnC)), (1000005, .map false [.int .i64] (pu.map kvD))] (.ret (.data (.tuple []))) [(1000000, .cells [.data (.i c.latency), .data (.i c.tail), .data (.sl 3 (c.params.map Bd.cs)), .data (.sl 3 (c.states.map Bd.cs)), .data (.sl 4 (c.lines.map Ln.cs)), .data (.sl 1 (c.tables.map lnC)), .data (.i c.regs), .data (.sl 2 (c.instrs.map insC)), .own 1000001 (ver + 1) 1 0 (n + 1), .own 1000002 0 1 0 regs.length, .data (ints par), .data (ints inn), .data (ints sid), .own 1000003 1 1 0 values.length, .own 1000004 1 1 0 lines.length, .map 1000005, .data (.i out)]), (1000001, .arr (ver + 1) 1 ((row.take n ++ [clM v]).map intC)), (1000002, .arr 0 1 (regs.map intC)), (1000003, .arr 1 1 (values.map intC)), (1000004, .arr 1 1 (lines.map lnC)), (1000005, .map false [.int .i64] (pu.map kvD))] := by
  refine lcall_of_wc tok hmix ⟨[], []⟩ Try.func70 rfl (by kernel_rfl) (by kernel_rfl) (by kernel_rfl) fun hf => ?_
  clear hf
  repeat' ((try (conv => whnf)) <;> first
    | with_reducible exact trivial
    | ((with_reducible refine own_app_step ?_ ?_ ?_ ?_ ?_ ?_ ?_ ?_); exact rfl; exact rfl; exact rfl; (rw [List.length_map]; exact hr); exact rfl; (exact Nat.le_succ_of_le hn); exact ble_le rfl)
    | (exact put_arr)
    | ((with_reducible refine call_step ?_ ?_ ?_); rotate_left; (exact held_call _ _ _))
    | ((with_reducible refine ret_step ?_); refine fin_step' [] rfl ?_ ?_)
    | (with_reducible refine ChooseI.l _ ?_)
    | ((with_reducible refine chk_stepP ?_ ?_); kernel_rfl)
    | (with_reducible refine And.intro ?_ ?_)
    | exact @rfl AV _
    | fail)
  all_goals first
    | skip
end Go.Proofs.Ytcfpghieofhfkaa
namespace Go.Proofs.Ytcfpghieofhfkaa
open Go.Fw Go.Fw.Mac
set_option maxRecDepth 10000
set_option linter.unusedSectionVars false
variable [GlobInt]
set_option maxHeartbeats 1000000 in
theorem ins1 (c : Cd) (par inn sid : List Int) (lines : List (List Int)) (ver : Nat) (row : List Int) (m : Nat) (regs values : List Int) (pu : List (Int × Int)) (out : Int) (a : Int) (hm : m ≤ 1000000) (hr : m ≤ row.length)  : LCall Try.prog 69 [.ptr 1000000 0, .data (.i a)] [(1000000, .cells [.data (.i c.latency), .data (.i c.tail), .data (.sl 3 (c.params.map Bd.cs)), .data (.sl 3 (c.states.map Bd.cs)), .data (.sl 4 (c.lines.map Ln.cs)), .data (.sl 1 (c.tables.map lnC)), .data (.i c.regs), .data (.sl 2 (c.instrs.map insC)), .own 1000001 ver 1 0 m, .own 1000002 0 1 0 regs.length, .data (ints par), .data (ints inn), .data (ints sid), .own 1000003 1 1 0 values.length, .own 1000004 1 1 0 lines.length, .map 1000005, .data (.i out)]), (1000001, .arr ver 1 (row.map intC)), (1000002, .arr 0 1 (regs.map intC)), (1000003, .arr 1 1 (values.map intC)), (1000004, .arr 1 1 (lines.map lnC)), (1000005, .map false [.int .i64] (pu.map kvD))] (.ret (.data (.tuple []))) [(1000000, .cells [.data (.i c.latency), .data (.i c.tail), .data (.sl 3 (c.params.map Bd.cs)), .data (.sl 3 (c.states.map Bd.cs)), .data (.sl 4 (c.lines.map Ln.cs)), .data (.sl 1 (c.tables.map lnC)), .data (.i c.regs), .data (.sl 2 (c.instrs.map insC)), .own 1000001 (ver + 1) 1 0 (m + 1), .own 1000002 0 1 0 regs.length, .data (ints par), .data (ints inn), .data (ints sid), .own 1000003 1 1 0 values.length, .own 1000004 1 1 0 lines.length, .map 1000005, .data (.i out)]), (1000001, .arr (ver + 1) 1 ((row.take m ++ [clM a]).map intC)), (1000002, .arr 0 1 (regs.map intC)), (1000003, .arr 1 1 (values.map intC)), (1000004, .arr 1 1 (lines.map lnC)), (1000005, .map false [.int .i64] (pu.map kvD))] := by
  refine lcall_of_wc tok hmix ⟨[], []⟩ Try.func69 rfl (by kernel_rfl) (by kernel_rfl) (by kernel_rfl) fun hf => ?_
  clear hf
  repeat' ((try (conv => whnf)) <;> first
    | with_reducible exact trivial
    | ((with_reducible refine lent_step' [] (put_call c par inn sid lines ver row m regs values pu out a (by omega) (by omega)) ?_ ?_ ?_ ?_); rotate_left 0; exact rfl; (exact ⟨rfl, rfl, rfl, rfl, rfl, rfl, trivial⟩); exact rfl)
    | ((with_reducible refine ret_step ?_); refine fin_step' [] rfl ?_ ?_)
    | (with_reducible refine And.intro ?_ ?_)
    | exact @rfl AV _
    | fail)
  all_goals first
    | skip
set_option maxHeartbeats 1000000 in
theorem ins2 (c : Cd) (par inn sid : List Int) (lines : List (List Int)) (ver : Nat) (row : List Int) (m : Nat) (regs values : List Int) (pu : List (Int × Int)) (out : Int) (a : Int) (hm : m ≤ 1000000) (hr : m ≤ row.length) (h0 : 0 ≤ a) (h1 : a < par.length) : LCall Try.prog 71 [.ptr 1000000 0, .data (.i a)] [(1000000, .cells [.data (.i c.latency), .data (.i c.tail), .data (.sl 3 (c.params.map Bd.cs)), .data (.sl 3 (c.states.map Bd.cs)), .data (.sl 4 (c.lines.map Ln.cs)), .data (.sl 1 (c.tables.map lnC)), .data (.i c.regs), .data (.sl 2 (c.instrs.map insC)), .own 1000001 ver 1 0 m, .own 1000002 0 1 0 regs.length, .data (ints par), .data (ints inn), .data (ints sid), .own 1000003 1 1 0 values.length, .own 1000004 1 1 0 lines.length, .map 1000005, .data (.i out)]), (1000001, .arr ver 1 (row.map intC)), (1000002, .arr 0 1 (regs.map intC)), (1000003, .arr 1 1 (values.map intC)), (1000004, .arr 1 1 (lines.map lnC)), (1000005, .map false [.int .i64] (pu.map kvD))] (.ret (.data (.tuple []))) [(1000000, .cells [.data (.i c.latency), .data (.i c.tail), .data (.sl 3 (c.params.map Bd.cs)), .data (.sl 3 (c.states.map Bd.cs)), .data (.sl 4 (c.lines.map Ln.cs)), .data (.sl 1 (c.tables.map lnC)), .data (.i c.regs), .data (.sl 2 (c.instrs.map insC)), .own 1000001 (ver + 1) 1 0 (m + 1), .own 1000002 0 1 0 regs.length, .data (ints par), .data (ints inn), .data (ints sid), .own 1000003 1 1 0 values.length, .own 1000004 1 1 0 lines.length, .map 1000005, .data (.i out)]), (1000001, .arr (ver + 1) 1 ((row.take m ++ [clM (par.getD a.toNat 0)]).map intC)), (1000002, .arr 0 1 (regs.map intC)), (1000003, .arr 1 1 (values.map intC)), (1000004, .arr 1 1 (lines.map lnC)), (1000005, .map false [.int .i64] (pu.map kvD))] := by
  refine lcall_of_wc tok hmix ⟨[], []⟩ Try.func71 rfl (by kernel_rfl) (by kernel_rfl) (by kernel_rfl) fun hf => ?_
  clear hf
  repeat' ((try (conv => whnf)) <;> first
    | with_reducible exact trivial
    | ((with_reducible refine idx_step ?_ ?_ ?_ ?_ ?_); exact rfl; exact rfl; rotate_left; exact idx_in h0 h1)
    | ((with_reducible refine lent_step' [] (put_call c par inn sid lines ver row m regs values pu out (par.getD a.toNat 0) (by omega) (by omega)) ?_ ?_ ?_ ?_); rotate_left 0; exact rfl; (exact ⟨rfl, rfl, rfl, rfl, rfl, rfl, trivial⟩); exact rfl)
    | ((with_reducible refine ret_step ?_); refine fin_step' [] rfl ?_ ?_)
    | (with_reducible refine And.intro ?_ ?_)
    | exact @rfl AV _
    | fail)
  all_goals first
    | skip
set_option maxHeartbeats 1000000 in
theorem ins3 (c : Cd) (par inn sid : List Int) (lines : List (List Int)) (ver : Nat) (row : List Int) (m : Nat) (regs values : List Int) (pu : List (Int × Int)) (out : Int) (a : Int) (hm : m ≤ 1000000) (hr : m ≤ row.length) (h0 : 0 ≤ a) (h1 : a < values.length) : LCall Try.prog 72 [.ptr 1000000 0, .data (.i a)] [(1000000, .cells [.data (.i c.latency), .data (.i c.tail), .data (.sl 3 (c.params.map Bd.cs)), .data (.sl 3 (c.states.map Bd.cs)), .data (.sl 4 (c.lines.map Ln.cs)), .data (.sl 1 (c.tables.map lnC)), .data (.i c.regs), .data (.sl 2 (c.instrs.map insC)), .own 1000001 ver 1 0 m, .own 1000002 0 1 0 regs.length, .data (ints par), .data (ints inn), .data (ints sid), .own 1000003 1 1 0 values.length, .own 1000004 1 1 0 lines.length, .map 1000005, .data (.i out)]), (1000001, .arr ver 1 (row.map intC)), (1000002, .arr 0 1 (regs.map intC)), (1000003, .arr 1 1 (values.map intC)), (1000004, .arr 1 1 (lines.map lnC)), (1000005, .map false [.int .i64] (pu.map kvD))] (.ret (.data (.tuple []))) [(1000000, .cells [.data (.i c.latency), .data (.i c.tail), .data (.sl 3 (c.params.map Bd.cs)), .data (.sl 3 (c.states.map Bd.cs)), .data (.sl 4 (c.lines.map Ln.cs)), .data (.sl 1 (c.tables.map lnC)), .data (.i c.regs), .data (.sl 2 (c.instrs.map insC)), .own 1000001 (ver + 1) 1 0 (m + 1), .own 1000002 0 1 0 regs.length, .data (ints par), .data (ints inn), .data (ints sid), .own 1000003 1 1 0 values.length, .own 1000004 1 1 0 lines.length, .map 1000005, .data (.i out)]), (1000001, .arr (ver + 1) 1 ((row.take m ++ [clM (values.getD a.toNat 0)]).map intC)), (1000002, .arr 0 1 (regs.map intC)), (1000003, .arr 1 1 (values.map intC)), (1000004, .arr 1 1 (lines.map lnC)), (1000005, .map false [.int .i64] (pu.map kvD))] := by
  refine lcall_of_wc tok hmix ⟨[], []⟩ Try.func72 rfl (by kernel_rfl) (by kernel_rfl) (by kernel_rfl) fun hf => ?_
  clear hf
  repeat' ((try (conv => whnf)) <;> first
    | with_reducible exact trivial
    | ((with_reducible refine own_idx_step ?_ ?_ ?_ ?_ ?_); exact rfl; exact rfl; exact rfl; exact ⟨h0, h1⟩)
    | ((with_reducible refine own_load_step ?_ ?_ ?_ ?_ ?_ ?_ ?_); exact rfl; exact rfl; rotate_left 2; exact own_in h0 h1; exact rfl)
    | ((with_reducible refine lent_step' [] (put_call c par inn sid lines ver row m regs values pu out (values.getD a.toNat 0) (by omega) (by omega)) ?_ ?_ ?_ ?_); rotate_left 0; exact rfl; (exact ⟨rfl, rfl, rfl, rfl, rfl, rfl, trivial⟩); exact rfl)
    | ((with_reducible refine ret_step ?_); refine fin_step' [] rfl ?_ ?_)
    | (with_reducible refine And.intro ?_ ?_)
    | exact @rfl AV _
    | fail)
  all_goals first
    | skip
set_option maxHeartbeats 1000000 in
theorem ins4 (c : Cd) (par inn sid : List Int) (lines : List (List Int)) (ver : Nat) (row : List Int) (m : Nat) (regs values : List Int) (pu : List (Int × Int)) (out : Int) (a : Int) (hm : m ≤ 1000000) (hr : m ≤ row.length) (h0 : 0 ≤ a) (h1 : a < regs.length) : LCall Try.prog 73 [.ptr 1000000 0, .data (.i a)] [(1000000, .cells [.data (.i c.latency), .data (.i c.tail), .data (.sl 3 (c.params.map Bd.cs)), .data (.sl 3 (c.states.map Bd.cs)), .data (.sl 4 (c.lines.map Ln.cs)), .data (.sl 1 (c.tables.map lnC)), .data (.i c.regs), .data (.sl 2 (c.instrs.map insC)), .own 1000001 ver 1 0 m, .own 1000002 0 1 0 regs.length, .data (ints par), .data (ints inn), .data (ints sid), .own 1000003 1 1 0 values.length, .own 1000004 1 1 0 lines.length, .map 1000005, .data (.i out)]), (1000001, .arr ver 1 (row.map intC)), (1000002, .arr 0 1 (regs.map intC)), (1000003, .arr 1 1 (values.map intC)), (1000004, .arr 1 1 (lines.map lnC)), (1000005, .map false [.int .i64] (pu.map kvD))] (.ret (.data (.tuple []))) [(1000000, .cells [.data (.i c.latency), .data (.i c.tail), .data (.sl 3 (c.params.map Bd.cs)), .data (.sl 3 (c.states.map Bd.cs)), .data (.sl 4 (c.lines.map Ln.cs)), .data (.sl 1 (c.tables.map lnC)), .data (.i c.regs), .data (.sl 2 (c.instrs.map insC)), .own 1000001 (ver + 1) 1 0 (m + 1), .own 1000002 0 1 0 regs.length, .data (ints par), .data (ints inn), .data (ints sid), .own 1000003 1 1 0 values.length, .own 1000004 1 1 0 lines.length, .map 1000005, .data (.i out)]), (1000001, .arr (ver + 1) 1 ((row.take m ++ [clM (regs.getD a.toNat 0)]).map intC)), (1000002, .arr 0 1 (regs.map intC)), (1000003, .arr 1 1 (values.map intC)), (1000004, .arr 1 1 (lines.map lnC)), (1000005, .map false [.int .i64] (pu.map kvD))] := by
  refine lcall_of_wc tok hmix ⟨[], []⟩ Try.func73 rfl (by kernel_rfl) (by kernel_rfl) (by kernel_rfl) fun hf => ?_
  clear hf
  repeat' ((try (conv => whnf)) <;> first
    | with_reducible exact trivial
    | ((with_reducible refine own_idx_step ?_ ?_ ?_ ?_ ?_); exact rfl; exact rfl; exact rfl; exact ⟨h0, h1⟩)
    | ((with_reducible refine own_load_step ?_ ?_ ?_ ?_ ?_ ?_ ?_); exact rfl; exact rfl; rotate_left 2; exact own_in h0 h1; exact rfl)
    | ((with_reducible refine lent_step' [] (put_call c par inn sid lines ver row m regs values pu out (regs.getD a.toNat 0) (by omega) (by omega)) ?_ ?_ ?_ ?_); rotate_left 0; exact rfl; (exact ⟨rfl, rfl, rfl, rfl, rfl, rfl, trivial⟩); exact rfl)
    | ((with_reducible refine ret_step ?_); refine fin_step' [] rfl ?_ ?_)
    | (with_reducible refine And.intro ?_ ?_)
    | exact @rfl AV _
    | fail)
  all_goals first
    | skip
set_option maxHeartbeats 1000000 in
theorem ins5 (c : Cd) (par inn sid : List Int) (lines : List (List Int)) (ver : Nat) (row : List Int) (m : Nat) (regs values : List Int) (pu : List (Int × Int)) (out : Int) (a : Int) (hm : m ≤ 1000000) (hr : m + 1 ≤ row.length) (h0 : 0 ≤ a) (h1 : a < regs.length) : LCall Try.prog 74 [.ptr 1000000 0, .data (.i a)] [(1000000, .cells [.data (.i c.latency), .data (.i c.tail), .data (.sl 3 (c.params.map Bd.cs)), .data (.sl 3 (c.states.map Bd.cs)), .data (.sl 4 (c.lines.map Ln.cs)), .data (.sl 1 (c.tables.map lnC)), .data (.i c.regs), .data (.sl 2 (c.instrs.map insC)), .own 1000001 ver 1 0 (m + 1), .own 1000002 0 1 0 regs.length, .data (ints par), .data (ints inn), .data (ints sid), .own 1000003 1 1 0 values.length, .own 1000004 1 1 0 lines.length, .map 1000005, .data (.i out)]), (1000001, .arr ver 1 (row.map intC)), (1000002, .arr 0 1 (regs.map intC)), (1000003, .arr 1 1 (values.map intC)), (1000004, .arr 1 1 (lines.map lnC)), (1000005, .map false [.int .i64] (pu.map kvD))] (.ret (.data (.tuple []))) [(1000000, .cells [.data (.i c.latency), .data (.i c.tail), .data (.sl 3 (c.params.map Bd.cs)), .data (.sl 3 (c.states.map Bd.cs)), .data (.sl 4 (c.lines.map Ln.cs)), .data (.sl 1 (c.tables.map lnC)), .data (.i c.regs), .data (.sl 2 (c.instrs.map insC)), .own 1000001 ver 1 0 m, .own 1000002 0 1 0 (regs.set a.toNat (row.getD m 0)).length, .data (ints par), .data (ints inn), .data (ints sid), .own 1000003 1 1 0 values.length, .own 1000004 1 1 0 lines.length, .map 1000005, .data (.i out)]), (1000001, .arr ver 1 (row.map intC)), (1000002, .arr 0 1 ((regs.set a.toNat (row.getD m 0)).map intC)), (1000003, .arr 1 1 (values.map intC)), (1000004, .arr 1 1 (lines.map lnC)), (1000005, .map false [.int .i64] (pu.map kvD))] := by
  refine lcall_of_wc tok hmix ⟨[], []⟩ Try.func74 rfl (by kernel_rfl) (by kernel_rfl) (by kernel_rfl) fun hf => ?_
  clear hf
  repeat' ((try (conv => whnf)) <;> first
    | ((with_reducible refine chk_soft [(3, 1000000)] ?_ ?_ ?_); kernel_rfl; (with_reducible refine softL_cons ?_ ?_); (refine soft_one rfl rfl rfl rfl rfl rfl ?_); (repeat ((refine cellW_cons ?_ ?_); (first | exact trivial | exact rfl))); (exact cellW_nil); (with_reducible exact softL_nil))
    | with_reducible exact trivial
    | ((with_reducible refine own_idx_step ?_ ?_ ?_ ?_ ?_); exact rfl; exact rfl; exact rfl; exact ⟨h0, h1⟩)
    | ((with_reducible refine own_store_step ?_ ?_ ?_ ?_ ?_ ?_ ?_ ?_ ?_); exact rfl; exact rfl; exact rfl; exact rfl; exact ble_le rfl; exact rfl; rotate_left; exact own_in h0 h1)
    | (exact set_arr)
    | (exact set_len)
    | ((with_reducible refine lent_step' [] (pop_call c par inn sid lines ver row m regs values pu out (by omega) (by omega)) ?_ ?_ ?_ ?_); rotate_left 0; exact rfl; (exact ⟨rfl, rfl, rfl, rfl, rfl, rfl, trivial⟩); exact rfl)
    | ((with_reducible refine ret_step ?_); refine fin_step' [] rfl ?_ ?_)
    | (with_reducible refine And.intro ?_ ?_)
    | exact @rfl AV _
    | fail)
  all_goals first
    | skip
set_option maxHeartbeats 1000000 in
theorem ins6 (c : Cd) (par inn sid : List Int) (lines : List (List Int)) (ver : Nat) (row : List Int) (m : Nat) (regs values : List Int) (pu : List (Int × Int)) (out : Int) (a : Int) (hm : m ≤ 1000000) (hr : m + 1 ≤ row.length) (h0 : 0 ≤ a) (h1 : a < values.length) (h2 : a < c.states.length) : LCall Try.prog 76 [.ptr 1000000 0, .data (.i a)] [(1000000, .cells [.data (.i c.latency), .data (.i c.tail), .data (.sl 3 (c.params.map Bd.cs)), .data (.sl 3 (c.states.map Bd.cs)), .data (.sl 4 (c.lines.map Ln.cs)), .data (.sl 1 (c.tables.map lnC)), .data (.i c.regs), .data (.sl 2 (c.instrs.map insC)), .own 1000001 ver 1 0 (m + 1), .own 1000002 0 1 0 regs.length, .data (ints par), .data (ints inn), .data (ints sid), .own 1000003 1 1 0 values.length, .own 1000004 1 1 0 lines.length, .map 1000005, .data (.i out)]), (1000001, .arr ver 1 (row.map intC)), (1000002, .arr 0 1 (regs.map intC)), (1000003, .arr 1 1 (values.map intC)), (1000004, .arr 1 1 (lines.map lnC)), (1000005, .map false [.int .i64] (pu.map kvD))] (.ret (.data (.tuple []))) [(1000000, .cells [.data (.i c.latency), .data (.i c.tail), .data (.sl 3 (c.params.map Bd.cs)), .data (.sl 3 (c.states.map Bd.cs)), .data (.sl 4 (c.lines.map Ln.cs)), .data (.sl 1 (c.tables.map lnC)), .data (.i c.regs), .data (.sl 2 (c.instrs.map insC)), .own 1000001 ver 1 0 m, .own 1000002 0 1 0 regs.length, .data (ints par), .data (ints inn), .data (ints sid), .own 1000003 1 1 0 (values.set a.toNat (heldM (row.getD m 0) (c.states.getD a.toNat default).lo (c.states.getD a.toNat default).hi)).length, .own 1000004 1 1 0 lines.length, .map 1000005, .data (.i out)]), (1000001, .arr ver 1 (row.map intC)), (1000002, .arr 0 1 (regs.map intC)), (1000003, .arr 1 1 ((values.set a.toNat (heldM (row.getD m 0) (c.states.getD a.toNat default).lo (c.states.getD a.toNat default).hi)).map intC)), (1000004, .arr 1 1 (lines.map lnC)), (1000005, .map false [.int .i64] (pu.map kvD))] := by
  refine lcall_of_wc tok hmix ⟨[], []⟩ Try.func76 rfl (by kernel_rfl) (by kernel_rfl) (by kernel_rfl) fun hf => ?_
  clear hf
  repeat' ((try (conv => whnf)) <;> first
    | ((with_reducible refine chk_soft [(4, 1000000), (12, 1000000), (21, 1000000)] ?_ ?_ ?_); kernel_rfl; (with_reducible refine softL_cons ?_ ?_); (refine soft_one rfl rfl rfl rfl rfl rfl ?_); (repeat ((refine cellW_cons ?_ ?_); (first | exact trivial | exact rfl))); (exact cellW_nil); (with_reducible refine softL_cons ?_ ?_); (refine soft_one rfl rfl rfl rfl rfl rfl ?_); (repeat ((refine cellW_cons ?_ ?_); (first | exact trivial | exact rfl))); (exact cellW_nil); (with_reducible refine softL_cons ?_ ?_); (refine soft_one rfl rfl rfl rfl rfl rfl ?_); (repeat ((refine cellW_cons ?_ ?_); (first | exact trivial | exact rfl))); (exact cellW_nil); (with_reducible exact softL_nil))
    | with_reducible exact trivial
    | ((with_reducible refine own_idx_step ?_ ?_ ?_ ?_ ?_); exact rfl; exact rfl; exact rfl; exact ⟨h0, h1⟩)
    | ((with_reducible refine own_store_step ?_ ?_ ?_ ?_ ?_ ?_ ?_ ?_ ?_); exact rfl; exact rfl; exact rfl; exact rfl; exact ble_le rfl; exact rfl; rotate_left; exact own_in h0 h1)
    | ((with_reducible refine idx_step ?_ ?_ ?_ ?_ ?_); exact rfl; exact rfl; rotate_left; exact idx_inB h0 h2)
    | (exact set_arr)
    | (exact set_len)
    | ((with_reducible refine call_step ?_ ?_ ?_); rotate_left; (exact held_call _ _ _))
    | ((with_reducible refine lent_step' [] (pop_call c par inn sid lines ver row m regs values pu out (by omega) (by omega)) ?_ ?_ ?_ ?_); rotate_left 0; exact rfl; (exact ⟨rfl, rfl, rfl, rfl, rfl, rfl, trivial⟩); exact rfl)
    | ((with_reducible refine ret_step ?_); refine fin_step' [] rfl ?_ ?_)
    | (with_reducible refine And.intro ?_ ?_)
    | exact @rfl AV _
    | fail)
  all_goals first
    | skip
set_option maxHeartbeats 1000000 in
theorem ins7 (c : Cd) (par inn sid : List Int) (lines : List (List Int)) (ver : Nat) (row : List Int) (m : Nat) (regs values : List Int) (pu : List (Int × Int)) (out : Int) (a : Int) (hm : m ≤ 1000000) (hr : m + 1 ≤ row.length) (h0 : 0 ≤ a) (h1 : a < c.lines.length) : LCall Try.prog 77 [.ptr 1000000 0, .data (.i a)] [(1000000, .cells [.data (.i c.latency), .data (.i c.tail), .data (.sl 3 (c.params.map Bd.cs)), .data (.sl 3 (c.states.map Bd.cs)), .data (.sl 4 (c.lines.map Ln.cs)), .data (.sl 1 (c.tables.map lnC)), .data (.i c.regs), .data (.sl 2 (c.instrs.map insC)), .own 1000001 ver 1 0 (m + 1), .own 1000002 0 1 0 regs.length, .data (ints par), .data (ints inn), .data (ints sid), .own 1000003 1 1 0 values.length, .own 1000004 1 1 0 lines.length, .map 1000005, .data (.i out)]), (1000001, .arr ver 1 (row.map intC)), (1000002, .arr 0 1 (regs.map intC)), (1000003, .arr 1 1 (values.map intC)), (1000004, .arr 1 1 (lines.map lnC)), (1000005, .map false [.int .i64] (pu.map kvD))] (.ret (.data (.tuple []))) [(1000000, .cells [.data (.i c.latency), .data (.i c.tail), .data (.sl 3 (c.params.map Bd.cs)), .data (.sl 3 (c.states.map Bd.cs)), .data (.sl 4 (c.lines.map Ln.cs)), .data (.sl 1 (c.tables.map lnC)), .data (.i c.regs), .data (.sl 2 (c.instrs.map insC)), .own 1000001 ver 1 0 m, .own 1000002 0 1 0 regs.length, .data (ints par), .data (ints inn), .data (ints sid), .own 1000003 1 1 0 values.length, .own 1000004 1 1 0 lines.length, .map 1000005, .data (.i out)]), (1000001, .arr ver 1 (row.map intC)), (1000002, .arr 0 1 (regs.map intC)), (1000003, .arr 1 1 (values.map intC)), (1000004, .arr 1 1 (lines.map lnC)), (1000005, .map false [.int .i64] ((putI a (heldM (row.getD m 0) (c.lines.getD a.toNat default).lo (c.lines.getD a.toNat default).hi) pu).map kvD))] := by
  refine lcall_of_wc tok hmix ⟨[], []⟩ Try.func77 rfl (by kernel_rfl) (by kernel_rfl) (by kernel_rfl) fun hf => ?_
  clear hf
  repeat' ((try (conv => whnf)) <;> first
    | ((with_reducible refine chk_soft [(3, 1000000), (11, 1000000), (20, 1000000)] ?_ ?_ ?_); kernel_rfl; (with_reducible refine softL_cons ?_ ?_); (refine soft_one rfl rfl rfl rfl rfl rfl ?_); (repeat ((refine cellW_cons ?_ ?_); (first | exact trivial | exact rfl))); (exact cellW_nil); (with_reducible refine softL_cons ?_ ?_); (refine soft_one rfl rfl rfl rfl rfl rfl ?_); (repeat ((refine cellW_cons ?_ ?_); (first | exact trivial | exact rfl))); (exact cellW_nil); (with_reducible refine softL_cons ?_ ?_); (refine soft_one rfl rfl rfl rfl rfl rfl ?_); (repeat ((refine cellW_cons ?_ ?_); (first | exact trivial | exact rfl))); (exact cellW_nil); (with_reducible exact softL_nil))
    | with_reducible exact trivial
    | ((with_reducible refine idx_step ?_ ?_ ?_ ?_ ?_); exact rfl; exact rfl; rotate_left; exact idx_inN h0 h1)
    | (exact map_put)
    | ((with_reducible refine call_step ?_ ?_ ?_); rotate_left; (exact held_call _ _ _))
    | ((with_reducible refine lent_step' [] (pop_call c par inn sid lines ver row m regs values pu out (by omega) (by omega)) ?_ ?_ ?_ ?_); rotate_left 0; exact rfl; (exact ⟨rfl, rfl, rfl, rfl, rfl, rfl, trivial⟩); exact rfl)
    | ((with_reducible refine ret_step ?_); refine fin_step' [] rfl ?_ ?_)
    | (with_reducible refine And.intro ?_ ?_)
    | exact @rfl AV _
    | fail)
  all_goals first
    | (rfl)
    | skip
set_option maxHeartbeats 1000000 in
theorem ins8 (c : Cd) (par inn sid : List Int) (lines : List (List Int)) (ver : Nat) (row : List Int) (m : Nat) (regs values : List Int) (pu : List (Int × Int)) (out : Int) (a : Int) (hm : m ≤ 1000000) (hr : m + 1 ≤ row.length) (h0 : 0 ≤ c.latency) (h1 : c.latency < inn.length) : LCall Try.prog 78 [.ptr 1000000 0, .data (.i a)] [(1000000, .cells [.data (.i c.latency), .data (.i c.tail), .data (.sl 3 (c.params.map Bd.cs)), .data (.sl 3 (c.states.map Bd.cs)), .data (.sl 4 (c.lines.map Ln.cs)), .data (.sl 1 (c.tables.map lnC)), .data (.i c.regs), .data (.sl 2 (c.instrs.map insC)), .own 1000001 ver 1 0 (m + 1), .own 1000002 0 1 0 regs.length, .data (ints par), .data (ints inn), .data (ints sid), .own 1000003 1 1 0 values.length, .own 1000004 1 1 0 lines.length, .map 1000005, .data (.i out)]), (1000001, .arr ver 1 (row.map intC)), (1000002, .arr 0 1 (regs.map intC)), (1000003, .arr 1 1 (values.map intC)), (1000004, .arr 1 1 (lines.map lnC)), (1000005, .map false [.int .i64] (pu.map kvD))] (.ret (.data (.tuple []))) [(1000000, .cells [.data (.i c.latency), .data (.i c.tail), .data (.sl 3 (c.params.map Bd.cs)), .data (.sl 3 (c.states.map Bd.cs)), .data (.sl 4 (c.lines.map Ln.cs)), .data (.sl 1 (c.tables.map lnC)), .data (.i c.regs), .data (.sl 2 (c.instrs.map insC)), .own 1000001 (ver + 1) 1 0 (m + 1), .own 1000002 0 1 0 regs.length, .data (ints par), .data (ints inn), .data (ints sid), .own 1000003 1 1 0 values.length, .own 1000004 1 1 0 lines.length, .map 1000005, .data (.i out)]), (1000001, .arr (ver + 1) 1 ((row.take m ++ [clM (inn.getD (heldM (row.getD m 0) 0 c.latency).toNat 0)]).map intC)), (1000002, .arr 0 1 (regs.map intC)), (1000003, .arr 1 1 (values.map intC)), (1000004, .arr 1 1 (lines.map lnC)), (1000005, .map false [.int .i64] (pu.map kvD))] := by
  refine lcall_of_wc tok hmix ⟨[], []⟩ Try.func78 rfl (by kernel_rfl) (by kernel_rfl) (by kernel_rfl) fun hf => ?_
  clear hf
  repeat' ((try (conv => whnf)) <;> first
    | ((with_reducible refine chk_soft [(4, 1000000), (11, 1000000)] ?_ ?_ ?_); kernel_rfl; (with_reducible refine softL_cons ?_ ?_); (refine soft_one rfl rfl rfl rfl rfl rfl ?_); (repeat ((refine cellW_cons ?_ ?_); (first | exact trivial | exact rfl))); (exact cellW_nil); (with_reducible refine softL_cons ?_ ?_); (refine soft_one rfl rfl rfl rfl rfl rfl ?_); (repeat ((refine cellW_cons ?_ ?_); (first | exact trivial | exact rfl))); (exact cellW_nil); (with_reducible exact softL_nil))
    | with_reducible exact trivial
    | ((with_reducible refine idx_step ?_ ?_ ?_ ?_ ?_); exact rfl; exact rfl; rotate_left; exact idx_in (held_in h0).1 (Int.lt_of_le_of_lt (held_in h0).2 h1))
    | ((with_reducible refine call_step ?_ ?_ ?_); rotate_left; (exact held_call _ _ _))
    | ((with_reducible refine lent_step' [] (pop_call c par inn sid lines ver row m regs values pu out (by omega) (by omega)) ?_ ?_ ?_ ?_); rotate_left 0; exact rfl; (exact ⟨rfl, rfl, rfl, rfl, rfl, rfl, trivial⟩); exact rfl)
    | ((with_reducible refine lent_step' [] (put_call c par inn sid lines ver row m regs values pu out (inn.getD (heldM (row.getD m 0) 0 c.latency).toNat 0) (by omega) (by omega)) ?_ ?_ ?_ ?_); rotate_left 0; exact rfl; (exact ⟨rfl, rfl, rfl, rfl, rfl, rfl, trivial⟩); exact rfl)
    | ((with_reducible refine ret_step ?_); refine fin_step' [] rfl ?_ ?_)
    | (with_reducible refine And.intro ?_ ?_)
    | exact @rfl AV _
    | fail)
  all_goals first
    | skip
set_option maxHeartbeats 1000000 in
theorem ins9 (c : Cd) (par inn sid : List Int) (lines : List (List Int)) (ver : Nat) (row : List Int) (m : Nat) (regs values : List Int) (pu : List (Int × Int)) (out : Int) (a : Int) (hm : m ≤ 1000000) (hr : m + 1 ≤ row.length) (h0 : 0 ≤ c.latency) (h1 : c.latency < sid.length) : LCall Try.prog 79 [.ptr 1000000 0, .data (.i a)] [(1000000, .cells [.data (.i c.latency), .data (.i c.tail), .data (.sl 3 (c.params.map Bd.cs)), .data (.sl 3 (c.states.map Bd.cs)), .data (.sl 4 (c.lines.map Ln.cs)), .data (.sl 1 (c.tables.map lnC)), .data (.i c.regs), .data (.sl 2 (c.instrs.map insC)), .own 1000001 ver 1 0 (m + 1), .own 1000002 0 1 0 regs.length, .data (ints par), .data (ints inn), .data (ints sid), .own 1000003 1 1 0 values.length, .own 1000004 1 1 0 lines.length, .map 1000005, .data (.i out)]), (1000001, .arr ver 1 (row.map intC)), (1000002, .arr 0 1 (regs.map intC)), (1000003, .arr 1 1 (values.map intC)), (1000004, .arr 1 1 (lines.map lnC)), (1000005, .map false [.int .i64] (pu.map kvD))] (.ret (.data (.tuple []))) [(1000000, .cells [.data (.i c.latency), .data (.i c.tail), .data (.sl 3 (c.params.map Bd.cs)), .data (.sl 3 (c.states.map Bd.cs)), .data (.sl 4 (c.lines.map Ln.cs)), .data (.sl 1 (c.tables.map lnC)), .data (.i c.regs), .data (.sl 2 (c.instrs.map insC)), .own 1000001 (ver + 1) 1 0 (m + 1), .own 1000002 0 1 0 regs.length, .data (ints par), .data (ints inn), .data (ints sid), .own 1000003 1 1 0 values.length, .own 1000004 1 1 0 lines.length, .map 1000005, .data (.i out)]), (1000001, .arr (ver + 1) 1 ((row.take m ++ [clM (sid.getD (heldM (row.getD m 0) 0 c.latency).toNat 0)]).map intC)), (1000002, .arr 0 1 (regs.map intC)), (1000003, .arr 1 1 (values.map intC)), (1000004, .arr 1 1 (lines.map lnC)), (1000005, .map false [.int .i64] (pu.map kvD))] := by
  refine lcall_of_wc tok hmix ⟨[], []⟩ Try.func79 rfl (by kernel_rfl) (by kernel_rfl) (by kernel_rfl) fun hf => ?_
  clear hf
  repeat' ((try (conv => whnf)) <;> first
    | ((with_reducible refine chk_soft [(4, 1000000), (11, 1000000)] ?_ ?_ ?_); kernel_rfl; (with_reducible refine softL_cons ?_ ?_); (refine soft_one rfl rfl rfl rfl rfl rfl ?_); (repeat ((refine cellW_cons ?_ ?_); (first | exact trivial | exact rfl))); (exact cellW_nil); (with_reducible refine softL_cons ?_ ?_); (refine soft_one rfl rfl rfl rfl rfl rfl ?_); (repeat ((refine cellW_cons ?_ ?_); (first | exact trivial | exact rfl))); (exact cellW_nil); (with_reducible exact softL_nil))
    | with_reducible exact trivial
    | ((with_reducible refine idx_step ?_ ?_ ?_ ?_ ?_); exact rfl; exact rfl; rotate_left; exact idx_in (held_in h0).1 (Int.lt_of_le_of_lt (held_in h0).2 h1))
    | ((with_reducible refine call_step ?_ ?_ ?_); rotate_left; (exact held_call _ _ _))
    | ((with_reducible refine lent_step' [] (pop_call c par inn sid lines ver row m regs values pu out (by omega) (by omega)) ?_ ?_ ?_ ?_); rotate_left 0; exact rfl; (exact ⟨rfl, rfl, rfl, rfl, rfl, rfl, trivial⟩); exact rfl)
    | ((with_reducible refine lent_step' [] (put_call c par inn sid lines ver row m regs values pu out (sid.getD (heldM (row.getD m 0) 0 c.latency).toNat 0) (by omega) (by omega)) ?_ ?_ ?_ ?_); rotate_left 0; exact rfl; (exact ⟨rfl, rfl, rfl, rfl, rfl, rfl, trivial⟩); exact rfl)
    | ((with_reducible refine ret_step ?_); refine fin_step' [] rfl ?_ ?_)
    | (with_reducible refine And.intro ?_ ?_)
    | exact @rfl AV _
    | fail)
  all_goals first
    | skip
set_option maxHeartbeats 1000000 in
theorem ins10 (c : Cd) (par inn sid : List Int) (lines : List (List Int)) (ver : Nat) (row : List Int) (m : Nat) (regs values : List Int) (pu : List (Int × Int)) (out : Int) (a : Int) (hm : m ≤ 1000000) (hr : m + 1 ≤ row.length) (h0 : 0 ≤ a) (h1 : a < lines.length) (h2 : a < c.lines.length) (h3 : 0 ≤ W ((c.lines.getD a.toNat default).size - 1)) (h4 : W ((c.lines.getD a.toNat default).size - 1) < (lines.getD a.toNat []).length) : LCall Try.prog 80 [.ptr 1000000 0, .data (.i a)] [(1000000, .cells [.data (.i c.latency), .data (.i c.tail), .data (.sl 3 (c.params.map Bd.cs)), .data (.sl 3 (c.states.map Bd.cs)), .data (.sl 4 (c.lines.map Ln.cs)), .data (.sl 1 (c.tables.map lnC)), .data (.i c.regs), .data (.sl 2 (c.instrs.map insC)), .own 1000001 ver 1 0 (m + 1), .own 1000002 0 1 0 regs.length, .data (ints par), .data (ints inn), .data (ints sid), .own 1000003 1 1 0 values.length, .own 1000004 1 1 0 lines.length, .map 1000005, .data (.i out)]), (1000001, .arr ver 1 (row.map intC)), (1000002, .arr 0 1 (regs.map intC)), (1000003, .arr 1 1 (values.map intC)), (1000004, .arr 1 1 (lines.map lnC)), (1000005, .map false [.int .i64] (pu.map kvD))] (.ret (.data (.tuple []))) [(1000000, .cells [.data (.i c.latency), .data (.i c.tail), .data (.sl 3 (c.params.map Bd.cs)), .data (.sl 3 (c.states.map Bd.cs)), .data (.sl 4 (c.lines.map Ln.cs)), .data (.sl 1 (c.tables.map lnC)), .data (.i c.regs), .data (.sl 2 (c.instrs.map insC)), .own 1000001 (ver + 1) 1 0 (m + 1), .own 1000002 0 1 0 regs.length, .data (ints par), .data (ints inn), .data (ints sid), .own 1000003 1 1 0 values.length, .own 1000004 1 1 0 lines.length, .map 1000005, .data (.i out)]), (1000001, .arr (ver + 1) 1 ((row.take m ++ [clM ((lines.getD a.toNat []).getD (heldM (row.getD m 0) 0 (W ((c.lines.getD a.toNat default).size - 1))).toNat 0)]).map intC)), (1000002, .arr 0 1 (regs.map intC)), (1000003, .arr 1 1 (values.map intC)), (1000004, .arr 1 1 (lines.map lnC)), (1000005, .map false [.int .i64] (pu.map kvD))] := by
  refine lcall_of_wc tok hmix ⟨[], []⟩ Try.func80 rfl (by kernel_rfl) (by kernel_rfl) (by kernel_rfl) fun hf => ?_
  clear hf
  repeat' ((try (conv => whnf)) <;> first
    | ((with_reducible refine chk_soft [(5, 1000000), (7, 1000004), (8, 1000004), (15, 1000000)] ?_ ?_ ?_); kernel_rfl; (with_reducible refine softL_cons ?_ ?_); (refine soft_one rfl rfl rfl rfl rfl rfl ?_); (repeat ((refine cellW_cons ?_ ?_); (first | exact trivial | exact rfl))); (exact cellW_nil); (with_reducible refine softL_cons ?_ ?_); (refine soft_idx rfl rfl rfl rfl rfl rfl ⟨rfl, rfl⟩ (⟨h0, h1⟩) ?_); (repeat ((refine cellW_cons ?_ ?_); (first | exact trivial | exact cell_idx rfl rfl rfl rfl ⟨rfl, rfl⟩ (⟨h0, h1⟩)))); (exact cellW_nil); (with_reducible refine softL_cons ?_ ?_); (refine soft_own rfl rfl rfl rfl rfl rfl (own_inL h0 h1) rfl ?_); (repeat ((refine cellW_cons ?_ ?_); (first | exact trivial | exact cell_own rfl rfl rfl rfl (own_inL h0 h1) rfl))); (exact cellW_nil); (with_reducible refine softL_cons ?_ ?_); (refine soft_one rfl rfl rfl rfl rfl rfl ?_); (repeat ((refine cellW_cons ?_ ?_); (first | exact trivial | exact rfl))); (exact cellW_nil); (with_reducible exact softL_nil))
    | with_reducible exact trivial
    | ((with_reducible refine own_idx_step ?_ ?_ ?_ ?_ ?_); exact rfl; exact rfl; exact rfl; exact ⟨h0, h1⟩)
    | ((with_reducible refine own_load_step ?_ ?_ ?_ ?_ ?_ ?_ ?_); exact rfl; exact rfl; rotate_left 2; exact own_inL h0 h1; exact rfl)
    | ((with_reducible refine idx_step ?_ ?_ ?_ ?_ ?_); exact rfl; exact rfl; rotate_left; exact idx_inN h0 h2)
    | ((with_reducible refine idx_step ?_ ?_ ?_ ?_ ?_); exact rfl; exact rfl; rotate_left; exact idx_in (held_in h3).1 (Int.lt_of_le_of_lt (held_in h3).2 h4))
    | ((with_reducible refine call_step ?_ ?_ ?_); rotate_left; (exact held_call _ _ _))
    | ((with_reducible refine lent_step' [] (pop_call c par inn sid lines ver row m regs values pu out (by omega) (by omega)) ?_ ?_ ?_ ?_); rotate_left 0; exact rfl; (exact ⟨rfl, rfl, rfl, rfl, rfl, rfl, trivial⟩); exact rfl)
    | ((with_reducible refine lent_step' [] (put_call c par inn sid lines ver row m regs values pu out ((lines.getD a.toNat []).getD (heldM (row.getD m 0) 0 (W ((c.lines.getD a.toNat default).size - 1))).toNat 0) (by omega) (by omega)) ?_ ?_ ?_ ?_); rotate_left 0; exact rfl; (exact ⟨rfl, rfl, rfl, rfl, rfl, rfl, trivial⟩); exact rfl)
    | ((with_reducible refine ret_step ?_); refine fin_step' [] rfl ?_ ?_)
    | (with_reducible refine And.intro ?_ ?_)
    | exact @rfl AV _
    | fail)
  all_goals first
    | skip
set_option maxHeartbeats 1000000 in
theorem ins11 (c : Cd) (par inn sid : List Int) (lines : List (List Int)) (ver : Nat) (row : List Int) (m : Nat) (regs values : List Int) (pu : List (Int × Int)) (out : Int) (a : Int) (hm : m ≤ 1000000) (hr : m + 1 ≤ row.length) (h0 : 0 ≤ a) (h1 : a < c.tables.length) (h3 : 0 ≤ W (((c.tables.getD a.toNat []).length : Int) - 1)) (h4 : W (((c.tables.getD a.toNat []).length : Int) - 1) < (c.tables.getD a.toNat []).length) : LCall Try.prog 81 [.ptr 1000000 0, .data (.i a)] [(1000000, .cells [.data (.i c.latency), .data (.i c.tail), .data (.sl 3 (c.params.map Bd.cs)), .data (.sl 3 (c.states.map Bd.cs)), .data (.sl 4 (c.lines.map Ln.cs)), .data (.sl 1 (c.tables.map lnC)), .data (.i c.regs), .data (.sl 2 (c.instrs.map insC)), .own 1000001 ver 1 0 (m + 1), .own 1000002 0 1 0 regs.length, .data (ints par), .data (ints inn), .data (ints sid), .own 1000003 1 1 0 values.length, .own 1000004 1 1 0 lines.length, .map 1000005, .data (.i out)]), (1000001, .arr ver 1 (row.map intC)), (1000002, .arr 0 1 (regs.map intC)), (1000003, .arr 1 1 (values.map intC)), (1000004, .arr 1 1 (lines.map lnC)), (1000005, .map false [.int .i64] (pu.map kvD))] (.ret (.data (.tuple []))) [(1000000, .cells [.data (.i c.latency), .data (.i c.tail), .data (.sl 3 (c.params.map Bd.cs)), .data (.sl 3 (c.states.map Bd.cs)), .data (.sl 4 (c.lines.map Ln.cs)), .data (.sl 1 (c.tables.map lnC)), .data (.i c.regs), .data (.sl 2 (c.instrs.map insC)), .own 1000001 (ver + 1) 1 0 (m + 1), .own 1000002 0 1 0 regs.length, .data (ints par), .data (ints inn), .data (ints sid), .own 1000003 1 1 0 values.length, .own 1000004 1 1 0 lines.length, .map 1000005, .data (.i out)]), (1000001, .arr (ver + 1) 1 ((row.take m ++ [clM ((c.tables.getD a.toNat []).getD (heldM (row.getD m 0) 0 (W (((c.tables.getD a.toNat []).length : Int) - 1))).toNat 0)]).map intC)), (1000002, .arr 0 1 (regs.map intC)), (1000003, .arr 1 1 (values.map intC)), (1000004, .arr 1 1 (lines.map lnC)), (1000005, .map false [.int .i64] (pu.map kvD))] := by
  refine lcall_of_wc tok hmix ⟨[], []⟩ Try.func81 rfl (by kernel_rfl) (by kernel_rfl) (by kernel_rfl) fun hf => ?_
  clear hf
  repeat' ((try (conv => whnf)) <;> first
    | ((with_reducible refine chk_soft [(5, 1000000), (15, 1000000)] ?_ ?_ ?_); kernel_rfl; (with_reducible refine softL_cons ?_ ?_); (refine soft_one rfl rfl rfl rfl rfl rfl ?_); (repeat ((refine cellW_cons ?_ ?_); (first | exact trivial | exact rfl))); (exact cellW_nil); (with_reducible refine softL_cons ?_ ?_); (refine soft_one rfl rfl rfl rfl rfl rfl ?_); (repeat ((refine cellW_cons ?_ ?_); (first | exact trivial | exact rfl))); (exact cellW_nil); (with_reducible exact softL_nil))
    | with_reducible exact trivial
    | ((with_reducible refine idx_step ?_ ?_ ?_ ?_ ?_); exact rfl; exact rfl; rotate_left; exact idx_inL h0 h1)
    | ((with_reducible refine idx_step ?_ ?_ ?_ ?_ ?_); exact rfl; exact rfl; rotate_left; exact idx_tab h3 h4)
    | ((with_reducible refine call_step ?_ ?_ ?_); rotate_left; (exact held_call _ _ _))
    | ((with_reducible refine lent_step' [] (pop_call c par inn sid lines ver row m regs values pu out (by omega) (by omega)) ?_ ?_ ?_ ?_); rotate_left 0; exact rfl; (exact ⟨rfl, rfl, rfl, rfl, rfl, rfl, trivial⟩); exact rfl)
    | ((with_reducible refine lent_step' [] (put_call c par inn sid lines ver row m regs values pu out ((c.tables.getD a.toNat []).getD (heldM (row.getD m 0) 0 (W (((c.tables.getD a.toNat []).length : Int) - 1))).toNat 0) (by omega) (by omega)) ?_ ?_ ?_ ?_); rotate_left 0; exact rfl; (exact ⟨rfl, rfl, rfl, rfl, rfl, rfl, trivial⟩); exact rfl)
    | ((with_reducible refine ret_step ?_); refine fin_step' [] rfl ?_ ?_)
    | (with_reducible refine And.intro ?_ ?_)
    | exact @rfl AV _
    | fail)
  all_goals first
    | skip
set_option maxHeartbeats 1000000 in
theorem ins12 (c : Cd) (par inn sid : List Int) (lines : List (List Int)) (ver : Nat) (row : List Int) (m : Nat) (regs values : List Int) (pu : List (Int × Int)) (out : Int) (a : Int) (hm : m ≤ 1000000) (hr : m + 1 ≤ row.length)  : LCall Try.prog 82 [.ptr 1000000 0, .data (.i a)] [(1000000, .cells [.data (.i c.latency), .data (.i c.tail), .data (.sl 3 (c.params.map Bd.cs)), .data (.sl 3 (c.states.map Bd.cs)), .data (.sl 4 (c.lines.map Ln.cs)), .data (.sl 1 (c.tables.map lnC)), .data (.i c.regs), .data (.sl 2 (c.instrs.map insC)), .own 1000001 ver 1 0 (m + 1), .own 1000002 0 1 0 regs.length, .data (ints par), .data (ints inn), .data (ints sid), .own 1000003 1 1 0 values.length, .own 1000004 1 1 0 lines.length, .map 1000005, .data (.i out)]), (1000001, .arr ver 1 (row.map intC)), (1000002, .arr 0 1 (regs.map intC)), (1000003, .arr 1 1 (values.map intC)), (1000004, .arr 1 1 (lines.map lnC)), (1000005, .map false [.int .i64] (pu.map kvD))] (.ret (.data (.tuple []))) [(1000000, .cells [.data (.i c.latency), .data (.i c.tail), .data (.sl 3 (c.params.map Bd.cs)), .data (.sl 3 (c.states.map Bd.cs)), .data (.sl 4 (c.lines.map Ln.cs)), .data (.sl 1 (c.tables.map lnC)), .data (.i c.regs), .data (.sl 2 (c.instrs.map insC)), .own 1000001 (ver + 1) 1 0 (m + 1), .own 1000002 0 1 0 regs.length, .data (ints par), .data (ints inn), .data (ints sid), .own 1000003 1 1 0 values.length, .own 1000004 1 1 0 lines.length, .map 1000005, .data (.i out)]), (1000001, .arr (ver + 1) 1 ((row.take m ++ [clM (clipM (row.getD m 0))]).map intC)), (1000002, .arr 0 1 (regs.map intC)), (1000003, .arr 1 1 (values.map intC)), (1000004, .arr 1 1 (lines.map lnC)), (1000005, .map false [.int .i64] (pu.map kvD))] := by
  refine lcall_of_wc tok hmix ⟨[], []⟩ Try.func82 rfl (by kernel_rfl) (by kernel_rfl) (by kernel_rfl) fun hf => ?_
  clear hf
  repeat' ((try (conv => whnf)) <;> first
    | with_reducible exact trivial
    | ((with_reducible refine call_step ?_ ?_ ?_); rotate_left; (exact clip_call _))
    | ((with_reducible refine lent_step' [] (pop_call c par inn sid lines ver row m regs values pu out (by omega) (by omega)) ?_ ?_ ?_ ?_); rotate_left 0; exact rfl; (exact ⟨rfl, rfl, rfl, rfl, rfl, rfl, trivial⟩); exact rfl)
    | ((with_reducible refine lent_step' [] (put_call c par inn sid lines ver row m regs values pu out (clipM (row.getD m 0)) (by omega) (by omega)) ?_ ?_ ?_ ?_); rotate_left 0; exact rfl; (exact ⟨rfl, rfl, rfl, rfl, rfl, rfl, trivial⟩); exact rfl)
    | ((with_reducible refine ret_step ?_); refine fin_step' [] rfl ?_ ?_)
    | (with_reducible refine And.intro ?_ ?_)
    | exact @rfl AV _
    | fail)
  all_goals first
    | skip
set_option maxHeartbeats 1000000 in
theorem ins13 (c : Cd) (par inn sid : List Int) (lines : List (List Int)) (ver : Nat) (row : List Int) (m : Nat) (regs values : List Int) (pu : List (Int × Int)) (out : Int) (a : Int) (hm : m ≤ 1000000) (hr : m + 2 ≤ row.length)  : LCall Try.prog 83 [.ptr 1000000 0, .data (.i a)] [(1000000, .cells [.data (.i c.latency), .data (.i c.tail), .data (.sl 3 (c.params.map Bd.cs)), .data (.sl 3 (c.states.map Bd.cs)), .data (.sl 4 (c.lines.map Ln.cs)), .data (.sl 1 (c.tables.map lnC)), .data (.i c.regs), .data (.sl 2 (c.instrs.map insC)), .own 1000001 ver 1 0 (m + 2), .own 1000002 0 1 0 regs.length, .data (ints par), .data (ints inn), .data (ints sid), .own 1000003 1 1 0 values.length, .own 1000004 1 1 0 lines.length, .map 1000005, .data (.i out)]), (1000001, .arr ver 1 (row.map intC)), (1000002, .arr 0 1 (regs.map intC)), (1000003, .arr 1 1 (values.map intC)), (1000004, .arr 1 1 (lines.map lnC)), (1000005, .map false [.int .i64] (pu.map kvD))] (.ret (.data (.tuple []))) [(1000000, .cells [.data (.i c.latency), .data (.i c.tail), .data (.sl 3 (c.params.map Bd.cs)), .data (.sl 3 (c.states.map Bd.cs)), .data (.sl 4 (c.lines.map Ln.cs)), .data (.sl 1 (c.tables.map lnC)), .data (.i c.regs), .data (.sl 2 (c.instrs.map insC)), .own 1000001 (ver + 1) 1 0 (m + 1), .own 1000002 0 1 0 regs.length, .data (ints par), .data (ints inn), .data (ints sid), .own 1000003 1 1 0 values.length, .own 1000004 1 1 0 lines.length, .map 1000005, .data (.i out)]), (1000001, .arr (ver + 1) 1 ((row.take m ++ [clM (mm2 false (row.getD (m + 1) 0) (row.getD m 0))]).map intC)), (1000002, .arr 0 1 (regs.map intC)), (1000003, .arr 1 1 (values.map intC)), (1000004, .arr 1 1 (lines.map lnC)), (1000005, .map false [.int .i64] (pu.map kvD))] := by
  refine lcall_of_wc tok hmix ⟨[], []⟩ Try.func83 rfl (by kernel_rfl) (by kernel_rfl) (by kernel_rfl) fun hf => ?_
  clear hf
  repeat' ((try (conv => whnf)) <;> first
    | with_reducible exact trivial
    | ((with_reducible refine lent_step' [] (pop_call c par inn sid lines ver row (m + 1) regs values pu out (by omega) (by omega)) ?_ ?_ ?_ ?_); rotate_left 0; exact rfl; (exact ⟨rfl, rfl, rfl, rfl, rfl, rfl, trivial⟩); exact rfl)
    | ((with_reducible refine lent_step' [] (pop_call c par inn sid lines ver row m regs values pu out (by omega) (by omega)) ?_ ?_ ?_ ?_); rotate_left 0; exact rfl; (exact ⟨rfl, rfl, rfl, rfl, rfl, rfl, trivial⟩); exact rfl)
    | ((with_reducible refine lent_step' [] (put_call c par inn sid lines ver row m regs values pu out (mm2 false (row.getD (m + 1) 0) (row.getD m 0)) (by omega) (by omega)) ?_ ?_ ?_ ?_); rotate_left 0; exact rfl; (exact ⟨rfl, rfl, rfl, rfl, rfl, rfl, trivial⟩); exact rfl)
    | ((with_reducible refine ret_step ?_); refine fin_step' [] rfl ?_ ?_)
    | (with_reducible refine And.intro ?_ ?_)
    | exact @rfl AV _
    | fail)
  all_goals first
    | skip
set_option maxHeartbeats 1000000 in
theorem ins14 (c : Cd) (par inn sid : List Int) (lines : List (List Int)) (ver : Nat) (row : List Int) (m : Nat) (regs values : List Int) (pu : List (Int × Int)) (out : Int) (a : Int) (hm : m ≤ 1000000) (hr : m + 2 ≤ row.length)  : LCall Try.prog 84 [.ptr 1000000 0, .data (.i a)] [(1000000, .cells [.data (.i c.latency), .data (.i c.tail), .data (.sl 3 (c.params.map Bd.cs)), .data (.sl 3 (c.states.map Bd.cs)), .data (.sl 4 (c.lines.map Ln.cs)), .data (.sl 1 (c.tables.map lnC)), .data (.i c.regs), .data (.sl 2 (c.instrs.map insC)), .own 1000001 ver 1 0 (m + 2), .own 1000002 0 1 0 regs.length, .data (ints par), .data (ints inn), .data (ints sid), .own 1000003 1 1 0 values.length, .own 1000004 1 1 0 lines.length, .map 1000005, .data (.i out)]), (1000001, .arr ver 1 (row.map intC)), (1000002, .arr 0 1 (regs.map intC)), (1000003, .arr 1 1 (values.map intC)), (1000004, .arr 1 1 (lines.map lnC)), (1000005, .map false [.int .i64] (pu.map kvD))] (.ret (.data (.tuple []))) [(1000000, .cells [.data (.i c.latency), .data (.i c.tail), .data (.sl 3 (c.params.map Bd.cs)), .data (.sl 3 (c.states.map Bd.cs)), .data (.sl 4 (c.lines.map Ln.cs)), .data (.sl 1 (c.tables.map lnC)), .data (.i c.regs), .data (.sl 2 (c.instrs.map insC)), .own 1000001 (ver + 1) 1 0 (m + 1), .own 1000002 0 1 0 regs.length, .data (ints par), .data (ints inn), .data (ints sid), .own 1000003 1 1 0 values.length, .own 1000004 1 1 0 lines.length, .map 1000005, .data (.i out)]), (1000001, .arr (ver + 1) 1 ((row.take m ++ [clM (mm2 true (row.getD (m + 1) 0) (row.getD m 0))]).map intC)), (1000002, .arr 0 1 (regs.map intC)), (1000003, .arr 1 1 (values.map intC)), (1000004, .arr 1 1 (lines.map lnC)), (1000005, .map false [.int .i64] (pu.map kvD))] := by
  refine lcall_of_wc tok hmix ⟨[], []⟩ Try.func84 rfl (by kernel_rfl) (by kernel_rfl) (by kernel_rfl) fun hf => ?_
  clear hf
  repeat' ((try (conv => whnf)) <;> first
    | with_reducible exact trivial
    | ((with_reducible refine lent_step' [] (pop_call c par inn sid lines ver row (m + 1) regs values pu out (by omega) (by omega)) ?_ ?_ ?_ ?_); rotate_left 0; exact rfl; (exact ⟨rfl, rfl, rfl, rfl, rfl, rfl, trivial⟩); exact rfl)
    | ((with_reducible refine lent_step' [] (pop_call c par inn sid lines ver row m regs values pu out (by omega) (by omega)) ?_ ?_ ?_ ?_); rotate_left 0; exact rfl; (exact ⟨rfl, rfl, rfl, rfl, rfl, rfl, trivial⟩); exact rfl)
    | ((with_reducible refine lent_step' [] (put_call c par inn sid lines ver row m regs values pu out (mm2 true (row.getD (m + 1) 0) (row.getD m 0)) (by omega) (by omega)) ?_ ?_ ?_ ?_); rotate_left 0; exact rfl; (exact ⟨rfl, rfl, rfl, rfl, rfl, rfl, trivial⟩); exact rfl)
    | ((with_reducible refine ret_step ?_); refine fin_step' [] rfl ?_ ?_)
    | (with_reducible refine And.intro ?_ ?_)
    | exact @rfl AV _
    | fail)
  all_goals first
    | skip
set_option maxHeartbeats 1000000 in
theorem ins15 (c : Cd) (par inn sid : List Int) (lines : List (List Int)) (ver : Nat) (row : List Int) (m : Nat) (regs values : List Int) (pu : List (Int × Int)) (out : Int) (a : Int) (hm : m ≤ 1000000) (hr : m + 1 ≤ row.length)  : LCall Try.prog 85 [.ptr 1000000 0, .data (.i a)] [(1000000, .cells [.data (.i c.latency), .data (.i c.tail), .data (.sl 3 (c.params.map Bd.cs)), .data (.sl 3 (c.states.map Bd.cs)), .data (.sl 4 (c.lines.map Ln.cs)), .data (.sl 1 (c.tables.map lnC)), .data (.i c.regs), .data (.sl 2 (c.instrs.map insC)), .own 1000001 ver 1 0 (m + 1), .own 1000002 0 1 0 regs.length, .data (ints par), .data (ints inn), .data (ints sid), .own 1000003 1 1 0 values.length, .own 1000004 1 1 0 lines.length, .map 1000005, .data (.i out)]), (1000001, .arr ver 1 (row.map intC)), (1000002, .arr 0 1 (regs.map intC)), (1000003, .arr 1 1 (values.map intC)), (1000004, .arr 1 1 (lines.map lnC)), (1000005, .map false [.int .i64] (pu.map kvD))] (.ret (.data (.tuple []))) [(1000000, .cells [.data (.i c.latency), .data (.i c.tail), .data (.sl 3 (c.params.map Bd.cs)), .data (.sl 3 (c.states.map Bd.cs)), .data (.sl 4 (c.lines.map Ln.cs)), .data (.sl 1 (c.tables.map lnC)), .data (.i c.regs), .data (.sl 2 (c.instrs.map insC)), .own 1000001 (ver + 1) 1 0 (m + 1), .own 1000002 0 1 0 regs.length, .data (ints par), .data (ints inn), .data (ints sid), .own 1000003 1 1 0 values.length, .own 1000004 1 1 0 lines.length, .map 1000005, .data (.i out)]), (1000001, .arr (ver + 1) 1 ((row.take m ++ [clM (mm2 true (row.getD m 0) (W (0 - (row.getD m 0))))]).map intC)), (1000002, .arr 0 1 (regs.map intC)), (1000003, .arr 1 1 (values.map intC)), (1000004, .arr 1 1 (lines.map lnC)), (1000005, .map false [.int .i64] (pu.map kvD))] := by
  refine lcall_of_wc tok hmix ⟨[], []⟩ Try.func85 rfl (by kernel_rfl) (by kernel_rfl) (by kernel_rfl) fun hf => ?_
  clear hf
  repeat' ((try (conv => whnf)) <;> first
    | with_reducible exact trivial
    | ((with_reducible refine lent_step' [] (pop_call c par inn sid lines ver row m regs values pu out (by omega) (by omega)) ?_ ?_ ?_ ?_); rotate_left 0; exact rfl; (exact ⟨rfl, rfl, rfl, rfl, rfl, rfl, trivial⟩); exact rfl)
    | ((with_reducible refine lent_step' [] (put_call c par inn sid lines ver row m regs values pu out (mm2 true (row.getD m 0) (W (0 - (row.getD m 0)))) (by omega) (by omega)) ?_ ?_ ?_ ?_); rotate_left 0; exact rfl; (exact ⟨rfl, rfl, rfl, rfl, rfl, rfl, trivial⟩); exact rfl)
    | ((with_reducible refine ret_step ?_); refine fin_step' [] rfl ?_ ?_)
    | (with_reducible refine And.intro ?_ ?_)
    | exact @rfl AV _
    | fail)
  all_goals first
    | skip
set_option maxHeartbeats 1000000 in
theorem ins16 (c : Cd) (par inn sid : List Int) (lines : List (List Int)) (ver : Nat) (row : List Int) (m : Nat) (regs values : List Int) (pu : List (Int × Int)) (out : Int) (a : Int) (hm : m ≤ 1000000) (hr : m + 1 ≤ row.length)  : LCall Try.prog 86 [.ptr 1000000 0, .data (.i a)] [(1000000, .cells [.data (.i c.latency), .data (.i c.tail), .data (.sl 3 (c.params.map Bd.cs)), .data (.sl 3 (c.states.map Bd.cs)), .data (.sl 4 (c.lines.map Ln.cs)), .data (.sl 1 (c.tables.map lnC)), .data (.i c.regs), .data (.sl 2 (c.instrs.map insC)), .own 1000001 ver 1 0 (m + 1), .own 1000002 0 1 0 regs.length, .data (ints par), .data (ints inn), .data (ints sid), .own 1000003 1 1 0 values.length, .own 1000004 1 1 0 lines.length, .map 1000005, .data (.i out)]), (1000001, .arr ver 1 (row.map intC)), (1000002, .arr 0 1 (regs.map intC)), (1000003, .arr 1 1 (values.map intC)), (1000004, .arr 1 1 (lines.map lnC)), (1000005, .map false [.int .i64] (pu.map kvD))] (.ret (.data (.tuple []))) [(1000000, .cells [.data (.i c.latency), .data (.i c.tail), .data (.sl 3 (c.params.map Bd.cs)), .data (.sl 3 (c.states.map Bd.cs)), .data (.sl 4 (c.lines.map Ln.cs)), .data (.sl 1 (c.tables.map lnC)), .data (.i c.regs), .data (.sl 2 (c.instrs.map insC)), .own 1000001 (ver + 1) 1 0 (m + 1), .own 1000002 0 1 0 regs.length, .data (ints par), .data (ints inn), .data (ints sid), .own 1000003 1 1 0 values.length, .own 1000004 1 1 0 lines.length, .map 1000005, .data (.i out)]), (1000001, .arr (ver + 1) 1 ((row.take m ++ [clM (W (0 - (row.getD m 0)))]).map intC)), (1000002, .arr 0 1 (regs.map intC)), (1000003, .arr 1 1 (values.map intC)), (1000004, .arr 1 1 (lines.map lnC)), (1000005, .map false [.int .i64] (pu.map kvD))] := by
  refine lcall_of_wc tok hmix ⟨[], []⟩ Try.func86 rfl (by kernel_rfl) (by kernel_rfl) (by kernel_rfl) fun hf => ?_
  clear hf
  repeat' ((try (conv => whnf)) <;> first
    | with_reducible exact trivial
    | ((with_reducible refine lent_step' [] (pop_call c par inn sid lines ver row m regs values pu out (by omega) (by omega)) ?_ ?_ ?_ ?_); rotate_left 0; exact rfl; (exact ⟨rfl, rfl, rfl, rfl, rfl, rfl, trivial⟩); exact rfl)
    | ((with_reducible refine lent_step' [] (put_call c par inn sid lines ver row m regs values pu out (W (0 - (row.getD m 0))) (by omega) (by omega)) ?_ ?_ ?_ ?_); rotate_left 0; exact rfl; (exact ⟨rfl, rfl, rfl, rfl, rfl, rfl, trivial⟩); exact rfl)
    | ((with_reducible refine ret_step ?_); refine fin_step' [] rfl ?_ ?_)
    | (with_reducible refine And.intro ?_ ?_)
    | exact @rfl AV _
    | fail)
  all_goals first
    | skip
set_option maxHeartbeats 1000000 in
theorem ins17 (c : Cd) (par inn sid : List Int) (lines : List (List Int)) (ver : Nat) (row : List Int) (m : Nat) (regs values : List Int) (pu : List (Int × Int)) (out : Int) (a : Int) (hm : m ≤ 1000000) (hr : m + 2 ≤ row.length)  : LCall Try.prog 87 [.ptr 1000000 0, .data (.i a)] [(1000000, .cells [.data (.i c.latency), .data (.i c.tail), .data (.sl 3 (c.params.map Bd.cs)), .data (.sl 3 (c.states.map Bd.cs)), .data (.sl 4 (c.lines.map Ln.cs)), .data (.sl 1 (c.tables.map lnC)), .data (.i c.regs), .data (.sl 2 (c.instrs.map insC)), .own 1000001 ver 1 0 (m + 2), .own 1000002 0 1 0 regs.length, .data (ints par), .data (ints inn), .data (ints sid), .own 1000003 1 1 0 values.length, .own 1000004 1 1 0 lines.length, .map 1000005, .data (.i out)]), (1000001, .arr ver 1 (row.map intC)), (1000002, .arr 0 1 (regs.map intC)), (1000003, .arr 1 1 (values.map intC)), (1000004, .arr 1 1 (lines.map lnC)), (1000005, .map false [.int .i64] (pu.map kvD))] (.ret (.data (.tuple []))) [(1000000, .cells [.data (.i c.latency), .data (.i c.tail), .data (.sl 3 (c.params.map Bd.cs)), .data (.sl 3 (c.states.map Bd.cs)), .data (.sl 4 (c.lines.map Ln.cs)), .data (.sl 1 (c.tables.map lnC)), .data (.i c.regs), .data (.sl 2 (c.instrs.map insC)), .own 1000001 (ver + 1) 1 0 (m + 1), .own 1000002 0 1 0 regs.length, .data (ints par), .data (ints inn), .data (ints sid), .own 1000003 1 1 0 values.length, .own 1000004 1 1 0 lines.length, .map 1000005, .data (.i out)]), (1000001, .arr (ver + 1) 1 ((row.take m ++ [clM (addM (row.getD (m + 1) 0) (row.getD m 0))]).map intC)), (1000002, .arr 0 1 (regs.map intC)), (1000003, .arr 1 1 (values.map intC)), (1000004, .arr 1 1 (lines.map lnC)), (1000005, .map false [.int .i64] (pu.map kvD))] := by
  refine lcall_of_wc tok hmix ⟨[], []⟩ Try.func87 rfl (by kernel_rfl) (by kernel_rfl) (by kernel_rfl) fun hf => ?_
  clear hf
  repeat' ((try (conv => whnf)) <;> first
    | with_reducible exact trivial
    | ((with_reducible refine call_step ?_ ?_ ?_); rotate_left; (exact add_call _ _))
    | ((with_reducible refine lent_step' [] (pop_call c par inn sid lines ver row (m + 1) regs values pu out (by omega) (by omega)) ?_ ?_ ?_ ?_); rotate_left 0; exact rfl; (exact ⟨rfl, rfl, rfl, rfl, rfl, rfl, trivial⟩); exact rfl)
    | ((with_reducible refine lent_step' [] (pop_call c par inn sid lines ver row m regs values pu out (by omega) (by omega)) ?_ ?_ ?_ ?_); rotate_left 0; exact rfl; (exact ⟨rfl, rfl, rfl, rfl, rfl, rfl, trivial⟩); exact rfl)
    | ((with_reducible refine lent_step' [] (put_call c par inn sid lines ver row m regs values pu out (addM (row.getD (m + 1) 0) (row.getD m 0)) (by omega) (by omega)) ?_ ?_ ?_ ?_); rotate_left 0; exact rfl; (exact ⟨rfl, rfl, rfl, rfl, rfl, rfl, trivial⟩); exact rfl)
    | ((with_reducible refine ret_step ?_); refine fin_step' [] rfl ?_ ?_)
    | (with_reducible refine And.intro ?_ ?_)
    | exact @rfl AV _
    | fail)
  all_goals first
    | skip
set_option maxHeartbeats 1000000 in
theorem ins18 (c : Cd) (par inn sid : List Int) (lines : List (List Int)) (ver : Nat) (row : List Int) (m : Nat) (regs values : List Int) (pu : List (Int × Int)) (out : Int) (a : Int) (hm : m ≤ 1000000) (hr : m + 2 ≤ row.length)  : LCall Try.prog 89 [.ptr 1000000 0, .data (.i a)] [(1000000, .cells [.data (.i c.latency), .data (.i c.tail), .data (.sl 3 (c.params.map Bd.cs)), .data (.sl 3 (c.states.map Bd.cs)), .data (.sl 4 (c.lines.map Ln.cs)), .data (.sl 1 (c.tables.map lnC)), .data (.i c.regs), .data (.sl 2 (c.instrs.map insC)), .own 1000001 ver 1 0 (m + 2), .own 1000002 0 1 0 regs.length, .data (ints par), .data (ints inn), .data (ints sid), .own 1000003 1 1 0 values.length, .own 1000004 1 1 0 lines.length, .map 1000005, .data (.i out)]), (1000001, .arr ver 1 (row.map intC)), (1000002, .arr 0 1 (regs.map intC)), (1000003, .arr 1 1 (values.map intC)), (1000004, .arr 1 1 (lines.map lnC)), (1000005, .map false [.int .i64] (pu.map kvD))] (.ret (.data (.tuple []))) [(1000000, .cells [.data (.i c.latency), .data (.i c.tail), .data (.sl 3 (c.params.map Bd.cs)), .data (.sl 3 (c.states.map Bd.cs)), .data (.sl 4 (c.lines.map Ln.cs)), .data (.sl 1 (c.tables.map lnC)), .data (.i c.regs), .data (.sl 2 (c.instrs.map insC)), .own 1000001 (ver + 1) 1 0 (m + 1), .own 1000002 0 1 0 regs.length, .data (ints par), .data (ints inn), .data (ints sid), .own 1000003 1 1 0 values.length, .own 1000004 1 1 0 lines.length, .map 1000005, .data (.i out)]), (1000001, .arr (ver + 1) 1 ((row.take m ++ [clM (addM (row.getD m 0) (W (0 - (row.getD (m + 1) 0))))]).map intC)), (1000002, .arr 0 1 (regs.map intC)), (1000003, .arr 1 1 (values.map intC)), (1000004, .arr 1 1 (lines.map lnC)), (1000005, .map false [.int .i64] (pu.map kvD))] := by
  refine lcall_of_wc tok hmix ⟨[], []⟩ Try.func89 rfl (by kernel_rfl) (by kernel_rfl) (by kernel_rfl) fun hf => ?_
  clear hf
  repeat' ((try (conv => whnf)) <;> first
    | with_reducible exact trivial
    | ((with_reducible refine call_step ?_ ?_ ?_); rotate_left; (exact add_call _ _))
    | ((with_reducible refine lent_step' [] (pop_call c par inn sid lines ver row (m + 1) regs values pu out (by omega) (by omega)) ?_ ?_ ?_ ?_); rotate_left 0; exact rfl; (exact ⟨rfl, rfl, rfl, rfl, rfl, rfl, trivial⟩); exact rfl)
    | ((with_reducible refine lent_step' [] (pop_call c par inn sid lines ver row m regs values pu out (by omega) (by omega)) ?_ ?_ ?_ ?_); rotate_left 0; exact rfl; (exact ⟨rfl, rfl, rfl, rfl, rfl, rfl, trivial⟩); exact rfl)
    | ((with_reducible refine lent_step' [] (put_call c par inn sid lines ver row m regs values pu out (addM (row.getD m 0) (W (0 - (row.getD (m + 1) 0)))) (by omega) (by omega)) ?_ ?_ ?_ ?_); rotate_left 0; exact rfl; (exact ⟨rfl, rfl, rfl, rfl, rfl, rfl, trivial⟩); exact rfl)
    | ((with_reducible refine ret_step ?_); refine fin_step' [] rfl ?_ ?_)
    | (with_reducible refine And.intro ?_ ?_)
    | exact @rfl AV _
    | fail)
  all_goals first
    | skip
set_option maxHeartbeats 1000000 in
theorem ins19 (c : Cd) (par inn sid : List Int) (lines : List (List Int)) (ver : Nat) (row : List Int) (m : Nat) (regs values : List Int) (pu : List (Int × Int)) (out : Int) (a : Int) (hm : m ≤ 1000000) (hr : m + 2 ≤ row.length)  : LCall Try.prog 90 [.ptr 1000000 0, .data (.i a)] [(1000000, .cells [.data (.i c.latency), .data (.i c.tail), .data (.sl 3 (c.params.map Bd.cs)), .data (.sl 3 (c.states.map Bd.cs)), .data (.sl 4 (c.lines.map Ln.cs)), .data (.sl 1 (c.tables.map lnC)), .data (.i c.regs), .data (.sl 2 (c.instrs.map insC)), .own 1000001 ver 1 0 (m + 2), .own 1000002 0 1 0 regs.length, .data (ints par), .data (ints inn), .data (ints sid), .own 1000003 1 1 0 values.length, .own 1000004 1 1 0 lines.length, .map 1000005, .data (.i out)]), (1000001, .arr ver 1 (row.map intC)), (1000002, .arr 0 1 (regs.map intC)), (1000003, .arr 1 1 (values.map intC)), (1000004, .arr 1 1 (lines.map lnC)), (1000005, .map false [.int .i64] (pu.map kvD))] (.ret (.data (.tuple []))) [(1000000, .cells [.data (.i c.latency), .data (.i c.tail), .data (.sl 3 (c.params.map Bd.cs)), .data (.sl 3 (c.states.map Bd.cs)), .data (.sl 4 (c.lines.map Ln.cs)), .data (.sl 1 (c.tables.map lnC)), .data (.i c.regs), .data (.sl 2 (c.instrs.map insC)), .own 1000001 (ver + 1) 1 0 (m + 1), .own 1000002 0 1 0 regs.length, .data (ints par), .data (ints inn), .data (ints sid), .own 1000003 1 1 0 values.length, .own 1000004 1 1 0 lines.length, .map 1000005, .data (.i out)]), (1000001, .arr (ver + 1) 1 ((row.take m ++ [clM (mulM (row.getD (m + 1) 0) (row.getD m 0))]).map intC)), (1000002, .arr 0 1 (regs.map intC)), (1000003, .arr 1 1 (values.map intC)), (1000004, .arr 1 1 (lines.map lnC)), (1000005, .map false [.int .i64] (pu.map kvD))] := by
  refine lcall_of_wc tok hmix ⟨[], []⟩ Try.func90 rfl (by kernel_rfl) (by kernel_rfl) (by kernel_rfl) fun hf => ?_
  clear hf
  repeat' ((try (conv => whnf)) <;> first
    | with_reducible exact trivial
    | ((with_reducible refine call_step ?_ ?_ ?_); rotate_left; (exact mul_call _ _))
    | ((with_reducible refine lent_step' [] (pop_call c par inn sid lines ver row (m + 1) regs values pu out (by omega) (by omega)) ?_ ?_ ?_ ?_); rotate_left 0; exact rfl; (exact ⟨rfl, rfl, rfl, rfl, rfl, rfl, trivial⟩); exact rfl)
    | ((with_reducible refine lent_step' [] (pop_call c par inn sid lines ver row m regs values pu out (by omega) (by omega)) ?_ ?_ ?_ ?_); rotate_left 0; exact rfl; (exact ⟨rfl, rfl, rfl, rfl, rfl, rfl, trivial⟩); exact rfl)
    | ((with_reducible refine lent_step' [] (put_call c par inn sid lines ver row m regs values pu out (mulM (row.getD (m + 1) 0) (row.getD m 0)) (by omega) (by omega)) ?_ ?_ ?_ ?_); rotate_left 0; exact rfl; (exact ⟨rfl, rfl, rfl, rfl, rfl, rfl, trivial⟩); exact rfl)
    | ((with_reducible refine ret_step ?_); refine fin_step' [] rfl ?_ ?_)
    | (with_reducible refine And.intro ?_ ?_)
    | exact @rfl AV _
    | fail)
  all_goals first
    | skip
set_option maxHeartbeats 1000000 in
theorem ins20 (c : Cd) (par inn sid : List Int) (lines : List (List Int)) (ver : Nat) (row : List Int) (m : Nat) (regs values : List Int) (pu : List (Int × Int)) (out : Int) (a : Int) (hm : m ≤ 1000000) (hr : m + 1 ≤ row.length) (hb : a ≠ 0) : LCall Try.prog 92 [.ptr 1000000 0, .data (.i a)] [(1000000, .cells [.data (.i c.latency), .data (.i c.tail), .data (.sl 3 (c.params.map Bd.cs)), .data (.sl 3 (c.states.map Bd.cs)), .data (.sl 4 (c.lines.map Ln.cs)), .data (.sl 1 (c.tables.map lnC)), .data (.i c.regs), .data (.sl 2 (c.instrs.map insC)), .own 1000001 ver 1 0 (m + 1), .own 1000002 0 1 0 regs.length, .data (ints par), .data (ints inn), .data (ints sid), .own 1000003 1 1 0 values.length, .own 1000004 1 1 0 lines.length, .map 1000005, .data (.i out)]), (1000001, .arr ver 1 (row.map intC)), (1000002, .arr 0 1 (regs.map intC)), (1000003, .arr 1 1 (values.map intC)), (1000004, .arr 1 1 (lines.map lnC)), (1000005, .map false [.int .i64] (pu.map kvD))] (.ret (.data (.tuple []))) [(1000000, .cells [.data (.i c.latency), .data (.i c.tail), .data (.sl 3 (c.params.map Bd.cs)), .data (.sl 3 (c.states.map Bd.cs)), .data (.sl 4 (c.lines.map Ln.cs)), .data (.sl 1 (c.tables.map lnC)), .data (.i c.regs), .data (.sl 2 (c.instrs.map insC)), .own 1000001 (ver + 1) 1 0 (m + 1), .own 1000002 0 1 0 regs.length, .data (ints par), .data (ints inn), .data (ints sid), .own 1000003 1 1 0 values.length, .own 1000004 1 1 0 lines.length, .map 1000005, .data (.i out)]), (1000001, .arr (ver + 1) 1 ((row.take m ++ [clM (downM (row.getD m 0) a)]).map intC)), (1000002, .arr 0 1 (regs.map intC)), (1000003, .arr 1 1 (values.map intC)), (1000004, .arr 1 1 (lines.map lnC)), (1000005, .map false [.int .i64] (pu.map kvD))] := by
  refine lcall_of_wc tok hmix ⟨[], []⟩ Try.func92 rfl (by kernel_rfl) (by kernel_rfl) (by kernel_rfl) fun hf => ?_
  clear hf
  repeat' ((try (conv => whnf)) <;> first
    | with_reducible exact trivial
    | ((with_reducible refine call_step ?_ ?_ ?_); rotate_left; (exact down_call _ _ (by assumption)))
    | ((with_reducible refine lent_step' [] (pop_call c par inn sid lines ver row m regs values pu out (by omega) (by omega)) ?_ ?_ ?_ ?_); rotate_left 0; exact rfl; (exact ⟨rfl, rfl, rfl, rfl, rfl, rfl, trivial⟩); exact rfl)
    | ((with_reducible refine lent_step' [] (put_call c par inn sid lines ver row m regs values pu out (downM (row.getD m 0) a) (by omega) (by omega)) ?_ ?_ ?_ ?_); rotate_left 0; exact rfl; (exact ⟨rfl, rfl, rfl, rfl, rfl, rfl, trivial⟩); exact rfl)
    | ((with_reducible refine ret_step ?_); refine fin_step' [] rfl ?_ ?_)
    | (with_reducible refine And.intro ?_ ?_)
    | exact @rfl AV _
    | fail)
  all_goals first
    | skip
set_option maxHeartbeats 1000000 in
theorem ins21 (c : Cd) (par inn sid : List Int) (lines : List (List Int)) (ver : Nat) (row : List Int) (m : Nat) (regs values : List Int) (pu : List (Int × Int)) (out : Int) (a : Int) (hm : m ≤ 1000000) (hr : m + 4 ≤ row.length)  : LCall Try.prog 94 [.ptr 1000000 0, .data (.i a)] [(1000000, .cells [.data (.i c.latency), .data (.i c.tail), .data (.sl 3 (c.params.map Bd.cs)), .data (.sl 3 (c.states.map Bd.cs)), .data (.sl 4 (c.lines.map Ln.cs)), .data (.sl 1 (c.tables.map lnC)), .data (.i c.regs), .data (.sl 2 (c.instrs.map insC)), .own 1000001 ver 1 0 (m + 4), .own 1000002 0 1 0 regs.length, .data (ints par), .data (ints inn), .data (ints sid), .own 1000003 1 1 0 values.length, .own 1000004 1 1 0 lines.length, .map 1000005, .data (.i out)]), (1000001, .arr ver 1 (row.map intC)), (1000002, .arr 0 1 (regs.map intC)), (1000003, .arr 1 1 (values.map intC)), (1000004, .arr 1 1 (lines.map lnC)), (1000005, .map false [.int .i64] (pu.map kvD))] (.ret (.data (.tuple []))) [(1000000, .cells [.data (.i c.latency), .data (.i c.tail), .data (.sl 3 (c.params.map Bd.cs)), .data (.sl 3 (c.states.map Bd.cs)), .data (.sl 4 (c.lines.map Ln.cs)), .data (.sl 1 (c.tables.map lnC)), .data (.i c.regs), .data (.sl 2 (c.instrs.map insC)), .own 1000001 (ver + 1) 1 0 (m + 1), .own 1000002 0 1 0 regs.length, .data (ints par), .data (ints inn), .data (ints sid), .own 1000003 1 1 0 values.length, .own 1000004 1 1 0 lines.length, .map 1000005, .data (.i out)]), (1000001, .arr (ver + 1) 1 ((row.take m ++ [clM (bif decide ((row.getD m 0) < (row.getD (m + 1) 0)) then (row.getD (m + 2) 0) else (row.getD (m + 3) 0))]).map intC)), (1000002, .arr 0 1 (regs.map intC)), (1000003, .arr 1 1 (values.map intC)), (1000004, .arr 1 1 (lines.map lnC)), (1000005, .map false [.int .i64] (pu.map kvD))] := by
  refine lcall_of_wc tok hmix ⟨[], []⟩ Try.func94 rfl (by kernel_rfl) (by kernel_rfl) (by kernel_rfl) fun hf => ?_
  clear hf
  repeat' ((try (conv => whnf)) <;> first
    | with_reducible exact trivial
    | with_reducible refine BrI.intro (fun h => ?_) (fun h => ?_)
    | ((with_reducible refine lent_step' [] (pop_call c par inn sid lines ver row (m + 3) regs values pu out (by omega) (by omega)) ?_ ?_ ?_ ?_); rotate_left 0; exact rfl; (exact ⟨rfl, rfl, rfl, rfl, rfl, rfl, trivial⟩); exact rfl)
    | ((with_reducible refine lent_step' [] (pop_call c par inn sid lines ver row (m + 2) regs values pu out (by omega) (by omega)) ?_ ?_ ?_ ?_); rotate_left 0; exact rfl; (exact ⟨rfl, rfl, rfl, rfl, rfl, rfl, trivial⟩); exact rfl)
    | ((with_reducible refine lent_step' [] (pop_call c par inn sid lines ver row (m + 1) regs values pu out (by omega) (by omega)) ?_ ?_ ?_ ?_); rotate_left 0; exact rfl; (exact ⟨rfl, rfl, rfl, rfl, rfl, rfl, trivial⟩); exact rfl)
    | ((with_reducible refine lent_step' [] (pop_call c par inn sid lines ver row m regs values pu out (by omega) (by omega)) ?_ ?_ ?_ ?_); rotate_left 0; exact rfl; (exact ⟨rfl, rfl, rfl, rfl, rfl, rfl, trivial⟩); exact rfl)
    | ((with_reducible refine lent_step' [] (put_call c par inn sid lines ver row m regs values pu out (row.getD (m + 2) 0) (by omega) (by omega)) ?_ ?_ ?_ ?_); rotate_left 0; exact rfl; (exact ⟨rfl, rfl, rfl, rfl, rfl, rfl, trivial⟩); exact rfl)
    | ((with_reducible refine lent_step' [] (put_call c par inn sid lines ver row m regs values pu out (row.getD (m + 3) 0) (by omega) (by omega)) ?_ ?_ ?_ ?_); rotate_left 0; exact rfl; (exact ⟨rfl, rfl, rfl, rfl, rfl, rfl, trivial⟩); exact rfl)
    | ((with_reducible refine ret_step ?_); refine fin_step' [] rfl ?_ ?_)
    | (with_reducible refine And.intro ?_ ?_)
    | exact @rfl AV _
    | fail)
  all_goals first
    | ((simp only [*, cond_true, cond_false]; rfl))
    | skip
set_option maxHeartbeats 1000000 in
theorem ins22 (c : Cd) (par inn sid : List Int) (lines : List (List Int)) (ver : Nat) (row : List Int) (m : Nat) (regs values : List Int) (pu : List (Int × Int)) (out : Int) (a : Int) (hm : m ≤ 1000000) (hr : m + 1 ≤ row.length)  : LCall Try.prog 95 [.ptr 1000000 0, .data (.i a)] [(1000000, .cells [.data (.i c.latency), .data (.i c.tail), .data (.sl 3 (c.params.map Bd.cs)), .data (.sl 3 (c.states.map Bd.cs)), .data (.sl 4 (c.lines.map Ln.cs)), .data (.sl 1 (c.tables.map lnC)), .data (.i c.regs), .data (.sl 2 (c.instrs.map insC)), .own 1000001 ver 1 0 (m + 1), .own 1000002 0 1 0 regs.length, .data (ints par), .data (ints inn), .data (ints sid), .own 1000003 1 1 0 values.length, .own 1000004 1 1 0 lines.length, .map 1000005, .data (.i out)]), (1000001, .arr ver 1 (row.map intC)), (1000002, .arr 0 1 (regs.map intC)), (1000003, .arr 1 1 (values.map intC)), (1000004, .arr 1 1 (lines.map lnC)), (1000005, .map false [.int .i64] (pu.map kvD))] (.ret (.data (.tuple []))) [(1000000, .cells [.data (.i c.latency), .data (.i c.tail), .data (.sl 3 (c.params.map Bd.cs)), .data (.sl 3 (c.states.map Bd.cs)), .data (.sl 4 (c.lines.map Ln.cs)), .data (.sl 1 (c.tables.map lnC)), .data (.i c.regs), .data (.sl 2 (c.instrs.map insC)), .own 1000001 ver 1 0 m, .own 1000002 0 1 0 regs.length, .data (ints par), .data (ints inn), .data (ints sid), .own 1000003 1 1 0 values.length, .own 1000004 1 1 0 lines.length, .map 1000005, .data (.i (clipM (row.getD m 0)))]), (1000001, .arr ver 1 (row.map intC)), (1000002, .arr 0 1 (regs.map intC)), (1000003, .arr 1 1 (values.map intC)), (1000004, .arr 1 1 (lines.map lnC)), (1000005, .map false [.int .i64] (pu.map kvD))] := by
  refine lcall_of_wc tok hmix ⟨[], []⟩ Try.func95 rfl (by kernel_rfl) (by kernel_rfl) (by kernel_rfl) fun hf => ?_
  clear hf
  repeat' ((try (conv => whnf)) <;> first
    | with_reducible exact trivial
    | ((with_reducible refine call_step ?_ ?_ ?_); rotate_left; (exact clip_call _))
    | ((with_reducible refine lent_step' [] (pop_call c par inn sid lines ver row m regs values pu out (by omega) (by omega)) ?_ ?_ ?_ ?_); rotate_left 0; exact rfl; (exact ⟨rfl, rfl, rfl, rfl, rfl, rfl, trivial⟩); exact rfl)
    | ((with_reducible refine ret_step ?_); refine fin_step' [] rfl ?_ ?_)
    | (with_reducible refine And.intro ?_ ?_)
    | exact @rfl AV _
    | fail)
  all_goals first
    | skip
end Go.Proofs.Ytcfpghieofhfkaa
