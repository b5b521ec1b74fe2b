/- Contracts: the specification of the machine: one instruction. -/
import Derived.Test.YtcfpghieofhfkaaZMS12
import Derived.Test.YtcfpghieofhfkaaZMC
set_option linter.unusedSimpArgs false
set_option linter.unusedVariables false
namespace Go.Proofs.Ytcfpghieofhfkaa
open Go.Fw Go.Fw.Mac
set_option maxRecDepth 10000
set_option linter.unusedSectionVars false
variable [GlobInt]
set_option maxHeartbeats 400000 in
theorem push_call (st regs values ln pu : List Int) (out v : Int) (hs : st.length ≤ 1000000) : PCall Try.prog 61 [rD st regs values ln pu out, .i v] (.ret (rD (st ++ [clM v]) regs values ln pu out)) := by
  refine pcall_of_wc tok hmix ⟨[], []⟩ Try.func61 rfl (by kernel_rfl) (by kernel_rfl) (by kernel_rfl) fun hf => ?_
  clear hf
  repeat' ((try (conv => whnf)) <;> first
    | ((with_reducible refine call_step ?_ ?_ ?_); rotate_left; (exact rhold_call _ _ _))
    | (with_reducible refine ChooseI.l _ ?_)
    | ((with_reducible refine app_step' ?_ ?_ ?_ ?_ ?_ ?_ ?_); exact rfl; exact rfl; exact rfl; exact rfl)
    | ((with_reducible refine ret_step ?_); refine ⟨[], rfl, ?_, trivial⟩; conv => whnf)
    | exact ble_le rfl
    | fail)
  all_goals first
    | ((exact push_fin))
    | ((refine Nat.le_trans (Nat.le_of_eq (show _ = st.length from List.length_map _)) ?_; omega))
    | skip
set_option maxHeartbeats 1000000 in
theorem res1 (c : Cd) (st regs values ln pu : List Int) (out a : Int) (par inn sid : List Int)  : PCall Try.prog 62 [c.d, rD st regs values ln pu out, .agg [.i 1, .i a], ints [], ints par, ints inn, ints sid] (.ret (.i (a))) := by
  refine pcall_of_wc tok hmix ⟨[], []⟩ Try.func62 rfl (by kernel_rfl) (by kernel_rfl) (by kernel_rfl) fun hf => ?_
  clear hf
  repeat' ((try (conv => whnf)) <;> first
    | ((with_reducible refine BrI.tt_of ?_ ?_); exact rfl)
    | ((with_reducible refine ret_step ?_); refine ⟨[], rfl, ?_, trivial⟩; conv => whnf)
    | fail)
  all_goals first
    | skip
set_option maxHeartbeats 1000000 in
theorem res2 (c : Cd) (st regs values ln pu : List Int) (out a : Int) (par inn sid : List Int) (h0 : 0 ≤ a) (h1 : a < par.length) : PCall Try.prog 62 [c.d, rD st regs values ln pu out, .agg [.i 2, .i a], ints [], ints par, ints inn, ints sid] (.ret (.i (par.getD a.toNat 0))) := by
  refine pcall_of_wc tok hmix ⟨[], []⟩ Try.func62 rfl (by kernel_rfl) (by kernel_rfl) (by kernel_rfl) fun hf => ?_
  clear hf
  repeat' ((try (conv => whnf)) <;> first
    | ((with_reducible refine BrI.ff_of ?_ ?_); exact rfl)
    | ((with_reducible refine BrI.tt_of ?_ ?_); exact rfl)
    | ((with_reducible refine idx_step ?_ ?_ ?_ ?_ ?_); exact rfl; exact rfl; rotate_left; exact idx_in h0 h1)
    | ((with_reducible refine ret_step ?_); refine ⟨[], rfl, ?_, trivial⟩; conv => whnf)
    | fail)
  all_goals first
    | skip
set_option maxHeartbeats 1000000 in
theorem res3 (c : Cd) (st regs values ln pu : List Int) (out a : Int) (par inn sid : List Int) (h0 : 0 ≤ a) (h1 : a < values.length) : PCall Try.prog 62 [c.d, rD st regs values ln pu out, .agg [.i 3, .i a], ints [], ints par, ints inn, ints sid] (.ret (.i (values.getD a.toNat 0))) := by
  refine pcall_of_wc tok hmix ⟨[], []⟩ Try.func62 rfl (by kernel_rfl) (by kernel_rfl) (by kernel_rfl) fun hf => ?_
  clear hf
  repeat' ((try (conv => whnf)) <;> first
    | ((with_reducible refine BrI.ff_of ?_ ?_); exact rfl)
    | ((with_reducible refine BrI.tt_of ?_ ?_); exact rfl)
    | ((with_reducible refine idx_step ?_ ?_ ?_ ?_ ?_); exact rfl; exact rfl; rotate_left; exact idx_in h0 h1)
    | ((with_reducible refine ret_step ?_); refine ⟨[], rfl, ?_, trivial⟩; conv => whnf)
    | fail)
  all_goals first
    | skip
set_option maxHeartbeats 1000000 in
theorem res4 (c : Cd) (st regs values ln pu : List Int) (out a : Int) (par inn sid : List Int) (h0 : 0 ≤ a) (h1 : a < regs.length) : PCall Try.prog 62 [c.d, rD st regs values ln pu out, .agg [.i 4, .i a], ints [], ints par, ints inn, ints sid] (.ret (.i (regs.getD a.toNat 0))) := by
  refine pcall_of_wc tok hmix ⟨[], []⟩ Try.func62 rfl (by kernel_rfl) (by kernel_rfl) (by kernel_rfl) fun hf => ?_
  clear hf
  repeat' ((try (conv => whnf)) <;> first
    | ((with_reducible refine BrI.ff_of ?_ ?_); exact rfl)
    | ((with_reducible refine BrI.tt_of ?_ ?_); exact rfl)
    | ((with_reducible refine idx_step ?_ ?_ ?_ ?_ ?_); exact rfl; exact rfl; rotate_left; exact idx_in h0 h1)
    | ((with_reducible refine ret_step ?_); refine ⟨[], rfl, ?_, trivial⟩; conv => whnf)
    | fail)
  all_goals first
    | skip
set_option maxHeartbeats 1000000 in
theorem res8 (c : Cd) (st regs values ln pu : List Int) (out a : Int) (x0 : Int) (par inn sid : List Int) (h0 : 0 ≤ c.latency) (h1 : c.latency < inn.length) : PCall Try.prog 62 [c.d, rD st regs values ln pu out, .agg [.i 8, .i a], ints [x0], ints par, ints inn, ints sid] (.ret (.i (inn.getD (heldM x0 0 c.latency).toNat 0))) := by
  refine pcall_of_wc tok hmix ⟨[], []⟩ Try.func62 rfl (by kernel_rfl) (by kernel_rfl) (by kernel_rfl) fun hf => ?_
  clear hf
  repeat' ((try (conv => whnf)) <;> first
    | ((with_reducible refine BrI.ff_of ?_ ?_); exact rfl)
    | ((with_reducible refine BrI.tt_of ?_ ?_); exact rfl)
    | ((with_reducible refine idx_step ?_ ?_ ?_ ?_ ?_); exact rfl; exact rfl; rotate_left; exact idx_in (held_in h0).1 (Int.lt_of_le_of_lt (held_in h0).2 h1))
    | ((with_reducible refine idx_step ?_ ?_ ?_ ?_ ?_); exact rfl; exact rfl; rotate_left; exact at0)
    | ((with_reducible refine call_step ?_ ?_ ?_); rotate_left; (exact rhold_call _ _ _))
    | ((with_reducible refine chk_stepP ?_ ?_); kernel_rfl)
    | ((with_reducible refine ret_step ?_); refine ⟨[], rfl, ?_, trivial⟩; conv => whnf)
    | fail)
  all_goals first
    | skip
set_option maxHeartbeats 1000000 in
theorem res9 (c : Cd) (st regs values ln pu : List Int) (out a : Int) (x0 : Int) (par inn sid : List Int) (h0 : 0 ≤ c.latency) (h1 : c.latency < sid.length) : PCall Try.prog 62 [c.d, rD st regs values ln pu out, .agg [.i 9, .i a], ints [x0], ints par, ints inn, ints sid] (.ret (.i (sid.getD (heldM x0 0 c.latency).toNat 0))) := by
  refine pcall_of_wc tok hmix ⟨[], []⟩ Try.func62 rfl (by kernel_rfl) (by kernel_rfl) (by kernel_rfl) fun hf => ?_
  clear hf
  repeat' ((try (conv => whnf)) <;> first
    | ((with_reducible refine BrI.ff_of ?_ ?_); exact rfl)
    | ((with_reducible refine BrI.tt_of ?_ ?_); exact rfl)
    | ((with_reducible refine idx_step ?_ ?_ ?_ ?_ ?_); exact rfl; exact rfl; rotate_left; exact idx_in (held_in h0).1 (Int.lt_of_le_of_lt (held_in h0).2 h1))
    | ((with_reducible refine idx_step ?_ ?_ ?_ ?_ ?_); exact rfl; exact rfl; rotate_left; exact at0)
    | ((with_reducible refine call_step ?_ ?_ ?_); rotate_left; (exact rhold_call _ _ _))
    | ((with_reducible refine chk_stepP ?_ ?_); kernel_rfl)
    | ((with_reducible refine ret_step ?_); refine ⟨[], rfl, ?_, trivial⟩; conv => whnf)
    | fail)
  all_goals first
    | skip
set_option maxHeartbeats 1000000 in
theorem res11 (c : Cd) (st regs values ln pu : List Int) (out a : Int) (x0 : Int) (par inn sid : List Int) (h0 : 0 ≤ a) (h1 : a < c.tables.length) (h3 : 0 ≤ W (((c.tables.getD a.toNat []).length : Int) - 1)) (h4 : W (((c.tables.getD a.toNat []).length : Int) - 1) < (c.tables.getD a.toNat []).length) : PCall Try.prog 62 [c.d, rD st regs values ln pu out, .agg [.i 11, .i a], ints [x0], ints par, ints inn, ints sid] (.ret (.i ((c.tables.getD a.toNat []).getD (heldM x0 0 (W (((c.tables.getD a.toNat []).length : Int) - 1))).toNat 0))) := by
  refine pcall_of_wc tok hmix ⟨[], []⟩ Try.func62 rfl (by kernel_rfl) (by kernel_rfl) (by kernel_rfl) fun hf => ?_
  clear hf
  repeat' ((try (conv => whnf)) <;> first
    | ((with_reducible refine BrI.ff_of ?_ ?_); exact rfl)
    | ((with_reducible refine BrI.tt_of ?_ ?_); exact rfl)
    | ((with_reducible refine idx_step ?_ ?_ ?_ ?_ ?_); exact rfl; exact rfl; rotate_left; exact idx_inL h0 h1)
    | ((with_reducible refine idx_step ?_ ?_ ?_ ?_ ?_); exact rfl; exact rfl; rotate_left; exact idx_tab h3 h4)
    | ((with_reducible refine idx_step ?_ ?_ ?_ ?_ ?_); exact rfl; exact rfl; rotate_left; exact at0)
    | ((with_reducible refine call_step ?_ ?_ ?_); rotate_left; (exact rhold_call _ _ _))
    | ((with_reducible refine chk_stepP ?_ ?_); kernel_rfl)
    | ((with_reducible refine ret_step ?_); refine ⟨[], rfl, ?_, trivial⟩; conv => whnf)
    | fail)
  all_goals first
    | skip
set_option maxHeartbeats 1000000 in
theorem res12 (c : Cd) (st regs values ln pu : List Int) (out a : Int) (x0 : Int) (par inn sid : List Int)  : PCall Try.prog 62 [c.d, rD st regs values ln pu out, .agg [.i 12, .i a], ints [x0], ints par, ints inn, ints sid] (.ret (.i (clipM x0))) := by
  refine pcall_of_wc tok hmix ⟨[], []⟩ Try.func62 rfl (by kernel_rfl) (by kernel_rfl) (by kernel_rfl) fun hf => ?_
  clear hf
  repeat' ((try (conv => whnf)) <;> first
    | ((with_reducible refine BrI.ff_of ?_ ?_); exact rfl)
    | ((with_reducible refine BrI.tt_of ?_ ?_); exact rfl)
    | ((with_reducible refine idx_step ?_ ?_ ?_ ?_ ?_); exact rfl; exact rfl; rotate_left; exact at0)
    | ((with_reducible refine call_step ?_ ?_ ?_); rotate_left; (exact rclip_call _))
    | ((with_reducible refine ret_step ?_); refine ⟨[], rfl, ?_, trivial⟩; conv => whnf)
    | fail)
  all_goals first
    | skip
set_option maxHeartbeats 1000000 in
theorem res13 (c : Cd) (st regs values ln pu : List Int) (out a : Int) (x0 x1 : Int) (par inn sid : List Int)  : PCall Try.prog 62 [c.d, rD st regs values ln pu out, .agg [.i 13, .i a], ints [x0, x1], ints par, ints inn, ints sid] (.ret (.i (mm2 false x0 x1))) := by
  refine pcall_of_wc tok hmix ⟨[], []⟩ Try.func62 rfl (by kernel_rfl) (by kernel_rfl) (by kernel_rfl) fun hf => ?_
  clear hf
  repeat' ((try (conv => whnf)) <;> first
    | ((with_reducible refine BrI.ff_of ?_ ?_); exact rfl)
    | ((with_reducible refine BrI.tt_of ?_ ?_); exact rfl)
    | ((with_reducible refine idx_step ?_ ?_ ?_ ?_ ?_); exact rfl; exact rfl; rotate_left; exact at0)
    | ((with_reducible refine idx_step ?_ ?_ ?_ ?_ ?_); exact rfl; exact rfl; rotate_left; exact at1)
    | ((with_reducible refine chk_stepP ?_ ?_); kernel_rfl)
    | ((with_reducible refine ret_step ?_); refine ⟨[], rfl, ?_, trivial⟩; conv => whnf)
    | fail)
  all_goals first
    | skip
set_option maxHeartbeats 1000000 in
theorem res14 (c : Cd) (st regs values ln pu : List Int) (out a : Int) (x0 x1 : Int) (par inn sid : List Int)  : PCall Try.prog 62 [c.d, rD st regs values ln pu out, .agg [.i 14, .i a], ints [x0, x1], ints par, ints inn, ints sid] (.ret (.i (mm2 true x0 x1))) := by
  refine pcall_of_wc tok hmix ⟨[], []⟩ Try.func62 rfl (by kernel_rfl) (by kernel_rfl) (by kernel_rfl) fun hf => ?_
  clear hf
  repeat' ((try (conv => whnf)) <;> first
    | ((with_reducible refine BrI.ff_of ?_ ?_); exact rfl)
    | ((with_reducible refine BrI.tt_of ?_ ?_); exact rfl)
    | ((with_reducible refine idx_step ?_ ?_ ?_ ?_ ?_); exact rfl; exact rfl; rotate_left; exact at0)
    | ((with_reducible refine idx_step ?_ ?_ ?_ ?_ ?_); exact rfl; exact rfl; rotate_left; exact at1)
    | ((with_reducible refine chk_stepP ?_ ?_); kernel_rfl)
    | ((with_reducible refine ret_step ?_); refine ⟨[], rfl, ?_, trivial⟩; conv => whnf)
    | fail)
  all_goals first
    | skip
set_option maxHeartbeats 1000000 in
theorem res15 (c : Cd) (st regs values ln pu : List Int) (out a : Int) (x0 : Int) (par inn sid : List Int)  : PCall Try.prog 62 [c.d, rD st regs values ln pu out, .agg [.i 15, .i a], ints [x0], ints par, ints inn, ints sid] (.ret (.i (mm2 true x0 (W (0 - x0))))) := by
  refine pcall_of_wc tok hmix ⟨[], []⟩ Try.func62 rfl (by kernel_rfl) (by kernel_rfl) (by kernel_rfl) fun hf => ?_
  clear hf
  repeat' ((try (conv => whnf)) <;> first
    | ((with_reducible refine BrI.ff_of ?_ ?_); exact rfl)
    | ((with_reducible refine BrI.tt_of ?_ ?_); exact rfl)
    | ((with_reducible refine idx_step ?_ ?_ ?_ ?_ ?_); exact rfl; exact rfl; rotate_left; exact at0)
    | ((with_reducible refine chk_stepP ?_ ?_); kernel_rfl)
    | ((with_reducible refine ret_step ?_); refine ⟨[], rfl, ?_, trivial⟩; conv => whnf)
    | fail)
  all_goals first
    | skip
set_option maxHeartbeats 1000000 in
theorem res16 (c : Cd) (st regs values ln pu : List Int) (out a : Int) (x0 : Int) (par inn sid : List Int)  : PCall Try.prog 62 [c.d, rD st regs values ln pu out, .agg [.i 16, .i a], ints [x0], ints par, ints inn, ints sid] (.ret (.i (W (0 - x0)))) := by
  refine pcall_of_wc tok hmix ⟨[], []⟩ Try.func62 rfl (by kernel_rfl) (by kernel_rfl) (by kernel_rfl) fun hf => ?_
  clear hf
  repeat' ((try (conv => whnf)) <;> first
    | ((with_reducible refine BrI.ff_of ?_ ?_); exact rfl)
    | ((with_reducible refine BrI.tt_of ?_ ?_); exact rfl)
    | ((with_reducible refine idx_step ?_ ?_ ?_ ?_ ?_); exact rfl; exact rfl; rotate_left; exact at0)
    | ((with_reducible refine ret_step ?_); refine ⟨[], rfl, ?_, trivial⟩; conv => whnf)
    | fail)
  all_goals first
    | skip
set_option maxHeartbeats 1000000 in
theorem res17 (c : Cd) (st regs values ln pu : List Int) (out a : Int) (x0 x1 : Int) (par inn sid : List Int)  : PCall Try.prog 62 [c.d, rD st regs values ln pu out, .agg [.i 17, .i a], ints [x0, x1], ints par, ints inn, ints sid] (.ret (.i (addR x0 x1))) := by
  refine pcall_of_wc tok hmix ⟨[], []⟩ Try.func62 rfl (by kernel_rfl) (by kernel_rfl) (by kernel_rfl) fun hf => ?_
  clear hf
  repeat' ((try (conv => whnf)) <;> first
    | ((with_reducible refine BrI.ff_of ?_ ?_); exact rfl)
    | ((with_reducible refine BrI.tt_of ?_ ?_); exact rfl)
    | ((with_reducible refine idx_step ?_ ?_ ?_ ?_ ?_); exact rfl; exact rfl; rotate_left; exact at0)
    | ((with_reducible refine idx_step ?_ ?_ ?_ ?_ ?_); exact rfl; exact rfl; rotate_left; exact at1)
    | ((with_reducible refine call_step ?_ ?_ ?_); rotate_left; (exact radd_call _ _))
    | ((with_reducible refine chk_stepP ?_ ?_); kernel_rfl)
    | ((with_reducible refine ret_step ?_); refine ⟨[], rfl, ?_, trivial⟩; conv => whnf)
    | fail)
  all_goals first
    | skip
set_option maxHeartbeats 1000000 in
theorem res18 (c : Cd) (st regs values ln pu : List Int) (out a : Int) (x0 x1 : Int) (par inn sid : List Int)  : PCall Try.prog 62 [c.d, rD st regs values ln pu out, .agg [.i 18, .i a], ints [x0, x1], ints par, ints inn, ints sid] (.ret (.i (addR x0 (W (0 - x1))))) := by
  refine pcall_of_wc tok hmix ⟨[], []⟩ Try.func62 rfl (by kernel_rfl) (by kernel_rfl) (by kernel_rfl) fun hf => ?_
  clear hf
  repeat' ((try (conv => whnf)) <;> first
    | ((with_reducible refine BrI.ff_of ?_ ?_); exact rfl)
    | ((with_reducible refine BrI.tt_of ?_ ?_); exact rfl)
    | ((with_reducible refine idx_step ?_ ?_ ?_ ?_ ?_); exact rfl; exact rfl; rotate_left; exact at0)
    | ((with_reducible refine idx_step ?_ ?_ ?_ ?_ ?_); exact rfl; exact rfl; rotate_left; exact at1)
    | ((with_reducible refine call_step ?_ ?_ ?_); rotate_left; (exact radd_call _ _))
    | ((with_reducible refine chk_stepP ?_ ?_); kernel_rfl)
    | ((with_reducible refine ret_step ?_); refine ⟨[], rfl, ?_, trivial⟩; conv => whnf)
    | fail)
  all_goals first
    | skip
set_option maxHeartbeats 1000000 in
theorem res19 (c : Cd) (st regs values ln pu : List Int) (out a : Int) (x0 x1 : Int) (par inn sid : List Int) (ha : Bn x0) (hb : Bn x1) : PCall Try.prog 62 [c.d, rD st regs values ln pu out, .agg [.i 19, .i a], ints [x0, x1], ints par, ints inn, ints sid] (.ret (.i (mulR x0 x1))) := by
  refine pcall_of_wc tok hmix ⟨[], []⟩ Try.func62 rfl (by kernel_rfl) (by kernel_rfl) (by kernel_rfl) fun hf => ?_
  clear hf
  repeat' ((try (conv => whnf)) <;> first
    | ((with_reducible refine BrI.ff_of ?_ ?_); exact rfl)
    | ((with_reducible refine BrI.tt_of ?_ ?_); exact rfl)
    | ((with_reducible refine idx_step ?_ ?_ ?_ ?_ ?_); exact rfl; exact rfl; rotate_left; exact at0)
    | ((with_reducible refine idx_step ?_ ?_ ?_ ?_ ?_); exact rfl; exact rfl; rotate_left; exact at1)
    | ((with_reducible refine call_step ?_ ?_ ?_); rotate_left; (exact rmul_call _ _ ha hb))
    | ((with_reducible refine chk_stepP ?_ ?_); kernel_rfl)
    | ((with_reducible refine ret_step ?_); refine ⟨[], rfl, ?_, trivial⟩; conv => whnf)
    | fail)
  all_goals first
    | skip
set_option maxHeartbeats 1000000 in
theorem res20 (c : Cd) (st regs values ln pu : List Int) (out a : Int) (x0 : Int) (par inn sid : List Int) (hb : a ≠ 0) : PCall Try.prog 62 [c.d, rD st regs values ln pu out, .agg [.i 20, .i a], ints [x0], ints par, ints inn, ints sid] (.ret (.i (floorR x0 a))) := by
  refine pcall_of_wc tok hmix ⟨[], []⟩ Try.func62 rfl (by kernel_rfl) (by kernel_rfl) (by kernel_rfl) fun hf => ?_
  clear hf
  repeat' ((try (conv => whnf)) <;> first
    | ((with_reducible refine BrI.ff_of ?_ ?_); exact rfl)
    | ((with_reducible refine BrI.tt_of ?_ ?_); exact rfl)
    | ((with_reducible refine idx_step ?_ ?_ ?_ ?_ ?_); exact rfl; exact rfl; rotate_left; exact at0)
    | ((with_reducible refine call_step ?_ ?_ ?_); rotate_left; (exact rfloor_call _ _ (by assumption)))
    | ((with_reducible refine chk_stepP ?_ ?_); kernel_rfl)
    | ((with_reducible refine ret_step ?_); refine ⟨[], rfl, ?_, trivial⟩; conv => whnf)
    | fail)
  all_goals first
    | skip
set_option maxHeartbeats 1000000 in
theorem res21 (c : Cd) (st regs values ln pu : List Int) (out a : Int) (x0 x1 x2 x3 : Int) (par inn sid : List Int)  : PCall Try.prog 62 [c.d, rD st regs values ln pu out, .agg [.i 21, .i a], ints [x0, x1, x2, x3], ints par, ints inn, ints sid] (.ret (.i ((bif decide (x0 < x1) then x2 else x3)))) := by
  refine pcall_of_wc tok hmix ⟨[], []⟩ Try.func62 rfl (by kernel_rfl) (by kernel_rfl) (by kernel_rfl) fun hf => ?_
  clear hf
  repeat' ((try (conv => whnf)) <;> first
    | ((with_reducible refine BrI.ff_of ?_ ?_); exact rfl)
    | with_reducible refine BrI.intro (fun h => ?_) (fun h => ?_)
    | ((with_reducible refine idx_step ?_ ?_ ?_ ?_ ?_); exact rfl; exact rfl; rotate_left; exact at0)
    | ((with_reducible refine idx_step ?_ ?_ ?_ ?_ ?_); exact rfl; exact rfl; rotate_left; exact at1)
    | ((with_reducible refine idx_step ?_ ?_ ?_ ?_ ?_); exact rfl; exact rfl; rotate_left; exact at2)
    | ((with_reducible refine idx_step ?_ ?_ ?_ ?_ ?_); exact rfl; exact rfl; rotate_left; exact at3)
    | ((with_reducible refine chk_stepP ?_ ?_); kernel_rfl)
    | ((with_reducible refine ret_step ?_); refine ⟨[], rfl, ?_, trivial⟩; conv => whnf)
    | fail)
  all_goals first
    | ((simp only [*, cond_true, cond_false]; done))
    | skip
set_option maxHeartbeats 1000000 in
theorem perf1 (c : Cd) (row regs values ln pu : List Int) (m : Nat) (out a : Int) (par inn sid : List Int) (s : Sta) (hm : m ≤ 1000000) (hr : m ≤ row.length) (hg : regs.length ≤ 1000000) (hv : values.length ≤ 1000000) (hl : ln.length ≤ 1000000) (hu : pu.length ≤ 1000000)  : PCall Try.prog 43 [c.d, rD (row.take (m)) regs values ln pu out, .agg [.i 1, .i a], ints par, ints inn, ints sid, s.d] (.ret (rD (row.take m ++ [clM (a)]) (regs) (values) (ln) (pu) (out))) := by
  refine pcall_of_wc tok hmix ⟨[4], []⟩ Try.func43 rfl (by kernel_rfl) (by kernel_rfl) (by kernel_rfl) fun hf => ?_
  have hk : IntKind.i64.wrap ((((row.take (m)).map intC).length : Int) - takesN 1) = (m : Int) := take_k (t := 0) hm hr rfl (by decide)
  have hq : ((row.take (m)).map intC).length ≤ 1000010 := by rw [List.length_map, List.length_take]; omega
  clear hf
  repeat' ((try (conv => whnf)) <;> first
    | ((with_reducible refine BrI.ff_of ?_ ?_); exact rfl)
    | ((with_reducible refine LoopAt.mk 4 ?_); refine ⟨⟨Unit, fun _ => [(16, .gs 24 1 (([] : List Int).map intC))], fun _ => [(24, .tok 1 (([] : List Int).map intC).length), (8, .cells [.gs 30 1 ((row.take m).map intC), .data (ints regs), .data (ints values), .data (ints ln), .data (ints pu), .data (.i out)]), (30, .tok 1 ((row.take m).map intC).length)], [3, 4, 5, 7, 8, 9, 13, 14], fun _ => True, fun _ => 0⟩, ?_, fun _ _ => ?_⟩)
    | (refine ⟨(), trivial, ?_⟩)
    | with_reducible exact trivial
    | ((with_reducible refine call_step ?_ ?_ ?_); rotate_left; (first | exact rtakes_call _ | exact push_call (row.take m) regs values ln pu out _ (by rw [List.length_take]; omega) | exact res1 c (row.take m) regs values ln pu out a  par inn sid ))
    | (with_reducible refine ChooseI.l _ ?_)
    | ((with_reducible refine app_step' ?_ ?_ ?_ ?_ ?_ ?_ ?_); exact rfl; exact rfl; exact rfl; exact rfl)
    | ((with_reducible refine chk_stepP ?_ ?_); kernel_rfl)
    | ((with_reducible refine ret_step ?_); refine ⟨[], rfl, ?_, trivial⟩; conv => whnf)
    | (with_reducible refine And.intro ?_ ?_)
    | ((with_reducible refine gs_eq ?_ ?_ ?_); exact rfl; exact rfl; (first | skip))
    | ((with_reducible refine tok_eq ?_ ?_); exact rfl; (first | skip))
    | exact @rfl AV _
    | exact ble_le rfl
    | fail)
  all_goals first
    | (rfl)
    | ((rw [hk]; omega))
    | ((rw [hk, List.length_map, List.length_take]; omega))
    | ((exact cut_sz (Nat.le_trans hq (by decide))))
    | ((exact pf_l hk td0))
    | ((exact pf_s hk (by omega)))
    | skip
set_option maxHeartbeats 1000000 in
theorem perf2 (c : Cd) (row regs values ln pu : List Int) (m : Nat) (out a : Int) (par inn sid : List Int) (s : Sta) (hm : m ≤ 1000000) (hr : m ≤ row.length) (hg : regs.length ≤ 1000000) (hv : values.length ≤ 1000000) (hl : ln.length ≤ 1000000) (hu : pu.length ≤ 1000000) (h0 : 0 ≤ a) (h1 : a < par.length) : PCall Try.prog 43 [c.d, rD (row.take (m)) regs values ln pu out, .agg [.i 2, .i a], ints par, ints inn, ints sid, s.d] (.ret (rD (row.take m ++ [clM (par.getD a.toNat 0)]) (regs) (values) (ln) (pu) (out))) := by
  refine pcall_of_wc tok hmix ⟨[4], []⟩ Try.func43 rfl (by kernel_rfl) (by kernel_rfl) (by kernel_rfl) fun hf => ?_
  have hk : IntKind.i64.wrap ((((row.take (m)).map intC).length : Int) - takesN 2) = (m : Int) := take_k (t := 0) hm hr rfl (by decide)
  have hq : ((row.take (m)).map intC).length ≤ 1000010 := by rw [List.length_map, List.length_take]; omega
  clear hf
  repeat' ((try (conv => whnf)) <;> first
    | ((with_reducible refine BrI.ff_of ?_ ?_); exact rfl)
    | ((with_reducible refine LoopAt.mk 4 ?_); refine ⟨⟨Unit, fun _ => [(16, .gs 24 1 (([] : List Int).map intC))], fun _ => [(24, .tok 1 (([] : List Int).map intC).length), (8, .cells [.gs 30 1 ((row.take m).map intC), .data (ints regs), .data (ints values), .data (ints ln), .data (ints pu), .data (.i out)]), (30, .tok 1 ((row.take m).map intC).length)], [3, 4, 5, 7, 8, 9, 13, 14], fun _ => True, fun _ => 0⟩, ?_, fun _ _ => ?_⟩)
    | (refine ⟨(), trivial, ?_⟩)
    | with_reducible exact trivial
    | ((with_reducible refine call_step ?_ ?_ ?_); rotate_left; (first | exact rtakes_call _ | exact push_call (row.take m) regs values ln pu out _ (by rw [List.length_take]; omega) | exact res2 c (row.take m) regs values ln pu out a  par inn sid h0 h1))
    | (with_reducible refine ChooseI.l _ ?_)
    | ((with_reducible refine app_step' ?_ ?_ ?_ ?_ ?_ ?_ ?_); exact rfl; exact rfl; exact rfl; exact rfl)
    | ((with_reducible refine chk_stepP ?_ ?_); kernel_rfl)
    | ((with_reducible refine ret_step ?_); refine ⟨[], rfl, ?_, trivial⟩; conv => whnf)
    | (with_reducible refine And.intro ?_ ?_)
    | ((with_reducible refine gs_eq ?_ ?_ ?_); exact rfl; exact rfl; (first | skip))
    | ((with_reducible refine tok_eq ?_ ?_); exact rfl; (first | skip))
    | exact @rfl AV _
    | exact ble_le rfl
    | fail)
  all_goals first
    | (rfl)
    | ((rw [hk]; omega))
    | ((rw [hk, List.length_map, List.length_take]; omega))
    | ((exact cut_sz (Nat.le_trans hq (by decide))))
    | ((exact pf_l hk td0))
    | ((exact pf_s hk (by omega)))
    | skip
set_option maxHeartbeats 1000000 in
theorem perf3 (c : Cd) (row regs values ln pu : List Int) (m : Nat) (out a : Int) (par inn sid : List Int) (s : Sta) (hm : m ≤ 1000000) (hr : m ≤ row.length) (hg : regs.length ≤ 1000000) (hv : values.length ≤ 1000000) (hl : ln.length ≤ 1000000) (hu : pu.length ≤ 1000000) (h0 : 0 ≤ a) (h1 : a < values.length) : PCall Try.prog 43 [c.d, rD (row.take (m)) regs values ln pu out, .agg [.i 3, .i a], ints par, ints inn, ints sid, s.d] (.ret (rD (row.take m ++ [clM (values.getD a.toNat 0)]) (regs) (values) (ln) (pu) (out))) := by
  refine pcall_of_wc tok hmix ⟨[4], []⟩ Try.func43 rfl (by kernel_rfl) (by kernel_rfl) (by kernel_rfl) fun hf => ?_
  have hk : IntKind.i64.wrap ((((row.take (m)).map intC).length : Int) - takesN 3) = (m : Int) := take_k (t := 0) hm hr rfl (by decide)
  have hq : ((row.take (m)).map intC).length ≤ 1000010 := by rw [List.length_map, List.length_take]; omega
  clear hf
  repeat' ((try (conv => whnf)) <;> first
    | ((with_reducible refine BrI.ff_of ?_ ?_); exact rfl)
    | ((with_reducible refine LoopAt.mk 4 ?_); refine ⟨⟨Unit, fun _ => [(16, .gs 24 1 (([] : List Int).map intC))], fun _ => [(24, .tok 1 (([] : List Int).map intC).length), (8, .cells [.gs 30 1 ((row.take m).map intC), .data (ints regs), .data (ints values), .data (ints ln), .data (ints pu), .data (.i out)]), (30, .tok 1 ((row.take m).map intC).length)], [3, 4, 5, 7, 8, 9, 13, 14], fun _ => True, fun _ => 0⟩, ?_, fun _ _ => ?_⟩)
    | (refine ⟨(), trivial, ?_⟩)
    | with_reducible exact trivial
    | ((with_reducible refine call_step ?_ ?_ ?_); rotate_left; (first | exact rtakes_call _ | exact push_call (row.take m) regs values ln pu out _ (by rw [List.length_take]; omega) | exact res3 c (row.take m) regs values ln pu out a  par inn sid h0 h1))
    | (with_reducible refine ChooseI.l _ ?_)
    | ((with_reducible refine app_step' ?_ ?_ ?_ ?_ ?_ ?_ ?_); exact rfl; exact rfl; exact rfl; exact rfl)
    | ((with_reducible refine chk_stepP ?_ ?_); kernel_rfl)
    | ((with_reducible refine ret_step ?_); refine ⟨[], rfl, ?_, trivial⟩; conv => whnf)
    | (with_reducible refine And.intro ?_ ?_)
    | ((with_reducible refine gs_eq ?_ ?_ ?_); exact rfl; exact rfl; (first | skip))
    | ((with_reducible refine tok_eq ?_ ?_); exact rfl; (first | skip))
    | exact @rfl AV _
    | exact ble_le rfl
    | fail)
  all_goals first
    | (rfl)
    | ((rw [hk]; omega))
    | ((rw [hk, List.length_map, List.length_take]; omega))
    | ((exact cut_sz (Nat.le_trans hq (by decide))))
    | ((exact pf_l hk td0))
    | ((exact pf_s hk (by omega)))
    | skip
set_option maxHeartbeats 1000000 in
theorem perf4 (c : Cd) (row regs values ln pu : List Int) (m : Nat) (out a : Int) (par inn sid : List Int) (s : Sta) (hm : m ≤ 1000000) (hr : m ≤ row.length) (hg : regs.length ≤ 1000000) (hv : values.length ≤ 1000000) (hl : ln.length ≤ 1000000) (hu : pu.length ≤ 1000000) (h0 : 0 ≤ a) (h1 : a < regs.length) : PCall Try.prog 43 [c.d, rD (row.take (m)) regs values ln pu out, .agg [.i 4, .i a], ints par, ints inn, ints sid, s.d] (.ret (rD (row.take m ++ [clM (regs.getD a.toNat 0)]) (regs) (values) (ln) (pu) (out))) := by
  refine pcall_of_wc tok hmix ⟨[4], []⟩ Try.func43 rfl (by kernel_rfl) (by kernel_rfl) (by kernel_rfl) fun hf => ?_
  have hk : IntKind.i64.wrap ((((row.take (m)).map intC).length : Int) - takesN 4) = (m : Int) := take_k (t := 0) hm hr rfl (by decide)
  have hq : ((row.take (m)).map intC).length ≤ 1000010 := by rw [List.length_map, List.length_take]; omega
  clear hf
  repeat' ((try (conv => whnf)) <;> first
    | ((with_reducible refine BrI.ff_of ?_ ?_); exact rfl)
    | ((with_reducible refine LoopAt.mk 4 ?_); refine ⟨⟨Unit, fun _ => [(16, .gs 24 1 (([] : List Int).map intC))], fun _ => [(24, .tok 1 (([] : List Int).map intC).length), (8, .cells [.gs 30 1 ((row.take m).map intC), .data (ints regs), .data (ints values), .data (ints ln), .data (ints pu), .data (.i out)]), (30, .tok 1 ((row.take m).map intC).length)], [3, 4, 5, 7, 8, 9, 13, 14], fun _ => True, fun _ => 0⟩, ?_, fun _ _ => ?_⟩)
    | (refine ⟨(), trivial, ?_⟩)
    | with_reducible exact trivial
    | ((with_reducible refine call_step ?_ ?_ ?_); rotate_left; (first | exact rtakes_call _ | exact push_call (row.take m) regs values ln pu out _ (by rw [List.length_take]; omega) | exact res4 c (row.take m) regs values ln pu out a  par inn sid h0 h1))
    | (with_reducible refine ChooseI.l _ ?_)
    | ((with_reducible refine app_step' ?_ ?_ ?_ ?_ ?_ ?_ ?_); exact rfl; exact rfl; exact rfl; exact rfl)
    | ((with_reducible refine chk_stepP ?_ ?_); kernel_rfl)
    | ((with_reducible refine ret_step ?_); refine ⟨[], rfl, ?_, trivial⟩; conv => whnf)
    | (with_reducible refine And.intro ?_ ?_)
    | ((with_reducible refine gs_eq ?_ ?_ ?_); exact rfl; exact rfl; (first | skip))
    | ((with_reducible refine tok_eq ?_ ?_); exact rfl; (first | skip))
    | exact @rfl AV _
    | exact ble_le rfl
    | fail)
  all_goals first
    | (rfl)
    | ((rw [hk]; omega))
    | ((rw [hk, List.length_map, List.length_take]; omega))
    | ((exact cut_sz (Nat.le_trans hq (by decide))))
    | ((exact pf_l hk td0))
    | ((exact pf_s hk (by omega)))
    | skip
set_option maxHeartbeats 1000000 in
theorem perf5 (c : Cd) (row regs values ln pu : List Int) (m : Nat) (out a : Int) (par inn sid : List Int) (s : Sta) (hm : m ≤ 1000000) (hr : m + 1 ≤ row.length) (hg : regs.length ≤ 1000000) (hv : values.length ≤ 1000000) (hl : ln.length ≤ 1000000) (hu : pu.length ≤ 1000000) (h0 : 0 ≤ a) (h1 : a < regs.length) : PCall Try.prog 43 [c.d, rD (row.take (m + 1)) regs values ln pu out, .agg [.i 5, .i a], ints par, ints inn, ints sid, s.d] (.ret (rD (row.take m) (regs.set a.toNat (row.getD m 0)) (values) (ln) (pu) (out))) := by
  refine pcall_of_wc tok hmix ⟨[4], []⟩ Try.func43 rfl (by kernel_rfl) (by kernel_rfl) (by kernel_rfl) fun hf => ?_
  have hk : IntKind.i64.wrap ((((row.take (m + 1)).map intC).length : Int) - takesN 5) = (m : Int) := take_k (t := 1) hm hr rfl (by decide)
  have hq : ((row.take (m + 1)).map intC).length ≤ 1000010 := by rw [List.length_map, List.length_take]; omega
  clear hf
  repeat' ((try (conv => whnf)) <;> first
    | ((with_reducible refine BrI.tt_of ?_ ?_); exact rfl)
    | ((with_reducible refine LoopAt.mk 4 ?_); refine ⟨⟨Unit, fun _ => [(16, .gs 24 1 (([(row.getD m 0)] : List Int).map intC))], fun _ => [(24, .tok 1 (([(row.getD m 0)] : List Int).map intC).length), (8, .cells [.gs 30 1 ((row.take m).map intC), .data (ints regs), .data (ints values), .data (ints ln), .data (ints pu), .data (.i out)]), (30, .tok 1 ((row.take m).map intC).length)], [3, 4, 5, 7, 8, 9, 13, 14], fun _ => True, fun _ => 0⟩, ?_, fun _ _ => ?_⟩)
    | (refine ⟨(), trivial, ?_⟩)
    | (with_reducible refine ChooseI.r 51 ?_)
    | with_reducible exact trivial
    | ((with_reducible refine own_app_step ?_ ?_ ?_ ?_ ?_ ?_ ?_ ?_); exact rfl; exact rfl; exact rfl; exact ble_le rfl; exact rfl; (exact Nat.zero_le _); (rw [List.length_map]; omega))
    | ((with_reducible refine own_idx_step ?_ ?_ ?_ ?_ ?_); exact rfl; exact rfl; exact rfl; exact own_rng h0 h1)
    | ((with_reducible refine own_store_step ?_ ?_ ?_ ?_ ?_ ?_ ?_ ?_ ?_); exact rfl; exact rfl; exact rfl; exact rfl; exact ble_le rfl; exact rfl; rotate_left; exact own_in0 h0 h1)
    | (refine ⟨(regs.set a.toNat ((row.getD m 0))).map intC, ret_own, ?_⟩)
    | ((with_reducible refine idx_step ?_ ?_ ?_ ?_ ?_); exact rfl; exact rfl; rotate_left; exact at0)
    | ((with_reducible refine call_step ?_ ?_ ?_); rotate_left; (exact rtakes_call _))
    | (with_reducible refine ChooseI.l _ ?_)
    | ((with_reducible refine app_step' ?_ ?_ ?_ ?_ ?_ ?_ ?_); exact rfl; exact rfl; exact rfl; exact rfl)
    | ((with_reducible refine chk_stepP ?_ ?_); kernel_rfl)
    | ((with_reducible refine ret_step ?_); refine ⟨[], rfl, ?_, trivial⟩; conv => whnf)
    | (with_reducible refine And.intro ?_ ?_)
    | ((with_reducible refine gs_eq ?_ ?_ ?_); exact rfl; exact rfl; (first | skip))
    | ((with_reducible refine tok_eq ?_ ?_); exact rfl; (first | skip))
    | exact @rfl AV _
    | exact ble_le rfl
    | fail)
  all_goals first
    | (rfl)
    | ((rw [hk]; omega))
    | ((rw [hk, List.length_map, List.length_take]; omega))
    | ((exact cut_sz (Nat.le_trans hq (by decide))))
    | ((exact pf_l hk (td1 hr)))
    | ((exact pf_s hk (by omega)))
    | skip
set_option maxHeartbeats 1000000 in
theorem perf6 (c : Cd) (row regs values ln pu : List Int) (m : Nat) (out a : Int) (par inn sid : List Int) (s : Sta) (hm : m ≤ 1000000) (hr : m + 1 ≤ row.length) (hg : regs.length ≤ 1000000) (hv : values.length ≤ 1000000) (hl : ln.length ≤ 1000000) (hu : pu.length ≤ 1000000) (h0 : 0 ≤ a) (h1 : a < values.length) (h2 : a < c.states.length) : PCall Try.prog 43 [c.d, rD (row.take (m + 1)) regs values ln pu out, .agg [.i 6, .i a], ints par, ints inn, ints sid, s.d] (.ret (rD (row.take m) (regs) (values.set a.toNat (heldM (row.getD m 0) (c.states.getD a.toNat default).lo (c.states.getD a.toNat default).hi)) (ln) (pu) (out))) := by
  refine pcall_of_wc tok hmix ⟨[4], []⟩ Try.func43 rfl (by kernel_rfl) (by kernel_rfl) (by kernel_rfl) fun hf => ?_
  have hk : IntKind.i64.wrap ((((row.take (m + 1)).map intC).length : Int) - takesN 6) = (m : Int) := take_k (t := 1) hm hr rfl (by decide)
  have hq : ((row.take (m + 1)).map intC).length ≤ 1000010 := by rw [List.length_map, List.length_take]; omega
  clear hf
  repeat' ((try (conv => whnf)) <;> first
    | ((with_reducible refine BrI.ff_of ?_ ?_); exact rfl)
    | ((with_reducible refine BrI.tt_of ?_ ?_); exact rfl)
    | ((with_reducible refine LoopAt.mk 4 ?_); refine ⟨⟨Unit, fun _ => [(16, .gs 24 1 (([(row.getD m 0)] : List Int).map intC))], fun _ => [(24, .tok 1 (([(row.getD m 0)] : List Int).map intC).length), (8, .cells [.gs 30 1 ((row.take m).map intC), .data (ints regs), .data (ints values), .data (ints ln), .data (ints pu), .data (.i out)]), (30, .tok 1 ((row.take m).map intC).length)], [3, 4, 5, 7, 8, 9, 13, 14], fun _ => True, fun _ => 0⟩, ?_, fun _ _ => ?_⟩)
    | (refine ⟨(), trivial, ?_⟩)
    | (with_reducible refine ChooseI.r 66 ?_)
    | with_reducible exact trivial
    | ((with_reducible refine own_app_step ?_ ?_ ?_ ?_ ?_ ?_ ?_ ?_); exact rfl; exact rfl; exact rfl; exact ble_le rfl; exact rfl; (exact Nat.zero_le _); (rw [List.length_map]; omega))
    | ((with_reducible refine own_idx_step ?_ ?_ ?_ ?_ ?_); exact rfl; exact rfl; exact rfl; exact own_rng h0 h1)
    | ((with_reducible refine own_store_step ?_ ?_ ?_ ?_ ?_ ?_ ?_ ?_ ?_); exact rfl; exact rfl; exact rfl; exact rfl; exact ble_le rfl; exact rfl; rotate_left; exact own_in0 h0 h1)
    | (refine ⟨(values.set a.toNat (heldM (row.getD m 0) (c.states.getD a.toNat default).lo (c.states.getD a.toNat default).hi)).map intC, ret_own, ?_⟩)
    | ((with_reducible refine idx_step ?_ ?_ ?_ ?_ ?_); exact rfl; exact rfl; rotate_left; exact idx_inB h0 h2)
    | ((with_reducible refine idx_step ?_ ?_ ?_ ?_ ?_); exact rfl; exact rfl; rotate_left; exact at0)
    | ((with_reducible refine call_step ?_ ?_ ?_); rotate_left; (first | exact rtakes_call _ | exact rhold_call _ _ _))
    | (with_reducible refine ChooseI.l _ ?_)
    | ((with_reducible refine app_step' ?_ ?_ ?_ ?_ ?_ ?_ ?_); exact rfl; exact rfl; exact rfl; exact rfl)
    | ((with_reducible refine chk_stepP ?_ ?_); kernel_rfl)
    | ((with_reducible refine ret_step ?_); refine ⟨[], rfl, ?_, trivial⟩; conv => whnf)
    | (with_reducible refine And.intro ?_ ?_)
    | ((with_reducible refine gs_eq ?_ ?_ ?_); exact rfl; exact rfl; (first | skip))
    | ((with_reducible refine tok_eq ?_ ?_); exact rfl; (first | skip))
    | exact @rfl AV _
    | exact ble_le rfl
    | fail)
  all_goals first
    | (rfl)
    | ((rw [hk]; omega))
    | ((rw [hk, List.length_map, List.length_take]; omega))
    | ((exact cut_sz (Nat.le_trans hq (by decide))))
    | ((exact pf_l hk (td1 hr)))
    | ((exact pf_s hk (by omega)))
    | skip
set_option maxHeartbeats 1000000 in
theorem perf7 (c : Cd) (row regs values ln pu : List Int) (m : Nat) (out a : Int) (par inn sid : List Int) (s : Sta) (hm : m ≤ 1000000) (hr : m + 1 ≤ row.length) (hg : regs.length ≤ 1000000) (hv : values.length ≤ 1000000) (hl : ln.length ≤ 1000000) (hu : pu.length ≤ 1000000) (h0 : 0 ≤ a) (h1 : a < c.lines.length) : PCall Try.prog 43 [c.d, rD (row.take (m + 1)) regs values ln pu out, .agg [.i 7, .i a], ints par, ints inn, ints sid, s.d] (.ret (rD (row.take m) (regs) (values) (ln ++ [a]) (pu ++ [heldM (row.getD m 0) (c.lines.getD a.toNat default).lo (c.lines.getD a.toNat default).hi]) (out))) := by
  refine pcall_of_wc tok hmix ⟨[4], []⟩ Try.func43 rfl (by kernel_rfl) (by kernel_rfl) (by kernel_rfl) fun hf => ?_
  have hk : IntKind.i64.wrap ((((row.take (m + 1)).map intC).length : Int) - takesN 7) = (m : Int) := take_k (t := 1) hm hr rfl (by decide)
  have hq : ((row.take (m + 1)).map intC).length ≤ 1000010 := by rw [List.length_map, List.length_take]; omega
  clear hf
  repeat' ((try (conv => whnf)) <;> first
    | ((with_reducible refine BrI.ff_of ?_ ?_); exact rfl)
    | ((with_reducible refine BrI.tt_of ?_ ?_); exact rfl)
    | ((with_reducible refine LoopAt.mk 4 ?_); refine ⟨⟨Unit, fun _ => [(16, .gs 24 1 (([(row.getD m 0)] : List Int).map intC))], fun _ => [(24, .tok 1 (([(row.getD m 0)] : List Int).map intC).length), (8, .cells [.gs 30 1 ((row.take m).map intC), .data (ints regs), .data (ints values), .data (ints ln), .data (ints pu), .data (.i out)]), (30, .tok 1 ((row.take m).map intC).length)], [3, 4, 5, 7, 8, 9, 13, 14], fun _ => True, fun _ => 0⟩, ?_, fun _ _ => ?_⟩)
    | (refine ⟨(), trivial, ?_⟩)
    | with_reducible exact trivial
    | ((with_reducible refine idx_step ?_ ?_ ?_ ?_ ?_); exact rfl; exact rfl; rotate_left; exact idx_inN h0 h1)
    | ((with_reducible refine idx_step ?_ ?_ ?_ ?_ ?_); exact rfl; exact rfl; rotate_left; exact at0)
    | ((with_reducible refine call_step ?_ ?_ ?_); rotate_left; (first | exact rtakes_call _ | exact rhold_call _ _ _))
    | (with_reducible refine ChooseI.l _ ?_)
    | ((with_reducible refine app_step' ?_ ?_ ?_ ?_ ?_ ?_ ?_); exact rfl; exact rfl; exact rfl; exact rfl)
    | ((with_reducible refine chk_stepP ?_ ?_); kernel_rfl)
    | ((with_reducible refine ret_step ?_); refine ⟨[], rfl, ?_, trivial⟩; conv => whnf)
    | (with_reducible refine And.intro ?_ ?_)
    | ((with_reducible refine gs_eq ?_ ?_ ?_); exact rfl; exact rfl; (first | skip))
    | ((with_reducible refine tok_eq ?_ ?_); exact rfl; (first | skip))
    | exact @rfl AV _
    | exact ble_le rfl
    | fail)
  all_goals first
    | (rfl)
    | ((rw [hk]; omega))
    | ((rw [hk, List.length_map, List.length_take]; omega))
    | ((exact cut_sz (Nat.le_trans hq (by decide))))
    | ((exact pf_l hk (td1 hr)))
    | ((exact pf_s hk (by omega)))
    | ((rw [List.length_map]; omega))
    | ((refine Nat.le_trans (Nat.le_of_eq (show _ = ln.length from List.length_map _)) ?_; omega))
    | ((refine Nat.le_trans (Nat.le_of_eq (show _ = pu.length from List.length_map _)) ?_; omega))
    | ((exact pf7))
    | skip
set_option maxHeartbeats 1000000 in
theorem perf8 (c : Cd) (row regs values ln pu : List Int) (m : Nat) (out a : Int) (par inn sid : List Int) (s : Sta) (hm : m ≤ 1000000) (hr : m + 1 ≤ row.length) (hg : regs.length ≤ 1000000) (hv : values.length ≤ 1000000) (hl : ln.length ≤ 1000000) (hu : pu.length ≤ 1000000) (h0 : 0 ≤ c.latency) (h1 : c.latency < inn.length) : PCall Try.prog 43 [c.d, rD (row.take (m + 1)) regs values ln pu out, .agg [.i 8, .i a], ints par, ints inn, ints sid, s.d] (.ret (rD (row.take m ++ [clM (inn.getD (heldM (row.getD m 0) 0 c.latency).toNat 0)]) (regs) (values) (ln) (pu) (out))) := by
  refine pcall_of_wc tok hmix ⟨[4], []⟩ Try.func43 rfl (by kernel_rfl) (by kernel_rfl) (by kernel_rfl) fun hf => ?_
  have hk : IntKind.i64.wrap ((((row.take (m + 1)).map intC).length : Int) - takesN 8) = (m : Int) := take_k (t := 1) hm hr rfl (by decide)
  have hq : ((row.take (m + 1)).map intC).length ≤ 1000010 := by rw [List.length_map, List.length_take]; omega
  clear hf
  repeat' ((try (conv => whnf)) <;> first
    | ((with_reducible refine BrI.ff_of ?_ ?_); exact rfl)
    | ((with_reducible refine LoopAt.mk 4 ?_); refine ⟨⟨Unit, fun _ => [(16, .gs 24 1 (([(row.getD m 0)] : List Int).map intC))], fun _ => [(24, .tok 1 (([(row.getD m 0)] : List Int).map intC).length), (8, .cells [.gs 30 1 ((row.take m).map intC), .data (ints regs), .data (ints values), .data (ints ln), .data (ints pu), .data (.i out)]), (30, .tok 1 ((row.take m).map intC).length)], [3, 4, 5, 7, 8, 9, 13, 14], fun _ => True, fun _ => 0⟩, ?_, fun _ _ => ?_⟩)
    | (refine ⟨(), trivial, ?_⟩)
    | with_reducible exact trivial
    | ((with_reducible refine call_step ?_ ?_ ?_); rotate_left; (first | exact rtakes_call _ | exact push_call (row.take m) regs values ln pu out _ (by rw [List.length_take]; omega) | exact res8 c (row.take m) regs values ln pu out a (row.getD m 0) par inn sid h0 h1))
    | (with_reducible refine ChooseI.l _ ?_)
    | ((with_reducible refine app_step' ?_ ?_ ?_ ?_ ?_ ?_ ?_); exact rfl; exact rfl; exact rfl; exact rfl)
    | ((with_reducible refine chk_stepP ?_ ?_); kernel_rfl)
    | ((with_reducible refine ret_step ?_); refine ⟨[], rfl, ?_, trivial⟩; conv => whnf)
    | (with_reducible refine And.intro ?_ ?_)
    | ((with_reducible refine gs_eq ?_ ?_ ?_); exact rfl; exact rfl; (first | skip))
    | ((with_reducible refine tok_eq ?_ ?_); exact rfl; (first | skip))
    | exact @rfl AV _
    | exact ble_le rfl
    | fail)
  all_goals first
    | (rfl)
    | ((rw [hk]; omega))
    | ((rw [hk, List.length_map, List.length_take]; omega))
    | ((exact cut_sz (Nat.le_trans hq (by decide))))
    | ((exact pf_l hk (td1 hr)))
    | ((exact pf_s hk (by omega)))
    | skip
set_option maxHeartbeats 1000000 in
theorem perf9 (c : Cd) (row regs values ln pu : List Int) (m : Nat) (out a : Int) (par inn sid : List Int) (s : Sta) (hm : m ≤ 1000000) (hr : m + 1 ≤ row.length) (hg : regs.length ≤ 1000000) (hv : values.length ≤ 1000000) (hl : ln.length ≤ 1000000) (hu : pu.length ≤ 1000000) (h0 : 0 ≤ c.latency) (h1 : c.latency < sid.length) : PCall Try.prog 43 [c.d, rD (row.take (m + 1)) regs values ln pu out, .agg [.i 9, .i a], ints par, ints inn, ints sid, s.d] (.ret (rD (row.take m ++ [clM (sid.getD (heldM (row.getD m 0) 0 c.latency).toNat 0)]) (regs) (values) (ln) (pu) (out))) := by
  refine pcall_of_wc tok hmix ⟨[4], []⟩ Try.func43 rfl (by kernel_rfl) (by kernel_rfl) (by kernel_rfl) fun hf => ?_
  have hk : IntKind.i64.wrap ((((row.take (m + 1)).map intC).length : Int) - takesN 9) = (m : Int) := take_k (t := 1) hm hr rfl (by decide)
  have hq : ((row.take (m + 1)).map intC).length ≤ 1000010 := by rw [List.length_map, List.length_take]; omega
  clear hf
  repeat' ((try (conv => whnf)) <;> first
    | ((with_reducible refine BrI.ff_of ?_ ?_); exact rfl)
    | ((with_reducible refine LoopAt.mk 4 ?_); refine ⟨⟨Unit, fun _ => [(16, .gs 24 1 (([(row.getD m 0)] : List Int).map intC))], fun _ => [(24, .tok 1 (([(row.getD m 0)] : List Int).map intC).length), (8, .cells [.gs 30 1 ((row.take m).map intC), .data (ints regs), .data (ints values), .data (ints ln), .data (ints pu), .data (.i out)]), (30, .tok 1 ((row.take m).map intC).length)], [3, 4, 5, 7, 8, 9, 13, 14], fun _ => True, fun _ => 0⟩, ?_, fun _ _ => ?_⟩)
    | (refine ⟨(), trivial, ?_⟩)
    | with_reducible exact trivial
    | ((with_reducible refine call_step ?_ ?_ ?_); rotate_left; (first | exact rtakes_call _ | exact push_call (row.take m) regs values ln pu out _ (by rw [List.length_take]; omega) | exact res9 c (row.take m) regs values ln pu out a (row.getD m 0) par inn sid h0 h1))
    | (with_reducible refine ChooseI.l _ ?_)
    | ((with_reducible refine app_step' ?_ ?_ ?_ ?_ ?_ ?_ ?_); exact rfl; exact rfl; exact rfl; exact rfl)
    | ((with_reducible refine chk_stepP ?_ ?_); kernel_rfl)
    | ((with_reducible refine ret_step ?_); refine ⟨[], rfl, ?_, trivial⟩; conv => whnf)
    | (with_reducible refine And.intro ?_ ?_)
    | ((with_reducible refine gs_eq ?_ ?_ ?_); exact rfl; exact rfl; (first | skip))
    | ((with_reducible refine tok_eq ?_ ?_); exact rfl; (first | skip))
    | exact @rfl AV _
    | exact ble_le rfl
    | fail)
  all_goals first
    | (rfl)
    | ((rw [hk]; omega))
    | ((rw [hk, List.length_map, List.length_take]; omega))
    | ((exact cut_sz (Nat.le_trans hq (by decide))))
    | ((exact pf_l hk (td1 hr)))
    | ((exact pf_s hk (by omega)))
    | skip
set_option maxHeartbeats 1000000 in
theorem perf10 (c : Cd) (row regs values ln pu : List Int) (m : Nat) (out a : Int) (par inn sid : List Int) (s : Sta) (hm : m ≤ 1000000) (hr : m + 1 ≤ row.length) (hg : regs.length ≤ 1000000) (hv : values.length ≤ 1000000) (hl : ln.length ≤ 1000000) (hu : pu.length ≤ 1000000) (h0 : 0 ≤ a) (h1 : a < s.lines.length) (h2 : a < c.lines.length) (h3 : 0 ≤ W ((c.lines.getD a.toNat default).size - 1)) (h4 : W ((c.lines.getD a.toNat default).size - 1) < (s.lines.getD a.toNat []).length) : PCall Try.prog 43 [c.d, rD (row.take (m + 1)) regs values ln pu out, .agg [.i 10, .i a], ints par, ints inn, ints sid, s.d] (.ret (rD (row.take m ++ [clM ((s.lines.getD a.toNat []).getD (heldM (row.getD m 0) 0 (W ((c.lines.getD a.toNat default).size - 1))).toNat 0)]) (regs) (values) (ln) (pu) (out))) := by
  refine pcall_of_wc tok hmix ⟨[4], []⟩ Try.func43 rfl (by kernel_rfl) (by kernel_rfl) (by kernel_rfl) fun hf => ?_
  have hk : IntKind.i64.wrap ((((row.take (m + 1)).map intC).length : Int) - takesN 10) = (m : Int) := take_k (t := 1) hm hr rfl (by decide)
  have hq : ((row.take (m + 1)).map intC).length ≤ 1000010 := by rw [List.length_map, List.length_take]; omega
  clear hf
  repeat' ((try (conv => whnf)) <;> first
    | ((with_reducible refine BrI.ff_of ?_ ?_); exact rfl)
    | ((with_reducible refine BrI.tt_of ?_ ?_); exact rfl)
    | ((with_reducible refine LoopAt.mk 4 ?_); refine ⟨⟨Unit, fun _ => [(16, .gs 24 1 (([(row.getD m 0)] : List Int).map intC))], fun _ => [(24, .tok 1 (([(row.getD m 0)] : List Int).map intC).length), (8, .cells [.gs 30 1 ((row.take m).map intC), .data (ints regs), .data (ints values), .data (ints ln), .data (ints pu), .data (.i out)]), (30, .tok 1 ((row.take m).map intC).length)], [3, 4, 5, 7, 8, 9, 13, 14], fun _ => True, fun _ => 0⟩, ?_, fun _ _ => ?_⟩)
    | (refine ⟨(), trivial, ?_⟩)
    | with_reducible exact trivial
    | ((with_reducible refine idx_step ?_ ?_ ?_ ?_ ?_); exact rfl; exact rfl; rotate_left; exact idx_inN h0 h2)
    | ((with_reducible refine idx_step ?_ ?_ ?_ ?_ ?_); exact rfl; exact rfl; rotate_left; exact idx_inL h0 h1)
    | ((with_reducible refine idx_step ?_ ?_ ?_ ?_ ?_); exact rfl; exact rfl; rotate_left; exact idx_in (held_in h3).1 (Int.lt_of_le_of_lt (held_in h3).2 h4))
    | ((with_reducible refine idx_step ?_ ?_ ?_ ?_ ?_); exact rfl; exact rfl; rotate_left; exact at0)
    | ((with_reducible refine call_step ?_ ?_ ?_); rotate_left; (first | exact rtakes_call _ | exact rhold_call _ _ _ | exact push_call (row.take m) regs values ln pu out _ (by rw [List.length_take]; omega)))
    | (with_reducible refine ChooseI.l _ ?_)
    | ((with_reducible refine app_step' ?_ ?_ ?_ ?_ ?_ ?_ ?_); exact rfl; exact rfl; exact rfl; exact rfl)
    | ((with_reducible refine chk_stepP ?_ ?_); kernel_rfl)
    | ((with_reducible refine ret_step ?_); refine ⟨[], rfl, ?_, trivial⟩; conv => whnf)
    | (with_reducible refine And.intro ?_ ?_)
    | ((with_reducible refine gs_eq ?_ ?_ ?_); exact rfl; exact rfl; (first | skip))
    | ((with_reducible refine tok_eq ?_ ?_); exact rfl; (first | skip))
    | exact @rfl AV _
    | exact ble_le rfl
    | fail)
  all_goals first
    | (rfl)
    | ((rw [hk]; omega))
    | ((rw [hk, List.length_map, List.length_take]; omega))
    | ((exact cut_sz (Nat.le_trans hq (by decide))))
    | ((exact pf_l hk (td1 hr)))
    | ((exact pf_s hk (by omega)))
    | skip
set_option maxHeartbeats 1000000 in
theorem perf11 (c : Cd) (row regs values ln pu : List Int) (m : Nat) (out a : Int) (par inn sid : List Int) (s : Sta) (hm : m ≤ 1000000) (hr : m + 1 ≤ row.length) (hg : regs.length ≤ 1000000) (hv : values.length ≤ 1000000) (hl : ln.length ≤ 1000000) (hu : pu.length ≤ 1000000) (h0 : 0 ≤ a) (h1 : a < c.tables.length) (h3 : 0 ≤ W (((c.tables.getD a.toNat []).length : Int) - 1)) (h4 : W (((c.tables.getD a.toNat []).length : Int) - 1) < (c.tables.getD a.toNat []).length) : PCall Try.prog 43 [c.d, rD (row.take (m + 1)) regs values ln pu out, .agg [.i 11, .i a], ints par, ints inn, ints sid, s.d] (.ret (rD (row.take m ++ [clM ((c.tables.getD a.toNat []).getD (heldM (row.getD m 0) 0 (W (((c.tables.getD a.toNat []).length : Int) - 1))).toNat 0)]) (regs) (values) (ln) (pu) (out))) := by
  refine pcall_of_wc tok hmix ⟨[4], []⟩ Try.func43 rfl (by kernel_rfl) (by kernel_rfl) (by kernel_rfl) fun hf => ?_
  have hk : IntKind.i64.wrap ((((row.take (m + 1)).map intC).length : Int) - takesN 11) = (m : Int) := take_k (t := 1) hm hr rfl (by decide)
  have hq : ((row.take (m + 1)).map intC).length ≤ 1000010 := by rw [List.length_map, List.length_take]; omega
  clear hf
  repeat' ((try (conv => whnf)) <;> first
    | ((with_reducible refine BrI.ff_of ?_ ?_); exact rfl)
    | ((with_reducible refine LoopAt.mk 4 ?_); refine ⟨⟨Unit, fun _ => [(16, .gs 24 1 (([(row.getD m 0)] : List Int).map intC))], fun _ => [(24, .tok 1 (([(row.getD m 0)] : List Int).map intC).length), (8, .cells [.gs 30 1 ((row.take m).map intC), .data (ints regs), .data (ints values), .data (ints ln), .data (ints pu), .data (.i out)]), (30, .tok 1 ((row.take m).map intC).length)], [3, 4, 5, 7, 8, 9, 13, 14], fun _ => True, fun _ => 0⟩, ?_, fun _ _ => ?_⟩)
    | (refine ⟨(), trivial, ?_⟩)
    | with_reducible exact trivial
    | ((with_reducible refine call_step ?_ ?_ ?_); rotate_left; (first | exact rtakes_call _ | exact push_call (row.take m) regs values ln pu out _ (by rw [List.length_take]; omega) | exact res11 c (row.take m) regs values ln pu out a (row.getD m 0) par inn sid h0 h1 h3 h4))
    | (with_reducible refine ChooseI.l _ ?_)
    | ((with_reducible refine app_step' ?_ ?_ ?_ ?_ ?_ ?_ ?_); exact rfl; exact rfl; exact rfl; exact rfl)
    | ((with_reducible refine chk_stepP ?_ ?_); kernel_rfl)
    | ((with_reducible refine ret_step ?_); refine ⟨[], rfl, ?_, trivial⟩; conv => whnf)
    | (with_reducible refine And.intro ?_ ?_)
    | ((with_reducible refine gs_eq ?_ ?_ ?_); exact rfl; exact rfl; (first | skip))
    | ((with_reducible refine tok_eq ?_ ?_); exact rfl; (first | skip))
    | exact @rfl AV _
    | exact ble_le rfl
    | fail)
  all_goals first
    | (rfl)
    | ((rw [hk]; omega))
    | ((rw [hk, List.length_map, List.length_take]; omega))
    | ((exact cut_sz (Nat.le_trans hq (by decide))))
    | ((exact pf_l hk (td1 hr)))
    | ((exact pf_s hk (by omega)))
    | skip
set_option maxHeartbeats 1000000 in
theorem perf12 (c : Cd) (row regs values ln pu : List Int) (m : Nat) (out a : Int) (par inn sid : List Int) (s : Sta) (hm : m ≤ 1000000) (hr : m + 1 ≤ row.length) (hg : regs.length ≤ 1000000) (hv : values.length ≤ 1000000) (hl : ln.length ≤ 1000000) (hu : pu.length ≤ 1000000)  : PCall Try.prog 43 [c.d, rD (row.take (m + 1)) regs values ln pu out, .agg [.i 12, .i a], ints par, ints inn, ints sid, s.d] (.ret (rD (row.take m ++ [clM (clipM (row.getD m 0))]) (regs) (values) (ln) (pu) (out))) := by
  refine pcall_of_wc tok hmix ⟨[4], []⟩ Try.func43 rfl (by kernel_rfl) (by kernel_rfl) (by kernel_rfl) fun hf => ?_
  have hk : IntKind.i64.wrap ((((row.take (m + 1)).map intC).length : Int) - takesN 12) = (m : Int) := take_k (t := 1) hm hr rfl (by decide)
  have hq : ((row.take (m + 1)).map intC).length ≤ 1000010 := by rw [List.length_map, List.length_take]; omega
  clear hf
  repeat' ((try (conv => whnf)) <;> first
    | ((with_reducible refine BrI.ff_of ?_ ?_); exact rfl)
    | ((with_reducible refine LoopAt.mk 4 ?_); refine ⟨⟨Unit, fun _ => [(16, .gs 24 1 (([(row.getD m 0)] : List Int).map intC))], fun _ => [(24, .tok 1 (([(row.getD m 0)] : List Int).map intC).length), (8, .cells [.gs 30 1 ((row.take m).map intC), .data (ints regs), .data (ints values), .data (ints ln), .data (ints pu), .data (.i out)]), (30, .tok 1 ((row.take m).map intC).length)], [3, 4, 5, 7, 8, 9, 13, 14], fun _ => True, fun _ => 0⟩, ?_, fun _ _ => ?_⟩)
    | (refine ⟨(), trivial, ?_⟩)
    | with_reducible exact trivial
    | ((with_reducible refine call_step ?_ ?_ ?_); rotate_left; (first | exact rtakes_call _ | exact push_call (row.take m) regs values ln pu out _ (by rw [List.length_take]; omega) | exact res12 c (row.take m) regs values ln pu out a (row.getD m 0) par inn sid ))
    | (with_reducible refine ChooseI.l _ ?_)
    | ((with_reducible refine app_step' ?_ ?_ ?_ ?_ ?_ ?_ ?_); exact rfl; exact rfl; exact rfl; exact rfl)
    | ((with_reducible refine chk_stepP ?_ ?_); kernel_rfl)
    | ((with_reducible refine ret_step ?_); refine ⟨[], rfl, ?_, trivial⟩; conv => whnf)
    | (with_reducible refine And.intro ?_ ?_)
    | ((with_reducible refine gs_eq ?_ ?_ ?_); exact rfl; exact rfl; (first | skip))
    | ((with_reducible refine tok_eq ?_ ?_); exact rfl; (first | skip))
    | exact @rfl AV _
    | exact ble_le rfl
    | fail)
  all_goals first
    | (rfl)
    | ((rw [hk]; omega))
    | ((rw [hk, List.length_map, List.length_take]; omega))
    | ((exact cut_sz (Nat.le_trans hq (by decide))))
    | ((exact pf_l hk (td1 hr)))
    | ((exact pf_s hk (by omega)))
    | skip
set_option maxHeartbeats 1000000 in
theorem perf13 (c : Cd) (row regs values ln pu : List Int) (m : Nat) (out a : Int) (par inn sid : List Int) (s : Sta) (hm : m ≤ 1000000) (hr : m + 2 ≤ row.length) (hg : regs.length ≤ 1000000) (hv : values.length ≤ 1000000) (hl : ln.length ≤ 1000000) (hu : pu.length ≤ 1000000)  : PCall Try.prog 43 [c.d, rD (row.take (m + 2)) regs values ln pu out, .agg [.i 13, .i a], ints par, ints inn, ints sid, s.d] (.ret (rD (row.take m ++ [clM (mm2 false (row.getD m 0) (row.getD (m + 1) 0))]) (regs) (values) (ln) (pu) (out))) := by
  refine pcall_of_wc tok hmix ⟨[4], []⟩ Try.func43 rfl (by kernel_rfl) (by kernel_rfl) (by kernel_rfl) fun hf => ?_
  have hk : IntKind.i64.wrap ((((row.take (m + 2)).map intC).length : Int) - takesN 13) = (m : Int) := take_k (t := 2) hm hr rfl (by decide)
  have hq : ((row.take (m + 2)).map intC).length ≤ 1000010 := by rw [List.length_map, List.length_take]; omega
  clear hf
  repeat' ((try (conv => whnf)) <;> first
    | ((with_reducible refine BrI.ff_of ?_ ?_); exact rfl)
    | ((with_reducible refine LoopAt.mk 4 ?_); refine ⟨⟨Unit, fun _ => [(16, .gs 24 1 (([(row.getD m 0), (row.getD (m + 1) 0)] : List Int).map intC))], fun _ => [(24, .tok 1 (([(row.getD m 0), (row.getD (m + 1) 0)] : List Int).map intC).length), (8, .cells [.gs 30 1 ((row.take m).map intC), .data (ints regs), .data (ints values), .data (ints ln), .data (ints pu), .data (.i out)]), (30, .tok 1 ((row.take m).map intC).length)], [3, 4, 5, 7, 8, 9, 13, 14], fun _ => True, fun _ => 0⟩, ?_, fun _ _ => ?_⟩)
    | (refine ⟨(), trivial, ?_⟩)
    | with_reducible exact trivial
    | ((with_reducible refine call_step ?_ ?_ ?_); rotate_left; (first | exact rtakes_call _ | exact push_call (row.take m) regs values ln pu out _ (by rw [List.length_take]; omega) | exact res13 c (row.take m) regs values ln pu out a (row.getD m 0) (row.getD (m + 1) 0) par inn sid ))
    | (with_reducible refine ChooseI.l _ ?_)
    | ((with_reducible refine app_step' ?_ ?_ ?_ ?_ ?_ ?_ ?_); exact rfl; exact rfl; exact rfl; exact rfl)
    | ((with_reducible refine chk_stepP ?_ ?_); kernel_rfl)
    | ((with_reducible refine ret_step ?_); refine ⟨[], rfl, ?_, trivial⟩; conv => whnf)
    | (with_reducible refine And.intro ?_ ?_)
    | ((with_reducible refine gs_eq ?_ ?_ ?_); exact rfl; exact rfl; (first | skip))
    | ((with_reducible refine tok_eq ?_ ?_); exact rfl; (first | skip))
    | exact @rfl AV _
    | exact ble_le rfl
    | fail)
  all_goals first
    | (rfl)
    | ((rw [hk]; omega))
    | ((rw [hk, List.length_map, List.length_take]; omega))
    | ((exact cut_sz (Nat.le_trans hq (by decide))))
    | ((exact pf_l hk (td2 hr)))
    | ((exact pf_s hk (by omega)))
    | skip
set_option maxHeartbeats 1000000 in
theorem perf14 (c : Cd) (row regs values ln pu : List Int) (m : Nat) (out a : Int) (par inn sid : List Int) (s : Sta) (hm : m ≤ 1000000) (hr : m + 2 ≤ row.length) (hg : regs.length ≤ 1000000) (hv : values.length ≤ 1000000) (hl : ln.length ≤ 1000000) (hu : pu.length ≤ 1000000)  : PCall Try.prog 43 [c.d, rD (row.take (m + 2)) regs values ln pu out, .agg [.i 14, .i a], ints par, ints inn, ints sid, s.d] (.ret (rD (row.take m ++ [clM (mm2 true (row.getD m 0) (row.getD (m + 1) 0))]) (regs) (values) (ln) (pu) (out))) := by
  refine pcall_of_wc tok hmix ⟨[4], []⟩ Try.func43 rfl (by kernel_rfl) (by kernel_rfl) (by kernel_rfl) fun hf => ?_
  have hk : IntKind.i64.wrap ((((row.take (m + 2)).map intC).length : Int) - takesN 14) = (m : Int) := take_k (t := 2) hm hr rfl (by decide)
  have hq : ((row.take (m + 2)).map intC).length ≤ 1000010 := by rw [List.length_map, List.length_take]; omega
  clear hf
  repeat' ((try (conv => whnf)) <;> first
    | ((with_reducible refine BrI.ff_of ?_ ?_); exact rfl)
    | ((with_reducible refine LoopAt.mk 4 ?_); refine ⟨⟨Unit, fun _ => [(16, .gs 24 1 (([(row.getD m 0), (row.getD (m + 1) 0)] : List Int).map intC))], fun _ => [(24, .tok 1 (([(row.getD m 0), (row.getD (m + 1) 0)] : List Int).map intC).length), (8, .cells [.gs 30 1 ((row.take m).map intC), .data (ints regs), .data (ints values), .data (ints ln), .data (ints pu), .data (.i out)]), (30, .tok 1 ((row.take m).map intC).length)], [3, 4, 5, 7, 8, 9, 13, 14], fun _ => True, fun _ => 0⟩, ?_, fun _ _ => ?_⟩)
    | (refine ⟨(), trivial, ?_⟩)
    | with_reducible exact trivial
    | ((with_reducible refine call_step ?_ ?_ ?_); rotate_left; (first | exact rtakes_call _ | exact push_call (row.take m) regs values ln pu out _ (by rw [List.length_take]; omega) | exact res14 c (row.take m) regs values ln pu out a (row.getD m 0) (row.getD (m + 1) 0) par inn sid ))
    | (with_reducible refine ChooseI.l _ ?_)
    | ((with_reducible refine app_step' ?_ ?_ ?_ ?_ ?_ ?_ ?_); exact rfl; exact rfl; exact rfl; exact rfl)
    | ((with_reducible refine chk_stepP ?_ ?_); kernel_rfl)
    | ((with_reducible refine ret_step ?_); refine ⟨[], rfl, ?_, trivial⟩; conv => whnf)
    | (with_reducible refine And.intro ?_ ?_)
    | ((with_reducible refine gs_eq ?_ ?_ ?_); exact rfl; exact rfl; (first | skip))
    | ((with_reducible refine tok_eq ?_ ?_); exact rfl; (first | skip))
    | exact @rfl AV _
    | exact ble_le rfl
    | fail)
  all_goals first
    | (rfl)
    | ((rw [hk]; omega))
    | ((rw [hk, List.length_map, List.length_take]; omega))
    | ((exact cut_sz (Nat.le_trans hq (by decide))))
    | ((exact pf_l hk (td2 hr)))
    | ((exact pf_s hk (by omega)))
    | skip
set_option maxHeartbeats 1000000 in
theorem perf15 (c : Cd) (row regs values ln pu : List Int) (m : Nat) (out a : Int) (par inn sid : List Int) (s : Sta) (hm : m ≤ 1000000) (hr : m + 1 ≤ row.length) (hg : regs.length ≤ 1000000) (hv : values.length ≤ 1000000) (hl : ln.length ≤ 1000000) (hu : pu.length ≤ 1000000)  : PCall Try.prog 43 [c.d, rD (row.take (m + 1)) regs values ln pu out, .agg [.i 15, .i a], ints par, ints inn, ints sid, s.d] (.ret (rD (row.take m ++ [clM (mm2 true (row.getD m 0) (W (0 - (row.getD m 0))))]) (regs) (values) (ln) (pu) (out))) := by
  refine pcall_of_wc tok hmix ⟨[4], []⟩ Try.func43 rfl (by kernel_rfl) (by kernel_rfl) (by kernel_rfl) fun hf => ?_
  have hk : IntKind.i64.wrap ((((row.take (m + 1)).map intC).length : Int) - takesN 15) = (m : Int) := take_k (t := 1) hm hr rfl (by decide)
  have hq : ((row.take (m + 1)).map intC).length ≤ 1000010 := by rw [List.length_map, List.length_take]; omega
  clear hf
  repeat' ((try (conv => whnf)) <;> first
    | ((with_reducible refine BrI.ff_of ?_ ?_); exact rfl)
    | ((with_reducible refine LoopAt.mk 4 ?_); refine ⟨⟨Unit, fun _ => [(16, .gs 24 1 (([(row.getD m 0)] : List Int).map intC))], fun _ => [(24, .tok 1 (([(row.getD m 0)] : List Int).map intC).length), (8, .cells [.gs 30 1 ((row.take m).map intC), .data (ints regs), .data (ints values), .data (ints ln), .data (ints pu), .data (.i out)]), (30, .tok 1 ((row.take m).map intC).length)], [3, 4, 5, 7, 8, 9, 13, 14], fun _ => True, fun _ => 0⟩, ?_, fun _ _ => ?_⟩)
    | (refine ⟨(), trivial, ?_⟩)
    | with_reducible exact trivial
    | ((with_reducible refine call_step ?_ ?_ ?_); rotate_left; (first | exact rtakes_call _ | exact push_call (row.take m) regs values ln pu out _ (by rw [List.length_take]; omega) | exact res15 c (row.take m) regs values ln pu out a (row.getD m 0) par inn sid ))
    | (with_reducible refine ChooseI.l _ ?_)
    | ((with_reducible refine app_step' ?_ ?_ ?_ ?_ ?_ ?_ ?_); exact rfl; exact rfl; exact rfl; exact rfl)
    | ((with_reducible refine chk_stepP ?_ ?_); kernel_rfl)
    | ((with_reducible refine ret_step ?_); refine ⟨[], rfl, ?_, trivial⟩; conv => whnf)
    | (with_reducible refine And.intro ?_ ?_)
    | ((with_reducible refine gs_eq ?_ ?_ ?_); exact rfl; exact rfl; (first | skip))
    | ((with_reducible refine tok_eq ?_ ?_); exact rfl; (first | skip))
    | exact @rfl AV _
    | exact ble_le rfl
    | fail)
  all_goals first
    | (rfl)
    | ((rw [hk]; omega))
    | ((rw [hk, List.length_map, List.length_take]; omega))
    | ((exact cut_sz (Nat.le_trans hq (by decide))))
    | ((exact pf_l hk (td1 hr)))
    | ((exact pf_s hk (by omega)))
    | skip
set_option maxHeartbeats 1000000 in
theorem perf16 (c : Cd) (row regs values ln pu : List Int) (m : Nat) (out a : Int) (par inn sid : List Int) (s : Sta) (hm : m ≤ 1000000) (hr : m + 1 ≤ row.length) (hg : regs.length ≤ 1000000) (hv : values.length ≤ 1000000) (hl : ln.length ≤ 1000000) (hu : pu.length ≤ 1000000)  : PCall Try.prog 43 [c.d, rD (row.take (m + 1)) regs values ln pu out, .agg [.i 16, .i a], ints par, ints inn, ints sid, s.d] (.ret (rD (row.take m ++ [clM (W (0 - (row.getD m 0)))]) (regs) (values) (ln) (pu) (out))) := by
  refine pcall_of_wc tok hmix ⟨[4], []⟩ Try.func43 rfl (by kernel_rfl) (by kernel_rfl) (by kernel_rfl) fun hf => ?_
  have hk : IntKind.i64.wrap ((((row.take (m + 1)).map intC).length : Int) - takesN 16) = (m : Int) := take_k (t := 1) hm hr rfl (by decide)
  have hq : ((row.take (m + 1)).map intC).length ≤ 1000010 := by rw [List.length_map, List.length_take]; omega
  clear hf
  repeat' ((try (conv => whnf)) <;> first
    | ((with_reducible refine BrI.ff_of ?_ ?_); exact rfl)
    | ((with_reducible refine LoopAt.mk 4 ?_); refine ⟨⟨Unit, fun _ => [(16, .gs 24 1 (([(row.getD m 0)] : List Int).map intC))], fun _ => [(24, .tok 1 (([(row.getD m 0)] : List Int).map intC).length), (8, .cells [.gs 30 1 ((row.take m).map intC), .data (ints regs), .data (ints values), .data (ints ln), .data (ints pu), .data (.i out)]), (30, .tok 1 ((row.take m).map intC).length)], [3, 4, 5, 7, 8, 9, 13, 14], fun _ => True, fun _ => 0⟩, ?_, fun _ _ => ?_⟩)
    | (refine ⟨(), trivial, ?_⟩)
    | with_reducible exact trivial
    | ((with_reducible refine call_step ?_ ?_ ?_); rotate_left; (first | exact rtakes_call _ | exact push_call (row.take m) regs values ln pu out _ (by rw [List.length_take]; omega) | exact res16 c (row.take m) regs values ln pu out a (row.getD m 0) par inn sid ))
    | (with_reducible refine ChooseI.l _ ?_)
    | ((with_reducible refine app_step' ?_ ?_ ?_ ?_ ?_ ?_ ?_); exact rfl; exact rfl; exact rfl; exact rfl)
    | ((with_reducible refine chk_stepP ?_ ?_); kernel_rfl)
    | ((with_reducible refine ret_step ?_); refine ⟨[], rfl, ?_, trivial⟩; conv => whnf)
    | (with_reducible refine And.intro ?_ ?_)
    | ((with_reducible refine gs_eq ?_ ?_ ?_); exact rfl; exact rfl; (first | skip))
    | ((with_reducible refine tok_eq ?_ ?_); exact rfl; (first | skip))
    | exact @rfl AV _
    | exact ble_le rfl
    | fail)
  all_goals first
    | (rfl)
    | ((rw [hk]; omega))
    | ((rw [hk, List.length_map, List.length_take]; omega))
    | ((exact cut_sz (Nat.le_trans hq (by decide))))
    | ((exact pf_l hk (td1 hr)))
    | ((exact pf_s hk (by omega)))
    | skip
set_option maxHeartbeats 1000000 in
theorem perf17 (c : Cd) (row regs values ln pu : List Int) (m : Nat) (out a : Int) (par inn sid : List Int) (s : Sta) (hm : m ≤ 1000000) (hr : m + 2 ≤ row.length) (hg : regs.length ≤ 1000000) (hv : values.length ≤ 1000000) (hl : ln.length ≤ 1000000) (hu : pu.length ≤ 1000000)  : PCall Try.prog 43 [c.d, rD (row.take (m + 2)) regs values ln pu out, .agg [.i 17, .i a], ints par, ints inn, ints sid, s.d] (.ret (rD (row.take m ++ [clM (addR (row.getD m 0) (row.getD (m + 1) 0))]) (regs) (values) (ln) (pu) (out))) := by
  refine pcall_of_wc tok hmix ⟨[4], []⟩ Try.func43 rfl (by kernel_rfl) (by kernel_rfl) (by kernel_rfl) fun hf => ?_
  have hk : IntKind.i64.wrap ((((row.take (m + 2)).map intC).length : Int) - takesN 17) = (m : Int) := take_k (t := 2) hm hr rfl (by decide)
  have hq : ((row.take (m + 2)).map intC).length ≤ 1000010 := by rw [List.length_map, List.length_take]; omega
  clear hf
  repeat' ((try (conv => whnf)) <;> first
    | ((with_reducible refine BrI.ff_of ?_ ?_); exact rfl)
    | ((with_reducible refine LoopAt.mk 4 ?_); refine ⟨⟨Unit, fun _ => [(16, .gs 24 1 (([(row.getD m 0), (row.getD (m + 1) 0)] : List Int).map intC))], fun _ => [(24, .tok 1 (([(row.getD m 0), (row.getD (m + 1) 0)] : List Int).map intC).length), (8, .cells [.gs 30 1 ((row.take m).map intC), .data (ints regs), .data (ints values), .data (ints ln), .data (ints pu), .data (.i out)]), (30, .tok 1 ((row.take m).map intC).length)], [3, 4, 5, 7, 8, 9, 13, 14], fun _ => True, fun _ => 0⟩, ?_, fun _ _ => ?_⟩)
    | (refine ⟨(), trivial, ?_⟩)
    | with_reducible exact trivial
    | ((with_reducible refine call_step ?_ ?_ ?_); rotate_left; (first | exact rtakes_call _ | exact push_call (row.take m) regs values ln pu out _ (by rw [List.length_take]; omega) | exact res17 c (row.take m) regs values ln pu out a (row.getD m 0) (row.getD (m + 1) 0) par inn sid ))
    | (with_reducible refine ChooseI.l _ ?_)
    | ((with_reducible refine app_step' ?_ ?_ ?_ ?_ ?_ ?_ ?_); exact rfl; exact rfl; exact rfl; exact rfl)
    | ((with_reducible refine chk_stepP ?_ ?_); kernel_rfl)
    | ((with_reducible refine ret_step ?_); refine ⟨[], rfl, ?_, trivial⟩; conv => whnf)
    | (with_reducible refine And.intro ?_ ?_)
    | ((with_reducible refine gs_eq ?_ ?_ ?_); exact rfl; exact rfl; (first | skip))
    | ((with_reducible refine tok_eq ?_ ?_); exact rfl; (first | skip))
    | exact @rfl AV _
    | exact ble_le rfl
    | fail)
  all_goals first
    | (rfl)
    | ((rw [hk]; omega))
    | ((rw [hk, List.length_map, List.length_take]; omega))
    | ((exact cut_sz (Nat.le_trans hq (by decide))))
    | ((exact pf_l hk (td2 hr)))
    | ((exact pf_s hk (by omega)))
    | skip
set_option maxHeartbeats 1000000 in
theorem perf18 (c : Cd) (row regs values ln pu : List Int) (m : Nat) (out a : Int) (par inn sid : List Int) (s : Sta) (hm : m ≤ 1000000) (hr : m + 2 ≤ row.length) (hg : regs.length ≤ 1000000) (hv : values.length ≤ 1000000) (hl : ln.length ≤ 1000000) (hu : pu.length ≤ 1000000)  : PCall Try.prog 43 [c.d, rD (row.take (m + 2)) regs values ln pu out, .agg [.i 18, .i a], ints par, ints inn, ints sid, s.d] (.ret (rD (row.take m ++ [clM (addR (row.getD m 0) (W (0 - (row.getD (m + 1) 0))))]) (regs) (values) (ln) (pu) (out))) := by
  refine pcall_of_wc tok hmix ⟨[4], []⟩ Try.func43 rfl (by kernel_rfl) (by kernel_rfl) (by kernel_rfl) fun hf => ?_
  have hk : IntKind.i64.wrap ((((row.take (m + 2)).map intC).length : Int) - takesN 18) = (m : Int) := take_k (t := 2) hm hr rfl (by decide)
  have hq : ((row.take (m + 2)).map intC).length ≤ 1000010 := by rw [List.length_map, List.length_take]; omega
  clear hf
  repeat' ((try (conv => whnf)) <;> first
    | ((with_reducible refine BrI.ff_of ?_ ?_); exact rfl)
    | ((with_reducible refine LoopAt.mk 4 ?_); refine ⟨⟨Unit, fun _ => [(16, .gs 24 1 (([(row.getD m 0), (row.getD (m + 1) 0)] : List Int).map intC))], fun _ => [(24, .tok 1 (([(row.getD m 0), (row.getD (m + 1) 0)] : List Int).map intC).length), (8, .cells [.gs 30 1 ((row.take m).map intC), .data (ints regs), .data (ints values), .data (ints ln), .data (ints pu), .data (.i out)]), (30, .tok 1 ((row.take m).map intC).length)], [3, 4, 5, 7, 8, 9, 13, 14], fun _ => True, fun _ => 0⟩, ?_, fun _ _ => ?_⟩)
    | (refine ⟨(), trivial, ?_⟩)
    | with_reducible exact trivial
    | ((with_reducible refine call_step ?_ ?_ ?_); rotate_left; (first | exact rtakes_call _ | exact push_call (row.take m) regs values ln pu out _ (by rw [List.length_take]; omega) | exact res18 c (row.take m) regs values ln pu out a (row.getD m 0) (row.getD (m + 1) 0) par inn sid ))
    | (with_reducible refine ChooseI.l _ ?_)
    | ((with_reducible refine app_step' ?_ ?_ ?_ ?_ ?_ ?_ ?_); exact rfl; exact rfl; exact rfl; exact rfl)
    | ((with_reducible refine chk_stepP ?_ ?_); kernel_rfl)
    | ((with_reducible refine ret_step ?_); refine ⟨[], rfl, ?_, trivial⟩; conv => whnf)
    | (with_reducible refine And.intro ?_ ?_)
    | ((with_reducible refine gs_eq ?_ ?_ ?_); exact rfl; exact rfl; (first | skip))
    | ((with_reducible refine tok_eq ?_ ?_); exact rfl; (first | skip))
    | exact @rfl AV _
    | exact ble_le rfl
    | fail)
  all_goals first
    | (rfl)
    | ((rw [hk]; omega))
    | ((rw [hk, List.length_map, List.length_take]; omega))
    | ((exact cut_sz (Nat.le_trans hq (by decide))))
    | ((exact pf_l hk (td2 hr)))
    | ((exact pf_s hk (by omega)))
    | skip
set_option maxHeartbeats 1000000 in
theorem perf19 (c : Cd) (row regs values ln pu : List Int) (m : Nat) (out a : Int) (par inn sid : List Int) (s : Sta) (hm : m ≤ 1000000) (hr : m + 2 ≤ row.length) (hg : regs.length ≤ 1000000) (hv : values.length ≤ 1000000) (hl : ln.length ≤ 1000000) (hu : pu.length ≤ 1000000) (ha : Bn (row.getD m 0)) (hb : Bn (row.getD (m + 1) 0)) : PCall Try.prog 43 [c.d, rD (row.take (m + 2)) regs values ln pu out, .agg [.i 19, .i a], ints par, ints inn, ints sid, s.d] (.ret (rD (row.take m ++ [clM (mulR (row.getD m 0) (row.getD (m + 1) 0))]) (regs) (values) (ln) (pu) (out))) := by
  refine pcall_of_wc tok hmix ⟨[4], []⟩ Try.func43 rfl (by kernel_rfl) (by kernel_rfl) (by kernel_rfl) fun hf => ?_
  have hk : IntKind.i64.wrap ((((row.take (m + 2)).map intC).length : Int) - takesN 19) = (m : Int) := take_k (t := 2) hm hr rfl (by decide)
  have hq : ((row.take (m + 2)).map intC).length ≤ 1000010 := by rw [List.length_map, List.length_take]; omega
  clear hf
  repeat' ((try (conv => whnf)) <;> first
    | ((with_reducible refine BrI.ff_of ?_ ?_); exact rfl)
    | ((with_reducible refine LoopAt.mk 4 ?_); refine ⟨⟨Unit, fun _ => [(16, .gs 24 1 (([(row.getD m 0), (row.getD (m + 1) 0)] : List Int).map intC))], fun _ => [(24, .tok 1 (([(row.getD m 0), (row.getD (m + 1) 0)] : List Int).map intC).length), (8, .cells [.gs 30 1 ((row.take m).map intC), .data (ints regs), .data (ints values), .data (ints ln), .data (ints pu), .data (.i out)]), (30, .tok 1 ((row.take m).map intC).length)], [3, 4, 5, 7, 8, 9, 13, 14], fun _ => True, fun _ => 0⟩, ?_, fun _ _ => ?_⟩)
    | (refine ⟨(), trivial, ?_⟩)
    | with_reducible exact trivial
    | ((with_reducible refine call_step ?_ ?_ ?_); rotate_left; (first | exact rtakes_call _ | exact push_call (row.take m) regs values ln pu out _ (by rw [List.length_take]; omega) | exact res19 c (row.take m) regs values ln pu out a (row.getD m 0) (row.getD (m + 1) 0) par inn sid ha hb))
    | (with_reducible refine ChooseI.l _ ?_)
    | ((with_reducible refine app_step' ?_ ?_ ?_ ?_ ?_ ?_ ?_); exact rfl; exact rfl; exact rfl; exact rfl)
    | ((with_reducible refine chk_stepP ?_ ?_); kernel_rfl)
    | ((with_reducible refine ret_step ?_); refine ⟨[], rfl, ?_, trivial⟩; conv => whnf)
    | (with_reducible refine And.intro ?_ ?_)
    | ((with_reducible refine gs_eq ?_ ?_ ?_); exact rfl; exact rfl; (first | skip))
    | ((with_reducible refine tok_eq ?_ ?_); exact rfl; (first | skip))
    | exact @rfl AV _
    | exact ble_le rfl
    | fail)
  all_goals first
    | (rfl)
    | ((rw [hk]; omega))
    | ((rw [hk, List.length_map, List.length_take]; omega))
    | ((exact cut_sz (Nat.le_trans hq (by decide))))
    | ((exact pf_l hk (td2 hr)))
    | ((exact pf_s hk (by omega)))
    | skip
set_option maxHeartbeats 1000000 in
theorem perf20 (c : Cd) (row regs values ln pu : List Int) (m : Nat) (out a : Int) (par inn sid : List Int) (s : Sta) (hm : m ≤ 1000000) (hr : m + 1 ≤ row.length) (hg : regs.length ≤ 1000000) (hv : values.length ≤ 1000000) (hl : ln.length ≤ 1000000) (hu : pu.length ≤ 1000000) (hb : a ≠ 0) : PCall Try.prog 43 [c.d, rD (row.take (m + 1)) regs values ln pu out, .agg [.i 20, .i a], ints par, ints inn, ints sid, s.d] (.ret (rD (row.take m ++ [clM (floorR (row.getD m 0) a)]) (regs) (values) (ln) (pu) (out))) := by
  refine pcall_of_wc tok hmix ⟨[4], []⟩ Try.func43 rfl (by kernel_rfl) (by kernel_rfl) (by kernel_rfl) fun hf => ?_
  have hk : IntKind.i64.wrap ((((row.take (m + 1)).map intC).length : Int) - takesN 20) = (m : Int) := take_k (t := 1) hm hr rfl (by decide)
  have hq : ((row.take (m + 1)).map intC).length ≤ 1000010 := by rw [List.length_map, List.length_take]; omega
  clear hf
  repeat' ((try (conv => whnf)) <;> first
    | ((with_reducible refine BrI.ff_of ?_ ?_); exact rfl)
    | ((with_reducible refine LoopAt.mk 4 ?_); refine ⟨⟨Unit, fun _ => [(16, .gs 24 1 (([(row.getD m 0)] : List Int).map intC))], fun _ => [(24, .tok 1 (([(row.getD m 0)] : List Int).map intC).length), (8, .cells [.gs 30 1 ((row.take m).map intC), .data (ints regs), .data (ints values), .data (ints ln), .data (ints pu), .data (.i out)]), (30, .tok 1 ((row.take m).map intC).length)], [3, 4, 5, 7, 8, 9, 13, 14], fun _ => True, fun _ => 0⟩, ?_, fun _ _ => ?_⟩)
    | (refine ⟨(), trivial, ?_⟩)
    | with_reducible exact trivial
    | ((with_reducible refine call_step ?_ ?_ ?_); rotate_left; (first | exact rtakes_call _ | exact push_call (row.take m) regs values ln pu out _ (by rw [List.length_take]; omega) | exact res20 c (row.take m) regs values ln pu out a (row.getD m 0) par inn sid hb))
    | (with_reducible refine ChooseI.l _ ?_)
    | ((with_reducible refine app_step' ?_ ?_ ?_ ?_ ?_ ?_ ?_); exact rfl; exact rfl; exact rfl; exact rfl)
    | ((with_reducible refine chk_stepP ?_ ?_); kernel_rfl)
    | ((with_reducible refine ret_step ?_); refine ⟨[], rfl, ?_, trivial⟩; conv => whnf)
    | (with_reducible refine And.intro ?_ ?_)
    | ((with_reducible refine gs_eq ?_ ?_ ?_); exact rfl; exact rfl; (first | skip))
    | ((with_reducible refine tok_eq ?_ ?_); exact rfl; (first | skip))
    | exact @rfl AV _
    | exact ble_le rfl
    | fail)
  all_goals first
    | (rfl)
    | ((rw [hk]; omega))
    | ((rw [hk, List.length_map, List.length_take]; omega))
    | ((exact cut_sz (Nat.le_trans hq (by decide))))
    | ((exact pf_l hk (td1 hr)))
    | ((exact pf_s hk (by omega)))
    | skip
set_option maxHeartbeats 1000000 in
theorem perf21 (c : Cd) (row regs values ln pu : List Int) (m : Nat) (out a : Int) (par inn sid : List Int) (s : Sta) (hm : m ≤ 1000000) (hr : m + 4 ≤ row.length) (hg : regs.length ≤ 1000000) (hv : values.length ≤ 1000000) (hl : ln.length ≤ 1000000) (hu : pu.length ≤ 1000000)  : PCall Try.prog 43 [c.d, rD (row.take (m + 4)) regs values ln pu out, .agg [.i 21, .i a], ints par, ints inn, ints sid, s.d] (.ret (rD (row.take m ++ [clM ((bif decide ((row.getD m 0) < (row.getD (m + 1) 0)) then (row.getD (m + 2) 0) else (row.getD (m + 3) 0)))]) (regs) (values) (ln) (pu) (out))) := by
  refine pcall_of_wc tok hmix ⟨[4], []⟩ Try.func43 rfl (by kernel_rfl) (by kernel_rfl) (by kernel_rfl) fun hf => ?_
  have hk : IntKind.i64.wrap ((((row.take (m + 4)).map intC).length : Int) - takesN 21) = (m : Int) := take_k (t := 4) hm hr rfl (by decide)
  have hq : ((row.take (m + 4)).map intC).length ≤ 1000010 := by rw [List.length_map, List.length_take]; omega
  clear hf
  repeat' ((try (conv => whnf)) <;> first
    | ((with_reducible refine BrI.ff_of ?_ ?_); exact rfl)
    | ((with_reducible refine LoopAt.mk 4 ?_); refine ⟨⟨Unit, fun _ => [(16, .gs 24 1 (([(row.getD m 0), (row.getD (m + 1) 0), (row.getD (m + 2) 0), (row.getD (m + 3) 0)] : List Int).map intC))], fun _ => [(24, .tok 1 (([(row.getD m 0), (row.getD (m + 1) 0), (row.getD (m + 2) 0), (row.getD (m + 3) 0)] : List Int).map intC).length), (8, .cells [.gs 30 1 ((row.take m).map intC), .data (ints regs), .data (ints values), .data (ints ln), .data (ints pu), .data (.i out)]), (30, .tok 1 ((row.take m).map intC).length)], [3, 4, 5, 7, 8, 9, 13, 14], fun _ => True, fun _ => 0⟩, ?_, fun _ _ => ?_⟩)
    | (refine ⟨(), trivial, ?_⟩)
    | with_reducible exact trivial
    | ((with_reducible refine call_step ?_ ?_ ?_); rotate_left; (first | exact rtakes_call _ | exact push_call (row.take m) regs values ln pu out _ (by rw [List.length_take]; omega) | exact res21 c (row.take m) regs values ln pu out a (row.getD m 0) (row.getD (m + 1) 0) (row.getD (m + 2) 0) (row.getD (m + 3) 0) par inn sid ))
    | (with_reducible refine ChooseI.l _ ?_)
    | ((with_reducible refine app_step' ?_ ?_ ?_ ?_ ?_ ?_ ?_); exact rfl; exact rfl; exact rfl; exact rfl)
    | ((with_reducible refine chk_stepP ?_ ?_); kernel_rfl)
    | ((with_reducible refine ret_step ?_); refine ⟨[], rfl, ?_, trivial⟩; conv => whnf)
    | (with_reducible refine And.intro ?_ ?_)
    | ((with_reducible refine gs_eq ?_ ?_ ?_); exact rfl; exact rfl; (first | skip))
    | ((with_reducible refine tok_eq ?_ ?_); exact rfl; (first | skip))
    | exact @rfl AV _
    | exact ble_le rfl
    | fail)
  all_goals first
    | (rfl)
    | ((rw [hk]; omega))
    | ((rw [hk, List.length_map, List.length_take]; omega))
    | ((exact cut_sz (Nat.le_trans hq (by decide))))
    | ((exact pf_l hk (td4 hr)))
    | ((exact pf_s hk (by omega)))
    | skip
set_option maxHeartbeats 1000000 in
theorem perf22 (c : Cd) (row regs values ln pu : List Int) (m : Nat) (out a : Int) (par inn sid : List Int) (s : Sta) (hm : m ≤ 1000000) (hr : m + 1 ≤ row.length) (hg : regs.length ≤ 1000000) (hv : values.length ≤ 1000000) (hl : ln.length ≤ 1000000) (hu : pu.length ≤ 1000000)  : PCall Try.prog 43 [c.d, rD (row.take (m + 1)) regs values ln pu out, .agg [.i 22, .i a], ints par, ints inn, ints sid, s.d] (.ret (rD (row.take m) (regs) (values) (ln) (pu) (clipM (row.getD m 0)))) := by
  refine pcall_of_wc tok hmix ⟨[4], []⟩ Try.func43 rfl (by kernel_rfl) (by kernel_rfl) (by kernel_rfl) fun hf => ?_
  have hk : IntKind.i64.wrap ((((row.take (m + 1)).map intC).length : Int) - takesN 22) = (m : Int) := take_k (t := 1) hm hr rfl (by decide)
  have hq : ((row.take (m + 1)).map intC).length ≤ 1000010 := by rw [List.length_map, List.length_take]; omega
  clear hf
  repeat' ((try (conv => whnf)) <;> first
    | ((with_reducible refine BrI.ff_of ?_ ?_); exact rfl)
    | ((with_reducible refine BrI.tt_of ?_ ?_); exact rfl)
    | ((with_reducible refine LoopAt.mk 4 ?_); refine ⟨⟨Unit, fun _ => [(16, .gs 24 1 (([(row.getD m 0)] : List Int).map intC))], fun _ => [(24, .tok 1 (([(row.getD m 0)] : List Int).map intC).length), (8, .cells [.gs 30 1 ((row.take m).map intC), .data (ints regs), .data (ints values), .data (ints ln), .data (ints pu), .data (.i out)]), (30, .tok 1 ((row.take m).map intC).length)], [3, 4, 5, 7, 8, 9, 13, 14], fun _ => True, fun _ => 0⟩, ?_, fun _ _ => ?_⟩)
    | (refine ⟨(), trivial, ?_⟩)
    | with_reducible exact trivial
    | ((with_reducible refine idx_step ?_ ?_ ?_ ?_ ?_); exact rfl; exact rfl; rotate_left; exact at0)
    | ((with_reducible refine call_step ?_ ?_ ?_); rotate_left; (first | exact rtakes_call _ | exact rclip_call _))
    | (with_reducible refine ChooseI.l _ ?_)
    | ((with_reducible refine app_step' ?_ ?_ ?_ ?_ ?_ ?_ ?_); exact rfl; exact rfl; exact rfl; exact rfl)
    | ((with_reducible refine chk_stepP ?_ ?_); kernel_rfl)
    | ((with_reducible refine ret_step ?_); refine ⟨[], rfl, ?_, trivial⟩; conv => whnf)
    | (with_reducible refine And.intro ?_ ?_)
    | ((with_reducible refine gs_eq ?_ ?_ ?_); exact rfl; exact rfl; (first | skip))
    | ((with_reducible refine tok_eq ?_ ?_); exact rfl; (first | skip))
    | exact @rfl AV _
    | exact ble_le rfl
    | fail)
  all_goals first
    | (rfl)
    | ((rw [hk]; omega))
    | ((rw [hk, List.length_map, List.length_take]; omega))
    | ((exact cut_sz (Nat.le_trans hq (by decide))))
    | ((exact pf_l hk (td1 hr)))
    | ((exact pf_s hk (by omega)))
    | skip
end Go.Proofs.Ytcfpghieofhfkaa
