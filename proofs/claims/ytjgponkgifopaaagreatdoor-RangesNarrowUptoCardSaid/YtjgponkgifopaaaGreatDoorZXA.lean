/- Contracts: package ranges: numbers. -/
import Derived.Test.YtjgponkgifopaaaGreatDoorZK6
import Derived.Test.YtjgponkgifopaaaGreatDoorZLL
import Derived.Test.YtjgponkgifopaaaGreatDoorZRA
set_option linter.unusedSimpArgs false
set_option linter.unusedVariables false
namespace Go.Proofs.YtjgponkgifopaaaGreatDoor
open Go.Fw Go.Fw.Rg
set_option maxRecDepth 10000
set_option linter.unusedSectionVars false
variable [GlobInt]
set_option maxHeartbeats 400000 in
theorem clip_call (x : Int)  : PCall Tryz.prog 87 [.i x] (.ret (.i (clipM x))) := by
  refine pcall_of_wc tok hmix ⟨[], []⟩ Tryz.func87 rfl (by kernel_rfl) (by kernel_rfl) (by kernel_rfl) fun hf => ?_
  clear hf
  repeat' ((try (conv => whnf)) <;> first
    | with_reducible refine BrI.intro (fun h => ?_) (fun h => ?_)
    | ((with_reducible refine ret_step ?_); refine ⟨[], rfl, ?_, trivial⟩; conv => whnf)
    | fail)
  all_goals first
    | ((refine congrArg D.i ?_; unfold clipM; simp only [decide_eq_true_eq, decide_eq_false_iff_not] at *; (repeat' split) <;> omega))
    | skip
set_option maxHeartbeats 400000 in
theorem rclip_call (x : Int)  : PCall Tryz.prog 23 [.i x] (.ret (.i (clipM x))) := by
  refine pcall_of_wc tok hmix ⟨[], []⟩ Tryz.func23 rfl (by kernel_rfl) (by kernel_rfl) (by kernel_rfl) fun hf => ?_
  clear hf
  repeat' ((try (conv => whnf)) <;> first
    | ((with_reducible refine ret_step ?_); refine ⟨[], rfl, ?_, trivial⟩; conv => whnf)
    | fail)
  all_goals (try simp only [Bool.cond_true_left, Bool.cond_false_right, Bool.cond_false_left, Bool.cond_true_right, Bool.not_eq_true', Bool.not_eq_false', bne, Ex.css_len, List.length_map, Int.toNat_zero] at *)
  all_goals first
    | ((exact congrArg D.i (clip_ref x)))
    | skip
set_option maxHeartbeats 400000 in
theorem rfloor_call (a n : Int) (ha : inW a = true) (hn : 1 ≤ n) : PCall Tryz.prog 35 [.i a, .i n] (.ret (.i (floorM a n))) := by
  refine pcall_of_wc tok hmix ⟨[], []⟩ Tryz.func35 rfl (by kernel_rfl) (by kernel_rfl) (by kernel_rfl) fun hf => ?_
  clear hf
  repeat' ((try (conv => whnf)) <;> first
    | with_reducible refine BrI.intro (fun h => ?_) (fun h => ?_)
    | ((with_reducible refine ret_step ?_); refine ⟨[], rfl, ?_, trivial⟩; conv => whnf)
    | (with_reducible refine And.intro ?_ ?_)
    | fail)
  all_goals first
    | (omega)
    | ((refine congrArg D.i ?_; have e := floor_ref hn ha; rw [if_pos (of_decide_eq_true h)] at e; rw [e, wrap_ok (n := floorM a n + 1 - 1) (by have := inW_iff.1 (div_le hn ha); simp only [floorM]; omega) (by have := inW_iff.1 (div_le hn ha); simp only [floorM]; omega)]; omega))
    | ((refine congrArg D.i ?_; have e := floor_ref hn ha; rw [if_neg (of_decide_eq_false h)] at e; exact e))
    | skip
set_option maxHeartbeats 400000 in
theorem down_call (a n : Int) (ha : inW a = true) (hn : 1 ≤ n) (hn2 : n ≤ 2147483648) : PCall Tryz.prog 98 [.i a, .i n] (.ret (.i (floorM a n))) := by
  refine pcall_of_wc tok hmix ⟨[], []⟩ Tryz.func98 rfl (by kernel_rfl) (by kernel_rfl) (by kernel_rfl) fun hf => ?_
  clear hf
  repeat' ((try (conv => whnf)) <;> first
    | with_reducible refine BrI.intro (fun h => ?_) (fun h => ?_)
    | ((with_reducible refine ret_step ?_); refine ⟨[], rfl, ?_, trivial⟩; conv => whnf)
    | (with_reducible refine And.intro ?_ ?_)
    | fail)
  all_goals first
    | (omega)
    | ((exact congrArg D.i (down_neg hn hn2 ha (of_decide_eq_true h))))
    | ((exact congrArg D.i (down_pos hn ha (of_decide_eq_false h))))
    | skip
set_option maxHeartbeats 400000 in
theorem add_ok (a b : Int) (hc : addC a b = false) (hw : IntKind.i64.wrap (a + b) = a + b) : PCall Tryz.prog 93 [.i a, .i b] (.ret (.i (a + b))) := by
  refine pcall_of_wc tok hmix ⟨[], []⟩ Tryz.func93 rfl (by kernel_rfl) (by kernel_rfl) (by kernel_rfl) fun hf => ?_
  clear hf
  repeat' ((try (conv => whnf)) <;> first
    | with_reducible refine BrI.intro (fun h => ?_) (fun h => ?_)
    | (exact Bool.noConfusion (hc.symm.trans h))
    | ((with_reducible refine ret_step ?_); refine ⟨[], rfl, ?_, trivial⟩; conv => whnf)
    | fail)
  all_goals (try simp only [Bool.cond_true_left, Bool.cond_false_right, Bool.cond_false_left, Bool.cond_true_right, Bool.not_eq_true', Bool.not_eq_false', bne, Ex.css_len, List.length_map, Int.toNat_zero] at *)
  all_goals first
    | ((exact congrArg D.i hw))
    | skip
set_option maxHeartbeats 400000 in
theorem add_bad (a b : Int) (hc : addC a b = true) : PCall Tryz.prog 93 [.i a, .i b] (.pan (.iface 31 (.i 160))) := by
  refine pcall_of_wc tok hmix ⟨[], []⟩ Tryz.func93 rfl (by kernel_rfl) (by kernel_rfl) (by kernel_rfl) fun hf => ?_
  clear hf
  repeat' ((try (conv => whnf)) <;> first
    | with_reducible refine BrI.intro (fun h => ?_) (fun h => ?_)
    | (exact Bool.noConfusion (hc.symm.trans h))
    | ((with_reducible refine pan_step ?_); refine ⟨[], rfl, ?_, trivial⟩; conv => whnf)
    | fail)
  all_goals (try simp only [Bool.cond_true_left, Bool.cond_false_right, Bool.cond_false_left, Bool.cond_true_right, Bool.not_eq_true', Bool.not_eq_false', bne, Ex.css_len, List.length_map, Int.toNat_zero] at *)
  all_goals first
    | skip
set_option maxHeartbeats 400000 in
theorem wide_ok (n : Int) (f : Bool) (hc : wideE n f = false) : PCall Tryz.prog 122 [.i n, .b f] (.ret (.i n)) := by
  refine pcall_of_wc tok hmix ⟨[], []⟩ Tryz.func122 rfl (by kernel_rfl) (by kernel_rfl) (by kernel_rfl) fun hf => ?_
  clear hf
  repeat' ((try (conv => whnf)) <;> first
    | with_reducible refine BrI.intro (fun h => ?_) (fun h => ?_)
    | (exact Bool.noConfusion (hc.symm.trans h))
    | ((with_reducible refine ret_step ?_); refine ⟨[], rfl, ?_, trivial⟩; conv => whnf)
    | fail)
  all_goals (try simp only [Bool.cond_true_left, Bool.cond_false_right, Bool.cond_false_left, Bool.cond_true_right, Bool.not_eq_true', Bool.not_eq_false', bne, Ex.css_len, List.length_map, Int.toNat_zero] at *)
  all_goals first
    | skip
set_option maxHeartbeats 400000 in
theorem wide_bad (n : Int) (f : Bool) (hc : wideE n f = true) : PCall Tryz.prog 122 [.i n, .b f] (.pan (.iface 31 (.i 160))) := by
  refine pcall_of_wc tok hmix ⟨[], []⟩ Tryz.func122 rfl (by kernel_rfl) (by kernel_rfl) (by kernel_rfl) fun hf => ?_
  clear hf
  repeat' ((try (conv => whnf)) <;> first
    | with_reducible refine BrI.intro (fun h => ?_) (fun h => ?_)
    | (exact Bool.noConfusion (hc.symm.trans h))
    | ((with_reducible refine pan_step ?_); refine ⟨[], rfl, ?_, trivial⟩; conv => whnf)
    | fail)
  all_goals (try simp only [Bool.cond_true_left, Bool.cond_false_right, Bool.cond_false_left, Bool.cond_true_right, Bool.not_eq_true', Bool.not_eq_false', bne, Ex.css_len, List.length_map, Int.toNat_zero] at *)
  all_goals first
    | skip
set_option maxHeartbeats 400000 in
theorem mul_zero (a b : Int) (hz : mulZ a b = true) : PCall Tryz.prog 96 [.i a, .i b] (.ret (.i 0)) := by
  refine pcall_of_wc tok hmix ⟨[], []⟩ Tryz.func96 rfl (by kernel_rfl) (by kernel_rfl) (by kernel_rfl) fun hf => ?_
  clear hf
  repeat' ((try (conv => whnf)) <;> first
    | with_reducible refine BrI.intro (fun h => ?_) (fun h => ?_)
    | (exact Bool.noConfusion (hz.symm.trans h))
    | ((with_reducible refine ret_step ?_); refine ⟨[], rfl, ?_, trivial⟩; conv => whnf)
    | fail)
  all_goals (try simp only [Bool.cond_true_left, Bool.cond_false_right, Bool.cond_false_left, Bool.cond_true_right, Bool.not_eq_true', Bool.not_eq_false', bne, Ex.css_len, List.length_map, Int.toNat_zero] at *)
  all_goals first
    | skip
set_option maxHeartbeats 400000 in
theorem mul_ok (a b : Int) (hz : mulZ a b = false) (hb : b ≠ 0) (hq : mm2 true b (IntKind.i64.wrap (0 - b)) ≠ 0) (hw : wideE (IntKind.i64.wrap (a * b)) (mulF a b) = false) : PCall Tryz.prog 96 [.i a, .i b] (.ret (.i (IntKind.i64.wrap (a * b)))) := by
  refine pcall_of_wc tok hmix ⟨[], []⟩ Tryz.func96 rfl (by kernel_rfl) (by kernel_rfl) (by kernel_rfl) fun hf => ?_
  clear hf
  repeat' ((try (conv => whnf)) <;> first
    | with_reducible refine BrI.intro (fun h => ?_) (fun h => ?_)
    | (exact Bool.noConfusion (hz.symm.trans h))
    | ((with_reducible refine call_step ?_ ?_ ?_); rotate_left; (first | exact wide_ok _ _ hw | fail))
    | ((with_reducible refine guard_step ?_ ?_ (fun hg => ?_) ?_); exact rfl)
    | ((with_reducible refine val_step ?_ ?_); with_reducible exact rfl; with_reducible exact rfl)
    | ((with_reducible refine same_step ?_ ?_); with_reducible exact rfl)
    | ((with_reducible refine ret_step ?_); refine ⟨[], rfl, ?_, trivial⟩; conv => whnf)
    | (with_reducible refine And.intro ?_ ?_)
    | fail)
  all_goals first
    | ((exact hb))
    | ((exact hq))
    | skip
set_option maxHeartbeats 400000 in
theorem mul_bad (a b : Int) (hz : mulZ a b = false) (hb : b ≠ 0) (hq : mm2 true b (IntKind.i64.wrap (0 - b)) ≠ 0) (hw : wideE (IntKind.i64.wrap (a * b)) (mulF a b) = true) : PCall Tryz.prog 96 [.i a, .i b] (.pan (.iface 31 (.i 160))) := by
  refine pcall_of_wc tok hmix ⟨[], []⟩ Tryz.func96 rfl (by kernel_rfl) (by kernel_rfl) (by kernel_rfl) fun hf => ?_
  clear hf
  repeat' ((try (conv => whnf)) <;> first
    | with_reducible refine BrI.intro (fun h => ?_) (fun h => ?_)
    | (exact Bool.noConfusion (hz.symm.trans h))
    | ((with_reducible refine call_step ?_ ?_ ?_); rotate_left; (first | exact wide_bad _ _ hw | fail))
    | ((with_reducible refine guard_step ?_ ?_ (fun hg => ?_) ?_); exact rfl)
    | ((with_reducible refine val_step ?_ ?_); with_reducible exact rfl; with_reducible exact rfl)
    | ((with_reducible refine pan_step ?_); refine ⟨[], rfl, ?_, trivial⟩; conv => whnf)
    | (with_reducible refine And.intro ?_ ?_)
    | fail)
  all_goals first
    | ((exact hb))
    | ((exact hq))
    | skip
end Go.Proofs.YtjgponkgifopaaaGreatDoor
namespace Go.Proofs.YtjgponkgifopaaaGreatDoor
open Go.Fw Go.Fw.Rg
set_option maxRecDepth 10000
set_option linter.unusedSectionVars false
variable [GlobInt]
abbrev fC (p : Pr) (found : List Sp) : List D := [.str p.name, .i p.latency, .i p.tail, .sl 3 (p.params.map Bd.cs), .sl 3 (p.states.map Bd.cs), .sl 4 (p.lines.map Ln.cs), .sl 2 (p.tables.map Tb.cs), .sl 8 (p.stmts.map Sm.cs), .sl 2 (found.map Sp.cs)]
theorem radd_call (a b c : Int) (hc : c = b) (ha : inW a = true) (hb : inW b = true) : PCall Tryz.prog 93 [.i a, .i c] (outI 31 (okW (a + b))) := by
  subst hc
  unfold okW
  cases hw : inW (a + c) with
  | true => exact add_ok a c (by rw [addC_eq ha hb, hw]; rfl) (inW_wrap hw)
  | false => exact add_bad a c (by rw [addC_eq ha hb, hw]; rfl)
theorem rmul_call (a b : Int) (ha : inW a = true) (hb : inW b = true) : PCall Tryz.prog 96 [.i a, .i b] (outI 31 (okW (a * b))) := by
  cases hz : mulZ a b with
  | true => rw [mulZ_in hz]; exact mul_zero a b hz
  | false =>
    have hb0 := mulZ_no hz
    have hq : mm2 true b (IntKind.i64.wrap (0 - b)) ≠ 0 := by rw [neg_wrap hb, mm2_abs]; omega
    unfold okW
    cases hw : inW (a * b) with
    | true =>
      have := mul_ok a b hz hb0 hq (by rw [wide_mul ha hb hb0, hw]; rfl)
      rw [inW_wrap hw] at this; exact this
    | false => exact mul_bad a b hz hb0 hq (by rw [wide_mul ha hb hb0, hw]; rfl)
set_option maxHeartbeats 400000 in
theorem op1 (p : Pr) (found : List Sp) (x : Ex)  : PCall Tryz.prog 79 [.ptr (fC p found), x.d, .sl 2 []] (.ret (Sp.d (x.n, x.n))) := by
  refine pcall_of_wc tok hmix ⟨[], []⟩ Tryz.func79 rfl (by kernel_rfl) (by kernel_rfl) (by kernel_rfl) fun hf => ?_
  clear hf
  repeat' ((try (conv => whnf)) <;> first
    | ((with_reducible refine ret_step ?_); refine ⟨[], rfl, ?_, trivial⟩; conv => whnf)
    | fail)
  all_goals first
    | skip
set_option maxHeartbeats 400000 in
theorem op3 (p : Pr) (found : List Sp) (x : Ex) (h0 : 0 ≤ x.index) (h1 : x.index < p.params.length) : PCall Tryz.prog 80 [.ptr (fC p found), x.d, .sl 2 []] (.ret (Sp.d ((paramAt p x.index).lo, (paramAt p x.index).hi))) := by
  refine pcall_of_wc tok hmix ⟨[], []⟩ Tryz.func80 rfl (by kernel_rfl) (by kernel_rfl) (by kernel_rfl) fun hf => ?_
  clear hf
  repeat' ((try (conv => whnf)) <;> first
    | ((with_reducible refine idx_int Rg.Bd.none ?_ ?_ h0 h1 ?_); exact rfl; exact rfl)
    | ((with_reducible refine chk_step ?_ ?_); kernel_rfl)
    | ((with_reducible refine ret_step ?_); refine ⟨[], rfl, ?_, trivial⟩; conv => whnf)
    | fail)
  all_goals first
    | skip
set_option maxHeartbeats 400000 in
theorem op4 (p : Pr) (found : List Sp) (x : Ex) (h0 : 0 ≤ x.index) (h1 : x.index < p.states.length) : PCall Tryz.prog 81 [.ptr (fC p found), x.d, .sl 2 []] (.ret (Sp.d ((stateAt p x.index).lo, (stateAt p x.index).hi))) := by
  refine pcall_of_wc tok hmix ⟨[], []⟩ Tryz.func81 rfl (by kernel_rfl) (by kernel_rfl) (by kernel_rfl) fun hf => ?_
  clear hf
  repeat' ((try (conv => whnf)) <;> first
    | ((with_reducible refine idx_int Rg.Bd.none ?_ ?_ h0 h1 ?_); exact rfl; exact rfl)
    | ((with_reducible refine chk_step ?_ ?_); kernel_rfl)
    | ((with_reducible refine ret_step ?_); refine ⟨[], rfl, ?_, trivial⟩; conv => whnf)
    | fail)
  all_goals first
    | skip
set_option maxHeartbeats 400000 in
theorem op5 (p : Pr) (found : List Sp) (x : Ex) (h0 : 0 ≤ x.index) (h1 : x.index < found.length) : PCall Tryz.prog 82 [.ptr (fC p found), x.d, .sl 2 []] (.ret (Sp.d (found.getD x.index.toNat (0, 0)))) := by
  refine pcall_of_wc tok hmix ⟨[], []⟩ Tryz.func82 rfl (by kernel_rfl) (by kernel_rfl) (by kernel_rfl) fun hf => ?_
  clear hf
  repeat' ((try (conv => whnf)) <;> first
    | ((with_reducible refine idx_int ((0, 0) : Sp) ?_ ?_ h0 h1 ?_); exact rfl; exact rfl)
    | ((with_reducible refine len_step ?_ ?_); exact rfl)
    | ((with_reducible refine chk_step ?_ ?_); kernel_rfl)
    | ((with_reducible refine ret_step ?_); refine ⟨[], rfl, ?_, trivial⟩; conv => whnf)
    | fail)
  all_goals first
    | skip
set_option maxHeartbeats 400000 in
theorem op6_ok (p : Pr) (found : List Sp) (x : Ex) (a : Sp) (hc : (decide (a.1 < 0) || decide (a.2 > 4096)) = false) : PCall Tryz.prog 83 [.ptr (fC p found), x.d, .sl 2 [[.i a.1, .i a.2]]] (.ret (Sp.d (-2147483648, 2147483647))) := by
  refine pcall_of_wc tok hmix ⟨[], []⟩ Tryz.func83 rfl (by kernel_rfl) (by kernel_rfl) (by kernel_rfl) fun hf => ?_
  clear hf
  repeat' ((try (conv => whnf)) <;> first
    | with_reducible refine BrI.intro (fun h => ?_) (fun h => ?_)
    | (exact Bool.noConfusion (hc.symm.trans ((bif_or _ _).symm.trans h)))
    | ((with_reducible refine idx_lit ?_ ?_ ?_ ?_); exact rfl; exact rfl; exact rfl)
    | ((with_reducible refine len_step ?_ ?_); exact rfl)
    | ((with_reducible refine guard_step ?_ ?_ (fun hg => ?_) ?_); exact rfl)
    | ((with_reducible refine val_step ?_ ?_); with_reducible exact rfl; with_reducible exact rfl)
    | ((with_reducible refine ret_step ?_); refine ⟨[], rfl, ?_, trivial⟩; conv => whnf)
    | (with_reducible refine And.intro ?_ ?_)
    | fail)
  all_goals first
    | (decide)
    | skip
set_option maxHeartbeats 400000 in
theorem op6_bad (p : Pr) (found : List Sp) (x : Ex) (a : Sp) (hc : (decide (a.1 < 0) || decide (a.2 > 4096)) = true) : PCall Tryz.prog 83 [.ptr (fC p found), x.d, .sl 2 [[.i a.1, .i a.2]]] (.pan (.iface 31 (.i 161))) := by
  refine pcall_of_wc tok hmix ⟨[], []⟩ Tryz.func83 rfl (by kernel_rfl) (by kernel_rfl) (by kernel_rfl) fun hf => ?_
  clear hf
  repeat' ((try (conv => whnf)) <;> first
    | with_reducible refine BrI.intro (fun h => ?_) (fun h => ?_)
    | (exact Bool.noConfusion (hc.symm.trans ((bif_or _ _).symm.trans h)))
    | ((with_reducible refine idx_lit ?_ ?_ ?_ ?_); exact rfl; exact rfl; exact rfl)
    | ((with_reducible refine guard_step ?_ ?_ (fun hg => ?_) ?_); exact rfl)
    | ((with_reducible refine val_step ?_ ?_); with_reducible exact rfl; with_reducible exact rfl)
    | ((with_reducible refine pan_step ?_); refine ⟨[], rfl, ?_, trivial⟩; conv => whnf)
    | (with_reducible refine And.intro ?_ ?_)
    | fail)
  all_goals first
    | (decide)
    | skip
set_option maxHeartbeats 400000 in
theorem op8 (p : Pr) (found : List Sp) (x : Ex) (a : Sp) (h0 : 0 ≤ x.index) (h1 : x.index < p.lines.length) : PCall Tryz.prog 84 [.ptr (fC p found), x.d, .sl 2 [[.i a.1, .i a.2]]] (.ret (Sp.d (mm2 false (lineAt p x.index).lo 0, mm2 true (lineAt p x.index).hi 0))) := by
  refine pcall_of_wc tok hmix ⟨[], []⟩ Tryz.func84 rfl (by kernel_rfl) (by kernel_rfl) (by kernel_rfl) fun hf => ?_
  clear hf
  repeat' ((try (conv => whnf)) <;> first
    | ((with_reducible refine idx_int Rg.Ln.none ?_ ?_ h0 h1 ?_); exact rfl; exact rfl)
    | ((with_reducible refine chk_step ?_ ?_); kernel_rfl)
    | ((with_reducible refine ret_step ?_); refine ⟨[], rfl, ?_, trivial⟩; conv => whnf)
    | fail)
  all_goals first
    | skip
set_option maxHeartbeats 400000 in
theorem op9 (p : Pr) (found : List Sp) (x : Ex) (a : Sp) (h0 : 0 ≤ x.index) (h1 : x.index < p.tables.length) (hv : 0 < (tableAt p x.index).length) (hvl : (tableAt p x.index).length ≤ 1073741824) : PCall Tryz.prog 85 [.ptr (fC p found), x.d, .sl 2 [[.i a.1, .i a.2]]] (.ret (Sp.d (minL ((tableAt p x.index).getD 0 0) (tableAt p x.index), maxL ((tableAt p x.index).getD 0 0) (tableAt p x.index)))) := by
  refine pcall_of_wc tok hmix ⟨[], []⟩ Tryz.func85 rfl (by kernel_rfl) (by kernel_rfl) (by kernel_rfl) fun hf => ?_
  have hlen : (tableAt p x.index).length ≤ 9223372036854775807 := by omega
  clear hf
  repeat' ((try (conv => whnf)) <;> first
    | with_reducible exact trivial
    | with_reducible exact idx_next hd0 ‹_›
    | with_reducible refine br_nil hd0 ?_
    | with_reducible refine br_cons hd0 ?_
    | ((with_reducible refine idx_int Rg.Tb.none ?_ ?_ h0 h1 ?_); exact rfl; exact rfl)
    | ((with_reducible refine idx_int (f := intC) (n := 0) (0 : Int) ?_ ?_ ?_ ?_ ?_); exact rfl; exact rfl; exact Int.le_refl _; exact Int.ofNat_lt.2 hv)
    | ((with_reducible refine LoopAt.mk 0 ?_); refine ⟨rangeL ((tableAt p x.index)) 30 (fun (q : (Int) × (Int)) => match q with | (lo, hi) => []) (fun (q : (Int) × (Int)) => match q with | (lo, hi) => [(8, .cells [.data (.i lo), .data (.i hi)])]) [6, 8, 28, 29] (fun i0 r0 q => match q with | (lo, hi) => minL ((tableAt p x.index).getD 0 0) (tableAt p x.index) = minL lo r0 ∧ maxL ((tableAt p x.index).getD 0 0) (tableAt p x.index) = maxL hi r0), ?_⟩; with_reducible refine rangeL_rule (((tableAt p x.index).getD 0 0), ((tableAt p x.index).getD 0 0)) ?_ ?_ (fun i0 ⟨lo, hi⟩ hd0 hI0 => ?_) (fun i0 x0 r0 ⟨lo, hi⟩ hd0 hl0 hI0 => ?_))
    | (with_reducible refine rangeL_next hd0 ((mm2 false lo x0), (mm2 true hi x0)) ?_ ?_)
    | ((with_reducible refine idx_step ?_ ?_ ?_ ?_ ?_); exact rfl; exact rfl; rotate_left; (first | with_reducible exact idx_get ‹_› | with_reducible exact idx_drop hd0 | with_reducible exact idx_take hd0 | with_reducible exact idx_zip1 hd0 | with_reducible exact idx_zip2 hd0 | with_reducible exact idx_zip1e hd0 | with_reducible exact idx_zip2e hd0 | with_reducible exact idx_drop_e hd0 | fail))
    | ((with_reducible refine chk_step ?_ ?_); kernel_rfl)
    | ((with_reducible refine ret_step ?_); refine ⟨[], rfl, ?_, trivial⟩; conv => whnf)
    | (with_reducible refine And.intro ?_ ?_)
    | exact @rfl AV _
    | fail)
  all_goals first
    | (rfl)
    | (decide)
    | ((exact hI0.1))
    | ((exact hI0.2))
    | ((rw [hI0.1, hI0.2]; rfl))
    | skip
set_option maxHeartbeats 400000 in
theorem op10 (p : Pr) (found : List Sp) (x : Ex) (a : Sp)  : PCall Tryz.prog 86 [.ptr (fC p found), x.d, .sl 2 [[.i a.1, .i a.2]]] (.ret (Sp.d (clipM a.1, clipM a.2))) := by
  refine pcall_of_wc tok hmix ⟨[], []⟩ Tryz.func86 rfl (by kernel_rfl) (by kernel_rfl) (by kernel_rfl) fun hf => ?_
  clear hf
  repeat' ((try (conv => whnf)) <;> first
    | ((with_reducible refine idx_lit ?_ ?_ ?_ ?_); exact rfl; exact rfl; exact rfl)
    | ((with_reducible refine call_step ?_ ?_ ?_); rotate_left; (first | exact clip_call _ | exact clip_call _ | fail))
    | ((with_reducible refine chk_step ?_ ?_); kernel_rfl)
    | ((with_reducible refine ret_step ?_); refine ⟨[], rfl, ?_, trivial⟩; conv => whnf)
    | (with_reducible refine And.intro ?_ ?_)
    | fail)
  all_goals first
    | (decide)
    | skip
set_option maxHeartbeats 400000 in
theorem op11 (p : Pr) (found : List Sp) (x : Ex) (a b : Sp)  : PCall Tryz.prog 88 [.ptr (fC p found), x.d, .sl 2 [[.i a.1, .i a.2], [.i b.1, .i b.2]]] (.ret (Sp.d (mm2 false a.1 b.1, mm2 false a.2 b.2))) := by
  refine pcall_of_wc tok hmix ⟨[], []⟩ Tryz.func88 rfl (by kernel_rfl) (by kernel_rfl) (by kernel_rfl) fun hf => ?_
  clear hf
  repeat' ((try (conv => whnf)) <;> first
    | ((with_reducible refine idx_lit ?_ ?_ ?_ ?_); exact rfl; exact rfl; exact rfl)
    | ((with_reducible refine chk_step ?_ ?_); kernel_rfl)
    | ((with_reducible refine ret_step ?_); refine ⟨[], rfl, ?_, trivial⟩; conv => whnf)
    | (with_reducible refine And.intro ?_ ?_)
    | fail)
  all_goals first
    | (decide)
    | skip
set_option maxHeartbeats 400000 in
theorem op12 (p : Pr) (found : List Sp) (x : Ex) (a b : Sp)  : PCall Tryz.prog 89 [.ptr (fC p found), x.d, .sl 2 [[.i a.1, .i a.2], [.i b.1, .i b.2]]] (.ret (Sp.d (mm2 true a.1 b.1, mm2 true a.2 b.2))) := by
  refine pcall_of_wc tok hmix ⟨[], []⟩ Tryz.func89 rfl (by kernel_rfl) (by kernel_rfl) (by kernel_rfl) fun hf => ?_
  clear hf
  repeat' ((try (conv => whnf)) <;> first
    | ((with_reducible refine idx_lit ?_ ?_ ?_ ?_); exact rfl; exact rfl; exact rfl)
    | ((with_reducible refine chk_step ?_ ?_); kernel_rfl)
    | ((with_reducible refine ret_step ?_); refine ⟨[], rfl, ?_, trivial⟩; conv => whnf)
    | (with_reducible refine And.intro ?_ ?_)
    | fail)
  all_goals first
    | (decide)
    | skip
set_option maxHeartbeats 400000 in
theorem op13 (p : Pr) (found : List Sp) (x : Ex) (a : Sp) (ha : inW a.1 = true) (hb : inW a.2 = true) : PCall Tryz.prog 90 [.ptr (fC p found), x.d, .sl 2 [[.i a.1, .i a.2]]] (.ret (Sp.d (absM a))) := by
  refine pcall_of_wc tok hmix ⟨[], []⟩ Tryz.func90 rfl (by kernel_rfl) (by kernel_rfl) (by kernel_rfl) fun hf => ?_
  clear hf
  repeat' ((try (conv => whnf)) <;> first
    | with_reducible refine BrI.intro (fun h => ?_) (fun h => ?_)
    | ((with_reducible refine idx_lit ?_ ?_ ?_ ?_); exact rfl; exact rfl; exact rfl)
    | ((with_reducible refine len_step ?_ ?_); exact rfl)
    | ((with_reducible refine chk_step ?_ ?_); kernel_rfl)
    | ((with_reducible refine ret_step ?_); refine ⟨[], rfl, ?_, trivial⟩; conv => whnf)
    | (with_reducible refine And.intro ?_ ?_)
    | fail)
  all_goals first
    | (decide)
    | ((refine congrArg Sp.d ?_; unfold absM; rw [if_pos (of_decide_eq_true h)]; done))
    | ((unfold absM; rw [if_neg (of_decide_eq_false ‹decide (a.1 ≥ 0) = false›), if_pos (of_decide_eq_true h), neg_wrap ha, neg_wrap hb]; done))
    | ((unfold absM; rw [if_neg (of_decide_eq_false ‹decide (a.1 ≥ 0) = false›), if_neg (of_decide_eq_false h), neg_wrap ha]; done))
    | skip
set_option maxHeartbeats 400000 in
theorem op14 (p : Pr) (found : List Sp) (x : Ex) (a : Sp) (ha : inW a.1 = true) (hb : inW a.2 = true) : PCall Tryz.prog 91 [.ptr (fC p found), x.d, .sl 2 [[.i a.1, .i a.2]]] (.ret (Sp.d (-a.2, -a.1))) := by
  refine pcall_of_wc tok hmix ⟨[], []⟩ Tryz.func91 rfl (by kernel_rfl) (by kernel_rfl) (by kernel_rfl) fun hf => ?_
  clear hf
  repeat' ((try (conv => whnf)) <;> first
    | ((with_reducible refine idx_lit ?_ ?_ ?_ ?_); exact rfl; exact rfl; exact rfl)
    | ((with_reducible refine chk_step ?_ ?_); kernel_rfl)
    | ((with_reducible refine ret_step ?_); refine ⟨[], rfl, ?_, trivial⟩; conv => whnf)
    | (with_reducible refine And.intro ?_ ?_)
    | fail)
  all_goals first
    | (decide)
    | ((rw [neg_wrap ha, neg_wrap hb]; done))
    | skip
set_option maxHeartbeats 400000 in
theorem op15 (p : Pr) (found : List Sp) (x : Ex) (a b : Sp) (ha : inW a.1 = true ∧ inW a.2 = true) (hb : inW b.1 = true ∧ inW b.2 = true) : PCall Tryz.prog 92 [.ptr (fC p found), x.d, .sl 2 [[.i a.1, .i a.2], [.i b.1, .i b.2]]] (outR 31 (two (a.1 + b.1) (a.2 + b.2))) := by
  refine pcall_of_wc tok hmix ⟨[], []⟩ Tryz.func92 rfl (by kernel_rfl) (by kernel_rfl) (by kernel_rfl) fun hf => ?_
  clear hf
  repeat' ((try (conv => whnf)) <;> first
    | ((refine rest_stepL _ _ _ [false, false, false, false, false, false, false, false, true, true, true] ?_ ?_ ?_); exact rfl; kernel_rfl)
    | ((refine rest_stepL _ _ _ [true, true] ?_ ?_ ?_); exact rfl; kernel_rfl)
    | ((with_reducible refine quiet_step ?_ ?_); kernel_rfl)
    | (with_reducible refine exc_stepI (radd_call a.1 b.1 _ rfl ha.1 hb.1) (fun n1 q1 => ?_) (fun e1 q1 => ?_))
    | (with_reducible refine exc_stepI (radd_call a.2 b.2 _ rfl ha.2 hb.2) (fun n2 q2 => ?_) (fun e2 q2 => ?_))
    | ((with_reducible refine ret_exc (n1, n2) (two_ok q1 q2) ?_); refine ⟨[], rfl, ?_, trivial⟩; conv => whnf)
    | ((with_reducible refine pan_exc e1 (two_b1 q1) ?_); refine ⟨[], rfl, ?_, trivial⟩; conv => whnf)
    | ((with_reducible refine pan_exc e2 (two_b2 q2) ?_); refine ⟨[], rfl, ?_, trivial⟩; conv => whnf)
    | ((with_reducible refine idx_lit ?_ ?_ ?_ ?_); exact rfl; exact rfl; exact rfl)
    | ((with_reducible refine chk_step ?_ ?_); kernel_rfl)
    | (with_reducible refine And.intro ?_ ?_)
    | fail)
  all_goals first
    | (decide)
    | skip
set_option maxHeartbeats 400000 in
theorem op16 (p : Pr) (found : List Sp) (x : Ex) (a b : Sp) (ha : inW a.1 = true ∧ inW a.2 = true) (hb : inW b.1 = true ∧ inW b.2 = true) : PCall Tryz.prog 94 [.ptr (fC p found), x.d, .sl 2 [[.i a.1, .i a.2], [.i b.1, .i b.2]]] (outR 31 (two (a.1 + -b.2) (a.2 + -b.1))) := by
  refine pcall_of_wc tok hmix ⟨[], []⟩ Tryz.func94 rfl (by kernel_rfl) (by kernel_rfl) (by kernel_rfl) fun hf => ?_
  clear hf
  repeat' ((try (conv => whnf)) <;> first
    | ((refine rest_stepL _ _ _ [false, false, false, false, false, false, false, false, false, true, true, true] ?_ ?_ ?_); exact rfl; kernel_rfl)
    | ((refine rest_stepL _ _ _ [true, true] ?_ ?_ ?_); exact rfl; kernel_rfl)
    | ((with_reducible refine quiet_step ?_ ?_); kernel_rfl)
    | (with_reducible refine exc_stepI (radd_call a.1 (-b.2) _ (neg_wrap hb.2) ha.1 (neg_in hb.2)) (fun n1 q1 => ?_) (fun e1 q1 => ?_))
    | (with_reducible refine exc_stepI (radd_call a.2 (-b.1) _ (neg_wrap hb.1) ha.2 (neg_in hb.1)) (fun n2 q2 => ?_) (fun e2 q2 => ?_))
    | ((with_reducible refine ret_exc (n1, n2) (two_ok q1 q2) ?_); refine ⟨[], rfl, ?_, trivial⟩; conv => whnf)
    | ((with_reducible refine pan_exc e1 (two_b1 q1) ?_); refine ⟨[], rfl, ?_, trivial⟩; conv => whnf)
    | ((with_reducible refine pan_exc e2 (two_b2 q2) ?_); refine ⟨[], rfl, ?_, trivial⟩; conv => whnf)
    | ((with_reducible refine idx_lit ?_ ?_ ?_ ?_); exact rfl; exact rfl; exact rfl)
    | ((with_reducible refine chk_step ?_ ?_); kernel_rfl)
    | (with_reducible refine And.intro ?_ ?_)
    | fail)
  all_goals first
    | (decide)
    | skip
set_option maxHeartbeats 400000 in
theorem op17 (p : Pr) (found : List Sp) (x : Ex) (a b : Sp) (ha : inW a.1 = true ∧ inW a.2 = true) (hb : inW b.1 = true ∧ inW b.2 = true) : PCall Tryz.prog 95 [.ptr (fC p found), x.d, .sl 2 [[.i a.1, .i a.2], [.i b.1, .i b.2]]] (outR 31 (prodM a b)) := by
  refine pcall_of_wc tok hmix ⟨[], []⟩ Tryz.func95 rfl (by kernel_rfl) (by kernel_rfl) (by kernel_rfl) fun hf => ?_
  clear hf
  repeat' ((try (conv => whnf)) <;> first
    | ((refine rest_stepL _ _ _ [false, false, false, false, false, false, false, false, true, false, false, false, false, false, false, false, false, true, false, false, false, false, false, false, false, false, true, true, true, true, true] ?_ ?_ ?_); exact rfl; kernel_rfl)
    | ((refine rest_stepL _ _ _ [false, false, false, false, false, false, false, false, true, false, false, false, false, false, false, false, false, true, true, true, true, true] ?_ ?_ ?_); exact rfl; kernel_rfl)
    | ((refine rest_stepL _ _ _ [false, false, false, false, false, false, false, false, true, true, true, true, true] ?_ ?_ ?_); exact rfl; kernel_rfl)
    | ((refine rest_stepL _ _ _ [true, true, true, true] ?_ ?_ ?_); exact rfl; kernel_rfl)
    | ((with_reducible refine quiet_step ?_ ?_); kernel_rfl)
    | (with_reducible refine exc_stepI (rmul_call a.1 b.1 ha.1 hb.1) (fun n1 q1 => ?_) (fun e1 q1 => ?_))
    | (with_reducible refine exc_stepI (rmul_call a.1 b.2 ha.1 hb.2) (fun n2 q2 => ?_) (fun e2 q2 => ?_))
    | (with_reducible refine exc_stepI (rmul_call a.2 b.1 ha.2 hb.1) (fun n3 q3 => ?_) (fun e3 q3 => ?_))
    | (with_reducible refine exc_stepI (rmul_call a.2 b.2 ha.2 hb.2) (fun n4 q4 => ?_) (fun e4 q4 => ?_))
    | ((with_reducible refine ret_exc (min4 n1 n2 n3 n4, max4 n1 n2 n3 n4) (prod_ok q1 q2 q3 q4) ?_); refine ⟨[], rfl, ?_, trivial⟩; conv => whnf)
    | ((with_reducible refine pan_exc e1 (prod_bad (.inl q1)) ?_); refine ⟨[], rfl, ?_, trivial⟩; conv => whnf)
    | ((with_reducible refine pan_exc e2 (prod_bad (.inr (.inl q2))) ?_); refine ⟨[], rfl, ?_, trivial⟩; conv => whnf)
    | ((with_reducible refine pan_exc e3 (prod_bad (.inr (.inr (.inl q3)))) ?_); refine ⟨[], rfl, ?_, trivial⟩; conv => whnf)
    | ((with_reducible refine pan_exc e4 (prod_bad (.inr (.inr (.inr q4)))) ?_); refine ⟨[], rfl, ?_, trivial⟩; conv => whnf)
    | ((with_reducible refine idx_lit ?_ ?_ ?_ ?_); exact rfl; exact rfl; exact rfl)
    | ((with_reducible refine chk_step ?_ ?_); kernel_rfl)
    | (with_reducible refine And.intro ?_ ?_)
    | fail)
  all_goals first
    | (rfl)
    | (decide)
    | skip
set_option maxHeartbeats 400000 in
theorem op18 (p : Pr) (found : List Sp) (x : Ex) (a : Sp) (ha : inW a.1 = true) (hb : inW a.2 = true) (hn : 1 ≤ x.n) (hn2 : x.n ≤ 2147483648) : PCall Tryz.prog 97 [.ptr (fC p found), x.d, .sl 2 [[.i a.1, .i a.2]]] (.ret (Sp.d (floorM a.1 x.n, floorM a.2 x.n))) := by
  refine pcall_of_wc tok hmix ⟨[], []⟩ Tryz.func97 rfl (by kernel_rfl) (by kernel_rfl) (by kernel_rfl) fun hf => ?_
  clear hf
  repeat' ((try (conv => whnf)) <;> first
    | ((with_reducible refine idx_lit ?_ ?_ ?_ ?_); exact rfl; exact rfl; exact rfl)
    | ((with_reducible refine call_step ?_ ?_ ?_); rotate_left; (first | exact down_call _ _ (by assumption) (by assumption) (by assumption) | exact down_call a.1 x.n ha hn hn2 | exact down_call a.2 x.n hb hn hn2 | fail))
    | ((with_reducible refine chk_step ?_ ?_); kernel_rfl)
    | ((with_reducible refine ret_step ?_); refine ⟨[], rfl, ?_, trivial⟩; conv => whnf)
    | (with_reducible refine And.intro ?_ ?_)
    | fail)
  all_goals first
    | (decide)
    | skip
set_option maxHeartbeats 400000 in
theorem op19 (p : Pr) (found : List Sp) (x : Ex) (a b c d : Sp)  : PCall Tryz.prog 99 [.ptr (fC p found), x.d, .sl 2 [[.i a.1, .i a.2], [.i b.1, .i b.2], [.i c.1, .i c.2], [.i d.1, .i d.2]]] (.ret (Sp.d (mm2 false c.1 d.1, mm2 true c.2 d.2))) := by
  refine pcall_of_wc tok hmix ⟨[], []⟩ Tryz.func99 rfl (by kernel_rfl) (by kernel_rfl) (by kernel_rfl) fun hf => ?_
  clear hf
  repeat' ((try (conv => whnf)) <;> first
    | ((with_reducible refine idx_lit ?_ ?_ ?_ ?_); exact rfl; exact rfl; exact rfl)
    | ((with_reducible refine chk_step ?_ ?_); kernel_rfl)
    | ((with_reducible refine ret_step ?_); refine ⟨[], rfl, ?_, trivial⟩; conv => whnf)
    | (with_reducible refine And.intro ?_ ?_)
    | fail)
  all_goals first
    | (decide)
    | skip
end Go.Proofs.YtjgponkgifopaaaGreatDoor
namespace Go.Proofs.YtjgponkgifopaaaGreatDoor
open Go.Fw Go.Fw.Rg
set_option maxRecDepth 10000
set_option linter.unusedSectionVars false
variable [GlobInt]
abbrev opsD : List D := [.val .nilFunc, .fn 79 [], .val .nilFunc, .fn 80 [], .fn 81 [], .fn 82 [], .fn 83 [], .fn 83 [], .fn 84 [], .fn 85 [], .fn 86 [], .fn 88 [], .fn 89 [], .fn 90 [], .fn 91 [], .fn 92 [], .fn 94 [], .fn 95 [], .fn 97 [], .fn 99 []]
def opF (k : Int) : Nat := match opsD.getD k.toNat (.val .nilFunc) with | .fn f _ => f | _ => 0
set_option maxHeartbeats 400000 in
theorem operations_call   : PCall Tryz.prog 46 [] (.ret (.agg opsD)) := by
  refine pcall_of_wc tok hmix ⟨[], []⟩ Tryz.func46 rfl (by kernel_rfl) (by kernel_rfl) (by kernel_rfl) fun hf => ?_
  clear hf
  repeat' ((try (conv => whnf)) <;> first
    | ((with_reducible refine ret_step ?_); refine ⟨[], rfl, ?_, trivial⟩; conv => whnf)
    | fail)
  all_goals (try simp only [Bool.cond_true_left, Bool.cond_false_right, Bool.cond_false_left, Bool.cond_true_right, Bool.not_eq_true', Bool.not_eq_false', bne, Ex.css_len, List.length_map, Int.toNat_zero] at *)
  all_goals first
    | skip
theorem kind_step {p : Pr} {n : Nat} {k i m : Int} (hw : ownW p n k i m = true) {q : D → Prop} (h : q (.fn (opF k) [])) : ∃ c, (0 ≤ k ∧ opsD[k.toNat]? = some c) ∧ q c := by
  rcases kinds hw with rfl | rfl | rfl | rfl | rfl | rfl | rfl | rfl | rfl | rfl | rfl | rfl | rfl | rfl | rfl | rfl | rfl | rfl <;> exact ⟨_, ⟨by decide, rfl⟩, h⟩
theorem op_call (p : Pr) (found : List Sp) (x : Ex) (sl : List Sp) (hR : Rng p) (hT : ∀ t ∈ p.tables, t.values.length ≤ 1073741824) (hw : wfX p found.length x = true) (hl : sl.length = x.l.length) (hs : InS sl) :
    PCall Tryz.prog (opF x.kind) [.ptr (fC p found), x.d, .sl 2 (sl.map Sp.cs)] (outR 31 (opM p found x.kind x.index x.n sl)) := by
  obtain ⟨h1, h2, _⟩ := wfX_parts hw
  rw [← hl] at h1
  generalize hk : x.kind = k at h1 h2
  have nil : (sl.length : Int) = 0 → sl = [] := fun h => List.length_eq_zero_iff.1 (by omega)
  rcases kinds h2 with rfl | rfl | rfl | rfl | rfl | rfl | rfl | rfl | rfl | rfl | rfl | rfl | rfl | rfl | rfl | rfl | rfl | rfl
  · obtain rfl := nil h1
    exact op1 p found x
  · obtain rfl := nil h1
    have h2 : (decide (0 ≤ x.index) && decide (x.index < p.params.length)) = true := h2
    simp only [Bool.and_eq_true, decide_eq_true_eq] at h2
    exact op3 p found x h2.1 h2.2
  · obtain rfl := nil h1
    have h2 : (decide (0 ≤ x.index) && decide (x.index < p.states.length)) = true := h2
    simp only [Bool.and_eq_true, decide_eq_true_eq] at h2
    exact op4 p found x h2.1 h2.2
  · obtain rfl := nil h1
    have h2 : (decide (0 ≤ x.index) && decide (x.index < found.length)) = true := h2
    simp only [Bool.and_eq_true, decide_eq_true_eq] at h2
    exact op5 p found x h2.1 h2.2
  · obtain ⟨a, rfl⟩ := len_1 (sl := sl) (by have h1 : (sl.length : Int) = 1 := h1; omega)
    show PCall Tryz.prog _ _ (outR _ (aheadM a))
    unfold aheadM
    cases hc : (decide (a.1 < 0) || decide (a.2 > 4096)) with
    | true => exact op6_bad p found x a hc
    | false => exact op6_ok p found x a hc
  · obtain ⟨a, rfl⟩ := len_1 (sl := sl) (by have h1 : (sl.length : Int) = 1 := h1; omega)
    show PCall Tryz.prog _ _ (outR _ (aheadM a))
    unfold aheadM
    cases hc : (decide (a.1 < 0) || decide (a.2 > 4096)) with
    | true => exact op6_bad p found x a hc
    | false => exact op6_ok p found x a hc
  · have h1 : (sl.length : Int) = 1 := h1
    have h2 : (decide (0 ≤ x.index) && decide (x.index < p.lines.length)) = true := h2
    simp only [Bool.and_eq_true, decide_eq_true_eq] at h2
    obtain ⟨a, rfl⟩ := len_1 (sl := sl) (by omega)
    exact op8 p found x a h2.1 h2.2
  · have h1 : (sl.length : Int) = 1 := h1
    have h2 : (decide (0 ≤ x.index) && decide (x.index < p.tables.length) && !(tableAt p x.index == [])) = true := h2
    simp only [Bool.and_eq_true, decide_eq_true_eq] at h2
    obtain ⟨a, rfl⟩ := len_1 (sl := sl) (by omega)
    have h3 : tableAt p x.index ≠ [] := by simpa using h2.2
    exact op9 p found x a h2.1.1 h2.1.2 (List.length_pos_iff.2 h3) (hT _ (getD_mem' Rg.Tb.none h2.1.1 h2.1.2))
  · obtain ⟨a, rfl⟩ := len_1 (sl := sl) (by have h1 : (sl.length : Int) = 1 := h1; omega)
    exact op10 p found x a
  · obtain ⟨a, b, rfl⟩ := len_2 (sl := sl) (by have h1 : (sl.length : Int) = 2 := h1; omega)
    exact op11 p found x a b
  · obtain ⟨a, b, rfl⟩ := len_2 (sl := sl) (by have h1 : (sl.length : Int) = 2 := h1; omega)
    exact op12 p found x a b
  · obtain ⟨a, rfl⟩ := len_1 (sl := sl) (by have h1 : (sl.length : Int) = 1 := h1; omega)
    exact op13 p found x a (hs a (by simp)).1 (hs a (by simp)).2
  · obtain ⟨a, rfl⟩ := len_1 (sl := sl) (by have h1 : (sl.length : Int) = 1 := h1; omega)
    exact op14 p found x a (hs a (by simp)).1 (hs a (by simp)).2
  · obtain ⟨a, b, rfl⟩ := len_2 (sl := sl) (by have h1 : (sl.length : Int) = 2 := h1; omega)
    exact op15 p found x a b (hs a (by simp)) (hs b (by simp))
  · obtain ⟨a, b, rfl⟩ := len_2 (sl := sl) (by have h1 : (sl.length : Int) = 2 := h1; omega)
    exact op16 p found x a b (hs a (by simp)) (hs b (by simp))
  · obtain ⟨a, b, rfl⟩ := len_2 (sl := sl) (by have h1 : (sl.length : Int) = 2 := h1; omega)
    exact op17 p found x a b (hs a (by simp)) (hs b (by simp))
  · obtain ⟨a, rfl⟩ := len_1 (sl := sl) (by have h1 : (sl.length : Int) = 1 := h1; omega)
    have h2 : (decide (1 ≤ x.n) && decide (x.n ≤ 2147483648)) = true := h2
    simp only [Bool.and_eq_true, decide_eq_true_eq] at h2
    exact op18 p found x a (hs a (by simp)).1 (hs a (by simp)).2 h2.1 h2.2
  · obtain ⟨a, b, c, d, rfl⟩ := len_4 (sl := sl) (by have h1 : (sl.length : Int) = 4 := h1; omega)
    exact op19 p found x a b c d
set_option maxHeartbeats 400000 in
theorem gfind_call (x : Ex) (p : Pr) (found : List Sp) (hR : Rng p) (hF : InS found) (hT : ∀ t ∈ p.tables, t.values.length ≤ 1073741824) (hx : Ref15.nodes x ≤ 1073741824) (hw : wfX p found.length x = true) : PCall Tryz.prog 32 [.ptr (fC p found), x.d] (outR 31 (findM p found x)) := by
  revert x; refine Ex.ind fun x ih hx hw => ?_
  refine pcall_of_wc tok hmix ⟨[], []⟩ Tryz.func32 rfl (by kernel_rfl) (by kernel_rfl) (by kernel_rfl) fun hf => ?_
  have hN := Ref15.nodes_eq x
  have hL := Ref15.len_nodes x.l
  have hlen : x.l.length ≤ 9223372036854775807 := by omega
  obtain ⟨g1, g2, g3⟩ := wfX_parts hw
  clear hf
  repeat' ((try (conv => whnf)) <;> first
    | ((refine rest_stepL _ _ _ [true] ?_ ?_ ?_); exact rfl; kernel_rfl)
    | ((with_reducible refine quiet_step ?_ ?_); kernel_rfl)
    | (with_reducible refine exc_step (ih x0 (drop_mem hd0) (by have := nodes_mem (drop_mem hd0); omega) (wfL_mem g3 _ (drop_mem hd0))) (fun s1 q1 => ?_) (fun e1 q1 => ?_))
    | (with_reducible refine exc_step (op_call p found x sl hR hT hw (findL_len (find_end hI0.1).2) (findL_in hR hF g3 (find_end hI0.1).2)) (fun s2 q2 => ?_) (fun e2 q2 => ?_))
    | ((with_reducible refine ret_exc s2 ((find_end hI0.1).1.trans q2) ?_); refine ⟨[], rfl, ?_, trivial⟩; conv => whnf)
    | ((with_reducible refine pan_exc e2 ((find_end hI0.1).1.trans q2) ?_); refine ⟨[], rfl, ?_, trivial⟩; conv => whnf)
    | ((with_reducible refine pan_exc e1 (find_bad hI0.1 q1) ?_); refine ⟨[], rfl, ?_, trivial⟩; conv => whnf)
    | (with_reducible refine kind_step g2 ?_)
    | with_reducible exact trivial
    | with_reducible exact idx_next hd0 ‹_›
    | with_reducible refine br_nil_e hd0 ?_
    | with_reducible refine br_cons_e hd0 ?_
    | ((with_reducible refine LoopAt.mk 0 ?_); refine ⟨rangeL (x.l) 11 (fun (sl : (List Sp)) => [(5, .gs 900005 2 (sl.map Sp.cs))]) (fun (sl : (List Sp)) => [(900005, .tok 2 (sl.map Sp.cs).length)]) [0, 3, 4, 9, 10] (fun i0 r0 sl => pre sl (findL p found r0) = findL p found x.l ∧ sl.length = i0), ?_⟩; with_reducible refine rangeL_rule [] ?_ ?_ (fun i0 (sl : (List Sp)) hd0 hI0 => ?_) (fun i0 x0 r0 (sl : (List Sp)) hd0 hl0 hI0 => ?_))
    | (with_reducible refine rangeL_next hd0 (sl ++ [s1]) ?_ ?_)
    | ((with_reducible refine call_step ?_ ?_ ?_); rotate_left; (first | exact operations_call | fail))
    | (with_reducible refine ChooseI.l _ ?_)
    | ((with_reducible refine nilgs_step ?_ ?_ ?_ ?_ ?_ ?_) <;> exact rfl)
    | ((with_reducible refine tok0_step ?_ ?_ ?_ ?_) <;> exact rfl)
    | ((with_reducible refine idx_step ?_ ?_ ?_ ?_ ?_); exact rfl; exact rfl; rotate_left; (first | with_reducible exact idx_get ‹_› | with_reducible exact idx_drop hd0 | with_reducible exact idx_take hd0 | with_reducible exact idx_zip1 hd0 | with_reducible exact idx_zip2 hd0 | with_reducible exact idx_zip1e hd0 | with_reducible exact idx_zip2e hd0 | with_reducible exact idx_drop_e hd0 | fail))
    | ((with_reducible refine len_step ?_ ?_); exact rfl)
    | ((with_reducible refine app_step' ?_ ?_ ?_ ?_ ?_ ?_ ?_); exact rfl; exact rfl; exact rfl; exact rfl)
    | ((with_reducible refine chk_step ?_ ?_); kernel_rfl)
    | (with_reducible refine And.intro ?_ ?_)
    | ((with_reducible refine gs_eq ?_ ?_ ?_); exact rfl; exact rfl; (first | with_reducible exact map_app | with_reducible exact map_app3 | with_reducible exact map_app4 | exact map_snoc | exact rfl | skip))
    | ((with_reducible refine tok_eq ?_ ?_); exact rfl; (first | with_reducible exact map_app | with_reducible exact map_app3 | with_reducible exact map_app4 | exact map_snoc | exact rfl | skip))
    | exact @rfl AV _
    | exact ble_le rfl
    | fail)
  all_goals first
    | (rfl)
    | ((exact pre_nil _))
    | ((exact find_next hI0.1 q1))
    | ((rw [List.length_append, hI0.2]; rfl))
    | ((rw [List.length_map]; omega))
    | skip
end Go.Proofs.YtjgponkgifopaaaGreatDoor
