/- Contracts: package ranges: numbers. -/
import Derived.Test.YtogfjinopifenaaDoorZK6
import Derived.Test.YtogfjinopifenaaDoorZRA
set_option linter.unusedSectionVars false
set_option linter.unusedSimpArgs false
set_option linter.unusedVariables false
set_option maxHeartbeats 400000
namespace Go.Proofs.YtogfjinopifenaaDoor
open Go.Fw Go.Fw.Rg
set_option maxRecDepth 10000
variable [GlobInt]
theorem PR (x : Int)  : PCall Tryd.prog 81 [.i x] (.ret (.i (nY x))) := by
 refine ae tok hmix ⟨[], []⟩ Tryd.func81 rfl (by kernel_rfl) (by kernel_rfl) (by kernel_rfl) fun hf => ?_
 clear hf
 repeat' ((try (conv => whnf)) <;> first
  | with_reducible refine BrI.intro (fun h => ?_) (fun h => ?_)
  | ((with_reducible refine ah ?_); refine ⟨[], rfl, ?_, trivial⟩; conv => whnf))
 all_goals first
  | ((refine congrArg D.i ?_; unfold nY; simp only [decide_eq_true_eq, decide_eq_false_iff_not] at *; (repeat' split) <;> omega))
  | skip
theorem Ew (a n : Int) (ha : inW a = true) (hn : 1 ≤ n) (hn2 : n ≤ 2147483648) : PCall Tryd.prog 92 [.i a, .i n] (.ret (.i (ny a n))) := by
 refine ae tok hmix ⟨[], []⟩ Tryd.func92 rfl (by kernel_rfl) (by kernel_rfl) (by kernel_rfl) fun hf => ?_
 clear hf
 repeat' ((try (conv => whnf)) <;> first
  | with_reducible refine BrI.intro (fun h => ?_) (fun h => ?_)
  | ((with_reducible refine ah ?_); refine ⟨[], rfl, ?_, trivial⟩; conv => whnf)
  | (with_reducible refine And.intro ?_ ?_))
 all_goals first
  | (omega)
  | ((exact congrArg D.i (SE hn hn2 ha (of_decide_eq_true h))))
  | ((exact congrArg D.i (SG hn ha (of_decide_eq_false h))))
  | skip
theorem Jn (a b : Int) (hc : Z9 a b = false) (hw : IntKind.i64.wrap (a + b) = a + b) : PCall Tryd.prog 87 [.i a, .i b] (.ret (.i (a + b))) := by
 refine ae tok hmix ⟨[], []⟩ Tryd.func87 rfl (by kernel_rfl) (by kernel_rfl) (by kernel_rfl) fun hf => ?_
 clear hf
 repeat' ((try (conv => whnf)) <;> first
  | with_reducible refine BrI.intro (fun h => ?_) (fun h => ?_)
  | (exact Bool.noConfusion (hc.symm.trans h))
  | ((with_reducible refine ah ?_); refine ⟨[], rfl, ?_, trivial⟩; conv => whnf))
 all_goals (try simp only [Bool.cond_true_left, Bool.cond_false_right, Bool.cond_false_left, Bool.cond_true_right, Bool.not_eq_true', Bool.not_eq_false', bne, Ex.css_len, List.length_map, Int.toNat_zero] at *)
 all_goals first
  | ((exact congrArg D.i hw))
  | skip
theorem add_bad (a b : Int) (hc : Z9 a b = true) : PCall Tryd.prog 87 [.i a, .i b] (.pan (.iface 30 (.i 160))) := by
 refine ae tok hmix ⟨[], []⟩ Tryd.func87 rfl (by kernel_rfl) (by kernel_rfl) (by kernel_rfl) fun hf => ?_
 clear hf
 repeat' ((try (conv => whnf)) <;> first
  | with_reducible refine BrI.intro (fun h => ?_) (fun h => ?_)
  | (exact Bool.noConfusion (hc.symm.trans h))
  | ((with_reducible refine uZ ?_); refine ⟨[], rfl, ?_, trivial⟩; conv => whnf))
 all_goals (try simp only [Bool.cond_true_left, Bool.cond_false_right, Bool.cond_false_left, Bool.cond_true_right, Bool.not_eq_true', Bool.not_eq_false', bne, Ex.css_len, List.length_map, Int.toNat_zero] at *)
 all_goals first
  | skip
theorem WX (n : Int) (f : Bool) (hc : Lh n f = false) : PCall Tryd.prog 98 [.i n, .b f] (.ret (.i n)) := by
 refine ae tok hmix ⟨[], []⟩ Tryd.func98 rfl (by kernel_rfl) (by kernel_rfl) (by kernel_rfl) fun hf => ?_
 clear hf
 repeat' ((try (conv => whnf)) <;> first
  | with_reducible refine BrI.intro (fun h => ?_) (fun h => ?_)
  | (exact Bool.noConfusion (hc.symm.trans h))
  | ((with_reducible refine ah ?_); refine ⟨[], rfl, ?_, trivial⟩; conv => whnf))
 all_goals (try simp only [Bool.cond_true_left, Bool.cond_false_right, Bool.cond_false_left, Bool.cond_true_right, Bool.not_eq_true', Bool.not_eq_false', bne, Ex.css_len, List.length_map, Int.toNat_zero] at *)
 all_goals first
  | skip
theorem Tn (n : Int) (f : Bool) (hc : Lh n f = true) : PCall Tryd.prog 98 [.i n, .b f] (.pan (.iface 30 (.i 160))) := by
 refine ae tok hmix ⟨[], []⟩ Tryd.func98 rfl (by kernel_rfl) (by kernel_rfl) (by kernel_rfl) fun hf => ?_
 clear hf
 repeat' ((try (conv => whnf)) <;> first
  | with_reducible refine BrI.intro (fun h => ?_) (fun h => ?_)
  | (exact Bool.noConfusion (hc.symm.trans h))
  | ((with_reducible refine uZ ?_); refine ⟨[], rfl, ?_, trivial⟩; conv => whnf))
 all_goals (try simp only [Bool.cond_true_left, Bool.cond_false_right, Bool.cond_false_left, Bool.cond_true_right, Bool.not_eq_true', Bool.not_eq_false', bne, Ex.css_len, List.length_map, Int.toNat_zero] at *)
 all_goals first
  | skip
theorem mul_zero (a b : Int) (hz : UE a b = true) : PCall Tryd.prog 90 [.i a, .i b] (.ret (.i 0)) := by
 refine ae tok hmix ⟨[], []⟩ Tryd.func90 rfl (by kernel_rfl) (by kernel_rfl) (by kernel_rfl) fun hf => ?_
 clear hf
 repeat' ((try (conv => whnf)) <;> first
  | with_reducible refine BrI.intro (fun h => ?_) (fun h => ?_)
  | (exact Bool.noConfusion (hz.symm.trans h))
  | ((with_reducible refine ah ?_); refine ⟨[], rfl, ?_, trivial⟩; conv => whnf))
 all_goals (try simp only [Bool.cond_true_left, Bool.cond_false_right, Bool.cond_false_left, Bool.cond_true_right, Bool.not_eq_true', Bool.not_eq_false', bne, Ex.css_len, List.length_map, Int.toNat_zero] at *)
 all_goals first
  | skip
theorem Y6 (a b : Int) (hz : UE a b = false) (hb : b ≠ 0) (hq : mm2 true b (IntKind.i64.wrap (0 - b)) ≠ 0) (hw : Lh (IntKind.i64.wrap (a * b)) (YL a b) = false) : PCall Tryd.prog 90 [.i a, .i b] (.ret (.i (IntKind.i64.wrap (a * b)))) := by
 refine ae tok hmix ⟨[], []⟩ Tryd.func90 rfl (by kernel_rfl) (by kernel_rfl) (by kernel_rfl) fun hf => ?_
 clear hf
 repeat' ((try (conv => whnf)) <;> first
  | with_reducible refine BrI.intro (fun h => ?_) (fun h => ?_)
  | (exact Bool.noConfusion (hz.symm.trans h))
  | ((with_reducible refine ai ?_ ?_ ?_); rotate_left; (exact WX _ _ hw))
  | ((with_reducible refine bz ?_ ?_ (fun hg => ?_) ?_); exact rfl)
  | ((with_reducible refine dA ?_ ?_); with_reducible exact rfl; with_reducible exact rfl)
  | ((with_reducible refine eH ?_ ?_); with_reducible exact rfl)
  | ((with_reducible refine ah ?_); refine ⟨[], rfl, ?_, trivial⟩; conv => whnf)
  | (with_reducible refine And.intro ?_ ?_))
 all_goals first
  | ((exact hb))
  | ((exact hq))
  | skip
theorem WY (a b : Int) (hz : UE a b = false) (hb : b ≠ 0) (hq : mm2 true b (IntKind.i64.wrap (0 - b)) ≠ 0) (hw : Lh (IntKind.i64.wrap (a * b)) (YL a b) = true) : PCall Tryd.prog 90 [.i a, .i b] (.pan (.iface 30 (.i 160))) := by
 refine ae tok hmix ⟨[], []⟩ Tryd.func90 rfl (by kernel_rfl) (by kernel_rfl) (by kernel_rfl) fun hf => ?_
 clear hf
 repeat' ((try (conv => whnf)) <;> first
  | with_reducible refine BrI.intro (fun h => ?_) (fun h => ?_)
  | (exact Bool.noConfusion (hz.symm.trans h))
  | ((with_reducible refine ai ?_ ?_ ?_); rotate_left; (exact Tn _ _ hw))
  | ((with_reducible refine bz ?_ ?_ (fun hg => ?_) ?_); exact rfl)
  | ((with_reducible refine dA ?_ ?_); with_reducible exact rfl; with_reducible exact rfl)
  | ((with_reducible refine uZ ?_); refine ⟨[], rfl, ?_, trivial⟩; conv => whnf)
  | (with_reducible refine And.intro ?_ ?_))
 all_goals first
  | ((exact hb))
  | ((exact hq))
  | skip
end Go.Proofs.YtogfjinopifenaaDoor
namespace Go.Proofs.YtogfjinopifenaaDoor
open Go.Fw Go.Fw.Rg
set_option maxRecDepth 10000
variable [GlobInt]
abbrev fC (p : Pr) (found : List Sp) : List D := [.str p.name, .i p.latency, .i p.tail, .sl 3 (p.params.map Bd.cs), .sl 3 (p.states.map Bd.cs), .sl 4 (p.lines.map Ln.cs), .sl 2 (p.tables.map Tb.cs), .sl 8 (p.stmts.map Sm.cs), .sl 2 (found.map Sp.cs)]
theorem rD (a b c : Int) (hc : c = b) (ha : inW a = true) (hb : inW b = true) : PCall Tryd.prog 87 [.i a, .i c] (z0a 30 (okW (a + b))) := by
 subst hc
 unfold okW
 cases hw : inW (a + c) with
 | true => exact Jn a c (by rw [OU ha hb, hw]; rfl) (lQ hw)
 | false => exact add_bad a c (by rw [OU ha hb, hw]; rfl)
theorem rE (a b : Int) (ha : inW a = true) (hb : inW b = true) : PCall Tryd.prog 90 [.i a, .i b] (z0a 30 (okW (a * b))) := by
 cases hz : UE a b with
 | true => rw [Wp hz]; exact mul_zero a b hz
 | false =>
  have hb0 := Wq hz
  have hq : mm2 true b (IntKind.i64.wrap (0 - b)) ≠ 0 := by rw [fQ hb, Gw]; omega
  unfold okW
  cases hw : inW (a * b) with
  | true =>
   have := Y6 a b hz hb0 hq (by rw [I7 ha hb hb0, hw]; rfl)
   rw [lQ hw] at this; exact this
  | false => exact WY a b hz hb0 hq (by rw [I7 ha hb hb0, hw]; rfl)
theorem op1 (p : Pr) (found : List Sp) (x : Ex)  : PCall Tryd.prog 73 [.ptr (fC p found), x.d, .sl 2 []] (.ret (Sp.d (x.n, x.n))) := by
 refine ae tok hmix ⟨[], []⟩ Tryd.func73 rfl (by kernel_rfl) (by kernel_rfl) (by kernel_rfl) fun hf => ?_
 clear hf
 repeat' ((try (conv => whnf)) <;> first
  | ((with_reducible refine ah ?_); refine ⟨[], rfl, ?_, trivial⟩; conv => whnf))
 all_goals first
  | skip
theorem op3 (p : Pr) (found : List Sp) (x : Ex) (h0 : 0 ≤ x.index) (h1 : x.index < p.params.length) : PCall Tryd.prog 74 [.ptr (fC p found), x.d, .sl 2 []] (.ret (Sp.d ((gp p x.index).lo, (gp p x.index).hi))) := by
 refine ae tok hmix ⟨[], []⟩ Tryd.func74 rfl (by kernel_rfl) (by kernel_rfl) (by kernel_rfl) fun hf => ?_
 clear hf
 repeat' ((try (conv => whnf)) <;> first
  | ((with_reducible refine jM Rg.Bd.none ?_ ?_ h0 h1 ?_); exact rfl; exact rfl)
  | ((with_reducible refine ay ?_ ?_); kernel_rfl)
  | ((with_reducible refine ah ?_); refine ⟨[], rfl, ?_, trivial⟩; conv => whnf))
 all_goals first
  | skip
theorem op4 (p : Pr) (found : List Sp) (x : Ex) (h0 : 0 ≤ x.index) (h1 : x.index < p.states.length) : PCall Tryd.prog 75 [.ptr (fC p found), x.d, .sl 2 []] (.ret (Sp.d ((aP p x.index).lo, (aP p x.index).hi))) := by
 refine ae tok hmix ⟨[], []⟩ Tryd.func75 rfl (by kernel_rfl) (by kernel_rfl) (by kernel_rfl) fun hf => ?_
 clear hf
 repeat' ((try (conv => whnf)) <;> first
  | ((with_reducible refine jM Rg.Bd.none ?_ ?_ h0 h1 ?_); exact rfl; exact rfl)
  | ((with_reducible refine ay ?_ ?_); kernel_rfl)
  | ((with_reducible refine ah ?_); refine ⟨[], rfl, ?_, trivial⟩; conv => whnf))
 all_goals first
  | skip
theorem op5 (p : Pr) (found : List Sp) (x : Ex) (h0 : 0 ≤ x.index) (h1 : x.index < found.length) : PCall Tryd.prog 76 [.ptr (fC p found), x.d, .sl 2 []] (.ret (Sp.d (found.getD x.index.toNat (0, 0)))) := by
 refine ae tok hmix ⟨[], []⟩ Tryd.func76 rfl (by kernel_rfl) (by kernel_rfl) (by kernel_rfl) fun hf => ?_
 clear hf
 repeat' ((try (conv => whnf)) <;> first
  | ((with_reducible refine jM ((0, 0) : Sp) ?_ ?_ h0 h1 ?_); exact rfl; exact rfl)
  | ((with_reducible refine aT ?_ ?_); exact rfl)
  | ((with_reducible refine ay ?_ ?_); kernel_rfl)
  | ((with_reducible refine ah ?_); refine ⟨[], rfl, ?_, trivial⟩; conv => whnf))
 all_goals first
  | skip
theorem UO (p : Pr) (found : List Sp) (x : Ex) (a : Sp) (hc : (decide (a.1 < 0) || decide (a.2 > 4096)) = false) : PCall Tryd.prog 77 [.ptr (fC p found), x.d, .sl 2 [[.i a.1, .i a.2]]] (.ret (Sp.d (-2147483648, 2147483647))) := by
 refine ae tok hmix ⟨[], []⟩ Tryd.func77 rfl (by kernel_rfl) (by kernel_rfl) (by kernel_rfl) fun hf => ?_
 clear hf
 repeat' ((try (conv => whnf)) <;> first
  | with_reducible refine BrI.intro (fun h => ?_) (fun h => ?_)
  | (exact Bool.noConfusion (hc.symm.trans ((D7 _ _).symm.trans h)))
  | ((with_reducible refine iO ?_ ?_ ?_ ?_); exact rfl; exact rfl; exact rfl)
  | ((with_reducible refine aT ?_ ?_); exact rfl)
  | ((with_reducible refine bz ?_ ?_ (fun hg => ?_) ?_); exact rfl)
  | ((with_reducible refine dA ?_ ?_); with_reducible exact rfl; with_reducible exact rfl)
  | ((with_reducible refine ah ?_); refine ⟨[], rfl, ?_, trivial⟩; conv => whnf)
  | (with_reducible refine And.intro ?_ ?_))
 all_goals first
  | (decide)
  | skip
theorem PS (p : Pr) (found : List Sp) (x : Ex) (a : Sp) (hc : (decide (a.1 < 0) || decide (a.2 > 4096)) = true) : PCall Tryd.prog 77 [.ptr (fC p found), x.d, .sl 2 [[.i a.1, .i a.2]]] (.pan (.iface 30 (.i 161))) := by
 refine ae tok hmix ⟨[], []⟩ Tryd.func77 rfl (by kernel_rfl) (by kernel_rfl) (by kernel_rfl) fun hf => ?_
 clear hf
 repeat' ((try (conv => whnf)) <;> first
  | with_reducible refine BrI.intro (fun h => ?_) (fun h => ?_)
  | (exact Bool.noConfusion (hc.symm.trans ((D7 _ _).symm.trans h)))
  | ((with_reducible refine iO ?_ ?_ ?_ ?_); exact rfl; exact rfl; exact rfl)
  | ((with_reducible refine bz ?_ ?_ (fun hg => ?_) ?_); exact rfl)
  | ((with_reducible refine dA ?_ ?_); with_reducible exact rfl; with_reducible exact rfl)
  | ((with_reducible refine uZ ?_); refine ⟨[], rfl, ?_, trivial⟩; conv => whnf)
  | (with_reducible refine And.intro ?_ ?_))
 all_goals first
  | (decide)
  | skip
theorem op8 (p : Pr) (found : List Sp) (x : Ex) (a : Sp) (h0 : 0 ≤ x.index) (h1 : x.index < p.lines.length) : PCall Tryd.prog 78 [.ptr (fC p found), x.d, .sl 2 [[.i a.1, .i a.2]]] (.ret (Sp.d (mm2 false (aQ p x.index).lo 0, mm2 true (aQ p x.index).hi 0))) := by
 refine ae tok hmix ⟨[], []⟩ Tryd.func78 rfl (by kernel_rfl) (by kernel_rfl) (by kernel_rfl) fun hf => ?_
 clear hf
 repeat' ((try (conv => whnf)) <;> first
  | ((with_reducible refine jM Rg.Ln.none ?_ ?_ h0 h1 ?_); exact rfl; exact rfl)
  | ((with_reducible refine ay ?_ ?_); kernel_rfl)
  | ((with_reducible refine ah ?_); refine ⟨[], rfl, ?_, trivial⟩; conv => whnf))
 all_goals first
  | skip
theorem op9 (p : Pr) (found : List Sp) (x : Ex) (a : Sp) (h0 : 0 ≤ x.index) (h1 : x.index < p.tables.length) (hv : 0 < (aA p x.index).length) (hvl : (aA p x.index).length ≤ 1073741824) : PCall Tryd.prog 79 [.ptr (fC p found), x.d, .sl 2 [[.i a.1, .i a.2]]] (.ret (Sp.d (minL ((aA p x.index).getD 0 0) (aA p x.index), maxL ((aA p x.index).getD 0 0) (aA p x.index)))) := by
 refine ae tok hmix ⟨[], []⟩ Tryd.func79 rfl (by kernel_rfl) (by kernel_rfl) (by kernel_rfl) fun hf => ?_
 have hlen : (aA p x.index).length ≤ 9223372036854775807 := by omega
 clear hf
 repeat' ((try (conv => whnf)) <;> first
  | with_reducible exact trivial
  | with_reducible exact au hd0 ‹_›
  | with_reducible refine bK hd0 ?_
  | with_reducible refine aY hd0 ?_
  | ((with_reducible refine jM Rg.Tb.none ?_ ?_ h0 h1 ?_); exact rfl; exact rfl)
  | ((with_reducible refine jM (f := X9) (n := 0) (0 : Int) ?_ ?_ ?_ ?_ ?_); exact rfl; exact rfl; exact Int.le_refl _; exact Int.ofNat_lt.2 hv)
  | ((with_reducible refine aG.mk 0 ?_); refine ⟨aN ((aA p x.index)) 30 (fun (q : (Int) × (Int)) => match q with | (lo, hi) => []) (fun (q : (Int) × (Int)) => match q with | (lo, hi) => [(8, .cells [.data (.i lo), .data (.i hi)])]) [6, 8, 28, 29] (fun i0 r0 q => match q with | (lo, hi) => minL ((aA p x.index).getD 0 0) (aA p x.index) = minL lo r0 ∧ maxL ((aA p x.index).getD 0 0) (aA p x.index) = maxL hi r0), ?_⟩; with_reducible refine af (((aA p x.index).getD 0 0), ((aA p x.index).getD 0 0)) ?_ ?_ (fun i0 ⟨lo, hi⟩ hd0 hI0 => ?_) (fun i0 x0 r0 ⟨lo, hi⟩ hd0 hl0 hI0 => ?_))
  | (with_reducible refine ag hd0 ((mm2 false lo x0), (mm2 true hi x0)) ?_ ?_)
  | ((with_reducible refine aH ?_ ?_ ?_ ?_ ?_); exact rfl; exact rfl; rotate_left; (with_reducible exact aC hd0))
  | ((with_reducible refine ay ?_ ?_); kernel_rfl)
  | ((with_reducible refine ah ?_); refine ⟨[], rfl, ?_, trivial⟩; conv => whnf)
  | (with_reducible refine And.intro ?_ ?_)
  | exact @rfl AV _)
 all_goals first
  | (rfl)
  | (decide)
  | ((exact hI0.1))
  | ((exact hI0.2))
  | ((rw [hI0.1, hI0.2]; rfl))
  | skip
theorem z1v (p : Pr) (found : List Sp) (x : Ex) (a : Sp)  : PCall Tryd.prog 80 [.ptr (fC p found), x.d, .sl 2 [[.i a.1, .i a.2]]] (.ret (Sp.d (nY a.1, nY a.2))) := by
 refine ae tok hmix ⟨[], []⟩ Tryd.func80 rfl (by kernel_rfl) (by kernel_rfl) (by kernel_rfl) fun hf => ?_
 clear hf
 repeat' ((try (conv => whnf)) <;> first
  | ((with_reducible refine iO ?_ ?_ ?_ ?_); exact rfl; exact rfl; exact rfl)
  | ((with_reducible refine ai ?_ ?_ ?_); rotate_left; (exact PR _))
  | ((with_reducible refine ay ?_ ?_); kernel_rfl)
  | ((with_reducible refine ah ?_); refine ⟨[], rfl, ?_, trivial⟩; conv => whnf)
  | (with_reducible refine And.intro ?_ ?_))
 all_goals first
  | (decide)
  | skip
theorem z1w (p : Pr) (found : List Sp) (x : Ex) (a b : Sp)  : PCall Tryd.prog 82 [.ptr (fC p found), x.d, .sl 2 [[.i a.1, .i a.2], [.i b.1, .i b.2]]] (.ret (Sp.d (mm2 false a.1 b.1, mm2 false a.2 b.2))) := by
 refine ae tok hmix ⟨[], []⟩ Tryd.func82 rfl (by kernel_rfl) (by kernel_rfl) (by kernel_rfl) fun hf => ?_
 clear hf
 repeat' ((try (conv => whnf)) <;> first
  | ((with_reducible refine iO ?_ ?_ ?_ ?_); exact rfl; exact rfl; exact rfl)
  | ((with_reducible refine ay ?_ ?_); kernel_rfl)
  | ((with_reducible refine ah ?_); refine ⟨[], rfl, ?_, trivial⟩; conv => whnf)
  | (with_reducible refine And.intro ?_ ?_))
 all_goals first
  | (decide)
  | skip
theorem z1x (p : Pr) (found : List Sp) (x : Ex) (a b : Sp)  : PCall Tryd.prog 83 [.ptr (fC p found), x.d, .sl 2 [[.i a.1, .i a.2], [.i b.1, .i b.2]]] (.ret (Sp.d (mm2 true a.1 b.1, mm2 true a.2 b.2))) := by
 refine ae tok hmix ⟨[], []⟩ Tryd.func83 rfl (by kernel_rfl) (by kernel_rfl) (by kernel_rfl) fun hf => ?_
 clear hf
 repeat' ((try (conv => whnf)) <;> first
  | ((with_reducible refine iO ?_ ?_ ?_ ?_); exact rfl; exact rfl; exact rfl)
  | ((with_reducible refine ay ?_ ?_); kernel_rfl)
  | ((with_reducible refine ah ?_); refine ⟨[], rfl, ?_, trivial⟩; conv => whnf)
  | (with_reducible refine And.intro ?_ ?_))
 all_goals first
  | (decide)
  | skip
theorem z1y (p : Pr) (found : List Sp) (x : Ex) (a : Sp) (ha : inW a.1 = true) (hb : inW a.2 = true) : PCall Tryd.prog 84 [.ptr (fC p found), x.d, .sl 2 [[.i a.1, .i a.2]]] (.ret (Sp.d (OT a))) := by
 refine ae tok hmix ⟨[], []⟩ Tryd.func84 rfl (by kernel_rfl) (by kernel_rfl) (by kernel_rfl) fun hf => ?_
 clear hf
 repeat' ((try (conv => whnf)) <;> first
  | with_reducible refine BrI.intro (fun h => ?_) (fun h => ?_)
  | ((with_reducible refine iO ?_ ?_ ?_ ?_); exact rfl; exact rfl; exact rfl)
  | ((with_reducible refine aT ?_ ?_); exact rfl)
  | ((with_reducible refine ay ?_ ?_); kernel_rfl)
  | ((with_reducible refine ah ?_); refine ⟨[], rfl, ?_, trivial⟩; conv => whnf)
  | (with_reducible refine And.intro ?_ ?_))
 all_goals first
  | (decide)
  | ((refine congrArg Sp.d ?_; unfold OT; rw [if_pos (of_decide_eq_true h)]; done))
  | ((unfold OT; rw [if_neg (of_decide_eq_false ‹decide (a.1 ≥ 0) = false›), if_pos (of_decide_eq_true h), fQ ha, fQ hb]; done))
  | ((unfold OT; rw [if_neg (of_decide_eq_false ‹decide (a.1 ≥ 0) = false›), if_neg (of_decide_eq_false h), fQ ha]; done))
  | skip
theorem z1z (p : Pr) (found : List Sp) (x : Ex) (a : Sp) (ha : inW a.1 = true) (hb : inW a.2 = true) : PCall Tryd.prog 85 [.ptr (fC p found), x.d, .sl 2 [[.i a.1, .i a.2]]] (.ret (Sp.d (-a.2, -a.1))) := by
 refine ae tok hmix ⟨[], []⟩ Tryd.func85 rfl (by kernel_rfl) (by kernel_rfl) (by kernel_rfl) fun hf => ?_
 clear hf
 repeat' ((try (conv => whnf)) <;> first
  | ((with_reducible refine iO ?_ ?_ ?_ ?_); exact rfl; exact rfl; exact rfl)
  | ((with_reducible refine ay ?_ ?_); kernel_rfl)
  | ((with_reducible refine ah ?_); refine ⟨[], rfl, ?_, trivial⟩; conv => whnf)
  | (with_reducible refine And.intro ?_ ?_))
 all_goals first
  | (decide)
  | ((rw [fQ ha, fQ hb]; done))
  | skip
theorem z14 (p : Pr) (found : List Sp) (x : Ex) (a b : Sp) (ha : inW a.1 = true ∧ inW a.2 = true) (hb : inW b.1 = true ∧ inW b.2 = true) : PCall Tryd.prog 86 [.ptr (fC p found), x.d, .sl 2 [[.i a.1, .i a.2], [.i b.1, .i b.2]]] (OW 30 (two (a.1 + b.1) (a.2 + b.2))) := by
 refine ae tok hmix ⟨[], []⟩ Tryd.func86 rfl (by kernel_rfl) (by kernel_rfl) (by kernel_rfl) fun hf => ?_
 clear hf
 repeat' ((try (conv => whnf)) <;> first
  | ((refine fH _ _ _ [false, false, false, false, false, false, false, false, true, true, true] ?_ ?_ ?_); exact rfl; kernel_rfl)
  | ((refine fH _ _ _ [true, true] ?_ ?_ ?_); exact rfl; kernel_rfl)
  | ((with_reducible refine quiet_step ?_ ?_); kernel_rfl)
  | (with_reducible refine iW (rD a.1 b.1 _ rfl ha.1 hb.1) (fun n1 q1 => ?_) (fun e1 q1 => ?_))
  | (with_reducible refine iW (rD a.2 b.2 _ rfl ha.2 hb.2) (fun n2 q2 => ?_) (fun e2 q2 => ?_))
  | ((with_reducible refine AZ (n1, n2) (UF q1 q2) ?_); refine ⟨[], rfl, ?_, trivial⟩; conv => whnf)
  | ((with_reducible refine kU e1 (UG q1) ?_); refine ⟨[], rfl, ?_, trivial⟩; conv => whnf)
  | ((with_reducible refine kU e2 (UH q2) ?_); refine ⟨[], rfl, ?_, trivial⟩; conv => whnf)
  | ((with_reducible refine iO ?_ ?_ ?_ ?_); exact rfl; exact rfl; exact rfl)
  | ((with_reducible refine ay ?_ ?_); kernel_rfl)
  | ((with_reducible refine jJ ?_ ?_); kernel_rfl)
  | (with_reducible refine And.intro ?_ ?_))
 all_goals first
  | (decide)
  | skip
theorem z15 (p : Pr) (found : List Sp) (x : Ex) (a b : Sp) (ha : inW a.1 = true ∧ inW a.2 = true) (hb : inW b.1 = true ∧ inW b.2 = true) : PCall Tryd.prog 88 [.ptr (fC p found), x.d, .sl 2 [[.i a.1, .i a.2], [.i b.1, .i b.2]]] (OW 30 (two (a.1 + -b.2) (a.2 + -b.1))) := by
 refine ae tok hmix ⟨[], []⟩ Tryd.func88 rfl (by kernel_rfl) (by kernel_rfl) (by kernel_rfl) fun hf => ?_
 clear hf
 repeat' ((try (conv => whnf)) <;> first
  | ((refine fH _ _ _ [false, false, false, false, false, false, false, false, false, true, true, true] ?_ ?_ ?_); exact rfl; kernel_rfl)
  | ((refine fH _ _ _ [true, true] ?_ ?_ ?_); exact rfl; kernel_rfl)
  | ((with_reducible refine quiet_step ?_ ?_); kernel_rfl)
  | (with_reducible refine iW (rD a.1 (-b.2) _ (fQ hb.2) ha.1 (qR hb.2)) (fun n1 q1 => ?_) (fun e1 q1 => ?_))
  | (with_reducible refine iW (rD a.2 (-b.1) _ (fQ hb.1) ha.2 (qR hb.1)) (fun n2 q2 => ?_) (fun e2 q2 => ?_))
  | ((with_reducible refine AZ (n1, n2) (UF q1 q2) ?_); refine ⟨[], rfl, ?_, trivial⟩; conv => whnf)
  | ((with_reducible refine kU e1 (UG q1) ?_); refine ⟨[], rfl, ?_, trivial⟩; conv => whnf)
  | ((with_reducible refine kU e2 (UH q2) ?_); refine ⟨[], rfl, ?_, trivial⟩; conv => whnf)
  | ((with_reducible refine iO ?_ ?_ ?_ ?_); exact rfl; exact rfl; exact rfl)
  | ((with_reducible refine ay ?_ ?_); kernel_rfl)
  | ((with_reducible refine jJ ?_ ?_); kernel_rfl)
  | (with_reducible refine And.intro ?_ ?_))
 all_goals first
  | (decide)
  | skip
theorem z16 (p : Pr) (found : List Sp) (x : Ex) (a b : Sp) (ha : inW a.1 = true ∧ inW a.2 = true) (hb : inW b.1 = true ∧ inW b.2 = true) : PCall Tryd.prog 89 [.ptr (fC p found), x.d, .sl 2 [[.i a.1, .i a.2], [.i b.1, .i b.2]]] (OW 30 (prodM a b)) := by
 refine ae tok hmix ⟨[], []⟩ Tryd.func89 rfl (by kernel_rfl) (by kernel_rfl) (by kernel_rfl) fun hf => ?_
 clear hf
 repeat' ((try (conv => whnf)) <;> first
  | ((refine fH _ _ _ [false, false, false, false, false, false, false, false, true, false, false, false, false, false, false, false, false, true, false, false, false, false, false, false, false, false, true, true, true, true, true] ?_ ?_ ?_); exact rfl; kernel_rfl)
  | ((refine fH _ _ _ [false, false, false, false, false, false, false, false, true, false, false, false, false, false, false, false, false, true, true, true, true, true] ?_ ?_ ?_); exact rfl; kernel_rfl)
  | ((refine fH _ _ _ [false, false, false, false, false, false, false, false, true, true, true, true, true] ?_ ?_ ?_); exact rfl; kernel_rfl)
  | ((refine fH _ _ _ [true, true, true, true] ?_ ?_ ?_); exact rfl; kernel_rfl)
  | ((with_reducible refine quiet_step ?_ ?_); kernel_rfl)
  | (with_reducible refine iW (rE a.1 b.1 ha.1 hb.1) (fun n1 q1 => ?_) (fun e1 q1 => ?_))
  | (with_reducible refine iW (rE a.1 b.2 ha.1 hb.2) (fun n2 q2 => ?_) (fun e2 q2 => ?_))
  | (with_reducible refine iW (rE a.2 b.1 ha.2 hb.1) (fun n3 q3 => ?_) (fun e3 q3 => ?_))
  | (with_reducible refine iW (rE a.2 b.2 ha.2 hb.2) (fun n4 q4 => ?_) (fun e4 q4 => ?_))
  | ((with_reducible refine AZ (IZ n1 n2 n3 n4, I4 n1 n2 n3 n4) (Ws q1 q2 q3 q4) ?_); refine ⟨[], rfl, ?_, trivial⟩; conv => whnf)
  | ((with_reducible refine kU e1 (vg (.inl q1)) ?_); refine ⟨[], rfl, ?_, trivial⟩; conv => whnf)
  | ((with_reducible refine kU e2 (vg (.inr (.inl q2))) ?_); refine ⟨[], rfl, ?_, trivial⟩; conv => whnf)
  | ((with_reducible refine kU e3 (vg (.inr (.inr (.inl q3)))) ?_); refine ⟨[], rfl, ?_, trivial⟩; conv => whnf)
  | ((with_reducible refine kU e4 (vg (.inr (.inr (.inr q4)))) ?_); refine ⟨[], rfl, ?_, trivial⟩; conv => whnf)
  | ((with_reducible refine iO ?_ ?_ ?_ ?_); exact rfl; exact rfl; exact rfl)
  | ((with_reducible refine ay ?_ ?_); kernel_rfl)
  | ((with_reducible refine jJ ?_ ?_); kernel_rfl)
  | (with_reducible refine And.intro ?_ ?_))
 all_goals first
  | (rfl)
  | (decide)
  | skip
theorem z18 (p : Pr) (found : List Sp) (x : Ex) (a : Sp) (ha : inW a.1 = true) (hb : inW a.2 = true) (hn : 1 ≤ x.n) (hn2 : x.n ≤ 2147483648) : PCall Tryd.prog 91 [.ptr (fC p found), x.d, .sl 2 [[.i a.1, .i a.2]]] (.ret (Sp.d (ny a.1 x.n, ny a.2 x.n))) := by
 refine ae tok hmix ⟨[], []⟩ Tryd.func91 rfl (by kernel_rfl) (by kernel_rfl) (by kernel_rfl) fun hf => ?_
 clear hf
 repeat' ((try (conv => whnf)) <;> first
  | ((with_reducible refine iO ?_ ?_ ?_ ?_); exact rfl; exact rfl; exact rfl)
  | ((with_reducible refine ai ?_ ?_ ?_); rotate_left; (first | exact Ew _ _ (by assumption) (by assumption) (by assumption) | exact Ew a.1 x.n ha hn hn2))
  | ((with_reducible refine ay ?_ ?_); kernel_rfl)
  | ((with_reducible refine ah ?_); refine ⟨[], rfl, ?_, trivial⟩; conv => whnf)
  | (with_reducible refine And.intro ?_ ?_))
 all_goals first
  | (decide)
  | skip
theorem z19 (p : Pr) (found : List Sp) (x : Ex) (a b c d : Sp)  : PCall Tryd.prog 93 [.ptr (fC p found), x.d, .sl 2 [[.i a.1, .i a.2], [.i b.1, .i b.2], [.i c.1, .i c.2], [.i d.1, .i d.2]]] (.ret (Sp.d (mm2 false c.1 d.1, mm2 true c.2 d.2))) := by
 refine ae tok hmix ⟨[], []⟩ Tryd.func93 rfl (by kernel_rfl) (by kernel_rfl) (by kernel_rfl) fun hf => ?_
 clear hf
 repeat' ((try (conv => whnf)) <;> first
  | ((with_reducible refine iO ?_ ?_ ?_ ?_); exact rfl; exact rfl; exact rfl)
  | ((with_reducible refine ay ?_ ?_); kernel_rfl)
  | ((with_reducible refine ah ?_); refine ⟨[], rfl, ?_, trivial⟩; conv => whnf)
  | (with_reducible refine And.intro ?_ ?_))
 all_goals first
  | (decide)
  | skip
end Go.Proofs.YtogfjinopifenaaDoor
namespace Go.Proofs.YtogfjinopifenaaDoor
open Go.Fw Go.Fw.Rg
set_option maxRecDepth 10000
variable [GlobInt]
abbrev z0p : List D := [.val .nilFunc, .fn 73 [], .val .nilFunc, .fn 74 [], .fn 75 [], .fn 76 [], .fn 77 [], .fn 77 [], .fn 78 [], .fn 79 [], .fn 80 [], .fn 82 [], .fn 83 [], .fn 84 [], .fn 85 [], .fn 86 [], .fn 88 [], .fn 89 [], .fn 91 [], .fn 93 []]
def opF (k : Int) : Nat := match z0p.getD k.toNat (.val .nilFunc) with | .fn f _ => f | _ => 0
theorem xP   : PCall Tryd.prog 70 [] (.ret (.agg z0p)) := by
 refine ae tok hmix ⟨[], []⟩ Tryd.func70 rfl (by kernel_rfl) (by kernel_rfl) (by kernel_rfl) fun hf => ?_
 clear hf
 repeat' ((try (conv => whnf)) <;> first
  | ((with_reducible refine ah ?_); refine ⟨[], rfl, ?_, trivial⟩; conv => whnf))
 all_goals (try simp only [Bool.cond_true_left, Bool.cond_false_right, Bool.cond_false_left, Bool.cond_true_right, Bool.not_eq_true', Bool.not_eq_false', bne, Ex.css_len, List.length_map, Int.toNat_zero] at *)
 all_goals first
  | skip
theorem PT {p : Pr} {n : Nat} {k i m : Int} (hw : xB p n k i m = true) {q : D → Prop} (h : q (.fn (opF k) [])) : ∃ c, (0 ≤ k ∧ z0p[k.toNat]? = some c) ∧ q c := by
 rcases kinds hw with rfl | rfl | rfl | rfl | rfl | rfl | rfl | rfl | rfl | rfl | rfl | rfl | rfl | rfl | rfl | rfl | rfl | rfl <;> exact ⟨_, ⟨by decide, rfl⟩, h⟩
theorem z0q {p : Pr} {n : Nat} {k i m : Int} (hw : xB p n k i m = true) : Nat.beq (opF k) yz = false := by
 rcases kinds hw with rfl | rfl | rfl | rfl | rfl | rfl | rfl | rfl | rfl | rfl | rfl | rfl | rfl | rfl | rfl | rfl | rfl | rfl <;> rfl
theorem Tq {b : Bool} {p q : Prop} : b = false → p → (match b with | true => q | false => p) := by intro h h2; subst h; exact h2
theorem WZ (p : Pr) (found : List Sp) (x : Ex) (sl : List Sp) (hR : Rng p) (hT : ∀ t ∈ p.tables, t.values.length ≤ 1073741824) (hw : wfX p found.length x = true) (hl : sl.length = x.l.length) (hs : InS sl) :
  PCall Tryd.prog (opF x.kind) [.ptr (fC p found), x.d, .sl 2 (sl.map Sp.cs)] (OW 30 (opM p found x.kind x.index x.n sl)) := by
 obtain ⟨h1, h2, _⟩ := bJ hw
 rw [← hl] at h1
 generalize hk : x.kind = k at h1 h2
 have nil : (sl.length : Int) = 0 → sl = [] := fun h => List.length_eq_zero_iff.1 (by omega)
 rcases kinds h2 with rfl | rfl | rfl | rfl | rfl | rfl | rfl | rfl | rfl | rfl | rfl | rfl | rfl | rfl | rfl | rfl | rfl | rfl
 ·obtain rfl := nil h1
  exact op1 p found x
 ·obtain rfl := nil h1
  have h2 : (decide (0 ≤ x.index) && decide (x.index < p.params.length)) = true := h2
  simp only [Bool.and_eq_true, decide_eq_true_eq] at h2
  exact op3 p found x h2.1 h2.2
 ·obtain rfl := nil h1
  have h2 : (decide (0 ≤ x.index) && decide (x.index < p.states.length)) = true := h2
  simp only [Bool.and_eq_true, decide_eq_true_eq] at h2
  exact op4 p found x h2.1 h2.2
 ·obtain rfl := nil h1
  have h2 : (decide (0 ≤ x.index) && decide (x.index < found.length)) = true := h2
  simp only [Bool.and_eq_true, decide_eq_true_eq] at h2
  exact op5 p found x h2.1 h2.2
 ·obtain ⟨a, rfl⟩ := xC (sl := sl) (by have h1 : (sl.length : Int) = 1 := h1; omega)
  show PCall Tryd.prog _ _ (OW _ (aheadM a))
  unfold aheadM
  cases hc : (decide (a.1 < 0) || decide (a.2 > 4096)) with
  | true => exact PS p found x a hc
  | false => exact UO p found x a hc
 ·obtain ⟨a, rfl⟩ := xC (sl := sl) (by have h1 : (sl.length : Int) = 1 := h1; omega)
  show PCall Tryd.prog _ _ (OW _ (aheadM a))
  unfold aheadM
  cases hc : (decide (a.1 < 0) || decide (a.2 > 4096)) with
  | true => exact PS p found x a hc
  | false => exact UO p found x a hc
 ·have h1 : (sl.length : Int) = 1 := h1
  have h2 : (decide (0 ≤ x.index) && decide (x.index < p.lines.length)) = true := h2
  simp only [Bool.and_eq_true, decide_eq_true_eq] at h2
  obtain ⟨a, rfl⟩ := xC (sl := sl) (by omega)
  exact op8 p found x a h2.1 h2.2
 ·have h1 : (sl.length : Int) = 1 := h1
  have h2 : (decide (0 ≤ x.index) && decide (x.index < p.tables.length) && !(aA p x.index == [])) = true := h2
  simp only [Bool.and_eq_true, decide_eq_true_eq] at h2
  obtain ⟨a, rfl⟩ := xC (sl := sl) (by omega)
  have h3 : aA p x.index ≠ [] := by simpa using h2.2
  exact op9 p found x a h2.1.1 h2.1.2 (List.length_pos_iff.2 h3) (hT _ (getD_mem' Rg.Tb.none h2.1.1 h2.1.2))
 ·obtain ⟨a, rfl⟩ := xC (sl := sl) (by have h1 : (sl.length : Int) = 1 := h1; omega)
  exact z1v p found x a
 ·obtain ⟨a, b, rfl⟩ := OZ (sl := sl) (by have h1 : (sl.length : Int) = 2 := h1; omega)
  exact z1w p found x a b
 ·obtain ⟨a, b, rfl⟩ := OZ (sl := sl) (by have h1 : (sl.length : Int) = 2 := h1; omega)
  exact z1x p found x a b
 ·obtain ⟨a, rfl⟩ := xC (sl := sl) (by have h1 : (sl.length : Int) = 1 := h1; omega)
  exact z1y p found x a (hs a (by simp)).1 (hs a (by simp)).2
 ·obtain ⟨a, rfl⟩ := xC (sl := sl) (by have h1 : (sl.length : Int) = 1 := h1; omega)
  exact z1z p found x a (hs a (by simp)).1 (hs a (by simp)).2
 ·obtain ⟨a, b, rfl⟩ := OZ (sl := sl) (by have h1 : (sl.length : Int) = 2 := h1; omega)
  exact z14 p found x a b (hs a (by simp)) (hs b (by simp))
 ·obtain ⟨a, b, rfl⟩ := OZ (sl := sl) (by have h1 : (sl.length : Int) = 2 := h1; omega)
  exact z15 p found x a b (hs a (by simp)) (hs b (by simp))
 ·obtain ⟨a, b, rfl⟩ := OZ (sl := sl) (by have h1 : (sl.length : Int) = 2 := h1; omega)
  exact z16 p found x a b (hs a (by simp)) (hs b (by simp))
 ·obtain ⟨a, rfl⟩ := xC (sl := sl) (by have h1 : (sl.length : Int) = 1 := h1; omega)
  have h2 : (decide (1 ≤ x.n) && decide (x.n ≤ 2147483648)) = true := h2
  simp only [Bool.and_eq_true, decide_eq_true_eq] at h2
  exact z18 p found x a (hs a (by simp)).1 (hs a (by simp)).2 h2.1 h2.2
 ·obtain ⟨a, b, c, d, rfl⟩ := z0b (sl := sl) (by have h1 : (sl.length : Int) = 4 := h1; omega)
  exact z19 p found x a b c d
theorem tN (x : Ex) (p : Pr) (found : List Sp) (hR : Rng p) (hF : InS found) (hT : ∀ t ∈ p.tables, t.values.length ≤ 1073741824) (hx : Ref15.nodes x ≤ 1073741824) (hw : wfX p found.length x = true) : PCall Tryd.prog 62 [.ptr (fC p found), x.d] (OW 30 (bG p found x)) := by
 revert x; refine Ex.ind fun x ih hx hw => ?_
 refine ae tok hmix ⟨[], []⟩ Tryd.func62 rfl (by kernel_rfl) (by kernel_rfl) (by kernel_rfl) fun hf => ?_
 have hN := Ref15.nodes_eq x
 have hL := Ref15.len_nodes x.l
 have hlen : x.l.length ≤ 9223372036854775807 := by omega
 obtain ⟨g1, g2, g3⟩ := bJ hw
 clear hf
 repeat' ((try (conv => whnf)) <;> first
  | ((refine fH _ _ _ [true] ?_ ?_ ?_); exact rfl; kernel_rfl)
  | ((with_reducible refine quiet_step ?_ ?_); kernel_rfl)
  | (with_reducible refine I9 (ih x0 (bQ hd0) (by have := nz (bQ hd0); omega) (jL g3 _ (bQ hd0))) (fun s1 q1 => ?_) (fun e1 q1 => ?_))
  | (with_reducible refine I9 (WZ p found x sl hR hT hw (D6 (vk hI0.1).2) (Jb hR hF g3 (vk hI0.1).2)) (fun s2 q2 => ?_) (fun e2 q2 => ?_))
  | ((with_reducible refine AZ s2 ((vk hI0.1).1.trans q2) ?_); refine ⟨[], rfl, ?_, trivial⟩; conv => whnf)
  | ((with_reducible refine kU e2 ((vk hI0.1).1.trans q2) ?_); refine ⟨[], rfl, ?_, trivial⟩; conv => whnf)
  | ((with_reducible refine kU e1 (SH hI0.1 q1) ?_); refine ⟨[], rfl, ?_, trivial⟩; conv => whnf)
  | (with_reducible refine PT g2 ?_)
  | (refine Tq (z0q g2) ?_)
  | with_reducible exact trivial
  | with_reducible exact au hd0 ‹_›
  | with_reducible refine kw hd0 ?_
  | with_reducible refine ig hd0 ?_
  | ((with_reducible refine aG.mk 0 ?_); refine ⟨aN (x.l) 11 (fun (sl : (List Sp)) => [(5, .gs 900005 2 (sl.map Sp.cs))]) (fun (sl : (List Sp)) => [(900005, .tok 2 (sl.map Sp.cs).length)]) [0, 3, 4, 9, 10] (fun i0 r0 sl => pre sl (bn p found r0) = bn p found x.l ∧ sl.length = i0), ?_⟩; with_reducible refine af [] ?_ ?_ (fun i0 (sl : (List Sp)) hd0 hI0 => ?_) (fun i0 x0 r0 (sl : (List Sp)) hd0 hl0 hI0 => ?_))
  | (with_reducible refine ag hd0 (sl ++ [s1]) ?_ ?_)
  | ((with_reducible refine ai ?_ ?_ ?_); rotate_left; (exact xP))
  | (with_reducible refine bF.l _ ?_)
  | ((with_reducible refine dV ?_ ?_ ?_ ?_ ?_ ?_) <;> exact rfl)
  | ((with_reducible refine fO ?_ ?_ ?_ ?_) <;> exact rfl)
  | ((with_reducible refine aH ?_ ?_ ?_ ?_ ?_); exact rfl; exact rfl; rotate_left; (with_reducible exact dU hd0))
  | ((with_reducible refine aT ?_ ?_); exact rfl)
  | ((with_reducible refine app_step' ?_ ?_ ?_ ?_ ?_ ?_ ?_); exact rfl; exact rfl; exact rfl; exact rfl)
  | ((with_reducible refine ay ?_ ?_); kernel_rfl)
  | ((with_reducible refine jJ ?_ ?_); kernel_rfl)
  | (with_reducible refine And.intro ?_ ?_)
  | ((with_reducible refine uF ?_ ?_ ?_); exact rfl; exact rfl; (first | exact ik | skip))
  | ((with_reducible refine oJ ?_ ?_); exact rfl; (first | exact ik | skip))
  | exact @rfl AV _
  | exact kz rfl)
 all_goals first
  | (rfl)
  | ((exact pre_nil _))
  | ((exact OY hI0.1 q1))
  | ((rw [List.length_append, hI0.2]; rfl))
  | ((rw [List.length_map]; omega))
  | skip
end Go.Proofs.YtogfjinopifenaaDoor
