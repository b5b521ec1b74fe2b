/- Contracts: package ranges: numbers. -/
import Derived.Test.YtogfjinopifenaaDoorZK6
import Derived.Test.YtogfjinopifenaaDoorZRA
set_option linter.unusedSectionVars false
set_option linter.unusedSimpArgs false
set_option linter.unusedVariables false
set_option maxHeartbeats 400000
namespace Go.Proofs.YtogfjinopifenaaDoor
open Go.Fw Go.Fw.Rg
set_option maxRecDepth 10000
variable [af]
theorem Q3 (x : Int)  : PCall Tryd.prog 81 [.i x] (.ret (.i (oN x))) := by
 refine ae tok hmix ⟨[], []⟩ Tryd.func81 rfl (by kernel_rfl) (by kernel_rfl) (by kernel_rfl) fun hf => ?_
 clear hf
 repeat' ((try (conv => whnf)) <;> first
  | with_reducible refine BrI.intro (fun h => ?_) (fun h => ?_)
  | ((with_reducible refine ai ?_); refine ⟨[], rfl, ?_, trivial⟩; conv => whnf)
  | fail)
 all_goals first
  | ((refine congrArg D.i ?_; unfold oN; simp only [decide_eq_true_eq, decide_eq_false_iff_not] at *; (repeat' split) <;> omega))
  | skip
theorem FD (a n : Int) (ha : inW a = true) (hn : 1 ≤ n) (hn2 : n ≤ 2147483648) : PCall Tryd.prog 92 [.i a, .i n] (.ret (.i (nT a n))) := by
 refine ae tok hmix ⟨[], []⟩ Tryd.func92 rfl (by kernel_rfl) (by kernel_rfl) (by kernel_rfl) fun hf => ?_
 clear hf
 repeat' ((try (conv => whnf)) <;> first
  | with_reducible refine BrI.intro (fun h => ?_) (fun h => ?_)
  | ((with_reducible refine ai ?_); refine ⟨[], rfl, ?_, trivial⟩; conv => whnf)
  | (with_reducible refine And.intro ?_ ?_)
  | fail)
 all_goals first
  | (omega)
  | ((exact congrArg D.i (TK hn hn2 ha (of_decide_eq_true h))))
  | ((exact congrArg D.i (TL hn ha (of_decide_eq_false h))))
  | skip
theorem J3 (a b : Int) (hc : z1a a b = false) (hw : IntKind.i64.wrap (a + b) = a + b) : PCall Tryd.prog 87 [.i a, .i b] (.ret (.i (a + b))) := by
 refine ae tok hmix ⟨[], []⟩ Tryd.func87 rfl (by kernel_rfl) (by kernel_rfl) (by kernel_rfl) fun hf => ?_
 clear hf
 repeat' ((try (conv => whnf)) <;> first
  | with_reducible refine BrI.intro (fun h => ?_) (fun h => ?_)
  | (exact Bool.noConfusion (hc.symm.trans h))
  | ((with_reducible refine ai ?_); refine ⟨[], rfl, ?_, trivial⟩; conv => whnf)
  | fail)
 all_goals (try simp only [Bool.cond_true_left, Bool.cond_false_right, Bool.cond_false_left, Bool.cond_true_right, Bool.not_eq_true', Bool.not_eq_false', bne, Ex.css_len, List.length_map, Int.toNat_zero] at *)
 all_goals first
  | ((exact congrArg D.i hw))
  | skip
theorem add_bad (a b : Int) (hc : z1a a b = true) : PCall Tryd.prog 87 [.i a, .i b] (.pan (.iface 30 (.i 160))) := by
 refine ae tok hmix ⟨[], []⟩ Tryd.func87 rfl (by kernel_rfl) (by kernel_rfl) (by kernel_rfl) fun hf => ?_
 clear hf
 repeat' ((try (conv => whnf)) <;> first
  | with_reducible refine BrI.intro (fun h => ?_) (fun h => ?_)
  | (exact Bool.noConfusion (hc.symm.trans h))
  | ((with_reducible refine vP ?_); refine ⟨[], rfl, ?_, trivial⟩; conv => whnf)
  | fail)
 all_goals (try simp only [Bool.cond_true_left, Bool.cond_false_right, Bool.cond_false_left, Bool.cond_true_right, Bool.not_eq_true', Bool.not_eq_false', bne, Ex.css_len, List.length_map, Int.toNat_zero] at *)
 all_goals first
  | skip
theorem X6 (n : Int) (f : Bool) (hc : Me n f = false) : PCall Tryd.prog 98 [.i n, .b f] (.ret (.i n)) := by
 refine ae tok hmix ⟨[], []⟩ Tryd.func98 rfl (by kernel_rfl) (by kernel_rfl) (by kernel_rfl) fun hf => ?_
 clear hf
 repeat' ((try (conv => whnf)) <;> first
  | with_reducible refine BrI.intro (fun h => ?_) (fun h => ?_)
  | (exact Bool.noConfusion (hc.symm.trans h))
  | ((with_reducible refine ai ?_); refine ⟨[], rfl, ?_, trivial⟩; conv => whnf)
  | fail)
 all_goals (try simp only [Bool.cond_true_left, Bool.cond_false_right, Bool.cond_false_left, Bool.cond_true_right, Bool.not_eq_true', Bool.not_eq_false', bne, Ex.css_len, List.length_map, Int.toNat_zero] at *)
 all_goals first
  | skip
theorem UF (n : Int) (f : Bool) (hc : Me n f = true) : PCall Tryd.prog 98 [.i n, .b f] (.pan (.iface 30 (.i 160))) := by
 refine ae tok hmix ⟨[], []⟩ Tryd.func98 rfl (by kernel_rfl) (by kernel_rfl) (by kernel_rfl) fun hf => ?_
 clear hf
 repeat' ((try (conv => whnf)) <;> first
  | with_reducible refine BrI.intro (fun h => ?_) (fun h => ?_)
  | (exact Bool.noConfusion (hc.symm.trans h))
  | ((with_reducible refine vP ?_); refine ⟨[], rfl, ?_, trivial⟩; conv => whnf)
  | fail)
 all_goals (try simp only [Bool.cond_true_left, Bool.cond_false_right, Bool.cond_false_left, Bool.cond_true_right, Bool.not_eq_true', Bool.not_eq_false', bne, Ex.css_len, List.length_map, Int.toNat_zero] at *)
 all_goals first
  | skip
theorem mul_zero (a b : Int) (hz : Vg a b = true) : PCall Tryd.prog 90 [.i a, .i b] (.ret (.i 0)) := by
 refine ae tok hmix ⟨[], []⟩ Tryd.func90 rfl (by kernel_rfl) (by kernel_rfl) (by kernel_rfl) fun hf => ?_
 clear hf
 repeat' ((try (conv => whnf)) <;> first
  | with_reducible refine BrI.intro (fun h => ?_) (fun h => ?_)
  | (exact Bool.noConfusion (hz.symm.trans h))
  | ((with_reducible refine ai ?_); refine ⟨[], rfl, ?_, trivial⟩; conv => whnf)
  | fail)
 all_goals (try simp only [Bool.cond_true_left, Bool.cond_false_right, Bool.cond_false_left, Bool.cond_true_right, Bool.not_eq_true', Bool.not_eq_false', bne, Ex.css_len, List.length_map, Int.toNat_zero] at *)
 all_goals first
  | skip
theorem z0c (a b : Int) (hz : Vg a b = false) (hb : b ≠ 0) (hq : mm2 true b (IntKind.i64.wrap (0 - b)) ≠ 0) (hw : Me (IntKind.i64.wrap (a * b)) (Zk a b) = false) : PCall Tryd.prog 90 [.i a, .i b] (.ret (.i (IntKind.i64.wrap (a * b)))) := by
 refine ae tok hmix ⟨[], []⟩ Tryd.func90 rfl (by kernel_rfl) (by kernel_rfl) (by kernel_rfl) fun hf => ?_
 clear hf
 repeat' ((try (conv => whnf)) <;> first
  | with_reducible refine BrI.intro (fun h => ?_) (fun h => ?_)
  | (exact Bool.noConfusion (hz.symm.trans h))
  | ((with_reducible refine aj ?_ ?_ ?_); rotate_left; (exact X6 _ _ hw))
  | ((with_reducible refine bF ?_ ?_ (fun hg => ?_) ?_); exact rfl)
  | ((with_reducible refine dE ?_ ?_); with_reducible exact rfl; with_reducible exact rfl)
  | ((with_reducible refine fB ?_ ?_); with_reducible exact rfl)
  | ((with_reducible refine ai ?_); refine ⟨[], rfl, ?_, trivial⟩; conv => whnf)
  | (with_reducible refine And.intro ?_ ?_)
  | fail)
 all_goals first
  | ((exact hb))
  | ((exact hq))
  | skip
theorem X7 (a b : Int) (hz : Vg a b = false) (hb : b ≠ 0) (hq : mm2 true b (IntKind.i64.wrap (0 - b)) ≠ 0) (hw : Me (IntKind.i64.wrap (a * b)) (Zk a b) = true) : PCall Tryd.prog 90 [.i a, .i b] (.pan (.iface 30 (.i 160))) := by
 refine ae tok hmix ⟨[], []⟩ Tryd.func90 rfl (by kernel_rfl) (by kernel_rfl) (by kernel_rfl) fun hf => ?_
 clear hf
 repeat' ((try (conv => whnf)) <;> first
  | with_reducible refine BrI.intro (fun h => ?_) (fun h => ?_)
  | (exact Bool.noConfusion (hz.symm.trans h))
  | ((with_reducible refine aj ?_ ?_ ?_); rotate_left; (exact UF _ _ hw))
  | ((with_reducible refine bF ?_ ?_ (fun hg => ?_) ?_); exact rfl)
  | ((with_reducible refine dE ?_ ?_); with_reducible exact rfl; with_reducible exact rfl)
  | ((with_reducible refine vP ?_); refine ⟨[], rfl, ?_, trivial⟩; conv => whnf)
  | (with_reducible refine And.intro ?_ ?_)
  | fail)
 all_goals first
  | ((exact hb))
  | ((exact hq))
  | skip
end Go.Proofs.YtogfjinopifenaaDoor
namespace Go.Proofs.YtogfjinopifenaaDoor
open Go.Fw Go.Fw.Rg
set_option maxRecDepth 10000
variable [af]
abbrev fC (p : Pr) (found : List Sp) : List D := [.str p.name, .i p.latency, .i p.tail, .sl 3 (p.params.map Bd.cs), .sl 3 (p.states.map Bd.cs), .sl 4 (p.lines.map Ln.cs), .sl 2 (p.tables.map Tb.cs), .sl 8 (p.stmts.map Sm.cs), .sl 2 (found.map Sp.cs)]
theorem sD (a b c : Int) (hc : c = b) (ha : inW a = true) (hb : inW b = true) : PCall Tryd.prog 87 [.i a, .i c] (z1b 30 (okW (a + b))) := by
 subst hc
 unfold okW
 cases hw : inW (a + c) with
 | true => exact J3 a c (by rw [PI ha hb, hw]; rfl) (mr hw)
 | false => exact add_bad a c (by rw [PI ha hb, hw]; rfl)
theorem sF (a b : Int) (ha : inW a = true) (hb : inW b = true) : PCall Tryd.prog 90 [.i a, .i b] (z1b 30 (okW (a * b))) := by
 cases hz : Vg a b with
 | true => rw [Xc hz]; exact mul_zero a b hz
 | false =>
  have hb0 := Xd hz
  have hq : mm2 true b (IntKind.i64.wrap (0 - b)) ≠ 0 := by rw [gy hb, Hm]; omega
  unfold okW
  cases hw : inW (a * b) with
  | true =>
   have := z0c a b hz hb0 hq (by rw [Jz ha hb hb0, hw]; rfl)
   rw [mr hw] at this; exact this
  | false => exact X7 a b hz hb0 hq (by rw [Jz ha hb hb0, hw]; rfl)
theorem op1 (p : Pr) (found : List Sp) (x : Ex)  : PCall Tryd.prog 73 [.ptr (fC p found), x.d, .sl 2 []] (.ret (Sp.d (x.n, x.n))) := by
 refine ae tok hmix ⟨[], []⟩ Tryd.func73 rfl (by kernel_rfl) (by kernel_rfl) (by kernel_rfl) fun hf => ?_
 clear hf
 repeat' ((try (conv => whnf)) <;> first
  | ((with_reducible refine ai ?_); refine ⟨[], rfl, ?_, trivial⟩; conv => whnf)
  | fail)
 all_goals first
  | skip
theorem op3 (p : Pr) (found : List Sp) (x : Ex) (h0 : 0 ≤ x.index) (h1 : x.index < p.params.length) : PCall Tryd.prog 74 [.ptr (fC p found), x.d, .sl 2 []] (.ret (Sp.d ((gK p x.index).lo, (gK p x.index).hi))) := by
 refine ae tok hmix ⟨[], []⟩ Tryd.func74 rfl (by kernel_rfl) (by kernel_rfl) (by kernel_rfl) fun hf => ?_
 clear hf
 repeat' ((try (conv => whnf)) <;> first
  | ((with_reducible refine jY Rg.Bd.none ?_ ?_ h0 h1 ?_); exact rfl; exact rfl)
  | ((with_reducible refine aA ?_ ?_); kernel_rfl)
  | ((with_reducible refine ai ?_); refine ⟨[], rfl, ?_, trivial⟩; conv => whnf)
  | fail)
 all_goals first
  | skip
theorem op4 (p : Pr) (found : List Sp) (x : Ex) (h0 : 0 ≤ x.index) (h1 : x.index < p.states.length) : PCall Tryd.prog 75 [.ptr (fC p found), x.d, .sl 2 []] (.ret (Sp.d ((aT p x.index).lo, (aT p x.index).hi))) := by
 refine ae tok hmix ⟨[], []⟩ Tryd.func75 rfl (by kernel_rfl) (by kernel_rfl) (by kernel_rfl) fun hf => ?_
 clear hf
 repeat' ((try (conv => whnf)) <;> first
  | ((with_reducible refine jY Rg.Bd.none ?_ ?_ h0 h1 ?_); exact rfl; exact rfl)
  | ((with_reducible refine aA ?_ ?_); kernel_rfl)
  | ((with_reducible refine ai ?_); refine ⟨[], rfl, ?_, trivial⟩; conv => whnf)
  | fail)
 all_goals first
  | skip
theorem op5 (p : Pr) (found : List Sp) (x : Ex) (h0 : 0 ≤ x.index) (h1 : x.index < found.length) : PCall Tryd.prog 76 [.ptr (fC p found), x.d, .sl 2 []] (.ret (Sp.d (found.getD x.index.toNat (0, 0)))) := by
 refine ae tok hmix ⟨[], []⟩ Tryd.func76 rfl (by kernel_rfl) (by kernel_rfl) (by kernel_rfl) fun hf => ?_
 clear hf
 repeat' ((try (conv => whnf)) <;> first
  | ((with_reducible refine jY ((0, 0) : Sp) ?_ ?_ h0 h1 ?_); exact rfl; exact rfl)
  | ((with_reducible refine aW ?_ ?_); exact rfl)
  | ((with_reducible refine aA ?_ ?_); kernel_rfl)
  | ((with_reducible refine ai ?_); refine ⟨[], rfl, ?_, trivial⟩; conv => whnf)
  | fail)
 all_goals first
  | skip
theorem VP (p : Pr) (found : List Sp) (x : Ex) (a : Sp) (hc : (decide (a.1 < 0) || decide (a.2 > 4096)) = false) : PCall Tryd.prog 77 [.ptr (fC p found), x.d, .sl 2 [[.i a.1, .i a.2]]] (.ret (Sp.d (-2147483648, 2147483647))) := by
 refine ae tok hmix ⟨[], []⟩ Tryd.func77 rfl (by kernel_rfl) (by kernel_rfl) (by kernel_rfl) fun hf => ?_
 clear hf
 repeat' ((try (conv => whnf)) <;> first
  | with_reducible refine BrI.intro (fun h => ?_) (fun h => ?_)
  | (exact Bool.noConfusion (hc.symm.trans ((EG _ _).symm.trans h)))
  | ((with_reducible refine jm ?_ ?_ ?_ ?_); exact rfl; exact rfl; exact rfl)
  | ((with_reducible refine aW ?_ ?_); exact rfl)
  | ((with_reducible refine bF ?_ ?_ (fun hg => ?_) ?_); exact rfl)
  | ((with_reducible refine dE ?_ ?_); with_reducible exact rfl; with_reducible exact rfl)
  | ((with_reducible refine ai ?_); refine ⟨[], rfl, ?_, trivial⟩; conv => whnf)
  | (with_reducible refine And.intro ?_ ?_)
  | fail)
 all_goals first
  | (decide)
  | skip
theorem Q4 (p : Pr) (found : List Sp) (x : Ex) (a : Sp) (hc : (decide (a.1 < 0) || decide (a.2 > 4096)) = true) : PCall Tryd.prog 77 [.ptr (fC p found), x.d, .sl 2 [[.i a.1, .i a.2]]] (.pan (.iface 30 (.i 161))) := by
 refine ae tok hmix ⟨[], []⟩ Tryd.func77 rfl (by kernel_rfl) (by kernel_rfl) (by kernel_rfl) fun hf => ?_
 clear hf
 repeat' ((try (conv => whnf)) <;> first
  | with_reducible refine BrI.intro (fun h => ?_) (fun h => ?_)
  | (exact Bool.noConfusion (hc.symm.trans ((EG _ _).symm.trans h)))
  | ((with_reducible refine jm ?_ ?_ ?_ ?_); exact rfl; exact rfl; exact rfl)
  | ((with_reducible refine bF ?_ ?_ (fun hg => ?_) ?_); exact rfl)
  | ((with_reducible refine dE ?_ ?_); with_reducible exact rfl; with_reducible exact rfl)
  | ((with_reducible refine vP ?_); refine ⟨[], rfl, ?_, trivial⟩; conv => whnf)
  | (with_reducible refine And.intro ?_ ?_)
  | fail)
 all_goals first
  | (decide)
  | skip
theorem op8 (p : Pr) (found : List Sp) (x : Ex) (a : Sp) (h0 : 0 ≤ x.index) (h1 : x.index < p.lines.length) : PCall Tryd.prog 78 [.ptr (fC p found), x.d, .sl 2 [[.i a.1, .i a.2]]] (.ret (Sp.d (mm2 false (aU p x.index).lo 0, mm2 true (aU p x.index).hi 0))) := by
 refine ae tok hmix ⟨[], []⟩ Tryd.func78 rfl (by kernel_rfl) (by kernel_rfl) (by kernel_rfl) fun hf => ?_
 clear hf
 repeat' ((try (conv => whnf)) <;> first
  | ((with_reducible refine jY Rg.Ln.none ?_ ?_ h0 h1 ?_); exact rfl; exact rfl)
  | ((with_reducible refine aA ?_ ?_); kernel_rfl)
  | ((with_reducible refine ai ?_); refine ⟨[], rfl, ?_, trivial⟩; conv => whnf)
  | fail)
 all_goals first
  | skip
theorem op9 (p : Pr) (found : List Sp) (x : Ex) (a : Sp) (h0 : 0 ≤ x.index) (h1 : x.index < p.tables.length) (hv : 0 < (aC p x.index).length) (hvl : (aC p x.index).length ≤ 1073741824) : PCall Tryd.prog 79 [.ptr (fC p found), x.d, .sl 2 [[.i a.1, .i a.2]]] (.ret (Sp.d (minL ((aC p x.index).getD 0 0) (aC p x.index), maxL ((aC p x.index).getD 0 0) (aC p x.index)))) := by
 refine ae tok hmix ⟨[], []⟩ Tryd.func79 rfl (by kernel_rfl) (by kernel_rfl) (by kernel_rfl) fun hf => ?_
 have hlen : (aC p x.index).length ≤ 9223372036854775807 := by omega
 clear hf
 repeat' ((try (conv => whnf)) <;> first
  | with_reducible exact trivial
  | with_reducible exact ax hd0 ‹_›
  | with_reducible refine bQ hd0 ?_
  | with_reducible refine bi hd0 ?_
  | ((with_reducible refine jY Rg.Tb.none ?_ ?_ h0 h1 ?_); exact rfl; exact rfl)
  | ((with_reducible refine jY (f := YH) (n := 0) (0 : Int) ?_ ?_ ?_ ?_ ?_); exact rfl; exact rfl; exact Int.le_refl _; exact Int.ofNat_lt.2 hv)
  | ((with_reducible refine aI.mk 0 ?_); refine ⟨aP ((aC p x.index)) 30 (fun (q : (Int) × (Int)) => match q with | (lo, hi) => []) (fun (q : (Int) × (Int)) => match q with | (lo, hi) => [(8, .cells [.data (.i lo), .data (.i hi)])]) [6, 8, 28, 29] (fun i0 r0 q => match q with | (lo, hi) => minL ((aC p x.index).getD 0 0) (aC p x.index) = minL lo r0 ∧ maxL ((aC p x.index).getD 0 0) (aC p x.index) = maxL hi r0), ?_⟩; with_reducible refine ag (((aC p x.index).getD 0 0), ((aC p x.index).getD 0 0)) ?_ ?_ (fun i0 ⟨lo, hi⟩ hd0 hI0 => ?_) (fun i0 x0 r0 ⟨lo, hi⟩ hd0 hl0 hI0 => ?_))
  | (with_reducible refine ah hd0 ((mm2 false lo x0), (mm2 true hi x0)) ?_ ?_)
  | ((with_reducible refine aJ ?_ ?_ ?_ ?_ ?_); exact rfl; exact rfl; rotate_left; (with_reducible exact aG hd0))
  | ((with_reducible refine aA ?_ ?_); kernel_rfl)
  | ((with_reducible refine ai ?_); refine ⟨[], rfl, ?_, trivial⟩; conv => whnf)
  | (with_reducible refine And.intro ?_ ?_)
  | exact @rfl AV _
  | fail)
 all_goals first
  | (rfl)
  | (decide)
  | ((exact hI0.1))
  | ((exact hI0.2))
  | ((rw [hI0.1, hI0.2]; rfl))
  | skip
theorem z3e (p : Pr) (found : List Sp) (x : Ex) (a : Sp)  : PCall Tryd.prog 80 [.ptr (fC p found), x.d, .sl 2 [[.i a.1, .i a.2]]] (.ret (Sp.d (oN a.1, oN a.2))) := by
 refine ae tok hmix ⟨[], []⟩ Tryd.func80 rfl (by kernel_rfl) (by kernel_rfl) (by kernel_rfl) fun hf => ?_
 clear hf
 repeat' ((try (conv => whnf)) <;> first
  | ((with_reducible refine jm ?_ ?_ ?_ ?_); exact rfl; exact rfl; exact rfl)
  | ((with_reducible refine aj ?_ ?_ ?_); rotate_left; (exact Q3 _))
  | ((with_reducible refine aA ?_ ?_); kernel_rfl)
  | ((with_reducible refine ai ?_); refine ⟨[], rfl, ?_, trivial⟩; conv => whnf)
  | (with_reducible refine And.intro ?_ ?_)
  | fail)
 all_goals first
  | (decide)
  | skip
theorem z3f (p : Pr) (found : List Sp) (x : Ex) (a b : Sp)  : PCall Tryd.prog 82 [.ptr (fC p found), x.d, .sl 2 [[.i a.1, .i a.2], [.i b.1, .i b.2]]] (.ret (Sp.d (mm2 false a.1 b.1, mm2 false a.2 b.2))) := by
 refine ae tok hmix ⟨[], []⟩ Tryd.func82 rfl (by kernel_rfl) (by kernel_rfl) (by kernel_rfl) fun hf => ?_
 clear hf
 repeat' ((try (conv => whnf)) <;> first
  | ((with_reducible refine jm ?_ ?_ ?_ ?_); exact rfl; exact rfl; exact rfl)
  | ((with_reducible refine aA ?_ ?_); kernel_rfl)
  | ((with_reducible refine ai ?_); refine ⟨[], rfl, ?_, trivial⟩; conv => whnf)
  | (with_reducible refine And.intro ?_ ?_)
  | fail)
 all_goals first
  | (decide)
  | skip
theorem z3g (p : Pr) (found : List Sp) (x : Ex) (a b : Sp)  : PCall Tryd.prog 83 [.ptr (fC p found), x.d, .sl 2 [[.i a.1, .i a.2], [.i b.1, .i b.2]]] (.ret (Sp.d (mm2 true a.1 b.1, mm2 true a.2 b.2))) := by
 refine ae tok hmix ⟨[], []⟩ Tryd.func83 rfl (by kernel_rfl) (by kernel_rfl) (by kernel_rfl) fun hf => ?_
 clear hf
 repeat' ((try (conv => whnf)) <;> first
  | ((with_reducible refine jm ?_ ?_ ?_ ?_); exact rfl; exact rfl; exact rfl)
  | ((with_reducible refine aA ?_ ?_); kernel_rfl)
  | ((with_reducible refine ai ?_); refine ⟨[], rfl, ?_, trivial⟩; conv => whnf)
  | (with_reducible refine And.intro ?_ ?_)
  | fail)
 all_goals first
  | (decide)
  | skip
theorem z3h (p : Pr) (found : List Sp) (x : Ex) (a : Sp) (ha : inW a.1 = true) (hb : inW a.2 = true) : PCall Tryd.prog 84 [.ptr (fC p found), x.d, .sl 2 [[.i a.1, .i a.2]]] (.ret (Sp.d (PH a))) := by
 refine ae tok hmix ⟨[], []⟩ Tryd.func84 rfl (by kernel_rfl) (by kernel_rfl) (by kernel_rfl) fun hf => ?_
 clear hf
 repeat' ((try (conv => whnf)) <;> first
  | with_reducible refine BrI.intro (fun h => ?_) (fun h => ?_)
  | ((with_reducible refine jm ?_ ?_ ?_ ?_); exact rfl; exact rfl; exact rfl)
  | ((with_reducible refine aW ?_ ?_); exact rfl)
  | ((with_reducible refine aA ?_ ?_); kernel_rfl)
  | ((with_reducible refine ai ?_); refine ⟨[], rfl, ?_, trivial⟩; conv => whnf)
  | (with_reducible refine And.intro ?_ ?_)
  | fail)
 all_goals first
  | (decide)
  | ((refine congrArg Sp.d ?_; unfold PH; rw [if_pos (of_decide_eq_true h)]; done))
  | ((unfold PH; rw [if_neg (of_decide_eq_false ‹decide (a.1 ≥ 0) = false›), if_pos (of_decide_eq_true h), gy ha, gy hb]; done))
  | ((unfold PH; rw [if_neg (of_decide_eq_false ‹decide (a.1 ≥ 0) = false›), if_neg (of_decide_eq_false h), gy ha]; done))
  | skip
theorem z3i (p : Pr) (found : List Sp) (x : Ex) (a : Sp) (ha : inW a.1 = true) (hb : inW a.2 = true) : PCall Tryd.prog 85 [.ptr (fC p found), x.d, .sl 2 [[.i a.1, .i a.2]]] (.ret (Sp.d (-a.2, -a.1))) := by
 refine ae tok hmix ⟨[], []⟩ Tryd.func85 rfl (by kernel_rfl) (by kernel_rfl) (by kernel_rfl) fun hf => ?_
 clear hf
 repeat' ((try (conv => whnf)) <;> first
  | ((with_reducible refine jm ?_ ?_ ?_ ?_); exact rfl; exact rfl; exact rfl)
  | ((with_reducible refine aA ?_ ?_); kernel_rfl)
  | ((with_reducible refine ai ?_); refine ⟨[], rfl, ?_, trivial⟩; conv => whnf)
  | (with_reducible refine And.intro ?_ ?_)
  | fail)
 all_goals first
  | (decide)
  | ((rw [gy ha, gy hb]; done))
  | skip
theorem z3j (p : Pr) (found : List Sp) (x : Ex) (a b : Sp) (ha : inW a.1 = true ∧ inW a.2 = true) (hb : inW b.1 = true ∧ inW b.2 = true) : PCall Tryd.prog 86 [.ptr (fC p found), x.d, .sl 2 [[.i a.1, .i a.2], [.i b.1, .i b.2]]] (PL 30 (two (a.1 + b.1) (a.2 + b.2))) := by
 refine ae tok hmix ⟨[], []⟩ Tryd.func86 rfl (by kernel_rfl) (by kernel_rfl) (by kernel_rfl) fun hf => ?_
 clear hf
 repeat' ((try (conv => whnf)) <;> first
  | ((refine fU _ _ _ [false, false, false, false, false, false, false, false, true, true, true] ?_ ?_ ?_); exact rfl; kernel_rfl)
  | ((refine fU _ _ _ [true, true] ?_ ?_ ?_); exact rfl; kernel_rfl)
  | ((with_reducible refine quiet_step ?_ ?_); kernel_rfl)
  | (with_reducible refine jg (sD a.1 b.1 _ rfl ha.1 hb.1) (fun n1 q1 => ?_) (fun e1 q1 => ?_))
  | (with_reducible refine jg (sD a.2 b.2 _ rfl ha.2 hb.2) (fun n2 q2 => ?_) (fun e2 q2 => ?_))
  | ((with_reducible refine BJ (n1, n2) (Vh q1 q2) ?_); refine ⟨[], rfl, ?_, trivial⟩; conv => whnf)
  | ((with_reducible refine lC e1 (Vj q1) ?_); refine ⟨[], rfl, ?_, trivial⟩; conv => whnf)
  | ((with_reducible refine lC e2 (Vk q2) ?_); refine ⟨[], rfl, ?_, trivial⟩; conv => whnf)
  | ((with_reducible refine jm ?_ ?_ ?_ ?_); exact rfl; exact rfl; exact rfl)
  | ((with_reducible refine aA ?_ ?_); kernel_rfl)
  | ((with_reducible refine jW ?_ ?_); kernel_rfl)
  | (with_reducible refine And.intro ?_ ?_)
  | fail)
 all_goals first
  | (decide)
  | skip
theorem z3k (p : Pr) (found : List Sp) (x : Ex) (a b : Sp) (ha : inW a.1 = true ∧ inW a.2 = true) (hb : inW b.1 = true ∧ inW b.2 = true) : PCall Tryd.prog 88 [.ptr (fC p found), x.d, .sl 2 [[.i a.1, .i a.2], [.i b.1, .i b.2]]] (PL 30 (two (a.1 + -b.2) (a.2 + -b.1))) := by
 refine ae tok hmix ⟨[], []⟩ Tryd.func88 rfl (by kernel_rfl) (by kernel_rfl) (by kernel_rfl) fun hf => ?_
 clear hf
 repeat' ((try (conv => whnf)) <;> first
  | ((refine fU _ _ _ [false, false, false, false, false, false, false, false, false, true, true, true] ?_ ?_ ?_); exact rfl; kernel_rfl)
  | ((refine fU _ _ _ [true, true] ?_ ?_ ?_); exact rfl; kernel_rfl)
  | ((with_reducible refine quiet_step ?_ ?_); kernel_rfl)
  | (with_reducible refine jg (sD a.1 (-b.2) _ (gy hb.2) ha.1 (rJ hb.2)) (fun n1 q1 => ?_) (fun e1 q1 => ?_))
  | (with_reducible refine jg (sD a.2 (-b.1) _ (gy hb.1) ha.2 (rJ hb.1)) (fun n2 q2 => ?_) (fun e2 q2 => ?_))
  | ((with_reducible refine BJ (n1, n2) (Vh q1 q2) ?_); refine ⟨[], rfl, ?_, trivial⟩; conv => whnf)
  | ((with_reducible refine lC e1 (Vj q1) ?_); refine ⟨[], rfl, ?_, trivial⟩; conv => whnf)
  | ((with_reducible refine lC e2 (Vk q2) ?_); refine ⟨[], rfl, ?_, trivial⟩; conv => whnf)
  | ((with_reducible refine jm ?_ ?_ ?_ ?_); exact rfl; exact rfl; exact rfl)
  | ((with_reducible refine aA ?_ ?_); kernel_rfl)
  | ((with_reducible refine jW ?_ ?_); kernel_rfl)
  | (with_reducible refine And.intro ?_ ?_)
  | fail)
 all_goals first
  | (decide)
  | skip
theorem z3l (p : Pr) (found : List Sp) (x : Ex) (a b : Sp) (ha : inW a.1 = true ∧ inW a.2 = true) (hb : inW b.1 = true ∧ inW b.2 = true) : PCall Tryd.prog 89 [.ptr (fC p found), x.d, .sl 2 [[.i a.1, .i a.2], [.i b.1, .i b.2]]] (PL 30 (prodM a b)) := by
 refine ae tok hmix ⟨[], []⟩ Tryd.func89 rfl (by kernel_rfl) (by kernel_rfl) (by kernel_rfl) fun hf => ?_
 clear hf
 repeat' ((try (conv => whnf)) <;> first
  | ((refine fU _ _ _ [false, false, false, false, false, false, false, false, true, false, false, false, false, false, false, false, false, true, false, false, false, false, false, false, false, false, true, true, true, true, true] ?_ ?_ ?_); exact rfl; kernel_rfl)
  | ((refine fU _ _ _ [false, false, false, false, false, false, false, false, true, false, false, false, false, false, false, false, false, true, true, true, true, true] ?_ ?_ ?_); exact rfl; kernel_rfl)
  | ((refine fU _ _ _ [false, false, false, false, false, false, false, false, true, true, true, true, true] ?_ ?_ ?_); exact rfl; kernel_rfl)
  | ((refine fU _ _ _ [true, true, true, true] ?_ ?_ ?_); exact rfl; kernel_rfl)
  | ((with_reducible refine quiet_step ?_ ?_); kernel_rfl)
  | (with_reducible refine jg (sF a.1 b.1 ha.1 hb.1) (fun n1 q1 => ?_) (fun e1 q1 => ?_))
  | (with_reducible refine jg (sF a.1 b.2 ha.1 hb.2) (fun n2 q2 => ?_) (fun e2 q2 => ?_))
  | (with_reducible refine jg (sF a.2 b.1 ha.2 hb.1) (fun n3 q3 => ?_) (fun e3 q3 => ?_))
  | (with_reducible refine jg (sF a.2 b.2 ha.2 hb.2) (fun n4 q4 => ?_) (fun e4 q4 => ?_))
  | ((with_reducible refine BJ (Jv n1 n2 n3 n4, Jw n1 n2 n3 n4) (Xe q1 q2 q3 q4) ?_); refine ⟨[], rfl, ?_, trivial⟩; conv => whnf)
  | ((with_reducible refine lC e1 (vU (.inl q1)) ?_); refine ⟨[], rfl, ?_, trivial⟩; conv => whnf)
  | ((with_reducible refine lC e2 (vU (.inr (.inl q2))) ?_); refine ⟨[], rfl, ?_, trivial⟩; conv => whnf)
  | ((with_reducible refine lC e3 (vU (.inr (.inr (.inl q3)))) ?_); refine ⟨[], rfl, ?_, trivial⟩; conv => whnf)
  | ((with_reducible refine lC e4 (vU (.inr (.inr (.inr q4)))) ?_); refine ⟨[], rfl, ?_, trivial⟩; conv => whnf)
  | ((with_reducible refine jm ?_ ?_ ?_ ?_); exact rfl; exact rfl; exact rfl)
  | ((with_reducible refine aA ?_ ?_); kernel_rfl)
  | ((with_reducible refine jW ?_ ?_); kernel_rfl)
  | (with_reducible refine And.intro ?_ ?_)
  | fail)
 all_goals first
  | (rfl)
  | (decide)
  | skip
theorem z3m (p : Pr) (found : List Sp) (x : Ex) (a : Sp) (ha : inW a.1 = true) (hb : inW a.2 = true) (hn : 1 ≤ x.n) (hn2 : x.n ≤ 2147483648) : PCall Tryd.prog 91 [.ptr (fC p found), x.d, .sl 2 [[.i a.1, .i a.2]]] (.ret (Sp.d (nT a.1 x.n, nT a.2 x.n))) := by
 refine ae tok hmix ⟨[], []⟩ Tryd.func91 rfl (by kernel_rfl) (by kernel_rfl) (by kernel_rfl) fun hf => ?_
 clear hf
 repeat' ((try (conv => whnf)) <;> first
  | ((with_reducible refine jm ?_ ?_ ?_ ?_); exact rfl; exact rfl; exact rfl)
  | ((with_reducible refine aj ?_ ?_ ?_); rotate_left; (first | exact FD _ _ (by assumption) (by assumption) (by assumption) | exact FD a.1 x.n ha hn hn2))
  | ((with_reducible refine aA ?_ ?_); kernel_rfl)
  | ((with_reducible refine ai ?_); refine ⟨[], rfl, ?_, trivial⟩; conv => whnf)
  | (with_reducible refine And.intro ?_ ?_)
  | fail)
 all_goals first
  | (decide)
  | skip
theorem z3n (p : Pr) (found : List Sp) (x : Ex) (a b c d : Sp)  : PCall Tryd.prog 93 [.ptr (fC p found), x.d, .sl 2 [[.i a.1, .i a.2], [.i b.1, .i b.2], [.i c.1, .i c.2], [.i d.1, .i d.2]]] (.ret (Sp.d (mm2 false c.1 d.1, mm2 true c.2 d.2))) := by
 refine ae tok hmix ⟨[], []⟩ Tryd.func93 rfl (by kernel_rfl) (by kernel_rfl) (by kernel_rfl) fun hf => ?_
 clear hf
 repeat' ((try (conv => whnf)) <;> first
  | ((with_reducible refine jm ?_ ?_ ?_ ?_); exact rfl; exact rfl; exact rfl)
  | ((with_reducible refine aA ?_ ?_); kernel_rfl)
  | ((with_reducible refine ai ?_); refine ⟨[], rfl, ?_, trivial⟩; conv => whnf)
  | (with_reducible refine And.intro ?_ ?_)
  | fail)
 all_goals first
  | (decide)
  | skip
end Go.Proofs.YtogfjinopifenaaDoor
namespace Go.Proofs.YtogfjinopifenaaDoor
open Go.Fw Go.Fw.Rg
set_option maxRecDepth 10000
variable [af]
abbrev z1x : List D := [.val .nilFunc, .fn 73 [], .val .nilFunc, .fn 74 [], .fn 75 [], .fn 76 [], .fn 77 [], .fn 77 [], .fn 78 [], .fn 79 [], .fn 80 [], .fn 82 [], .fn 83 [], .fn 84 [], .fn 85 [], .fn 86 [], .fn 88 [], .fn 89 [], .fn 91 [], .fn 93 []]
def opF (k : Int) : Nat := match z1x.getD k.toNat (.val .nilFunc) with | .fn f _ => f | _ => 0
theorem yI   : PCall Tryd.prog 70 [] (.ret (.agg z1x)) := by
 refine ae tok hmix ⟨[], []⟩ Tryd.func70 rfl (by kernel_rfl) (by kernel_rfl) (by kernel_rfl) fun hf => ?_
 clear hf
 repeat' ((try (conv => whnf)) <;> first
  | ((with_reducible refine ai ?_); refine ⟨[], rfl, ?_, trivial⟩; conv => whnf)
  | fail)
 all_goals (try simp only [Bool.cond_true_left, Bool.cond_false_right, Bool.cond_false_left, Bool.cond_true_right, Bool.not_eq_true', Bool.not_eq_false', bne, Ex.css_len, List.length_map, Int.toNat_zero] at *)
 all_goals first
  | skip
theorem Q5 {p : Pr} {n : Nat} {k i m : Int} (hw : xY p n k i m = true) {q : D → Prop} (h : q (.fn (opF k) [])) : ∃ c, (0 ≤ k ∧ z1x[k.toNat]? = some c) ∧ q c := by
 rcases kinds hw with rfl | rfl | rfl | rfl | rfl | rfl | rfl | rfl | rfl | rfl | rfl | rfl | rfl | rfl | rfl | rfl | rfl | rfl <;> exact ⟨_, ⟨by decide, rfl⟩, h⟩
theorem z1y {p : Pr} {n : Nat} {k i m : Int} (hw : xY p n k i m = true) : Nat.beq (opF k) yQ = false := by
 rcases kinds hw with rfl | rfl | rfl | rfl | rfl | rfl | rfl | rfl | rfl | rfl | rfl | rfl | rfl | rfl | rfl | rfl | rfl | rfl <;> rfl
theorem UG {b : Bool} {p q : Prop} : b = false → p → (match b with | true => q | false => p) := by intro h h2; subst h; exact h2
theorem X8 (p : Pr) (found : List Sp) (x : Ex) (sl : List Sp) (hR : Rng p) (hT : ∀ t ∈ p.tables, t.values.length ≤ 1073741824) (hw : wfX p found.length x = true) (hl : sl.length = x.l.length) (hs : InS sl) :
  PCall Tryd.prog (opF x.kind) [.ptr (fC p found), x.d, .sl 2 (sl.map Sp.cs)] (PL 30 (opM p found x.kind x.index x.n sl)) := by
 obtain ⟨h1, h2, _⟩ := bY hw
 rw [← hl] at h1
 generalize hk : x.kind = k at h1 h2
 have nil : (sl.length : Int) = 0 → sl = [] := fun h => List.length_eq_zero_iff.1 (by omega)
 rcases kinds h2 with rfl | rfl | rfl | rfl | rfl | rfl | rfl | rfl | rfl | rfl | rfl | rfl | rfl | rfl | rfl | rfl | rfl | rfl
 ·obtain rfl := nil h1
  exact op1 p found x
 ·obtain rfl := nil h1
  have h2 : (decide (0 ≤ x.index) && decide (x.index < p.params.length)) = true := h2
  simp only [Bool.and_eq_true, decide_eq_true_eq] at h2
  exact op3 p found x h2.1 h2.2
 ·obtain rfl := nil h1
  have h2 : (decide (0 ≤ x.index) && decide (x.index < p.states.length)) = true := h2
  simp only [Bool.and_eq_true, decide_eq_true_eq] at h2
  exact op4 p found x h2.1 h2.2
 ·obtain rfl := nil h1
  have h2 : (decide (0 ≤ x.index) && decide (x.index < found.length)) = true := h2
  simp only [Bool.and_eq_true, decide_eq_true_eq] at h2
  exact op5 p found x h2.1 h2.2
 ·obtain ⟨a, rfl⟩ := xZ (sl := sl) (by have h1 : (sl.length : Int) = 1 := h1; omega)
  show PCall Tryd.prog _ _ (PL _ (aheadM a))
  unfold aheadM
  cases hc : (decide (a.1 < 0) || decide (a.2 > 4096)) with
  | true => exact Q4 p found x a hc
  | false => exact VP p found x a hc
 ·obtain ⟨a, rfl⟩ := xZ (sl := sl) (by have h1 : (sl.length : Int) = 1 := h1; omega)
  show PCall Tryd.prog _ _ (PL _ (aheadM a))
  unfold aheadM
  cases hc : (decide (a.1 < 0) || decide (a.2 > 4096)) with
  | true => exact Q4 p found x a hc
  | false => exact VP p found x a hc
 ·have h1 : (sl.length : Int) = 1 := h1
  have h2 : (decide (0 ≤ x.index) && decide (x.index < p.lines.length)) = true := h2
  simp only [Bool.and_eq_true, decide_eq_true_eq] at h2
  obtain ⟨a, rfl⟩ := xZ (sl := sl) (by omega)
  exact op8 p found x a h2.1 h2.2
 ·have h1 : (sl.length : Int) = 1 := h1
  have h2 : (decide (0 ≤ x.index) && decide (x.index < p.tables.length) && !(aC p x.index == [])) = true := h2
  simp only [Bool.and_eq_true, decide_eq_true_eq] at h2
  obtain ⟨a, rfl⟩ := xZ (sl := sl) (by omega)
  have h3 : aC p x.index ≠ [] := by simpa using h2.2
  exact op9 p found x a h2.1.1 h2.1.2 (List.length_pos_iff.2 h3) (hT _ (getD_mem' Rg.Tb.none h2.1.1 h2.1.2))
 ·obtain ⟨a, rfl⟩ := xZ (sl := sl) (by have h1 : (sl.length : Int) = 1 := h1; omega)
  exact z3e p found x a
 ·obtain ⟨a, b, rfl⟩ := PO (sl := sl) (by have h1 : (sl.length : Int) = 2 := h1; omega)
  exact z3f p found x a b
 ·obtain ⟨a, b, rfl⟩ := PO (sl := sl) (by have h1 : (sl.length : Int) = 2 := h1; omega)
  exact z3g p found x a b
 ·obtain ⟨a, rfl⟩ := xZ (sl := sl) (by have h1 : (sl.length : Int) = 1 := h1; omega)
  exact z3h p found x a (hs a (by simp)).1 (hs a (by simp)).2
 ·obtain ⟨a, rfl⟩ := xZ (sl := sl) (by have h1 : (sl.length : Int) = 1 := h1; omega)
  exact z3i p found x a (hs a (by simp)).1 (hs a (by simp)).2
 ·obtain ⟨a, b, rfl⟩ := PO (sl := sl) (by have h1 : (sl.length : Int) = 2 := h1; omega)
  exact z3j p found x a b (hs a (by simp)) (hs b (by simp))
 ·obtain ⟨a, b, rfl⟩ := PO (sl := sl) (by have h1 : (sl.length : Int) = 2 := h1; omega)
  exact z3k p found x a b (hs a (by simp)) (hs b (by simp))
 ·obtain ⟨a, b, rfl⟩ := PO (sl := sl) (by have h1 : (sl.length : Int) = 2 := h1; omega)
  exact z3l p found x a b (hs a (by simp)) (hs b (by simp))
 ·obtain ⟨a, rfl⟩ := xZ (sl := sl) (by have h1 : (sl.length : Int) = 1 := h1; omega)
  have h2 : (decide (1 ≤ x.n) && decide (x.n ≤ 2147483648)) = true := h2
  simp only [Bool.and_eq_true, decide_eq_true_eq] at h2
  exact z3m p found x a (hs a (by simp)).1 (hs a (by simp)).2 h2.1 h2.2
 ·obtain ⟨a, b, c, d, rfl⟩ := z1c (sl := sl) (by have h1 : (sl.length : Int) = 4 := h1; omega)
  exact z3n p found x a b c d
theorem uy (x : Ex) (p : Pr) (found : List Sp) (hR : Rng p) (hF : InS found) (hT : ∀ t ∈ p.tables, t.values.length ≤ 1073741824) (hx : Ref15.nodes x ≤ 1073741824) (hw : wfX p found.length x = true) : PCall Tryd.prog 62 [.ptr (fC p found), x.d] (PL 30 (bJ p found x)) := by
 revert x; refine Ex.ind fun x ih hx hw => ?_
 refine ae tok hmix ⟨[], []⟩ Tryd.func62 rfl (by kernel_rfl) (by kernel_rfl) (by kernel_rfl) fun hf => ?_
 have hN := Ref15.nodes_eq x
 have hL := Ref15.len_nodes x.l
 have hlen : x.l.length ≤ 9223372036854775807 := by omega
 obtain ⟨g1, g2, g3⟩ := bY hw
 clear hf
 repeat' ((try (conv => whnf)) <;> first
  | ((refine fU _ _ _ [true] ?_ ?_ ?_); exact rfl; kernel_rfl)
  | ((with_reducible refine quiet_step ?_ ?_); kernel_rfl)
  | (with_reducible refine JB (ih x0 (bV hd0) (by have := nU (bV hd0); omega) (lw g3 _ (bV hd0))) (fun s1 q1 => ?_) (fun e1 q1 => ?_))
  | (with_reducible refine JB (X8 p found x sl hR hT hw (EF (vW hI0.1).2) (TM hR hF g3 (vW hI0.1).2)) (fun s2 q2 => ?_) (fun e2 q2 => ?_))
  | ((with_reducible refine BJ s2 ((vW hI0.1).1.trans q2) ?_); refine ⟨[], rfl, ?_, trivial⟩; conv => whnf)
  | ((with_reducible refine lC e2 ((vW hI0.1).1.trans q2) ?_); refine ⟨[], rfl, ?_, trivial⟩; conv => whnf)
  | ((with_reducible refine lC e1 (TN hI0.1 q1) ?_); refine ⟨[], rfl, ?_, trivial⟩; conv => whnf)
  | (with_reducible refine Q5 g2 ?_)
  | (refine UG (z1y g2) ?_)
  | with_reducible exact trivial
  | with_reducible exact ax hd0 ‹_›
  | with_reducible refine kM hd0 ?_
  | with_reducible refine iG hd0 ?_
  | ((with_reducible refine aI.mk 0 ?_); refine ⟨aP (x.l) 11 (fun (sl : (List Sp)) => [(5, .gs 900005 2 (sl.map Sp.cs))]) (fun (sl : (List Sp)) => [(900005, .tok 2 (sl.map Sp.cs).length)]) [0, 3, 4, 9, 10] (fun i0 r0 sl => pre sl (bD p found r0) = bD p found x.l ∧ sl.length = i0), ?_⟩; with_reducible refine ag [] ?_ ?_ (fun i0 (sl : (List Sp)) hd0 hI0 => ?_) (fun i0 x0 r0 (sl : (List Sp)) hd0 hl0 hI0 => ?_))
  | (with_reducible refine ah hd0 (sl ++ [s1]) ?_ ?_)
  | ((with_reducible refine aj ?_ ?_ ?_); rotate_left; (exact yI))
  | (with_reducible refine bH.l _ ?_)
  | ((with_reducible refine eF ?_ ?_ ?_ ?_ ?_ ?_) <;> exact rfl)
  | ((with_reducible refine gp ?_ ?_ ?_ ?_) <;> exact rfl)
  | ((with_reducible refine aJ ?_ ?_ ?_ ?_ ?_); exact rfl; exact rfl; rotate_left; (with_reducible exact eu hd0))
  | ((with_reducible refine aW ?_ ?_); exact rfl)
  | ((with_reducible refine app_step' ?_ ?_ ?_ ?_ ?_ ?_ ?_); exact rfl; exact rfl; exact rfl; exact rfl)
  | ((with_reducible refine aA ?_ ?_); kernel_rfl)
  | ((with_reducible refine jW ?_ ?_); kernel_rfl)
  | (with_reducible refine And.intro ?_ ?_)
  | ((with_reducible refine uX ?_ ?_ ?_); exact rfl; exact rfl; (first | exact iH | skip))
  | ((with_reducible refine pg ?_ ?_); exact rfl; (first | exact iH | skip))
  | exact @rfl AV _
  | exact kN rfl
  | fail)
 all_goals first
  | (rfl)
  | ((exact pre_nil _))
  | ((exact PN hI0.1 q1))
  | ((rw [List.length_append, hI0.2]; rfl))
  | ((rw [List.length_map]; omega))
  | skip
end Go.Proofs.YtogfjinopifenaaDoor
