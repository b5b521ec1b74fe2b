/- Contracts: package ranges: numbers. -/
import Derived.Test.YtogfjinopifenaaDoorZK6
import Derived.Test.YtogfjinopifenaaDoorZRA
set_option linter.unusedSectionVars false
set_option linter.unusedSimpArgs false
set_option linter.unusedVariables false
set_option maxHeartbeats 400000
namespace Go.Proofs.YtogfjinopifenaaDoor
open Go.Fw Go.Fw.Rg
set_option maxRecDepth 10000
variable [GlobInt]
theorem Bl (x : Int)  : PCall Tryd.prog 81 [.i x] (.ret (.i (jl x))) := by
 refine pcall_of_wc tok hmix ⟨[], []⟩ Tryd.func81 rfl (by kernel_rfl) (by kernel_rfl) (by kernel_rfl) fun hf => ?_
 clear hf
 repeat' ((try (conv => whnf)) <;> first
  | with_reducible refine BrI.intro (fun h => ?_) (fun h => ?_)
  | ((with_reducible refine ag ?_); refine ⟨[], rfl, ?_, trivial⟩; conv => whnf)
  | fail)
 all_goals first
  | ((refine congrArg D.i ?_; unfold jl; simp only [decide_eq_true_eq, decide_eq_false_iff_not] at *; (repeat' split) <;> omega))
  | skip
theorem tJ (a n : Int) (ha : inW a = true) (hn : 1 ≤ n) (hn2 : n ≤ 2147483648) : PCall Tryd.prog 92 [.i a, .i n] (.ret (.i (iW a n))) := by
 refine pcall_of_wc tok hmix ⟨[], []⟩ Tryd.func92 rfl (by kernel_rfl) (by kernel_rfl) (by kernel_rfl) fun hf => ?_
 clear hf
 repeat' ((try (conv => whnf)) <;> first
  | with_reducible refine BrI.intro (fun h => ?_) (fun h => ?_)
  | ((with_reducible refine ag ?_); refine ⟨[], rfl, ?_, trivial⟩; conv => whnf)
  | (with_reducible refine And.intro ?_ ?_)
  | fail)
 all_goals first
  | (omega)
  | ((exact congrArg D.i (CB hn hn2 ha (of_decide_eq_true h))))
  | ((exact congrArg D.i (CE hn ha (of_decide_eq_false h))))
  | skip
theorem wZ (a b : Int) (hc : JU a b = false) (hw : IntKind.i64.wrap (a + b) = a + b) : PCall Tryd.prog 87 [.i a, .i b] (.ret (.i (a + b))) := by
 refine pcall_of_wc tok hmix ⟨[], []⟩ Tryd.func87 rfl (by kernel_rfl) (by kernel_rfl) (by kernel_rfl) fun hf => ?_
 clear hf
 repeat' ((try (conv => whnf)) <;> first
  | with_reducible refine BrI.intro (fun h => ?_) (fun h => ?_)
  | (exact Bool.noConfusion (hc.symm.trans h))
  | ((with_reducible refine ag ?_); refine ⟨[], rfl, ?_, trivial⟩; conv => whnf)
  | fail)
 all_goals (try simp only [Bool.cond_true_left, Bool.cond_false_right, Bool.cond_false_left, Bool.cond_true_right, Bool.not_eq_true', Bool.not_eq_false', bne, Ex.css_len, List.length_map, Int.toNat_zero] at *)
 all_goals first
  | ((exact congrArg D.i hw))
  | skip
theorem add_bad (a b : Int) (hc : JU a b = true) : PCall Tryd.prog 87 [.i a, .i b] (.pan (.iface 30 (.i 160))) := by
 refine pcall_of_wc tok hmix ⟨[], []⟩ Tryd.func87 rfl (by kernel_rfl) (by kernel_rfl) (by kernel_rfl) fun hf => ?_
 clear hf
 repeat' ((try (conv => whnf)) <;> first
  | with_reducible refine BrI.intro (fun h => ?_) (fun h => ?_)
  | (exact Bool.noConfusion (hc.symm.trans h))
  | ((with_reducible refine lw ?_); refine ⟨[], rfl, ?_, trivial⟩; conv => whnf)
  | fail)
 all_goals (try simp only [Bool.cond_true_left, Bool.cond_false_right, Bool.cond_false_left, Bool.cond_true_right, Bool.not_eq_true', Bool.not_eq_false', bne, Ex.css_len, List.length_map, Int.toNat_zero] at *)
 all_goals first
  | skip
theorem G8 (n : Int) (f : Bool) (hc : xP n f = false) : PCall Tryd.prog 98 [.i n, .b f] (.ret (.i n)) := by
 refine pcall_of_wc tok hmix ⟨[], []⟩ Tryd.func98 rfl (by kernel_rfl) (by kernel_rfl) (by kernel_rfl) fun hf => ?_
 clear hf
 repeat' ((try (conv => whnf)) <;> first
  | with_reducible refine BrI.intro (fun h => ?_) (fun h => ?_)
  | (exact Bool.noConfusion (hc.symm.trans h))
  | ((with_reducible refine ag ?_); refine ⟨[], rfl, ?_, trivial⟩; conv => whnf)
  | fail)
 all_goals (try simp only [Bool.cond_true_left, Bool.cond_false_right, Bool.cond_false_left, Bool.cond_true_right, Bool.not_eq_true', Bool.not_eq_false', bne, Ex.css_len, List.length_map, Int.toNat_zero] at *)
 all_goals first
  | skip
theorem DV (n : Int) (f : Bool) (hc : xP n f = true) : PCall Tryd.prog 98 [.i n, .b f] (.pan (.iface 30 (.i 160))) := by
 refine pcall_of_wc tok hmix ⟨[], []⟩ Tryd.func98 rfl (by kernel_rfl) (by kernel_rfl) (by kernel_rfl) fun hf => ?_
 clear hf
 repeat' ((try (conv => whnf)) <;> first
  | with_reducible refine BrI.intro (fun h => ?_) (fun h => ?_)
  | (exact Bool.noConfusion (hc.symm.trans h))
  | ((with_reducible refine lw ?_); refine ⟨[], rfl, ?_, trivial⟩; conv => whnf)
  | fail)
 all_goals (try simp only [Bool.cond_true_left, Bool.cond_false_right, Bool.cond_false_left, Bool.cond_true_right, Bool.not_eq_true', Bool.not_eq_false', bne, Ex.css_len, List.length_map, Int.toNat_zero] at *)
 all_goals first
  | skip
theorem mul_zero (a b : Int) (hz : Ej a b = true) : PCall Tryd.prog 90 [.i a, .i b] (.ret (.i 0)) := by
 refine pcall_of_wc tok hmix ⟨[], []⟩ Tryd.func90 rfl (by kernel_rfl) (by kernel_rfl) (by kernel_rfl) fun hf => ?_
 clear hf
 repeat' ((try (conv => whnf)) <;> first
  | with_reducible refine BrI.intro (fun h => ?_) (fun h => ?_)
  | (exact Bool.noConfusion (hz.symm.trans h))
  | ((with_reducible refine ag ?_); refine ⟨[], rfl, ?_, trivial⟩; conv => whnf)
  | fail)
 all_goals (try simp only [Bool.cond_true_left, Bool.cond_false_right, Bool.cond_false_left, Bool.cond_true_right, Bool.not_eq_true', Bool.not_eq_false', bne, Ex.css_len, List.length_map, Int.toNat_zero] at *)
 all_goals first
  | skip
theorem Jw (a b : Int) (hz : Ej a b = false) (hb : b ≠ 0) (hq : mm2 true b (IntKind.i64.wrap (0 - b)) ≠ 0) (hw : xP (IntKind.i64.wrap (a * b)) (IA a b) = false) : PCall Tryd.prog 90 [.i a, .i b] (.ret (.i (IntKind.i64.wrap (a * b)))) := by
 refine pcall_of_wc tok hmix ⟨[], []⟩ Tryd.func90 rfl (by kernel_rfl) (by kernel_rfl) (by kernel_rfl) fun hf => ?_
 clear hf
 repeat' ((try (conv => whnf)) <;> first
  | with_reducible refine BrI.intro (fun h => ?_) (fun h => ?_)
  | (exact Bool.noConfusion (hz.symm.trans h))
  | ((with_reducible refine ah ?_ ?_ ?_); rotate_left; (exact G8 _ _ hw))
  | ((with_reducible refine aU ?_ ?_ (fun hg => ?_) ?_); exact rfl)
  | ((with_reducible refine bD ?_ ?_); with_reducible exact rfl; with_reducible exact rfl)
  | ((with_reducible refine bV ?_ ?_); with_reducible exact rfl)
  | ((with_reducible refine ag ?_); refine ⟨[], rfl, ?_, trivial⟩; conv => whnf)
  | (with_reducible refine And.intro ?_ ?_)
  | fail)
 all_goals first
  | ((exact hb))
  | ((exact hq))
  | skip
theorem G9 (a b : Int) (hz : Ej a b = false) (hb : b ≠ 0) (hq : mm2 true b (IntKind.i64.wrap (0 - b)) ≠ 0) (hw : xP (IntKind.i64.wrap (a * b)) (IA a b) = true) : PCall Tryd.prog 90 [.i a, .i b] (.pan (.iface 30 (.i 160))) := by
 refine pcall_of_wc tok hmix ⟨[], []⟩ Tryd.func90 rfl (by kernel_rfl) (by kernel_rfl) (by kernel_rfl) fun hf => ?_
 clear hf
 repeat' ((try (conv => whnf)) <;> first
  | with_reducible refine BrI.intro (fun h => ?_) (fun h => ?_)
  | (exact Bool.noConfusion (hz.symm.trans h))
  | ((with_reducible refine ah ?_ ?_ ?_); rotate_left; (exact DV _ _ hw))
  | ((with_reducible refine aU ?_ ?_ (fun hg => ?_) ?_); exact rfl)
  | ((with_reducible refine bD ?_ ?_); with_reducible exact rfl; with_reducible exact rfl)
  | ((with_reducible refine lw ?_); refine ⟨[], rfl, ?_, trivial⟩; conv => whnf)
  | (with_reducible refine And.intro ?_ ?_)
  | fail)
 all_goals first
  | ((exact hb))
  | ((exact hq))
  | skip
end Go.Proofs.YtogfjinopifenaaDoor
namespace Go.Proofs.YtogfjinopifenaaDoor
open Go.Fw Go.Fw.Rg
set_option maxRecDepth 10000
variable [GlobInt]
abbrev fC (p : Pr) (found : List Sp) : List D := [.str p.name, .i p.latency, .i p.tail, .sl 3 (p.params.map Bd.cs), .sl 3 (p.states.map Bd.cs), .sl 4 (p.lines.map Ln.cs), .sl 2 (p.tables.map Tb.cs), .sl 8 (p.stmts.map Sm.cs), .sl 2 (found.map Sp.cs)]
theorem jY (a b c : Int) (hc : c = b) (ha : inW a = true) (hb : inW b = true) : PCall Tryd.prog 87 [.i a, .i c] (JV 30 (okW (a + b))) := by
 subst hc
 unfold okW
 cases hw : inW (a + c) with
 | true => exact wZ a c (by rw [zl ha hb, hw]; rfl) (iJ hw)
 | false => exact add_bad a c (by rw [zl ha hb, hw]; rfl)
theorem jZ (a b : Int) (ha : inW a = true) (hb : inW b = true) : PCall Tryd.prog 90 [.i a, .i b] (JV 30 (okW (a * b))) := by
 cases hz : Ej a b with
 | true => rw [FK hz]; exact mul_zero a b hz
 | false =>
  have hb0 := FM hz
  have hq : mm2 true b (IntKind.i64.wrap (0 - b)) ≠ 0 := by rw [dB hb, uy]; omega
  unfold okW
  cases hw : inW (a * b) with
  | true =>
   have := Jw a b hz hb0 hq (by rw [vY ha hb hb0, hw]; rfl)
   rw [iJ hw] at this; exact this
  | false => exact G9 a b hz hb0 hq (by rw [vY ha hb hb0, hw]; rfl)
theorem op1 (p : Pr) (found : List Sp) (x : Ex)  : PCall Tryd.prog 73 [.ptr (fC p found), x.d, .sl 2 []] (.ret (Sp.d (x.n, x.n))) := by
 refine pcall_of_wc tok hmix ⟨[], []⟩ Tryd.func73 rfl (by kernel_rfl) (by kernel_rfl) (by kernel_rfl) fun hf => ?_
 clear hf
 repeat' ((try (conv => whnf)) <;> first
  | ((with_reducible refine ag ?_); refine ⟨[], rfl, ?_, trivial⟩; conv => whnf)
  | fail)
 all_goals first
  | skip
theorem op3 (p : Pr) (found : List Sp) (x : Ex) (h0 : 0 ≤ x.index) (h1 : x.index < p.params.length) : PCall Tryd.prog 74 [.ptr (fC p found), x.d, .sl 2 []] (.ret (Sp.d ((dD p x.index).lo, (dD p x.index).hi))) := by
 refine pcall_of_wc tok hmix ⟨[], []⟩ Tryd.func74 rfl (by kernel_rfl) (by kernel_rfl) (by kernel_rfl) fun hf => ?_
 clear hf
 repeat' ((try (conv => whnf)) <;> first
  | ((with_reducible refine fM Rg.Bd.none ?_ ?_ h0 h1 ?_); exact rfl; exact rfl)
  | ((with_reducible refine au ?_ ?_); kernel_rfl)
  | ((with_reducible refine ag ?_); refine ⟨[], rfl, ?_, trivial⟩; conv => whnf)
  | fail)
 all_goals first
  | skip
theorem op4 (p : Pr) (found : List Sp) (x : Ex) (h0 : 0 ≤ x.index) (h1 : x.index < p.states.length) : PCall Tryd.prog 75 [.ptr (fC p found), x.d, .sl 2 []] (.ret (Sp.d ((aH p x.index).lo, (aH p x.index).hi))) := by
 refine pcall_of_wc tok hmix ⟨[], []⟩ Tryd.func75 rfl (by kernel_rfl) (by kernel_rfl) (by kernel_rfl) fun hf => ?_
 clear hf
 repeat' ((try (conv => whnf)) <;> first
  | ((with_reducible refine fM Rg.Bd.none ?_ ?_ h0 h1 ?_); exact rfl; exact rfl)
  | ((with_reducible refine au ?_ ?_); kernel_rfl)
  | ((with_reducible refine ag ?_); refine ⟨[], rfl, ?_, trivial⟩; conv => whnf)
  | fail)
 all_goals first
  | skip
theorem op5 (p : Pr) (found : List Sp) (x : Ex) (h0 : 0 ≤ x.index) (h1 : x.index < found.length) : PCall Tryd.prog 76 [.ptr (fC p found), x.d, .sl 2 []] (.ret (Sp.d (found.getD x.index.toNat (0, 0)))) := by
 refine pcall_of_wc tok hmix ⟨[], []⟩ Tryd.func76 rfl (by kernel_rfl) (by kernel_rfl) (by kernel_rfl) fun hf => ?_
 clear hf
 repeat' ((try (conv => whnf)) <;> first
  | ((with_reducible refine fM ((0, 0) : Sp) ?_ ?_ h0 h1 ?_); exact rfl; exact rfl)
  | ((with_reducible refine aK ?_ ?_); exact rfl)
  | ((with_reducible refine au ?_ ?_); kernel_rfl)
  | ((with_reducible refine ag ?_); refine ⟨[], rfl, ?_, trivial⟩; conv => whnf)
  | fail)
 all_goals first
  | skip
theorem EZ (p : Pr) (found : List Sp) (x : Ex) (a : Sp) (hc : (decide (a.1 < 0) || decide (a.2 > 4096)) = false) : PCall Tryd.prog 77 [.ptr (fC p found), x.d, .sl 2 [[.i a.1, .i a.2]]] (.ret (Sp.d (-2147483648, 2147483647))) := by
 refine pcall_of_wc tok hmix ⟨[], []⟩ Tryd.func77 rfl (by kernel_rfl) (by kernel_rfl) (by kernel_rfl) fun hf => ?_
 clear hf
 repeat' ((try (conv => whnf)) <;> first
  | with_reducible refine BrI.intro (fun h => ?_) (fun h => ?_)
  | (exact Bool.noConfusion (hc.symm.trans ((rE _ _).symm.trans h)))
  | ((with_reducible refine eH ?_ ?_ ?_ ?_); exact rfl; exact rfl; exact rfl)
  | ((with_reducible refine aK ?_ ?_); exact rfl)
  | ((with_reducible refine aU ?_ ?_ (fun hg => ?_) ?_); exact rfl)
  | ((with_reducible refine bD ?_ ?_); with_reducible exact rfl; with_reducible exact rfl)
  | ((with_reducible refine ag ?_); refine ⟨[], rfl, ?_, trivial⟩; conv => whnf)
  | (with_reducible refine And.intro ?_ ?_)
  | fail)
 all_goals first
  | (decide)
  | skip
theorem Bo (p : Pr) (found : List Sp) (x : Ex) (a : Sp) (hc : (decide (a.1 < 0) || decide (a.2 > 4096)) = true) : PCall Tryd.prog 77 [.ptr (fC p found), x.d, .sl 2 [[.i a.1, .i a.2]]] (.pan (.iface 30 (.i 161))) := by
 refine pcall_of_wc tok hmix ⟨[], []⟩ Tryd.func77 rfl (by kernel_rfl) (by kernel_rfl) (by kernel_rfl) fun hf => ?_
 clear hf
 repeat' ((try (conv => whnf)) <;> first
  | with_reducible refine BrI.intro (fun h => ?_) (fun h => ?_)
  | (exact Bool.noConfusion (hc.symm.trans ((rE _ _).symm.trans h)))
  | ((with_reducible refine eH ?_ ?_ ?_ ?_); exact rfl; exact rfl; exact rfl)
  | ((with_reducible refine aU ?_ ?_ (fun hg => ?_) ?_); exact rfl)
  | ((with_reducible refine bD ?_ ?_); with_reducible exact rfl; with_reducible exact rfl)
  | ((with_reducible refine lw ?_); refine ⟨[], rfl, ?_, trivial⟩; conv => whnf)
  | (with_reducible refine And.intro ?_ ?_)
  | fail)
 all_goals first
  | (decide)
  | skip
theorem op8 (p : Pr) (found : List Sp) (x : Ex) (a : Sp) (h0 : 0 ≤ x.index) (h1 : x.index < p.lines.length) : PCall Tryd.prog 78 [.ptr (fC p found), x.d, .sl 2 [[.i a.1, .i a.2]]] (.ret (Sp.d (mm2 false (aI p x.index).lo 0, mm2 true (aI p x.index).hi 0))) := by
 refine pcall_of_wc tok hmix ⟨[], []⟩ Tryd.func78 rfl (by kernel_rfl) (by kernel_rfl) (by kernel_rfl) fun hf => ?_
 clear hf
 repeat' ((try (conv => whnf)) <;> first
  | ((with_reducible refine fM Rg.Ln.none ?_ ?_ h0 h1 ?_); exact rfl; exact rfl)
  | ((with_reducible refine au ?_ ?_); kernel_rfl)
  | ((with_reducible refine ag ?_); refine ⟨[], rfl, ?_, trivial⟩; conv => whnf)
  | fail)
 all_goals first
  | skip
theorem op9 (p : Pr) (found : List Sp) (x : Ex) (a : Sp) (h0 : 0 ≤ x.index) (h1 : x.index < p.tables.length) (hv : 0 < (ax p x.index).length) (hvl : (ax p x.index).length ≤ 1073741824) : PCall Tryd.prog 79 [.ptr (fC p found), x.d, .sl 2 [[.i a.1, .i a.2]]] (.ret (Sp.d (minL ((ax p x.index).getD 0 0) (ax p x.index), maxL ((ax p x.index).getD 0 0) (ax p x.index)))) := by
 refine pcall_of_wc tok hmix ⟨[], []⟩ Tryd.func79 rfl (by kernel_rfl) (by kernel_rfl) (by kernel_rfl) fun hf => ?_
 have hlen : (ax p x.index).length ≤ 9223372036854775807 := by omega
 clear hf
 repeat' ((try (conv => whnf)) <;> first
  | with_reducible exact trivial
  | with_reducible exact ak hd0 ‹_›
  | with_reducible refine aX hd0 ?_
  | with_reducible refine aP hd0 ?_
  | ((with_reducible refine fM Rg.Tb.none ?_ ?_ h0 h1 ?_); exact rfl; exact rfl)
  | ((with_reducible refine fM (f := Ik) (n := 0) (0 : Int) ?_ ?_ ?_ ?_ ?_); exact rfl; exact rfl; exact Int.le_refl _; exact Int.ofNat_lt.2 hv)
  | ((with_reducible refine LoopAt.mk 0 ?_); refine ⟨aF ((ax p x.index)) 30 (fun (q : (Int) × (Int)) => match q with | (lo, hi) => []) (fun (q : (Int) × (Int)) => match q with | (lo, hi) => [(8, .cells [.data (.i lo), .data (.i hi)])]) [6, 8, 28, 29] (fun i0 r0 q => match q with | (lo, hi) => minL ((ax p x.index).getD 0 0) (ax p x.index) = minL lo r0 ∧ maxL ((ax p x.index).getD 0 0) (ax p x.index) = maxL hi r0), ?_⟩; with_reducible refine ae (((ax p x.index).getD 0 0), ((ax p x.index).getD 0 0)) ?_ ?_ (fun i0 ⟨lo, hi⟩ hd0 hI0 => ?_) (fun i0 x0 r0 ⟨lo, hi⟩ hd0 hl0 hI0 => ?_))
  | (with_reducible refine af hd0 ((mm2 false lo x0), (mm2 true hi x0)) ?_ ?_)
  | ((with_reducible refine aB ?_ ?_ ?_ ?_ ?_); exact rfl; exact rfl; rotate_left; (with_reducible exact az hd0))
  | ((with_reducible refine au ?_ ?_); kernel_rfl)
  | ((with_reducible refine ag ?_); refine ⟨[], rfl, ?_, trivial⟩; conv => whnf)
  | (with_reducible refine And.intro ?_ ?_)
  | exact @rfl AV _
  | fail)
 all_goals first
  | (rfl)
  | (decide)
  | ((exact hI0.1))
  | ((exact hI0.2))
  | ((rw [hI0.1, hI0.2]; rfl))
  | skip
theorem Lt (p : Pr) (found : List Sp) (x : Ex) (a : Sp)  : PCall Tryd.prog 80 [.ptr (fC p found), x.d, .sl 2 [[.i a.1, .i a.2]]] (.ret (Sp.d (jl a.1, jl a.2))) := by
 refine pcall_of_wc tok hmix ⟨[], []⟩ Tryd.func80 rfl (by kernel_rfl) (by kernel_rfl) (by kernel_rfl) fun hf => ?_
 clear hf
 repeat' ((try (conv => whnf)) <;> first
  | ((with_reducible refine eH ?_ ?_ ?_ ?_); exact rfl; exact rfl; exact rfl)
  | ((with_reducible refine ah ?_ ?_ ?_); rotate_left; (exact Bl _))
  | ((with_reducible refine au ?_ ?_); kernel_rfl)
  | ((with_reducible refine ag ?_); refine ⟨[], rfl, ?_, trivial⟩; conv => whnf)
  | (with_reducible refine And.intro ?_ ?_)
  | fail)
 all_goals first
  | (decide)
  | skip
theorem Lu (p : Pr) (found : List Sp) (x : Ex) (a b : Sp)  : PCall Tryd.prog 82 [.ptr (fC p found), x.d, .sl 2 [[.i a.1, .i a.2], [.i b.1, .i b.2]]] (.ret (Sp.d (mm2 false a.1 b.1, mm2 false a.2 b.2))) := by
 refine pcall_of_wc tok hmix ⟨[], []⟩ Tryd.func82 rfl (by kernel_rfl) (by kernel_rfl) (by kernel_rfl) fun hf => ?_
 clear hf
 repeat' ((try (conv => whnf)) <;> first
  | ((with_reducible refine eH ?_ ?_ ?_ ?_); exact rfl; exact rfl; exact rfl)
  | ((with_reducible refine au ?_ ?_); kernel_rfl)
  | ((with_reducible refine ag ?_); refine ⟨[], rfl, ?_, trivial⟩; conv => whnf)
  | (with_reducible refine And.intro ?_ ?_)
  | fail)
 all_goals first
  | (decide)
  | skip
theorem LC (p : Pr) (found : List Sp) (x : Ex) (a b : Sp)  : PCall Tryd.prog 83 [.ptr (fC p found), x.d, .sl 2 [[.i a.1, .i a.2], [.i b.1, .i b.2]]] (.ret (Sp.d (mm2 true a.1 b.1, mm2 true a.2 b.2))) := by
 refine pcall_of_wc tok hmix ⟨[], []⟩ Tryd.func83 rfl (by kernel_rfl) (by kernel_rfl) (by kernel_rfl) fun hf => ?_
 clear hf
 repeat' ((try (conv => whnf)) <;> first
  | ((with_reducible refine eH ?_ ?_ ?_ ?_); exact rfl; exact rfl; exact rfl)
  | ((with_reducible refine au ?_ ?_); kernel_rfl)
  | ((with_reducible refine ag ?_); refine ⟨[], rfl, ?_, trivial⟩; conv => whnf)
  | (with_reducible refine And.intro ?_ ?_)
  | fail)
 all_goals first
  | (decide)
  | skip
theorem LD (p : Pr) (found : List Sp) (x : Ex) (a : Sp) (ha : inW a.1 = true) (hb : inW a.2 = true) : PCall Tryd.prog 84 [.ptr (fC p found), x.d, .sl 2 [[.i a.1, .i a.2]]] (.ret (Sp.d (zk a))) := by
 refine pcall_of_wc tok hmix ⟨[], []⟩ Tryd.func84 rfl (by kernel_rfl) (by kernel_rfl) (by kernel_rfl) fun hf => ?_
 clear hf
 repeat' ((try (conv => whnf)) <;> first
  | with_reducible refine BrI.intro (fun h => ?_) (fun h => ?_)
  | ((with_reducible refine eH ?_ ?_ ?_ ?_); exact rfl; exact rfl; exact rfl)
  | ((with_reducible refine aK ?_ ?_); exact rfl)
  | ((with_reducible refine au ?_ ?_); kernel_rfl)
  | ((with_reducible refine ag ?_); refine ⟨[], rfl, ?_, trivial⟩; conv => whnf)
  | (with_reducible refine And.intro ?_ ?_)
  | fail)
 all_goals first
  | (decide)
  | ((refine congrArg Sp.d ?_; unfold zk; rw [if_pos (of_decide_eq_true h)]; done))
  | ((unfold zk; rw [if_neg (of_decide_eq_false ‹decide (a.1 ≥ 0) = false›), if_pos (of_decide_eq_true h), dB ha, dB hb]; done))
  | ((unfold zk; rw [if_neg (of_decide_eq_false ‹decide (a.1 ≥ 0) = false›), if_neg (of_decide_eq_false h), dB ha]; done))
  | skip
theorem LG (p : Pr) (found : List Sp) (x : Ex) (a : Sp) (ha : inW a.1 = true) (hb : inW a.2 = true) : PCall Tryd.prog 85 [.ptr (fC p found), x.d, .sl 2 [[.i a.1, .i a.2]]] (.ret (Sp.d (-a.2, -a.1))) := by
 refine pcall_of_wc tok hmix ⟨[], []⟩ Tryd.func85 rfl (by kernel_rfl) (by kernel_rfl) (by kernel_rfl) fun hf => ?_
 clear hf
 repeat' ((try (conv => whnf)) <;> first
  | ((with_reducible refine eH ?_ ?_ ?_ ?_); exact rfl; exact rfl; exact rfl)
  | ((with_reducible refine au ?_ ?_); kernel_rfl)
  | ((with_reducible refine ag ?_); refine ⟨[], rfl, ?_, trivial⟩; conv => whnf)
  | (with_reducible refine And.intro ?_ ?_)
  | fail)
 all_goals first
  | (decide)
  | ((rw [dB ha, dB hb]; done))
  | skip
theorem LH (p : Pr) (found : List Sp) (x : Ex) (a b : Sp) (ha : inW a.1 = true ∧ inW a.2 = true) (hb : inW b.1 = true ∧ inW b.2 = true) : PCall Tryd.prog 86 [.ptr (fC p found), x.d, .sl 2 [[.i a.1, .i a.2], [.i b.1, .i b.2]]] (zo 30 (two (a.1 + b.1) (a.2 + b.2))) := by
 refine pcall_of_wc tok hmix ⟨[], []⟩ Tryd.func86 rfl (by kernel_rfl) (by kernel_rfl) (by kernel_rfl) fun hf => ?_
 clear hf
 repeat' ((try (conv => whnf)) <;> first
  | ((refine cZ _ _ _ [false, false, false, false, false, false, false, false, true, true, true] ?_ ?_ ?_); exact rfl; kernel_rfl)
  | ((refine cZ _ _ _ [true, true] ?_ ?_ ?_); exact rfl; kernel_rfl)
  | ((with_reducible refine quiet_step ?_ ?_); kernel_rfl)
  | (with_reducible refine dZ (jY a.1 b.1 _ rfl ha.1 hb.1) (fun n1 q1 => ?_) (fun e1 q1 => ?_))
  | (with_reducible refine dZ (jY a.2 b.2 _ rfl ha.2 hb.2) (fun n2 q2 => ?_) (fun e2 q2 => ?_))
  | ((with_reducible refine pq (n1, n2) (Em q1 q2) ?_); refine ⟨[], rfl, ?_, trivial⟩; conv => whnf)
  | ((with_reducible refine ik e1 (Eo q1) ?_); refine ⟨[], rfl, ?_, trivial⟩; conv => whnf)
  | ((with_reducible refine ik e2 (Ep q2) ?_); refine ⟨[], rfl, ?_, trivial⟩; conv => whnf)
  | ((with_reducible refine eH ?_ ?_ ?_ ?_); exact rfl; exact rfl; exact rfl)
  | ((with_reducible refine au ?_ ?_); kernel_rfl)
  | ((with_reducible refine fJ ?_ ?_); kernel_rfl)
  | (with_reducible refine And.intro ?_ ?_)
  | fail)
 all_goals first
  | (decide)
  | skip
theorem LJ (p : Pr) (found : List Sp) (x : Ex) (a b : Sp) (ha : inW a.1 = true ∧ inW a.2 = true) (hb : inW b.1 = true ∧ inW b.2 = true) : PCall Tryd.prog 88 [.ptr (fC p found), x.d, .sl 2 [[.i a.1, .i a.2], [.i b.1, .i b.2]]] (zo 30 (two (a.1 + -b.2) (a.2 + -b.1))) := by
 refine pcall_of_wc tok hmix ⟨[], []⟩ Tryd.func88 rfl (by kernel_rfl) (by kernel_rfl) (by kernel_rfl) fun hf => ?_
 clear hf
 repeat' ((try (conv => whnf)) <;> first
  | ((refine cZ _ _ _ [false, false, false, false, false, false, false, false, false, true, true, true] ?_ ?_ ?_); exact rfl; kernel_rfl)
  | ((refine cZ _ _ _ [true, true] ?_ ?_ ?_); exact rfl; kernel_rfl)
  | ((with_reducible refine quiet_step ?_ ?_); kernel_rfl)
  | (with_reducible refine dZ (jY a.1 (-b.2) _ (dB hb.2) ha.1 (jL hb.2)) (fun n1 q1 => ?_) (fun e1 q1 => ?_))
  | (with_reducible refine dZ (jY a.2 (-b.1) _ (dB hb.1) ha.2 (jL hb.1)) (fun n2 q2 => ?_) (fun e2 q2 => ?_))
  | ((with_reducible refine pq (n1, n2) (Em q1 q2) ?_); refine ⟨[], rfl, ?_, trivial⟩; conv => whnf)
  | ((with_reducible refine ik e1 (Eo q1) ?_); refine ⟨[], rfl, ?_, trivial⟩; conv => whnf)
  | ((with_reducible refine ik e2 (Ep q2) ?_); refine ⟨[], rfl, ?_, trivial⟩; conv => whnf)
  | ((with_reducible refine eH ?_ ?_ ?_ ?_); exact rfl; exact rfl; exact rfl)
  | ((with_reducible refine au ?_ ?_); kernel_rfl)
  | ((with_reducible refine fJ ?_ ?_); kernel_rfl)
  | (with_reducible refine And.intro ?_ ?_)
  | fail)
 all_goals first
  | (decide)
  | skip
theorem LK (p : Pr) (found : List Sp) (x : Ex) (a b : Sp) (ha : inW a.1 = true ∧ inW a.2 = true) (hb : inW b.1 = true ∧ inW b.2 = true) : PCall Tryd.prog 89 [.ptr (fC p found), x.d, .sl 2 [[.i a.1, .i a.2], [.i b.1, .i b.2]]] (zo 30 (prodM a b)) := by
 refine pcall_of_wc tok hmix ⟨[], []⟩ Tryd.func89 rfl (by kernel_rfl) (by kernel_rfl) (by kernel_rfl) fun hf => ?_
 clear hf
 repeat' ((try (conv => whnf)) <;> first
  | ((refine cZ _ _ _ [false, false, false, false, false, false, false, false, true, false, false, false, false, false, false, false, false, true, false, false, false, false, false, false, false, false, true, true, true, true, true] ?_ ?_ ?_); exact rfl; kernel_rfl)
  | ((refine cZ _ _ _ [false, false, false, false, false, false, false, false, true, false, false, false, false, false, false, false, false, true, true, true, true, true] ?_ ?_ ?_); exact rfl; kernel_rfl)
  | ((refine cZ _ _ _ [false, false, false, false, false, false, false, false, true, true, true, true, true] ?_ ?_ ?_); exact rfl; kernel_rfl)
  | ((refine cZ _ _ _ [true, true, true, true] ?_ ?_ ?_); exact rfl; kernel_rfl)
  | ((with_reducible refine quiet_step ?_ ?_); kernel_rfl)
  | (with_reducible refine dZ (jZ a.1 b.1 ha.1 hb.1) (fun n1 q1 => ?_) (fun e1 q1 => ?_))
  | (with_reducible refine dZ (jZ a.1 b.2 ha.1 hb.2) (fun n2 q2 => ?_) (fun e2 q2 => ?_))
  | (with_reducible refine dZ (jZ a.2 b.1 ha.2 hb.1) (fun n3 q3 => ?_) (fun e3 q3 => ?_))
  | (with_reducible refine dZ (jZ a.2 b.2 ha.2 hb.2) (fun n4 q4 => ?_) (fun e4 q4 => ?_))
  | ((with_reducible refine pq (vV n1 n2 n3 n4, vW n1 n2 n3 n4) (FN q1 q2 q3 q4) ?_); refine ⟨[], rfl, ?_, trivial⟩; conv => whnf)
  | ((with_reducible refine ik e1 (lD (.inl q1)) ?_); refine ⟨[], rfl, ?_, trivial⟩; conv => whnf)
  | ((with_reducible refine ik e2 (lD (.inr (.inl q2))) ?_); refine ⟨[], rfl, ?_, trivial⟩; conv => whnf)
  | ((with_reducible refine ik e3 (lD (.inr (.inr (.inl q3)))) ?_); refine ⟨[], rfl, ?_, trivial⟩; conv => whnf)
  | ((with_reducible refine ik e4 (lD (.inr (.inr (.inr q4)))) ?_); refine ⟨[], rfl, ?_, trivial⟩; conv => whnf)
  | ((with_reducible refine eH ?_ ?_ ?_ ?_); exact rfl; exact rfl; exact rfl)
  | ((with_reducible refine au ?_ ?_); kernel_rfl)
  | ((with_reducible refine fJ ?_ ?_); kernel_rfl)
  | (with_reducible refine And.intro ?_ ?_)
  | fail)
 all_goals first
  | (rfl)
  | (decide)
  | skip
theorem LM (p : Pr) (found : List Sp) (x : Ex) (a : Sp) (ha : inW a.1 = true) (hb : inW a.2 = true) (hn : 1 ≤ x.n) (hn2 : x.n ≤ 2147483648) : PCall Tryd.prog 91 [.ptr (fC p found), x.d, .sl 2 [[.i a.1, .i a.2]]] (.ret (Sp.d (iW a.1 x.n, iW a.2 x.n))) := by
 refine pcall_of_wc tok hmix ⟨[], []⟩ Tryd.func91 rfl (by kernel_rfl) (by kernel_rfl) (by kernel_rfl) fun hf => ?_
 clear hf
 repeat' ((try (conv => whnf)) <;> first
  | ((with_reducible refine eH ?_ ?_ ?_ ?_); exact rfl; exact rfl; exact rfl)
  | ((with_reducible refine ah ?_ ?_ ?_); rotate_left; (first | exact tJ _ _ (by assumption) (by assumption) (by assumption) | exact tJ a.1 x.n ha hn hn2))
  | ((with_reducible refine au ?_ ?_); kernel_rfl)
  | ((with_reducible refine ag ?_); refine ⟨[], rfl, ?_, trivial⟩; conv => whnf)
  | (with_reducible refine And.intro ?_ ?_)
  | fail)
 all_goals first
  | (decide)
  | skip
theorem LP (p : Pr) (found : List Sp) (x : Ex) (a b c d : Sp)  : PCall Tryd.prog 93 [.ptr (fC p found), x.d, .sl 2 [[.i a.1, .i a.2], [.i b.1, .i b.2], [.i c.1, .i c.2], [.i d.1, .i d.2]]] (.ret (Sp.d (mm2 false c.1 d.1, mm2 true c.2 d.2))) := by
 refine pcall_of_wc tok hmix ⟨[], []⟩ Tryd.func93 rfl (by kernel_rfl) (by kernel_rfl) (by kernel_rfl) fun hf => ?_
 clear hf
 repeat' ((try (conv => whnf)) <;> first
  | ((with_reducible refine eH ?_ ?_ ?_ ?_); exact rfl; exact rfl; exact rfl)
  | ((with_reducible refine au ?_ ?_); kernel_rfl)
  | ((with_reducible refine ag ?_); refine ⟨[], rfl, ?_, trivial⟩; conv => whnf)
  | (with_reducible refine And.intro ?_ ?_)
  | fail)
 all_goals first
  | (decide)
  | skip
end Go.Proofs.YtogfjinopifenaaDoor
namespace Go.Proofs.YtogfjinopifenaaDoor
open Go.Fw Go.Fw.Rg
set_option maxRecDepth 10000
variable [GlobInt]
abbrev KA : List D := [.val .nilFunc, .fn 73 [], .val .nilFunc, .fn 74 [], .fn 75 [], .fn 76 [], .fn 77 [], .fn 77 [], .fn 78 [], .fn 79 [], .fn 80 [], .fn 82 [], .fn 83 [], .fn 84 [], .fn 85 [], .fn 86 [], .fn 88 [], .fn 89 [], .fn 91 [], .fn 93 []]
def opF (k : Int) : Nat := match KA.getD k.toNat (.val .nilFunc) with | .fn f _ => f | _ => 0
theorem ni   : PCall Tryd.prog 70 [] (.ret (.agg KA)) := by
 refine pcall_of_wc tok hmix ⟨[], []⟩ Tryd.func70 rfl (by kernel_rfl) (by kernel_rfl) (by kernel_rfl) fun hf => ?_
 clear hf
 repeat' ((try (conv => whnf)) <;> first
  | ((with_reducible refine ag ?_); refine ⟨[], rfl, ?_, trivial⟩; conv => whnf)
  | fail)
 all_goals (try simp only [Bool.cond_true_left, Bool.cond_false_right, Bool.cond_false_left, Bool.cond_true_right, Bool.not_eq_true', Bool.not_eq_false', bne, Ex.css_len, List.length_map, Int.toNat_zero] at *)
 all_goals first
  | skip
theorem Bq {p : Pr} {n : Nat} {k i m : Int} (hw : lY p n k i m = true) {q : D → Prop} (h : q (.fn (opF k) [])) : ∃ c, (0 ≤ k ∧ KA[k.toNat]? = some c) ∧ q c := by
 rcases kinds hw with rfl | rfl | rfl | rfl | rfl | rfl | rfl | rfl | rfl | rfl | rfl | rfl | rfl | rfl | rfl | rfl | rfl | rfl <;> exact ⟨_, ⟨by decide, rfl⟩, h⟩
theorem KC {p : Pr} {n : Nat} {k i m : Int} (hw : lY p n k i m = true) : Nat.beq (opF k) yldF = false := by
 rcases kinds hw with rfl | rfl | rfl | rfl | rfl | rfl | rfl | rfl | rfl | rfl | rfl | rfl | rfl | rfl | rfl | rfl | rfl | rfl <;> rfl
theorem DW {b : Bool} {p q : Prop} : b = false → p → (match b with | true => q | false => p) := by intro h h2; subst h; exact h2
theorem Ha (p : Pr) (found : List Sp) (x : Ex) (sl : List Sp) (hR : Rng p) (hT : ∀ t ∈ p.tables, t.values.length ≤ 1073741824) (hw : wfX p found.length x = true) (hl : sl.length = x.l.length) (hs : InS sl) :
  PCall Tryd.prog (opF x.kind) [.ptr (fC p found), x.d, .sl 2 (sl.map Sp.cs)] (zo 30 (opM p found x.kind x.index x.n sl)) := by
 obtain ⟨h1, h2, _⟩ := aZ hw
 rw [← hl] at h1
 generalize hk : x.kind = k at h1 h2
 have nil : (sl.length : Int) = 0 → sl = [] := fun h => List.length_eq_zero_iff.1 (by omega)
 rcases kinds h2 with rfl | rfl | rfl | rfl | rfl | rfl | rfl | rfl | rfl | rfl | rfl | rfl | rfl | rfl | rfl | rfl | rfl | rfl
 ·obtain rfl := nil h1
  exact op1 p found x
 ·obtain rfl := nil h1
  have h2 : (decide (0 ≤ x.index) && decide (x.index < p.params.length)) = true := h2
  simp only [Bool.and_eq_true, decide_eq_true_eq] at h2
  exact op3 p found x h2.1 h2.2
 ·obtain rfl := nil h1
  have h2 : (decide (0 ≤ x.index) && decide (x.index < p.states.length)) = true := h2
  simp only [Bool.and_eq_true, decide_eq_true_eq] at h2
  exact op4 p found x h2.1 h2.2
 ·obtain rfl := nil h1
  have h2 : (decide (0 ≤ x.index) && decide (x.index < found.length)) = true := h2
  simp only [Bool.and_eq_true, decide_eq_true_eq] at h2
  exact op5 p found x h2.1 h2.2
 ·obtain ⟨a, rfl⟩ := lZ (sl := sl) (by have h1 : (sl.length : Int) = 1 := h1; omega)
  show PCall Tryd.prog _ _ (zo _ (aheadM a))
  unfold aheadM
  cases hc : (decide (a.1 < 0) || decide (a.2 > 4096)) with
  | true => exact Bo p found x a hc
  | false => exact EZ p found x a hc
 ·obtain ⟨a, rfl⟩ := lZ (sl := sl) (by have h1 : (sl.length : Int) = 1 := h1; omega)
  show PCall Tryd.prog _ _ (zo _ (aheadM a))
  unfold aheadM
  cases hc : (decide (a.1 < 0) || decide (a.2 > 4096)) with
  | true => exact Bo p found x a hc
  | false => exact EZ p found x a hc
 ·have h1 : (sl.length : Int) = 1 := h1
  have h2 : (decide (0 ≤ x.index) && decide (x.index < p.lines.length)) = true := h2
  simp only [Bool.and_eq_true, decide_eq_true_eq] at h2
  obtain ⟨a, rfl⟩ := lZ (sl := sl) (by omega)
  exact op8 p found x a h2.1 h2.2
 ·have h1 : (sl.length : Int) = 1 := h1
  have h2 : (decide (0 ≤ x.index) && decide (x.index < p.tables.length) && !(ax p x.index == [])) = true := h2
  simp only [Bool.and_eq_true, decide_eq_true_eq] at h2
  obtain ⟨a, rfl⟩ := lZ (sl := sl) (by omega)
  have h3 : ax p x.index ≠ [] := by simpa using h2.2
  exact op9 p found x a h2.1.1 h2.1.2 (List.length_pos_iff.2 h3) (hT _ (getD_mem' Rg.Tb.none h2.1.1 h2.1.2))
 ·obtain ⟨a, rfl⟩ := lZ (sl := sl) (by have h1 : (sl.length : Int) = 1 := h1; omega)
  exact Lt p found x a
 ·obtain ⟨a, b, rfl⟩ := zu (sl := sl) (by have h1 : (sl.length : Int) = 2 := h1; omega)
  exact Lu p found x a b
 ·obtain ⟨a, b, rfl⟩ := zu (sl := sl) (by have h1 : (sl.length : Int) = 2 := h1; omega)
  exact LC p found x a b
 ·obtain ⟨a, rfl⟩ := lZ (sl := sl) (by have h1 : (sl.length : Int) = 1 := h1; omega)
  exact LD p found x a (hs a (by simp)).1 (hs a (by simp)).2
 ·obtain ⟨a, rfl⟩ := lZ (sl := sl) (by have h1 : (sl.length : Int) = 1 := h1; omega)
  exact LG p found x a (hs a (by simp)).1 (hs a (by simp)).2
 ·obtain ⟨a, b, rfl⟩ := zu (sl := sl) (by have h1 : (sl.length : Int) = 2 := h1; omega)
  exact LH p found x a b (hs a (by simp)) (hs b (by simp))
 ·obtain ⟨a, b, rfl⟩ := zu (sl := sl) (by have h1 : (sl.length : Int) = 2 := h1; omega)
  exact LJ p found x a b (hs a (by simp)) (hs b (by simp))
 ·obtain ⟨a, b, rfl⟩ := zu (sl := sl) (by have h1 : (sl.length : Int) = 2 := h1; omega)
  exact LK p found x a b (hs a (by simp)) (hs b (by simp))
 ·obtain ⟨a, rfl⟩ := lZ (sl := sl) (by have h1 : (sl.length : Int) = 1 := h1; omega)
  have h2 : (decide (1 ≤ x.n) && decide (x.n ≤ 2147483648)) = true := h2
  simp only [Bool.and_eq_true, decide_eq_true_eq] at h2
  exact LM p found x a (hs a (by simp)).1 (hs a (by simp)).2 h2.1 h2.2
 ·obtain ⟨a, b, c, d, rfl⟩ := JW (sl := sl) (by have h1 : (sl.length : Int) = 4 := h1; omega)
  exact LP p found x a b c d
theorem kP (x : Ex) (p : Pr) (found : List Sp) (hR : Rng p) (hF : InS found) (hT : ∀ t ∈ p.tables, t.values.length ≤ 1073741824) (hx : Ref15.nodes x ≤ 1073741824) (hw : wfX p found.length x = true) : PCall Tryd.prog 62 [.ptr (fC p found), x.d] (zo 30 (aV p found x)) := by
 revert x; refine Ex.ind fun x ih hx hw => ?_
 refine pcall_of_wc tok hmix ⟨[], []⟩ Tryd.func62 rfl (by kernel_rfl) (by kernel_rfl) (by kernel_rfl) fun hf => ?_
 have hN := Ref15.nodes_eq x
 have hL := Ref15.len_nodes x.l
 have hlen : x.l.length ≤ 9223372036854775807 := by omega
 obtain ⟨g1, g2, g3⟩ := aZ hw
 clear hf
 repeat' ((try (conv => whnf)) <;> first
  | ((refine cZ _ _ _ [true] ?_ ?_ ?_); exact rfl; kernel_rfl)
  | ((with_reducible refine quiet_step ?_ ?_); kernel_rfl)
  | (with_reducible refine wo (ih x0 (aY hd0) (by have := iY (aY hd0); omega) (ig g3 _ (aY hd0))) (fun s1 q1 => ?_) (fun e1 q1 => ?_))
  | (with_reducible refine wo (Ha p found x sl hR hT hw (rD (lG hI0.1).2) (CG hR hF g3 (lG hI0.1).2)) (fun s2 q2 => ?_) (fun e2 q2 => ?_))
  | ((with_reducible refine pq s2 ((lG hI0.1).1.trans q2) ?_); refine ⟨[], rfl, ?_, trivial⟩; conv => whnf)
  | ((with_reducible refine ik e2 ((lG hI0.1).1.trans q2) ?_); refine ⟨[], rfl, ?_, trivial⟩; conv => whnf)
  | ((with_reducible refine ik e1 (CJ hI0.1 q1) ?_); refine ⟨[], rfl, ?_, trivial⟩; conv => whnf)
  | (with_reducible refine Bq g2 ?_)
  | (refine DW (KC g2) ?_)
  | with_reducible exact trivial
  | with_reducible exact ak hd0 ‹_›
  | with_reducible refine gz hd0 ?_
  | with_reducible refine dJ hd0 ?_
  | ((with_reducible refine LoopAt.mk 0 ?_); refine ⟨aF (x.l) 11 (fun (sl : (List Sp)) => [(5, .gs 900005 2 (sl.map Sp.cs))]) (fun (sl : (List Sp)) => [(900005, .tok 2 (sl.map Sp.cs).length)]) [0, 3, 4, 9, 10] (fun i0 r0 sl => pre sl (aT p found r0) = aT p found x.l ∧ sl.length = i0), ?_⟩; with_reducible refine ae [] ?_ ?_ (fun i0 (sl : (List Sp)) hd0 hI0 => ?_) (fun i0 x0 r0 (sl : (List Sp)) hd0 hl0 hI0 => ?_))
  | (with_reducible refine af hd0 (sl ++ [s1]) ?_ ?_)
  | ((with_reducible refine ah ?_ ?_ ?_); rotate_left; (exact ni))
  | (with_reducible refine ChooseI.l _ ?_)
  | ((with_reducible refine bQ ?_ ?_ ?_ ?_ ?_ ?_) <;> exact rfl)
  | ((with_reducible refine dw ?_ ?_ ?_ ?_) <;> exact rfl)
  | ((with_reducible refine aB ?_ ?_ ?_ ?_ ?_); exact rfl; exact rfl; rotate_left; (with_reducible exact bP hd0))
  | ((with_reducible refine aK ?_ ?_); exact rfl)
  | ((with_reducible refine app_step' ?_ ?_ ?_ ?_ ?_ ?_ ?_); exact rfl; exact rfl; exact rfl; exact rfl)
  | ((with_reducible refine au ?_ ?_); kernel_rfl)
  | ((with_reducible refine fJ ?_ ?_); kernel_rfl)
  | (with_reducible refine And.intro ?_ ?_)
  | ((with_reducible refine kZ ?_ ?_ ?_); exact rfl; exact rfl; (first | exact dK | skip))
  | ((with_reducible refine jm ?_ ?_); exact rfl; (first | exact dK | skip))
  | exact @rfl AV _
  | exact gB rfl
  | fail)
 all_goals first
  | (rfl)
  | ((exact pre_nil _))
  | ((exact zt hI0.1 q1))
  | ((rw [List.length_append, hI0.2]; rfl))
  | ((rw [List.length_map]; omega))
  | skip
end Go.Proofs.YtogfjinopifenaaDoor
