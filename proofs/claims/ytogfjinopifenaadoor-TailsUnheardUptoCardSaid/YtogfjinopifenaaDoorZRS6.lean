/- Contracts: package syntax and its reference: equality of processors. -/
import Derived.Test.YtogfjinopifenaaDoorZXA
set_option linter.unusedSectionVars false
set_option linter.unusedSimpArgs false
set_option linter.unusedVariables false
set_option maxHeartbeats 400000
namespace Go.Proofs.YtogfjinopifenaaDoor
open Go.Fw Go.Fw.Ref15 Go.Fw.Rg
set_option maxRecDepth 10000
variable [af]
theorem Io (l m : List Int)  : PCall Tryd.prog 38 [ints l, ints m] (.ret (.b (PT l m))) := by
 refine ae tok hmix ⟨[], []⟩ Tryd.func38 rfl (by kernel_rfl) (by kernel_rfl) (by kernel_rfl) fun hf => ?_
 have hlen : l.length ≤ 9223372036854775807 := by simpa using (hf (ints l) (by simp)).sl.1
 clear hf
 repeat' ((try (conv => whnf)) <;> first
  | with_reducible exact trivial
  | with_reducible exact ax hd0 ‹_›
  | ((with_reducible refine iJ hd0 ?_ ?_); (assumption))
  | ((with_reducible refine fD hd0 ?_ ?_); (assumption))
  | with_reducible refine BrI.intro (fun h => ?_) (fun h => ?_)
  | ((with_reducible refine aI.mk 0 ?_); have hz : l.length = m.length := (by simp at h; omega); have hk0 : (l.zip m).length = (l.map YH).length := (by rw [jl hz, List.length_map]); have hlz : (l.zip m).length ≤ 9223372036854775807 := (by rw [jl hz]; exact hlen); refine ⟨aP (l.zip m) 13 (fun (_ : Unit) => []) (fun (_ : Unit) => []) [0, 1, 12] (fun i0 r0 _ => PT l m = r0.all Zq), ?_⟩; with_reducible refine ag () ?_ ?_ (fun i0 (_ : Unit) hd0 hI0 => ?_) (fun i0 x0 r0 (_ : Unit) hd0 hl0 hI0 => ?_))
  | (with_reducible refine ah hd0 () ?_ ?_)
  | ((with_reducible refine aJ ?_ ?_ ?_ ?_ ?_); exact rfl; exact rfl; rotate_left; (first | with_reducible exact oD hd0 | with_reducible exact oG hd0))
  | ((with_reducible refine aA ?_ ?_); kernel_rfl)
  | ((with_reducible refine ai ?_); refine ⟨[], rfl, ?_, trivial⟩; conv => whnf)
  | (with_reducible refine And.intro ?_ ?_)
  | exact @rfl AV _
  | fail)
 all_goals (try simp only [Bool.cond_true_left, Bool.cond_false_right, Bool.cond_false_left, Bool.cond_true_right, Bool.not_eq_true', Bool.not_eq_false', bne, Ex.css_len, List.length_map, Int.toNat_zero] at *)
 all_goals first
  | (rw [hI0]; (try simp only [Zq, Bool.not_true, Bool.not_false, Bool.and_true, Bool.true_and, Bool.and_false, Bool.false_and, Bool.or_true, Bool.true_or, Bool.or_false, Bool.false_or, if_true, if_false, reduceIte, Bool.false_eq_true, Bool.not_not, Bool.not_eq_true', beq_self_eq_true, List.all_cons, List.all_nil, List.any_cons, List.any_nil, List.length_map, bne, eq_self, Int.toNat_zero, *]); first | done | rfl)
  | (simp only [PT, Ac, Bool.not_true, Bool.not_false, Bool.and_true, Bool.true_and, Bool.and_false, Bool.false_and, Bool.or_true, Bool.true_or, Bool.or_false, Bool.false_or, if_true, if_false, reduceIte, Bool.false_eq_true, Bool.not_not, Bool.not_eq_true', beq_self_eq_true, List.all_cons, List.all_nil, List.any_cons, List.any_nil, List.length_map, bne, eq_self, Int.toNat_zero, *]; done)
  | skip
theorem MR (l m : List Bd)  : PCall Tryd.prog 41 [.sl 3 (l.map Bd.cs), .sl 3 (m.map Bd.cs)] (.ret (.b (jH l m))) := by
 refine ae tok hmix ⟨[], []⟩ Tryd.func41 rfl (by kernel_rfl) (by kernel_rfl) (by kernel_rfl) fun hf => ?_
 have hlen : l.length ≤ 9223372036854775807 := by simpa using (hf (.sl 3 (l.map Bd.cs)) (by simp)).sl.1
 clear hf
 repeat' ((try (conv => whnf)) <;> first
  | with_reducible exact trivial
  | with_reducible exact ax hd0 ‹_›
  | ((with_reducible refine iJ hd0 ?_ ?_); (assumption))
  | ((with_reducible refine fD hd0 ?_ ?_); (assumption))
  | with_reducible refine BrI.intro (fun h => ?_) (fun h => ?_)
  | ((with_reducible refine aI.mk 0 ?_); have hz : l.length = m.length := (by simp at h; omega); have hk0 : (l.zip m).length = (l.map Bd.cs).length := (by rw [jl hz, List.length_map]); have hlz : (l.zip m).length ≤ 9223372036854775807 := (by rw [jl hz]; exact hlen); refine ⟨aP (l.zip m) 13 (fun (_ : Unit) => []) (fun (_ : Unit) => []) [0, 1, 12] (fun i0 r0 _ => jH l m = r0.all zW), ?_⟩; with_reducible refine ag () ?_ ?_ (fun i0 (_ : Unit) hd0 hI0 => ?_) (fun i0 x0 r0 (_ : Unit) hd0 hl0 hI0 => ?_))
  | (with_reducible refine ah hd0 () ?_ ?_)
  | ((with_reducible refine vO ?_ ?_ ?_); exact rfl; exact rfl)
  | ((with_reducible refine aJ ?_ ?_ ?_ ?_ ?_); exact rfl; exact rfl; rotate_left; (first | with_reducible exact oD hd0 | with_reducible exact oG hd0))
  | ((with_reducible refine aW ?_ ?_); exact rfl)
  | ((with_reducible refine aA ?_ ?_); kernel_rfl)
  | ((with_reducible refine ai ?_); refine ⟨[], rfl, ?_, trivial⟩; conv => whnf)
  | (with_reducible refine And.intro ?_ ?_)
  | exact @rfl AV _
  | fail)
 all_goals (try simp only [Bool.cond_true_left, Bool.cond_false_right, Bool.cond_false_left, Bool.cond_true_right, Bool.not_eq_true', Bool.not_eq_false', bne, Ex.css_len, List.length_map, Int.toNat_zero] at *)
 all_goals first
  | (rw [hI0]; (try simp only [zW, Bool.not_true, Bool.not_false, Bool.and_true, Bool.true_and, Bool.and_false, Bool.false_and, Bool.or_true, Bool.true_or, Bool.or_false, Bool.false_or, if_true, if_false, reduceIte, Bool.false_eq_true, Bool.not_not, Bool.not_eq_true', beq_self_eq_true, List.all_cons, List.all_nil, List.any_cons, List.any_nil, List.length_map, bne, eq_self, Int.toNat_zero, *]); first | done | rfl)
  | (simp only [jH, Bool.not_true, Bool.not_false, Bool.and_true, Bool.true_and, Bool.and_false, Bool.false_and, Bool.or_true, Bool.true_or, Bool.or_false, Bool.false_or, if_true, if_false, reduceIte, Bool.false_eq_true, Bool.not_not, Bool.not_eq_true', beq_self_eq_true, List.all_cons, List.all_nil, List.any_cons, List.any_nil, List.length_map, bne, eq_self, Int.toNat_zero, *]; done)
  | skip
theorem MS (l m : List Ln)  : PCall Tryd.prog 42 [.sl 4 (l.map Ln.cs), .sl 4 (m.map Ln.cs)] (.ret (.b (Ac xQ l m))) := by
 refine ae tok hmix ⟨[], []⟩ Tryd.func42 rfl (by kernel_rfl) (by kernel_rfl) (by kernel_rfl) fun hf => ?_
 have hlen : l.length ≤ 9223372036854775807 := by simpa using (hf (.sl 4 (l.map Ln.cs)) (by simp)).sl.1
 clear hf
 repeat' ((try (conv => whnf)) <;> first
  | with_reducible exact trivial
  | with_reducible exact ax hd0 ‹_›
  | ((with_reducible refine iJ hd0 ?_ ?_); (assumption))
  | ((with_reducible refine fD hd0 ?_ ?_); (assumption))
  | with_reducible refine BrI.intro (fun h => ?_) (fun h => ?_)
  | ((with_reducible refine aI.mk 0 ?_); have hz : l.length = m.length := (by simp at h; omega); have hk0 : (l.zip m).length = (l.map Ln.cs).length := (by rw [jl hz, List.length_map]); have hlz : (l.zip m).length ≤ 9223372036854775807 := (by rw [jl hz]; exact hlen); refine ⟨aP (l.zip m) 13 (fun (_ : Unit) => []) (fun (_ : Unit) => []) [0, 1, 12] (fun i0 r0 _ => Ac xQ l m = r0.all xQ), ?_⟩; with_reducible refine ag () ?_ ?_ (fun i0 (_ : Unit) hd0 hI0 => ?_) (fun i0 x0 r0 (_ : Unit) hd0 hl0 hI0 => ?_))
  | (with_reducible refine ah hd0 () ?_ ?_)
  | ((with_reducible refine vO ?_ ?_ ?_); exact rfl; exact rfl)
  | ((with_reducible refine aJ ?_ ?_ ?_ ?_ ?_); exact rfl; exact rfl; rotate_left; (first | with_reducible exact oD hd0 | with_reducible exact oG hd0))
  | ((with_reducible refine aW ?_ ?_); exact rfl)
  | ((with_reducible refine aA ?_ ?_); kernel_rfl)
  | ((with_reducible refine ai ?_); refine ⟨[], rfl, ?_, trivial⟩; conv => whnf)
  | (with_reducible refine And.intro ?_ ?_)
  | exact @rfl AV _
  | fail)
 all_goals (try simp only [Bool.cond_true_left, Bool.cond_false_right, Bool.cond_false_left, Bool.cond_true_right, Bool.not_eq_true', Bool.not_eq_false', bne, Ex.css_len, List.length_map, Int.toNat_zero] at *)
 all_goals first
  | (rw [hI0]; (try simp only [xQ, Bool.not_true, Bool.not_false, Bool.and_true, Bool.true_and, Bool.and_false, Bool.false_and, Bool.or_true, Bool.true_or, Bool.or_false, Bool.false_or, if_true, if_false, reduceIte, Bool.false_eq_true, Bool.not_not, Bool.not_eq_true', beq_self_eq_true, List.all_cons, List.all_nil, List.any_cons, List.any_nil, List.length_map, bne, eq_self, Int.toNat_zero, *]); first | done | rfl)
  | (simp only [Ac, Bool.not_true, Bool.not_false, Bool.and_true, Bool.true_and, Bool.and_false, Bool.false_and, Bool.or_true, Bool.true_or, Bool.or_false, Bool.false_or, if_true, if_false, reduceIte, Bool.false_eq_true, Bool.not_not, Bool.not_eq_true', beq_self_eq_true, List.all_cons, List.all_nil, List.any_cons, List.any_nil, List.length_map, bne, eq_self, Int.toNat_zero, *]; done)
  | skip
theorem UI (a b : Tb)  : PCall Tryd.prog 37 [.agg a.cs, .agg b.cs] (.ret (.b (tbE (a, b)))) := by
 refine ae tok hmix ⟨[], []⟩ Tryd.func37 rfl (by kernel_rfl) (by kernel_rfl) (by kernel_rfl) fun hf => ?_
 clear hf
 repeat' ((try (conv => whnf)) <;> first
  | ((with_reducible refine aj ?_ ?_ ?_); rotate_left; (exact Io _ _))
  | ((with_reducible refine bF ?_ ?_ (fun hg => ?_) ?_); exact rfl)
  | ((with_reducible refine dE ?_ ?_); with_reducible exact rfl; with_reducible exact rfl)
  | ((with_reducible refine ai ?_); refine ⟨[], rfl, ?_, trivial⟩; conv => whnf)
  | fail)
 all_goals (try simp only [Bool.cond_true_left, Bool.cond_false_right, Bool.cond_false_left, Bool.cond_true_right, Bool.not_eq_true', Bool.not_eq_false', bne, Ex.css_len, List.length_map, Int.toNat_zero] at *)
 all_goals first
  | (simp only [tbE, Bool.not_true, Bool.not_false, Bool.and_true, Bool.true_and, Bool.and_false, Bool.false_and, Bool.or_true, Bool.true_or, Bool.or_false, Bool.false_or, if_true, if_false, reduceIte, Bool.false_eq_true, Bool.not_not, Bool.not_eq_true', beq_self_eq_true, List.all_cons, List.all_nil, List.any_cons, List.any_nil, List.length_map, bne, eq_self, Int.toNat_zero, *]; done)
  | skip
theorem MV (l m : List Ex) (ih : ∀ x ∈ l, ∀ y, PCall Tryd.prog 40 [x.d, y.d] (.ret (.b (fQ x y)))) : PCall Tryd.prog 63 [.sl 5 (l.map Ex.cs), .sl 5 (m.map Ex.cs), .fn 40 []] (.ret (.b (Zr l m))) := by
 refine ae tok hmix ⟨[], []⟩ Tryd.func63 rfl (by kernel_rfl) (by kernel_rfl) (by kernel_rfl) fun hf => ?_
 have hlen : l.length ≤ 9223372036854775807 := by simpa using (hf (.sl 5 (l.map Ex.cs)) (by simp)).sl.1
 clear hf
 repeat' ((try (conv => whnf)) <;> first
  | with_reducible exact trivial
  | with_reducible exact ax hd0 ‹_›
  | ((with_reducible refine iJ hd0 ?_ ?_); (assumption))
  | ((with_reducible refine fD hd0 ?_ ?_); (assumption))
  | with_reducible refine BrI.intro (fun h => ?_) (fun h => ?_)
  | ((with_reducible refine aI.mk 0 ?_); have hz : l.length = m.length := (by simp at h; omega); have hk0 : (l.zip m).length = (l.map Ex.cs).length := (by rw [jl hz, List.length_map]); have hlz : (l.zip m).length ≤ 9223372036854775807 := (by rw [jl hz]; exact hlen); refine ⟨aP (l.zip m) 17 (fun (_ : Unit) => []) (fun (_ : Unit) => []) [1, 2, 15, 16] (fun i0 r0 _ => Zr l m = r0.all exE), ?_⟩; with_reducible refine ag () ?_ ?_ (fun i0 (_ : Unit) hd0 hI0 => ?_) (fun i0 x0 r0 (_ : Unit) hd0 hl0 hI0 => ?_))
  | (with_reducible refine ah hd0 () ?_ ?_)
  | ((with_reducible refine aj ?_ ?_ ?_); rotate_left; (exact ih _ (List.of_mem_zip (bV hd0)).1 _))
  | ((with_reducible refine aJ ?_ ?_ ?_ ?_ ?_); exact rfl; exact rfl; rotate_left; (first | with_reducible exact oD hd0 | with_reducible exact oG hd0))
  | ((with_reducible refine aW ?_ ?_); exact rfl)
  | ((with_reducible refine ai ?_); refine ⟨[], rfl, ?_, trivial⟩; conv => whnf)
  | (with_reducible refine And.intro ?_ ?_)
  | exact @rfl AV _
  | fail)
 all_goals (try simp only [Bool.cond_true_left, Bool.cond_false_right, Bool.cond_false_left, Bool.cond_true_right, Bool.not_eq_true', Bool.not_eq_false', bne, Ex.css_len, List.length_map, Int.toNat_zero] at *)
 all_goals first
  | (rw [hI0]; (try simp only [exE, Bool.not_true, Bool.not_false, Bool.and_true, Bool.true_and, Bool.and_false, Bool.false_and, Bool.or_true, Bool.true_or, Bool.or_false, Bool.false_or, if_true, if_false, reduceIte, Bool.false_eq_true, Bool.not_not, Bool.not_eq_true', beq_self_eq_true, List.all_cons, List.all_nil, List.any_cons, List.any_nil, List.length_map, bne, eq_self, Int.toNat_zero, *]); first | done | rfl)
  | (simp only [Zr, Ac, Bool.not_true, Bool.not_false, Bool.and_true, Bool.true_and, Bool.and_false, Bool.false_and, Bool.or_true, Bool.true_or, Bool.or_false, Bool.false_or, if_true, if_false, reduceIte, Bool.false_eq_true, Bool.not_not, Bool.not_eq_true', beq_self_eq_true, List.all_cons, List.all_nil, List.any_cons, List.any_nil, List.length_map, bne, eq_self, Int.toNat_zero, *]; done)
  | skip
theorem zg (a b : Ex)  : PCall Tryd.prog 40 [a.d, b.d] (.ret (.b (fQ a b))) := by
 revert b; revert a; refine Ex.ind fun a ih b => ?_
 refine ae tok hmix ⟨[], []⟩ Tryd.func40 rfl (by kernel_rfl) (by kernel_rfl) (by kernel_rfl) fun hf => ?_
 clear hf
 repeat' ((try (conv => whnf)) <;> first
  | ((with_reducible refine aj ?_ ?_ ?_); rotate_left; ((have hq := MV a.l b.l ih; rw [← Ex.css_eq, ← Ex.css_eq] at hq; exact hq)))
  | ((with_reducible refine bF ?_ ?_ (fun hg => ?_) ?_); exact rfl)
  | ((with_reducible refine dE ?_ ?_); with_reducible exact rfl; with_reducible exact rfl)
  | ((with_reducible refine ai ?_); refine ⟨[], rfl, ?_, trivial⟩; conv => whnf)
  | fail)
 all_goals (try simp only [Bool.cond_true_left, Bool.cond_false_right, Bool.cond_false_left, Bool.cond_true_right, Bool.not_eq_true', Bool.not_eq_false', bne, Ex.css_len, List.length_map, Int.toNat_zero] at *)
 all_goals first
  | ((exact congrArg D.b (BN a b)))
  | skip
theorem UJ (a b : Sm)  : PCall Tryd.prog 39 [a.d, b.d] (.ret (.b (smE (a, b)))) := by
 refine ae tok hmix ⟨[], []⟩ Tryd.func39 rfl (by kernel_rfl) (by kernel_rfl) (by kernel_rfl) fun hf => ?_
 clear hf
 repeat' ((try (conv => whnf)) <;> first
  | ((with_reducible refine aj ?_ ?_ ?_); rotate_left; (exact zg _ _))
  | ((with_reducible refine bF ?_ ?_ (fun hg => ?_) ?_); exact rfl)
  | ((with_reducible refine dE ?_ ?_); with_reducible exact rfl; with_reducible exact rfl)
  | ((with_reducible refine ai ?_); refine ⟨[], rfl, ?_, trivial⟩; conv => whnf)
  | fail)
 all_goals (try simp only [Bool.cond_true_left, Bool.cond_false_right, Bool.cond_false_left, Bool.cond_true_right, Bool.not_eq_true', Bool.not_eq_false', bne, Ex.css_len, List.length_map, Int.toNat_zero] at *)
 all_goals first
  | (simp only [smE, Bool.not_true, Bool.not_false, Bool.and_true, Bool.true_and, Bool.and_false, Bool.false_and, Bool.or_true, Bool.true_or, Bool.or_false, Bool.false_or, if_true, if_false, reduceIte, Bool.false_eq_true, Bool.not_not, Bool.not_eq_true', beq_self_eq_true, List.all_cons, List.all_nil, List.any_cons, List.any_nil, List.length_map, bne, eq_self, Int.toNat_zero, *]; done)
  | skip
theorem MW (l m : List Tb)  : PCall Tryd.prog 43 [.sl 2 (l.map Tb.cs), .sl 2 (m.map Tb.cs), .fn 37 []] (.ret (.b (Ac tbE l m))) := by
 refine ae tok hmix ⟨[], []⟩ Tryd.func43 rfl (by kernel_rfl) (by kernel_rfl) (by kernel_rfl) fun hf => ?_
 have hlen : l.length ≤ 9223372036854775807 := by simpa using (hf (.sl 2 (l.map Tb.cs)) (by simp)).sl.1
 clear hf
 repeat' ((try (conv => whnf)) <;> first
  | with_reducible exact trivial
  | with_reducible exact ax hd0 ‹_›
  | ((with_reducible refine iJ hd0 ?_ ?_); (assumption))
  | ((with_reducible refine fD hd0 ?_ ?_); (assumption))
  | with_reducible refine BrI.intro (fun h => ?_) (fun h => ?_)
  | ((with_reducible refine aI.mk 0 ?_); have hz : l.length = m.length := (by simp at h; omega); have hk0 : (l.zip m).length = (l.map Tb.cs).length := (by rw [jl hz, List.length_map]); have hlz : (l.zip m).length ≤ 9223372036854775807 := (by rw [jl hz]; exact hlen); refine ⟨aP (l.zip m) 17 (fun (_ : Unit) => []) (fun (_ : Unit) => []) [1, 2, 15, 16] (fun i0 r0 _ => Ac tbE l m = r0.all tbE), ?_⟩; with_reducible refine ag () ?_ ?_ (fun i0 (_ : Unit) hd0 hI0 => ?_) (fun i0 x0 r0 (_ : Unit) hd0 hl0 hI0 => ?_))
  | (with_reducible refine ah hd0 () ?_ ?_)
  | ((with_reducible refine aj ?_ ?_ ?_); rotate_left; (exact UI _ _))
  | ((with_reducible refine aJ ?_ ?_ ?_ ?_ ?_); exact rfl; exact rfl; rotate_left; (first | with_reducible exact oD hd0 | with_reducible exact oG hd0))
  | ((with_reducible refine aW ?_ ?_); exact rfl)
  | ((with_reducible refine ai ?_); refine ⟨[], rfl, ?_, trivial⟩; conv => whnf)
  | (with_reducible refine And.intro ?_ ?_)
  | exact @rfl AV _
  | fail)
 all_goals (try simp only [Bool.cond_true_left, Bool.cond_false_right, Bool.cond_false_left, Bool.cond_true_right, Bool.not_eq_true', Bool.not_eq_false', bne, Ex.css_len, List.length_map, Int.toNat_zero] at *)
 all_goals first
  | (rw [hI0]; (try simp only [List.all_cons, Bool.not_true, Bool.not_false, Bool.and_true, Bool.true_and, Bool.and_false, Bool.false_and, Bool.or_true, Bool.true_or, Bool.or_false, Bool.false_or, if_true, if_false, reduceIte, Bool.false_eq_true, Bool.not_not, Bool.not_eq_true', beq_self_eq_true, List.all_cons, List.all_nil, List.any_cons, List.any_nil, List.length_map, bne, eq_self, Int.toNat_zero, *]); first | done | rfl)
  | (simp only [Ac, Bool.not_true, Bool.not_false, Bool.and_true, Bool.true_and, Bool.and_false, Bool.false_and, Bool.or_true, Bool.true_or, Bool.or_false, Bool.false_or, if_true, if_false, reduceIte, Bool.false_eq_true, Bool.not_not, Bool.not_eq_true', beq_self_eq_true, List.all_cons, List.all_nil, List.any_cons, List.any_nil, List.length_map, bne, eq_self, Int.toNat_zero, *]; done)
  | skip
theorem MX (l m : List Sm)  : PCall Tryd.prog 44 [.sl 8 (l.map Sm.cs), .sl 8 (m.map Sm.cs), .fn 39 []] (.ret (.b (Ac smE l m))) := by
 refine ae tok hmix ⟨[], []⟩ Tryd.func44 rfl (by kernel_rfl) (by kernel_rfl) (by kernel_rfl) fun hf => ?_
 have hlen : l.length ≤ 9223372036854775807 := by simpa using (hf (.sl 8 (l.map Sm.cs)) (by simp)).sl.1
 clear hf
 repeat' ((try (conv => whnf)) <;> first
  | with_reducible exact trivial
  | with_reducible exact ax hd0 ‹_›
  | ((with_reducible refine iJ hd0 ?_ ?_); (assumption))
  | ((with_reducible refine fD hd0 ?_ ?_); (assumption))
  | with_reducible refine BrI.intro (fun h => ?_) (fun h => ?_)
  | ((with_reducible refine aI.mk 0 ?_); have hz : l.length = m.length := (by simp at h; omega); have hk0 : (l.zip m).length = (l.map Sm.cs).length := (by rw [jl hz, List.length_map]); have hlz : (l.zip m).length ≤ 9223372036854775807 := (by rw [jl hz]; exact hlen); refine ⟨aP (l.zip m) 17 (fun (_ : Unit) => []) (fun (_ : Unit) => []) [1, 2, 15, 16] (fun i0 r0 _ => Ac smE l m = r0.all smE), ?_⟩; with_reducible refine ag () ?_ ?_ (fun i0 (_ : Unit) hd0 hI0 => ?_) (fun i0 x0 r0 (_ : Unit) hd0 hl0 hI0 => ?_))
  | (with_reducible refine ah hd0 () ?_ ?_)
  | ((with_reducible refine aj ?_ ?_ ?_); rotate_left; (exact UJ _ _))
  | ((with_reducible refine aJ ?_ ?_ ?_ ?_ ?_); exact rfl; exact rfl; rotate_left; (first | with_reducible exact oD hd0 | with_reducible exact oG hd0))
  | ((with_reducible refine aW ?_ ?_); exact rfl)
  | ((with_reducible refine ai ?_); refine ⟨[], rfl, ?_, trivial⟩; conv => whnf)
  | (with_reducible refine And.intro ?_ ?_)
  | exact @rfl AV _
  | fail)
 all_goals (try simp only [Bool.cond_true_left, Bool.cond_false_right, Bool.cond_false_left, Bool.cond_true_right, Bool.not_eq_true', Bool.not_eq_false', bne, Ex.css_len, List.length_map, Int.toNat_zero] at *)
 all_goals first
  | (rw [hI0]; (try simp only [List.all_cons, Bool.not_true, Bool.not_false, Bool.and_true, Bool.true_and, Bool.and_false, Bool.false_and, Bool.or_true, Bool.true_or, Bool.or_false, Bool.false_or, if_true, if_false, reduceIte, Bool.false_eq_true, Bool.not_not, Bool.not_eq_true', beq_self_eq_true, List.all_cons, List.all_nil, List.any_cons, List.any_nil, List.length_map, bne, eq_self, Int.toNat_zero, *]); first | done | rfl)
  | (simp only [Ac, Bool.not_true, Bool.not_false, Bool.and_true, Bool.true_and, Bool.and_false, Bool.false_and, Bool.or_true, Bool.true_or, Bool.or_false, Bool.false_or, if_true, if_false, reduceIte, Bool.false_eq_true, Bool.not_not, Bool.not_eq_true', beq_self_eq_true, List.all_cons, List.all_nil, List.any_cons, List.any_nil, List.length_map, bne, eq_self, Int.toNat_zero, *]; done)
  | skip
theorem gY (a b : Pr)  : PCall Tryd.prog 13 [a.d, b.d] (.ret (.b (pq a b))) := by
 refine ae tok hmix ⟨[], []⟩ Tryd.func13 rfl (by kernel_rfl) (by kernel_rfl) (by kernel_rfl) fun hf => ?_
 clear hf
 repeat' ((try (conv => whnf)) <;> first
  | ((with_reducible refine aj ?_ ?_ ?_); rotate_left; (first | exact MR _ _ | exact MS _ _ | exact MW _ _ | exact MX _ _))
  | ((with_reducible refine bF ?_ ?_ (fun hg => ?_) ?_); exact rfl)
  | ((with_reducible refine dE ?_ ?_); with_reducible exact rfl; with_reducible exact rfl)
  | ((with_reducible refine ai ?_); refine ⟨[], rfl, ?_, trivial⟩; conv => whnf)
  | fail)
 all_goals (try simp only [Bool.cond_true_left, Bool.cond_false_right, Bool.cond_false_left, Bool.cond_true_right, Bool.not_eq_true', Bool.not_eq_false', bne, Ex.css_len, List.length_map, Int.toNat_zero] at *)
 all_goals first
  | (simp only [pq, PU, Bool.not_true, Bool.not_false, Bool.and_true, Bool.true_and, Bool.and_false, Bool.false_and, Bool.or_true, Bool.true_or, Bool.or_false, Bool.false_or, if_true, if_false, reduceIte, Bool.false_eq_true, Bool.not_not, Bool.not_eq_true', beq_self_eq_true, List.all_cons, List.all_nil, List.any_cons, List.any_nil, List.length_map, bne, eq_self, Int.toNat_zero, *]; done)
  | skip
end Go.Proofs.YtogfjinopifenaaDoor
