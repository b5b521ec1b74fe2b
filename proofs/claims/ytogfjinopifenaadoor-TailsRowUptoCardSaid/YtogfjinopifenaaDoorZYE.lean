/- Contracts: the laws of tails: TailsRow, TailsUnheard. -/
import Derived.Test.YtogfjinopifenaaDoorZYD
set_option linter.unusedSectionVars false
set_option linter.unusedSimpArgs false
set_option linter.unusedVariables false
set_option maxHeartbeats 4000000
namespace Go.Proofs.YtogfjinopifenaaDoor
open Go.Fw Go.Fw.Ref15 Go.Fw.Rg Go.Fw.Tl
set_option maxRecDepth 10000
variable [af] {s : List Nat}
theorem z0m (a : Int) : (bif (bif (bif (bif (0 : Int) != 0 then true else (0 : Int) != 0) then true else a != a) then true else (-1 : Int) != -1) then true else (0 : Int) != 0) = false := by simp
theorem z2j (hs : s.length ≤ 9) : decide (((s.map u8D).length : Int) > 9) = false := by rw [List.length_map]; exact decide_eq_false (by omega)
theorem z0n (hs : ¬ s.length ≤ 9) : decide (((s.map u8D).length : Int) > 9) = true := by rw [List.length_map]; exact decide_eq_true (by omega)
theorem z2k (h0 : s.length ≠ 0) : (((s.map u8D).length : Int) == 0) = false := by rw [List.length_map, beq_eq_false_iff_ne]; omega
theorem UW {a : Int} : (bif a == 0 then true else (171 : Int) == 171) = true := by cases a == 0 <;> rfl
theorem Yw (s : List Nat) (hs : ¬ s.length ≤ 9) : PCall Tryd.prog 5 [.sl 1 (s.map u8D)] (.ret (.b true)) := by
 refine ae tok hmix ⟨[], []⟩ Tryd.func5 rfl (by kernel_rfl) (by kernel_rfl) (by kernel_rfl) fun hf => ?_
 clear hf
 repeat' ((try (conv => whnf)) <;> first
  | (exact Bool.noConfusion (show false = true from h))
  | ((with_reducible refine BrI.tt_of ?_ ?_); exact z0n hs)
  | with_reducible refine BrI.intro (fun h => ?_) (fun h => ?_)
  | ((with_reducible refine aj ?_ ?_ ?_); rotate_left; (exact gu))
  | ((with_reducible refine ai ?_); refine ⟨[], rfl, ?_, trivial⟩; conv => whnf)
  | fail)
 all_goals first
  | skip
theorem z2m (s : List Nat) (hs : s.length ≤ 9) (h8 : ∀ n ∈ s, n ≤ 255) (h0 : s.length ≠ 0) (m1 : PCall Tryd.prog 11 [(rowP s false).d] (.ret (.tuple [.i (dC s s.length), .i 0]))) (m2 : PCall Tryd.prog 11 [(rowP s true).d] (.ret (.tuple [.i (-1), .i 0]))) (c1 : PCall Tryd.prog 12 [(tlM (rowP s false) 0 (dC s s.length)).d] (.ret (.i 0))) (c2 : PCall Tryd.prog 12 [(tlM (rowP s false) 0 (IntKind.i64.wrap (dC s s.length - 1))).d] (.ret (.i 171))) : PCall Tryd.prog 5 [.sl 1 (s.map u8D)] (.ret (.b true)) := by
 refine ae tok hmix ⟨[], []⟩ Tryd.func5 rfl (by kernel_rfl) (by kernel_rfl) (by kernel_rfl) fun hf => ?_
 clear hf
 repeat' ((try (conv => whnf)) <;> first
  | (exact Bool.noConfusion (show false = true from h))
  | ((with_reducible refine BrI.ff_of ?_ ?_); exact z2j hs)
  | ((with_reducible refine BrI.ff_of ?_ ?_); exact z2k h0)
  | ((with_reducible refine BrI.ff_of ?_ ?_); exact z0m _)
  | with_reducible refine BrI.intro (fun h => ?_) (fun h => ?_)
  | ((with_reducible refine aj ?_ ?_ ?_); rotate_left; (first | exact gu | exact KD s _ hs h8 | exact m1 | exact m2 | exact c1 | exact c2))
  | ((with_reducible refine bF ?_ ?_ (fun hg => ?_) ?_); exact rfl)
  | ((with_reducible refine dE ?_ ?_); with_reducible exact rfl; with_reducible exact rfl)
  | ((with_reducible refine ai ?_); refine ⟨[], rfl, ?_, trivial⟩; conv => whnf)
  | fail)
 all_goals first
  | ((exact congrArg D.b UW))
  | skip
theorem z2o (v : Int) (m1 : PCall Tryd.prog 11 [(rowP [] false).d] (.ret (.tuple [.i 0, .i 0]))) (m2 : PCall Tryd.prog 11 [(rowP [] true).d] (.ret (.tuple [.i 0, .i 0]))) (c1 : PCall Tryd.prog 12 [(tlM (rowP [] false) 0 0).d] (.ret (.i 0))) (c2 : PCall Tryd.prog 12 [(tlM (rowP [] false) 0 (-1)).d] (.ret (.i v))) : PCall Tryd.prog 5 [.sl 1 (([] : List Nat).map u8D)] (.ret (.b true)) := by
 refine ae tok hmix ⟨[], []⟩ Tryd.func5 rfl (by kernel_rfl) (by kernel_rfl) (by kernel_rfl) fun hf => ?_
 clear hf
 repeat' ((try (conv => whnf)) <;> first
  | ((with_reducible refine BrI.ff_of ?_ ?_); exact rfl)
  | ((with_reducible refine BrI.tt_of ?_ ?_); exact rfl)
  | ((with_reducible refine aj ?_ ?_ ?_); rotate_left; (first | exact gu | exact KD [] _ (by decide) (by intro n h; cases h) | exact m1 | exact c1 | exact c2))
  | ((with_reducible refine bF ?_ ?_ (fun hg => ?_) ?_); exact rfl)
  | ((with_reducible refine dE ?_ ?_); with_reducible exact rfl; with_reducible exact rfl)
  | ((with_reducible refine ai ?_); refine ⟨[], rfl, ?_, trivial⟩; conv => whnf)
  | fail)
 all_goals first
  | (rfl)
  | skip
end Go.Proofs.YtogfjinopifenaaDoor
namespace Go.Proofs.YtogfjinopifenaaDoor
open Go.Fw Go.Fw.Ref15 Go.Fw.Rg Go.Fw.Tl
set_option maxRecDepth 10000
variable [af]
theorem sH (p : Pr) (g : dA p) (h : (ak p).2 = 0) : PCall Tryd.prog 11 [p.d] (.ret (.tuple [.i (oJ p), .i 0])) := by
 have := kC p g; rw [XX h] at this; exact this
theorem yO {p : Pr} (g : dA p) (a b : Int) : dA (tlM p a b) := ⟨⟨g.sm.params, g.sm.states, g.sm.lines, g.sm.tables, g.sm.stmts⟩, g.hn, g.hT⟩
theorem good_row {s : List Nat} (hs : s.length ≤ 9) (b : Bool) : dA (rowP s b) := by
 refine ⟨⟨Nat.zero_le _, Nat.zero_le _, by simp [rowP]; omega, Nat.zero_le _, by simp [rowP]; omega⟩, fun t ht => ?_, fun t ht => by cases ht⟩
 have ht : t ∈ (List.range s.length).map (Fv s.length b) ++ [ZY s.length] := ht
 have hx : ∀ i b, Ref15.nodes (F9 s.length b i) ≤ 1073741824 := by
  intro i b
  rw [F9]
  split
  ·split
   ·show (6 : Nat) ≤ _; decide
   ·show (2 : Nat) ≤ _; decide
  ·show (2 : Nat) ≤ _; decide
 rcases List.mem_append.1 ht with ht | ht
 ·obtain ⟨i, _, rfl⟩ := List.mem_map.1 ht
  exact hx i b
 ·simp only [List.mem_cons, List.not_mem_nil, or_false] at ht
  subst ht; exact hx _ _
theorem Yy (s : List Nat) (h8 : ∀ n ∈ s, n ≤ 255) : PCall Tryd.prog 5 [.sl 1 (s.map u8D)] (.ret (.b true)) := by
 by_cases hs : s.length ≤ 9
 ·have m1 := sH _ (good_row hs false) (Fz (s := s) (b := false) hs (fun h => by cases h))
  rw [row_mem hs] at m1
  have c1 := fZ _ (yO (good_row hs false) 0 (dC s s.length))
  rw [QV hs] at c1
  by_cases h0 : s.length = 0
  ·have e : s = [] := List.length_eq_zero_iff.1 h0
   subst e
   exact z2o _ m1 m1 c1 (fZ _ (yO (good_row hs false) 0 (-1)))
  ·have m2 := sH _ (good_row hs true) (Fz (s := s) (b := true) hs (fun _ => h0))
   rw [Uy hs h0] at m2
   have hr := jJ s s.length
   have c2 := fZ _ (yO (good_row hs false) 0 (dC s s.length - 1))
   rw [UB hs (by omega)] at c2
   exact z2m s hs h8 h0 m1 m2 c1 (by rw [bC (by omega) (by omega)]; exact c2)
 ·exact Yw s hs
end Go.Proofs.YtogfjinopifenaaDoor
