/- Contracts: the laws of tails: TailsRow, TailsUnheard. -/
import Derived.Test.YtogfjinopifenaaDoorZYD
set_option linter.unusedSectionVars false
set_option linter.unusedSimpArgs false
set_option linter.unusedVariables false
set_option maxHeartbeats 4000000
namespace Go.Proofs.YtogfjinopifenaaDoor
open Go.Fw Go.Fw.Ref15 Go.Fw.Rg Go.Fw.Tl
set_option maxRecDepth 10000
variable [GlobInt] {s : List Nat}
theorem ZG (a : Int) : (bif (bif (bif (bif (0 : Int) != 0 then true else (0 : Int) != 0) then true else a != a) then true else (-1 : Int) != -1) then true else (0 : Int) != 0) = false := by simp
theorem z1b (hs : s.length ≤ 9) : decide (((s.map u8D).length : Int) > 9) = false := by rw [List.length_map]; exact decide_eq_false (by omega)
theorem ZH (hs : ¬ s.length ≤ 9) : decide (((s.map u8D).length : Int) > 9) = true := by rw [List.length_map]; exact decide_eq_true (by omega)
theorem z1c (h0 : s.length ≠ 0) : (((s.map u8D).length : Int) == 0) = false := by rw [List.length_map, beq_eq_false_iff_ne]; omega
theorem Ui {a : Int} : (bif a == 0 then true else (171 : Int) == 171) = true := by cases a == 0 <;> rfl
theorem XW (s : List Nat) (hs : ¬ s.length ≤ 9) : PCall Tryd.prog 5 [.sl 1 (s.map u8D)] (.ret (.b true)) := by
 refine ae tok hmix ⟨[], []⟩ Tryd.func5 rfl (by kernel_rfl) (by kernel_rfl) (by kernel_rfl) fun hf => ?_
 clear hf
 repeat' ((try (conv => whnf)) <;> first
  | (exact Bool.noConfusion (show false = true from h))
  | ((with_reducible refine BrI.tt_of ?_ ?_); exact ZH hs)
  | with_reducible refine BrI.intro (fun h => ?_) (fun h => ?_)
  | ((with_reducible refine ai ?_ ?_ ?_); rotate_left; (exact fP))
  | ((with_reducible refine ah ?_); refine ⟨[], rfl, ?_, trivial⟩; conv => whnf))
 all_goals first
  | skip
theorem z1e (s : List Nat) (hs : s.length ≤ 9) (h8 : ∀ n ∈ s, n ≤ 255) (h0 : s.length ≠ 0) (m1 : PCall Tryd.prog 11 [(rowP s false).d] (.ret (.tuple [.i (di s s.length), .i 0]))) (m2 : PCall Tryd.prog 11 [(rowP s true).d] (.ret (.tuple [.i (-1), .i 0]))) (c1 : PCall Tryd.prog 12 [(tlM (rowP s false) 0 (di s s.length)).d] (.ret (.i 0))) (c2 : PCall Tryd.prog 12 [(tlM (rowP s false) 0 (IntKind.i64.wrap (di s s.length - 1))).d] (.ret (.i 171))) : PCall Tryd.prog 5 [.sl 1 (s.map u8D)] (.ret (.b true)) := by
 refine ae tok hmix ⟨[], []⟩ Tryd.func5 rfl (by kernel_rfl) (by kernel_rfl) (by kernel_rfl) fun hf => ?_
 clear hf
 repeat' ((try (conv => whnf)) <;> first
  | (exact Bool.noConfusion (show false = true from h))
  | ((with_reducible refine BrI.ff_of ?_ ?_); exact z1b hs)
  | ((with_reducible refine BrI.ff_of ?_ ?_); exact z1c h0)
  | ((with_reducible refine BrI.ff_of ?_ ?_); exact ZG _)
  | with_reducible refine BrI.intro (fun h => ?_) (fun h => ?_)
  | ((with_reducible refine ai ?_ ?_ ?_); rotate_left; (first | exact fP | exact JR s _ hs h8 | exact m1 | exact m2 | exact c1 | exact c2))
  | ((with_reducible refine bz ?_ ?_ (fun hg => ?_) ?_); exact rfl)
  | ((with_reducible refine dA ?_ ?_); with_reducible exact rfl; with_reducible exact rfl)
  | ((with_reducible refine ah ?_); refine ⟨[], rfl, ?_, trivial⟩; conv => whnf))
 all_goals first
  | ((exact congrArg D.b Ui))
  | skip
theorem z1f (v : Int) (m1 : PCall Tryd.prog 11 [(rowP [] false).d] (.ret (.tuple [.i 0, .i 0]))) (m2 : PCall Tryd.prog 11 [(rowP [] true).d] (.ret (.tuple [.i 0, .i 0]))) (c1 : PCall Tryd.prog 12 [(tlM (rowP [] false) 0 0).d] (.ret (.i 0))) (c2 : PCall Tryd.prog 12 [(tlM (rowP [] false) 0 (-1)).d] (.ret (.i v))) : PCall Tryd.prog 5 [.sl 1 (([] : List Nat).map u8D)] (.ret (.b true)) := by
 refine ae tok hmix ⟨[], []⟩ Tryd.func5 rfl (by kernel_rfl) (by kernel_rfl) (by kernel_rfl) fun hf => ?_
 clear hf
 repeat' ((try (conv => whnf)) <;> first
  | ((with_reducible refine BrI.ff_of ?_ ?_); exact rfl)
  | ((with_reducible refine BrI.tt_of ?_ ?_); exact rfl)
  | ((with_reducible refine ai ?_ ?_ ?_); rotate_left; (first | exact fP | exact JR [] _ (by decide) (by intro n h; cases h) | exact m1 | exact c1 | exact c2))
  | ((with_reducible refine bz ?_ ?_ (fun hg => ?_) ?_); exact rfl)
  | ((with_reducible refine dA ?_ ?_); with_reducible exact rfl; with_reducible exact rfl)
  | ((with_reducible refine ah ?_); refine ⟨[], rfl, ?_, trivial⟩; conv => whnf))
 all_goals first
  | (rfl)
  | skip
end Go.Proofs.YtogfjinopifenaaDoor
namespace Go.Proofs.YtogfjinopifenaaDoor
open Go.Fw Go.Fw.Ref15 Go.Fw.Rg Go.Fw.Tl
set_option maxRecDepth 10000
variable [GlobInt]
theorem rJ (p : Pr) (g : cZ p) (h : (aj p).2 = 0) : PCall Tryd.prog 11 [p.d] (.ret (.tuple [.i (nT p), .i 0])) := by
 have := jS p g; rw [Xz h] at this; exact this
theorem yw {p : Pr} (g : cZ p) (a b : Int) : cZ (tlM p a b) := ⟨⟨g.sm.params, g.sm.states, g.sm.lines, g.sm.tables, g.sm.stmts⟩, g.hn, g.hT⟩
theorem good_row {s : List Nat} (hs : s.length ≤ 9) (b : Bool) : cZ (rowP s b) := by
 refine ⟨⟨Nat.zero_le _, Nat.zero_le _, by simp [rowP]; omega, Nat.zero_le _, by simp [rowP]; omega⟩, fun t ht => ?_, fun t ht => by cases ht⟩
 have ht : t ∈ (List.range s.length).map (EZ s.length b) ++ [Zo s.length] := ht
 have hx : ∀ i b, Ref15.nodes (Fp s.length b i) ≤ 1073741824 := by
  intro i b
  rw [Fp]
  split
  ·split
   ·show (6 : Nat) ≤ _; decide
   ·show (2 : Nat) ≤ _; decide
  ·show (2 : Nat) ≤ _; decide
 rcases List.mem_append.1 ht with ht | ht
 ·obtain ⟨i, _, rfl⟩ := List.mem_map.1 ht
  exact hx i b
 ·simp only [List.mem_cons, List.not_mem_nil, or_false] at ht
  subst ht; exact hx _ _
theorem XY (s : List Nat) (h8 : ∀ n ∈ s, n ≤ 255) : PCall Tryd.prog 5 [.sl 1 (s.map u8D)] (.ret (.b true)) := by
 by_cases hs : s.length ≤ 9
 ·have m1 := rJ _ (good_row hs false) (E5 (s := s) (b := false) hs (fun h => by cases h))
  rw [row_mem hs] at m1
  have c1 := fK _ (yw (good_row hs false) 0 (di s s.length))
  rw [Qs hs] at c1
  by_cases h0 : s.length = 0
  ·have e : s = [] := List.length_eq_zero_iff.1 h0
   subst e
   exact z1f _ m1 m1 c1 (fK _ (yw (good_row hs false) 0 (-1)))
  ·have m2 := rJ _ (good_row hs true) (E5 (s := s) (b := true) hs (fun _ => h0))
   rw [TW hs h0] at m2
   have hr := jv s s.length
   have c2 := fK _ (yw (good_row hs false) 0 (di s s.length - 1))
   rw [Ua hs (by omega)] at c2
   exact z1e s hs h8 h0 m1 m2 c1 (by rw [bu (by omega) (by omega)]; exact c2)
 ·exact XW s hs
end Go.Proofs.YtogfjinopifenaaDoor
