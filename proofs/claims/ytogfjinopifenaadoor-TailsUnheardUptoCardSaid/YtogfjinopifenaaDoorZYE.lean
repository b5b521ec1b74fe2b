/- Contracts: the laws of tails: TailsRow, TailsUnheard. -/
import Derived.Test.YtogfjinopifenaaDoorZYD
set_option linter.unusedSectionVars false
set_option linter.unusedSimpArgs false
set_option linter.unusedVariables false
set_option maxHeartbeats 4000000
namespace Go.Proofs.YtogfjinopifenaaDoor
open Go.Fw Go.Fw.Ref15 Go.Fw.Rg Go.Fw.Tl
set_option maxRecDepth 10000
variable [af]
theorem z3q {X Y Z : List (List D)} {e a b c : Int} (h : unB e a b c = true) (hX : (X.length : Int) = a) (hY : (Y.length : Int) = b) (hZ : (Z.length : Int) = c) : (bif e == e then (bif (bif (bif decide ((X.length : Int) > 16) then true else decide ((Y.length : Int) > 16)) then true else decide ((Z.length : Int) > 64)) then true else e == 151) else false) = true := by
 rw [hX, hY, hZ]; exact h
theorem z3r {e : Int} (h : (bif e != 0 then true else e != 0) = true) : e ≠ 0 := by
 intro h0; subst h0; exact Bool.noConfusion h
theorem z3s {e a b n m : Int} (hO : e = 0 → a = n ∧ b = m) (h : (bif e != 0 then true else e != 0) = false) : (bif a == n then b == m else false) = true := by
 have h0 : e = 0 := by
  cases q : e != 0 with
  | true => rw [q] at h; exact Bool.noConfusion h
  | false => simpa using q
 obtain ⟨rfl, rfl⟩ := hO h0
 simp
theorem z0o {p : Pr} {init : List Sm} {s : Sm} (hp : p.stmts = init ++ [s]) (hl : p.stmts.length ≤ 67108864) : (cut none (some (y9 p)) (p.stmts.map Sm.cs)).length = init.length := by
 rw [ww hp hl, hp]; simp [cut]
theorem z2l {A B C : List (List D)} {a b c n : Nat} (h1 : A.length = a) (h2 : B.length = b) (h3 : C.length = c) (h : a + b + c = n) : (((A ++ B ++ C).length : Nat) : Int) = (n : Int) := by
 rw [List.length_append, List.length_append, h1, h2, h3, h]
theorem Yx (p : Pr) (z : Nat) (g : dA p) (h0 : p.stmts = []) : PCall Tryd.prog 6 [p.d, .val (.int .u8 (z : Int))] (.ret (.b true)) := by
 refine ae tok hmix ⟨[], []⟩ Tryd.func6 rfl (by kernel_rfl) (by kernel_rfl) (by kernel_rfl) fun hf => ?_
 clear hf
 repeat' ((try (conv => whnf)) <;> first
  | (exact Bool.noConfusion (show false = true from h))
  | (exact (z1w h0 h).elim)
  | with_reducible refine BrI.intro (fun h => ?_) (fun h => ?_)
  | ((with_reducible refine aj ?_ ?_ ?_); rotate_left; (first | exact gu | exact ja _ (by assumption)))
  | ((with_reducible refine ai ?_); refine ⟨[], rfl, ?_, trivial⟩; conv => whnf)
  | fail)
 all_goals first
  | skip
theorem z0p (p : Pr) (z : Nat) (e : Int) (g : dA p) (he : (e != 0) = true) (h1 : PCall Tryd.prog 10 [p.d] (.ret (.tuple [.i 0, .i e]))) (h2 : PCall Tryd.prog 11 [p.d] (.ret (.tuple [.i 0, .i e]))) : PCall Tryd.prog 6 [p.d, .val (.int .u8 (z : Int))] (.ret (.b true)) := by
 refine ae tok hmix ⟨[], []⟩ Tryd.func6 rfl (by kernel_rfl) (by kernel_rfl) (by kernel_rfl) fun hf => ?_
 clear hf
 repeat' ((try (conv => whnf)) <;> first
  | (exact Bool.noConfusion (show false = true from h))
  | (exact (VS he h).elim)
  | with_reducible refine BrI.intro (fun h => ?_) (fun h => ?_)
  | ((with_reducible refine aj ?_ ?_ ?_); rotate_left; (first | exact gu | exact ja _ (by assumption) | exact h1 | exact h2))
  | ((with_reducible refine ai ?_); refine ⟨[], rfl, ?_, trivial⟩; conv => whnf)
  | fail)
 all_goals first
  | skip
theorem z3t (p : Pr) (z : Nat) (init : List Sm) (s : Sm) (n m a b e : Int) (g : dA p) (hp : p.stmts = init ++ [s]) (h1 : PCall Tryd.prog 10 [p.d] (.ret (.tuple [.i n, .i 0]))) (h2 : PCall Tryd.prog 11 [p.d] (.ret (.tuple [.i m, .i 0]))) (h3 : PCall Tryd.prog 10 [z0v p s z] (.ret (.tuple [.i a, .i e]))) (h4 : PCall Tryd.prog 11 [z0v p s z] (.ret (.tuple [.i b, .i e]))) (hB : e ≠ 0 → unB e ((p.states.length + 1 : Nat) : Int) ((p.lines.length + 1 : Nat) : Int) ((init.length + 3 : Nat) : Int) = true) (hO : e = 0 → a = n ∧ b = m) : PCall Tryd.prog 6 [p.d, .val (.int .u8 (z : Int))] (.ret (.b true)) := by
 refine ae tok hmix ⟨[], []⟩ Tryd.func6 rfl (by kernel_rfl) (by kernel_rfl) (by kernel_rfl) fun hf => ?_
 have hs5 := g.sm.stmts; have hs2 := g.sm.states; have hs3 := g.sm.lines
 clear hf
 repeat' ((try (conv => whnf)) <;> first
  | ((with_reducible refine BrI.ff_of ?_ ?_); exact rfl)
  | ((with_reducible refine aJ ?_ ?_ ?_ ?_ ?_); exact rfl; exact rfl; rotate_left; exact QZ hp hs5)
  | with_reducible refine BrI.intro (fun h => ?_) (fun h => ?_)
  | ((with_reducible refine aj ?_ ?_ ?_); rotate_left; (first | exact gu | exact ja _ (by assumption) | exact yM _ | exact Iw _ | exact h1 | exact h2 | exact h3 | exact h4))
  | (with_reducible refine bH.l _ ?_)
  | ((with_reducible refine aW ?_ ?_); exact rfl)
  | ((with_reducible refine app_step' ?_ ?_ ?_ ?_ ?_ ?_ ?_); exact rfl; exact rfl; exact rfl; exact rfl)
  | ((with_reducible refine aA ?_ ?_); kernel_rfl)
  | ((with_reducible refine ai ?_); refine ⟨[], rfl, ?_, trivial⟩; conv => whnf)
  | (with_reducible refine And.intro ?_ ?_)
  | exact kN rfl
  | fail)
 all_goals first
  | (rfl)
  | ((rw [List.length_map]; omega))
  | ((show (p.states.map Bd.cs).length ≤ 1073741824; rw [List.length_map]; omega))
  | ((show (p.lines.map Ln.cs).length ≤ 1073741824; rw [List.length_map]; omega))
  | ((exact (yH hp hs5).1))
  | ((exact (yH hp hs5).2))
  | ((have := z0b hp hs5; show (cut none (some (y9 p)) (p.stmts.map Sm.cs)).length ≤ 1073741824; omega))
  | ((exact congrArg D.b (z3q (hB (z3r h)) (z2l (a := 0) (c := 1) rfl (List.length_map _) rfl (by omega)) (z2l (a := 0) (c := 1) rfl (List.length_map _) rfl (by omega)) (z2l (a := 0) (c := 3) rfl (z0o hp hs5) rfl (by omega)))))
  | ((exact congrArg D.b (z3s hO h)))
  | skip
end Go.Proofs.YtogfjinopifenaaDoor
namespace Go.Proofs.YtogfjinopifenaaDoor
open Go.Fw Go.Fw.Ref15 Go.Fw.Rg Go.Fw.Tl
set_option maxRecDepth 10000
variable [af]
theorem Di (p : Pr) (g : dA p) (h : ((ak p).2 != 0) = true) : PCall Tryd.prog 10 [p.d] (.ret (.tuple [.i 0, .i (ak p).2])) := by
 have := ig p g; rw [iO, if_pos h] at this; exact this
theorem Dj (p : Pr) (g : dA p) (h : ((ak p).2 != 0) = true) : PCall Tryd.prog 11 [p.d] (.ret (.tuple [.i 0, .i (ak p).2])) := by
 have := kC p g; rw [lD, if_pos h] at this; exact this
theorem Dk (p : Pr) (g : dA p) (h : (ak p).2 = 0) : PCall Tryd.prog 10 [p.d] (.ret (.tuple [.i (latM p), .i 0])) := by
 have := ig p g; rw [XW h] at this; exact this
theorem sH (p : Pr) (g : dA p) (h : (ak p).2 = 0) : PCall Tryd.prog 11 [p.d] (.ret (.tuple [.i (oJ p), .i 0])) := by
 have := kC p g; rw [XX h] at this; exact this
theorem yN (p : Pr) : ((ak p).2 != 0) = true ∨ (ak p).2 = 0 := by
 cases h : (ak p).2 != 0 with
 | true => exact .inl rfl
 | false => exact .inr (by simpa using h)
theorem Iy (p : Pr) (z : Nat) (g : dA p) (hz : z ≤ 255) : PCall Tryd.prog 6 [p.d, .val (.int .u8 (z : Int))] (.ret (.b true)) := by
 by_cases h0 : p.stmts = []
 ·exact Yx p z g h0
 ·have hp : p.stmts = p.stmts.dropLast ++ [p.stmts.getLast h0] := (List.dropLast_concat_getLast h0).symm
  generalize p.stmts.dropLast = init at hp
  generalize p.stmts.getLast h0 = s at hp
  rcases yN p with h | h
  ·exact z0p p z _ g h (Di p g h) (Dj p g h)
  ·have hr := iL (aY h).2
   have hl := XF hr
   have hU : UnH p init s z := ⟨hp, hr, hz⟩
   have gq := X5 (sz := z) hp ⟨hl.1.2.1, hl.1.2.2.1, hl.1.2.2.2.2⟩ g
   have h3 := ig _ gq
   have h4 := kC _ gq
   rw [z1t] at h3
   rw [z1u] at h4
   have ed := X4 (sz := z) hp g.sm.stmts hz
   rw [ed] at h3 h4
   refine z3t p z init s _ _ _ _ _ g hp (Dk p g h) (sH p g h) h3 h4 (fun he => ?_) (fun he => ?_)
   ·have := z0a hU h he
    rw [Kv.1, Kv.2.1, Kv.2.2] at this
    exact this
   ·rw [XW he, XX he]
    exact z1v hU h he
end Go.Proofs.YtogfjinopifenaaDoor
