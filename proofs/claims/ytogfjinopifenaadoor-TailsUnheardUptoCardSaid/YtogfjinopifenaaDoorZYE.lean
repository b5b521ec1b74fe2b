/- Contracts: the laws of tails: TailsRow, TailsUnheard. -/
import Derived.Test.YtogfjinopifenaaDoorZYD
set_option linter.unusedSectionVars false
set_option linter.unusedSimpArgs false
set_option linter.unusedVariables false
set_option maxHeartbeats 4000000
namespace Go.Proofs.YtogfjinopifenaaDoor
open Go.Fw Go.Fw.Ref15 Go.Fw.Rg Go.Fw.Tl
set_option maxRecDepth 10000
variable [GlobInt]
theorem z2d {X Y Z : List (List D)} {e a b c : Int} (h : unB e a b c = true) (hX : (X.length : Int) = a) (hY : (Y.length : Int) = b) (hZ : (Z.length : Int) = c) : (bif e == e then (bif (bif (bif decide ((X.length : Int) > 16) then true else decide ((Y.length : Int) > 16)) then true else decide ((Z.length : Int) > 64)) then true else e == 151) else false) = true := by
 rw [hX, hY, hZ]; exact h
theorem z2e {e : Int} (h : (bif e != 0 then true else e != 0) = true) : e ≠ 0 := by
 intro h0; subst h0; exact Bool.noConfusion h
theorem z2f {e a b n m : Int} (hO : e = 0 → a = n ∧ b = m) (h : (bif e != 0 then true else e != 0) = false) : (bif a == n then b == m else false) = true := by
 have h0 : e = 0 := by
  cases q : e != 0 with
  | true => rw [q] at h; exact Bool.noConfusion h
  | false => simpa using q
 obtain ⟨rfl, rfl⟩ := hO h0
 simp
theorem ZI {p : Pr} {init : List Sm} {s : Sm} (hp : p.stmts = init ++ [s]) (hl : p.stmts.length ≤ 67108864) : (cut none (some (yQ p)) (p.stmts.map Sm.cs)).length = init.length := by
 rw [vH hp hl, hp]; simp [cut]
theorem z1d {A B C : List (List D)} {a b c n : Nat} (h1 : A.length = a) (h2 : B.length = b) (h3 : C.length = c) (h : a + b + c = n) : (((A ++ B ++ C).length : Nat) : Int) = (n : Int) := by
 rw [List.length_append, List.length_append, h1, h2, h3, h]
theorem XX (p : Pr) (z : Nat) (g : cZ p) (h0 : p.stmts = []) : PCall Tryd.prog 6 [p.d, .val (.int .u8 (z : Int))] (.ret (.b true)) := by
 refine ae tok hmix ⟨[], []⟩ Tryd.func6 rfl (by kernel_rfl) (by kernel_rfl) (by kernel_rfl) fun hf => ?_
 clear hf
 repeat' ((try (conv => whnf)) <;> first
  | (exact Bool.noConfusion (show false = true from h))
  | (exact (z0w h0 h).elim)
  | with_reducible refine BrI.intro (fun h => ?_) (fun h => ?_)
  | ((with_reducible refine ai ?_ ?_ ?_); rotate_left; (first | exact fP | exact iQ _ (by assumption)))
  | ((with_reducible refine ah ?_); refine ⟨[], rfl, ?_, trivial⟩; conv => whnf))
 all_goals first
  | skip
theorem ZJ (p : Pr) (z : Nat) (e : Int) (g : cZ p) (he : (e != 0) = true) (h1 : PCall Tryd.prog 10 [p.d] (.ret (.tuple [.i 0, .i e]))) (h2 : PCall Tryd.prog 11 [p.d] (.ret (.tuple [.i 0, .i e]))) : PCall Tryd.prog 6 [p.d, .val (.int .u8 (z : Int))] (.ret (.b true)) := by
 refine ae tok hmix ⟨[], []⟩ Tryd.func6 rfl (by kernel_rfl) (by kernel_rfl) (by kernel_rfl) fun hf => ?_
 clear hf
 repeat' ((try (conv => whnf)) <;> first
  | (exact Bool.noConfusion (show false = true from h))
  | (exact (Vh he h).elim)
  | with_reducible refine BrI.intro (fun h => ?_) (fun h => ?_)
  | ((with_reducible refine ai ?_ ?_ ?_); rotate_left; (first | exact fP | exact iQ _ (by assumption) | exact h1 | exact h2))
  | ((with_reducible refine ah ?_); refine ⟨[], rfl, ?_, trivial⟩; conv => whnf))
 all_goals first
  | skip
theorem z2g (p : Pr) (z : Nat) (init : List Sm) (s : Sm) (n m a b e : Int) (g : cZ p) (hp : p.stmts = init ++ [s]) (h1 : PCall Tryd.prog 10 [p.d] (.ret (.tuple [.i n, .i 0]))) (h2 : PCall Tryd.prog 11 [p.d] (.ret (.tuple [.i m, .i 0]))) (h3 : PCall Tryd.prog 10 [ZQ p s z] (.ret (.tuple [.i a, .i e]))) (h4 : PCall Tryd.prog 11 [ZQ p s z] (.ret (.tuple [.i b, .i e]))) (hB : e ≠ 0 → unB e ((p.states.length + 1 : Nat) : Int) ((p.lines.length + 1 : Nat) : Int) ((init.length + 3 : Nat) : Int) = true) (hO : e = 0 → a = n ∧ b = m) : PCall Tryd.prog 6 [p.d, .val (.int .u8 (z : Int))] (.ret (.b true)) := by
 refine ae tok hmix ⟨[], []⟩ Tryd.func6 rfl (by kernel_rfl) (by kernel_rfl) (by kernel_rfl) fun hf => ?_
 have hs5 := g.sm.stmts; have hs2 := g.sm.states; have hs3 := g.sm.lines
 clear hf
 repeat' ((try (conv => whnf)) <;> first
  | ((with_reducible refine BrI.ff_of ?_ ?_); exact rfl)
  | ((with_reducible refine aH ?_ ?_ ?_ ?_ ?_); exact rfl; exact rfl; rotate_left; exact Qx hp hs5)
  | with_reducible refine BrI.intro (fun h => ?_) (fun h => ?_)
  | ((with_reducible refine ai ?_ ?_ ?_); rotate_left; (first | exact fP | exact iQ _ (by assumption) | exact yt _ | exact Ht _ | exact h1 | exact h2 | exact h3 | exact h4))
  | (with_reducible refine bF.l _ ?_)
  | ((with_reducible refine aT ?_ ?_); exact rfl)
  | ((with_reducible refine app_step' ?_ ?_ ?_ ?_ ?_ ?_ ?_); exact rfl; exact rfl; exact rfl; exact rfl)
  | ((with_reducible refine ay ?_ ?_); kernel_rfl)
  | ((with_reducible refine ah ?_); refine ⟨[], rfl, ?_, trivial⟩; conv => whnf)
  | (with_reducible refine And.intro ?_ ?_)
  | exact kz rfl)
 all_goals first
  | (rfl)
  | ((rw [List.length_map]; omega))
  | ((show (p.states.map Bd.cs).length ≤ 1073741824; rw [List.length_map]; omega))
  | ((show (p.lines.map Ln.cs).length ≤ 1073741824; rw [List.length_map]; omega))
  | ((exact (yh hp hs5).1))
  | ((exact (yh hp hs5).2))
  | ((have := Zw hp hs5; show (cut none (some (yQ p)) (p.stmts.map Sm.cs)).length ≤ 1073741824; omega))
  | ((exact congrArg D.b (z2d (hB (z2e h)) (z1d (a := 0) (c := 1) rfl (List.length_map _) rfl (by omega)) (z1d (a := 0) (c := 1) rfl (List.length_map _) rfl (by omega)) (z1d (a := 0) (c := 3) rfl (ZI hp hs5) rfl (by omega)))))
  | ((exact congrArg D.b (z2f hO h)))
  | skip
end Go.Proofs.YtogfjinopifenaaDoor
namespace Go.Proofs.YtogfjinopifenaaDoor
open Go.Fw Go.Fw.Ref15 Go.Fw.Rg Go.Fw.Tl
set_option maxRecDepth 10000
variable [GlobInt]
theorem Cc (p : Pr) (g : cZ p) (h : ((aj p).2 != 0) = true) : PCall Tryd.prog 10 [p.d] (.ret (.tuple [.i 0, .i (aj p).2])) := by
 have := gK p g; rw [iG, if_pos h] at this; exact this
theorem Ce (p : Pr) (g : cZ p) (h : ((aj p).2 != 0) = true) : PCall Tryd.prog 11 [p.d] (.ret (.tuple [.i 0, .i (aj p).2])) := by
 have := jS p g; rw [kW, if_pos h] at this; exact this
theorem Cf (p : Pr) (g : cZ p) (h : (aj p).2 = 0) : PCall Tryd.prog 10 [p.d] (.ret (.tuple [.i (latM p), .i 0])) := by
 have := gK p g; rw [Xy h] at this; exact this
theorem rJ (p : Pr) (g : cZ p) (h : (aj p).2 = 0) : PCall Tryd.prog 11 [p.d] (.ret (.tuple [.i (nT p), .i 0])) := by
 have := jS p g; rw [Xz h] at this; exact this
theorem yu (p : Pr) : ((aj p).2 != 0) = true ∨ (aj p).2 = 0 := by
 cases h : (aj p).2 != 0 with
 | true => exact .inl rfl
 | false => exact .inr (by simpa using h)
theorem Hu (p : Pr) (z : Nat) (g : cZ p) (hz : z ≤ 255) : PCall Tryd.prog 6 [p.d, .val (.int .u8 (z : Int))] (.ret (.b true)) := by
 by_cases h0 : p.stmts = []
 ·exact XX p z g h0
 ·have hp : p.stmts = p.stmts.dropLast ++ [p.stmts.getLast h0] := (List.dropLast_concat_getLast h0).symm
  generalize p.stmts.dropLast = init at hp
  generalize p.stmts.getLast h0 = s at hp
  rcases yu p with h | h
  ·exact ZJ p z _ g h (Cc p g h) (Ce p g h)
  ·have hr := iD (aV h).2
   have hl := Xh hr
   have hU : UnH p init s z := ⟨hp, hr, hz⟩
   have gq := XF (sz := z) hp ⟨hl.1.2.1, hl.1.2.2.1, hl.1.2.2.2.2⟩ g
   have h3 := gK _ gq
   have h4 := jS _ gq
   rw [z0t] at h3
   rw [z0u] at h4
   have ed := XE (sz := z) hp g.sm.stmts hz
   rw [ed] at h3 h4
   refine z2g p z init s _ _ _ _ _ g hp (Cf p g h) (rJ p g h) h3 h4 (fun he => ?_) (fun he => ?_)
   ·have := Zv hU h he
    rw [JM.1, JM.2.1, JM.2.2] at this
    exact this
   ·rw [Xy he, Xz he]
    exact z0v hU h he
end Go.Proofs.YtogfjinopifenaaDoor
