/- Contracts: package ranges: Check and Interval, whole. -/
import Derived.Test.YtogfjinopifenaaDoorZXC
set_option linter.unusedSectionVars false
set_option linter.unusedSimpArgs false
set_option linter.unusedVariables false
namespace Go.Proofs.YtogfjinopifenaaDoor
open Go.Fw Go.Fw.Rg Go.Fw.Nam
set_option maxRecDepth 10000
variable [af]
theorem FY (p : Pr) (g : dA p) : ∃ pd, PCall Tryd.prog 45 [p.d] (.ret (.tuple [pd, .i (ak p).2])) ∧ (((ak p).2 != 0) = true → pd = .val (.pointer none) ∨ pd = .ptr (fC p (gm p p.stmts []))) ∧ ((ak p).2 = 0 → pd = .ptr (fC p (ak p).1)) := by
 cases he : resE p != 0 with
 | true =>
  rw [lQ he]
  refine ⟨.val (.pointer none), ?_, fun _ => .inl rfl, fun h => ?_⟩
  ·cases h2 : (resolveC p).2 != 0 with
   | true => rw [show resE p = (resolveC p).2 from by rw [resE, if_pos h2]]; exact UK p g h2
   | false =>
    cases h3 : pq p (resolveC p).1 with
    | true => rw [resE, if_neg (by rw [h2]; decide), h3] at he; exact absurd he (by decide)
    | false => rw [show resE p = 150 from by rw [resE, if_neg (by rw [h2]; decide), h3]; rfl]; exact UL p g h2 h3
  ·have h : resE p = 0 := h
   rw [h] at he; exact absurd he (by decide)
 | false =>
  have hz : resE p = 0 := by simpa using he
  have hr := iL hz
  have hq := yg hz
  cases hs : stmtsM p p.stmts [] with
  | ok F =>
   rw [jI hz hs]
   have hF : gm p p.stmts [] = F := Xx hs
   exact ⟨.ptr (fC p F), UM p F g (by rw [hq]) (by rw [hq]) hr.rng hr.wf hs hF, fun h => Bool.noConfusion (show false = true from h), fun _ => rfl⟩
  | error e =>
   rw [yt hz hs]
   refine ⟨.ptr (fC p (gm p p.stmts [])), Q8 p _ e g (by rw [hq]) (by rw [hq]) hr.rng hr.wf hs rfl, fun _ => .inr rfl, fun h => ?_⟩
   have := Qh hs
   have h : e = 0 := h
   rw [h] at this; exact absurd this (by decide)
theorem qy (p : Pr) (g : dA p) : PCall Tryd.prog 14 [p.d] (.ret (.i (ak p).2)) := by
 obtain ⟨pd, h1, h2, h3⟩ := FY p g
 exact check_any p pd _ h1
theorem zk (p : Pr) (x : Ex) (g : dA p) (hx : Ref15.nodes x ≤ 1073741824) : PCall Tryd.prog 33 [p.d, x.d] (.ret (z3c (dm p x))) := by
 obtain ⟨pd, h1, h2, h3⟩ := FY p g
 cases he : (ak p).2 != 0 with
 | true =>
  rw [Xv he]
  rcases h2 he with r | r
  ·subst r; exact Yd p x _ h1 he
  ·subst r; exact Ye p x _ _ h1 he
 | false =>
  have hz : (ak p).2 = 0 := by simpa using he
  have h3 := h3 hz; subst h3
  rw [hz] at h1
  have hb := (aY hz).1
  cases hx2 : yj p x with
  | false => rw [Qj hz hx2]; exact UQ p x _ h1 hx2
  | true =>
   rw [Qk hz hx2]
   have hf := uy x p (ak p).1 hb.res.rng hb.ins g.hT hx (Zy hb hx2)
   cases hm : bJ p (ak p).1 x with
   | ok s => rw [hm] at hf; exact z0d p x _ s h1 hx2 hf
   | error e => rw [hm] at hf; exact Yf p x _ e h1 hx2 hf
end Go.Proofs.YtogfjinopifenaaDoor
