/- Contracts: package ranges: Check and Interval, whole. -/
import Derived.Test.YtogfjinopifenaaDoorZXC
set_option linter.unusedSectionVars false
set_option linter.unusedSimpArgs false
set_option linter.unusedVariables false
namespace Go.Proofs.YtogfjinopifenaaDoor
open Go.Fw Go.Fw.Rg Go.Fw.Nam
set_option maxRecDepth 10000
variable [GlobInt]
theorem um (p : Pr) (g : bz p) : ∃ pd, PCall Tryd.prog 45 [p.d] (.ret (.tuple [pd, .i (ai p).2])) ∧ (((ai p).2 != 0) = true → pd = .val (.pointer none) ∨ pd = .ptr (fC p (dm p p.stmts []))) ∧ ((ai p).2 = 0 → pd = .ptr (fC p (ai p).1)) := by
 cases he : resE p != 0 with
 | true =>
  rw [iF he]
  refine ⟨.val (.pointer none), ?_, fun _ => .inl rfl, fun h => ?_⟩
  ·cases h2 : (resolveC p).2 != 0 with
   | true => rw [show resE p = (resolveC p).2 from by rw [resE, if_pos h2]]; exact D5 p g h2
   | false =>
    cases h3 : jo p (resolveC p).1 with
    | true => rw [resE, if_neg (by rw [h2]; decide), h3] at he; exact absurd he (by decide)
    | false => rw [show resE p = 150 from by rw [resE, if_neg (by rw [h2]; decide), h3]; rfl]; exact D6 p g h2 h3
  ·have h : resE p = 0 := h
   rw [h] at he; exact absurd he (by decide)
 | false =>
  have hz : resE p = 0 := by simpa using he
  have hr := dO hz
  have hq := mi hz
  cases hs : stmtsM p p.stmts [] with
  | ok F =>
   rw [fD hz hs]
   have hF : dm p p.stmts [] = F := Gh hs
   exact ⟨.ptr (fC p F), D7 p F g (by rw [hq]) (by rw [hq]) hr.rng hr.wf hs hF, fun h => Bool.noConfusion (show false = true from h), fun _ => rfl⟩
  | error e =>
   rw [mF hz hs]
   refine ⟨.ptr (fC p (dm p p.stmts [])), Bz p _ e g (by rw [hq]) (by rw [hq]) hr.rng hr.wf hs rfl, fun _ => .inr rfl, fun h => ?_⟩
   have := zW hs
   have h : e = 0 := h
   rw [h] at this; exact absurd this (by decide)
theorem jD (p : Pr) (g : bz p) : PCall Tryd.prog 14 [p.d] (.ret (.i (ai p).2)) := by
 obtain ⟨pd, h1, h2, h3⟩ := um p g
 exact check_any p pd _ h1
theorem nS (p : Pr) (x : Ex) (g : bz p) (hx : Ref15.nodes x ≤ 1073741824) : PCall Tryd.prog 33 [p.d, x.d] (.ret (Lr (bn p x))) := by
 obtain ⟨pd, h1, h2, h3⟩ := um p g
 cases he : (ai p).2 != 0 with
 | true =>
  rw [Gf he]
  rcases h2 he with r | r
  ·subst r; exact Ho p x _ h1 he
  ·subst r; exact Hq p x _ _ h1 he
 | false =>
  have hz : (ai p).2 = 0 := by simpa using he
  have h3 := h3 hz; subst h3
  rw [hz] at h1
  have hb := (aO hz).1
  cases hx2 : mD p x with
  | false => rw [zY hz hx2]; exact Ea p x _ h1 hx2
  | true =>
   rw [zZ hz hx2]
   have hf := kP x p (ai p).1 hb.res.rng hb.ins g.hT hx (IU hb hx2)
   cases hm : aV p (ai p).1 x with
   | ok s => rw [hm] at hf; exact Jy p x _ s h1 hx2 hf
   | error e => rw [hm] at hf; exact Ht p x _ e h1 hx2 hf
end Go.Proofs.YtogfjinopifenaaDoor
