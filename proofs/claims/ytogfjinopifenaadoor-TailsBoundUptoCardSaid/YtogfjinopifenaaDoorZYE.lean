/- Contracts: the laws of tails: TailsRow, TailsUnheard. -/
import Derived.Test.YtogfjinopifenaaDoorZYD
set_option linter.unusedSectionVars false
set_option linter.unusedSimpArgs false
set_option linter.unusedVariables false
namespace Go.Proofs.YtogfjinopifenaaDoor
open Go.Fw Go.Fw.Ref15 Go.Fw.Rg Go.Fw.Tl
set_option maxRecDepth 10000
variable [GlobInt]
end Go.Proofs.YtogfjinopifenaaDoor
namespace Go.Proofs.YtogfjinopifenaaDoor
open Go.Fw Go.Fw.Ref15 Go.Fw.Rg Go.Fw.Tl
set_option maxRecDepth 10000
variable [GlobInt]
theorem qO (p : Pr) (g : bz p) (h : ((ai p).2 != 0) = true) : PCall Tryd.prog 10 [p.d] (.ret (.tuple [.i 0, .i (ai p).2])) := by
 have := dI p g; rw [dQ, if_pos h] at this; exact this
theorem qP (p : Pr) (g : bz p) (h : ((ai p).2 != 0) = true) : PCall Tryd.prog 11 [p.d] (.ret (.tuple [.i 0, .i (ai p).2])) := by
 have := fV p g; rw [iq, if_pos h] at this; exact this
theorem qQ (p : Pr) (g : bz p) (h : (ai p).2 = 0) : PCall Tryd.prog 10 [p.d] (.ret (.tuple [.i (latM p), .i 0])) := by
 have := dI p g; rw [GU h] at this; exact this
theorem kw (p : Pr) (g : bz p) (h : (ai p).2 = 0) : PCall Tryd.prog 11 [p.d] (.ret (.tuple [.i (ji p), .i 0])) := by
 have := fV p g; rw [GV h] at this; exact this
theorem nG (p : Pr) : ((ai p).2 != 0) = true ∨ (ai p).2 = 0 := by
 cases h : (ai p).2 != 0 with
 | true => exact .inl rfl
 | false => exact .inr (by simpa using h)
theorem nH {p : Pr} (g : bz p) (a b : Int) : bz (tlM p a b) := ⟨⟨g.sm.params, g.sm.states, g.sm.lines, g.sm.tables, g.sm.stmts⟩, g.hn, g.hT⟩
theorem BM (p : Pr) (a b : Nat) (g : bz p) (ha : a ≤ 65535) (hb : b ≤ 65535) : PCall Tryd.prog 4 [p.d, .val (.int .u16 (a : Int)), .val (.int .u16 (b : Int))] (.ret (.b true)) := by
 rcases nG p with h | h
 ·exact yK p a b _ g h (qO p g h) (qP p g h)
 ·have hr := dO (aO h).2
  have hl := Gs hr
  have hX : mm2 false 4096 (IntKind.i64.wrap (p.latency + IntKind.i64.wrap (a : Int))) = minL p a := by
   rw [xy a ha, aS (by omega) (by omega)]; rfl
  have hc : (dF p != 0) = false → dF p = 0 := fun q => by simpa using q
  refine BH p a b _ _ _ g (ED (aO h).1) (Jk hr) hl.1.2.1 hl.2.1 hl.1.2.2.1 (qQ p g h) (kw p g h) (di p g) (fun q ht => ?_) (fun q ht => ?_)
  ·have hY : mm2 false 1048576 (IntKind.i64.wrap (p.tail + IntKind.i64.wrap (b : Int))) = minT p b := by
    have := of_decide_eq_true ht
    rw [xy b hb, aS (by omega) (by omega), minT, if_pos ht]
   rw [hX, hY]
   have := di (tlM p (minL p a) (minT p b)) (nH g _ _)
   rw [xk (hc q)] at this; exact this
  ·have hY : p.tail = minT p b := by rw [minT, if_neg (by rw [ht]; decide)]
   rw [hX]
   have := di (tlM p (minL p a) (minT p b)) (nH g _ _)
   rw [xk (hc q), ← hY] at this; exact this
end Go.Proofs.YtogfjinopifenaaDoor
