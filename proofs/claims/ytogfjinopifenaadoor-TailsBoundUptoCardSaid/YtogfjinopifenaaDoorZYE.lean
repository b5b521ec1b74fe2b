/- Contracts: the laws of tails: TailsRow, TailsUnheard. -/
import Derived.Test.YtogfjinopifenaaDoorZYD
set_option linter.unusedSectionVars false
set_option linter.unusedSimpArgs false
set_option linter.unusedVariables false
namespace Go.Proofs.YtogfjinopifenaaDoor
open Go.Fw Go.Fw.Ref15 Go.Fw.Rg Go.Fw.Tl
set_option maxRecDepth 10000
variable [GlobInt]
end Go.Proofs.YtogfjinopifenaaDoor
namespace Go.Proofs.YtogfjinopifenaaDoor
open Go.Fw Go.Fw.Ref15 Go.Fw.Rg Go.Fw.Tl
set_option maxRecDepth 10000
variable [GlobInt]
theorem Cc (p : Pr) (g : cZ p) (h : ((aj p).2 != 0) = true) : PCall Tryd.prog 10 [p.d] (.ret (.tuple [.i 0, .i (aj p).2])) := by
 have := gK p g; rw [iG, if_pos h] at this; exact this
theorem Ce (p : Pr) (g : cZ p) (h : ((aj p).2 != 0) = true) : PCall Tryd.prog 11 [p.d] (.ret (.tuple [.i 0, .i (aj p).2])) := by
 have := jS p g; rw [kW, if_pos h] at this; exact this
theorem Cf (p : Pr) (g : cZ p) (h : (aj p).2 = 0) : PCall Tryd.prog 10 [p.d] (.ret (.tuple [.i (latM p), .i 0])) := by
 have := gK p g; rw [Xy h] at this; exact this
theorem rJ (p : Pr) (g : cZ p) (h : (aj p).2 = 0) : PCall Tryd.prog 11 [p.d] (.ret (.tuple [.i (nT p), .i 0])) := by
 have := jS p g; rw [Xz h] at this; exact this
theorem yu (p : Pr) : ((aj p).2 != 0) = true ∨ (aj p).2 = 0 := by
 cases h : (aj p).2 != 0 with
 | true => exact .inl rfl
 | false => exact .inr (by simpa using h)
theorem yw {p : Pr} (g : cZ p) (a b : Int) : cZ (tlM p a b) := ⟨⟨g.sm.params, g.sm.states, g.sm.lines, g.sm.tables, g.sm.stmts⟩, g.hn, g.hT⟩
theorem QI (p : Pr) (a b : Nat) (g : cZ p) (ha : a ≤ 65535) (hb : b ≤ 65535) : PCall Tryd.prog 4 [p.d, .val (.int .u16 (a : Int)), .val (.int .u16 (b : Int))] (.ret (.b true)) := by
 rcases yu p with h | h
 ·exact MB p a b _ g h (Cc p g h) (Ce p g h)
 ·have hr := iD (aV h).2
  have hl := Xh hr
  have hX : mm2 false 4096 (IntKind.i64.wrap (p.latency + IntKind.i64.wrap (a : Int))) = minL p a := by
   rw [JL a ha, bu (by omega) (by omega)]; rfl
  have hc : (gJ p != 0) = false → gJ p = 0 := fun q => by simpa using q
  refine QD p a b _ _ _ g (UT (aV h).1) (Zl hr) hl.1.2.1 hl.2.1 hl.1.2.2.1 (Cf p g h) (rJ p g h) (fK p g) (fun q ht => ?_) (fun q ht => ?_)
  ·have hY : mm2 false 1048576 (IntKind.i64.wrap (p.tail + IntKind.i64.wrap (b : Int))) = minT p b := by
    have := of_decide_eq_true ht
    rw [JL b hb, bu (by omega) (by omega), minT, if_pos ht]
   rw [hX, hY]
   have := fK (tlM p (minL p a) (minT p b)) (yw g _ _)
   rw [JE (hc q)] at this; exact this
  ·have hY : p.tail = minT p b := by rw [minT, if_neg (by rw [ht]; decide)]
   rw [hX]
   have := fK (tlM p (minL p a) (minT p b)) (yw g _ _)
   rw [JE (hc q), ← hY] at this; exact this
end Go.Proofs.YtogfjinopifenaaDoor
