/- Contracts: the laws of tails: TailsRow, TailsUnheard. -/
import Derived.Test.YtogfjinopifenaaDoorZYD
set_option linter.unusedSectionVars false
set_option linter.unusedSimpArgs false
set_option linter.unusedVariables false
namespace Go.Proofs.YtogfjinopifenaaDoor
open Go.Fw Go.Fw.Ref15 Go.Fw.Rg Go.Fw.Tl
set_option maxRecDepth 10000
variable [GlobInt]
end Go.Proofs.YtogfjinopifenaaDoor
namespace Go.Proofs.YtogfjinopifenaaDoor
open Go.Fw Go.Fw.Ref15 Go.Fw.Rg Go.Fw.Tl
set_option maxRecDepth 10000
variable [GlobInt]
theorem Cc (p : Pr) (g : cZ p) (h : ((aj p).2 != 0) = true) : PCall Tryd.prog 10 [p.d] (.ret (.tuple [.i 0, .i (aj p).2])) := by
 have := gK p g; rw [iG, if_pos h] at this; exact this
theorem Ce (p : Pr) (g : cZ p) (h : ((aj p).2 != 0) = true) : PCall Tryd.prog 11 [p.d] (.ret (.tuple [.i 0, .i (aj p).2])) := by
 have := jS p g; rw [kW, if_pos h] at this; exact this
theorem Cf (p : Pr) (g : cZ p) (h : (aj p).2 = 0) : PCall Tryd.prog 10 [p.d] (.ret (.tuple [.i (latM p), .i 0])) := by
 have := gK p g; rw [Xy h] at this; exact this
theorem rJ (p : Pr) (g : cZ p) (h : (aj p).2 = 0) : PCall Tryd.prog 11 [p.d] (.ret (.tuple [.i (nT p), .i 0])) := by
 have := jS p g; rw [Xz h] at this; exact this
theorem yu (p : Pr) : ((aj p).2 != 0) = true ∨ (aj p).2 = 0 := by
 cases h : (aj p).2 != 0 with
 | true => exact .inl rfl
 | false => exact .inr (by simpa using h)
theorem Uj (p : Pr) (g : cZ p) : PCall Tryd.prog 3 [p.d] (.ret (.b true)) := by
 rcases yu p with h | h
 ·have h3 := fK p g
  rw [gJ, if_pos h] at h3
  exact QC p _ g h (Cc p g h) (Ce p g h) h3 (pR p g)
 ·have h0 := eU p g.sm g.hn
  rw [xI (aV h).2] at h0
  have h4 := pR p g
  rw [h] at h4
  have h5 := gG p p
  rw [(fJ p p).2 rfl] at h5
  exact Uh p _ _ _ g (XC h) h0 (Cf p g h) (rJ p g h) (fK p g) h4 h5
end Go.Proofs.YtogfjinopifenaaDoor
