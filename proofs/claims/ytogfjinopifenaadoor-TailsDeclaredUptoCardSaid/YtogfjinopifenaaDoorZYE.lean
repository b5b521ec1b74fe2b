/- Contracts: the laws of tails: TailsRow, TailsUnheard. -/
import Derived.Test.YtogfjinopifenaaDoorZYD
set_option linter.unusedSectionVars false
set_option linter.unusedSimpArgs false
set_option linter.unusedVariables false
namespace Go.Proofs.YtogfjinopifenaaDoor
open Go.Fw Go.Fw.Ref15 Go.Fw.Rg Go.Fw.Tl
set_option maxRecDepth 10000
variable [af]
end Go.Proofs.YtogfjinopifenaaDoor
namespace Go.Proofs.YtogfjinopifenaaDoor
open Go.Fw Go.Fw.Ref15 Go.Fw.Rg Go.Fw.Tl
set_option maxRecDepth 10000
variable [af]
theorem Di (p : Pr) (g : dA p) (h : ((ak p).2 != 0) = true) : PCall Tryd.prog 10 [p.d] (.ret (.tuple [.i 0, .i (ak p).2])) := by
 have := ig p g; rw [iO, if_pos h] at this; exact this
theorem Dj (p : Pr) (g : dA p) (h : ((ak p).2 != 0) = true) : PCall Tryd.prog 11 [p.d] (.ret (.tuple [.i 0, .i (ak p).2])) := by
 have := kC p g; rw [lD, if_pos h] at this; exact this
theorem Dk (p : Pr) (g : dA p) (h : (ak p).2 = 0) : PCall Tryd.prog 10 [p.d] (.ret (.tuple [.i (latM p), .i 0])) := by
 have := ig p g; rw [XW h] at this; exact this
theorem sH (p : Pr) (g : dA p) (h : (ak p).2 = 0) : PCall Tryd.prog 11 [p.d] (.ret (.tuple [.i (oJ p), .i 0])) := by
 have := kC p g; rw [XX h] at this; exact this
theorem yN (p : Pr) : ((ak p).2 != 0) = true ∨ (ak p).2 = 0 := by
 cases h : (ak p).2 != 0 with
 | true => exact .inl rfl
 | false => exact .inr (by simpa using h)
theorem UX (p : Pr) (g : dA p) : PCall Tryd.prog 3 [p.d] (.ret (.b true)) := by
 rcases yN p with h | h
 ·have h3 := fZ p g
  rw [gX, if_pos h] at h3
  exact Rl p _ g h (Di p g h) (Dj p g h) h3 (qy p g)
 ·have h0 := fG p g.sm g.hn
  rw [yg (aY h).2] at h0
  have h4 := qy p g
  rw [h] at h4
  have h5 := gY p p
  rw [(fV p p).2 rfl] at h5
  exact UV p _ _ _ g (X0 h) h0 (Dk p g h) (sH p g h) (fZ p g) h4 h5
end Go.Proofs.YtogfjinopifenaaDoor
