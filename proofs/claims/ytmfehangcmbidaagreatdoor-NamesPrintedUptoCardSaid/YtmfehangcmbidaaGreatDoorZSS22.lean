/- The law SyntaxBack. -/
import Derived.Test.YtmfehangcmbidaaGreatDoorZSS20
import Derived.Test.YtmfehangcmbidaaGreatDoorZPR
set_option linter.unusedSectionVars false
set_option linter.unusedSimpArgs false
set_option linter.unusedVariables false
namespace Go.Proofs.YtmfehangcmbidaaGreatDoor
open Go.Fw Go.Fw.Lx Go.Fw.Sy
set_option maxRecDepth 10000
variable [ae]
theorem E8{l:List Pr}{r:D}(h:Wd l)(e:pW l=r):aj Tryz.prog 11 [prs l] (.ret r):=by
 have:=Qb l h.n h.j h.s h.x;rw[e]at this;exact this
end Go.Proofs.YtmfehangcmbidaaGreatDoor
