/- Contracts: the law SyntaxJoined. -/
import Derived.Test.YtmfehangcmbidaaGreatDoorZXE
set_option linter.unusedSectionVars false
set_option linter.unusedSimpArgs false
set_option linter.unusedVariables false
namespace Go.Proofs.YtmfehangcmbidaaGreatDoor
open Go.Fw Go.Fw.Lx Go.Fw.Sy
set_option maxRecDepth 10000
variable [ae]
theorem NQ{s:Sy.Str}{r:D}(h:s.length<=1073741823)(e:xX s=r):aj Tryz.prog 10 [.str s] (.ret r):=by
 have:=P8 s (z5k h);rw[e]at this;exact this
end Go.Proofs.YtmfehangcmbidaaGreatDoor
