/- Contracts: the law SyntaxJoined. -/
import Derived.Test.YtmfehangcmbidaaGreatDoorZXE
set_option linter.unusedSectionVars false
set_option linter.unusedSimpArgs false
set_option linter.unusedVariables false
namespace Go.Proofs.YtmfehangcmbidaaGreatDoor
open Go.Fw Go.Fw.Lx Go.Fw.Sy
set_option maxRecDepth 10000
variable [ae]
theorem xG{s:Sy.Str}{r:D}(h:s.length<=1073741823)(e:iw s=r):aB Tryz.prog 10 [.str s] (.ret r):=by
 have:=Bz s (WR h);rw[e]at this;exact this
end Go.Proofs.YtmfehangcmbidaaGreatDoor
