/- Contracts: the law SyntaxSpaces. -/
import Derived.Test.YtmfehangcmbidaaGreatDoorZSS20
import Derived.Test.YtmfehangcmbidaaGreatDoorZSD10
set_option linter.unusedSectionVars false
set_option linter.unusedSimpArgs false
set_option linter.unusedVariables false
namespace Go.Proofs.YtmfehangcmbidaaGreatDoor
open Go.Fw Go.Fw.Lx Go.Fw.Sy
set_option maxRecDepth 10000
variable [ae]
abbrev byD(ts:Sy.Str):D:=.sl 1 (ts.map λc=>[D.u8 c])
end Go.Proofs.YtmfehangcmbidaaGreatDoor
