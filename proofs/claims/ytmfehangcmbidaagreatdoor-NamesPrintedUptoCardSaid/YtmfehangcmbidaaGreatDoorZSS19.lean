/- Contracts: the law SyntaxChange. -/
import Derived.Test.YtmfehangcmbidaaGreatDoorZSS17
import Derived.Test.YtmfehangcmbidaaGreatDoorZLS6
import Derived.Test.YtmfehangcmbidaaGreatDoorZSD9
set_option linter.unusedSectionVars false
set_option linter.unusedSimpArgs false
set_option linter.unusedVariables false
namespace Go.Proofs.YtmfehangcmbidaaGreatDoor
open Go.Fw Go.Fw.Lx Go.Fw.Sy
set_option maxRecDepth 10000
variable [ae]
end Go.Proofs.YtmfehangcmbidaaGreatDoor
