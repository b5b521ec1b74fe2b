/- Contracts: the reference of package lex: small functions. -/
import Derived.Test.YtmfehangcmbidaaGreatDoorZLX
set_option linter.unusedSectionVars false
set_option linter.unusedSimpArgs false
set_option linter.unusedVariables false
namespace Go.Proofs.YtmfehangcmbidaaGreatDoor
open Go.Fw Go.Fw.Lx
set_option maxRecDepth 10000
variable [ae]
end Go.Proofs.YtmfehangcmbidaaGreatDoor
