/- Contracts: the laws of lower: LowerOperands. -/
import Derived.Test.YthpbakljheeabaaGreatDoorZQC
set_option linter.unusedSectionVars false
set_option linter.unusedSimpArgs false
set_option linter.unusedVariables false
namespace Go.Proofs.YthpbakljheeabaaGreatDoor
open Go.Fw Go.Fw.Ref15 Go.Fw.Rg Go.Fw.Tl Go.Fw.Lw
open Go.Fw.Mac hiding W
set_option maxRecDepth 10000
variable [af]
end Go.Proofs.YthpbakljheeabaaGreatDoor
