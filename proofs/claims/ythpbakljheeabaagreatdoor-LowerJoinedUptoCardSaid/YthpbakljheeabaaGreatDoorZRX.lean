/- Contracts: the reference of names, small functions. -/
import Derived.Test.YthpbakljheeabaaGreatDoorZK6
import Derived.Test.YthpbakljheeabaaGreatDoorZLL
set_option linter.unusedSectionVars false
set_option linter.unusedSimpArgs false
set_option linter.unusedVariables false
namespace Go.Proofs.YthpbakljheeabaaGreatDoor
open Go.Fw Go.Fw.Ref15
set_option maxRecDepth 10000
variable [af]
end Go.Proofs.YthpbakljheeabaaGreatDoor
