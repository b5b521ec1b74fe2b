/- Contracts: the specification of the machine: one instruction. -/
import Derived.Test.YtcfpghieofhfkaaZMS12
import Derived.Test.YtcfpghieofhfkaaZMC
set_option linter.unusedSimpArgs false
set_option linter.unusedVariables false
namespace Go.Proofs.Ytcfpghieofhfkaa
open Go.Fw Go.Fw.Mac
set_option maxRecDepth 10000
set_option linter.unusedSectionVars false
variable [GlobInt]
end Go.Proofs.Ytcfpghieofhfkaa
