/- Contracts: the specification of the machine: its checks, its beginning, its numbers. -/
import Derived.Test.YtcfpghieofhfkaaZXA
import Derived.Test.YtcfpghieofhfkaaZMB
set_option linter.unusedSimpArgs false
set_option linter.unusedVariables false
namespace Go.Proofs.Ytcfpghieofhfkaa
open Go.Fw Go.Fw.Mac
set_option maxRecDepth 10000
set_option linter.unusedSectionVars false
variable [GlobInt]
end Go.Proofs.Ytcfpghieofhfkaa
