/- SyntaxBack: what is written is read: processors. -/
import Derived.Test.YtmfehangcmbidaaGreatDoorZSP23
set_option linter.unusedSectionVars false
set_option linter.unusedSimpArgs false
set_option linter.unusedVariables false
namespace Go.Fw.Sy
open Go.Fw Go.Fw.Lx
variable [ae]
end Go.Fw.Sy
