/- SyntaxBack: what is written is read: items. -/
import Derived.Test.YtmfehangcmbidaaGreatDoorZSP15
set_option linter.unusedSectionVars false
set_option linter.unusedSimpArgs false
set_option linter.unusedVariables false
namespace Go.Fw.Sy
open Go.Fw Go.Fw.Lx
variable [ae]
end Go.Fw.Sy
