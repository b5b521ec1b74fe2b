/- SyntaxChange: a token that is written in place. -/
import Derived.Test.YtmfehangcmbidaaGreatDoorZDP
set_option linter.unusedSectionVars false
set_option linter.unusedSimpArgs false
set_option linter.unusedVariables false
namespace Go.Fw.Sy
open Go.Fw Go.Fw.Lx
variable [ae]
end Go.Fw.Sy
