/- SyntaxSpaces: what may stand between two tokens. -/
import Derived.Test.YtmfehangcmbidaaGreatDoorZSP7
import Derived.Test.YtmfehangcmbidaaGreatDoorZLD17
set_option linter.unusedSectionVars false
set_option linter.unusedSimpArgs false
set_option linter.unusedVariables false
namespace Go.Fw.Sy
open Go.Fw Go.Fw.Lx
variable [ae]
end Go.Fw.Sy
