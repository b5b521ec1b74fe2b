/- Package lex in plain words: tokens with white space and comments between them. -/
import Derived.Test.YtmfehangcmbidaaGreatDoorZLD16
set_option linter.unusedSectionVars false
set_option linter.unusedSimpArgs false
set_option linter.unusedVariables false
namespace Go.Fw.Lx
variable [ae]
end Go.Fw.Lx
