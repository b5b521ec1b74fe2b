/- Package lex in plain words: what stands before an error has tokens; an error remains. -/
import Derived.Test.YtmfehangcmbidaaGreatDoorZDL
set_option linter.unusedSectionVars false
set_option linter.unusedSimpArgs false
set_option linter.unusedVariables false
namespace Go.Fw.Lx
variable [ae]
end Go.Fw.Lx
