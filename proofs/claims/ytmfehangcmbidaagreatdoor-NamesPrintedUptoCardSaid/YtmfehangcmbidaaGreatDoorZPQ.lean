/- SyntaxBack: which expressions can be written and read back. -/
import Derived.Test.YtmfehangcmbidaaGreatDoorZDP
set_option linter.unusedSectionVars false
set_option linter.unusedSimpArgs false
set_option linter.unusedVariables false
namespace Go.Fw.Sy
open Go.Fw Go.Fw.Lx
end Go.Fw.Sy
namespace Go.Fw.Sy
open Go.Fw Go.Fw.Lx
variable [ae]
def Val(l:List Tk):Prop:=∀t∈l,valid t=true
section
variable {k : Nat} {x : Ex}
end
section
variable {u v : PM Ex} {d : Nat}
end
end Go.Fw.Sy
