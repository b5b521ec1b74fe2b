/- SyntaxBack: what is written is read: all expressions. -/
import Derived.Test.YtmfehangcmbidaaGreatDoorZSP13
set_option linter.unusedSectionVars false
set_option linter.unusedSimpArgs false
set_option linter.unusedVariables false
namespace Go.Fw.Sy
open Go.Fw Go.Fw.Lx
variable [ae]
section
variable {k : Nat} {x : Ex}
end
theorem gZ{α β:Type}(x:α)(l:List Tk)(f:α->PM β):bnd (some x,l) f=f x l:=rfl
end Go.Fw.Sy
