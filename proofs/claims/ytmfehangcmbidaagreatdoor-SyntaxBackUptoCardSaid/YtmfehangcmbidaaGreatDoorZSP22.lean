/- SyntaxParentheses: what an expression is read from, and how many units lie in each other. -/
import Derived.Test.YtmfehangcmbidaaGreatDoorZSP17
set_option linter.unusedSectionVars false
set_option linter.unusedSimpArgs false
set_option linter.unusedVariables false
namespace Go.Fw.Sy
open Go.Fw Go.Fw.Lx
variable [ae]
section
variable {u v : PM Ex} {d : Nat}
theorem z6w(x:Ex):1<=nd x:=by obtain⟨k,nm,i,n,l⟩:=x;rw[nd];omega
end
end Go.Fw.Sy
