/- SyntaxParentheses: parentheses around the expressions of statements: what is parsed. -/
import Derived.Test.YtmfehangcmbidaaGreatDoorZSP22
set_option linter.unusedSectionVars false
set_option linter.unusedSimpArgs false
set_option linter.unusedVariables false
namespace Go.Fw.Sy
open Go.Fw Go.Fw.Lx
variable [ae]
theorem AZ{α:Type}(p:Pr)(x:α)(l:List Tk)(f:α->List Tk->Bool×Pr×List Tk):itB p (some x,l) f=f x l:=rfl
end Go.Fw.Sy
