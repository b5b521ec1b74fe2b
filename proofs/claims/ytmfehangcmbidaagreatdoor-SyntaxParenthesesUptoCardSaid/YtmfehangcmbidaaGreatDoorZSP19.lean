/- SyntaxBack: what is written are tokens; what is read can be written. -/
import Derived.Test.YtmfehangcmbidaaGreatDoorZSP18
import Derived.Test.YtmfehangcmbidaaGreatDoorZSP7
set_option linter.unusedSectionVars false
set_option linter.unusedSimpArgs false
set_option linter.unusedVariables false
namespace Go.Fw.Sy
open Go.Fw Go.Fw.Lx
variable [ae]
theorem Val.nil:Val []:=λt h=>by simp at h
theorem Val.cons{t:Tk}{l:List Tk}(ht:valid t=true)(h:Val l):Val (t::l):=λx hx=>by
 rcases List.mem_cons.1 hx with rfl |hx
 ·exact ht
 ·exact h x hx
theorem Val.and{a b:List Tk}(ha:Val a)(hb:Val b):Val (a++b):=λx hx=>by
 rcases List.mem_append.1 hx with hx |hx
 ·exact ha x hx
 ·exact hb x hx
theorem Val.all{l:List Tk}(h:Val l):l.all valid=true:=List.all_eq_true.2 h
end Go.Fw.Sy
