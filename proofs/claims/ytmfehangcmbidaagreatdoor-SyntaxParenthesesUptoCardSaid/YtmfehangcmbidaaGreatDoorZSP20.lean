/- SyntaxBack: how long it is what is written. -/
import Derived.Test.YtmfehangcmbidaaGreatDoorZSP19
import Derived.Test.YtmfehangcmbidaaGreatDoorZSD10
set_option linter.unusedSectionVars false
set_option linter.unusedSimpArgs false
set_option linter.unusedVariables false
namespace Go.Fw.Sy
open Go.Fw Go.Fw.Lx
variable [ae]
def tsz(l:List Tk):Nat:=(l.map λt=>(word t).length+1).sum
theorem SI:tsz []=0:=rfl
theorem pK(t:Tk)(l:List Tk):tsz (t::l)=(word t).length+1+tsz l:=by simp[tsz]
theorem Iy(a b:List Tk):tsz (a++b)=tsz a+tsz b:=by simp[tsz]
theorem Iz(l:List Tk):l.length<=tsz l:=by
 induction l with
 |nil=>exact Nat.le_refl _
 |cons t l ih=>rw[pK,List.length_cons];omega
theorem z7r(s:Str):(word (sg s)).length=s.length:=rfl
end Go.Fw.Sy
