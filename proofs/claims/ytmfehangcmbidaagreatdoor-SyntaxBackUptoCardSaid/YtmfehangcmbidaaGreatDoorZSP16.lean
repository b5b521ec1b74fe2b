/- SyntaxBack: what is written is read: items. -/
import Derived.Test.YtmfehangcmbidaaGreatDoorZSP15
set_option linter.unusedSectionVars false
set_option linter.unusedSimpArgs false
set_option linter.unusedVariables false
namespace Go.Fw.Sy
open Go.Fw Go.Fw.Lx
variable [ae]
theorem pK{t:List (Str×IM)}{w:Str}{f:IM}{p p':Pr}{n:Nat}{l r:List Tk}(hf:find w t=some f)(h:f p l=(true,p',sg sSemi::r)):dH t (n+1) p (wd w::l)=dH t n p' r:=by
 rw[nN,if_neg (by simp)]
 simp only[show(hd (wd w::l)).text=w from rfl,hf]
 rw[if_pos (by rw[jK];simp),List.drop_one,List.tail_cons,h]
 simp only[seqI,iK,itB]
theorem MG{t:List (Str×IM)}{p:Pr}{u:Tk}{l:List Tk}(hf:find u.text t=none):∀n,dH t n p (u::l)=(true,p,u::l)
 | 0=>rfl
 |n+1=>by
  rw[nN,if_neg (by simp)]
  simp only[show(hd (u::l)).text=u.text from rfl,hf]
theorem Xa{b:Bd}(h:W9 b)(p:Pr)(l:List Tk):oW p (wd b.name::(bV b.lo b.hi++l))=(true,{ p with params:=p.params++[b] },sg sSemi::l):=by
 unfold oW;rw[MC h];rfl
theorem Xb{b:Bd}(h:W9 b)(p:Pr)(l:List Tk):oZ p (wd b.name::(bV b.lo b.hi++l))=(true,{ p with states:=p.states++[b] },sg sSemi::l):=by
 unfold oZ;rw[MC h];rfl
end Go.Fw.Sy
