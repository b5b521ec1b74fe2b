/- SyntaxBack: what is written is read: all expressions. -/
import Derived.Test.YtmfehangcmbidaaGreatDoorZSP12
set_option linter.unusedSectionVars false
set_option linter.unusedSimpArgs false
set_option linter.unusedVariables false
namespace Go.Fw.Sy
open Go.Fw Go.Fw.Lx
variable [ae]
theorem Zh{u:PM Ex}{l:List Tk}(h1:isNum l=false)(h2:isNm l=false):unitB (some u) l=if isT dh l then bnd (u (l.drop 1)) λx l=>(some (ex1 14 x),l)
  else if isT sPar l then bnd (iT u (l.drop 1)) λx l=>bnd (aC sKet l) λ_ l=>(some x,l)
  else match look (hd l).text wF with
   |some f=>if(hd l).kind==1 then argsM u f.1 f.2.1.toNat f.2.2 (l.drop 1)else(none,l)
   |none=>(none,l):=by
 unfold unitB;rw[if_neg (by rw[h1];exact Bool.noConfusion),if_neg (by rw[h2];exact Bool.noConfusion)];rfl
end Go.Fw.Sy
