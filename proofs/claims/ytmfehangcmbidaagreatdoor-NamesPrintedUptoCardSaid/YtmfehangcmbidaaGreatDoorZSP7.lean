/- SyntaxChange, in plain words. -/
import Derived.Test.YtmfehangcmbidaaGreatDoorZSD9
set_option linter.unusedSectionVars false
set_option linter.unusedSimpArgs false
set_option linter.unusedVariables false
namespace Go.Fw.Sy
open Go.Fw Go.Fw.Lx
variable [ae]
theorem Ph(x:Tk)(q:List Tk):(textS (x::q)).length<=(word x).length+1+(textS q).length:=by
 cases q with
 |nil=>simp only[textS,List.map_cons,List.map_nil,Lib.join_one,Lib.join_nil,List.length_nil];omega
 |cons y r=>
  simp only[textS,List.map_cons,Lib.join_cons,Lib.joinTail,List.map_cons,List.flatten_cons,List.length_append,List.length_cons,List.length_nil];omega
theorem z8a(t:Tk)(a:Nat):st (Lx.at' t a)=st t:=rfl
theorem HY:∀(l:List (Tk×Str)) (a:Nat),Sim (l.map Prod.fst) (place a l)
 | [],_=>rfl
 |(t,g)::l,a=>by
  have:=HY l (a+(word t).length+g.length)
  unfold Sim at this ⊢
  simp only[List.map_cons,place,this,z8a]
theorem Xc{m:List Tk}(h:m.all valid=true):jl pStep (textS m) 0 = .ok (place 0 (pairs m))/\Sim m (place 0 (pairs m)):=by
 refine⟨?_,?_⟩
 ·rw[Tm]
  show lexS (Lib.join (m.map word) [32]) 0=_
  rw[<-G5];exact Tv _ _ (MB m h)
 ·have:=HY (pairs m) 0
  rw[GZ]at this;exact this
theorem Xd{l:List Tk}:(textS l).length<=(l.map λt=>(word t).length+1).sum:=by
 induction l with
 |nil=>simp[textS,Lib.join_nil]
 |cons x r ih=>
  have:=Ph x r
  simp only[List.map_cons,List.sum_cons];omega
end Go.Fw.Sy
