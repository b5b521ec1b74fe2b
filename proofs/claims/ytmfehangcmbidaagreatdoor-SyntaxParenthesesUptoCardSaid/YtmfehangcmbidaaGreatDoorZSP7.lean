/- SyntaxChange, in plain words. -/
import Derived.Test.YtmfehangcmbidaaGreatDoorZSD9
set_option linter.unusedSectionVars false
set_option linter.unusedSimpArgs false
set_option linter.unusedVariables false
namespace Go.Fw.Sy
open Go.Fw Go.Fw.Lx
variable [ae]
theorem NL(x:Tk)(q:List Tk):(textS (x::q)).length<=(word x).length+1+(textS q).length:=by
 cases q with
 |nil=>simp only[textS,List.map_cons,List.map_nil,Lib.join_one,Lib.join_nil,List.length_nil];omega
 |cons y r=>
  simp only[textS,List.map_cons,Lib.join_cons,Lib.joinTail,List.map_cons,List.flatten_cons,List.length_append,List.length_cons,List.length_nil];omega
theorem z6k(t:Tk)(a:Nat):st (Lx.at' t a)=st t:=rfl
theorem FU:∀(l:List (Tk×Str)) (a:Nat),Sim (l.map Prod.fst) (place a l)
 | [],_=>rfl
 |(t,g)::l,a=>by
  have:=FU l (a+(word t).length+g.length)
  unfold Sim at this ⊢
  simp only[List.map_cons,place,this,z6k]
theorem Vy{m:List Tk}(h:m.all valid=true):gz pStep (textS m) 0 = .ok (place 0 (pairs m))/\Sim m (place 0 (pairs m)):=by
 refine⟨?_,?_⟩
 ·rw[Hm]
  show lexS (Lib.join (m.map word) [32]) 0=_
  rw[<-ER];exact Qi _ _ (JC m h)
 ·have:=FU (pairs m) 0
  rw[EQ]at this;exact this
theorem Vz{l:List Tk}:(textS l).length<=(l.map λt=>(word t).length+1).sum:=by
 induction l with
 |nil=>simp[textS,Lib.join_nil]
 |cons x r ih=>
  have:=NL x r
  simp only[List.map_cons,List.sum_cons];omega
theorem RF:∀l:List Tk,(l.map λt=>(word t).length+1).sum=z4r l+l.length
 | []=>rfl
 |x::r=>by
  have:=RF r
  simp only[z4r,List.map_cons,List.sum_cons,List.length_cons]at this ⊢;omega
end Go.Fw.Sy
