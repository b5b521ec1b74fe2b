/- SyntaxChange, in plain words. -/
import Derived.Test.YtmfehangcmbidaaGreatDoorZSD9
set_option linter.unusedSectionVars false
set_option linter.unusedSimpArgs false
set_option linter.unusedVariables false
namespace Go.Fw.Sy
open Go.Fw Go.Fw.Lx
variable [ae]
theorem O4(x:Tk)(q:List Tk):(textS (x::q)).length<=(word x).length+1+(textS q).length:=by
 cases q with
 |nil=>simp only[textS,List.map_cons,List.map_nil,Lib.join_one,Lib.join_nil,List.length_nil];omega
 |cons y r=>
  simp only[textS,List.map_cons,Lib.join_cons,Lib.joinTail,List.map_cons,List.flatten_cons,List.length_append,List.length_cons,List.length_nil];omega
theorem z9p(t:Tk)(a:Nat):st (Lx.at' t a)=st t:=rfl
theorem G6:∀(l:List (Tk×Str)) (a:Nat),Sim (l.map Prod.fst) (place a l)
 | [],_=>rfl
 |(t,g)::l,a=>by
  have:=G6 l (a+(word t).length+g.length)
  unfold Sim at this ⊢
  simp only[List.map_cons,place,this,z9p]
theorem WN{m:List Tk}(h:m.all valid=true):iE pStep (textS m) 0 = .ok (place 0 (pairs m))/\Sim m (place 0 (pairs m)):=by
 refine⟨?_,?_⟩
 ·rw[Rx]
  show lexS (Lib.join (m.map word) [32]) 0=_
  rw[<-Gl];exact RG _ _ (KW m h)
 ·have:=G6 (pairs m) 0
  rw[Gj]at this;exact this
theorem WO{l:List Tk}:(textS l).length<=(l.map λt=>(word t).length+1).sum:=by
 induction l with
 |nil=>simp[textS,Lib.join_nil]
 |cons x r ih=>
  have:=O4 x r
  simp only[List.map_cons,List.sum_cons];omega
theorem CU{t:Tk}(h:valid t=true):t.text.length<=32:=by
 unfold valid at h
 split at h
 ·simp only[F9,Bool.and_eq_true,Bool.not_eq_true',Bool.or_eq_false_iff,decide_eq_false_iff_not]at h
  have:=h.1.1.1.2;omega
 ·split at h
  ·simp only[Bool.and_eq_true,beq_iff_eq]at h
   rw[h.1.1];simp
  ·split at h
   ·simp only[Bool.and_eq_true,beq_iff_eq]at h
    have:=h.1.1;omega
   ·cases h
end Go.Fw.Sy
