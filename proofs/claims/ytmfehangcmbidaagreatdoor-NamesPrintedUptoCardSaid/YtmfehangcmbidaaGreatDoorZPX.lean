/- Plain: what the checks of names.Resolve say, next to the reference's. -/
import Derived.Test.YtmfehangcmbidaaGreatDoorZDB
set_option linter.unusedSectionVars false
set_option linter.unusedSimpArgs false
set_option linter.unusedVariables false
namespace Go.Fw.Nam
variable [ae]
open Ref15
theorem JU{k:Int}(h:1<=k/\k<=19):k=1\/k=2\/k=3\/k=4\/k=5\/k=6\/k=7\/k=8\/k=9\/k=10\/k=11\/k=12\/k=13\/k=14\/k=15\/k=16\/k=17\/k=18\/k=19:=by omega
theorem z5p{k n:Int}(h:¬(k=n)):(k==n)=false:=by simpa using h
theorem jg(k:Int):arity k=(parts k,named k):=by
 by_cases h:1<=k/\k<=19
 ·rcases JU h with h |h |h |h |h |h |h |h |h |h |h |h |h |h |h |h |h |h |h<;>subst h<;>rfl
 ·have e:∀n:Int,1<=n->n<=19->(k==n)=false:=λn h1 h2=>z5p (by omega)
  simp[arity,parts,named,e]
theorem Yo(n:Str):∀a b:List Pe,lk n (a++b)=match lk n a with |some e=>some e |none=>lk n b
 | [],_=>rfl
 |x::a,b=>by
  simp only[List.cons_append,lk]
  split
  ·rfl
  ·exact Yo n a b
theorem UA(n:Str)(k:Int):∀(l:List Str) (i:Nat),lk n (kJ k l i)=if qw n l i<0 then none else some ⟨k,qw n l i,0⟩
 | [],i=>by simp[kJ,lk,qw]
 |x::r,i=>by
  have ih:=UA n k r (i+1)
  simp only[kJ,lk,qw]
  by_cases hx:x=n
  ·subst hx
   have:¬((i:Int)<0):=by omega
   simp[this]
  ·have h1:(n==x)=false:=by simpa using λe:n=x=>hx e.symm
   have h2:(x==n)=false:=by simpa using hx
   simp only[h1,h2,Bool.false_eq_true,if_false]
   rw[ih];rfl
theorem UB(n:Str):∀(l:List Sm) (i:Nat),lk n (xY l i)=if dF n l i<0 then none else some ⟨5,dF n l i,dF n l i+1⟩
 | [],i=>by simp[xY,lk,dF]
 |x::r,i=>by
  have ih:=UB n r (i+1)
  simp only[xY,dF]
  by_cases hk:x.kind=1
  ·have hk':(x.kind==1)=true:=by simpa using hk
   simp only[hk',if_true,Bool.true_and,lk]
   by_cases hx:x.name=n
   ·subst hx
    have:¬((i:Int)<0):=by omega
    simp[this]
   ·have h1:(n==x.name)=false:=by simpa using λe:n=x.name=>hx e.symm
    have h2:(x.name==n)=false:=by simpa using hx
    simp only[h1,h2,Bool.false_eq_true,if_false]
    rw[ih];rfl
  ·have hk':(x.kind==1)=false:=by simpa using hk
   simp only[hk',Bool.false_eq_true,if_false,Bool.false_and]
   rw[ih];rfl
theorem z04(p:Pr)(n:Str):lk n (decl p) =
  if 0<=find (bounds p.params) n then some ⟨3,find (bounds p.params) n,0⟩
  else if 0<=find (bounds p.states) n then some ⟨4,find (bounds p.states) n,0⟩
  else if 0<=find (lines p) n then some ⟨8,find (lines p) n,0⟩
  else if 0<=find (tables p) n then some ⟨9,find (tables p) n,0⟩
  else if 0<=dF n p.stmts 0 then some ⟨5,dF n p.stmts 0,dF n p.stmts 0+1⟩else none:=by
 have e0:∀(k:Int) (l:List Str),lk n (kJ k l 0)=if 0<=find l n then some ⟨k,find l n,0⟩else none:=λk l=>by
  have h:lk n (kJ k l 0)=if find l n<0 then none else some ⟨k,find l n,0⟩:=UA n k l 0
  rw[h]
  by_cases hh:find l n<0
  ·rw[if_pos hh,if_neg (by omega)]
  ·rw[if_neg hh,if_pos (by omega)]
 have e1:lk n (xY p.stmts 0)=if 0<=dF n p.stmts 0 then some ⟨5,dF n p.stmts 0,dF n p.stmts 0+1⟩else none:=by
  have h:lk n (xY p.stmts 0)=if dF n p.stmts 0<0 then none else some ⟨5,dF n p.stmts 0,dF n p.stmts 0+1⟩:=UB n p.stmts 0
  rw[h]
  by_cases hh:dF n p.stmts 0<0
  ·rw[if_pos hh,if_neg (by omega)]
  ·rw[if_neg hh,if_pos (by omega)]
 simp only[decl,T4,T3,T2,T1,Yo,e0,e1]
 generalize find (bounds p.params) n=a
 generalize find (bounds p.states) n=b
 generalize find (lines p) n=c
 generalize find (tables p) n=d
 by_cases h1:0<=a
 ·simp only[if_pos h1]
 ·simp only[if_neg h1]
  by_cases h2:0<=b
  ·simp only[if_pos h2]
  ·simp only[if_neg h2]
   by_cases h3:0<=c
   ·simp only[if_pos h3]
   ·simp only[if_neg h3]
    by_cases h4:0<=d
    ·simp only[if_pos h4]
    ·simp only[if_neg h4]
end Go.Fw.Nam
