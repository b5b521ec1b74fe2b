/- SyntaxBack: what is written is read: declarations. -/
import Derived.Test.YtmfehangcmbidaaGreatDoorZSP14
set_option linter.unusedSectionVars false
set_option linter.unusedSimpArgs false
set_option linter.unusedVariables false
namespace Go.Fw.Sy
open Go.Fw Go.Fw.Lx
variable [ae]
def zY(n:Int):Prop:=-2147483648<=n/\n<=2147483648
theorem VA{l r:List Tk}{n:Int}(h:Val l)(e:zN l=(some n,r)):zY n:=by
 unfold zN at e
 split at e
 ·obtain⟨m,l1,h1,e⟩:=af e
  have hm:=Ip h.drop h1
  simp only[Prod.mk.injEq,Option.some.injEq]at e
  obtain⟨rfl,_⟩:=e
  rw[dX (by have:=hm.2;omega) (by have:=hm.1;omega)]
  exact⟨by have:=hm.2;omega,by have:=hm.1;omega⟩
 ·have:=Ip h e
  exact⟨by have:=this.1;omega,this.2⟩
structure z6l(b:Bd):Prop where
 n:RH b.name
 lo:zY b.lo
 hi:zY b.hi
structure z8d(b:Ln):Prop where
 n:RH b.name
 s:FV b.size
 lo:zY b.lo
 hi:zY b.hi
structure z8e(t:Tb):Prop where
 n:RH t.name
 ne:t.values ≠ []
 v:∀x∈t.values,zY x
structure z8f(s:Sm):Prop where
 k:(s.kind=1\/s.kind=2\/s.kind=3)/\RH s.name\/s.kind=4/\s.name = []
 i:s.index=0
 x:G 63 s.x
structure z3o(p:Pr):Prop where
 n:RH p.name
 lat:FV p.latency
 tl:p.tail = -1\/FV p.tail
 params:∀b∈p.params,z6l b
 states:∀b∈p.states,z6l b
 lines:∀b∈p.lines,z8d b
 tables:∀b∈p.tables,z8e b
 stmts:∀b∈p.stmts,z8f b
end Go.Fw.Sy
