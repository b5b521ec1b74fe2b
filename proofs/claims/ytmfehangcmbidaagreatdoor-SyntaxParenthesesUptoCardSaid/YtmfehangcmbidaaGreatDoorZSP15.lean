/- SyntaxBack: what is written is read: declarations. -/
import Derived.Test.YtmfehangcmbidaaGreatDoorZSP14
set_option linter.unusedSectionVars false
set_option linter.unusedSimpArgs false
set_option linter.unusedVariables false
namespace Go.Fw.Sy
open Go.Fw Go.Fw.Lx
variable [ae]
def zY(n:Int):Prop:=-2147483648<=n/\n<=2147483648
theorem Vz{l r:List Tk}{n:Int}(h:Val l)(e:zN l=(some n,r)):zY n:=by
 unfold zN at e
 split at e
 ·obtain⟨m,l1,h1,e⟩:=af e
  have hm:=Ip h.drop h1
  simp only[Prod.mk.injEq,Option.some.injEq]at e
  obtain⟨rfl,_⟩:=e
  rw[dX (by have:=hm.2;omega) (by have:=hm.1;omega)]
  exact⟨by have:=hm.2;omega,by have:=hm.1;omega⟩
 ·have:=Ip h e
  exact⟨by have:=this.1;omega,this.2⟩
structure z6k(b:Bd):Prop where
 n:RG b.name
 lo:zY b.lo
 hi:zY b.hi
structure z8c(b:Ln):Prop where
 n:RG b.name
 s:FV b.size
 lo:zY b.lo
 hi:zY b.hi
structure z8d(t:Tb):Prop where
 n:RG t.name
 ne:t.values ≠ []
 v:∀x∈t.values,zY x
structure z8e(s:Sm):Prop where
 k:(s.kind=1\/s.kind=2\/s.kind=3)/\RG s.name\/s.kind=4/\s.name = []
 i:s.index=0
 x:G 63 s.x
structure z3n(p:Pr):Prop where
 n:RG p.name
 lat:FV p.latency
 tl:p.tail = -1\/FV p.tail
 params:∀b∈p.params,z6k b
 states:∀b∈p.states,z6k b
 lines:∀b∈p.lines,z8c b
 tables:∀b∈p.tables,z8d b
 stmts:∀b∈p.stmts,z8e b
end Go.Fw.Sy
