/- The law SyntaxChange. -/
import Derived.Test.YtmfehangcmbidaaGreatDoorZSS19
import Derived.Test.YtmfehangcmbidaaGreatDoorZSP7
set_option linter.unusedSectionVars false
set_option linter.unusedSimpArgs false
set_option linter.unusedVariables false
namespace Go.Proofs.YtmfehangcmbidaaGreatDoor
open Go.Fw Go.Fw.Lx Go.Fw.Sy
set_option maxRecDepth 10000
variable [ae]
theorem RG(s:Sy.Str):∃l p e,aB Tryz.prog 15 [.str s] (.ret (.tuple [toks l,.i p,.i e]))/\((e != 0)=false->decide ((s.length:Int)>65536)=false/\gz pStep s 0 = .ok l/\p=0):=by
 cases hL:decide ((s.length:Int)>65536)with
 |true=>exact⟨[],0,2,Kq s hL,λh=>Bool.noConfusion h⟩
 |false=>
  cases hl:gz pStep s 0 with
  |error a=>have:=oC s hL;rw[hl]at this;exact⟨[],(a:Nat),30,this,λh=>Bool.noConfusion h⟩
  |ok l=>have:=oC s hL;rw[hl]at this;exact⟨l,0,0,this,λ_=>⟨rfl,rfl,rfl⟩⟩
theorem Zb{l:List Tk}(hv:l.all valid=true)(hl:l.length<=1073741824)(hj:(textS l).length<=140737488355328):aB Tryz.prog 16 [toks l] (.ret (.tuple [.str (textS l),.i 0])):=by
 have:=kG l hl hj;rw[uu hv]at this;exact this
end Go.Proofs.YtmfehangcmbidaaGreatDoor
