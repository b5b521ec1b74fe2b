/- Package lex in plain words: tokens with white space and comments between them. -/
import Derived.Test.YtmfehangcmbidaaGreatDoorZLD16
set_option linter.unusedSectionVars false
set_option linter.unusedSimpArgs false
set_option linter.unusedVariables false
namespace Go.Fw.Lx
variable [ae]
theorem z3z{k:Bool}{a b i:Nat}{ts:Str}{q:List D->Prop}(h1:k=true)(h2:a=b)(h3:decide ((i:Int)<((ts.map λc=>[D.u8 c]).length:Int))=true)(h:q [D.u8 (ts.getD i 0)]) :
  (k=true/\a=b)/\∃c,(0<=(i:Int)/\(ts.map λc=>[D.u8 c])[(i:Int).toNat]? = some c)/\q c:=by
 have h3:=of_decide_eq_true h3
 rw[List.length_map]at h3
 have h4:i<ts.length:=by omega
 refine⟨⟨h1,h2⟩,_,⟨by omega,?_⟩,h⟩
 rw[Int.toNat_natCast,List.getElem?_map,List.getElem?_eq_getElem h4,List.getD_eq_getElem?_getD,List.getElem?_eq_getElem h4];rfl
end Go.Fw.Lx
