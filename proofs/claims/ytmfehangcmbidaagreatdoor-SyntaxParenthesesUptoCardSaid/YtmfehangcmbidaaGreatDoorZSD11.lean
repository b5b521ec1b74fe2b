/- The law SyntaxParentheses: what its loops have done. -/
import Derived.Test.YtmfehangcmbidaaGreatDoorZSP20
set_option linter.unusedSectionVars false
set_option linter.unusedSimpArgs false
set_option linter.unusedVariables false
namespace Go.Fw.Sy
open Go.Fw Go.Fw.Lx
variable [ae]
structure ZV(s:Str)(n i:Nat)(out:List Tk):Prop where
 e:out=List.replicate i (sg s)
 le:i<=n
variable {out : List Tk} {n i : Nat} {s : Str}
theorem SK(s:Str)(n:Nat):ZV s n 0 []:=⟨rfl,Nat.zero_le _⟩
theorem VK(h:ZV s n i out)(hl:decide ((i:Int)<(n:Int))=true):ZV s n (i+1) (out++[sg s]):=
 ⟨by rw[h.e,List.replicate_succ'],by have:=of_decide_eq_true hl;omega⟩
theorem ZC(h:ZV s n i out)(hl:decide ((i:Int)<(n:Int))=false):out=List.replicate n (sg s):=by
 have:=of_decide_eq_false hl
 have:=h.le
 rw[h.e,show i=n by omega]
theorem z4a(hl:decide ((i:Int)<(n:Int))=true):n-(i+1)<n-i:=by have:=of_decide_eq_true hl;omega
theorem ZE(h:ZV s n i out)(hn:n<=3):out.length<=1073741824:=by
 have:=h.le
 rw[h.e,List.length_replicate];omega
theorem ZF{e:List D}(he:e=(sg s).cs):out.map Tk.cs++[e]=(out++[sg s]).map Tk.cs:=by rw[he,List.map_append];rfl
end Go.Fw.Sy
