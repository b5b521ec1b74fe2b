/- SyntaxChange: a token that is written in place. -/
import Derived.Test.YtmfehangcmbidaaGreatDoorZDP
set_option linter.unusedSectionVars false
set_option linter.unusedSimpArgs false
set_option linter.unusedVariables false
namespace Go.Fw.Sy
open Go.Fw Go.Fw.Lx
variable [ae] {k : List (List D)} {l : List Tk}
theorem z2d{w:Int}{j:Nat}(hJ:w=j)(hj:j<l.length):(List.take 0 k++l.map Tk.cs)[0+w.toNat]? = some (l[j]).cs:=by
 subst hJ;simp[hj]
theorem z2e{w:Int}{e:List D}:0+(0+(l.map Tk.cs).length)<=((List.take 0 k++l.map Tk.cs).set (0+w.toNat) e).length:=by simp
theorem z2f{w:Int}{j:Nat}{t:Tk}{e:List D}(hJ:w=j)(he:e=t.cs):(l.set j t).map Tk.cs=List.take (0+(l.map Tk.cs).length) (List.drop 0 ((List.take 0 k++l.map Tk.cs).set (0+w.toNat) e)):=by
 subst hJ he
 simp only[List.take_zero,List.nil_append,Int.toNat_natCast,Nat.zero_add,List.drop_zero]
 rw[List.map_set,List.take_of_length_le (by simp)]
theorem Y7{n:Int}{k:Nat}(hk:0<k)(hn:k<=1048576):∃j:Nat,j<k/\IntKind.i64.wrap ((IntKind.u64.wrap n).tmod (IntKind.u64.wrap (k:Int)))=j:=by
 have h1:IntKind.u64.wrap (k:Int)=k:=by
  simp only[IntKind.wrap,IntKind.bits,IntKind.signed];simp;omega
 have h2:0<=IntKind.u64.wrap n:=by
  simp only[IntKind.wrap,IntKind.bits,IntKind.signed];simp;omega
 rw[h1,Int.tmod_eq_emod_of_nonneg h2]
 have h3:=Int.emod_nonneg (IntKind.u64.wrap n) (b:=(k:Int)) (by omega)
 have h4:=Int.emod_lt_of_pos (IntKind.u64.wrap n) (b:=(k:Int)) (by omega)
 refine⟨(IntKind.u64.wrap n % (k:Int)).toNat,by omega,?_⟩
 rw[iR (by omega) (by omega)];omega
theorem z2g{k:Nat}(hk:0<k)(hn:k<=1048576):IntKind.u64.wrap (k:Int)≠0:=by
 have h1:IntKind.u64.wrap (k:Int)=k:=by
  simp only[IntKind.wrap,IntKind.bits,IntKind.signed];simp;omega
 rw[h1];omega
end Go.Fw.Sy
