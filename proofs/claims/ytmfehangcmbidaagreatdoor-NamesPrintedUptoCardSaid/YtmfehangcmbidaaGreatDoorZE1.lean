/- Contracts of the library at this program: strings.Contains, strings.IndexByte, slices.Grow. -/
import Derived.Test.YtmfehangcmbidaaGreatDoorZE
import Derived.Test.YtmfehangcmbidaaGreatDoorZK6
set_option linter.unusedSectionVars false
set_option linter.unusedSimpArgs false
set_option linter.unusedVariables false
namespace Go.Proofs.YtmfehangcmbidaaGreatDoor
open Go.Fw
set_option maxRecDepth 10000
variable [ae]
theorem Ff(s sub:List UInt8)(hs:s.length<4294967281):aj Tryz.prog 100 [.str s,.str sub] (.ret (.b (Lib.contains s sub))):=
 JB ⟨_,Tryz.func100,by kernel_rfl,by kernel_rfl⟩ ⟨_,rfl⟩ (λa b m w h1 h2=>Tryz.strings_Contains a b m w h1 h2) s sub hs
theorem Qg(n:Nat)(hn:n<=1073741824):ax Tryz.prog 131 [.nilsl 3,.data (.val (.int .i64 n))] [] (.ret (.gs 1000000 3 [])) [(1000000,.tok 3 0)]:=
 Ze tok Tryz.growB ⟨_,Tryz.func131,by kernel_rfl,by kernel_rfl⟩ (Nat.ne_of_beq_eq_false rfl) (by kernel_rfl) (by decide +kernel) (by kernel_rfl) (by omega) (by kernel_rfl) n (by
  have:(Tryz.T.at (Tryz.growB_ren.t 25)).bytes=32:=by kernel_rfl
  rw[this];omega) (by omega)
end Go.Proofs.YtmfehangcmbidaaGreatDoor
