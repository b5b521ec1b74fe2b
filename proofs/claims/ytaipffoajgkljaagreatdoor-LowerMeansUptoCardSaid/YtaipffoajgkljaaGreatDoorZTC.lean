/- A part of the proof. -/
import Derived.Test.YtaipffoajgkljaaGreatDoorZTB
set_option linter.all false
namespace Go.Fw.Tl
open Go.Fw Go.Fw.Ref15 Go.Fw.Rg
variable [af]
abbrev aC(a:Int):List D:=[.i a]
theorem z7e{x y z:Ex}(hy:y∈x.l)(hz:z∈aA y):z∈aA x:=by
 grind[iM,kY]
theorem z7f(x:Ex):x∈aA x:=by rw[iM];simp
end Go.Fw.Tl
