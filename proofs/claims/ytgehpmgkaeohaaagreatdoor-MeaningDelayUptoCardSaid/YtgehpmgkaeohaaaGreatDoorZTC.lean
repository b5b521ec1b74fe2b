/- A part of the proof. -/
import Derived.Test.YtgehpmgkaeohaaaGreatDoorZTB
set_option linter.all false
namespace Go.Fw.Tl
open Go.Fw Go.Fw.Ref15 Go.Fw.Rg
variable [ae]
abbrev aC(a:Int):List D:=[.i a]
theorem z7m{x y z:Ex}(hy:y∈x.l)(hz:z∈au y):z∈au x:=by
 grind[jl,kN]
theorem z7n(x:Ex):x∈au x:=by rw[jl];simp
end Go.Fw.Tl
