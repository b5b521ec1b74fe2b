/- A part of the proof. -/
import Derived.Test.YtgehpmgkaeohaaaGreatDoorZTB
set_option linter.all false
namespace Go.Fw.Tl
open Go.Fw Go.Fw.Ref15 Go.Fw.Rg
variable [ae]
abbrev aC(a:Int):List D:=[.i a]
theorem z9o{x y z:Ex}(hy:y∈x.l)(hz:z∈ax y):z∈ax x:=by
 grind[jl,kP]
theorem z9p(x:Ex):x∈ax x:=by rw[jl];simp
end Go.Fw.Tl
