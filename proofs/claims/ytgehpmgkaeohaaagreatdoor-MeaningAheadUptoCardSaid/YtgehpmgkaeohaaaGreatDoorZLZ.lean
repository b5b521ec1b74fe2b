/- A part of the proof. -/
import Derived.Lib.IndexLaws
import Derived.Test.YtgehpmgkaeohaaaGreatDoorZLX
set_option linter.all false
namespace Go.Fw.Lx
variable [ae]
abbrev Hd(src:Str)(a:Nat)(ts:List Tk):Prop:=a<=src.length/\ts.length<=a/\lexR pStep src 0=fin ts (lexR pStep (src.drop a) a)
theorem gi_step{g:Bool}{p:Prop}(h:g=true)(hp:p):kz g p:=kz.mk h hp
end Go.Fw.Lx
