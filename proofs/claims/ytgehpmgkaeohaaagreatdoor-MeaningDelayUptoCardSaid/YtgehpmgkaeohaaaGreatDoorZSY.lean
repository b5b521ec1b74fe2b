/- A part of the proof. -/
import Derived.Test.YtgehpmgkaeohaaaGreatDoorZSX
set_option linter.all false
namespace Go.Fw.Sy
open Go.Fw Go.Fw.Ref15
variable [ae]
abbrev prs(l:List Pr):D:=.sl 8 (l.map Pr.cs)
end Go.Fw.Sy
namespace Go.Fw.Sy
open Go.Fw.Lx (Tk)
variable [ae]
end Go.Fw.Sy
namespace Go.Fw.Sy
open Go.Fw Go.Fw.Lx
variable [ae]
def parseD(s:Str):D:=if decide ((s.length:Int)>65536)then .tuple [.sl 8 [],.i 0,.i 2]else match lexR pStep s 0 with
 | .error a=>.tuple [.sl 8 [],.i (a:Nat),.i 30]
 | .ok l=>Z8 (s.length:Int) (readM l)
theorem readD_some{e:Int}{r:Option (List Pr)×List Tk}{ps:List Pr}(h:r.1=some ps):Z8 e r = .tuple [.sl 8 (ps.map Pr.cs),.i 0,.i 0]:=by
 obtain⟨o,l⟩:=r;subst h;rfl
theorem EN{e:Int}{r:Option (List Pr)×List Tk}(h:r.1=none):Z8 e r = .tuple [.sl 8 [],.i (at' e r.2),.i 140]:=by
 obtain⟨o,l⟩:=r;subst h;rfl
end Go.Fw.Sy
