/- Contracts: the laws of tails: TailsDeclared, TailsBound. -/
import Derived.Test.YtogfjinopifenaaDoorZYC
set_option linter.unusedSectionVars false
set_option linter.unusedSimpArgs false
set_option linter.unusedVariables false
namespace Go.Proofs.YtogfjinopifenaaDoor
open Go.Fw Go.Fw.Ref15 Go.Fw.Rg Go.Fw.Tl
set_option maxRecDepth 10000
variable [af]
theorem VS {e : Int} (he : (e != 0) = true) (h : (bif e != 0 then true else e != 0) = false) : False := by
 rw [he] at h; exact Bool.noConfusion h
end Go.Proofs.YtogfjinopifenaaDoor
namespace Go.Proofs.YtogfjinopifenaaDoor
open Go.Fw Go.Fw.Ref15 Go.Fw.Rg Go.Fw.Tl
set_option maxRecDepth 10000
variable [af]
end Go.Proofs.YtogfjinopifenaaDoor
