/- SyntaxBack: what is written is read: expressions. -/
import Derived.Test.YtmfehangcmbidaaGreatDoorZSP11
set_option linter.unusedSectionVars false
set_option linter.unusedSimpArgs false
set_option linter.unusedVariables false
namespace Go.Fw.Sy
open Go.Fw Go.Fw.Lx
variable [ae] {u : PM Ex}
theorem RN{x:Ex}{l r:List Tk}(h:u l=(some x,r)):gy u l=goP u x r:=by unfold gy;rw[h];rfl
theorem J5{x:Ex}{l r:List Tk}(h:gy u l=(some x,r)):sumM u l=goS u x r:=by unfold sumM;rw[h];rfl
theorem vK{l:List Tk}(h:isT wIf l=false):iT u l=sumM u l:=by
 unfold iT;rw[mY,if_neg (by rw[h];exact Bool.noConfusion)]
theorem Zg(l:List Tk):St1 (sg sKet::l):=⟨⟨by rw[wM];decide,by rw[wM];decide⟩,by rw[wM];decide,by rw[wM];decide⟩
end Go.Fw.Sy
