/- SyntaxBack: what is written is read: steps. -/
import Derived.Test.YtmfehangcmbidaaGreatDoorZSP10
set_option linter.unusedSectionVars false
set_option linter.unusedSimpArgs false
set_option linter.unusedVariables false
namespace Go.Fw.Sy
open Go.Fw Go.Fw.Lx
variable [ae]
theorem wM(s t:Str)(l:List Tk):isT s (sg t::l)=(t==s):=by simp[isT,hd]
theorem Zf(s:Str)(l:List Tk):aC s (sg s::l)=(some (),l):=by rw[aC,if_pos (by rw[wM];simp)];rfl
structure St2(l:List Tk):Prop where
 star:isT kw l=false
 slash:isT iW l=false
structure St1(l:List Tk):Prop extends St2 l where
 plus:isT lG l=false
 minus:isT dh l=false
variable {u : PM Ex}
theorem FW(hu:Loc u)(x:Ex)(l:List Tk){n m:Nat}(hn:l.length<=n)(hm:l.length<=m):prodL u n x l=prodL u m x l:=by
 obtain⟨o,r,c,hc,h⟩:=FM hu l.length l x (Nat.le_refl _)
 subst hc
 exact(h n c r rfl rfl hn).trans (h m c r rfl rfl hm).symm
theorem Ky(hu:Loc u)(x:Ex)(l:List Tk){n m:Nat}(hn:l.length<=n)(hm:l.length<=m):sumL u n x l=sumL u m x l:=by
 obtain⟨o,r,c,hc,h⟩:=Kt hu l.length l x (Nat.le_refl _)
 subst hc
 exact(h n c r rfl rfl hn).trans (h m c r rfl rfl hm).symm
theorem vO{x:Ex}{l:List Tk}(h:St2 l):∀n,prodL u n x l=(some x,l)
 | 0=>rfl
 |n+1=>by rw[mX,h.star,h.slash];rfl
theorem zu{x:Ex}{l:List Tk}(h:St1 l):∀n,sumL u n x l=(some x,l)
 | 0=>rfl
 |n+1=>by rw[uw,h.plus,h.minus];rfl
abbrev goP(u:PM Ex)(x:Ex)(l:List Tk):Option Ex×List Tk:=prodL u l.length x l
abbrev goS(u:PM Ex)(x:Ex)(l:List Tk):Option Ex×List Tk:=sumL u l.length x l
end Go.Fw.Sy
