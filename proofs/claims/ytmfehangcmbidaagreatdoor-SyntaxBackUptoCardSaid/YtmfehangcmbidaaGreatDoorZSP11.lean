/- SyntaxBack: what is written is read: steps. -/
import Derived.Test.YtmfehangcmbidaaGreatDoorZSP10
set_option linter.unusedSectionVars false
set_option linter.unusedSimpArgs false
set_option linter.unusedVariables false
namespace Go.Fw.Sy
open Go.Fw Go.Fw.Lx
variable [ae]
theorem dC(s t:Str)(l:List Tk):isT s (sg t::l)=(t==s):=by simp[isT,hd]
theorem jK(s t:Str)(l:List Tk):isT s (wd t::l)=(t==s):=by simp[isT,hd]
theorem Ye(s:Str)(n:Int)(l:List Tk):isT s (nu n::l)=false:=by simp[isT,hd]
theorem iK(s:Str)(l:List Tk):aF s (sg s::l)=(some (),l):=by rw[aF,if_pos (by rw[dC];simp)];rfl
theorem pJ(s:Str)(l:List Tk):aF s (wd s::l)=(some (),l):=by rw[aF,if_pos (by rw[jK];simp)];rfl
theorem CW{n:Int}(h:qU n)(l:List Tk):numM (nu n::l)=(some n,l):=by
 rw[numM,if_pos (by simp[dJ,hd,h.2])];rfl
theorem wW{s:Str}(h:CV s)(l:List Tk):nameM (wd s::l)=(some s,l):=by
 rw[nameM,if_pos (by have:=h.1;simp only[xK,hd,List.isEmpty_cons,Bool.not_false,Bool.true_and,this];rfl)];rfl
theorem kC{n:Int}(h:qU n):dQ n = [nu n]:=by unfold dQ;rw[if_neg (by have:=h.1;omega)]
structure St2(l:List Tk):Prop where
 star:isT sStar l=false
 slash:isT sSlash l=false
structure St1(l:List Tk):Prop extends St2 l where
 plus:isT sPlus l=false
 minus:isT sMinus l=false
variable {u : PM Ex} {l r : List Tk}
theorem G7(hu:Loc u)(x:Ex)(l:List Tk){n m:Nat}(hn:l.length<=n)(hm:l.length<=m):prodL u n x l=prodL u m x l:=by
 obtain⟨o,r,c,hc,h⟩:=GV hu l.length l x (Nat.le_refl _)
 subst hc
 exact(h n c r rfl rfl hn).trans (h m c r rfl rfl hm).symm
theorem Md(hu:Loc u)(x:Ex)(l:List Tk){n m:Nat}(hn:l.length<=n)(hm:l.length<=m):sumL u n x l=sumL u m x l:=by
 obtain⟨o,r,c,hc,h⟩:=L6 hu l.length l x (Nat.le_refl _)
 subst hc
 exact(h n c r rfl rfl hn).trans (h m c r rfl rfl hm).symm
theorem qI{x:Ex}{l:List Tk}(h:St2 l):∀n,prodL u n x l=(some x,l)
 | 0=>rfl
 |n+1=>by rw[pI,h.star,h.slash];rfl
theorem Ak{x:Ex}{l:List Tk}(h:St1 l):∀n,sumL u n x l=(some x,l)
 | 0=>rfl
 |n+1=>by rw[xG,h.plus,h.minus];rfl
abbrev goP(u:PM Ex)(x:Ex)(l:List Tk):Option Ex×List Tk:=prodL u l.length x l
abbrev goS(u:PM Ex)(x:Ex)(l:List Tk):Option Ex×List Tk:=sumL u l.length x l
theorem z02(hu:Loc u){x y:Ex}(h:u l=(some y,r)):goP u x (sg sStar::l)=goP u (ex2 17 x y) r:=by
 unfold goP
 rw[List.length_cons,pI,if_pos (by rw[dC];rfl),List.drop_one,List.tail_cons,h]
 exact G7 hu _ _ (by have:=(hu.act h).le;omega) (Nat.le_refl _)
theorem z03(hu:Loc u){x:Ex}{n:Int}{r:List Tk}(hn:qU n)(h0:n≠0):goP u x (sg sSlash::nu n::r)=goP u (.mk 18 [] 0 n [x]) r:=by
 unfold goP
 rw[List.length_cons,pI,if_neg (by rw[dC];decide),if_pos (by rw[dC];rfl),List.drop_one,List.tail_cons,divM,if_neg (by simp[hd,h0]),CW hn]
 exact G7 hu _ _ (by simp) (Nat.le_refl _)
theorem z04(hu:Loc u){x y:Ex}(h:gm u l=(some y,r)):goS u x (sg sPlus::l)=goS u (ex2 15 x y) r:=by
 unfold goS
 rw[List.length_cons,xG,if_pos (by rw[dC];rfl),List.drop_one,List.tail_cons,h]
 exact Md hu _ _ (by have:=((lF hu).act h).le;omega) (Nat.le_refl _)
theorem z05(hu:Loc u){x y:Ex}(h:gm u l=(some y,r)):goS u x (sg sMinus::l)=goS u (ex2 16 x y) r:=by
 unfold goS
 rw[List.length_cons,xG,if_neg (by rw[dC];decide),if_pos (by rw[dC];rfl),List.drop_one,List.tail_cons,h]
 exact Md hu _ _ (by have:=((lF hu).act h).le;omega) (Nat.le_refl _)
end Go.Fw.Sy
