/- SyntaxBack: what is written is read: all expressions. -/
import Derived.Test.YtmfehangcmbidaaGreatDoorZSP12
set_option linter.unusedSectionVars false
set_option linter.unusedSimpArgs false
set_option linter.unusedVariables false
namespace Go.Fw.Sy
open Go.Fw Go.Fw.Lx
variable [ae] {l : List Tk} {k : Nat} {f : Int} {x : Ex}
theorem z07(n:Int):aj (.mk 1 [] 0 n [])=dQ n:=by simp[aj,dL,gZ,forms,lY,zN,kW]
theorem TU(s:Str):aj (.mk 2 s 0 0 []) = [wd s]:=by simp[aj,dL,gZ,forms,lY,zN,kW]
theorem z08(x:Ex):aj (.mk 14 [] 0 0 [x])=sg sMinus::aW x 3:=by simp[aj,dL,gZ,forms,opsT,iT,aW]
theorem z09(x y:Ex):aj (.mk 17 [] 0 0 [x,y])=aW x 2++sg sStar::aW y 3:=by simp[aj,dL,gZ,forms,opsT,iT,aW]
theorem z1a(x:Ex)(n:Int):aj (.mk 18 [] 0 n [x])=aW x 2++sg sSlash::dQ n:=by simp[aj,dL,gZ,forms,opsT,iT,aW]
theorem z1b(x y:Ex):aj (.mk 15 [] 0 0 [x,y])=aW x 1++sg sPlus::aW y 2:=by simp[aj,dL,gZ,forms,opsT,iT,aW]
theorem z1c(x y:Ex):aj (.mk 16 [] 0 0 [x,y])=aW x 1++sg sMinus::aW y 2:=by simp[aj,dL,gZ,forms,opsT,iT,aW]
theorem zah(a b c d:Ex):aj (.mk 19 [] 0 0 [a,b,c,d])=wd wIf::(aW a 1++sg sLt::(aW b 1++wd wThen::(aW c 0++wd wElse::aW d 0))):=by simp[aj,dL,gZ,forms,opsT,iT,aW]
theorem WS{n:Int}(h:qU n):∀(k:Nat) (l:List Tk),bH k (nu n::l)=(some (.mk 1 [] 0 n []),l)
 | 0,l=>by show unitB none _=_;unfold unitB;rw[if_pos (by simp[dJ,hd,h.2])];rfl
 |k+1,l=>by show unitB (some (bH k)) _=_;unfold unitB;rw[if_pos (by simp[dJ,hd,h.2])];rfl
theorem TV{s:Str}(h:CV s)(l:List Tk):xK (wd s::l)=true:=by
 have:=h.1;simp only[xK,hd,List.isEmpty_cons,Bool.not_false,Bool.true_and,this];rfl
theorem TW{s:Str}(h:CV s):∀(k:Nat) (l:List Tk),bH k (wd s::l)=(some (.mk 2 s 0 0 []),l)
 | 0,l=>by show unitB none _=_;unfold unitB;rw[if_neg (by simp[dJ,hd]),if_pos (TV h l)];rfl
 |k+1,l=>by show unitB (some (bH k)) _=_;unfold unitB;rw[if_neg (by simp[dJ,hd]),if_pos (TV h l)];rfl
theorem TY{u:PM Ex}(h1:dJ l=false)(h2:xK l=false):unitB (some u) l=if isT sMinus l then bnd (u (l.drop 1)) λx l=>(some (ex1 14 x),l)
  else if isT sPar l then bnd (jd u (l.drop 1)) λx l=>bnd (aF sKet l) λ_ l=>(some x,l)
  else match look (hd l).text kW with
   |some f=>if(hd l).kind==1 then iR u f.1 f.2.1.toNat f.2.2 (l.drop 1)else(none,l)
   |none=>(none,l):=by
 unfold unitB;rw[if_neg (by rw[h1];exact Bool.noConfusion),if_neg (by rw[h2];exact Bool.noConfusion)];rfl
theorem WT{l r:List Tk}(h:bH k l=(some x,r)):bH (k+1) (sg sMinus::l)=(some (.mk 14 [] 0 0 [x]),r):=by
 show unitB (some (bH k)) _=_
 rw[TY (by simp[dJ,hd]) (by simp[xK,hd]),if_pos (by rw[dC];rfl),List.drop_one,List.tail_cons,h];rfl
theorem Ey{w:Str}{n:Nat}{nm:Bool}{l r:List Tk}(hw:words.contains w=true)(h1:(w==sMinus)=false)(h2:(w==sPar)=false)(hf:look w kW=some (f,(n:Int),nm))(h:iR (bH k) f n nm l=(some x,r)):bH (k+1) (wd w::l)=(some x,r):=by
 show unitB (some (bH k)) _=_
 rw[TY (by simp[dJ,hd]) (by simp only[xK,hd,hw];simp),if_neg (by rw[jK,h1];exact Bool.noConfusion),if_neg (by rw[jK,h2];exact Bool.noConfusion)]
 rw[show(hd (wd w::l)).text=w from rfl,hf]
 exact h
theorem WU(h:Rd1 k x):iR (bH k) f 1 false (sg sPar::(aj x++sg sKet::l))=(some (.mk f [] 0 0 [x]),l):=by
 unfold iR
 rw[iK]
 show(bnd (bnd (jd (bH k) (aj x++sg sKet::l)) λy l=>xy (bH k) 0 1 ([]++[y]) l) λxs l=>bnd (aF sKet l) λ_ l=>((some (Ex.mk f [] 0 0 xs):Option Ex),l))=_
 rw[h.expr _ (Ew l)]
 show(bnd (aF sKet (sg sKet::l)) λ_ l=>((some (Ex.mk f [] 0 0 [x]):Option Ex),l))=_
 rw[iK];rfl
theorem O5{s:Str}(hs:CV s)(h:Rd1 k x):iR (bH k) f 1 true (sg sPar::wd s::sg sComma::(aj x++sg sKet::l))=(some (.mk f s 0 0 [x]),l):=by
 unfold iR
 rw[iK]
 show(bnd (bnd (nameM (wd s::sg sComma::(aj x++sg sKet::l))) λs l=>bnd (aF sComma l) λ_ l=>(some s,l)) λs l=>bnd (xy (bH k) 1 0 [] l) λxs l=>bnd (aF sKet l) λ_ l=>((some (Ex.mk f s 0 0 xs):Option Ex),l))=_
 rw[wW hs]
 show(bnd (bnd (aF sComma (sg sComma::(aj x++sg sKet::l))) λ_ l=>(some s,l)) λs l=>bnd (xy (bH k) 1 0 [] l) λxs l=>bnd (aF sKet l) λ_ l=>((some (Ex.mk f s 0 0 xs):Option Ex),l))=_
 rw[iK]
 show(bnd (bnd (jd (bH k) (aj x++sg sKet::l)) λy l=>xy (bH k) 0 1 ([]++[y]) l) λxs l=>bnd (aF sKet l) λ_ l=>((some (Ex.mk f s 0 0 xs):Option Ex),l))=_
 rw[h.expr _ (Ew l)]
 show(bnd (aF sKet (sg sKet::l)) λ_ l=>((some (Ex.mk f s 0 0 [x]):Option Ex),l))=_
 rw[iK];rfl
theorem TZ(l:List Tk):St1 (sg sComma::l):=⟨⟨by rw[dC];decide,by rw[dC];decide⟩,by rw[dC];decide,by rw[dC];decide⟩
theorem WV{x y:Ex}(h:Rd1 k x)(h2:Rd1 k y):iR (bH k) f 2 false (sg sPar::(aj x++sg sComma::(aj y++sg sKet::l)))=(some (.mk f [] 0 0 [x,y]),l):=by
 unfold iR
 rw[iK]
 show(bnd (bnd (jd (bH k) (aj x++sg sComma::(aj y++sg sKet::l))) λy l=>xy (bH k) 1 1 ([]++[y]) l) λxs l=>bnd (aF sKet l) λ_ l=>((some (Ex.mk f [] 0 0 xs):Option Ex),l))=_
 rw[h.expr _ (TZ _)]
 show(bnd (bnd (aF sComma (sg sComma::(aj y++sg sKet::l))) λ_ l=>bnd (jd (bH k) l) λz l=>xy (bH k) 0 2 ([x]++[z]) l) λxs l=>bnd (aF sKet l) λ_ l=>((some (Ex.mk f [] 0 0 xs):Option Ex),l))=_
 rw[iK]
 show(bnd (bnd (jd (bH k) (aj y++sg sKet::l)) λz l=>xy (bH k) 0 2 ([x]++[z]) l) λxs l=>bnd (aF sKet l) λ_ l=>((some (Ex.mk f [] 0 0 xs):Option Ex),l))=_
 rw[h2.expr _ (Ew l)]
 show(bnd (aF sKet (sg sKet::l)) λ_ l=>((some (Ex.mk f [] 0 0 [x,y]):Option Ex),l))=_
 rw[iK];rfl
end Go.Fw.Sy
