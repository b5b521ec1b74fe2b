/- SyntaxBack: what is written is read: expressions. -/
import Derived.Test.YtmfehangcmbidaaGreatDoorZSP11
set_option linter.unusedSectionVars false
set_option linter.unusedSimpArgs false
set_option linter.unusedVariables false
namespace Go.Fw.Sy
open Go.Fw Go.Fw.Lx
variable [ae]
structure Rd1(k:Nat)(x:Ex):Prop where
 u:3<=level x.kind->∀l,bH k (aj x++l)=(some x,l)
 p:level x.kind=2->∀l,gm (bH k) (aj x++l)=goP (bH k) x l
 s:level x.kind=1->∀l,St2 l->sumM (bH k) (aj x++l)=goS (bH k) x l
 e:level x.kind=0->∀l,St1 l->jd (bH k) (aj x++l)=(some x,l)
 i:1<=level x.kind->∀l,isT wIf (aj x++l)=false
theorem Jt{u:PM Ex}{x:Ex}{l r:List Tk}(h:u l=(some x,r)):gm u l=goP u x r:=by unfold gm;rw[h];rfl
theorem LQ{u:PM Ex}{x:Ex}{l r:List Tk}(h:gm u l=(some x,r)):sumM u l=goS u x r:=by unfold sumM;rw[h];rfl
theorem wS{u:PM Ex}{l:List Tk}(h:isT wIf l=false):jd u l=sumM u l:=by
 unfold jd;rw[tC,if_neg (by rw[h];exact Bool.noConfusion)]
theorem WP(k:Int):0<=level k/\level k<=3:=by unfold level;(repeat' split)<;>omega
theorem Rd1.prod{k:Nat}{x:Ex}(h:Rd1 k x)(hx:2<=level x.kind)(l:List Tk):gm (bH k) (aj x++l)=goP (bH k) x l:=by
 rcases Int.lt_or_le (level x.kind) 3 with h1 |h1
 ·exact h.p (by omega) l
 ·exact Jt (h.u h1 l)
theorem Rd1.sum{k:Nat}{x:Ex}(h:Rd1 k x)(hx:1<=level x.kind)(l:List Tk)(hl:St2 l):sumM (bH k) (aj x++l)=goS (bH k) x l:=by
 rcases Int.lt_or_le (level x.kind) 2 with h1 |h1
 ·exact h.s (by omega) l hl
 ·exact LQ ((h.prod h1 l).trans (qI hl _))
theorem Rd1.expr{k:Nat}{x:Ex}(h:Rd1 k x)(l:List Tk)(hl:St1 l):jd (bH k) (aj x++l)=(some x,l):=by
 rcases Int.lt_or_le (level x.kind) 1 with h1 |h1
 ·exact h.e (by have:=WP x.kind;omega) l hl
 ·rw[wS (h.i h1 l),h.sum h1 l hl.toSt2];exact Ak hl _
theorem Ew(l:List Tk):St1 (sg sKet::l):=⟨⟨by rw[dC];decide,by rw[dC];decide⟩,by rw[dC];decide,by rw[dC];decide⟩
theorem WQ{k:Nat}{x:Ex}(h:Rd1 k x)(l:List Tk):bH (k+1) (sg sPar::(aj x++[sg sKet])++l)=(some x,l):=by
 show unitB (some (bH k)) _=_
 unfold unitB
 simp only[List.cons_append,List.append_assoc,List.nil_append]
 rw[if_neg (by simp[dJ,hd]),if_neg (by simp[xK,hd])]
 rw[if_neg (by rw[dC];decide),if_pos (by rw[dC];rfl),List.drop_one,List.tail_cons,h.expr _ (Ew l)]
 show(bnd (aF sKet (sg sKet::l)) λ_ l=>((some x:Option Ex),l))=_
 rw[iK];rfl
structure Rd2(k:Nat)(v:Int)(x:Ex):Prop where
 u:v=3->∀l,bH k (aW x v++l)=(some x,l)
 p:v=2->∀l,gm (bH k) (aW x v++l)=goP (bH k) x l
 s:v=1->∀l,St2 l->sumM (bH k) (aW x v++l)=goS (bH k) x l
 i:1<=v->∀l,isT wIf (aW x v++l)=false
theorem WR{k:Nat}{v:Int}{x:Ex}(hv:v<=level x.kind)(h:Rd1 k x):Rd2 k v x:=by
 have e:aW x v=aj x:=Ef (decide_eq_false (by omega))
 refine⟨λh3 l=>?_,λh2 l=>?_,λh1 l hl=>?_,λh1 l=>?_⟩
 ·rw[e];exact h.u (by omega) l
 ·rw[e];exact h.prod (by omega) l
 ·rw[e];exact h.sum (by omega) l hl
 ·rw[e];exact h.i (by omega) l
theorem z06{k:Nat}{v:Int}{x:Ex}(hv:level x.kind<v)(h:Rd1 k x):Rd2 (k+1) v x:=by
 have e:aW x v=sg sPar::(aj x++[sg sKet]):=qj (decide_eq_true hv)
 have hu:=λl=>WQ h l
 refine⟨λh3 l=>?_,λh2 l=>?_,λh1 l hl=>?_,λh1 l=>?_⟩
 ·rw[e];exact hu l
 ·rw[e];exact Jt (hu l)
 ·rw[e];exact LQ ((Jt (hu l)).trans (qI hl _))
 ·rw[e,List.cons_append,dC];decide
end Go.Fw.Sy
