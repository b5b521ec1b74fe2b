/- SyntaxBack: what the law asks for. -/
import Derived.Test.YtmfehangcmbidaaGreatDoorZSP20
set_option linter.unusedSectionVars false
set_option linter.unusedSimpArgs false
set_option linter.unusedVariables false
namespace Go.Fw.Sy
open Go.Fw Go.Fw.Lx
variable [ae]
mutual
theorem Um:∀x:Ex,Ref15.nodes x<=wX x
 | .mk k nm i n l=>by rw[Ref15.nodes,wX];have:=MP l;omega
theorem MP:∀l:List Ex,Ref15.nodesL l<=wL l
 | []=>by rw[Ref15.nodesL];exact Nat.zero_le _
 |x::l=>by rw[Ref15.nodesL,wL];have:=Um x;have:=MP l;omega
end
mutual
theorem Un:∀x:Ex,wX (gp x)=wX x
 | .mk k nm i n l=>by rw[gp,wX,wX,Uo l]
theorem Uo:∀l:List Ex,wL (jh l)=wL l
 | []=>rfl
 |x::l=>by rw[jh,wL,wL,Un x,Uo l]
end
theorem z1x(p:Pr):wP (dE p)=wP p:=by
 have e:(p.stmts.map uO).map sw=p.stmts.map sw:=by
  rw[List.map_map];exact List.map_congr_left λs _=>by simp only[Function.comp_def,sw,uO,Un]
 simp only[wP,dE,e]
theorem Ur(l:List Pr):((l.map dE).map wP).sum=(l.map wP).sum:=by
 rw[List.map_map];congr 1;exact List.map_congr_left λp _=>z1x p
theorem JE{α:Type}{w:α->Nat}:∀{l:List α} {x:α},x∈l->w x<=(l.map w).sum
 | [],_,h=>by simp at h
 |y::r,x,h=>by
  simp only[List.map_cons,List.sum_cons]
  rcases List.mem_cons.1 h with rfl |h
  ·omega
  ·have:=JE (w:=w) h;omega
theorem JF{α:Type}{w:α->Nat}:∀{l:List α},(∀x∈l,1<=w x)->l.length<=(l.map w).sum
 | [],_=>Nat.le_refl _
 |y::r,h=>by
  simp only[List.map_cons,List.sum_cons,List.length_cons]
  have:=h y (by simp)
  have:=JF (l:=r) λx hx=>h x (by simp[hx])
  omega
structure Wd(l:List Pr):Prop where
 n:(allT l).length<=1073741823
 j:(textS (allT l)).length<=140737488355328
 s:∀p∈l,p.stmts.length<=1073741823
 x:∀p∈l,∀s∈p.stmts,Ref15.nodes s.x<=1073741824
 l:l.length<=1073741823
theorem z1y{l:List Pr}(h:(l.map wP).sum<=1073741823):Wd l:=by
 obtain⟨h1,h2⟩:=z7i l
 have hp:∀p∈l,wP p<=1073741823:=λp hp=>by have:=JE (w:=wP) hp;omega
 refine⟨by omega,by omega,λp hq=>?_,λp hq s hs=>?_,?_⟩
 ·have:=hp p hq
  have:=JF (w:=sw) (l:=p.stmts) λs _=>by unfold sw;omega
  unfold wP at *;omega
 ·have:=hp p hq
  have a:=JE (w:=sw) hs
  have:=Um s.x
  have b:sw s=s.name.length+(wX s.x+60):=rfl
  unfold wP at *;omega
 ·have:=JF (w:=wP) (l:=l) λp _=>by unfold wP;omega
  omega
theorem Us{l:List Pr}(h:(l.map wP).sum<=1073741823):Wd (l.map dE):=z1y (by rw[Ur];exact h)
inductive zay(l:List Pr):Prop
 |no (h:jU l = .tuple [.str [],.i 140])
 |yes (t:Str) (h:jU l = .tuple [.str t,.i 0]) (hp:decide ((t.length:Int)>65536)=false->gU t = .tuple [prs (l.map dE),.i 0,.i 0]) (ha:jU (l.map dE) = .tuple [.str t,.i 0])
theorem zaj(l:List Pr):zay l:=by
 rcases Jz l with h |⟨h1,h2,h3⟩
 ·exact .no h
 ·exact .yes _ h1 (λhb=>JB h2 h3 hb) (JA h2 h3)
end Go.Fw.Sy
