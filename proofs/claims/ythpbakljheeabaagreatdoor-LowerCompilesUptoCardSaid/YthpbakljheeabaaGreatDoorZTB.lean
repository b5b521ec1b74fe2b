/- Package tails in plain words: the law Bound: greater declarations. -/
import Derived.Test.YthpbakljheeabaaGreatDoorZTA
set_option linter.unusedSectionVars false
set_option linter.unusedSimpArgs false
set_option linter.unusedVariables false
namespace Go.Fw.Tl
open Go.Fw Go.Fw.Ref15 Go.Fw.Rg
variable [ah]
variable {p : Pr} {init : List Sm} {last : Sm} {sz : Nat}
variable {p : Pr} {init : List Sm} {last : Sm} {sz : Nat}
theorem Xb{p:Pr}{F:List Sp}(h:BOk p F):(aH p).2=0:=by rw[pY (MR h.res) h.run]
end Go.Fw.Tl
namespace Go.Fw.Tl
open Go.Fw Go.Fw.Ref15 Go.Fw.Rg
set_option maxRecDepth 100000
variable [ah]
end Go.Fw.Tl
namespace Go.Fw.Tl
open Go.Fw Go.Fw.Ref15 Go.Fw.Rg
variable [ah]
end Go.Fw.Tl
namespace Go.Fw.Tl
open Go.Fw Go.Fw.Ref15 Go.Fw.Rg
variable [ah] {p : Pr}
def UB(p:Pr)(n:Int)(x:Ex)(j:Nat):Int:=((aC x).take j).foldl (z5v p) n
theorem Xc(p:Pr)(n:Int)(s:Sm):UB p n s.x (aC s.x).length=z8x p n s:=by rw[UB,List.take_length];rfl
theorem Hq{n:Int}{x:Ex}{j:Nat}(hj:j<(aC x).length):UB p n x (j+1)=z5v p (UB p n x j) ((aC x).getD j Ex.none):=by
 rw[UB,List.take_add_one,List.getElem?_eq_getElem hj,List.foldl_append,List.getD_eq_getElem?_getD,List.getElem?_eq_getElem hj];rfl
theorem z6h{n:Int}{x:Ex}{j:Nat}(hj:j<(aC x).length)(hk:looks ((aC x).getD j Ex.none)=false):UB p n x (j+1)=UB p n x j:=by
 rw[Hq hj,z5v,hk];rfl
theorem z1j{F:List Sp}(h:BOk p F)(g:gq p){i:Nat}{s:Sm}{r:List Sm}(hd:p.stmts.drop i=s::r){n:Int}{j:Nat}(hj:j<(aC s.x).length)(hk:looks ((aC s.x).getD j Ex.none)=true) :
  ∃z t,((aC s.x).getD j Ex.none).l = [z]/\gu p z = .ok t/\Ref15.nodes z<=1073741824/\UB p n s.x (j+1)=mm2 true (UB p n s.x j) t.2:=by
 have hi:i<p.stmts.length:=by
  have:=congrArg List.length hd
  simp only[List.length_drop,List.length_cons]at this;omega
 have hs:p.stmts[i]? = some s:=by
  have:=congrArg (λl=>l[0]?) hd
  simpa using this
 have hx:bH p (i:Int)=s.x:=Ez hs
 have hm:(aC s.x).getD j Ex.none∈aC s.x:=by
  rw[List.getD_eq_getElem?_getD,List.getElem?_eq_getElem hj];exact List.getElem_mem hj
 obtain⟨hl,t,h1,_⟩:=look_ok h hi (by rw[hx];exact hm) hk
 rw[Hq hj]
 generalize (aC s.x).getD j Ex.none=y at *
 obtain⟨z,hz⟩:∃z,y.l = [z]:=by
  cases e:y.l with
  |nil=>rw[e]at hl;cases hl
  |cons a q=>cases q with
   |nil=>exact⟨a,rfl⟩
   |cons b q=>rw[e]at hl;simp at hl
 have e1:y.l.getD 0 Ex.none=z:=by rw[hz];rfl
 rw[e1]at h1
 refine⟨z,t,hz,h1,?_,?_⟩
 ·have a1:=Aa s.x y hm
  have a2:=g.hn s (List.mem_of_getElem? hs)
  have a3:Ref15.nodes z<=Ref15.nodes y:=by
   rw[Ref15.nodes_eq y,hz];simp[Ref15.nodesL]
  omega
 ·rw[z5v,hk,e1,hiM,h1];rfl
theorem Xd{y z:Ex}(h:y.l = [z]):0<=(0:Int)/\(Ex.css y.l)[(0:Int).toNat]? = some (Ex.cs z):=by
 rw[h,Ex.css_eq];exact⟨Int.le_refl _,rfl⟩
theorem UC(g:GOk p)(hn:0<p.stmts.length):(∃v s',qf p (aX p) (p.stmts.length+1) ⟨[],[]⟩ ((p.stmts.length:Int)-1) = .ok v s')\/(∃t,qf p (aX p) (p.stmts.length+1) ⟨[],[]⟩ ((p.stmts.length:Int)-1) = .pan t):=by
 have hc:((p.stmts.length:Int)-1)=((p.stmts.length-1:Nat):Int):=by omega
 rcases YF g (p.stmts.length+1) ⟨[],[]⟩ (p.stmts.length-1) (by omega) ⟨λk v h=>by simp[lkA]at h⟩ (λo h=>by simp[iI,lkA]at h) (by
  have:=List.countP_le_length (p:=λk=>!iI ⟨[],[]⟩ (k:Nat)) (l:=List.range p.stmts.length)
  rw[List.length_range]at this
  exact Nat.lt_succ_of_le this)with⟨w,s',e1,_⟩ |⟨⟨t,e1⟩,_⟩
 ·rw[hc];exact .inl ⟨w,s',e1⟩
 ·rw[hc];exact .inr ⟨t,e1⟩
theorem z8z(h:(aH p).2=0):nR p=(z3b p,0):=by rw[nR,h];rfl
theorem z81(h:(aH p).2=0):wz p=(z09 p,0):=by rw[wz,h];rfl
end Go.Fw.Tl
