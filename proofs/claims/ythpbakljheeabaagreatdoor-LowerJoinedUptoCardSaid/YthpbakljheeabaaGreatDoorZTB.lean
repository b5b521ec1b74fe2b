/- Package tails in plain words: the law Bound: greater declarations. -/
import Derived.Test.YthpbakljheeabaaGreatDoorZTA
set_option linter.unusedSectionVars false
set_option linter.unusedSimpArgs false
set_option linter.unusedVariables false
namespace Go.Fw.Tl
open Go.Fw Go.Fw.Ref15 Go.Fw.Rg
variable [af]
variable {p : Pr} {init : List Sm} {last : Sm} {sz : Nat}
variable {p : Pr} {init : List Sm} {last : Sm} {sz : Nat}
theorem WF{p:Pr}{F:List Sp}(h:BOk p F):(aK p).2=0:=by rw[pO (LX h.res) h.run]
end Go.Fw.Tl
namespace Go.Fw.Tl
open Go.Fw Go.Fw.Ref15 Go.Fw.Rg
set_option maxRecDepth 100000
variable [af]
end Go.Fw.Tl
namespace Go.Fw.Tl
open Go.Fw Go.Fw.Ref15 Go.Fw.Rg
variable [af]
end Go.Fw.Tl
namespace Go.Fw.Tl
open Go.Fw Go.Fw.Ref15 Go.Fw.Rg
variable [af] {p : Pr}
def Ub(p:Pr)(n:Int)(x:Ex)(j:Nat):Int:=((aG x).take j).foldl (z5o p) n
theorem WG(p:Pr)(n:Int)(s:Sm):Ub p n s.x (aG s.x).length=z8z p n s:=by rw[Ub,List.take_length];rfl
theorem GK{n:Int}{x:Ex}{j:Nat}(hj:j<(aG x).length):Ub p n x (j+1)=z5o p (Ub p n x j) ((aG x).getD j Ex.none):=by
 rw[Ub,List.take_add_one,List.getElem?_eq_getElem hj,List.foldl_append,List.getD_eq_getElem?_getD,List.getElem?_eq_getElem hj];rfl
theorem z6a{n:Int}{x:Ex}{j:Nat}(hj:j<(aG x).length)(hk:looks ((aG x).getD j Ex.none)=false):Ub p n x (j+1)=Ub p n x j:=by
 rw[GK hj,z5o,hk];rfl
theorem z02{F:List Sp}(h:BOk p F)(g:jc p){i:Nat}{s:Sm}{r:List Sm}(hd:p.stmts.drop i=s::r){n:Int}{j:Nat}(hj:j<(aG s.x).length)(hk:looks ((aG s.x).getD j Ex.none)=true) :
  ∃z t,((aG s.x).getD j Ex.none).l = [z]/\fU p z = .ok t/\Ref15.nodes z<=1073741824/\Ub p n s.x (j+1)=mm2 true (Ub p n s.x j) t.2:=by
 have hi:i<p.stmts.length:=by
  have:=congrArg List.length hd
  simp only[List.length_drop,List.length_cons]at this;omega
 have hs:p.stmts[i]? = some s:=by
  have:=congrArg (λl=>l[0]?) hd
  simpa using this
 have hx:bF p (i:Int)=s.x:=D8 hs
 have hm:(aG s.x).getD j Ex.none∈aG s.x:=by
  rw[List.getD_eq_getElem?_getD,List.getElem?_eq_getElem hj];exact List.getElem_mem hj
 obtain⟨hl,t,h1,_⟩:=look_ok h hi (by rw[hx];exact hm) hk
 rw[GK hj]
 generalize (aG s.x).getD j Ex.none=y at *
 obtain⟨z,hz⟩:∃z,y.l = [z]:=by
  cases e:y.l with
  |nil=>rw[e]at hl;cases hl
  |cons a q=>cases q with
   |nil=>exact⟨a,rfl⟩
   |cons b q=>rw[e]at hl;simp at hl
 have e1:y.l.getD 0 Ex.none=z:=by rw[hz];rfl
 rw[e1]at h1
 refine⟨z,t,hz,h1,?_,?_⟩
 ·have a1:=zO s.x y hm
  have a2:=g.hn s (List.mem_of_getElem? hs)
  have a3:Ref15.nodes z<=Ref15.nodes y:=by
   rw[Ref15.nodes_eq y,hz];simp[Ref15.nodesL]
  omega
 ·rw[z5o,hk,e1,hiM,h1];rfl
theorem WH{y z:Ex}(h:y.l = [z]):0<=(0:Int)/\(Ex.css y.l)[(0:Int).toNat]? = some (Ex.cs z):=by
 rw[h,Ex.css_eq];exact⟨Int.le_refl _,rfl⟩
theorem Uc(g:GOk p)(hn:0<p.stmts.length):(∃v s',pU p (aW p) (p.stmts.length+1) ⟨[],[]⟩ ((p.stmts.length:Int)-1) = .ok v s')\/(∃t,pU p (aW p) (p.stmts.length+1) ⟨[],[]⟩ ((p.stmts.length:Int)-1) = .pan t):=by
 have hc:((p.stmts.length:Int)-1)=((p.stmts.length-1:Nat):Int):=by omega
 rcases Yl g (p.stmts.length+1) ⟨[],[]⟩ (p.stmts.length-1) (by omega) ⟨λk v h=>by simp[lkA]at h⟩ (λo h=>by simp[iD,lkA]at h) (by
  have:=List.countP_le_length (p:=λk=>!iD ⟨[],[]⟩ (k:Nat)) (l:=List.range p.stmts.length)
  rw[List.length_range]at this
  exact Nat.lt_succ_of_le this)with⟨w,s',e1,_⟩ |⟨⟨t,e1⟩,_⟩
 ·rw[hc];exact .inl ⟨w,s',e1⟩
 ·rw[hc];exact .inr ⟨t,e1⟩
theorem z9a(h:(aK p).2=0):nJ p=(z2v p,0):=by rw[nJ,h];rfl
theorem z9b(h:(aK p).2=0):vP p=(z0q p,0):=by rw[vP,h];rfl
end Go.Fw.Tl
