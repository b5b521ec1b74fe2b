/- Package tails in plain words: the law Bound: greater declarations. -/
import Derived.Test.YthpbakljheeabaaGreatDoorZTA
set_option linter.unusedSectionVars false
set_option linter.unusedSimpArgs false
set_option linter.unusedVariables false
namespace Go.Fw.Tl
open Go.Fw Go.Fw.Ref15 Go.Fw.Rg
variable [af]
variable {p : Pr} {init : List Sm} {last : Sm} {sz : Nat}
variable {p : Pr} {init : List Sm} {last : Sm} {sz : Nat}
theorem Wh{p:Pr}{F:List Sp}(h:BOk p F):(aJ p).2=0:=by rw[pq (LJ h.res) h.run]
end Go.Fw.Tl
namespace Go.Fw.Tl
open Go.Fw Go.Fw.Ref15 Go.Fw.Rg
set_option maxRecDepth 100000
variable [af]
end Go.Fw.Tl
namespace Go.Fw.Tl
open Go.Fw Go.Fw.Ref15 Go.Fw.Rg
variable [af]
end Go.Fw.Tl
namespace Go.Fw.Tl
open Go.Fw Go.Fw.Ref15 Go.Fw.Rg
variable [af] {p : Pr}
def TG(p:Pr)(n:Int)(x:Ex)(j:Nat):Int:=((aF x).take j).foldl (z4t p) n
theorem Wi(p:Pr)(n:Int)(s:Sm):TG p n s.x (aF s.x).length=z8k p n s:=by rw[TG,List.take_length];rfl
theorem Gv{n:Int}{x:Ex}{j:Nat}(hj:j<(aF x).length):TG p n x (j+1)=z4t p (TG p n x j) ((aF x).getD j Ex.none):=by
 rw[TG,List.take_add_one,List.getElem?_eq_getElem hj,List.foldl_append,List.getD_eq_getElem?_getD,List.getElem?_eq_getElem hj];rfl
theorem z5f{n:Int}{x:Ex}{j:Nat}(hj:j<(aF x).length)(hk:looks ((aF x).getD j Ex.none)=false):TG p n x (j+1)=TG p n x j:=by
 rw[Gv hj,z4t,hk];rfl
theorem z0k{F:List Sp}(h:BOk p F)(g:iY p){i:Nat}{s:Sm}{r:List Sm}(hd:p.stmts.drop i=s::r){n:Int}{j:Nat}(hj:j<(aF s.x).length)(hk:looks ((aF s.x).getD j Ex.none)=true) :
  ∃z t,((aF s.x).getD j Ex.none).l = [z]/\fP p z = .ok t/\Ref15.nodes z<=1073741824/\TG p n s.x (j+1)=mm2 true (TG p n s.x j) t.2:=by
 have hi:i<p.stmts.length:=by
  have:=congrArg List.length hd
  simp only[List.length_drop,List.length_cons]at this;omega
 have hs:p.stmts[i]? = some s:=by
  have:=congrArg (λl=>l[0]?) hd
  simpa using this
 have hx:bF p (i:Int)=s.x:=DV hs
 have hm:(aF s.x).getD j Ex.none∈aF s.x:=by
  rw[List.getD_eq_getElem?_getD,List.getElem?_eq_getElem hj];exact List.getElem_mem hj
 obtain⟨hl,t,h1,_⟩:=look_ok h hi (by rw[hx];exact hm) hk
 rw[Gv hj]
 generalize (aF s.x).getD j Ex.none=y at *
 obtain⟨z,hz⟩:∃z,y.l = [z]:=by
  cases e:y.l with
  |nil=>rw[e]at hl;cases hl
  |cons a q=>cases q with
   |nil=>exact⟨a,rfl⟩
   |cons b q=>rw[e]at hl;simp at hl
 have e1:y.l.getD 0 Ex.none=z:=by rw[hz];rfl
 rw[e1]at h1
 refine⟨z,t,hz,h1,?_,?_⟩
 ·have a1:=zD s.x y hm
  have a2:=g.hn s (List.mem_of_getElem? hs)
  have a3:Ref15.nodes z<=Ref15.nodes y:=by
   rw[Ref15.nodes_eq y,hz];simp[Ref15.nodesL]
  omega
 ·rw[z4t,hk,e1,hiM,h1];rfl
theorem Wj{y z:Ex}(h:y.l = [z]):0<=(0:Int)/\(Ex.css y.l)[(0:Int).toNat]? = some (Ex.cs z):=by
 rw[h,Ex.css_eq];exact⟨Int.le_refl _,rfl⟩
theorem TJ(g:GOk p)(hn:0<p.stmts.length):(∃v s',pG p (aV p) (p.stmts.length+1) ⟨[],[]⟩ ((p.stmts.length:Int)-1) = .ok v s')\/(∃t,pG p (aV p) (p.stmts.length+1) ⟨[],[]⟩ ((p.stmts.length:Int)-1) = .pan t):=by
 have hc:((p.stmts.length:Int)-1)=((p.stmts.length-1:Nat):Int):=by omega
 rcases XZ g (p.stmts.length+1) ⟨[],[]⟩ (p.stmts.length-1) (by omega) ⟨λk v h=>by simp[lkA]at h⟩ (λo h=>by simp[ik,lkA]at h) (by
  have:=List.countP_le_length (p:=λk=>!ik ⟨[],[]⟩ (k:Nat)) (l:=List.range p.stmts.length)
  rw[List.length_range]at this
  exact Nat.lt_succ_of_le this)with⟨w,s',e1,_⟩ |⟨⟨t,e1⟩,_⟩
 ·rw[hc];exact .inl ⟨w,s',e1⟩
 ·rw[hc];exact .inr ⟨t,e1⟩
theorem z8n(h:(aJ p).2=0):ni p=(z15 p,0):=by rw[ni,h];rfl
theorem z8o(h:(aJ p).2=0):vF p=(Z8 p,0):=by rw[vF,h];rfl
end Go.Fw.Tl
