/- A part of the proof. -/
import Derived.Test.YtgehpmgkaeohaaaGreatDoorZTA
set_option linter.all false
namespace Go.Fw.Tl
open Go.Fw Go.Fw.Ref15 Go.Fw.Rg
variable [ae]
variable {p : Pr} {init : List Sm} {last : Sm} {sz : Nat}
variable {p : Pr} {init : List Sm} {last : Sm} {sz : Nat}
theorem Zq{p:Pr}{F:List Sp}(h:BOk p F):(aN p).2=0:=by rw[qW (O4 h.res) h.run]
end Go.Fw.Tl
namespace Go.Fw.Tl
open Go.Fw Go.Fw.Ref15 Go.Fw.Rg
variable [ae] {p : Pr}
def WG(p:Pr)(n:Int)(x:Ex)(j:Nat):Int:=((au x).take j).foldl (V9 p) n
theorem Zr(p:Pr)(n:Int)(s:Sm):WG p n s.x (au s.x).length=za0 p n s:=by rw[WG,List.take_length];rfl
theorem Jq{n:Int}{x:Ex}{j:Nat}(hj:j<(au x).length):WG p n x (j+1)=V9 p (WG p n x j) ((au x).getD j Ex.none):=by
 rw[WG,List.take_add_one,List.foldl_append,List.getD_eq_getElem?_getD,List.getElem?_eq_getElem hj];rfl
theorem zc0{n:Int}{x:Ex}{j:Nat}(hj:j<(au x).length)(hk:looks ((au x).getD j Ex.none)=false):WG p n x (j+1)=WG p n x j:=by
 grind[Jq,V9]
theorem z7l{F:List Sp}(h:BOk p F)(g:ja p){i:Nat}{s:Sm}{r:List Sm}(hd:p.stmts.drop i=s::r){n:Int}{j:Nat}(hj:j<(au s.x).length)(hk:looks ((au s.x).getD j Ex.none)=true) :
  ∃z t,((au s.x).getD j Ex.none).l = [z]/\gy p z = .ok t/\Ref15.nodes z<=1073741824/\WG p n s.x (j+1)=mm2 true (WG p n s.x j) t.2:=by
 have hi:i<p.stmts.length:=by
  have:=congrArg List.length hd
  grind
 have hs:p.stmts[i]? = some s:=by
  have:=congrArg (λl=>l[0]?) hd
  simpa using this
 have hx:bF p (i:Int)=s.x:=zh hs
 have hm:(au s.x).getD j Ex.none∈au s.x:=by
  simp_all
 obtain⟨hl,t,h1,_⟩:=look_ok h hi (by simp_all) hk
 rw[Jq hj]
 generalize (au s.x).getD j Ex.none=y at *
 obtain⟨z,hz⟩:∃z,y.l = [z]:=by
  cases e:y.l with
  |nil=>simp_all
  |cons a q=>simp_all
 have e1:y.l.getD 0 Ex.none=z:=by rw[hz];rfl
 rw[e1]at h1
 refine⟨z,t,hz,h1,?_,?_⟩
 ·have a1:=BA s.x y hm
  have a2:=g.hn s (List.mem_of_getElem? hs)
  grind[Ref15.nodes_eq,Ref15.nodesL]
 grind[V9,hiM]
theorem Zt{y z:Ex}(h:y.l = [z]):0<=(0:Int)/\(Ex.css y.l)[(0:Int).toNat]? = some (Ex.cs z):=by
 rw[h,Ex.css_eq];simp
theorem WH(g:GOk p)(hn:0<p.stmts.length):(∃v s',qY p (aW p) (p.stmts.length+1) ⟨[],[]⟩ ((p.stmts.length:Int)-1) = .ok v s')\/(∃t,qY p (aW p) (p.stmts.length+1) ⟨[],[]⟩ ((p.stmts.length:Int)-1) = .pan t):=by
 have hc:((p.stmts.length:Int)-1)=((p.stmts.length-1:Nat):Int):=by omega
 rcases z2e g (p.stmts.length+1) ⟨[],[]⟩ (p.stmts.length-1) (by omega) ⟨λk v h=>by simp[lkA]at h⟩ (λo h=>by simp[jm,lkA]at h) (by
  have:=List.countP_le_length (p:=λk=>!jm ⟨[],[]⟩ (k:Nat)) (l:=List.range p.stmts.length)
  rw[List.length_range]at this
  exact Nat.lt_succ_of_le this)with⟨w,s',e1,_⟩ |⟨⟨t,e1⟩,_⟩<;>simp_all
theorem zga(h:(aN p).2=0):oN p=(XX p,0):=by rw[oN,h];rfl
theorem zgb(h:(aN p).2=0):xw p=(z6z p,0):=by rw[xw,h];rfl
end Go.Fw.Tl
