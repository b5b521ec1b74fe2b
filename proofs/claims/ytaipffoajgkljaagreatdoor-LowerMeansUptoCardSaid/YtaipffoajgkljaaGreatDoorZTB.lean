/- A part of the proof. -/
import Derived.Test.YtaipffoajgkljaaGreatDoorZTA
set_option linter.all false
namespace Go.Fw.Tl
open Go.Fw Go.Fw.Ref15 Go.Fw.Rg
variable [af]
variable {p : Pr} {init : List Sm} {last : Sm} {sz : Nat}
variable {p : Pr} {init : List Sm} {last : Sm} {sz : Nat}
theorem Zk{p:Pr}{F:List Sp}(h:BOk p F):(aJ p).2=0:=by rw[qU (O5 h.res) h.run]
end Go.Fw.Tl
namespace Go.Fw.Tl
open Go.Fw Go.Fw.Ref15 Go.Fw.Rg
variable [af] {p : Pr}
def We(p:Pr)(n:Int)(x:Ex)(j:Nat):Int:=((aA x).take j).foldl (VO p) n
theorem Zl(p:Pr)(n:Int)(s:Sm):We p n s.x (aA s.x).length=zan p n s:=by rw[We,List.take_length];rfl
theorem Jl{n:Int}{x:Ex}{j:Nat}(hj:j<(aA x).length):We p n x (j+1)=VO p (We p n x j) ((aA x).getD j Ex.none):=by
 rw[We,List.take_add_one,List.foldl_append,List.getD_eq_getElem?_getD,List.getElem?_eq_getElem hj];rfl
theorem zcj{n:Int}{x:Ex}{j:Nat}(hj:j<(aA x).length)(hk:looks ((aA x).getD j Ex.none)=false):We p n x (j+1)=We p n x j:=by
 grind[Jl,VO]
theorem z7d{F:List Sp}(h:BOk p F)(g:gy p){i:Nat}{s:Sm}{r:List Sm}(hd:p.stmts.drop i=s::r){n:Int}{j:Nat}(hj:j<(aA s.x).length)(hk:looks ((aA s.x).getD j Ex.none)=true) :
  ∃z t,((aA s.x).getD j Ex.none).l = [z]/\gK p z = .ok t/\Ref15.nodes z<=1073741824/\We p n s.x (j+1)=mm2 true (We p n s.x j) t.2:=by
 have hi:i<p.stmts.length:=by
  have:=congrArg List.length hd
  grind
 have hs:p.stmts[i]? = some s:=by
  have:=congrArg (λl=>l[0]?) hd
  simpa using this
 have hx:bH p (i:Int)=s.x:=y7 hs
 have hm:(aA s.x).getD j Ex.none∈aA s.x:=by
  simp_all
 obtain⟨hl,t,h1,_⟩:=look_ok h hi (by simp_all) hk
 rw[Jl hj]
 generalize (aA s.x).getD j Ex.none=y at *
 obtain⟨z,hz⟩:∃z,y.l = [z]:=by
  cases e:y.l with
  |nil=>simp_all
  |cons a q=>simp_all
 have e1:y.l.getD 0 Ex.none=z:=by rw[hz];rfl
 rw[e1]at h1
 refine⟨z,t,hz,h1,?_,?_⟩
 ·have a1:=Bl s.x y hm
  have a2:=g.hn s (List.mem_of_getElem? hs)
  grind[Ref15.nodes_eq,Ref15.nodesL]
 grind[VO,hiM]
theorem Zm{y z:Ex}(h:y.l = [z]):0<=(0:Int)/\(Ex.css y.l)[(0:Int).toNat]? = some (Ex.cs z):=by
 rw[h,Ex.css_eq];simp
theorem Wh(g:GOk p)(hn:0<p.stmts.length):(∃v s',qW p (bf p) (p.stmts.length+1) ⟨[],[]⟩ ((p.stmts.length:Int)-1) = .ok v s')\/(∃t,qW p (bf p) (p.stmts.length+1) ⟨[],[]⟩ ((p.stmts.length:Int)-1) = .pan t):=by
 have hc:((p.stmts.length:Int)-1)=((p.stmts.length-1:Nat):Int):=by omega
 rcases z2e g (p.stmts.length+1) ⟨[],[]⟩ (p.stmts.length-1) (by omega) ⟨λk v h=>by simp[lkA]at h⟩ (λo h=>by simp[jE,lkA]at h) (by
  have:=List.countP_le_length (p:=λk=>!jE ⟨[],[]⟩ (k:Nat)) (l:=List.range p.stmts.length)
  rw[List.length_range]at this
  exact Nat.lt_succ_of_le this)with⟨w,s',e1,_⟩ |⟨⟨t,e1⟩,_⟩<;>simp_all
theorem ze8(h:(aJ p).2=0):oV p=(XU p,0):=by rw[oV,h];rfl
theorem ze9(h:(aJ p).2=0):xq p=(z6t p,0):=by rw[xq,h];rfl
end Go.Fw.Tl
