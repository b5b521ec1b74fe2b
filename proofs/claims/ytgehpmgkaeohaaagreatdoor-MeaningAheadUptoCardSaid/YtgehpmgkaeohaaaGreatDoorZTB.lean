/- A part of the proof. -/
import Derived.Test.YtgehpmgkaeohaaaGreatDoorZTA
set_option linter.all false
namespace Go.Fw.Tl
open Go.Fw Go.Fw.Ref15 Go.Fw.Rg
variable [ae]
variable {p : Pr} {init : List Sm} {last : Sm} {sz : Nat}
variable {p : Pr} {init : List Sm} {last : Sm} {sz : Nat}
theorem z0f{p:Pr}{F:List Sp}(h:BOk p F):(aN p).2=0:=by rw[qY (PS h.res) h.run]
end Go.Fw.Tl
namespace Go.Fw.Tl
open Go.Fw Go.Fw.Ref15 Go.Fw.Rg
variable [ae] {p : Pr}
def Xi(p:Pr)(n:Int)(x:Ex)(j:Nat):Int:=((ax x).take j).foldl (WQ p) n
theorem z0g(p:Pr)(n:Int)(s:Sm):Xi p n s.x (ax s.x).length=zcq p n s:=by rw[Xi,List.take_length];rfl
theorem JI{n:Int}{x:Ex}{j:Nat}(hj:j<(ax x).length):Xi p n x (j+1)=WQ p (Xi p n x j) ((ax x).getD j Ex.none):=by
 rw[Xi,List.take_add_one,List.foldl_append,List.getD_eq_getElem?_getD,List.getElem?_eq_getElem hj];rfl
theorem zes{n:Int}{x:Ex}{j:Nat}(hj:j<(ax x).length)(hk:looks ((ax x).getD j Ex.none)=false):Xi p n x (j+1)=Xi p n x j:=by
 grind[JI,WQ]
theorem z9n{F:List Sp}(h:BOk p F)(g:iE p){i:Nat}{s:Sm}{r:List Sm}(hd:p.stmts.drop i=s::r){n:Int}{j:Nat}(hj:j<(ax s.x).length)(hk:looks ((ax s.x).getD j Ex.none)=true) :
  ∃z t,((ax s.x).getD j Ex.none).l = [z]/\gz p z = .ok t/\Ref15.nodes z<=1073741824/\Xi p n s.x (j+1)=mm2 true (Xi p n s.x j) t.2:=by
 have hi:i<p.stmts.length:=by
  have:=congrArg List.length hd
  grind
 have hs:p.stmts[i]? = some s:=by
  have:=congrArg (λl=>l[0]?) hd
  simpa using this
 have hx:bF p (i:Int)=s.x:=zG hs
 have hm:(ax s.x).getD j Ex.none∈ax s.x:=by
  simp_all
 obtain⟨hl,t,h1,_⟩:=look_ok h hi (by simp_all) hk
 rw[JI hj]
 generalize (ax s.x).getD j Ex.none=y at *
 obtain⟨z,hz⟩:∃z,y.l = [z]:=by
  cases e:y.l with
  |nil=>simp_all
  |cons a q=>simp_all
 have e1:y.l.getD 0 Ex.none=z:=by rw[hz];rfl
 rw[e1]at h1
 refine⟨z,t,hz,h1,?_,?_⟩
 ·have a1:=BP s.x y hm
  have a2:=g.hn s (List.mem_of_getElem? hs)
  grind[Ref15.nodes_eq,Ref15.nodesL]
 grind[WQ,hiM]
theorem z0h{y z:Ex}(h:y.l = [z]):0<=(0:Int)/\(Ex.css y.l)[(0:Int).toNat]? = some (Ex.cs z):=by
 rw[h,Ex.css_eq];simp
theorem Xj(g:GOk p)(hn:0<p.stmts.length):(∃v s',rf p (aW p) (p.stmts.length+1) ⟨[],[]⟩ ((p.stmts.length:Int)-1) = .ok v s')\/(∃t,rf p (aW p) (p.stmts.length+1) ⟨[],[]⟩ ((p.stmts.length:Int)-1) = .pan t):=by
 have hc:((p.stmts.length:Int)-1)=((p.stmts.length-1:Nat):Int):=by omega
 rcases z4f g (p.stmts.length+1) ⟨[],[]⟩ (p.stmts.length-1) (by omega) ⟨λk v h=>by simp[lkA]at h⟩ (λo h=>by simp[jm,lkA]at h) (by
  have:=List.countP_le_length (p:=λk=>!jm ⟨[],[]⟩ (k:Nat)) (l:=List.range p.stmts.length)
  rw[List.length_range]at this
  exact Nat.lt_succ_of_le this)with⟨w,s',e1,_⟩ |⟨⟨t,e1⟩,_⟩<;>simp_all
theorem zia(h:(aN p).2=0):oQ p=(YH p,0):=by rw[oQ,h];rfl
theorem zib(h:(aN p).2=0):xO p=(z9b p,0):=by rw[xO,h];rfl
end Go.Fw.Tl
