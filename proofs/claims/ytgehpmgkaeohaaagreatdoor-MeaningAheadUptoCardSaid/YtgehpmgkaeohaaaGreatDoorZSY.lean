/- A part of the proof. -/
import Derived.Test.YtgehpmgkaeohaaaGreatDoorZSX
set_option linter.all false
namespace Go.Fw.Sy
open Go.Fw Go.Fw.Ref15
variable [ae]
theorem PE(a b:Bool):(bif a then true else b)=(a || b):=by cases a<;>rfl
abbrev prs(l:List Pr):D:=.sl 8 (l.map Pr.cs)
def z5q(n:Int):Int:=if n<=1001 then n else 1001
mutual
def count:Ex->Int
 | .mk _ _ _ _ l=>z5q (fD l 1)
def fD:List Ex->Int->Int
 | [],n=>n
 |x::r,n=>if n<=1000 then fD r (n+count x)else n
end
theorem count_eq(x:Ex):count x=z5q (fD x.l 1):=by cases x;rw[count];rfl
theorem zbb(n:Int):z5q n<=1001:=by simp only[z5q];split<;>omega
theorem zbc{n:Int}(h:1<=n):1<=z5q n:=by simp only[z5q];split<;>omega
theorem J5:∀(x:Ex),1<=count x:=by
 refine Ex.ind λx ih=>?_
 rw[count_eq]
 refine zbc ?_
 have:∀(l:List Ex) (n:Int),(∀y∈l,1<=count y)->1<=n->1<=fD l n:=by
  intro l
  induction l with
  |nil=>intro n _ h;exact h
  |cons y r ihr=>
   intro n h hn
   rw[fD]
   split
   ·have:=h y (by simp);exact ihr _ (λz hz=>h z (by simp[hz])) (by omega)
   ·exact hn
 exact this x.l 1 ih (Int.le_refl _)
theorem count_le(x:Ex):count x<=1001:=by rw[count_eq];exact zbb _
theorem NQ{l:List Ex}{n:Int}(h:¬n<=1000):fD l n=n:=by cases l<;>simp[fD,h]
def yf(n:Int):Int:=if n<=1000 then n else 1000
def NR:List Tb->Int->Int
 | [],n=>n
 |t::r,n=>NR r (n+yf t.values.length)
def zct:List Sm->Int->Int
 | [],n=>n
 |s::r,n=>zct r (n+count s.x)
def zgq(p:Pr):Bool:=bif bif bif bif bif decide ((p.name.length:Int)>40)then true else decide (((p.params.map Bd.cs).length:Int)>20)then true else decide (((p.states.map Bd.cs).length:Int)>20)then true else decide (((p.lines.map Ln.cs).length:Int)>20)then true else decide (((p.tables.map Tb.cs).length:Int)>20)then true else decide (((p.stmts.map Sm.cs).length:Int)>70)
def fewP(p:Pr):Bool:=!zgq p&&decide (zct p.stmts (NR p.tables 0)<=150)
structure Short(p:Pr):Prop where
 name:p.name.length<=40
 params:p.params.length<=20
 states:p.states.length<=20
 lines:p.lines.length<=20
 tables:p.tables.length<=20
 stmts:p.stmts.length<=70
theorem zgr{p:Pr}(h:zgq p=false):Short p:=by
 simp only[zgq,PE,Bool.or_eq_false_iff,decide_eq_false_iff_not,List.length_map]at h
 obtain⟨⟨⟨⟨⟨h1,h2⟩,h3⟩,h4⟩,h5⟩,h6⟩:=h
 constructor<;>omega
theorem zgs{p:Pr}(h:zgq p=true):fewP p=false:=by rw[fewP,h];rfl
theorem zbd{p:Pr}(h:zgq p=false){n:Int}(e:zct p.stmts (NR p.tables 0)=n):fewP p=decide (n<=150):=by rw[fewP,h,e];rfl
theorem z5r(n:Int):mm2 false n 1001=z5q n:=by simp only[mm2,z5q];split<;>split<;>omega
theorem zbe(n:Int):mm2 false n 1000=yf n:=by simp only[mm2,yf];split<;>split<;>omega
theorem Tq{n:Int}(h:0<=n):0<=yf n/\yf n<=1000:=by simp only[yf];split<;>omega
theorem NS{l:List Ex}{i:Nat}{c:Bool}{p q:Prop}(h:l.drop i = [])(hq:q):BrI (bif decide ((i:Int)<((Ex.css l).length:Int))then c else false) p q:=by
 rw[Ex.css_eq];exact xH h hq
theorem J6{l:List Ex}{i:Nat}{x:Ex}{r:List Ex}{c:Bool}{p q:Prop}(h:l.drop i=x::r)(hp:BrI c p q):BrI (bif decide ((i:Int)<((Ex.css l).length:Int))then c else false) p q:=by
 rw[Ex.css_eq];exact ug h hp
end Go.Fw.Sy
namespace Go.Fw.Sy
open Go.Fw.Lx (Tk)
variable [ae]
end Go.Fw.Sy
namespace Go.Fw.Sy
open Go.Fw Go.Fw.Lx
variable [ae]
def parseD(s:Str):D:=if decide ((s.length:Int)>65536)then .tuple [.sl 8 [],.i 0,.i 2]else match lexR pStep s 0 with
 | .error a=>.tuple [.sl 8 [],.i (a:Nat),.i 30]
 | .ok l=>z1f (s.length:Int) (readM l)
theorem readD_some{e:Int}{r:Option (List Pr)×List Tk}{ps:List Pr}(h:r.1=some ps):z1f e r = .tuple [.sl 8 (ps.map Pr.cs),.i 0,.i 0]:=by
 obtain⟨o,l⟩:=r;subst h;rfl
theorem Ff{e:Int}{r:Option (List Pr)×List Tk}(h:r.1=none):z1f e r = .tuple [.sl 8 [],.i (at' e r.2),.i 140]:=by
 obtain⟨o,l⟩:=r;subst h;rfl
end Go.Fw.Sy
