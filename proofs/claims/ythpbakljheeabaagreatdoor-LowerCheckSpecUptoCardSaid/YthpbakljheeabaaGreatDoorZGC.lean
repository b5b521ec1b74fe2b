/- The laws of package lower in plain words: sizes; operands; what is compared. -/
import Derived.Test.YthpbakljheeabaaGreatDoorZGA
set_option linter.unusedSectionVars false
set_option linter.unusedSimpArgs false
set_option linter.unusedVariables false
namespace Go.Fw.Lw
open Go.Fw
variable [af]
abbrev W64(n:Int):Int:=IntKind.i64.wrap n
def z1f:List (List Int)->Int->Int
 | [],n=>n
 |t::r,n=>bif decide (n<5000)then z1f r (W64 (n+(t.length:Int)))else n
def z1r(c:Mac.Cd):Int:=W64 (W64 (W64 (W64 ((c.params.length:Int)+(c.states.length:Int))+(c.lines.length:Int))+(c.tables.length:Int))+(c.instrs.length:Int))
def OY(c:Mac.Cd):Bool:=decide (z1f c.tables (z1r c)<5000)
theorem z1g{c:Mac.Cd}(g:c.Sm):z1r c=(c.params.length:Int)+(c.states.length:Int)+(c.lines.length:Int)+(c.tables.length:Int)+(c.instrs.length:Int):=by
 have h1:=g.params;have h2:=g.states;have h3:=g.lines;have h4:=g.tables;have h5:=g.instrs
 unfold z1r W64
 rw[bU (n:=(c.params.length:Int)+(c.states.length:Int)) (by omega) (by omega),bU (n:=(c.params.length:Int)+(c.states.length:Int)+(c.lines.length:Int)) (by omega) (by omega),bU (n:=(c.params.length:Int)+(c.states.length:Int)+(c.lines.length:Int)+(c.tables.length:Int)) (by omega) (by omega),bU (by omega) (by omega)]
structure Xj(c:Mac.Cd)(r:List (List Int))(n:Int):Prop where
 eq:z1f c.tables (z1r c)=z1f r n
 n0:0<=n
 nb:n<=2000000000
variable {c : Mac.Cd}
theorem Ur(g:c.Sm):Xj c c.tables (z1r c):=by
 have e:=z1g g
 have h1:=g.params;have h2:=g.states;have h3:=g.lines;have h4:=g.tables;have h5:=g.instrs
 exact⟨rfl,by omega,by omega⟩
theorem Xj.next{t:List Int}{r:List (List Int)}{n:Int}(h:Xj c (t::r) n)(hn:decide (n<5000)=true)(ht:t.length<=268435456):Xj c r (W64 (n+((t.map dZ).length:Int))):=by
 have hn':=of_decide_eq_true hn
 have e:W64 (n+(t.length:Int))=n+(t.length:Int):=by have:=h.n0;exact bU (by omega) (by omega)
 refine⟨?_,?_,?_⟩
 ·rw[h.eq,z1f,hn,cond_true,List.length_map]
 ·have:=h.n0;rw[List.length_map,e];omega
 ·rw[List.length_map,e];omega
theorem Xj.stop{t:List Int}{r:List (List Int)}{n:Int}(h:Xj c (t::r) n)(hn:decide (n<5000)=false):decide (n<5000)=OY c:=by
 rw[OY,h.eq,z1f,hn,cond_false,hn]
theorem Xj.end_{n:Int}(h:Xj c [] n):decide (n<5000)=OY c:=by rw[OY,h.eq,z1f]
section
variable {c : Mac.Cd} {op : Int}
end
end Go.Fw.Lw
namespace Go.Fw.Lw
open Go.Fw Go.Fw.Ref15 Go.Fw.Rg Go.Fw.Tl
variable [af]
abbrev vP(l:Ins):Mac.Cd:=⟨0,0,[],[],[],[],0,l⟩
theorem Xk{l:Ins}(h:l.length<=268435456):(vP l).Sm:=⟨Nat.zero_le _,Nat.zero_le _,Nat.zero_le _,Nat.zero_le _,h,λt ht=>by cases ht⟩
abbrev inX:Ex:=.mk 6 [] 0 0 [.mk 1 [] 0 0 []]
abbrev stX:Ex:=.mk 4 [115] 0 0 []
abbrev exX:Ex:=.mk 10 [] 0 0 [.mk 16 [] 0 0 [.mk 17 [] 0 0 [inX,.mk 1 [] 0 3 []],stX]]
abbrev exP:Pr:=⟨[112],0,-1,[],[⟨[115],-9,9⟩],[],[],[⟨4,[],0,exX⟩]⟩
abbrev exC:Mac.Cd:=⟨0,-1,[],[⟨[115],-9,9⟩],[],[],0,[(1,0),(8,0),(1,3),(19,0),(3,0),(18,0),(12,0),(22,0)]⟩
end Go.Fw.Lw
namespace Go.Fw.Lw
open Go.Fw
variable [af]
section
variable {c : Mac.Cd} {op : Int}
end
end Go.Fw.Lw
