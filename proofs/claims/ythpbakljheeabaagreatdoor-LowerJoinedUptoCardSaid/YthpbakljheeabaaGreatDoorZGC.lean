/- The laws of package lower in plain words: sizes; operands; what is compared. -/
import Derived.Test.YthpbakljheeabaaGreatDoorZGA
set_option linter.unusedSectionVars false
set_option linter.unusedSimpArgs false
set_option linter.unusedVariables false
namespace Go.Fw.Lw
open Go.Fw
variable [af]
abbrev W64(n:Int):Int:=IntKind.i64.wrap n
def XE:List (List Int)->Int->Int
 | [],n=>n
 |t::r,n=>bif decide (n<5000)then XE r (W64 (n+(t.length:Int)))else n
def z2a(c:Mac.Cd):Int:=W64 (W64 (W64 (W64 ((c.params.length:Int)+(c.states.length:Int))+(c.lines.length:Int))+(c.tables.length:Int))+(c.instrs.length:Int))
def gQ(c:Mac.Cd):Bool:=decide (XE c.tables (z2a c)<5000)
theorem UH{c:Mac.Cd}(g:c.Sm):z2a c=(c.params.length:Int)+(c.states.length:Int)+(c.lines.length:Int)+(c.tables.length:Int)+(c.instrs.length:Int):=by
 have h1:=g.params;have h2:=g.states;have h3:=g.lines;have h4:=g.tables;have h5:=g.instrs
 unfold z2a W64
 rw[bI (n:=(c.params.length:Int)+(c.states.length:Int)) (by omega) (by omega),bI (n:=(c.params.length:Int)+(c.states.length:Int)+(c.lines.length:Int)) (by omega) (by omega),bI (n:=(c.params.length:Int)+(c.states.length:Int)+(c.lines.length:Int)+(c.tables.length:Int)) (by omega) (by omega),bI (by omega) (by omega)]
theorem UI:∀(l:List (List Int)) (n:Int),0<=n->n<=1000000000000->(∀t∈l,t.length<=268435456)->n<=XE l n
 | [],n,_,_,_=>Int.le_refl n
 |t::r,n,h0,h1,ht=>by
  rw[XE]
  by_cases h:n<5000
  ·rw[decide_eq_true h,cond_true]
   have:=ht t (by simp)
   have e:W64 (n+(t.length:Int))=n+(t.length:Int):=bI (by omega) (by omega)
   rw[e]
   have:=UI r (n+(t.length:Int)) (by omega) (by omega) (λu hu=>ht u (by simp[hu]))
   omega
  ·rw[decide_eq_false h,cond_false];exact Int.le_refl n
structure XF(c:Mac.Cd)(r:List (List Int))(n:Int):Prop where
 eq:XE c.tables (z2a c)=XE r n
 n0:0<=n
 nb:n<=2000000000
variable {c : Mac.Cd}
theorem UJ(g:c.Sm):XF c c.tables (z2a c):=by
 have e:=UH g
 have h1:=g.params;have h2:=g.states;have h3:=g.lines;have h4:=g.tables;have h5:=g.instrs
 exact⟨rfl,by omega,by omega⟩
theorem XF.next{t:List Int}{r:List (List Int)}{n:Int}(h:XF c (t::r) n)(hn:decide (n<5000)=true)(ht:t.length<=268435456):XF c r (W64 (n+((t.map eG).length:Int))):=by
 have hn':=of_decide_eq_true hn
 have e:W64 (n+(t.length:Int))=n+(t.length:Int):=by have:=h.n0;exact bI (by omega) (by omega)
 refine⟨?_,?_,?_⟩
 ·rw[h.eq,XE,hn,cond_true,List.length_map]
 ·have:=h.n0;rw[List.length_map,e];omega
 ·rw[List.length_map,e];omega
theorem XF.stop{t:List Int}{r:List (List Int)}{n:Int}(h:XF c (t::r) n)(hn:decide (n<5000)=false):decide (n<5000)=gQ c:=by
 rw[gQ,h.eq,XE,hn,cond_false,hn]
theorem XF.end_{n:Int}(h:XF c [] n):decide (n<5000)=gQ c:=by rw[gQ,h.eq,XE]
theorem YK(g:c.Sm)(h:gQ c=true):c.params.length+c.states.length+c.lines.length+c.tables.length+c.instrs.length<5000:=by
 have h1:=of_decide_eq_true h
 have e:=UH g
 have k1:=g.params;have k2:=g.states;have k3:=g.lines;have k4:=g.tables;have k5:=g.instrs
 have:=UI c.tables (z2a c) (by omega) (by omega) g.table
 omega
section
variable {c : Mac.Cd} {op : Int}
end
end Go.Fw.Lw
namespace Go.Fw.Lw
open Go.Fw Go.Fw.Ref15 Go.Fw.Rg Go.Fw.Tl
variable [af]
abbrev wu(l:Ins):Mac.Cd:=⟨0,0,[],[],[],[],0,l⟩
theorem XG{l:Ins}(h:l.length<=268435456):(wu l).Sm:=⟨Nat.zero_le _,Nat.zero_le _,Nat.zero_le _,Nat.zero_le _,h,λt ht=>by cases ht⟩
abbrev inX:Ex:=.mk 6 [] 0 0 [.mk 1 [] 0 0 []]
abbrev stX:Ex:=.mk 4 [115] 0 0 []
abbrev exX:Ex:=.mk 10 [] 0 0 [.mk 16 [] 0 0 [.mk 17 [] 0 0 [inX,.mk 1 [] 0 3 []],stX]]
abbrev exP:Pr:=⟨[112],0,-1,[],[⟨[115],-9,9⟩],[],[],[⟨4,[],0,exX⟩]⟩
abbrev exC:Mac.Cd:=⟨0,-1,[],[⟨[115],-9,9⟩],[],[],0,[(1,0),(8,0),(1,3),(19,0),(3,0),(18,0),(12,0),(22,0)]⟩
end Go.Fw.Lw
namespace Go.Fw.Lw
open Go.Fw
variable [af]
section
variable {c : Mac.Cd} {op : Int}
end
end Go.Fw.Lw
