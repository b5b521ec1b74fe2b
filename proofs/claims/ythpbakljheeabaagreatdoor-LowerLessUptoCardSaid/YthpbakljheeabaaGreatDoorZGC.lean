/- The laws of package lower in plain words: sizes; operands; what is compared. -/
import Derived.Test.YthpbakljheeabaaGreatDoorZGA
set_option linter.unusedSectionVars false
set_option linter.unusedSimpArgs false
set_option linter.unusedVariables false
namespace Go.Fw.Lw
open Go.Fw
variable [af]
abbrev W64(n:Int):Int:=IntKind.i64.wrap n
def Xr:List (List Int)->Int->Int
 | [],n=>n
 |t::r,n=>bif decide (n<5000)then Xr r (W64 (n+(t.length:Int)))else n
def z1p(c:Mac.Cd):Int:=W64 (W64 (W64 (W64 ((c.params.length:Int)+(c.states.length:Int))+(c.lines.length:Int))+(c.tables.length:Int))+(c.instrs.length:Int))
def Aj(c:Mac.Cd):Bool:=decide (Xr c.tables (z1p c)<5000)
theorem Ut{c:Mac.Cd}(g:c.Sm):z1p c=(c.params.length:Int)+(c.states.length:Int)+(c.lines.length:Int)+(c.tables.length:Int)+(c.instrs.length:Int):=by
 have h1:=g.params;have h2:=g.states;have h3:=g.lines;have h4:=g.tables;have h5:=g.instrs
 unfold z1p W64
 rw[bH (n:=(c.params.length:Int)+(c.states.length:Int)) (by omega) (by omega),bH (n:=(c.params.length:Int)+(c.states.length:Int)+(c.lines.length:Int)) (by omega) (by omega),bH (n:=(c.params.length:Int)+(c.states.length:Int)+(c.lines.length:Int)+(c.tables.length:Int)) (by omega) (by omega),bH (by omega) (by omega)]
theorem Uu:∀(l:List (List Int)) (n:Int),0<=n->n<=1000000000000->(∀t∈l,t.length<=268435456)->n<=Xr l n
 | [],n,_,_,_=>Int.le_refl n
 |t::r,n,h0,h1,ht=>by
  rw[Xr]
  by_cases h:n<5000
  ·rw[decide_eq_true h,cond_true]
   have:=ht t (by simp)
   have e:W64 (n+(t.length:Int))=n+(t.length:Int):=bH (by omega) (by omega)
   rw[e]
   have:=Uu r (n+(t.length:Int)) (by omega) (by omega) (λu hu=>ht u (by simp[hu]))
   omega
  ·rw[decide_eq_false h,cond_false];exact Int.le_refl n
structure Xt(c:Mac.Cd)(r:List (List Int))(n:Int):Prop where
 eq:Xr c.tables (z1p c)=Xr r n
 n0:0<=n
 nb:n<=2000000000
variable {c : Mac.Cd}
theorem Uw(g:c.Sm):Xt c c.tables (z1p c):=by
 have e:=Ut g
 have h1:=g.params;have h2:=g.states;have h3:=g.lines;have h4:=g.tables;have h5:=g.instrs
 exact⟨rfl,by omega,by omega⟩
theorem Xt.next{t:List Int}{r:List (List Int)}{n:Int}(h:Xt c (t::r) n)(hn:decide (n<5000)=true)(ht:t.length<=268435456):Xt c r (W64 (n+((t.map dZ).length:Int))):=by
 have hn':=of_decide_eq_true hn
 have e:W64 (n+(t.length:Int))=n+(t.length:Int):=by have:=h.n0;exact bH (by omega) (by omega)
 refine⟨?_,?_,?_⟩
 ·rw[h.eq,Xr,hn,cond_true,List.length_map]
 ·have:=h.n0;rw[List.length_map,e];omega
 ·rw[List.length_map,e];omega
theorem Xt.stop{t:List Int}{r:List (List Int)}{n:Int}(h:Xt c (t::r) n)(hn:decide (n<5000)=false):decide (n<5000)=Aj c:=by
 rw[Aj,h.eq,Xr,hn,cond_false,hn]
theorem Xt.end_{n:Int}(h:Xt c [] n):decide (n<5000)=Aj c:=by rw[Aj,h.eq,Xr]
theorem Ux(g:c.Sm)(h:Aj c=true):c.params.length+c.states.length+c.lines.length+c.tables.length+c.instrs.length<5000:=by
 have h1:=of_decide_eq_true h
 have e:=Ut g
 have k1:=g.params;have k2:=g.states;have k3:=g.lines;have k4:=g.tables;have k5:=g.instrs
 have:=Uu c.tables (z1p c) (by omega) (by omega) g.table
 omega
section
variable {c : Mac.Cd} {op : Int}
end
end Go.Fw.Lw
namespace Go.Fw.Lw
open Go.Fw Go.Fw.Ref15 Go.Fw.Rg Go.Fw.Tl
variable [af]
abbrev vN(l:Ins):Mac.Cd:=⟨0,0,[],[],[],[],0,l⟩
theorem Xu{l:Ins}(h:l.length<=268435456):(vN l).Sm:=⟨Nat.zero_le _,Nat.zero_le _,Nat.zero_le _,Nat.zero_le _,h,λt ht=>by cases ht⟩
abbrev inX:Ex:=.mk 6 [] 0 0 [.mk 1 [] 0 0 []]
abbrev stX:Ex:=.mk 4 [115] 0 0 []
abbrev exX:Ex:=.mk 10 [] 0 0 [.mk 16 [] 0 0 [.mk 17 [] 0 0 [inX,.mk 1 [] 0 3 []],stX]]
abbrev exP:Pr:=⟨[112],0,-1,[],[⟨[115],-9,9⟩],[],[],[⟨4,[],0,exX⟩]⟩
abbrev exC:Mac.Cd:=⟨0,-1,[],[⟨[115],-9,9⟩],[],[],0,[(1,0),(8,0),(1,3),(19,0),(3,0),(18,0),(12,0),(22,0)]⟩
end Go.Fw.Lw
namespace Go.Fw.Lw
open Go.Fw
variable [af] {c : Mac.Cd} {l : Ins}
theorem z1q(g:c.Sm)(h:Mac.checkP c=true):∃l x,c.instrs=l++[x]:=by
 have g3:=g.lines;have g5:=g.instrs
 have hv:c.instrs ≠ []:=by
  intro e
  unfold Mac.checkP at h
  rw[e]at h
  cases hd:Mac.decP c with
  |false=>rw[hd]at h;exact Bool.noConfusion h
  |true=>rw[hd]at h;exact Bool.noConfusion h
 exact⟨c.instrs.dropLast,c.instrs.getLast hv,(List.dropLast_concat_getLast hv).symm⟩
theorem Uy(g:c.Sm){x:Int×Int}(hc:c.instrs=l++[x]):IntKind.i64.wrap ((((c.instrs.map Mac.insC).length:Nat):Int)-1)=(l.length:Nat):=by
 have g5:=g.instrs
 rw[hc]at g5 ⊢
 simp only[List.length_append,List.length_cons,List.length_nil]at g5
 simp only[List.length_map,List.length_append,List.length_cons,List.length_nil]
 rw[bH (by omega) (by omega)];omega
theorem Xv(g:c.Sm){x:Int×Int}(hc:c.instrs=l++[x]):cut none (some (IntKind.i64.wrap ((((c.instrs.map Mac.insC).length:Nat):Int)-1))) (c.instrs.map Mac.insC)=l.map Mac.insC:=by
 rw[Uy g hc,cut,Int.toNat_natCast,hc,List.map_append,List.take_append_of_le_length (by simp),List.take_of_length_le (by simp)]
theorem Uz(g:c.Sm){x:Int×Int}(hc:c.instrs=l++[x]):0<=IntKind.i64.wrap ((((c.instrs.map Mac.insC).length:Nat):Int)-1)/\IntKind.i64.wrap ((((c.instrs.map Mac.insC).length:Nat):Int)-1)<=((c.instrs.map Mac.insC).length:Nat):=by
 rw[Uy g hc,hc];simp only[List.length_map,List.length_append,List.length_cons,List.length_nil];omega
theorem Xw(g:c.Sm){x:Int×Int}(hc:c.instrs=l++[x]):0<=IntKind.i64.wrap ((((c.instrs.map Mac.insC).length:Nat):Int)-1)/\(c.instrs.map Mac.insC)[(IntKind.i64.wrap ((((c.instrs.map Mac.insC).length:Nat):Int)-1)).toNat]? = some (Mac.insC x):=by
 rw[Uy g hc,hc]
 refine⟨Int.natCast_nonneg _,?_⟩
 rw[Int.toNat_natCast,List.getElem?_map,List.getElem?_append_right (Nat.le_refl _)];simp
theorem Xx{k:Nat}(h:k+c.instrs.length<5000):(([]:List (List D))++c.instrs.map Mac.insC).length<=1073741824:=by
 simp only[List.nil_append,List.length_map];omega
theorem z1r{x:Int×Int}{P:Prop}(hc:c.instrs=l++[x])(h:((((c.instrs.map Mac.insC).length:Nat):Int)==0)=true):P:=by
 rw[hc]at h
 simp only[List.length_map,List.length_append,List.length_cons,List.length_nil,beq_iff_eq]at h
 omega
theorem Xy{x:Int×Int}:([]:List (List D))++c.instrs.map Mac.insC++[[D.i x.1,D.i x.2]]=(c.instrs++[x]).map Mac.insC:=by simp
end Go.Fw.Lw
namespace Go.Fw.Lw
open Go.Fw
variable [af]
section
variable {c : Mac.Cd} {op : Int}
end
end Go.Fw.Lw
