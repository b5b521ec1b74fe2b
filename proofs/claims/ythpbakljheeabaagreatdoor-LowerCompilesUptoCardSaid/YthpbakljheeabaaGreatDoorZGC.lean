/- The laws of package lower in plain words: sizes; operands; what is compared. -/
import Derived.Test.YthpbakljheeabaaGreatDoorZGA
set_option linter.unusedSectionVars false
set_option linter.unusedSimpArgs false
set_option linter.unusedVariables false
namespace Go.Fw.Lw
open Go.Fw
variable [ah]
end Go.Fw.Lw
namespace Go.Fw.Lw
open Go.Fw Go.Fw.Ref15 Go.Fw.Rg Go.Fw.Tl
variable [ah]
theorem uP{α:Type}{f:α×α->Bool}(h:∀x,f (x,x)=true):∀l:List α,(l.zip l).all f=true
 | []=>rfl
 |x::r=>by simp only[List.zip_cons_cons,List.all_cons,h,uP h r,Bool.and_self]
theorem PK(p:Pr):jK p p=true:=by
 have bd:∀b:Bd,qL (b,b)=true:=λb=>by simp[qL,Go.Fw.sameL,sameS]
 have ln:∀b:Ln,lC (b,b)=true:=λb=>by simp[lC,Go.Fw.sameL,sameS]
 have tb:∀b:Tb,qM (b,b)=true:=λb=>by
  simp only[qM,bne_self_eq_false,Bool.or_self,Bool.not_false,Bool.true_and]
  exact uP (λx=>by simp) _
 have sb:∀l:List Bd,dM l l=true:=λl=>by
  simp only[dM,bne_self_eq_false,Bool.not_false,Bool.true_and]
  exact uP bd l
 simp only[jK,heads,bne_self_eq_false,sb,Bool.not_true,Bool.or_self,Bool.not_false,Bool.true_and]
 rw[uP ln,uP tb];rfl
abbrev XX(p:Pr):Pr:=⟨[],p.latency,p.tail,p.params,p.states,p.lines,[],[]⟩
theorem XY{p:Pr}(g:gq p)(h:Res p)(hs:p.params.length<=268435456/\p.states.length<=268435456)(ht:∀t∈p.tables,t.values.length<=268435456):(ji p).Sm:=by
 have hl:=Ko h
 obtain⟨z1,_,_⟩:=Ht h p.stmts 0 [] 0 (by rfl)
 refine⟨hs.1,hs.2,by show p.lines.length<=_;omega,by show(p.tables.map _).length<=_;rw[List.length_map];omega,by show(cmpL p.stmts 0 [] 0).1.length<=_;omega,?_⟩
 intro t hm
 obtain⟨tb,h1,rfl⟩:=List.mem_map.1 hm
 exact ht tb h1
theorem XZ{l:List Tb}{i:Nat}{x:Tb}{r:List Tb}(h:l.drop i=x::r):0<=(i:Int)/\((l.map Tb.values).map Mac.lnC)[((i:Nat):Int).toNat]? = some (Mac.lnC x.values):=by
 refine⟨Int.natCast_nonneg _,?_⟩
 rw[Int.toNat_natCast,List.getElem?_map,List.getElem?_map,nK h];rfl
theorem z2q(p:Pr):(bif !true then true else((((p.tables.map Tb.values).map Mac.lnC).length:Nat):Int) != (((p.tables.map Tb.cs).length:Nat):Int))=false:=by simp
abbrev wP(l:Ins):Mac.Cd:=⟨0,0,[],[],[],[],0,l⟩
theorem X0{l:Ins}(h:l.length<=268435456):(wP l).Sm:=⟨Nat.zero_le _,Nat.zero_le _,Nat.zero_le _,Nat.zero_le _,h,λt ht=>by cases ht⟩
abbrev inX:Ex:=.mk 6 [] 0 0 [.mk 1 [] 0 0 []]
abbrev stX:Ex:=.mk 4 [115] 0 0 []
abbrev exX:Ex:=.mk 10 [] 0 0 [.mk 16 [] 0 0 [.mk 17 [] 0 0 [inX,.mk 1 [] 0 3 []],stX]]
abbrev exP:Pr:=⟨[112],0,-1,[],[⟨[115],-9,9⟩],[],[],[⟨4,[],0,exX⟩]⟩
abbrev exC:Mac.Cd:=⟨0,-1,[],[⟨[115],-9,9⟩],[],[],0,[(1,0),(8,0),(1,3),(19,0),(3,0),(18,0),(12,0),(22,0)]⟩
end Go.Fw.Lw
namespace Go.Fw.Lw
open Go.Fw
variable [ah]
end Go.Fw.Lw
