/- A part of the proof. -/
import Derived.Test.YtaipffoajgkljaaGreatDoorZGA
set_option linter.all false
namespace Go.Fw.Lw
open Go.Fw
variable [af]
end Go.Fw.Lw
namespace Go.Fw.Lw
open Go.Fw Go.Fw.Ref15 Go.Fw.Rg Go.Fw.Tl
variable [af]
theorem zi{α:Type}{f:α×α->Bool}(h:∀x,f (x,x)=true):∀l:List α,(l.zip l).all f=true
 | []=>rfl
 |x::r=>by simp[h,zi h r]
theorem SC(p:Pr):kF p p=true:=by
 have bd:∀b:Bd,rY (b,b)=true:=λb=>by simp[rY,Go.Fw.sameL,sameS]
 have ln:∀b:Ln,mr (b,b)=true:=λb=>by simp[mr,Go.Fw.sameL,sameS]
 have tb:∀b:Tb,rZ (b,b)=true:=λb=>by
  simp only[rZ,bne_self_eq_false,Bool.or_self,Bool.not_false,Bool.true_and]
  grind[zi]
 have sb:∀l:List Bd,dQ l l=true:=λl=>by
  simp only[dQ,bne_self_eq_false,Bool.not_false,Bool.true_and]
  exact zi bd l
 simp only[kF,heads,bne_self_eq_false,sb,Bool.not_true,Bool.or_self,Bool.not_false,Bool.true_and]
 grind[zi]
abbrev z0p(p:Pr):Pr:=⟨[],p.latency,p.tail,p.params,p.states,p.lines,[],[]⟩
theorem z0q{p:Pr}(g:gy p)(h:Res p)(hs:p.params.length<=268435456/\p.states.length<=268435456)(ht:∀t∈p.tables,t.values.length<=268435456):(eF p).Sm:=by
 have hl:=Gz h
 obtain⟨z1,_,_⟩:=Eu h p.stmts 0 [] 0 (by rfl)
 refine⟨hs.1,hs.2,by show p.lines.length<=_;omega,by show(p.tables.map _).length<=_;grind,by show(cmpL p.stmts 0 [] 0).1.length<=_;omega,?_⟩
 intro t hm
 obtain⟨tb,h1,rfl⟩:=List.mem_map.1 hm
 exact ht tb h1
theorem z0r{l:List Tb}{i:Nat}{x:Tb}{r:List Tb}(h:l.drop i=x::r):0<=(i:Int)/\((l.map Tb.values).map Mac.lnC)[((i:Nat):Int).toNat]? = some (Mac.lnC x.values):=by
 refine⟨Int.natCast_nonneg _,?_⟩
 rw[Int.toNat_natCast,List.getElem?_map,List.getElem?_map,mD h];rfl
theorem z9t(p:Pr):(bif !true then true else((((p.tables.map Tb.values).map Mac.lnC).length:Nat):Int) != (((p.tables.map Tb.cs).length:Nat):Int))=false:=by simp
abbrev xH(l:Ins):Mac.Cd:=⟨0,0,[],[],[],[],0,l⟩
theorem z0s{l:Ins}(h:l.length<=268435456):(xH l).Sm:=⟨Nat.zero_le _,Nat.zero_le _,Nat.zero_le _,Nat.zero_le _,h,λt ht=>by cases ht⟩
abbrev inX:Ex:=.mk 6 [] 0 0 [.mk 1 [] 0 0 []]
abbrev stX:Ex:=.mk 4 [115] 0 0 []
abbrev exX:Ex:=.mk 10 [] 0 0 [.mk 16 [] 0 0 [.mk 17 [] 0 0 [inX,.mk 1 [] 0 3 []],stX]]
abbrev exP:Pr:=⟨[112],0,-1,[],[⟨[115],-9,9⟩],[],[],[⟨4,[],0,exX⟩]⟩
abbrev exC:Mac.Cd:=⟨0,-1,[],[⟨[115],-9,9⟩],[],[],0,[(1,0),(8,0),(1,3),(19,0),(3,0),(18,0),(12,0),(22,0)]⟩
end Go.Fw.Lw
