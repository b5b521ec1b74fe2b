/- The laws of package lower in plain words: sizes; operands; what is compared. -/
import Derived.Test.YthpbakljheeabaaGreatDoorZGA
set_option linter.unusedSectionVars false
set_option linter.unusedSimpArgs false
set_option linter.unusedVariables false
namespace Go.Fw.Lw
open Go.Fw
variable [af]
abbrev W64(n:Int):Int:=IntKind.i64.wrap n
def Xk:List (List Int)->Int->Int
 | [],n=>n
 |t::r,n=>bif decide (n<5000)then Xk r (W64 (n+(t.length:Int)))else n
def z1k(c:Mac.Cd):Int:=W64 (W64 (W64 (W64 ((c.params.length:Int)+(c.states.length:Int))+(c.lines.length:Int))+(c.tables.length:Int))+(c.instrs.length:Int))
def Ai(c:Mac.Cd):Bool:=decide (Xk c.tables (z1k c)<5000)
theorem Uo{c:Mac.Cd}(g:c.Sm):z1k c=(c.params.length:Int)+(c.states.length:Int)+(c.lines.length:Int)+(c.tables.length:Int)+(c.instrs.length:Int):=by
 have h1:=g.params;have h2:=g.states;have h3:=g.lines;have h4:=g.tables;have h5:=g.instrs
 unfold z1k W64
 rw[bH (n:=(c.params.length:Int)+(c.states.length:Int)) (by omega) (by omega),bH (n:=(c.params.length:Int)+(c.states.length:Int)+(c.lines.length:Int)) (by omega) (by omega),bH (n:=(c.params.length:Int)+(c.states.length:Int)+(c.lines.length:Int)+(c.tables.length:Int)) (by omega) (by omega),bH (by omega) (by omega)]
theorem Ur:∀(l:List (List Int)) (n:Int),0<=n->n<=1000000000000->(∀t∈l,t.length<=268435456)->n<=Xk l n
 | [],n,_,_,_=>Int.le_refl n
 |t::r,n,h0,h1,ht=>by
  rw[Xk]
  by_cases h:n<5000
  ·rw[decide_eq_true h,cond_true]
   have:=ht t (by simp)
   have e:W64 (n+(t.length:Int))=n+(t.length:Int):=bH (by omega) (by omega)
   rw[e]
   have:=Ur r (n+(t.length:Int)) (by omega) (by omega) (λu hu=>ht u (by simp[hu]))
   omega
  ·rw[decide_eq_false h,cond_false];exact Int.le_refl n
structure Xl(c:Mac.Cd)(r:List (List Int))(n:Int):Prop where
 eq:Xk c.tables (z1k c)=Xk r n
 n0:0<=n
 nb:n<=2000000000
variable {c : Mac.Cd}
theorem Us(g:c.Sm):Xl c c.tables (z1k c):=by
 have e:=Uo g
 have h1:=g.params;have h2:=g.states;have h3:=g.lines;have h4:=g.tables;have h5:=g.instrs
 exact⟨rfl,by omega,by omega⟩
theorem Xl.next{t:List Int}{r:List (List Int)}{n:Int}(h:Xl c (t::r) n)(hn:decide (n<5000)=true)(ht:t.length<=268435456):Xl c r (W64 (n+((t.map dZ).length:Int))):=by
 have hn':=of_decide_eq_true hn
 have e:W64 (n+(t.length:Int))=n+(t.length:Int):=by have:=h.n0;exact bH (by omega) (by omega)
 refine⟨?_,?_,?_⟩
 ·rw[h.eq,Xk,hn,cond_true,List.length_map]
 ·have:=h.n0;rw[List.length_map,e];omega
 ·rw[List.length_map,e];omega
theorem Xl.stop{t:List Int}{r:List (List Int)}{n:Int}(h:Xl c (t::r) n)(hn:decide (n<5000)=false):decide (n<5000)=Ai c:=by
 rw[Ai,h.eq,Xk,hn,cond_false,hn]
theorem Xl.end_{n:Int}(h:Xl c [] n):decide (n<5000)=Ai c:=by rw[Ai,h.eq,Xk]
theorem z6h(g:c.Sm)(h:Ai c=true):c.params.length+c.states.length+c.lines.length+c.tables.length+c.instrs.length<5000:=by
 have h1:=of_decide_eq_true h
 have e:=Uo g
 have k1:=g.params;have k2:=g.states;have k3:=g.lines;have k4:=g.tables;have k5:=g.instrs
 have:=Ur c.tables (z1k c) (by omega) (by omega) g.table
 omega
section
variable {c : Mac.Cd} {op : Int}
theorem z6i(h:(op==1)=true):(Mac.effP c op).2.2=(-4611686018427387904,4611686018427387904):=by
 have e:op=1:=by simpa using h
 subst e;rfl
theorem z6j(h:(op==2)=true):(Mac.effP c op).2.2=(0,W64 ((c.params.length:Int)-1)):=by
 have e:op=2:=by simpa using h
 subst e;rfl
theorem z6k(h:(op==3)=true):(Mac.effP c op).2.2=(0,W64 ((c.states.length:Int)-1)):=by
 have e:op=3:=by simpa using h
 subst e;rfl
theorem z6l(h:(op==6)=true):(Mac.effP c op).2.2=(0,W64 ((c.states.length:Int)-1)):=by
 have e:op=6:=by simpa using h
 subst e;rfl
theorem z6m(h:(op==4)=true):(Mac.effP c op).2.2=(0,W64 (c.regs-1)):=by
 have e:op=4:=by simpa using h
 subst e;rfl
theorem z6n(h:(op==5)=true):(Mac.effP c op).2.2=(0,W64 (c.regs-1)):=by
 have e:op=5:=by simpa using h
 subst e;rfl
theorem z6o(h:(op==7)=true):(Mac.effP c op).2.2=(0,W64 ((c.lines.length:Int)-1)):=by
 have e:op=7:=by simpa using h
 subst e;rfl
theorem Yp(h:(op==10)=true):(Mac.effP c op).2.2=(0,W64 ((c.lines.length:Int)-1)):=by
 have e:op=10:=by simpa using h
 subst e;rfl
theorem Yq(h:(op==11)=true):(Mac.effP c op).2.2=(0,W64 ((c.tables.length:Int)-1)):=by
 have e:op=11:=by simpa using h
 subst e;rfl
theorem Yr(h:(op==20)=true):(Mac.effP c op).2.2=(1,2147483648):=by
 have e:op=20:=by simpa using h
 subst e;rfl
theorem z6p(h1:(op==1)=false)(h2:(op==2)=false)(h3:(op==3)=false)(h6:(op==6)=false)(h4:(op==4)=false)(h5:(op==5)=false)(h7:(op==7)=false)(h10:(op==10)=false)(h11:(op==11)=false)(h20:(op==20)=false):(Mac.effP c op).2.2=(0,0):=by
 unfold Mac.effP
 simp only[h1,h2,h3,h4,h5,h6,h7,h10,h11,h20,cond_false]
 cases (op==22)<;>cases (op==8)<;>cases (op==9)<;>cases (op==12)<;>cases (op==15)<;>cases (op==16)<;>cases (op==13)<;>cases (op==14)<;>cases (op==17)<;>cases (op==18)<;>cases (op==19)<;>cases (op==21)<;>rfl
end
def Aj:Ins->Nat->Nat->Int->Int->Bool->Bool
 | [],_,_,_,_,w=>w
 |x::r,k,i,op,a,w=>Aj r (k+1) i op a (bif (bif (bif (bif ((k:Int) != (i:Int))then x.1==7 else false)then op==7 else false)then x.2==a else false)then false else w)
theorem Ho:∀(l:Ins) (k i:Nat) (op a:Int) (w:Bool),Aj l k i op a w=true↔w=true/\∀(j:Nat) (x:Int×Int),l[j]? = some x->k+j≠i->x.1=7->op=7->x.2≠a
 | [],k,i,op,a,w=>by simp[Aj]
 |y::r,k,i,op,a,w=>by
  rw[Aj,Ho r (k+1) i op a]
  constructor
  ·rintro⟨h1,h2⟩
   have hw:w=true:=by
    revert h1
    cases (bif (bif (bif ((k:Int) != (i:Int))then y.1==7 else false)then op==7 else false)then y.2==a else false)<;>simp
   refine⟨hw,λj x hj hne h7 ho ha=>?_⟩
   cases j with
   |zero=>
    have e:y=x:=by simpa using hj
    subst e
    have hk:((k:Int) != (i:Int))=true:=by simp;omega
    rw[hk,h7,ho,ha]at h1
    simp at h1
   |succ j=>exact h2 j x (by simpa using hj) (by omega) h7 ho ha
  ·rintro⟨hw,h2⟩
   refine⟨?_,λj x hj hne h7 ho=>h2 (j+1) x (by simpa using hj) (by omega) h7 ho⟩
   have:(bif (bif (bif ((k:Int) != (i:Int))then y.1==7 else false)then op==7 else false)then y.2==a else false)=false:=by
    cases hc:(bif (bif (bif ((k:Int) != (i:Int))then y.1==7 else false)then op==7 else false)then y.2==a else false)with
    |false=>rfl
    |true=>
     exfalso
     by_cases hk:k=i
     ·subst hk;simp at hc
     ·have hk':((k:Int) != (i:Int))=true:=by simp;omega
      rw[hk']at hc
      simp only[cond_true]at hc
      by_cases h7:y.1=7
      ·by_cases ho:op=7
       ·have ha:y.2=a:=by
         rw[h7,ho]at hc;simpa using hc
        exact h2 0 y rfl (by omega) h7 ho ha
       ·have:(op==7)=false:=by simpa using ho
        rw[this]at hc;simp at hc
      ·have:(y.1==7)=false:=by simpa using h7
       rw[this]at hc;simp at hc
   rw[this];exact hw
theorem Xm{c:Mac.Cd}{i:Nat}{op a0 a:Int}{w:Bool}(h:Mac.checkP c=true)(hl:c.lines.length<=1000000)(hi:c.instrs.length<=60000)(hx:c.instrs[i]? = some (op,a0))
  (hw:w=(bif decide (a>=(Mac.effP c op).2.2.1)then decide (a<=(Mac.effP c op).2.2.2)else false)):Mac.checkP { c with instrs:=c.instrs.set i (op,a) }=Aj c.instrs 0 i op a w:=by
 have h1:=z5k h hl hi hx (a:=a)
 have h2:=Ho c.instrs 0 i op a w
 have h3:(w=true)↔(Mac.effP c op).2.2.1<=a/\a<=(Mac.effP c op).2.2.2:=by
  rw[hw]
  by_cases q:a>=(Mac.effP c op).2.2.1
  ·rw[decide_eq_true q,cond_true];simp only[decide_eq_true_eq];exact⟨λr=>⟨q,r⟩,λr=>r.2⟩
  ·rw[decide_eq_false q,cond_false];simp only[Bool.false_eq_true,false_iff];exact λr=>q r.1
 have h4:Aj c.instrs 0 i op a w=true↔oC c.instrs i op a (Mac.effP c op).2.2.1 (Mac.effP c op).2.2.2:=by
  rw[h2,h3,oC]
  exact⟨λr=>⟨r.1,λk x e hk=>r.2 k x e (by omega)⟩,λr=>⟨r.1,λk x e hk=>r.2 k x e (by omega)⟩⟩
 cases hb:Aj c.instrs 0 i op a w with
 |true=>exact h1.2 (h4.1 hb)
 |false=>
  cases hc:Mac.checkP { c with instrs:=c.instrs.set i (op,a) } with
  |false=>rfl
  |true=>rw[h4.2 (h1.1 hc)]at hb;cases hb
end Go.Fw.Lw
namespace Go.Fw.Lw
open Go.Fw Go.Fw.Ref15 Go.Fw.Rg Go.Fw.Tl
variable [af]
abbrev vP(l:Ins):Mac.Cd:=⟨0,0,[],[],[],[],0,l⟩
theorem Xn{l:Ins}(h:l.length<=268435456):(vP l).Sm:=⟨Nat.zero_le _,Nat.zero_le _,Nat.zero_le _,Nat.zero_le _,h,λt ht=>by cases ht⟩
abbrev inX:Ex:=.mk 6 [] 0 0 [.mk 1 [] 0 0 []]
abbrev stX:Ex:=.mk 4 [115] 0 0 []
abbrev exX:Ex:=.mk 10 [] 0 0 [.mk 16 [] 0 0 [.mk 17 [] 0 0 [inX,.mk 1 [] 0 3 []],stX]]
abbrev exP:Pr:=⟨[112],0,-1,[],[⟨[115],-9,9⟩],[],[],[⟨4,[],0,exX⟩]⟩
abbrev exC:Mac.Cd:=⟨0,-1,[],[⟨[115],-9,9⟩],[],[],0,[(1,0),(8,0),(1,3),(19,0),(3,0),(18,0),(12,0),(22,0)]⟩
end Go.Fw.Lw
namespace Go.Fw.Lw
open Go.Fw
variable [af]
theorem z1l{c:Mac.Cd}(g:c.Sm)(h:Mac.checkP c=true):∃l x,c.instrs=l++[x]:=by
 have g3:=g.lines;have g5:=g.instrs
 have hv:c.instrs ≠ []:=by
  intro e
  unfold Mac.checkP at h
  rw[e]at h
  cases hd:Mac.decP c with
  |false=>rw[hd]at h;exact Bool.noConfusion h
  |true=>rw[hd]at h;exact Bool.noConfusion h
 exact⟨c.instrs.dropLast,c.instrs.getLast hv,(List.dropLast_concat_getLast hv).symm⟩
end Go.Fw.Lw
namespace Go.Fw.Lw
open Go.Fw
variable [af] {c : Mac.Cd} {u : Nat}
def opI(c:Mac.Cd)(u:Nat):Nat:=u % c.instrs.length
theorem z6q(h:0<c.instrs.length):Int.tmod (u:Int) (((c.instrs.map Mac.insC).length:Nat):Int)=(opI c u:Nat):=by
 rw[List.length_map];exact(Int.ofNat_tmod u c.instrs.length)
theorem z6r(h:0<c.instrs.length):opI c u<c.instrs.length:=Nat.mod_lt _ h
abbrev opX(c:Mac.Cd)(u:Nat):Int×Int:=c.instrs.getD (opI c u) (0,0)
theorem z1m(h:0<c.instrs.length):c.instrs[opI c u]? = some (opX c u):=by
 rw[opX,List.getD_eq_getElem?_getD,List.getElem?_eq_getElem (z6r h)];rfl
theorem z6s(h:0<c.instrs.length):0<=((opI c u:Nat):Int)/\(c.instrs.map Mac.insC)[((opI c u:Nat):Int).toNat]? = some (Mac.insC (opX c u)):=
 ⟨Int.natCast_nonneg _,by rw[Int.toNat_natCast,List.getElem?_map,z1m h];rfl⟩
theorem z6t(h:0<c.instrs.length):(([]:List (List D)).take 0++c.instrs.map Mac.insC)[0+((opI c u:Nat):Int).toNat]? = some (Mac.insC (opX c u)):=by
 rw[Nat.zero_add,Int.toNat_natCast,List.take_zero,List.nil_append,List.getElem?_map,z1m h];rfl
theorem z6u{a:Int}(h:0<c.instrs.length):(([]:List (List D)).take 0++c.instrs.map Mac.insC).set (0+((opI c u:Nat):Int).toNat) [D.i (opX c u).1,D.i a]=(c.instrs.set (opI c u) ((opX c u).1,a)).map Mac.insC:=by
 rw[Nat.zero_add,Int.toNat_natCast,List.take_zero,List.nil_append,List.map_set]
theorem z1o{α:Type}{l:List α}{f:α->List D}{n:Nat}(h:n=l.length):((l.map f).drop 0).take n=l.map f:=by rw[List.drop_zero,List.take_of_length_le (by simp[h])]
theorem z1p(b c:Bool):(bif (bif !b then true else((200:Int) != 0))then true else c)=true:=by cases b<;>rfl
theorem z9g(h:0<c.instrs.length):0<=((opI c u:Nat):Int)/\((opI c u:Nat):Int)<((0+(c.instrs.map Mac.insC).length:Nat):Int):=by
 have:=z6r (u:=u) h
 rw[List.length_map];omega
theorem z1q(h:0<c.instrs.length)(hu:u<=65535):Int.tmod (IntKind.i64.wrap (u:Int)) (((c.instrs.map Mac.insC).length:Nat):Int)=(opI c u:Nat):=by
 rw[bH (by omega) (by omega)];exact z6q h
theorem z6v(h:0<c.instrs.length):(((c.instrs.map Mac.insC).length:Nat):Int)≠0:=by rw[List.length_map];omega
theorem z9h{v:List D}:0+(0+(c.instrs.map Mac.insC).length)<=((([]:List (List D)).take 0++c.instrs.map Mac.insC).set (0+((opI c u:Nat):Int).toNat) v).length:=by
 rw[List.length_set];simp
theorem z6w(b:Bool):((Mac.okE b==0)==b)=true:=by cases b<;>rfl
section
variable {c : Mac.Cd} {op : Int}
theorem z9i(h:(op==2)=true):IntKind.i64.wrap ((((c.params.map Bd.cs).length:Nat):Int)-1)=(Mac.effP c op).2.2.2:=by rw[List.length_map,z6j h]
theorem z9j(h:(op==3)=true):IntKind.i64.wrap ((((c.states.map Bd.cs).length:Nat):Int)-1)=(Mac.effP c op).2.2.2:=by rw[List.length_map,z6k h]
theorem z9k(h:(op==6)=true):IntKind.i64.wrap ((((c.states.map Bd.cs).length:Nat):Int)-1)=(Mac.effP c op).2.2.2:=by rw[List.length_map,z6l h]
theorem z9l(h:(op==7)=true):IntKind.i64.wrap ((((c.lines.map Ln.cs).length:Nat):Int)-1)=(Mac.effP c op).2.2.2:=by rw[List.length_map,z6o h]
theorem z6x(h:(op==10)=true):IntKind.i64.wrap ((((c.lines.map Ln.cs).length:Nat):Int)-1)=(Mac.effP c op).2.2.2:=by rw[List.length_map,Yp h]
theorem z6y(h:(op==11)=true):IntKind.i64.wrap ((((c.tables.map Mac.lnC).length:Nat):Int)-1)=(Mac.effP c op).2.2.2:=by rw[List.length_map,Yq h]
end
structure Ee(c:Mac.Cd)(u:Nat)(a:Int)(R:Bool)(k:Nat)(r:Ins)(w:Bool):Prop where
 eq:Aj r k (opI c u) (opX c u).1 a w=R
theorem Ee.hit{c:Mac.Cd}{u:Nat}{a:Int}{R:Bool}{k:Nat}{x:Int×Int}{r:Ins}{w:Bool}(h:Ee c u a R k (x::r) w)
  (hc:(bif (bif (bif ((k:Int) != ((opI c u:Nat):Int))then x.1==7 else false)then(opX c u).1==7 else false)then x.2==a else false)=true):Ee c u a R (k+1) r false:=by
 have:=h.eq;rw[Aj,hc]at this;exact⟨this⟩
theorem Ee.no{c:Mac.Cd}{u:Nat}{a:Int}{R:Bool}{k:Nat}{x:Int×Int}{r:Ins}{w:Bool}(h:Ee c u a R k (x::r) w)
  (hc:(bif (bif (bif ((k:Int) != ((opI c u:Nat):Int))then x.1==7 else false)then(opX c u).1==7 else false)then x.2==a else false)=false):Ee c u a R (k+1) r w:=by
 have:=h.eq;rw[Aj,hc]at this;exact⟨this⟩
theorem Ee.fin{c:Mac.Cd}{u:Nat}{a:Int}{R:Bool}{k:Nat}{w:Bool}(h:Ee c u a R k [] w):w=R:=h.eq
end Go.Fw.Lw
