/- Package lower in plain words: how processors are compiled. -/
import Derived.Test.YthpbakljheeabaaGreatDoorZMA
import Derived.Test.YthpbakljheeabaaGreatDoorZTB
set_option linter.unusedSectionVars false
set_option linter.unusedSimpArgs false
set_option linter.unusedVariables false
namespace Go.Fw.Lw
open Go.Fw Go.Fw.Ref15 Go.Fw.Rg Go.Fw.Tl
variable [ah]
abbrev Ins:=List (Int×Int)
abbrev GF:=Int->Ins×Int
def needS:List Int->Int->Int->Int
 | [],_,n=>n
 |k::r,i,n=>needS r (i+1) (mm2 true n (k+i))
abbrev aV(l:List Int):Int×Int:=Mac.mostF l 0 0 0
def og(l:List Int):Int:=
 if l.length=0 then 1 else if l.length=1 then(aV l).1
 else if l.length=2 then mm2 true (aV l).1 (l.getD (1-(aV l).2).toNat 0+1)
 else needS (l.set (aV l).2.toNat 1) 0 (aV l).1
mutual
def ae:Ex->Int
 | .mk _ _ _ _ l=>og (bW l)
def bW:List Ex->List Int
 | []=>[]
 |x::r=>ae x::bW r
end
theorem nS(x:Ex):ae x=og (bW x.l):=by cases x;rw[ae];rfl
theorem jd:∀l:List Ex,bW l=l.map ae
 | []=>rfl
 |x::r=>by rw[bW,jd r];rfl
def dw(op a:Int):GF:=λn=>([(op,a)],n)
def jE(f g:GF):GF:=λn=>((f n).1++(g (f n).2).1,(g (f n).2).2)
def gNil:GF:=λn=>([],n)
def chG:List GF->Int->Int->Int->GF
 | [],_,_,_=>gNil
 |f::r,at_,reg,i=>jE (if i==at_ then dw 4 reg else f) (chG r at_ reg (i+1))
def z88(k:Int):Int:=if k==11 then 13 else if k==12 then 14 else if k==15 then 17 else 19
def O6(k:Int):Int:=if k==6 then 8 else if k==7 then 9 else if k==8 then 10 else if k==9 then 11 else if k==10 then 12 else if k==13 then 15 else if k==14 then 16 else 20
def z9a(k:Int):Bool:=k==11 || k==12 || k==15 || k==17
def fAt(fs:List GF)(i:Int):GF:=fs.getD i.toNat gNil
def uS(op:Int)(ns:List Int)(fs:List GF):GF:=jE (jE (fAt fs (aV ns).2) (fAt fs (1-(aV ns).2))) (dw op 0)
def J6(ns:List Int)(fs:List GF):GF:=
 if ns.getD 1 0<=ns.getD 0 0 then jE (jE (fAt fs 0) (fAt fs 1)) (dw 18 0)
 else jE (jE (jE (fAt fs 1) (dw 16 0)) (fAt fs 0)) (dw 17 0)
def gIf(ns:List Int)(fs:List GF):GF:=λn=>jE (jE (jE (fAt fs (aV ns).2) (dw 5 n)) (chG fs (aV ns).2 n 0)) (dw 21 0) (n+1)
def genC(R:List (Int×Int))(k i m:Int)(ns:List Int)(fs:List GF):GF:=
 if k==1 then dw 1 m
 else if k==3 then dw 2 i
 else if k==4 then dw 3 i
 else if k==5 then dw 4 ((lkA i R).getD 0)
 else if z9a k then uS (z88 k) ns fs
 else if k==16 then J6 ns fs
 else if k==19 then gIf ns fs
 else jE (fAt fs 0) (dw (O6 k) (i+m))
mutual
def aU(R:List (Int×Int)):Ex->GF
 | .mk k _ i m l=>genC R k i m (bW l) (dI R l)
def dI(R:List (Int×Int)):List Ex->List GF
 | []=>[]
 |x::r=>aU R x::dI R r
end
theorem J7(R:List (Int×Int))(x:Ex):aU R x=genC R x.kind x.index x.n (bW x.l) (dI R x.l):=by cases x;rw[aU];rfl
theorem qh(R:List (Int×Int)):∀l:List Ex,dI R l=l.map (aU R)
 | []=>rfl
 |x::r=>by rw[dI,qh R r];rfl
def cmpL:List Sm->Nat->List (Int×Int)->Int->Ins×Int
 | [],_,_,n=>([],n)
 |s::r,i,R,n=>
  if s.kind==1 then((aU R s.x n).1++[(5,(aU R s.x n).2)]++(cmpL r (i+1) (lL (i:Int) (aU R s.x n).2 R) ((aU R s.x n).2+1)).1,(cmpL r (i+1) (lL (i:Int) (aU R s.x n).2 R) ((aU R s.x n).2+1)).2)
  else((aU R s.x n).1++[if s.kind==2 then(6,s.index)else if s.kind==3 then(7,s.index)else(22,0)]++(cmpL r (i+1) R (aU R s.x n).2).1,(cmpL r (i+1) R (aU R s.x n).2).2)
def ji(p:Pr):Mac.Cd:=⟨p.latency,p.tail,p.params,p.states,p.lines,p.tables.map (·.values),(cmpL p.stmts 0 [] 0).2,(cmpL p.stmts 0 [] 0).1⟩
abbrev UD:Mac.Cd:=⟨0,0,[],[],[],[],0,[]⟩
def yg(p:Pr):Mac.Cd×Int:=if(kZ p != 0)=true then(UD,kZ p)else(ji p,0)
abbrev RS:=Int×Int×List Bool
def UE(c:Mac.Cd)(x:Int×Int)(s:RS):Option RS:=
 if Mac.refP (Mac.effP c x.1) x.2 s.1=true then none
 else if x.1==22 then some (Mac.W (s.1+Mac.W ((Mac.effP c x.1).2.1-(Mac.effP c x.1).1)),Mac.W (s.2.1+1),s.2.2)
 else if x.1==7 then(if s.2.2.getD x.2.toNat false=true then none else some (Mac.W (s.1+Mac.W ((Mac.effP c x.1).2.1-(Mac.effP c x.1).1)),s.2.1,s.2.2.set x.2.toNat true))
 else some (Mac.W (s.1+Mac.W ((Mac.effP c x.1).2.1-(Mac.effP c x.1).1)),s.2.1,s.2.2)
def runL(c:Mac.Cd):Ins->RS->Option RS
 | [],s=>some s
 |x::r,s=>match UE c x s with
  |none=>none
  |some t=>runL c r t
theorem ED(c:Mac.Cd):∀(a b:Ins) (s t:RS),runL c a s=some t->runL c (a++b) s=runL c b t
 | [],b,s,t,h=>by cases h;rfl
 |x::r,b,s,t,h=>by
  rw[runL]at h
  rw[List.cons_append,runL]
  cases hx:UE c x s with
  |none=>rw[hx]at h;cases h
  |some u=>rw[hx]at h;exact ED c r b u t h
theorem EE(c:Mac.Cd):∀(l:Ins) (n o:Int) (pu:List Bool) (n' o':Int) (pu':List Bool),runL c l (n,o,pu)=some (n',o',pu')->Mac.chkP c l n o pu = !(bif n' != 0 then true else o' != 1)
 | [],n,o,pu,n',o',pu',h=>by cases h;rfl
 |x::r,n,o,pu,n',o',pu',h=>by
  rw[runL]at h
  rw[Mac.chkP]
  unfold UE at h
  by_cases h1:Mac.refP (Mac.effP c x.1) x.2 n=true
  ·simp only[h1,if_true]at h;cases h
  ·simp only[h1,Bool.false_eq_true,if_false]at h
   have h1:Mac.refP (Mac.effP c x.1) x.2 n=false:=by simpa using h1
   rw[h1,cond_false]
   by_cases h2:(x.1==22)=true
   ·rw[h2,cond_true]
    rw[h2]at h
    exact EE c r _ _ _ _ _ _ h
   ·have h2:(x.1==22)=false:=by simpa using h2
    rw[h2,cond_false]
    simp only[h2,Bool.false_eq_true,if_false]at h
    by_cases h3:(x.1==7)=true
    ·rw[h3,cond_true]
     simp only[h3,if_true]at h
     by_cases h4:pu.getD x.2.toNat false=true
     ·simp only[h4,if_true]at h;cases h
     ·simp only[h4,Bool.false_eq_true,if_false]at h
      have h4:pu.getD x.2.toNat false=false:=by simpa using h4
      rw[h4,cond_false]
      exact EE c r _ _ _ _ _ _ h
    ·have h3:(x.1==7)=false:=by simpa using h3
     rw[h3,cond_false]
     simp only[h3,Bool.false_eq_true,if_false]at h
     exact EE c r _ _ _ _ _ _ h
theorem len1{α:Type}{l:List α}(h:(l.length:Int)=1):∃a,l = [a]:=by
 match l,h with
 | [a],_=>exact⟨a,rfl⟩
 | [],h=>simp at h
 |_::_::_,h=>simp at h;omega
theorem len2{α:Type}{l:List α}(h:(l.length:Int)=2):∃a b,l = [a,b]:=by
 match l,h with
 | [a,b],_=>exact⟨a,b,rfl⟩
 | [],h=>simp at h
 | [_],h=>simp at h
 |_::_::_::_,h=>simp at h;omega
theorem z6i{α:Type}{l:List α}(h:(l.length:Int)=4):∃a b c d,l = [a,b,c,d]:=by
 match l,h with
 | [a,b,c,d],_=>exact⟨a,b,c,d,rfl⟩
 | [],h=>simp at h
 | [_],h=>simp at h
 | [_,_],h=>simp at h
 | [_,_,_],h=>simp at h
 |_::_::_::_::_::_,h=>simp at h;omega
theorem lg{k n:Int}(h:n=Ref15.parts k)(h0:0<=n):(n=0/\(k=1\/k=2\/k=3\/k=4\/k=5))\/(n=1/\(k=6\/k=7\/k=8\/k=9\/k=10\/k=13\/k=14\/k=18))\/(n=2/\(k=11\/k=12\/k=15\/k=16\/k=17))\/(n=4/\k=19):=by
 unfold Ref15.parts at h
 simp only[Bool.or_eq_true,beq_iff_eq]at h
 split at h
 ·exact .inl ⟨h,by omega⟩
 ·split at h
  ·exact .inr (.inl ⟨h,by omega⟩)
  ·split at h
   ·exact .inr (.inr (.inl ⟨h,by omega⟩))
   ·split at h
    ·exact .inr (.inr (.inr ⟨h,by omega⟩))
    ·omega
theorem Xe{a b:Int}(ha:1<=a):(a>=b/\aV [a,b]=(a,0))\/(b>a/\aV [a,b]=(b,1)):=by
 by_cases h:b>a
 ·refine .inr ⟨h,?_⟩
  simp only[aV,Mac.mostF,decide_eq_true (show a>0 by omega),decide_eq_true h,cond_true];rfl
 ·refine .inl ⟨by omega,?_⟩
  simp only[aV,Mac.mostF,decide_eq_true (show a>0 by omega),decide_eq_false h,cond_true,cond_false]
theorem mW:∀(l:List Int) (i n k:Int),(Mac.mostF l i n k=(n,k)/\∀x∈l,x<=n)\/(∃j:Nat,l[j]? = some (Mac.mostF l i n k).1/\(Mac.mostF l i n k).2=i+j/\n<(Mac.mostF l i n k).1/\∀x∈l,x<=(Mac.mostF l i n k).1)
 | [],i,n,k=>.inl ⟨rfl,by simp⟩
 |x::r,i,n,k=>by
  rw[Mac.mostF]
  by_cases h:x>n
  ·rw[decide_eq_true h,cond_true]
   rcases mW r (i+1) x i with⟨e,h2⟩ |⟨j,h1,h2,h3,h4⟩
   ·rw[e]
    refine .inr ⟨0,rfl,by simp,h,λy hy=>?_⟩
    rcases List.mem_cons.1 hy with rfl |hy
    ·exact Int.le_refl _
    ·exact h2 y hy
   ·refine .inr ⟨j+1,h1,by rw[h2];omega,by omega,λy hy=>?_⟩
    rcases List.mem_cons.1 hy with rfl |hy
    ·omega
    ·exact h4 y hy
  ·rw[decide_eq_false h,cond_false]
   rcases mW r (i+1) n k with⟨e,h2⟩ |⟨j,h1,h2,h3,h4⟩
   ·rw[e]
    refine .inl ⟨rfl,λy hy=>?_⟩
    rcases List.mem_cons.1 hy with rfl |hy
    ·omega
    ·exact h2 y hy
   ·refine .inr ⟨j+1,h1,by rw[h2];omega,h3,λy hy=>?_⟩
    rcases List.mem_cons.1 hy with rfl |hy
    ·omega
    ·exact h4 y hy
theorem UF{a b c d:Int}(ha:1<=a):∃j:Nat,j<4/\(aV [a,b,c,d]).2=j /\ [a,b,c,d][j]? = some (aV [a,b,c,d]).1/\∀x ∈ [a,b,c,d],x<=(aV [a,b,c,d]).1:=by
 rcases mW [a,b,c,d] 0 0 0 with⟨_,h⟩ |⟨j,h1,h2,_,h4⟩
 ·have:=h a (by simp);omega
 ·have hj:j<4:=by have:=(List.getElem?_eq_some_iff.1 h1).1;simpa using this
  exact⟨j,hj,by rw[aV,h2];omega,h1,h4⟩
theorem EF:∀(l:List Int) (i n:Int),n<=needS l i n/\∀(j:Nat) k,l[j]? = some k->k+(i+j)<=needS l i n
 | [],i,n=>⟨Int.le_refl _,λj k h=>by simp at h⟩
 |x::r,i,n=>by
  have ih:=EF r (i+1) (mm2 true n (x+i))
  have hm:=iJ n (x+i)
  rw[needS]
  refine⟨by omega,λj k h=>?_⟩
  cases j with
  |zero=>simp only[List.getElem?_cons_zero,Option.some.injEq]at h;subst h;simp only[Int.natCast_zero];omega
  |succ j=>
   have:=ih.2 j k (by simpa using h)
   omega
theorem NC:∀(l:List Int) (i n:Int),needS l i n=n\/∃(j:Nat) (k:Int),l[j]? = some k/\needS l i n=k+(i+j)
 | [],i,n=>.inl rfl
 |x::r,i,n=>by
  rw[needS]
  rcases NC r (i+1) (mm2 true n (x+i))with e |⟨j,k,h1,h2⟩
  ·rw[e]
   rcases(iJ n (x+i)).2.2 with q |q
   ·exact .inl q
   ·exact .inr ⟨0,x,rfl,by rw[q];simp⟩
  ·exact .inr ⟨j+1,k,by simpa using h1,by rw[h2];omega⟩
theorem UG{a:Int}(ha:1<=a):og [a]=a:=by
 show(aV [a]).1=a
 simp only[aV,Mac.mostF,decide_eq_true (show a>0 by omega),cond_true]
theorem UH{a b:Int}(ha:1<=a):og [a,b]=if b>a then mm2 true b (a+1)else mm2 true a (b+1):=by
 show mm2 true (aV [a,b]).1 ([a,b].getD (1-(aV [a,b]).2).toNat 0+1)=_
 rcases Xe (b:=b) ha with⟨h,e⟩ |⟨h,e⟩
 ·rw[e,if_neg (by omega)];rfl
 ·rw[e,if_pos h];rfl
theorem uF:∀x:Ex,(∀n p,wfX p n x=true->1<=ae x):=by
 refine Ex.ind λx ih=>?_
 intro n p hw
 obtain⟨g1,g2,g3⟩:=bG hw
 have hc:∀y∈x.l,1<=ae y:=λy hy=>ih y hy n p (gY g3 y hy)
 rw[nS,jd]
 rcases lg g1 (Int.natCast_nonneg _)with⟨h,_⟩ |⟨h,_⟩ |⟨h,_⟩ |⟨h,_⟩
 ·have:x.l = []:=by
   cases e:x.l with
   |nil=>rfl
   |cons a r=>rw[e]at h;simp at h;omega
  rw[this];exact Int.le_refl _
 ·obtain⟨a,e⟩:=len1 h
  have:=hc a (by rw[e];simp)
  rw[e];show 1<=og [ae a];rw[UG this];exact this
 ·obtain⟨a,b,e⟩:=len2 h
  have h1:=hc a (by rw[e];simp)
  have h2:=hc b (by rw[e];simp)
  rw[e];show 1<=og [ae a,ae b];rw[UH h1]
  split
  ·have:=(iJ (ae b) (ae a+1)).1;omega
  ·have:=(iJ (ae a) (ae b+1)).1;omega
 ·obtain⟨a,b,c,d,e⟩:=z6i h
  have h1:=hc a (by rw[e];simp)
  rw[e]
  show 1<=needS ([ae a,ae b,ae c,ae d].set (aV [ae a,ae b,ae c,ae d]).2.toNat 1) 0 (aV [ae a,ae b,ae c,ae d]).1
  have:=(EF ([ae a,ae b,ae c,ae d].set (aV [ae a,ae b,ae c,ae d]).2.toNat 1) 0 (aV [ae a,ae b,ae c,ae d]).1).1
  obtain⟨j,_,_,_,h4⟩:=UF (b:=ae b) (c:=ae c) (d:=ae d) h1
  have:=h4 (ae a) (by simp)
  omega
theorem wG{a b:Nat}(h:a<=b):2 ^ a<=2 ^ b:=Nat.pow_le_pow_right (by decide) h
theorem uG{a b:Nat}(h:a<=b):a * a * a<=b * b * b:=Nat.mul_le_mul (Nat.mul_le_mul h h) h
theorem ND{a b n:Nat}(h:a+b+1<=n)(hab:a<=b):8 * (a * a * a)<=n * n * n:=by
 have h1:2 * a<=n:=by omega
 have h2:=uG h1
 have e:2 * a * (2 * a) * (2 * a)=8 * (a * a * a):=by
  simp only[Nat.mul_assoc,Nat.mul_comm,Nat.mul_left_comm]
 omega
theorem aP{d a b:Int}{A B n:Nat}(hA:2 ^ a.toNat<=2 * (A * A * A))(hB:2 ^ b.toNat<=2 * (B * B * B))(h1:d<=a+3)(h2:d<=b+3)(ha:0<=a)(hb:0<=b)(hn:A+B+1<=n):2 ^ d.toNat<=2 * (n * n * n):=by
 rcases Nat.le_total A B with h |h
 ·have h3:=wG (show d.toNat<=a.toNat+3 by omega)
  have h4:=ND hn h
  rw[Nat.pow_add]at h3
  have:(2:Nat) ^ 3=8:=rfl
  rw[this]at h3
  omega
 ·have h3:=wG (show d.toNat<=b.toNat+3 by omega)
  have h4:=ND (show B+A+1<=n by omega) h
  rw[Nat.pow_add]at h3
  have:(2:Nat) ^ 3=8:=rfl
  rw[this]at h3
  omega
theorem uH{a:Int}{A n:Nat}(hA:2 ^ a.toNat<=2 * (A * A * A))(hn:A<=n):2 ^ a.toNat<=2 * (n * n * n):=by
 have:=uG hn;omega
theorem dZ(x:Ex):1<=Ref15.nodes x:=by rw[Ref15.nodes_eq];omega
theorem Xf:∀x:Ex,(∀n p,wfX p n x=true->2 ^ (ae x).toNat<=2 * (Ref15.nodes x * Ref15.nodes x * Ref15.nodes x)):=by
 refine Ex.ind λx ih=>?_
 intro n p hw
 obtain⟨g1,g2,g3⟩:=bG hw
 have hc:∀y∈x.l,1<=ae y:=λy hy=>uF y n p (gY g3 y hy)
 have hp:∀y∈x.l,2 ^ (ae y).toNat<=2 * (Ref15.nodes y * Ref15.nodes y * Ref15.nodes y):=λy hy=>ih y hy n p (gY g3 y hy)
 rw[nS,jd,Ref15.nodes_eq]
 rcases lg g1 (Int.natCast_nonneg _)with⟨h,_⟩ |⟨h,_⟩ |⟨h,_⟩ |⟨h,_⟩
 ·have:x.l = []:=by
   cases e:x.l with
   |nil=>rfl
   |cons a r=>rw[e]at h;simp at h;omega
  rw[this];decide
 ·obtain⟨a,e⟩:=len1 h
  have h1:=hc a (by rw[e];simp)
  rw[e]
  show 2 ^ (og [ae a]).toNat<=_
  rw[UG h1]
  exact uH (hp a (by rw[e];simp)) (by simp[Ref15.nodesL])
 ·obtain⟨a,b,e⟩:=len2 h
  have h1:=hc a (by rw[e];simp)
  have h2:=hc b (by rw[e];simp)
  have p1:=hp a (by rw[e];simp)
  have p2:=hp b (by rw[e];simp)
  rw[e]
  show 2 ^ (og [ae a,ae b]).toNat<=_
  rw[UH h1]
  have hn:Ref15.nodes a+Ref15.nodes b+1<=1+Ref15.nodesL [a,b]:=by simp[Ref15.nodesL];omega
  split
  ·rename_i hgt
   rcases(iJ (ae b) (ae a+1)).2.2 with q |q
   ·rw[q];exact uH p2 (by omega)
   ·rw[q];exact aP p1 p2 (by omega) (by omega) (by omega) (by omega) hn
  ·rename_i hgt
   rcases(iJ (ae a) (ae b+1)).2.2 with q |q
   ·rw[q];exact uH p1 (by omega)
   ·rw[q];exact aP p1 p2 (by omega) (by omega) (by omega) (by omega) hn
 ·obtain⟨a,b,c,d,e⟩:=z6i h
  have ha:=hc a (by rw[e];simp)
  rw[e]
  show 2 ^ (needS ([ae a,ae b,ae c,ae d].set (aV [ae a,ae b,ae c,ae d]).2.toNat 1) 0 (aV [ae a,ae b,ae c,ae d]).1).toNat<=_
  obtain⟨j,hj,e1,e2,e3⟩:=UF (b:=ae b) (c:=ae c) (d:=ae d) ha
  have hN:1+Ref15.nodesL [a,b,c,d]=1+(Ref15.nodes a+(Ref15.nodes b+(Ref15.nodes c+Ref15.nodes d))):=by simp[Ref15.nodesL]
  have hpa:=dZ a;have hpb:=dZ b;have hpc:=dZ c;have hpd:=dZ d
  -- each part by its place
  have hat:∀i:Nat,i<4->∃y,[a,b,c,d][i]? = some y/\y∈x.l /\ [ae a,ae b,ae c,ae d][i]? = some (ae y):=by
   intro i hi
   match i,hi with
   | 0,_=>exact⟨a,rfl,by rw[e];simp,rfl⟩
   | 1,_=>exact⟨b,rfl,by rw[e];simp,rfl⟩
   | 2,_=>exact⟨c,rfl,by rw[e];simp,rfl⟩
   | 3,_=>exact⟨d,rfl,by rw[e];simp,rfl⟩
  have hsum:∀i i':Nat,i<4->i' < 4->i≠i'->∀y y',[a,b,c,d][i]? = some y -> [a,b,c,d][i']? = some y'->Ref15.nodes y+Ref15.nodes y'+1<=1+Ref15.nodesL [a,b,c,d]:=by
   intro i i' hi hi' hne y y' hy hy'
   rw[hN]
   match i,hi,i',hi',hne with
   | 0,_,1,_,_=>cases hy;cases hy';omega
   | 0,_,2,_,_=>cases hy;cases hy';omega
   | 0,_,3,_,_=>cases hy;cases hy';omega
   | 1,_,0,_,_=>cases hy;cases hy';omega
   | 1,_,2,_,_=>cases hy;cases hy';omega
   | 1,_,3,_,_=>cases hy;cases hy';omega
   | 2,_,0,_,_=>cases hy;cases hy';omega
   | 2,_,1,_,_=>cases hy;cases hy';omega
   | 2,_,3,_,_=>cases hy;cases hy';omega
   | 3,_,0,_,_=>cases hy;cases hy';omega
   | 3,_,1,_,_=>cases hy;cases hy';omega
   | 3,_,2,_,_=>cases hy;cases hy';omega
   | 0,_,0,_,h=>exact absurd rfl h
   | 1,_,1,_,h=>exact absurd rfl h
   | 2,_,2,_,h=>exact absurd rfl h
   | 3,_,3,_,h=>exact absurd rfl h
  obtain⟨z,z1,z2,z3⟩:=hat j hj
  have ez:(aV [ae a,ae b,ae c,ae d]).1=ae z:=by rw[e2]at z3;exact Option.some.inj z3
  have hz:=hc z z2
  have pz:=hp z z2
  rw[e1,ez,Int.toNat_natCast]
  rcases NC ([ae a,ae b,ae c,ae d].set j 1) 0 (ae z)with q |⟨i,k,q1,q2⟩
  ·rw[q]
   have:=hsum j (if j=0 then 1 else 0) hj (by split<;>omega) (by split<;>omega) z _ z1 ((hat (if j=0 then 1 else 0) (by split<;>omega)).choose_spec.1)
   exact uH pz (by omega)
  ·have hi:i<4:=by
    have:=(List.getElem?_eq_some_iff.1 q1).1
    simpa using this
   rw[q2]
   by_cases hij:i=j
   ·subst hij
    have:k=1:=by
     rw[List.getElem?_set]at q1
     simpa[hi]using q1.symm
    subst this
    have hb:5<=1+Ref15.nodesL [a,b,c,d]:=by rw[hN];omega
    have:=uG hb
    have h3:=wG (show((1:Int)+(0+(i:Nat))).toNat<=4 by omega)
    have:(2:Nat) ^ 4=16:=rfl
    omega
   ·obtain⟨y,y1,y2,y3⟩:=hat i hi
    have ek:k=ae y:=by
     rw[List.getElem?_set_ne (λh=>hij h.symm),y3]at q1
     exact(Option.some.inj q1).symm
    subst ek
    have hyz:ae y<=ae z:=by rw[<-ez];exact e3 _ (List.mem_of_getElem? y3)
    exact aP (hp y y2) pz (by omega) (by omega) (by have:=hc y y2;omega) (by omega) (hsum i j hi hj hij y z y1 z1)
theorem UI{x:Ex}{n:Nat}{p:Pr}(hw:wfX p n x=true)(hn:Ref15.nodes x<=512):ae x<=28:=by
 have h1:=Xf x n p hw
 have h2:=uG hn
 have h3:2 ^ (ae x).toNat<=2 ^ 28:=by
  have:(2:Nat) ^ 28=2 * (512 * 512 * 512):=by decide
  omega
 have h4:(ae x).toNat<=28:=by
  by_cases h:(ae x).toNat<=28
  ·exact h
  ·have:=Nat.pow_lt_pow_right (a:=2) (by decide) (show 28<(ae x).toNat by omega)
   omega
 omega
theorem Wn{n:Int}(h:-1000000<=n/\n<=1000000):Mac.W n=n:=bJ (by omega) (by omega)
theorem J8{c:Mac.Cd}{op a h o t u lo hi:Int}{pu:List Bool}(he:Mac.effP c op=(t,u,lo,hi))(ht:0<=t/\t<=4)(hu:0<=u/\u<=1)(ha:lo<=a/\a<=hi)(hh:t<=h)(h64:h-t+u<=64)(h1:(op==22)=false)(h2:(op==7)=false):UE c (op,a) (h,o,pu)=some (h+(u-t),o,pu):=by
 unfold UE
 have e1:Mac.W (h-t)=h-t:=Wn (by omega)
 have e2:Mac.W (h-t+u)=h-t+u:=Wn (by omega)
 have e3:Mac.W (u-t)=u-t:=Wn (by omega)
 have e4:Mac.W (h+(u-t))=h+(u-t):=Wn (by omega)
 have hr:Mac.refP (Mac.effP c op) a h=false:=by
  rw[he]
  simp only[Mac.refP,e1,e2,decide_eq_false (show ¬t<0 by omega),decide_eq_false (show ¬a<lo by omega),decide_eq_false (show ¬a>hi by omega),decide_eq_false (show ¬h<t by omega),decide_eq_false (show ¬h-t+u>64 by omega),cond_false]
 rw[he]at hr
 simp only[he,hr,h1,h2,Bool.false_eq_true,if_false,e3,e4]
def Runs(c:Mac.Cd)(n0:Int)(f:GF)(P:Int->Prop)(k:Int):Prop:=∀n,n0<=n->n<=(f n).2/\((f n).2<=c.regs->∀h o pu,P h->runL c (f n).1 (h,o,pu)=some (h+k,o,pu))
theorem Runs.seq{c:Mac.Cd}{n0 k m:Int}{f g:GF}{P Q:Int->Prop}(hf:Runs c n0 f P k)(hg:Runs c n0 g Q m):Runs c n0 (jE f g) (λh=>P h/\Q (h+k)) (k+m):=by
 intro n hn
 obtain⟨a1,a2⟩:=hf n hn
 obtain⟨b1,b2⟩:=hg (f n).2 (by omega)
 refine⟨Int.le_trans a1 b1,λhr h o pu hp=>?_⟩
 have hr:(g (f n).2).2<=c.regs:=hr
 have e1:=a2 (by omega) h o pu hp.1
 have e2:=b2 hr (h+k) o pu hp.2
 show runL c ((f n).1++(g (f n).2).1) (h,o,pu)=_
 rw[ED c _ _ _ _ e1,e2,Int.add_assoc]
theorem Runs.weak{c:Mac.Cd}{n0 n1 k:Int}{f:GF}{P Q:Int->Prop}(hf:Runs c n0 f P k)(h1:n0<=n1)(h2:∀h,Q h->P h):Runs c n1 f Q k:=λn hn=>⟨(hf n (by omega)).1,λhr h o pu hq=>(hf n (by omega)).2 hr h o pu (h2 h hq)⟩
theorem Runs.emit{c:Mac.Cd}{n0 op a t u lo hi:Int}(he:Mac.effP c op=(t,u,lo,hi))(ht:0<=t/\t<=4)(hu:0<=u/\u<=1)(h1:(op==22)=false)(h2:(op==7)=false)(ha:n0<=c.regs->lo<=a/\a<=hi):Runs c n0 (dw op a) (λh=>t<=h/\h-t+u<=64) (u-t):=by
 intro n hn
 refine⟨Int.le_refl n,λhr h o pu hp=>?_⟩
 have hr:n<=c.regs:=hr
 show runL c [(op,a)] (h,o,pu)=_
 rw[runL,J8 he ht hu (ha (by omega)) hp.1 hp.2 h1 h2];rfl
structure COk(c:Mac.Cd)(p:Pr):Prop where
 par:c.params=p.params
 sta:c.states=p.states
 lin:c.lines=p.lines
 tab:c.tables.length=p.tables.length
 reg:0<=c.regs/\c.regs<=65536
 lim:p.params.length<=16/\p.states.length<=16/\p.lines.length<=16/\p.tables.length<=16
structure V(p:Pr)(b:Nat)(x:Ex):Prop where
 wf:wfX p b x=true
 rs:bz p b x=(x,true)
 fo:formed x=true
variable {p : Pr} {b : Nat}
theorem kV:∀{l:List Ex},formeds l=true->∀y∈l,formed y=true
 |x::r,h,y,hy=>by
  rw[formeds]at h
  simp only[Bool.and_eq_true]at h
  rcases List.mem_cons.1 hy with rfl |hy
  ·exact h.1
  ·exact kV h.2 y hy
theorem V.part{x y:Ex}(h:V p b x)(hy:y∈x.l):V p b y:=by
 have hf:=h.fo
 rw[formed_eq]at hf
 simp only[Bool.and_eq_true]at hf
 exact⟨gY (bG h.wf).2.2 y hy,yc h.wf h.rs hy,kV hf.2 y hy⟩
theorem V.num{x:Ex}(h:V p b x)(h1:x.kind≠1)(h2:x.kind≠18):x.n=0:=by
 have hf:=h.fo
 rw[formed_eq]at hf
 simp only[Bool.and_eq_true,Bool.not_eq_true',Bool.and_eq_false_iff,bne_eq_false_iff_eq]at hf
 rcases hf.1.2 with(e |e) |e
 ·exact absurd e h1
 ·exact absurd e h2
 ·exact e
theorem V.idx{x:Ex}(h:V p b x)(hn:(named x.kind&&x.kind != 8&&x.kind != 9)=false)(h8:x.kind≠8)(h9:x.kind≠9):x.index=0:=by
 have hr:=h.rs
 rw[kN,if_neg (by rw[hn];decide)]at hr
 have e:=congrArg (λq=>q.1.index) hr
 simp only[Ex.index]at e
 rw[show x.index=jb p x from e.symm,jb,if_neg (by simpa using h9),if_neg (by simpa using h8)]
theorem z6j{n:Nat}{k i m:Int}(h:qN p n k i m=true)(hk:k=1):0<=m/\m<=2147483648:=by
 subst hk;simp[qN]at h;exact h
theorem own_k18'{n:Nat}{k i m:Int}(h:qN p n k i m=true)(hk:k=18):1<=m/\m<=2147483648:=by
 subst hk;simp[qN]at h;exact h
theorem mX(R:List (Int×Int)){l:List Ex}{i:Int}{j:Nat}{y:Ex}(hi:i=j)(h:l[j]? = some y):fAt (dI R l) i=aU R y:=by
 subst hi
 rw[fAt,qh,Int.toNat_natCast,List.getD_eq_getElem?_getD,List.getElem?_map,h];rfl
def ROk(p:Pr)(R:List (Int×Int))(b:Nat)(n0:Int):Prop:=∀i:Int,0<=i->i<b->((p.stmts.getD i.toNat Sm.none).kind==1)=true->∃r,lkA i R=some r/\0<=r/\r<n0
theorem z1k{c:Mac.Cd}(hc:COk c p){x:Ex}(v:V p b x)(hk:x.kind=6\/x.kind=7\/x.kind=8\/x.kind=9\/x.kind=10\/x.kind=13\/x.kind=14\/x.kind=18):∃lo hi,Mac.effP c (O6 x.kind)=(1,1,lo,hi)/\lo<=x.index+x.n/\x.index+x.n<=hi/\(O6 x.kind==22)=false/\(O6 x.kind==7)=false:=by
 have hg:=(bG v.wf).2.1
 have hl:=hc.lim
 rcases hk with e |e |e |e |e |e |e |e
 ·refine⟨0,0,by rw[e];rfl,?_,?_,by rw[e];rfl,by rw[e];rfl⟩<;>rw[v.num (by omega) (by omega),v.idx (by rw[e];rfl) (by omega) (by omega)]<;>decide
 ·refine⟨0,0,by rw[e];rfl,?_,?_,by rw[e];rfl,by rw[e];rfl⟩<;>rw[v.num (by omega) (by omega),v.idx (by rw[e];rfl) (by omega) (by omega)]<;>decide
 ·have:=Yu hg (by rw[e];rfl)
  refine⟨0,(p.lines.length:Int)-1,?_,?_,?_,by rw[e];rfl,by rw[e];rfl⟩
  ·rw[e,<-hc.lin]
   show(1,1,0,Mac.W ((c.lines.length:Int)-1))=_
   rw[Wn (by rw[hc.lin];omega)]
  ·rw[v.num (by omega) (by omega)];omega
  ·rw[v.num (by omega) (by omega)];omega
 ·have:=Yv hg (by rw[e];rfl)
  refine⟨0,(p.tables.length:Int)-1,?_,?_,?_,by rw[e];rfl,by rw[e];rfl⟩
  ·rw[e,<-hc.tab]
   show(1,1,0,Mac.W ((c.tables.length:Int)-1))=_
   rw[Wn (by rw[hc.tab];omega)]
  ·rw[v.num (by omega) (by omega)];omega
  ·rw[v.num (by omega) (by omega)];omega
 ·refine⟨0,0,by rw[e];rfl,?_,?_,by rw[e];rfl,by rw[e];rfl⟩<;>rw[v.num (by omega) (by omega),v.idx (by rw[e];rfl) (by omega) (by omega)]<;>decide
 ·refine⟨0,0,by rw[e];rfl,?_,?_,by rw[e];rfl,by rw[e];rfl⟩<;>rw[v.num (by omega) (by omega),v.idx (by rw[e];rfl) (by omega) (by omega)]<;>decide
 ·refine⟨0,0,by rw[e];rfl,?_,?_,by rw[e];rfl,by rw[e];rfl⟩<;>rw[v.num (by omega) (by omega),v.idx (by rw[e];rfl) (by omega) (by omega)]<;>decide
 ·have:=own_k18' hg e
  refine⟨1,2147483648,by rw[e];rfl,?_,?_,by rw[e];rfl,by rw[e];rfl⟩<;>rw[v.idx (by rw[e];rfl) (by omega) (by omega)]<;>omega
theorem UJ{c:Mac.Cd}{n0 at_ reg:Int}(hcr:c.regs<=65536)(hreg:0<=reg/\reg<n0):∀(fs:List GF) (ks:List Int) (i:Int),fs.length=ks.length->(∀(j:Nat) f k,fs[j]? = some f->ks[j]? = some k->i+j≠at_->Runs c n0 f (λh=>0<=h/\h+k<=64) 1)->(∀(j:Nat) k,ks[j]? = some k->i+j=at_->1<=k) ->
  Runs c n0 (chG fs at_ reg i) (λh=>0<=h/\∀(j:Nat) k,ks[j]? = some k->h+j+k<=64) (fs.length:Nat)
 | [],ks,i,_,_,_=>λn hn=>⟨Int.le_refl n,λ_ h o pu _=>by show some (h,o,pu)=some (h+0,o,pu);rw[Int.add_zero]⟩
 |f::r,[],i,h,_,_=>by simp at h
 |f::r,k::ks,i,hl,hf,h1=>by
  have ih:=UJ hcr hreg (c:=c) (at_:=at_) r ks (i+1) (by simpa using hl) (λj f' k' e1 e2 hne=>hf (j+1) f' k' (by simpa using e1) (by simpa using e2) (by omega)) (λj k' e he=>h1 (j+1) k' (by simpa using e) (by omega))
  have hd:Runs c n0 (if i==at_ then dw 4 reg else f) (λh=>0<=h/\h+k<=64) 1:=by
   by_cases e:i=at_
   ·rw[if_pos (by simpa using e)]
    have hk:=h1 0 k rfl (by omega)
    refine(Runs.emit (c:=c) (n0:=n0) (op:=4) (a:=reg) (t:=0) (u:=1) (lo:=0) (hi:=Mac.W (c.regs-1)) rfl (by decide) (by decide) rfl rfl (λhr=>?_)).weak (Int.le_refl _) (λh hh=>?_)
    ·refine⟨hreg.1,?_⟩
     rw[Wn (by omega)];omega
    ·omega
   ·rw[if_neg (by simpa using e)]
    exact hf 0 f k rfl rfl (by omega)
  have:=hd.seq ih
  show Runs c n0 (jE (if i==at_ then dw 4 reg else f) (chG r at_ reg (i+1))) _ _
  have e:((f::r).length:Int)=1+(r.length:Nat):=by simp only[List.length_cons];omega
  rw[e]
  refine this.weak (Int.le_refl _) (λh hh=>⟨⟨hh.1,by have:=hh.2 0 k rfl;simp only[Int.natCast_zero]at this;omega⟩,by omega,λj k' e=>?_⟩)
  have:=hh.2 (j+1) k' (by simpa using e)
  omega
theorem YT{α:Type}{l:List α}(h:(l.length:Int)=0):l = []:=by
 cases l with
 |nil=>rfl
 |cons a r=>simp at h;omega
theorem z1l{p:Pr}{c:Mac.Cd}(hc:COk c p){b:Nat}(hb:b<=p.stmts.length){R:List (Int×Int)}:∀x:Ex,V p b x->∀n0,0<=n0->ROk p R b n0->Runs c n0 (aU R x) (λh=>0<=h/\h+ae x<=64) 1:=by
 refine Ex.ind λx ih=>?_
 intro v n0 h0 hR
 obtain⟨g1,g2,g3⟩:=bG v.wf
 have hl:=hc.lim
 have hreg:=hc.reg
 have hp:∀y∈x.l,1<=ae y:=λy hy=>uF y b p (gY g3 y hy)
 have hi:∀y∈x.l,∀n1,n0<=n1->Runs c n1 (aU R y) (λh=>0<=h/\h+ae y<=64) 1:=λy hy n1 h1=>(ih y hy (v.part hy) n0 h0 hR).weak h1 (λ_ h=>h)
 rw[J7,nS,jd]
 rcases lg g1 (Int.natCast_nonneg _)with⟨h,hk⟩ |⟨h,hk⟩ |⟨h,hk⟩ |⟨h,hk⟩
 ·rw[YT h]
  show Runs c n0 (genC R x.kind x.index x.n [] []) (λh=>0<=h/\h+1<=64) 1
  rcases hk with e |e |e |e |e
  ·have:=z6j g2 e
   rw[genC,if_pos (by rw[e];rfl)]
   exact(Runs.emit (c:=c) (op:=1) (a:=x.n) (t:=0) (u:=1) rfl (by decide) (by decide) rfl rfl (λ_=>by omega)).weak (Int.le_refl _) λh hh=>by omega
  ·rw[e]at g2;simp[qN]at g2
  ·have:=z4y g2 (by rw[e];rfl)
   rw[genC,if_neg (by rw[e];decide),if_pos (by rw[e];rfl)]
   refine(Runs.emit (c:=c) (op:=2) (a:=x.index) (t:=0) (u:=1) rfl (by decide) (by decide) rfl rfl (λ_=>?_)).weak (Int.le_refl _) λh hh=>by omega
   rw[hc.par,Wn (by omega)];omega
  ·have:=Yt g2 (by rw[e];rfl)
   rw[genC,if_neg (by rw[e];decide),if_neg (by rw[e];decide),if_pos (by rw[e];rfl)]
   refine(Runs.emit (c:=c) (op:=3) (a:=x.index) (t:=0) (u:=1) rfl (by decide) (by decide) rfl rfl (λ_=>?_)).weak (Int.le_refl _) λh hh=>by omega
   rw[hc.sta,Wn (by omega)];omega
  ·have:=Tm g2 (by rw[e];rfl)
   have ho:=Uo hb v.rs v.wf
   have hkk:((p.stmts.getD x.index.toNat Sm.none).kind==1)=true:=by
    rw[wu,h]at ho
    rw[e]at ho
    rw[if_neg (by decide),if_neg (by decide),if_neg (by decide),if_neg (by decide),if_neg (by decide),if_neg (by decide),if_neg (by decide),if_pos (by decide)]at ho
    rw[decide_eq_true (show x.index>=0 by omega),decide_eq_true (show x.index<p.stmts.length by omega)]at ho
    exact ho
   obtain⟨r,e1,e2,e3⟩:=hR x.index this.1 this.2 hkk
   rw[genC,if_neg (by rw[e];decide),if_neg (by rw[e];decide),if_neg (by rw[e];decide),if_pos (by rw[e];rfl),e1]
   refine(Runs.emit (c:=c) (op:=4) (a:=r) (t:=0) (u:=1) rfl (by decide) (by decide) rfl rfl (λhr=>?_)).weak (Int.le_refl _) λh hh=>by omega
   rw[Wn (by omega)];omega
 ·obtain⟨y,e⟩:=len1 h
  have hy:y∈x.l:=by rw[e];simp
  obtain⟨lo,hi',c1,c2,c3,c4,c5⟩:=z1k hc v hk
  have hg:genC R x.kind x.index x.n (x.l.map ae) (dI R x.l)=jE (fAt (dI R x.l) 0) (dw (O6 x.kind) (x.index+x.n)):=by
   rcases hk with q |q |q |q |q |q |q |q<;>rw[q]<;>rfl
  have f0:fAt (dI R x.l) 0=aU R y:=mX R (j:=0) rfl (by rw[e];rfl)
  rw[hg,f0,e]
  show Runs c n0 _ (λh=>0<=h/\h+og [ae y]<=64) 1
  rw[UG (hp y hy)]
  exact((hi y hy n0 (Int.le_refl _)).seq (Runs.emit (a:=x.index+x.n) c1 (by decide) (by decide) c4 c5 (λ_=>⟨c2,c3⟩))).weak (Int.le_refl _) λh hh=>⟨hh,by have:=hp y hy;omega⟩
 ·obtain⟨y,z,e⟩:=len2 h
  have hy:y∈x.l:=by rw[e];simp
  have hz:z∈x.l:=by rw[e];simp
  have py:=hp y hy
  have pz:=hp z hz
  have f0:fAt (dI R x.l) 0=aU R y:=mX R (j:=0) rfl (by rw[e];rfl)
  have f1:fAt (dI R x.l) 1=aU R z:=mX R (j:=1) rfl (by rw[e];rfl)
  have ry:=hi y hy n0 (Int.le_refl _)
  have rz:=hi z hz n0 (Int.le_refl _)
  have hm:x.l.map ae = [ae y,ae z]:=by rw[e];rfl
  rw[hm,UH py]
  have cmb:∀op,Mac.effP c op=(2,1,0,0)->(op==22)=false->(op==7)=false->Runs c n0 (uS op [ae y,ae z] (dI R x.l)) (λh=>0<=h/\h+(if ae z>ae y then mm2 true (ae z) (ae y+1)else mm2 true (ae y) (ae z+1))<=64) 1:=by
   intro op o1 o2 o3
   have he:Runs c n0 (dw op 0) _ (1-2):=Runs.emit (a:=0) o1 (by decide) (by decide) o2 o3 (λ_=>by decide)
   rcases Xe (b:=ae z) py with⟨q1,q2⟩ |⟨q1,q2⟩
   ·rw[if_neg (by omega),uS,q2]
    show Runs c n0 (jE (jE (fAt (dI R x.l) 0) (fAt (dI R x.l) 1)) (dw op 0)) _ 1
    rw[f0,f1]
    have hmx:=iJ (ae y) (ae z+1)
    exact((ry.seq rz).seq he).weak (Int.le_refl _) λh hh=>by refine⟨⟨?_,?_⟩,?_⟩<;>omega
   ·rw[if_pos q1,uS,q2]
    show Runs c n0 (jE (jE (fAt (dI R x.l) 1) (fAt (dI R x.l) 0)) (dw op 0)) _ 1
    rw[f0,f1]
    have hmx:=iJ (ae z) (ae y+1)
    exact((rz.seq ry).seq he).weak (Int.le_refl _) λh hh=>by refine⟨⟨?_,?_⟩,?_⟩<;>omega
  rcases hk with k |k |k |k |k
  ·rw[show genC R x.kind x.index x.n [ae y,ae z] (dI R x.l)=uS 13 [ae y,ae z] (dI R x.l)by rw[k];rfl];exact cmb 13 rfl rfl rfl
  ·rw[show genC R x.kind x.index x.n [ae y,ae z] (dI R x.l)=uS 14 [ae y,ae z] (dI R x.l)by rw[k];rfl];exact cmb 14 rfl rfl rfl
  ·rw[show genC R x.kind x.index x.n [ae y,ae z] (dI R x.l)=uS 17 [ae y,ae z] (dI R x.l)by rw[k];rfl];exact cmb 17 rfl rfl rfl
  ·rw[show genC R x.kind x.index x.n [ae y,ae z] (dI R x.l)=J6 [ae y,ae z] (dI R x.l)by rw[k];rfl,J6,f0,f1]
   show Runs c n0 (if ae z<=ae y then _ else _) _ 1
   by_cases q:ae z<=ae y
   ·rw[if_pos q,if_neg (by omega)]
    have hmx:=iJ (ae y) (ae z+1)
    exact((ry.seq rz).seq (Runs.emit (c:=c) (n0:=n0) (op:=18) (a:=0) (t:=2) (u:=1) (lo:=0) (hi:=0) rfl (by decide) (by decide) rfl rfl (λ_=>by decide))).weak (Int.le_refl _) λh hh=>by refine⟨⟨?_,?_⟩,?_⟩<;>omega
   ·rw[if_neg q,if_pos (by omega)]
    have hmx:=iJ (ae z) (ae y+1)
    exact(((rz.seq (Runs.emit (c:=c) (n0:=n0) (op:=16) (a:=0) (t:=1) (u:=1) (lo:=0) (hi:=0) rfl (by decide) (by decide) rfl rfl (λ_=>by decide))).seq ry).seq (Runs.emit (c:=c) (n0:=n0) (op:=17) (a:=0) (t:=2) (u:=1) (lo:=0) (hi:=0) rfl (by decide) (by decide) rfl rfl (λ_=>by decide))).weak (Int.le_refl _) λh hh=>by refine⟨⟨⟨?_,?_⟩,?_⟩,?_⟩<;>omega
  ·rw[show genC R x.kind x.index x.n [ae y,ae z] (dI R x.l)=uS 19 [ae y,ae z] (dI R x.l)by rw[k];rfl];exact cmb 19 rfl rfl rfl
 ·obtain⟨y0,y1,y2,y3,e⟩:=z6i h
  have p0:=hp y0 (by rw[e];simp)
  have hm:x.l.map ae = [ae y0,ae y1,ae y2,ae y3]:=by rw[e];rfl
  rw[show genC R x.kind x.index x.n (x.l.map ae) (dI R x.l)=gIf (x.l.map ae) (dI R x.l)by rw[hk];rfl,hm]
  obtain⟨j,hj,e1,e2,e3⟩:=UF (b:=ae y1) (c:=ae y2) (d:=ae y3) p0
  have hat:∀i:Nat,i<4->∃y,x.l[i]? = some y/\y∈x.l /\ [ae y0,ae y1,ae y2,ae y3][i]? = some (ae y):=by
   intro i hi
   rw[e]
   match i,hi with
   | 0,_=>exact⟨y0,rfl,by simp,rfl⟩
   | 1,_=>exact⟨y1,rfl,by simp,rfl⟩
   | 2,_=>exact⟨y2,rfl,by simp,rfl⟩
   | 3,_=>exact⟨y3,rfl,by simp,rfl⟩
  obtain⟨z,z1,z2,z3⟩:=hat j hj
  have ez:(aV [ae y0,ae y1,ae y2,ae y3]).1=ae z:=by rw[e2]at z3;exact Option.some.inj z3
  have pz:=hp z z2
  have hN:og [ae y0,ae y1,ae y2,ae y3]=needS ([ae y0,ae y1,ae y2,ae y3].set j 1) 0 (ae z):=by
   show needS ([ae y0,ae y1,ae y2,ae y3].set (aV [ae y0,ae y1,ae y2,ae y3]).2.toNat 1) 0 (aV [ae y0,ae y1,ae y2,ae y3]).1=_
   rw[e1,ez,Int.toNat_natCast]
  have hge:=EF ([ae y0,ae y1,ae y2,ae y3].set j 1) 0 (ae z)
  rw[hN]
  intro n hn
  -- a register more
  have rz:=hi z z2 (n+1) (by omega)
  have r5:c.regs<=65536->Runs c (n+1) (dw 5 n) (λh=>1<=h/\h-1+0<=64) (0-1):=λ_=>by
   refine Runs.emit (c:=c) (op:=5) (a:=n) (t:=1) (u:=0) (lo:=0) (hi:=Mac.W (c.regs-1)) rfl (by decide) (by decide) rfl rfl (λhr=>?_)
   rw[Wn (by omega)];omega
  have rc:=UJ (c:=c) (n0:=n+1) (at_:=(j:Int)) (reg:=n) hreg.2 ⟨by omega,by omega⟩ (dI R x.l) ([ae y0,ae y1,ae y2,ae y3].set j 1) 0 (by rw[qh];simp[e]) (λi f k i1 i2 hne=>by
   rw[qh,List.getElem?_map]at i1
   have hi4:i<4:=by have:=(List.getElem?_eq_some_iff.1 i2).1;simpa using this
   obtain⟨y,w1,w2,w3⟩:=hat i hi4
   rw[w1]at i1
   simp only[Option.map_some,Option.some.injEq]at i1
   rw[List.getElem?_set_ne (by omega),w3]at i2
   cases i2
   subst i1
   exact hi y w2 (n+1) (by omega)) (λi k i2 hij=>by
   have:i=j:=by omega
   subst this
   rw[List.getElem?_set]at i2
   simp[hj]at i2
   omega)
  have rF:=((rz.seq (r5 hreg.2)).seq rc).seq (Runs.emit (c:=c) (n0:=n+1) (op:=21) (a:=0) (t:=4) (u:=1) (lo:=0) (hi:=0) rfl (by decide) (by decide) rfl rfl (λ_=>by decide))
  have fz:fAt (dI R x.l) (aV [ae y0,ae y1,ae y2,ae y3]).2=aU R z:=mX R e1 z1
  have hgen:gIf [ae y0,ae y1,ae y2,ae y3] (dI R x.l) n=jE (jE (jE (aU R z) (dw 5 n)) (chG (dI R x.l) (j:Int) n 0)) (dw 21 0) (n+1):=by rw[gIf,fz,e1]
  have hlen:((dI R x.l).length:Int)=4:=by rw[qh];simp[e]
  rw[hgen]
  obtain⟨b1,b2⟩:=rF (n+1) (Int.le_refl _)
  refine⟨by omega,λhr h o pu hh=>?_⟩
  rw[b2 hr h o pu ?_]
  ·rw[hlen]
   have:h+(1+(0-1)+4+(1-4))=h+1:=by omega
   rw[this]
  ·rw[hlen]
   refine⟨⟨⟨⟨hh.1,by omega⟩,by omega⟩,by omega,λi k hk=>?_⟩,by omega⟩
   have:=hge.2 i k hk
   omega
def Sz(f:GF)(L r:Nat):Prop:=∀n,2 * (f n).1.length<=L/\n<=(f n).2/\(f n).2<=n+r
theorem Sz.seq{f g:GF}{L M r s:Nat}(hf:Sz f L r)(hg:Sz g M s):Sz (jE f g) (L+M) (r+s):=by
 intro n
 obtain⟨a1,a2,a3⟩:=hf n
 obtain⟨b1,b2,b3⟩:=hg (f n).2
 refine⟨?_,?_,?_⟩
 ·show 2 * ((f n).1++(g (f n).2).1).length<=_
  rw[List.length_append];omega
 ·show n<=(g (f n).2).2;omega
 ·show(g (f n).2).2<=_;omega
theorem Sz.emit(op a:Int):Sz (dw op a) 2 0:=λn=>⟨Nat.le_refl _,Int.le_refl n,by show n<=n+0;omega⟩
theorem Sz.nil:Sz gNil 0 0:=λn=>⟨Nat.le_refl _,Int.le_refl n,by show n<=n+0;omega⟩
theorem Sz.weak{f:GF}{L M r s:Nat}(hf:Sz f L r)(h1:L<=M)(h2:r<=s):Sz f M s:=λn=>by have:=hf n;omega
theorem z9b{f0 f1 f2 f3:GF}{a b c d:Nat}{at_ reg:Int}(h0:Sz f0 (3 * a-1) a)(h1:Sz f1 (3 * b-1) b)(h2:Sz f2 (3 * c-1) c)(h3:Sz f3 (3 * d-1) d)(ha:1<=a)(hb:1<=b)(hc:1<=c)(hd:1<=d)(j:Nat)(hj:j<4)(hja:at_=j) :
  Sz (chG [f0,f1,f2,f3] at_ reg 0) (3 * (a+b+c+d)-4+2-(3 * [a,b,c,d].getD j 0-1)) (a+b+c+d - [a,b,c,d].getD j 0):=by
 subst hja
 match j,hj with
 | 0,_=>
  have:=(Sz.emit 4 reg).seq (h1.seq (h2.seq (h3.seq Sz.nil)))
  exact this.weak (by show 2+(3 * b-1+(3 * c-1+(3 * d-1+0)))<=3 * (a+b+c+d)-4+2-(3 * a-1);omega) (by show 0+(b+(c+(d+0)))<=a+b+c+d-a;omega)
 | 1,_=>
  have:=h0.seq ((Sz.emit 4 reg).seq (h2.seq (h3.seq Sz.nil)))
  exact this.weak (by show 3 * a-1+(2+(3 * c-1+(3 * d-1+0)))<=3 * (a+b+c+d)-4+2-(3 * b-1);omega) (by show a+(0+(c+(d+0)))<=a+b+c+d-b;omega)
 | 2,_=>
  have:=h0.seq (h1.seq ((Sz.emit 4 reg).seq (h3.seq Sz.nil)))
  exact this.weak (by show 3 * a-1+(3 * b-1+(2+(3 * d-1+0)))<=3 * (a+b+c+d)-4+2-(3 * c-1);omega) (by show a+(b+(0+(d+0)))<=a+b+c+d-c;omega)
 | 3,_=>
  have:=h0.seq (h1.seq (h2.seq ((Sz.emit 4 reg).seq Sz.nil)))
  exact this.weak (by show 3 * a-1+(3 * b-1+(3 * c-1+(2+0)))<=3 * (a+b+c+d)-4+2-(3 * d-1);omega) (by show a+(b+(c+(0+0)))<=a+b+c+d-d;omega)
theorem UK{p:Pr}{b:Nat}{R:List (Int×Int)}:∀x:Ex,wfX p b x=true->Sz (aU R x) (3 * Ref15.nodes x-1) (Ref15.nodes x):=by
 refine Ex.ind λx ih=>?_
 intro hw
 obtain⟨g1,g2,g3⟩:=bG hw
 have hi:∀y∈x.l,Sz (aU R y) (3 * Ref15.nodes y-1) (Ref15.nodes y):=λy hy=>ih y hy (gY g3 y hy)
 have hp:∀y∈x.l,1<=ae y:=λy hy=>uF y b p (gY g3 y hy)
 rw[J7,Ref15.nodes_eq,jd]
 rcases lg g1 (Int.natCast_nonneg _)with⟨h,hk⟩ |⟨h,hk⟩ |⟨h,hk⟩ |⟨h,hk⟩
 ·rw[YT h]
  have:∃op a,genC R x.kind x.index x.n ([].map ae) (dI R [])=dw op a:=by
   rcases hk with q |q |q |q |q
   ·exact⟨1,x.n,by rw[q];rfl⟩
   ·rw[q]at g2;simp[qN]at g2
   ·exact⟨2,x.index,by rw[q];rfl⟩
   ·exact⟨3,x.index,by rw[q];rfl⟩
   ·exact⟨4,(lkA x.index R).getD 0,by rw[q];rfl⟩
  obtain⟨op,a,e⟩:=this
  rw[e];exact(Sz.emit op a).weak (by decide) (by decide)
 ·obtain⟨y,e⟩:=len1 h
  have hy:y∈x.l:=by rw[e];simp
  have hg:genC R x.kind x.index x.n (x.l.map ae) (dI R x.l)=jE (fAt (dI R x.l) 0) (dw (O6 x.kind) (x.index+x.n)):=by
   rcases hk with q |q |q |q |q |q |q |q<;>rw[q]<;>rfl
  have f0:fAt (dI R x.l) 0=aU R y:=mX R (j:=0) rfl (by rw[e];rfl)
  rw[hg,f0,e]
  have hn:=dZ y
  exact((hi y hy).seq (Sz.emit _ _)).weak (by simp only[Ref15.nodesL];omega) (by simp only[Ref15.nodesL];omega)
 ·obtain⟨y,z,e⟩:=len2 h
  have hy:y∈x.l:=by rw[e];simp
  have hz:z∈x.l:=by rw[e];simp
  have f0:fAt (dI R x.l) 0=aU R y:=mX R (j:=0) rfl (by rw[e];rfl)
  have f1:fAt (dI R x.l) 1=aU R z:=mX R (j:=1) rfl (by rw[e];rfl)
  have hny:=dZ y;have hnz:=dZ z
  have hm:x.l.map ae = [ae y,ae z]:=by rw[e];rfl
  have hN:1+Ref15.nodesL x.l=1+(Ref15.nodes y+(Ref15.nodes z+0)):=by rw[e];rfl
  rw[hm,hN]
  have cmb:∀op,Sz (uS op [ae y,ae z] (dI R x.l)) (3 * (1+(Ref15.nodes y+(Ref15.nodes z+0)))-1) (1+(Ref15.nodes y+(Ref15.nodes z+0))):=by
   intro op
   rcases Xe (b:=ae z) (hp y hy)with⟨_,q2⟩ |⟨_,q2⟩
   ·rw[uS,q2]
    show Sz (jE (jE (fAt (dI R x.l) 0) (fAt (dI R x.l) 1)) (dw op 0)) _ _
    rw[f0,f1]
    exact(((hi y hy).seq (hi z hz)).seq (Sz.emit _ _)).weak (by omega) (by omega)
   ·rw[uS,q2]
    show Sz (jE (jE (fAt (dI R x.l) 1) (fAt (dI R x.l) 0)) (dw op 0)) _ _
    rw[f0,f1]
    exact(((hi z hz).seq (hi y hy)).seq (Sz.emit _ _)).weak (by omega) (by omega)
  rcases hk with k |k |k |k |k
  ·rw[show genC R x.kind x.index x.n [ae y,ae z] (dI R x.l)=uS 13 [ae y,ae z] (dI R x.l)by rw[k];rfl];exact cmb 13
  ·rw[show genC R x.kind x.index x.n [ae y,ae z] (dI R x.l)=uS 14 [ae y,ae z] (dI R x.l)by rw[k];rfl];exact cmb 14
  ·rw[show genC R x.kind x.index x.n [ae y,ae z] (dI R x.l)=uS 17 [ae y,ae z] (dI R x.l)by rw[k];rfl];exact cmb 17
  ·rw[show genC R x.kind x.index x.n [ae y,ae z] (dI R x.l)=J6 [ae y,ae z] (dI R x.l)by rw[k];rfl,J6,f0,f1]
   split
   ·exact(((hi y hy).seq (hi z hz)).seq (Sz.emit _ _)).weak (by omega) (by omega)
   ·exact((((hi z hz).seq (Sz.emit _ _)).seq (hi y hy)).seq (Sz.emit _ _)).weak (by omega) (by omega)
  ·rw[show genC R x.kind x.index x.n [ae y,ae z] (dI R x.l)=uS 19 [ae y,ae z] (dI R x.l)by rw[k];rfl];exact cmb 19
 ·obtain⟨y0,y1,y2,y3,e⟩:=z6i h
  have h0:=hi y0 (by rw[e];simp);have h1:=hi y1 (by rw[e];simp);have h2:=hi y2 (by rw[e];simp);have h3:=hi y3 (by rw[e];simp)
  have n0:=dZ y0;have n1:=dZ y1;have n2:=dZ y2;have n3:=dZ y3
  have hm:x.l.map ae = [ae y0,ae y1,ae y2,ae y3]:=by rw[e];rfl
  have hN:1+Ref15.nodesL x.l=1+(Ref15.nodes y0+(Ref15.nodes y1+(Ref15.nodes y2+(Ref15.nodes y3+0)))):=by rw[e];rfl
  have hL:dI R x.l = [aU R y0,aU R y1,aU R y2,aU R y3]:=by rw[qh,e];rfl
  rw[show genC R x.kind x.index x.n (x.l.map ae) (dI R x.l)=gIf (x.l.map ae) (dI R x.l)by rw[hk];rfl,hm,hN,hL]
  obtain⟨j,hj,e1,_,_⟩:=UF (b:=ae y1) (c:=ae y2) (d:=ae y3) (hp y0 (by rw[e];simp))
  intro n
  have hc:=z9b (reg:=n) h0 h1 h2 h3 n0 n1 n2 n3 j hj e1
  have hz:Sz (fAt [aU R y0,aU R y1,aU R y2,aU R y3] (aV [ae y0,ae y1,ae y2,ae y3]).2) (3 * [Ref15.nodes y0,Ref15.nodes y1,Ref15.nodes y2,Ref15.nodes y3].getD j 0-1) ([Ref15.nodes y0,Ref15.nodes y1,Ref15.nodes y2,Ref15.nodes y3].getD j 0):=by
   rw[e1]
   match j,hj with
   | 0,_=>exact h0
   | 1,_=>exact h1
   | 2,_=>exact h2
   | 3,_=>exact h3
  have hb:[Ref15.nodes y0,Ref15.nodes y1,Ref15.nodes y2,Ref15.nodes y3].getD j 0<=Ref15.nodes y0+Ref15.nodes y1+Ref15.nodes y2+Ref15.nodes y3-3/\1 <= [Ref15.nodes y0,Ref15.nodes y1,Ref15.nodes y2,Ref15.nodes y3].getD j 0:=by
   match j,hj with
   | 0,_=>show Ref15.nodes y0<=_/\1<=Ref15.nodes y0;omega
   | 1,_=>show Ref15.nodes y1<=_/\1<=Ref15.nodes y1;omega
   | 2,_=>show Ref15.nodes y2<=_/\1<=Ref15.nodes y2;omega
   | 3,_=>show Ref15.nodes y3<=_/\1<=Ref15.nodes y3;omega
  have hall:=(((hz.seq (Sz.emit 5 n)).seq hc).seq (Sz.emit 21 0)) (n+1)
  have hd:gIf [ae y0,ae y1,ae y2,ae y3] [aU R y0,aU R y1,aU R y2,aU R y3] n=jE (jE (jE (fAt [aU R y0,aU R y1,aU R y2,aU R y3] (aV [ae y0,ae y1,ae y2,ae y3]).2) (dw 5 n)) (chG [aU R y0,aU R y1,aU R y2,aU R y3] (aV [ae y0,ae y1,ae y2,ae y3]).2 n 0)) (dw 21 0) (n+1):=rfl
  rw[hd]
  omega
theorem NE{p:Pr}:∀(r:List Sm) (i:Nat) (out:Bool) (l:List Sm),bT p r i out = .ok l->∀s,r.getLast? = some s->(s.kind==4)=true
 | [],_,_,_,_,s,h=>by cases h
 |t::r,i,out,l,h,s,hs=>by
  rw[bT]at h
  split at h
  ·cases h
  ·split at h
   ·cases h
   ·split at h
    ·cases h
    ·cases hr:bT p r (i+1) (t.kind==4)with
     |error e=>rw[hr]at h;cases h
     |ok m=>
      cases r with
      |nil=>
       have e:t=s:=Option.some.inj hs
       subst e
       rw[bT]at hr
       cases hk:t.kind==4 with
       |true=>rfl
       |false=>rw[hk]at hr;cases hr
      |cons a r=>exact NE (a::r) (i+1) _ m hr s (by rw[List.getLast?_cons_cons]at hs;exact hs)
structure SV(p:Pr)(i:Nat)(s:Sm):Prop where
 v:V p i s.x
 nd:Ref15.nodes s.x<=512
 kd:s.kind=1\/s.kind=2\/s.kind=3\/s.kind=4
 k2:s.kind=2->0<=s.index/\s.index<p.states.length
 k3:s.kind=3->0<=s.index/\s.index<p.lines.length
variable {p : Pr} {c : Mac.Cd}
theorem UL(h:Res p){i:Nat}{s:Sm}(hs:p.stmts[i]? = some s):SV p i s:=by
 have hw:=Ew p.stmts 0 h.wf i s hs
 rw[Nat.zero_add]at hw
 have hr:=EC p.stmts 0 false h.ru i s hs
 rw[Nat.zero_add]at hr
 have hm:=List.mem_of_getElem? hs
 have hf:=List.all_eq_true.1 h.fo s hm
 have hl:=h.li
 rw[limited_eq]at hl
 simp only[Bool.and_eq_true]at hl
 have hx:=List.all_eq_true.1 hl.2.2.2.1 s hm
 simp only[stmtOk,Bool.not_eq_true',Bool.or_eq_false_iff,decide_eq_false_iff_not]at hf
 simp only[zx,Bool.not_eq_true',decide_eq_false_iff_not]at hx
 simp only[wfS,Bool.and_eq_true,Bool.or_eq_true,Bool.not_eq_true',decide_eq_true_eq]at hw
 refine⟨⟨hw.1,hr,by simpa using hf.2⟩,by omega,by omega,λe=>?_,λe=>?_⟩
 ·rcases hw.2.1 with q |q
  ·rw[e]at q;exact absurd q (by decide)
  ·exact q
 ·rcases hw.2.2 with q |q
  ·rw[e]at q;exact absurd q (by decide)
  ·exact q
theorem Ac{α:Type}{l r:List α}{i:Nat}{a:α}(h:l.drop i=a::r):l[i]? = some a/\l.drop (i+1)=r:=by
 constructor
 ·have:=congrArg (λl=>l[0]?) h
  simpa using this
 ·have:=congrArg (λl=>l.drop 1) h
  simpa[List.drop_drop,Nat.add_comm]using this
def z6k(p:Pr)(i:Nat)(pu:List Bool):Prop:=pu.length=p.lines.length/\∀k:Nat,pu.getD k false=true->∃(j:Nat) (s:Sm),j<i/\p.stmts[j]? = some s/\s.kind=3/\s.index=k
theorem z1m{pu:List Bool}:UE c (22,0) (1,0,pu)=some (0,1,pu):=by
 unfold UE
 have hr:Mac.refP (Mac.effP c 22) 0 1=false:=rfl
 rw[hr];rfl
theorem Xg(hc:COk c p){a:Int}{pu:List Bool}(ha:0<=a/\a<p.lines.length)(hp:pu.getD a.toNat false=false):UE c (7,a) (1,0,pu)=some (0,0,pu.set a.toNat true):=by
 unfold UE
 have hl:=hc.lim
 have he:Mac.effP c 7=(1,0,0,(p.lines.length:Int)-1):=by
  rw[<-hc.lin]
  show(1,0,0,Mac.W ((c.lines.length:Int)-1))=_
  rw[Wn (by rw[hc.lin];omega)]
 have hr:Mac.refP (Mac.effP c 7) a 1=false:=by
  rw[he]
  simp only[Mac.refP,decide_eq_false (show ¬a<0 by omega),decide_eq_false (show ¬a>(p.lines.length:Int)-1 by omega)]
  rfl
 rw[he]at hr
 simp only[he,hr,Bool.false_eq_true,if_false,hp];rfl
theorem getD_set_ne{l:List Bool}{i k:Nat}(h:(l.set i true).getD k false=true):k=i\/l.getD k false=true:=by
 by_cases e:k=i
 ·exact .inl e
 ·rw[List.getD_eq_getElem?_getD,List.getElem?_set_ne (λq=>e q.symm),<-List.getD_eq_getElem?_getD]at h;exact .inr h
theorem UM(h:Res p)(hc:COk c p):∀(r:List Sm) (i:Nat) (R:List (Int×Int)) (n:Int),p.stmts.drop i=r->0<=n->ROk p R i n ->
  n<=(cmpL r i R n).2/\((cmpL r i R n).2<=c.regs->r ≠ []->∀pu,z6k p i pu->∃pu',runL c (cmpL r i R n).1 (0,0,pu)=some (0,1,pu'))
 | [],i,R,n,_,_,_=>⟨Int.le_refl n,λ_ h=>absurd rfl h⟩
 |s::r,i,R,n,hd,h0,hR=>by
  obtain⟨hs,hd'⟩:=Ac hd
  have sv:=UL h hs
  have hi:i<p.stmts.length:=(List.getElem?_eq_some_iff.1 hs).1
  have hn28:=UI sv.v.wf sv.nd
  have hx:=z1l hc (Nat.le_of_lt hi) s.x sv.v n h0 hR n (Int.le_refl _)
  have hreg:=hc.reg
  have hlim:=hc.lim
  have hat:=wF p.stmts 0 false h.ru
  have hgd:p.stmts.getD i Sm.none=s:=by rw[List.getD_eq_getElem?_getD,hs];rfl
  -- out is last,and only there
  have hlast:s.kind=4↔r = []:=by
   constructor
   ·intro hk
    cases r with
    |nil=>rfl
    |cons t r=>
     obtain⟨ht,_⟩:=Ac hd'
     have ha:=(hat (i+1) t ht).2.2
     rw[Nat.zero_add,again,List.any_eq_false]at ha
     have hm:s∈p.stmts.take (i+1):=by
      rw[List.take_add_one,hs];simp
     have:=ha s hm
     rw[hk]at this;simp at this
   ·intro hr
    subst hr
    have hl:p.stmts.getLast? = some s:=by
     have:p.stmts=p.stmts.take i++[s]:=by rw[<-hd,List.take_append_drop]
     rw[this];simp
    have:=NE _ _ _ _ h.ru s hl
    simpa using this
  have rest:∀(R':List (Int×Int)) (n':Int),0<=n'->ROk p R' (i+1) n'->n'<=(cmpL r (i+1) R' n').2/\((cmpL r (i+1) R' n').2<=c.regs->r ≠ []->∀pu,z6k p (i+1) pu->∃pu',runL c (cmpL r (i+1) R' n').1 (0,0,pu)=some (0,1,pu')):=λR' n' h1 h2=>UM h hc r (i+1) R' n' hd' h1 h2
  have keep:∀(pu:List Bool),z6k p i pu->z6k p (i+1) pu:=λpu hp=>⟨hp.1,λk hk=>by obtain⟨j,t,a,b⟩:=hp.2 k hk;exact⟨j,t,by omega,b⟩⟩
  have hRk:s.kind≠1->∀n',n<=n'->ROk p R (i+1) n':=by
   intro hk n' hn' j j0 j1 jk
   by_cases e:j=i
   ·subst e
    rw[Int.toNat_natCast,hgd]at jk
    exact absurd (by simpa using jk) hk
   ·obtain⟨q,q1,q2,q3⟩:=hR j j0 (by omega) jk
    exact⟨q,q1,q2,by omega⟩
  have hmid:∀(rg:Int) (I:Int×Int) (B:Ins) (pu pu2:List Bool) (o:Int),(aU R s.x n).2<=c.regs->UE c I (1,0,pu)=some (0,o,pu2)->∀t,runL c B (0,o,pu2)=some t->runL c ((aU R s.x n).1++[I]++B) (0,0,pu)=some t:=by
   intro rg I B pu pu2 o hr hI t hB
   have e1:=hx.2 hr 0 0 pu ⟨Int.le_refl _,by omega⟩
   rw[List.append_assoc,ED c _ _ _ _ e1]
   show(match UE c I (1,0,pu)with |none=>none |some u=>runL c ([]++B) u)=_
   rw[hI];exact hB
  rcases sv.kd with hk |hk |hk |hk
  ·-- let
   have hne:r ≠ []:=λe=>by have:=hlast.2 e;omega
   have e:cmpL (s::r) i R n=((aU R s.x n).1++[(5,(aU R s.x n).2)]++(cmpL r (i+1) (lL (i:Int) (aU R s.x n).2 R) ((aU R s.x n).2+1)).1,(cmpL r (i+1) (lL (i:Int) (aU R s.x n).2 R) ((aU R s.x n).2+1)).2):=by
    rw[cmpL,if_pos (by rw[hk];rfl)]
   obtain⟨a1,a2⟩:=rest (lL (i:Int) (aU R s.x n).2 R) ((aU R s.x n).2+1) (by omega) (λj j0 j1 jk=>by
    rw[wC]
    by_cases q:j=i
    ·rw[if_pos (by simpa using q)];exact⟨_,rfl,by omega,by omega⟩
    ·rw[if_neg (by simpa using q)]
     obtain⟨w,q1,q2,q3⟩:=hR j j0 (by omega) jk
     exact⟨w,q1,q2,by omega⟩)
   rw[e]
   refine⟨by show n<=(cmpL r (i+1) _ _).2;omega,λhr _ pu hp=>?_⟩
   have hr:(cmpL r (i+1) (lL (i:Int) (aU R s.x n).2 R) ((aU R s.x n).2+1)).2<=c.regs:=hr
   obtain⟨pu',w⟩:=a2 hr hne pu (keep pu hp)
   refine⟨pu',hmid 0 _ _ pu pu 0 (by omega) ?_ _ w⟩
   exact J8 (c:=c) (op:=5) (t:=1) (u:=0) (lo:=0) (hi:=Mac.W (c.regs-1)) rfl (by decide) (by decide) ⟨by omega,by rw[Wn (by omega)];omega⟩ (by decide) (by decide) rfl rfl
  ·have hne:r ≠ []:=λe=>by have:=hlast.2 e;omega
   have e:cmpL (s::r) i R n=((aU R s.x n).1++[(6,s.index)]++(cmpL r (i+1) R (aU R s.x n).2).1,(cmpL r (i+1) R (aU R s.x n).2).2):=by
    rw[cmpL,if_neg (by rw[hk];decide),if_pos (by rw[hk];rfl)]
   obtain⟨a1,a2⟩:=rest R (aU R s.x n).2 (by omega) (hRk (by omega) _ hx.1)
   rw[e]
   refine⟨by show n<=(cmpL r (i+1) _ _).2;omega,λhr _ pu hp=>?_⟩
   have hr:(cmpL r (i+1) R (aU R s.x n).2).2<=c.regs:=hr
   obtain⟨pu',w⟩:=a2 hr hne pu (keep pu hp)
   refine⟨pu',hmid 0 _ _ pu pu 0 (by omega) ?_ _ w⟩
   have hb:=sv.k2 hk
   exact J8 (c:=c) (op:=6) (t:=1) (u:=0) (lo:=0) (hi:=Mac.W ((c.states.length:Int)-1)) rfl (by decide) (by decide) ⟨hb.1,by rw[hc.sta,Wn (by omega)];omega⟩ (by decide) (by decide) rfl rfl
  ·have hne:r ≠ []:=λe=>by have:=hlast.2 e;omega
   have e:cmpL (s::r) i R n=((aU R s.x n).1++[(7,s.index)]++(cmpL r (i+1) R (aU R s.x n).2).1,(cmpL r (i+1) R (aU R s.x n).2).2):=by
    rw[cmpL,if_neg (by rw[hk];decide),if_neg (by rw[hk];decide),if_pos (by rw[hk];rfl)]
   obtain⟨a1,a2⟩:=rest R (aU R s.x n).2 (by omega) (hRk (by omega) _ hx.1)
   rw[e]
   refine⟨by show n<=(cmpL r (i+1) _ _).2;omega,λhr _ pu hp=>?_⟩
   have hr:(cmpL r (i+1) R (aU R s.x n).2).2<=c.regs:=hr
   have hb:=sv.k3 hk
   have hpu:pu.getD s.index.toNat false=false:=by
    cases q:pu.getD s.index.toNat false with
    |false=>rfl
    |true=>
     obtain⟨j,t,q1,q2,q3,q4⟩:=hp.2 _ q
     exact absurd q1 (Ey h q2 hs (by rw[q3];rfl) (by omega) (by omega))
   have hset:z6k p (i+1) (pu.set s.index.toNat true):=by
    refine⟨by rw[List.length_set];exact hp.1,λk q=>?_⟩
    rcases getD_set_ne q with q |q
    ·exact⟨i,s,by omega,hs,hk,by omega⟩
    ·obtain⟨j,t,a,b⟩:=hp.2 k q;exact⟨j,t,by omega,b⟩
   obtain⟨pu',w⟩:=a2 hr hne _ hset
   exact⟨pu',hmid 0 _ _ pu _ 0 (by omega) (Xg hc hb hpu) _ w⟩
  ·have hr:=hlast.1 hk
   subst hr
   have e:cmpL [s] i R n=((aU R s.x n).1++[(22,0)]++[],(aU R s.x n).2):=by
    rw[cmpL,if_neg (by rw[hk];decide),if_neg (by rw[hk];decide),if_neg (by rw[hk];decide)];rfl
   rw[e]
   exact⟨hx.1,λhr _ pu hp=>⟨pu,hmid 0 _ _ pu pu 1 hr z1m _ rfl⟩⟩
theorem Ht(h:Res p):∀(r:List Sm) (i:Nat) (R:List (Int×Int)) (n:Int),p.stmts.drop i=r->(cmpL r i R n).1.length<=768 * r.length/\n<=(cmpL r i R n).2/\(cmpL r i R n).2<=n+513 * (r.length:Int)
 | [],i,R,n,_=>⟨Nat.le_refl _,Int.le_refl _,by show n<=n+513 * 0;omega⟩
 |s::r,i,R,n,hd=>by
  obtain⟨hs,hd'⟩:=Ac hd
  have sv:=UL h hs
  obtain⟨a1,a2,a3⟩:=UK (p:=p) (b:=i) (R:=R) s.x sv.v.wf n
  have hnd:=sv.nd
  rw[cmpL]
  split
  ·obtain⟨b1,b2,b3⟩:=Ht h r (i+1) (lL (i:Int) (aU R s.x n).2 R) ((aU R s.x n).2+1) hd'
   simp only[List.length_append,List.length_cons,List.length_nil]
   refine⟨by omega,by omega,by omega⟩
  ·obtain⟨b1,b2,b3⟩:=Ht h r (i+1) R (aU R s.x n).2 hd'
   simp only[List.length_append,List.length_cons,List.length_nil]
   refine⟨by omega,by omega,by omega⟩
theorem yh{lo hi:Int}(h:-2147483648<=lo/\lo<=hi/\hi<=2147483647):Mac.wrongM lo hi=false:=by
 rw[Mac.wrongM,decide_eq_false (show ¬lo < -2147483648 by omega),decide_eq_false (show ¬lo>hi by omega),decide_eq_false (show ¬hi>2147483647 by omega)];rfl
theorem UN:∀l:List Bd,(∀b∈l,Mac.wrongM b.lo b.hi=false)->Mac.anyB l=false
 | [],_=>rfl
 |b::r,h=>by rw[Mac.anyB,h b (by simp),cond_false];exact UN r λc hc=>h c (by simp[hc])
theorem UO:∀l:List Ln,(∀b∈l,Mac.badL b=false)->Mac.anyL l=false
 | [],_=>rfl
 |b::r,h=>by rw[Mac.anyL,h b (by simp),cond_false];exact UO r λc hc=>h c (by simp[hc])
theorem Hu:∀(l:List Int) (i:Int),(∀v∈l,Mac.wrongM v v=false)->Mac.firstW l i = -1
 | [],_,_=>rfl
 |v::r,i,h=>by rw[Mac.firstW,h v (by simp),cond_false];exact Hu r (i+1) λc hc=>h c (by simp[hc])
theorem UQ:∀l:List (List Int),(∀t∈l,Mac.badT t=false)->Mac.anyT l=false
 | [],_=>rfl
 |b::r,h=>by rw[Mac.anyT,h b (by simp),cond_false];exact UQ r λc hc=>h c (by simp[hc])
theorem z1o{l:List Int}{m:Int}(hm:0<=m)(h:∀x∈l,x<=m):(aV l).1<=m:=by
 rcases mW l 0 0 0 with⟨e,_⟩ |⟨j,h1,_⟩
 ·rw[aV,e];exact hm
 ·exact h _ (List.mem_of_getElem? h1)
theorem z6l(h:Res p):Mac.decP (ji p)=true:=by
 have hl:=z7n h
 have hg:=h.rng
 obtain⟨z1,z2,z3⟩:=Ht h p.stmts 0 [] 0 (by rfl)
 have hli:=h.li
 rw[limited_eq]at hli
 simp only[Bool.and_eq_true]at hli
 have e1:Mac.anyB [(ji p).params,(ji p).states].flatten=false:=UN _ λb hb=>by
  simp only[List.flatten_cons,List.flatten_nil,List.append_nil,List.mem_append]at hb
  rcases hb with hb |hb
  ·exact yh (hg.par b hb)
  ·exact yh (hg.sta b hb)
 have e2:Mac.anyL (ji p).lines=false:=UO _ λb hb=>by
  have:=hl.2.1 b hb
  rw[Mac.badL,yh (hg.lin b hb),decide_eq_false (show ¬b.size<1 by omega),decide_eq_false (show ¬b.size>65536 by omega)];rfl
 have e3:Mac.anyT (ji p).tables=false:=UQ _ λt ht=>by
  obtain⟨tb,h1,rfl⟩:=List.mem_map.1 ht
  have ho:=List.all_eq_true.1 hli.2.2.1 tb h1
  simp only[jR,Bool.not_eq_true',Bool.or_eq_false_iff,decide_eq_false_iff_not]at ho
  rw[Mac.badT,Hu _ _ λv hv=>yh (by have:=hg.tab tb h1 v hv;omega),decide_eq_false ho.1,decide_eq_false ho.2];rfl
 rw[Mac.decP,e1,e2,e3,cond_false,cond_false,cond_false]
 have hm:(aV [((ji p).params.length:Int),((ji p).states.length:Int),((ji p).lines.length:Int),((ji p).tables.length:Int)]).1<=16:=z1o (by decide) λx hx=>by
  have ht:(ji p).tables.length=p.tables.length:=List.length_map _
  simp only[List.mem_cons,List.not_mem_nil,or_false]at hx
  rcases hx with rfl |rfl |rfl |rfl
  ·show(p.params.length:Int)<=16;omega
  ·show(p.states.length:Int)<=16;omega
  ·show(p.lines.length:Int)<=16;omega
  ·rw[ht];omega
 have f1:(ji p).latency=p.latency:=rfl
 have f2:(ji p).tail=p.tail:=rfl
 have f3:(ji p).regs=(cmpL p.stmts 0 [] 0).2:=rfl
 have f4:(ji p).instrs=(cmpL p.stmts 0 [] 0).1:=rfl
 rw[Mac.finP,f1,f2,f3,f4,decide_eq_true hm,decide_eq_true (show p.latency>=0 by omega),decide_eq_true (show p.latency<=4096 by omega),decide_eq_true (show p.tail >= -1 by omega),decide_eq_true (show p.tail<=1048576 by omega),decide_eq_true (show(cmpL p.stmts 0 [] 0).2>=0 by omega),decide_eq_true (show(cmpL p.stmts 0 [] 0).2<=65536 by omega),decide_eq_true (show(((cmpL p.stmts 0 [] 0).1.length:Nat):Int)<=65536 by omega)]
 rfl
theorem NF(h:Res p):COk (ji p) p:=by
 have hl:=z7n h
 obtain⟨_,z2,z3⟩:=Ht h p.stmts 0 [] 0 (by rfl)
 exact⟨rfl,rfl,rfl,List.length_map _,⟨z2,by show(cmpL p.stmts 0 [] 0).2<=65536;omega⟩,by omega⟩
theorem CS(h:Res p):Mac.checkP (ji p)=true:=by
 rw[Mac.checkP,z6l h]
 show Mac.chkP (ji p) (cmpL p.stmts 0 [] 0).1 0 0 (List.replicate p.lines.length false)=true
 obtain⟨_,w⟩:=UM h (NF h) p.stmts 0 [] 0 (by rfl) (Int.le_refl _) (λj h1 h2=>by omega)
 obtain⟨pu',e⟩:=w (Int.le_refl _) (λe=>by have:=Um h;rw[e]at this;simp at this) (List.replicate p.lines.length false) ⟨List.length_replicate,λk hk=>by
  rw[List.getD_eq_getElem?_getD,List.getElem?_replicate]at hk
  split at hk<;>cases hk⟩
 rw[EE _ _ _ _ _ _ _ _ e];rfl
end Go.Fw.Lw
namespace Go.Fw.Lw
open Go.Fw
variable [ah]
end Go.Fw.Lw
namespace Go.Fw.Lw
open Go.Fw Go.Fw.Ref15 Go.Fw.Rg Go.Fw.Tl
variable [ah] {l : List Int} {ns : List Int} {i : Nat} {x : Ex}
theorem UR(h:l ≠ [])(hp:∀k∈l,1<=k):∃j:Nat,j<l.length/\(aV l).2=(j:Int)/\l[j]? = some (aV l).1:=by
 rcases mW l 0 0 0 with⟨_,h2⟩ |⟨j,h1,h2,_,_⟩
 ·cases l with
  |nil=>exact absurd rfl h
  |cons a r=>have:=hp a (by simp);have:=h2 a (by simp);omega
 ·exact⟨j,(List.getElem?_eq_some_iff.1 h1).1,by rw[h2];omega,h1⟩
theorem Xh(h:ns++bW []=bW x.l/\ns.length=i):ns=bW x.l:=by
 have h:=h.1
 simpa[bW]using h
theorem Hw{l:List Ex}{r:List Ex}(h:ns++bW (x::r)=bW l/\ns.length=i):(ns++[ae x])++bW r=bW l/\(ns++[ae x]).length=i+1:=by
 refine⟨?_,by simp[h.2]⟩
 rw[<-h.1,bW];simp
theorem Xi{k:Int}(h:k∈bW x.l):∃y∈x.l,k=ae y:=by
 rw[jd]at h
 obtain⟨y,h1,h2⟩:=List.mem_map.1 h
 exact⟨y,h1,h2.symm⟩
theorem mg{p:Pr}{n:Nat}{x y:Ex}(h:wfX p n x=true)(hy:y∈x.l):wfX p n y=true:=gY (bG h).2.2 _ hy
theorem qj{x y:Ex}(hy:y∈x.l):Ref15.nodes y<Ref15.nodes x:=by
 have:=Ref15.nodes_eq x
 have:=mP hy
 omega
theorem Xj{p:Pr}{n:Nat}(hw:wfX p n x=true)(hn:Ref15.nodes x<=512):∀k∈bW x.l,1<=k/\k<=28:=by
 intro k hk
 obtain⟨y,hy,rfl⟩:=Xi hk
 have:=qj hy
 exact⟨uF y n p (mg hw hy),UI (mg hw hy) (by omega)⟩
theorem z1p(h:(((l.length:Nat):Int)==0)=true):og l=1:=by
 have:l.length=0:=by simpa using h
 unfold og;rw[if_pos this]
theorem z1q(h:(((l.length:Nat):Int)==1)=true):og l=(aV l).1:=by
 have:l.length=1:=by simp at h;omega
 unfold og;rw[if_neg (by omega),if_pos this]
theorem z1r(h:(((l.length:Nat):Int)==2)=true):og l=mm2 true (aV l).1 (l.getD (1-(aV l).2).toNat 0+1):=by
 have:l.length=2:=by simp at h;omega
 unfold og;rw[if_neg (by omega),if_neg (by omega),if_pos this]
theorem z1s(h0:(((l.length:Nat):Int)==0)=false)(h1:(((l.length:Nat):Int)==1)=false)(h2:(((l.length:Nat):Int)==2)=false):og l=needS (l.set (aV l).2.toNat 1) 0 (aV l).1:=by
 have h0:l.length≠0:=by intro e;simp[e]at h0
 have h1:l.length≠1:=by intro e;simp[e]at h1
 have h2:l.length≠2:=by intro e;simp[e]at h2
 unfold og;rw[if_neg h0,if_neg h1,if_neg h2]
theorem EG(h:(((l.length:Nat):Int)==2)=true)(hp:∀k∈l,1<=k/\k<=28):IntKind.i64.wrap (1-(aV l).2)=1-(aV l).2/\(0<=IntKind.i64.wrap (1-(aV l).2)/\IntKind.i64.wrap (1-(aV l).2)<(l.length:Nat)) /\
  (l.map eU)[0+(IntKind.i64.wrap (1-(aV l).2)).toNat]? = some (eU (l.getD (1-(aV l).2).toNat 0))/\IntKind.i64.wrap (l.getD (1-(aV l).2).toNat 0+1)=l.getD (1-(aV l).2).toNat 0+1:=by
 have hl:l.length=2:=by simp at h;omega
 obtain⟨j,h1,h2,h3⟩:=UR (l:=l) (by rintro rfl;simp at hl) (λk hk=>(hp k hk).1)
 have e:IntKind.i64.wrap (1-(aV l).2)=1-(aV l).2:=bJ (by omega) (by omega)
 have hlt:(1-(aV l).2).toNat<l.length:=by omega
 rw[e]
 have hm:l.getD (1-(aV l).2).toNat 0∈l:=by
  rw[List.getD_eq_getElem?_getD,List.getElem?_eq_getElem hlt];exact List.getElem_mem hlt
 have:=hp _ hm
 refine⟨rfl,⟨by omega,by omega⟩,?_,bJ (by omega) (by omega)⟩
 rw[Nat.zero_add,List.getElem?_map,List.getD_eq_getElem?_getD,List.getElem?_eq_getElem hlt];rfl
theorem NG(h0:(((l.length:Nat):Int)==0)=false)(hp:∀k∈l,1<=k/\k<=28):(0<=(aV l).2/\(aV l).2<(l.length:Nat))/\(l.map eU)[0+((aV l).2).toNat]? = some (eU (aV l).1):=by
 obtain⟨j,h1,h2,h3⟩:=UR (l:=l) (by rintro rfl;simp at h0) (λk hk=>(hp k hk).1)
 refine⟨by omega,?_⟩
 rw[h2,Nat.zero_add,Int.toNat_natCast,List.getElem?_map,h3];rfl
theorem z1t(k:Nat)(hp:∀k∈l,1<=k/\k<=28):∀v∈l.set k 1,1<=v/\v<=28:=by
 intro v hv
 rcases List.mem_or_eq_of_mem_set hv with h |rfl
 ·exact hp v h
 ·omega
theorem O7{L:List Int}{k:Int}{r:List Int}{n m:Int}(h:needS (k::r) i n=m)(hd:L.drop i=k::r)(hL:L.length<=1000)(hk:∀v∈L,1<=v/\v<=28):needS r ((i+1:Nat):Int) (mm2 true n (IntKind.i64.wrap (k+i)))=m:=by
 have h1:=kQ hd
 have h2:=hk k (bn hd)
 rw[bJ (by omega) (by omega),<-h,needS]
 rfl
theorem Xk{i v s:Nat}{a:Int}:AV.own i v s 0 (ns.length+1)=AV.own i v s 0 (ns++[a]).length:=by simp
theorem z1u{v:Int}{k:Nat}(n:Nat)(h:l.length=n):Block.arr k 1 ((l.map eU).take n++[[D.i v]])=Block.arr k 1 ((l++[v]).map eU):=by
 rw[List.take_of_length_le (by simp[h])];simp
theorem nT{v:Int}{k i:Nat}:Block.arr k 1 ((l.map eU).set (0+i) [D.i v])=Block.arr k 1 ((l.set i v).map eU):=by
 rw[Nat.zero_add,List.map_set]
theorem Xl{x:Int}{r:List Int}(h:l.drop i=x::r):(l.map eU)[0+((i:Nat):Int).toNat]? = some (eU x):=by
 rw[Nat.zero_add,Int.toNat_natCast,List.getElem?_map,nK h];rfl
end Go.Fw.Lw
namespace Go.Fw.Lw
open Go.Fw Go.Fw.Ref15 Go.Fw.Rg Go.Fw.Tl
variable [ah]
theorem sub_le{R:List (Int×Int)}{a b:Ex}(h:ae b<=ae a):J6 [ae a,ae b] (dI R [a,b])=jE (jE (aU R a) (aU R b)) (dw 18 0):=by
 have h:([ae a,ae b]:List Int).getD 1 0<=([ae a,ae b]:List Int).getD 0 0:=h
 unfold J6;rw[if_pos h];rfl
theorem YU{R:List (Int×Int)}{a b:Ex}(h:¬ae b<=ae a):J6 [ae a,ae b] (dI R [a,b])=jE (jE (jE (aU R b) (dw 16 0)) (aU R a)) (dw 17 0):=by
 have h:¬([ae a,ae b]:List Int).getD 1 0<=([ae a,ae b]:List Int).getD 0 0:=h
 unfold J6;rw[if_neg h];rfl
theorem O8{y:Ex}{r:List Ex}:(0:Int)<=0/\(Ex.css (y::r))[(0:Int).toNat]? = some (Ex.cs y):=by rw[Ex.css_eq];exact⟨Int.le_refl 0,rfl⟩
theorem UT{x y:Ex}{r:List Ex}:(0:Int)<=1/\(Ex.css (x::y::r))[(1:Int).toNat]? = some (Ex.cs y):=by rw[Ex.css_eq];exact⟨by decide,rfl⟩
theorem z9c{x y z:Ex}{r:List Ex}:(0:Int)<=2/\(Ex.css (x::y::z::r))[(2:Int).toNat]? = some (Ex.cs z):=by rw[Ex.css_eq];exact⟨by decide,rfl⟩
theorem z9d{x y z u:Ex}{r:List Ex}:(0:Int)<=3/\(Ex.css (x::y::z::u::r))[(3:Int).toNat]? = some (Ex.cs u):=by rw[Ex.css_eq];exact⟨by decide,rfl⟩
theorem z6m{n:Int}(h:0<=n/\n<=1000000):IntKind.i64.wrap (n+1)=n+1:=bJ (by omega) (by omega)
theorem z9e{n:Int}(h:0<=n/\n<=1000000):IntKind.i64.wrap (IntKind.i64.wrap (n+1)-1)=n:=by
 rw[z6m h,bJ (by omega) (by omega)];omega
theorem z9f{op n:Int}{ns:List Int}{fs:List GF}{f g:GF}(fa:fAt fs (aV ns).2=f)(fb:fAt fs (1-(aV ns).2)=g):(g (f n).2).2=(uS op ns fs n).2:=by simp only[uS,fa,fb,jE,dw]
theorem z1v{R:List (Int×Int)}{a b:Ex}{n:Int}(h:ae b<=ae a):(aU R b (aU R a n).2).2=(J6 [ae a,ae b] (dI R [a,b]) n).2:=by rw[sub_le h];rfl
theorem z1w{R:List (Int×Int)}{a b:Ex}{n:Int}(h:¬ae b<=ae a):(aU R a (aU R b n).2).2=(J6 [ae a,ae b] (dI R [a,b]) n).2:=by rw[YU h];rfl
def chW:List Ex->Int->Int->Nat
 | [],_,_=>0
 |y::r,a,i=>(if i==a then 2 else 3 * Ref15.nodes y-1)+chW r a (i+1)
def chR:List Ex->Int->Int->Nat
 | [],_,_=>0
 |y::r,a,i=>(if i==a then 0 else Ref15.nodes y)+chR r a (i+1)
structure ChI(R:List (Int×Int))(at_ reg:Int)(T:Ins×Int)(i:Nat)(r:List Ex)(ins:Ins)(n:Int):Prop where
 code:ins++(chG (dI R r) at_ reg i n).1=T.1
 regs:(chG (dI R r) at_ reg i n).2=T.2
 len:2 * ins.length+chW r at_ i+2<=2000000
 n0:0<=n
 nb:n+chR r at_ i<=1000000
variable {n : Int} {r : List Ex} {ins : Ins} {l : List Ex} {ns : List Int} {i : Nat} {x : Ex}
theorem ChI.at{R:List (Int×Int)}{at_ reg:Int}{T:Ins×Int}(h:ChI R at_ reg T i (x::r) ins n)(hc:((i:Int)==at_)=true):ChI R at_ reg T (i+1) r (ins++[(4,reg)]) n:=by
 have h1:=h.code
 have h2:=h.regs
 have h3:=h.len
 have h5:=h.nb
 rw[dI,chG,if_pos hc]at h1 h2
 rw[chW,if_pos hc]at h3
 rw[chR,if_pos hc]at h5
 refine⟨?_,h2,?_,h.n0,?_⟩
 ·rw[<-h1];show ins++[(4,reg)]++(chG (dI R r) at_ reg ((i+1:Nat):Int) n).1=ins++([(4,reg)]++(chG (dI R r) at_ reg ((i:Int)+1) n).1)
  rw[List.append_assoc];rfl
 ·rw[List.length_append];simp only[List.length_cons,List.length_nil,Int.natCast_add,Int.natCast_one];omega
 ·simp only[Int.natCast_add,Int.natCast_one];omega
theorem ChI.next{R:List (Int×Int)}{at_ reg:Int}{T:Ins×Int}(h:ChI R at_ reg T i (x::r) ins n)(hc:((i:Int)==at_)=false)(hz:Sz (aU R x) (3 * Ref15.nodes x-1) (Ref15.nodes x)):ChI R at_ reg T (i+1) r (ins++(aU R x n).1) (aU R x n).2:=by
 have h1:=h.code
 have h2:=h.regs
 have h3:=h.len
 have h5:=h.nb
 have z:=hz n
 rw[dI,chG,if_neg (by rw[hc];decide)]at h1 h2
 rw[chW,if_neg (by rw[hc];decide)]at h3
 rw[chR,if_neg (by rw[hc];decide)]at h5
 have h0:=h.n0
 refine⟨?_,h2,?_,by omega,?_⟩
 ·rw[<-h1];show ins++(aU R x n).1++(chG (dI R r) at_ reg ((i+1:Nat):Int) (aU R x n).2).1=ins++((aU R x n).1++(chG (dI R r) at_ reg ((i:Int)+1) (aU R x n).2).1)
  rw[List.append_assoc];rfl
 ·rw[List.length_append];simp only[Int.natCast_add,Int.natCast_one];omega
 ·simp only[Int.natCast_add,Int.natCast_one];omega
theorem ChI.fit{R:List (Int×Int)}{at_ reg:Int}{T:Ins×Int}(h:ChI R at_ reg T i (x::r) ins n)(hc:((i:Int)==at_)=false):2 * ins.length+3 * Ref15.nodes x<=2000000/\0<=n/\n+Ref15.nodes x<=1000000:=by
 have h3:=h.len
 have h5:=h.nb
 rw[chW,if_neg (by rw[hc];decide)]at h3
 rw[chR,if_neg (by rw[hc];decide)]at h5
 have:=dZ x
 exact⟨by omega,h.n0,by omega⟩
theorem ChI.fin{R:List (Int×Int)}{at_ reg:Int}{T:Ins×Int}(h:ChI R at_ reg T i [] ins n):ins=T.1/\n=T.2:=by
 have h1:=h.code
 rw[dI,chG]at h1
 exact⟨by rw[<-h1];show ins=ins++[];rw[List.append_nil],h.regs⟩
theorem ChI.ilen{R:List (Int×Int)}{at_ reg:Int}{T:Ins×Int}(h:ChI R at_ reg T i r ins n):ins.length<=1000000:=by have:=h.len;omega
abbrev chT(R:List (Int×Int))(at_ n:Int)(l:List Ex)(y0:Ex)(ins:Ins):Ins×Int:=
 (ins++(aU R y0 (n+1)).1++[(5,n)]++(chG (dI R l) at_ n 0 (aU R y0 (n+1)).2).1,(chG (dI R l) at_ n 0 (aU R y0 (n+1)).2).2)
theorem zac{R:List (Int×Int)}{y0:Ex}(fa:fAt (dI R l) (aV ns).2=aU R y0):(chT R (aV ns).2 n l y0 ins).1++[(21,0)]=ins++(gIf ns (dI R l) n).1:=by
 simp only[gIf,fa,jE,dw,List.append_assoc]
theorem zad{R:List (Int×Int)}{y0:Ex}(fa:fAt (dI R l) (aV ns).2=aU R y0):(chT R (aV ns).2 n l y0 ins).2=(gIf ns (dI R l) n).2:=by
 simp only[gIf,fa,jE,dw]
theorem z6n(hl:∀y∈l,1<=Ref15.nodes y)(a:Nat)(y0:Ex):∀i:Nat,(h:∀(j:Nat) y,l[j]? = some y->i+j=a->y=y0)->chW l a i<=3 * Ref15.nodesL l-l.length/\chR l a i<=Ref15.nodesL l/\(i<=a->a<i+l.length->chW l a i+(3 * Ref15.nodes y0-1)<=3 * Ref15.nodesL l-l.length+2/\chR l a i+Ref15.nodes y0<=Ref15.nodesL l):=by
 induction l with
 |nil=>intro i h;exact⟨Nat.zero_le _,Nat.zero_le _,λh1 h2=>by simp at h2;omega⟩
 |cons x r ih=>
  intro i h
  have hx:=hl x (by simp)
  have ih:=ih (λy hy=>hl y (by simp[hy])) (i+1) (λj y e h2=>h (j+1) y (by simpa using e) (by omega))
  have hn:Ref15.nodesL (x::r)=Ref15.nodes x+Ref15.nodesL r:=by rw[Ref15.nodesL]
  have hlr:=Ref15.len_nodes r
  rw[hn,chW,chR,List.length_cons]
  have ec:((i:Nat):Int)+1=((i+1:Nat):Int):=by omega
  rw[ec]
  by_cases e:i=a
  ·subst e
   have:=h 0 x rfl rfl
   subst this
   simp only[beq_self_eq_true,if_true]
   refine⟨by omega,by omega,λ_ _=>⟨by omega,by omega⟩⟩
  ·have e':(((i:Nat):Int)==(a:Int))=false:=by simp;omega
   simp only[e',Bool.false_eq_true,if_false]
   refine⟨by omega,by omega,λh1 h2=>?_⟩
   have:=ih.2.2 (by omega) (by omega)
   omega
theorem Xm{R:List (Int×Int)}{y0:Ex}{j:Nat}(hj:(aV ns).2=(j:Int))(hy:l[j]? = some y0)(hl:l.length=4)(hz:Sz (aU R y0) (3 * Ref15.nodes y0-1) (Ref15.nodes y0))(hi:2 * ins.length+3 * (Ref15.nodesL l+1)<=2000000)(h0:0<=n)(hn:n+(Ref15.nodesL l+1)<=1000000) :
  ChI R (aV ns).2 n (chT R (aV ns).2 n l y0 ins) 0 l (ins++(aU R y0 (n+1)).1++[(5,n)]) (aU R y0 (n+1)).2:=by
 have z:=hz (n+1)
 have hu:∀(i:Nat) y,l[i]? = some y->0+i=j->y=y0:=by
  intro i y e h
  have h:i=j:=by omega
  subst h
  rw[hy]at e;exact(Option.some.inj e).symm
 have s:=z6n (l:=l) (λy _=>dZ y) j y0 0 hu
 have hjl:j<4:=by have:=(List.getElem?_eq_some_iff.1 hy).1;omega
 have s2:=s.2.2 (Nat.zero_le _) (by omega)
 have hp:=dZ y0
 have hs:=Ref15.len_nodes l
 refine⟨rfl,rfl,?_,by omega,?_⟩
 ·rw[hj,List.length_append,List.length_append]
  simp only[List.length_cons,List.length_nil]
  have s3:=s2.1
  simp only[Int.natCast_zero]at s3 ⊢
  omega
 ·rw[hj]
  have s3:=s2.2
  simp only[Int.natCast_zero]at s3 ⊢
  omega
theorem z1x{p:Pr}{b:Nat}(hl:p.lines.length<=16/\p.tables.length<=16)(v:V p b x)(hk:x.kind=6\/x.kind=7\/x.kind=8\/x.kind=9\/x.kind=10\/x.kind=13\/x.kind=14\/x.kind=18):IntKind.i64.wrap (x.index+x.n)=x.index+x.n:=by
 have hg:=(bG v.wf).2.1
 have:0<=x.index+x.n/\x.index+x.n<=2147483648:=by
  rcases hk with e |e |e |e |e |e |e |e
  ·rw[v.num (by omega) (by omega),v.idx (by rw[e];rfl) (by omega) (by omega)];decide
  ·rw[v.num (by omega) (by omega),v.idx (by rw[e];rfl) (by omega) (by omega)];decide
  ·have:=Yu hg (by rw[e];rfl)
   rw[v.num (by omega) (by omega)];omega
  ·have:=Yv hg (by rw[e];rfl)
   rw[v.num (by omega) (by omega)];omega
  ·rw[v.num (by omega) (by omega),v.idx (by rw[e];rfl) (by omega) (by omega)];decide
  ·rw[v.num (by omega) (by omega),v.idx (by rw[e];rfl) (by omega) (by omega)];decide
  ·rw[v.num (by omega) (by omega),v.idx (by rw[e];rfl) (by omega) (by omega)];decide
  ·have:=own_k18' hg e
   rw[v.idx (by rw[e];rfl) (by omega) (by omega)];omega
 exact bJ (by omega) (by omega)
theorem z6o{j:Nat}{i:Int}{y:Ex}(hi:i=j)(h:l[j]? = some y):0<=i/\(Ex.css l)[i.toNat]? = some (Ex.cs y):=by
 subst hi
 rw[Ex.css_eq]
 exact⟨Int.natCast_nonneg _,by rw[Int.toNat_natCast,List.getElem?_map,h];rfl⟩
theorem J9{p:Pr}(h:kZ p=0):Res p:=by
 have hb:(aH p).2=0:=by
  apply Classical.byContradiction
  intro hn
  have:((aH p).2 != 0)=true:=by simpa using hn
  rw[kZ,if_pos this]at h
  exact hn h
 exact xZ (lJ hb).2
theorem Ko{p:Pr}(h:Res p):p.stmts.length<=64/\p.lines.length<=16/\p.tables.length<=16:=by
 have hl:=h.li
 rw[limited_eq]at hl
 simp only[Bool.and_eq_true,few,Bool.not_eq_true',Bool.or_eq_false_iff,decide_eq_false_iff_not]at hl
 have hc:=(NF h).lim
 exact⟨by omega,hc.2.2⟩
structure wH(p:Pr)(T:Ins×Int)(i:Nat)(r:List Sm)(ins:Ins)(n:Int)(R:List (Int×Int)):Prop where
 res:Res p
 at_:p.stmts.drop i=r
 code:ins++(cmpL r i R n).1=T.1
 regs:(cmpL r i R n).2=T.2
 len:ins.length<=768 * i
 n0:0<=n
 nb:n<=513 * (i:Int)
 il:i<=64
variable {r : List Sm} {p : Pr} {ins : Ins} {i : Nat} {n : Int} {x : Sm} {tabs l : List (List Int)}
theorem UU(h:Res p):wH p (cmpL p.stmts 0 [] 0) 0 p.stmts [] 0 []:=⟨h,rfl,rfl,rfl,Nat.zero_le _,Int.le_refl _,by omega,by omega⟩
theorem wH.fin{T:Ins×Int}{R:List (Int×Int)}(h:wH p T i [] ins n R):ins=T.1/\n=T.2:=by
 have h1:=h.code
 have h2:=h.regs
 rw[cmpL]at h1 h2
 exact⟨by rw[<-h1,List.append_nil],h2⟩
theorem wH.sv{T:Ins×Int}{R:List (Int×Int)}(h:wH p T i (x::r) ins n R):SV p i x:=UL h.res (nK h.at_)
theorem wH.fit{T:Ins×Int}{R:List (Int×Int)}(h:wH p T i (x::r) ins n R) :
  (2 * ins.length+3 * Ref15.nodes x.x<=2000000/\0<=n/\n+Ref15.nodes x.x<=1000000)/\(ins++(aU R x.x n).1).length<=1000000/\0<=(aU R x.x n).2/\(aU R x.x n).2<=1000000:=by
 have sv:=h.sv
 have z:=UK (p:=p) (b:=i) (R:=R) x.x sv.v.wf n
 have:=sv.nd
 have:=h.len
 have:=h.n0
 have:=h.nb
 have:=h.il
 rw[List.length_append]
 refine⟨⟨by omega,by omega,by omega⟩,by omega,by omega,by omega⟩
theorem wH.nexti{T:Ins×Int}{R:List (Int×Int)}(h:wH p T i (x::r) ins n R):i<p.stmts.length/\i+1<=64:=by
 have h1:=kQ h.at_
 have h2:=(Ko h.res).1
 exact⟨h1,by omega⟩
theorem wH.let_{T:Ins×Int}{R:List (Int×Int)}(h:wH p T i (x::r) ins n R)(hk:(x.kind==1)=true) :
  wH p T (i+1) r (ins++(aU R x.x n).1++[(5,(aU R x.x n).2)]) ((aU R x.x n).2+1) (lL (i:Int) (aU R x.x n).2 R):=by
 have sv:=h.sv
 have z:=UK (p:=p) (b:=i) (R:=R) x.x sv.v.wf n
 have h1:=h.code
 have h2:=h.regs
 have:=sv.nd
 have:=h.len
 have:=h.n0
 have:=h.nb
 rw[cmpL,if_pos hk]at h1 h2
 refine⟨h.res,zB h.at_,?_,h2,?_,by omega,by rw[Int.natCast_add];omega,h.nexti.2⟩
 ·rw[<-h1];simp only[List.append_assoc]
 ·rw[List.length_append,List.length_append];simp only[List.length_cons,List.length_nil];omega
theorem wH.other{T:Ins×Int}{R:List (Int×Int)}{y:Int×Int}(h:wH p T i (x::r) ins n R)(hk:(x.kind==1)=false)(hy:(if x.kind==2 then(6,x.index)else if x.kind==3 then(7,x.index)else(22,0))=y) :
  wH p T (i+1) r (ins++(aU R x.x n).1++[y]) (aU R x.x n).2 R:=by
 have sv:=h.sv
 have z:=UK (p:=p) (b:=i) (R:=R) x.x sv.v.wf n
 have h1:=h.code
 have h2:=h.regs
 have:=sv.nd
 have:=h.len
 have:=h.n0
 have:=h.nb
 rw[cmpL,if_neg (by rw[hk];decide),hy]at h1
 rw[cmpL,if_neg (by rw[hk];decide)]at h2
 refine⟨h.res,zB h.at_,?_,h2,?_,by omega,by rw[Int.natCast_add];omega,h.nexti.2⟩
 ·rw[<-h1];simp only[List.append_assoc]
 ·rw[List.length_append,List.length_append];simp only[List.length_cons,List.length_nil];omega
theorem wH.set_{T:Ins×Int}{R:List (Int×Int)}(h:wH p T i (x::r) ins n R)(h1:(x.kind==1)=false)(h2:(x.kind==2)=true) :
  wH p T (i+1) r (ins++(aU R x.x n).1++[(6,x.index)]) (aU R x.x n).2 R:=h.other h1 (if_pos h2)
theorem wH.push_{T:Ins×Int}{R:List (Int×Int)}(h:wH p T i (x::r) ins n R)(h1:(x.kind==1)=false)(h2:(x.kind==2)=false)(h3:(x.kind==3)=true) :
  wH p T (i+1) r (ins++(aU R x.x n).1++[(7,x.index)]) (aU R x.x n).2 R:=h.other h1 (by rw[if_neg (by rw[h2];decide),if_pos h3])
theorem wH.out_{T:Ins×Int}{R:List (Int×Int)}(h:wH p T i (x::r) ins n R)(h1:(x.kind==1)=false)(h2:(x.kind==2)=false)(h3:(x.kind==3)=false) :
  wH p T (i+1) r (ins++(aU R x.x n).1++[(22,0)]) (aU R x.x n).2 R:=h.other h1 (by rw[if_neg (by rw[h2];decide),if_neg (by rw[h3];decide)])
theorem wH.no{T:Ins×Int}{R:List (Int×Int)}{P:Prop}(h:wH p T i (x::r) ins n R)(h1:(x.kind==1)=false)(h2:(x.kind==2)=false)(h3:(x.kind==3)=false)(h4:(x.kind==4)=false):P:=by
 rcases h.sv.kd with e |e |e |e
 ·rw[e]at h1;exact absurd h1 (by decide)
 ·rw[e]at h2;exact absurd h2 (by decide)
 ·rw[e]at h3;exact absurd h3 (by decide)
 ·rw[e]at h4;exact absurd h4 (by decide)
theorem z6p{k v w:Int}{R:List (Int×Int)}(h:lkA k (lL k v R)=some w):w=v:=by
 rw[wC,if_pos (by simp)]at h;exact(Option.some.inj h).symm
theorem z1y{k v:Int}{R:List (Int×Int)}{P:Prop}(h:lkA k (lL k v R)=none):P:=by
 rw[wC,if_pos (by simp)]at h;cases h
theorem z1z(h:tabs++([]:List Tb).map Tb.values=l):tabs=l:=by simpa using h
theorem Xn{r:List Tb}(h:tabs++r.map Tb.values=l):tabs.length<=l.length:=by rw[<-h];simp
theorem Xo{x:Tb}{r:List Tb}(h:tabs++(x::r).map Tb.values=l):tabs++[x.values]++r.map Tb.values=l:=by rw[<-h];simp
end Go.Fw.Lw
namespace Go.Fw.Lw
open Go.Fw
variable [ah]
abbrev W(n:Int):Int:=IntKind.i64.wrap n
def getI{α:Type}(l:List α)(i:Int):Option α:=if 0<=i then l[i.toNat]? else none
def rY(n lo hi:Int):Int:=bif decide (n<lo)then lo else bif decide (n>hi)then hi else n
def O9(a b:Int):Int:=
 bif (bif decide (b>0)then decide (a>W (4611686018427387904-b))else false)then 4611686018427387904 else
 bif (bif decide (b<0)then decide (a<W (-4611686018427387904-b))else false)then -4611686018427387904 else W (a+b)
def Xp(n:Int):Int:=bif decide (n<0)then W (0-n)else n
def z14(a b:Int):Int:=bif decide (Xp a<=W (Int.tdiv 4611686018427387904 (Xp b)))then W (Xp a * Xp b)else 4611686018427387904
def Hy(a b:Int):Int:=
 bif (bif a==0 then true else b==0)then 0 else
 bif !(decide (a<0)==decide (b<0))then W (0-z14 a b)else z14 a b
def Xq(n d:Int):Int:=bif decide (W (W (n.tdiv d) * d)>n)then W (W (n.tdiv d)-1)else W (n.tdiv d)
def UV(v:Int):Int:=mm2 true (-2147483648) (mm2 false v 2147483647)
def PT(c:Mac.Cd)(inp sid:List Int)(s:Mac.Sta)(op a v:Int):Option Int:=
 if op==8 then getI inp (rY v 0 c.latency)
 else if op==9 then getI sid (rY v 0 c.latency)
 else if op==10 then(match getI s.lines a,getI c.lines a with
  |some l,some b=>getI l (rY v 0 (W (b.size-1)))
  |_,_=>none)
 else if op==11 then(match getI c.tables a with
  |some t=>getI t (rY v 0 (W ((t.length:Int)-1)))
  |none=>none)
 else if op==12 then some (UV v)
 else if op==15 then some (Xp v)
 else if op==16 then some (W (0-v))
 else if a==0 then none else some (Xq v a)
def Xr(op a b:Int):Option Int:=
 if op==13 then some (mm2 false a b)
 else if op==14 then some (mm2 true a b)
 else if op==17 then some (O9 a b)
 else if op==18 then some (O9 a (W (0-b)))
 else if decide (-4611686018427387904<=b)&&decide (b<=4611686018427387904)then some (Hy a b)else none
structure PQ where
 stack:List Int
 regs:List Int
 values:List Int
 pushed:List Bool
 last:List Int
 out:Int
instance:Inhabited PQ:=⟨⟨[],[],[],[],[],0⟩⟩
abbrev tk(x:Int×Int):Int:=(Mac.takesR x.1).1
abbrev ps(x:Int×Int):Int:=(Mac.takesR x.1).2.1
def Vf(c:Mac.Cd)(inp sid:List Int)(s:Mac.Sta)(x:Int×Int)(l:List Int):Option Int:=
 if tk x==1 then(match l with
  |v::_=>if ps x==1 then PT c inp sid s x.1 x.2 v else some v
  | []=>none)
 else if tk x==2 then(match l with
  |a::b::_=>Xr x.1 a b
  |_=>none)
 else if tk x==4 then(match l with
  |a::b::c::d::_=>some (bif decide (a<b)then c else d)
  |_=>none)
 else some 0
def putO(par:List Int)(x:Int×Int)(v:Int)(q:PQ):Option (Int×PQ):=
 if x.1==1 then some (x.2,q)
 else if x.1==2 then(getI par x.2).map λw=>(w,q)
 else if x.1==3 then(getI q.values x.2).map λw=>(w,q)
 else if x.1==4 then(getI q.regs x.2).map λw=>(w,q)
 else if x.1==5 then(if decide (0<=x.2)&&decide (x.2<q.regs.length)then some (v,{ q with regs:=q.regs.set x.2.toNat v })else none)
 else if x.1==6 then(if decide (0<=x.2)&&decide (x.2<q.values.length)then some (v,{ q with values:=q.values.set x.2.toNat v })else none)
 else if x.1==7 then(if decide (0<=x.2)&&(decide (x.2<q.pushed.length)&&decide (x.2<q.last.length))then some (v,{ q with pushed:=q.pushed.set x.2.toNat true,last:=q.last.set x.2.toNat v })else none)
 else if x.1==22 then some (v,{ q with out:=v })
 else some (v,q)
def restN(x:Int×Int)(q:PQ):Nat:=q.stack.length-(tk x).toNat
def z15(c:Mac.Cd)(par inp sid:List Int)(s:Mac.Sta)(x:Int×Int)(q:PQ):Option PQ:=
 if decide (tk x<=q.stack.length)&&decide (q.stack.length<=1000000)then
  match Vf c inp sid s x (q.stack.drop (restN x q))with
  |none=>none
  |some v=>match putO par x v { q with stack:=q.stack.take (restN x q) } with
   |none=>none
   |some (w,q')=>some (if ps x==1 then { q' with stack:=q'.stack++[rY w (-4611686018427387904) 4611686018427387904] } else q')
 else none
def Xt(c:Mac.Cd)(par inp sid:List Int)(s:Mac.Sta):List (Int×Int)->PQ->Option PQ
 | [],q=>some q
 |x::r,q=>match z15 c par inp sid s x q with
  |none=>none
  |some q'=>Xt c par inp sid s r q'
def Kq(q:PQ)(i:Nat)(l:List Int):Option (List Int):=
 match q.pushed[i]? with
 |none=>none
 |some false=>some l
 |some true=>match q.last[i]? with
  |none=>none
  |some v=>if l.length=0 then none else some (v::l.take (l.length-1))
def uI(s:Mac.Sta)(q:PQ):List Ln->Nat->Option (List (List Int))
 | [],_=>some []
 |_::r,i=>match s.lines[i]? with
  |none=>none
  |some l=>match Kq q i l with
   |none=>none
   |some m=>match uI s q r (i+1)with
    |none=>none
    |some k=>some (m::k)
def CU(c:Mac.Cd)(s:Mac.Sta):PQ:=⟨[],List.replicate c.regs.toNat 0,s.values,List.replicate c.lines.length false,List.replicate c.lines.length 0,0⟩
def EH(c:Mac.Cd)(par inp sid:List Int)(s:Mac.Sta):Option (Int×Mac.Sta):=
 match Xt c par inp sid s c.instrs (CU c s)with
 |none=>none
 |some q=>match uI s q c.lines 0 with
  |none=>none
  |some l=>some (q.out,⟨q.values,l⟩)
theorem mi{α β:Type}{l:List α}{f:α->β}{i:Int}{v:α}(h:getI l i=some v):0<=i/\(l.map f)[i.toNat]? = some (f v):=by
 unfold getI at h
 split at h
 ·rename_i h0;exact⟨h0,by rw[List.getElem?_map,h];rfl⟩
 ·cases h
section
variable {c : Mac.Cd} {inp sid : List Int} {s : Mac.Sta} {op a v r : Int} (hO : PT c inp sid s op a v = some r)
include hO
theorem z9g(h:(op==8)=true):getI inp (rY v 0 c.latency)=some r:=by rw[PT,if_pos h]at hO;exact hO
theorem z9h(h8:(op==8)=false)(h:(op==9)=true):getI sid (rY v 0 c.latency)=some r:=by rw[PT,if_neg (by rw[h8];decide),if_pos h]at hO;exact hO
theorem z6q(h8:(op==8)=false)(h9:(op==9)=false)(h:(op==10)=true):∃l b,getI s.lines a=some l/\getI c.lines a=some b/\getI l (rY v 0 (W (b.size-1)))=some r:=by
 rw[PT,if_neg (by rw[h8];decide),if_neg (by rw[h9];decide),if_pos h]at hO
 cases h1:getI s.lines a with
 |none=>rw[h1]at hO;cases hO
 |some l=>cases h2:getI c.lines a with
  |none=>rw[h1,h2]at hO;cases hO
  |some b=>rw[h1,h2]at hO;exact⟨l,b,rfl,rfl,hO⟩
theorem z6r(h8:(op==8)=false)(h9:(op==9)=false)(h10:(op==10)=false)(h:(op==11)=true):∃t,getI c.tables a=some t/\getI t (rY v 0 (W ((t.length:Int)-1)))=some r:=by
 rw[PT,if_neg (by rw[h8];decide),if_neg (by rw[h9];decide),if_neg (by rw[h10];decide),if_pos h]at hO
 cases h1:getI c.tables a with
 |none=>rw[h1]at hO;cases hO
 |some t=>rw[h1]at hO;exact⟨t,rfl,hO⟩
theorem z6s(h8:(op==8)=false)(h9:(op==9)=false)(h10:(op==10)=false)(h11:(op==11)=false)(h:(op==12)=true):UV v=r:=by
 rw[PT,if_neg (by rw[h8];decide),if_neg (by rw[h9];decide),if_neg (by rw[h10];decide),if_neg (by rw[h11];decide),if_pos h]at hO;exact Option.some.inj hO
theorem z6t(h8:(op==8)=false)(h9:(op==9)=false)(h10:(op==10)=false)(h11:(op==11)=false)(h12:(op==12)=false)(h:(op==15)=true):Xp v=r:=by
 rw[PT,if_neg (by rw[h8];decide),if_neg (by rw[h9];decide),if_neg (by rw[h10];decide),if_neg (by rw[h11];decide),if_neg (by rw[h12];decide),if_pos h]at hO;exact Option.some.inj hO
theorem z6u(h8:(op==8)=false)(h9:(op==9)=false)(h10:(op==10)=false)(h11:(op==11)=false)(h12:(op==12)=false)(h15:(op==15)=false)(h:(op==16)=true):W (0-v)=r:=by
 rw[PT,if_neg (by rw[h8];decide),if_neg (by rw[h9];decide),if_neg (by rw[h10];decide),if_neg (by rw[h11];decide),if_neg (by rw[h12];decide),if_neg (by rw[h15];decide),if_pos h]at hO;exact Option.some.inj hO
theorem YV(h8:(op==8)=false)(h9:(op==9)=false)(h10:(op==10)=false)(h11:(op==11)=false)(h12:(op==12)=false)(h15:(op==15)=false)(h:(op==16)=false):a≠0/\Xq v a=r:=by
 rw[PT,if_neg (by rw[h8];decide),if_neg (by rw[h9];decide),if_neg (by rw[h10];decide),if_neg (by rw[h11];decide),if_neg (by rw[h12];decide),if_neg (by rw[h15];decide),if_neg (by rw[h];decide)]at hO
 split at hO
 ·cases hO
 ·rename_i h0;exact⟨by simpa using h0,Option.some.inj hO⟩
end
section
variable {op a b r : Int} (hO : Xr op a b = some r)
include hO
theorem z6v(h:(op==13)=true):mm2 false a b=r:=by rw[Xr,if_pos h]at hO;exact Option.some.inj hO
theorem z6w(h13:(op==13)=false)(h:(op==14)=true):mm2 true a b=r:=by rw[Xr,if_neg (by rw[h13];decide),if_pos h]at hO;exact Option.some.inj hO
theorem z6x(h13:(op==13)=false)(h14:(op==14)=false)(h:(op==17)=true):O9 a b=r:=by rw[Xr,if_neg (by rw[h13];decide),if_neg (by rw[h14];decide),if_pos h]at hO;exact Option.some.inj hO
theorem z6y(h13:(op==13)=false)(h14:(op==14)=false)(h17:(op==17)=false)(h:(op==18)=true):O9 a (W (0-b))=r:=by rw[Xr,if_neg (by rw[h13];decide),if_neg (by rw[h14];decide),if_neg (by rw[h17];decide),if_pos h]at hO;exact Option.some.inj hO
theorem YW(h13:(op==13)=false)(h14:(op==14)=false)(h17:(op==17)=false)(h:(op==18)=false):(-4611686018427387904<=b/\b<=4611686018427387904)/\Hy a b=r:=by
 rw[Xr,if_neg (by rw[h13];decide),if_neg (by rw[h14];decide),if_neg (by rw[h17];decide),if_neg (by rw[h];decide)]at hO
 split at hO
 ·rename_i h0;simp only[Bool.and_eq_true,decide_eq_true_eq]at h0;exact⟨h0,Option.some.inj hO⟩
 ·cases hO
end
theorem z6z{a b:Int}(h:(bif a==0 then true else b==0)=false):b≠0:=by
 intro e;subst e
 revert h;cases (a==0)<;>simp
theorem z7a{b:Int}(hb:-4611686018427387904<=b/\b<=4611686018427387904)(h:decide (b<0)=true):IntKind.i64.wrap (0-b)≠0:=by
 have:=of_decide_eq_true h
 rw[bJ (by omega) (by omega)];omega
section
variable (c : Mac.Cd) (par inp sid : List Int) (s : Mac.Sta)
def Ad(x:Int×Int)(q:PQ):Int:=(Vf c inp sid s x (q.stack.drop (restN x q))).getD 0
def PU(x:Int×Int)(q:PQ):PQ:={ q with stack:=q.stack.take (restN x q) }
def yj(x:Int×Int)(q:PQ):Int×PQ:=(putO par x (Ad c inp sid s x q) (PU x q)).getD default
def UW(x:Int×Int)(q:PQ):PQ:={ (yj c par inp sid s x q).2 with stack:=if ps x==1 then q.stack.take (restN x q)++[rY (yj c par inp sid s x q).1 (-4611686018427387904) 4611686018427387904]else q.stack.take (restN x q) }
end
theorem Hz{par:List Int}{x:Int×Int}{v w:Int}{q q':PQ}(h:putO par x v q=some (w,q')):q'.stack=q.stack/\q'.regs.length=q.regs.length/\q'.values.length=q.values.length/\q'.pushed.length=q.pushed.length/\q'.last.length=q.last.length:=by
 unfold putO at h
 repeat' split at h
 all_goals first |(cases h;done) |skip
 all_goals first
  |(obtain⟨_,rfl⟩:=Prod.mk.inj (Option.some.inj h);exact⟨rfl,by simp,by simp,by simp,by simp⟩)
  |(rw[Option.map_eq_some_iff]at h;obtain⟨_,_,h⟩:=h;obtain⟨_,rfl⟩:=Prod.mk.inj h;exact⟨rfl,rfl,rfl,rfl,rfl⟩)
structure PI(c:Mac.Cd)(par inp sid:List Int)(s:Mac.Sta)(F:PQ)(r:List (Int×Int))(row:List Int)(m:Nat)(q:PQ):Prop where
 run:Xt c par inp sid s r q=some F
 st:q.stack=row.take m
 le:m<=row.length
 lr:q.regs.length=c.regs.toNat
 lv:q.values.length=s.values.length
 lp:q.pushed.length=c.lines.length
 ll:q.last.length=c.lines.length
section
variable {c : Mac.Cd} {par inp sid : List Int} {s : Mac.Sta} {F : PQ} {x : Int × Int} {r : List (Int × Int)} {row : List Int} {m : Nat} {q : PQ}
theorem PI.sl(h:PI c par inp sid s F r row m q):q.stack.length=m:=by rw[h.st,List.length_take];have:=h.le;omega
def T4(e:Int×Int×Bool):Prop:=0<=e.1/\e.1<=4
theorem T4.bif{b:Bool}{x y:Int×Int×Bool}(hx:T4 x)(hy:T4 y):T4 (bif b then x else y):=by cases b<;>assumption
theorem T4.of{t u:Int}{k:Bool}(h:(decide (0<=t)&&decide (t<=4))=true):T4 (t,u,k):=by
 simp only[Bool.and_eq_true,decide_eq_true_eq]at h;exact h
theorem z7b(x:Int×Int):0<=tk x/\tk x<=4:=by
 have:T4 (Mac.takesR x.1):=by
  unfold Mac.takesR
  repeat' (first |exact T4.of rfl |refine T4.bif ?_ ?_)
 exact this
theorem PI.step(h:PI c par inp sid s F (x::r) row m q):tk x<=m/\m<=1000000/\Vf c inp sid s x (q.stack.drop (restN x q))=some (Ad c inp sid s x q)/\putO par x (Ad c inp sid s x q) (PU x q)=some (yj c par inp sid s x q)/\Xt c par inp sid s r (UW c par inp sid s x q)=some F:=by
 have hr:=h.run
 have hsl:=h.sl
 rw[Xt]at hr
 cases hs:z15 c par inp sid s x q with
 |none=>rw[hs]at hr;cases hr
 |some q'=>
  rw[hs]at hr
  rw[z15]at hs
  split at hs
  ·rename_i hc
   simp only[Bool.and_eq_true,decide_eq_true_eq,hsl]at hc
   cases ha:Vf c inp sid s x (q.stack.drop (restN x q))with
   |none=>rw[ha]at hs;cases hs
   |some v=>
    rw[ha]at hs
    dsimp only at hs
    have ev:Ad c inp sid s x q=v:=by rw[Ad,ha];rfl
    cases hp:putO par x v { q with stack:=q.stack.take (restN x q) } with
    |none=>rw[hp]at hs;cases hs
    |some w=>
     obtain⟨w,q1⟩:=w
     rw[hp]at hs
     have ep:yj c par inp sid s x q=(w,q1):=by rw[yj,ev];show(putO par x v { q with stack:=q.stack.take (restN x q) }).getD default=_;rw[hp];rfl
     refine⟨hc.1,by have:=hc.2;omega,by rw[ev],by rw[ev,ep];exact hp,?_⟩
     have hst:=(Hz hp).1
     have e:UW c par inp sid s x q=q':=by
      have hs:=Option.some.inj hs
      rw[<-hs,UW,ep]
      by_cases h1:(ps x==1)=true
      ·simp only[h1,if_true,hst]
      ·simp only[h1,if_false,Bool.false_eq_true]
       cases q1
       simp only at hst ⊢
       rw[hst]
     rw[e];exact hr
  ·cases hs
theorem PI.rest(h:PI c par inp sid s F (x::r) row m q):restN x q=m-(tk x).toNat/\restN x q<=m/\W ((m:Int)-tk x)=(restN x q:Nat)/\(0<=W ((m:Int)-tk x)/\W ((m:Int)-tk x)<=m):=by
 have hs:=h.step
 have ht:=z7b x
 have e:restN x q=m-(tk x).toNat:=by rw[restN,h.sl]
 have ew:W ((m:Int)-tk x)=(restN x q:Nat):=by rw[W,bJ (by omega) (by omega),e];omega
 refine⟨e,by omega,ew,?_,?_⟩<;>rw[ew]<;>omega
def YX(x:Int×Int)(row:List Int)(k:Nat)(w:Int):List Int:=if ps x==1 then row.take k++[rY w (-4611686018427387904) 4611686018427387904]else row
def mN(x:Int×Int)(k:Nat):Nat:=if ps x==1 then k+1 else k
def Xu(x:Int×Int)(v:Nat):Nat:=if ps x==1 then v+1 else v
theorem PI.next(h:PI c par inp sid s F (x::r) row m q):PI c par inp sid s F r (YX x row (restN x q) (yj c par inp sid s x q).1) (mN x (restN x q)) (UW c par inp sid s x q):=by
 obtain⟨h1,h2,h3,h4,h5⟩:=h.step
 have hp:=Hz (show putO par x (Ad c inp sid s x q) (PU x q)=some ((yj c par inp sid s x q).1,(yj c par inp sid s x q).2)from h4)
 have hr:=h.rest
 have hle:=h.le
 have e:q.stack.take (restN x q)=row.take (restN x q):=by rw[h.st,List.take_take,Nat.min_eq_left hr.2.1]
 refine⟨h5,?_,?_,hp.2.1.trans h.lr,hp.2.2.1.trans h.lv,hp.2.2.2.1.trans h.lp,hp.2.2.2.2.trans h.ll⟩
 ·show(if ps x==1 then _ else _)=_
  unfold YX mN
  split
  ·rw[e,List.take_of_length_le (l:=row.take (restN x q)++_)]
   simp only[List.length_append,List.length_take,List.length_cons,List.length_nil];omega
  ·exact e
 ·unfold YX mN
  split
  ·simp only[List.length_append,List.length_take,List.length_cons,List.length_nil];omega
  ·omega
theorem z9i{i v k:Nat}(h:(ps x==1)=true):AV.own i (v+1) 1 0 (k+1)=AV.own i (Xu x v) 1 0 (mN x k):=by rw[Xu,mN,if_pos h,if_pos h]
theorem z9j{i v k:Nat}(h:(ps x==1)=false):AV.own i v 1 0 k=AV.own i (Xu x v) 1 0 (mN x k):=by rw[Xu,mN,if_neg (by rw[h];decide),if_neg (by rw[h];decide)]
theorem z9k{v k:Nat}{w:Int}(h:(ps x==1)=true):Block.arr (v+1) 1 ((row.map eU).take k++[[D.i (rY w (-4611686018427387904) 4611686018427387904)]])=Block.arr (Xu x v) 1 ((YX x row k w).map eU):=by
 rw[Xu,YX,if_pos h,if_pos h,List.map_append,List.map_take];rfl
theorem z9l{v k:Nat}{w:Int}(h:(ps x==1)=false):Block.arr v 1 (row.map eU)=Block.arr (Xu x v) 1 ((YX x row k w).map eU):=by
 rw[Xu,YX,if_neg (by rw[h];decide),if_neg (by rw[h];decide)]
theorem PI.args(h:PI c par inp sid s F (x::r) row m q):([]:List (List D))++((row.map eU).drop (0+(W ((m:Int)-tk x)).toNat)).take (m-(W ((m:Int)-tk x)).toNat)=(q.stack.drop (restN x q)).map eU:=by
 have hr:=h.rest
 rw[hr.2.2.1,Int.toNat_natCast,Nat.zero_add,List.nil_append,h.st,List.drop_take,List.map_take,List.map_drop]
section
variable (h : PI c par inp sid s F (x :: r) row m q)
include h
theorem PI.a1(h1:(tk x==1)=true):(0:Int)<=0/\((q.stack.drop (restN x q)).map eU)[(0:Int).toNat]? = some (eU ((q.stack.drop (restN x q)).getD 0 0)):=by
 have ha:=h.step.2.2.1
 unfold Vf at ha
 rw[if_pos h1]at ha
 refine⟨Int.le_refl 0,?_⟩
 cases hd:q.stack.drop (restN x q)with
 |nil=>rw[hd]at ha;cases ha
 |cons v t=>rfl
theorem PI.a1o(h1:(tk x==1)=true)(h2:(ps x==1)=true):PT c inp sid s x.1 x.2 ((q.stack.drop (restN x q)).getD 0 0)=some (Ad c inp sid s x q):=by
 have ha:=h.step.2.2.1
 unfold Vf at ha
 rw[if_pos h1]at ha
 cases hd:q.stack.drop (restN x q)with
 |nil=>rw[hd]at ha;cases ha
 |cons v t=>rw[hd]at ha;simp only[h2,if_true]at ha;exact ha
theorem PI.a1v(h1:(tk x==1)=true)(h2:(ps x==1)=false):(q.stack.drop (restN x q)).getD 0 0=Ad c inp sid s x q:=by
 have ha:=h.step.2.2.1
 unfold Vf at ha
 rw[if_pos h1]at ha
 cases hd:q.stack.drop (restN x q)with
 |nil=>rw[hd]at ha;cases ha
 |cons v t=>rw[hd]at ha;simp only[h2,Bool.false_eq_true,if_false]at ha;exact Option.some.inj ha
theorem PI.a2(h1:(tk x==1)=false)(h2:(tk x==2)=true):((0:Int)<=0/\((q.stack.drop (restN x q)).map eU)[(0:Int).toNat]? = some (eU ((q.stack.drop (restN x q)).getD 0 0)))/\((0:Int)<=1/\((q.stack.drop (restN x q)).map eU)[(1:Int).toNat]? = some (eU ((q.stack.drop (restN x q)).getD 1 0))) /\
  Xr x.1 ((q.stack.drop (restN x q)).getD 0 0) ((q.stack.drop (restN x q)).getD 1 0)=some (Ad c inp sid s x q):=by
 have ha:=h.step.2.2.1
 unfold Vf at ha
 rw[if_neg (by rw[h1];decide),if_pos h2]at ha
 match hd:q.stack.drop (restN x q)with
 | []=>rw[hd]at ha;cases ha
 | [v]=>rw[hd]at ha;cases ha
 |a::b::t=>rw[hd]at ha;exact⟨⟨Int.le_refl 0,rfl⟩,⟨by decide,rfl⟩,ha⟩
theorem PI.a4(h1:(tk x==1)=false)(h2:(tk x==2)=false)(h4:(tk x==4)=true):(((0:Int)<=0/\((q.stack.drop (restN x q)).map eU)[(0:Int).toNat]? = some (eU ((q.stack.drop (restN x q)).getD 0 0)))/\((0:Int)<=1/\((q.stack.drop (restN x q)).map eU)[(1:Int).toNat]? = some (eU ((q.stack.drop (restN x q)).getD 1 0))) /\
  ((0:Int)<=2/\((q.stack.drop (restN x q)).map eU)[(2:Int).toNat]? = some (eU ((q.stack.drop (restN x q)).getD 2 0)))/\((0:Int)<=3/\((q.stack.drop (restN x q)).map eU)[(3:Int).toNat]? = some (eU ((q.stack.drop (restN x q)).getD 3 0)))) /\
  (bif decide ((q.stack.drop (restN x q)).getD 0 0<(q.stack.drop (restN x q)).getD 1 0)then(q.stack.drop (restN x q)).getD 2 0 else(q.stack.drop (restN x q)).getD 3 0)=Ad c inp sid s x q:=by
 have ha:=h.step.2.2.1
 unfold Vf at ha
 rw[if_neg (by rw[h1];decide),if_neg (by rw[h2];decide),if_pos h4]at ha
 match hd:q.stack.drop (restN x q)with
 | []=>rw[hd]at ha;cases ha
 | [v]=>rw[hd]at ha;cases ha
 | [v,_]=>rw[hd]at ha;cases ha
 | [v,_,_]=>rw[hd]at ha;cases ha
 |a::b::d::e::t=>rw[hd]at ha;exact⟨⟨⟨Int.le_refl 0,rfl⟩,⟨by decide,rfl⟩,⟨by decide,rfl⟩,⟨by decide,rfl⟩⟩,Option.some.inj ha⟩
theorem PI.a4t(h1:(tk x==1)=false)(h2:(tk x==2)=false)(h4:(tk x==4)=true)(hl:decide ((q.stack.drop (restN x q)).getD 0 0<(q.stack.drop (restN x q)).getD 1 0)=true):(q.stack.drop (restN x q)).getD 2 0=Ad c inp sid s x q:=by
 have:=(h.a4 h1 h2 h4).2;rw[hl]at this;exact this
theorem PI.a4f(h1:(tk x==1)=false)(h2:(tk x==2)=false)(h4:(tk x==4)=true)(hl:decide ((q.stack.drop (restN x q)).getD 0 0<(q.stack.drop (restN x q)).getD 1 0)=false):(q.stack.drop (restN x q)).getD 3 0=Ad c inp sid s x q:=by
 have:=(h.a4 h1 h2 h4).2;rw[hl]at this;exact this
theorem PI.a0(h1:(tk x==1)=false)(h2:(tk x==2)=false)(h4:(tk x==4)=false):0=Ad c inp sid s x q:=by
 have ha:=h.step.2.2.1
 unfold Vf at ha
 rw[if_neg (by rw[h1];decide),if_neg (by rw[h2];decide),if_neg (by rw[h4];decide)]at ha
 exact Option.some.inj ha
theorem PI.pe1(h1:(x.1==1)=true):yj c par inp sid s x q=(x.2,PU x q):=by
 have hp:=h.step.2.2.2.1
 unfold putO at hp
 rw[if_pos h1]at hp
 exact(Option.some.inj hp).symm
theorem PI.pe2(h1:(x.1==1)=false)(h2:(x.1==2)=true):yj c par inp sid s x q=(par.getD x.2.toNat 0,PU x q)/\(0<=x.2/\(par.map eU)[x.2.toNat]? = some (eU (par.getD x.2.toNat 0)))/\x.2<(par.length:Nat):=by
 have hp:=h.step.2.2.2.1
 unfold putO at hp
 rw[if_neg (by rw[h1];decide),if_pos h2]at hp
 rw[Option.map_eq_some_iff]at hp
 obtain⟨w,h0,hp⟩:=hp
 have h0:getI par x.2=some w:=h0
 have h00:=h0
 unfold getI at h0
 split at h0
 ·rename_i hx
  have e:par.getD x.2.toNat 0=w:=by rw[List.getD_eq_getElem?_getD,h0];rfl
  rw[e,<-hp]
  have:=(List.getElem?_eq_some_iff.1 h0).1
  exact⟨rfl,mi h00,by omega⟩
 ·cases h0
theorem PI.pe3(h1:(x.1==1)=false)(h2:(x.1==2)=false)(h3:(x.1==3)=true):yj c par inp sid s x q=(q.values.getD x.2.toNat 0,PU x q)/\(0<=x.2/\(q.values.map eU)[x.2.toNat]? = some (eU (q.values.getD x.2.toNat 0)))/\x.2<(q.values.length:Nat):=by
 have hp:=h.step.2.2.2.1
 unfold putO at hp
 rw[if_neg (by rw[h1];decide),if_neg (by rw[h2];decide),if_pos h3]at hp
 rw[Option.map_eq_some_iff]at hp
 obtain⟨w,h0,hp⟩:=hp
 have h0:getI q.values x.2=some w:=h0
 have h00:=h0
 unfold getI at h0
 split at h0
 ·rename_i hx
  have e:q.values.getD x.2.toNat 0=w:=by rw[List.getD_eq_getElem?_getD,h0];rfl
  rw[e,<-hp]
  have:=(List.getElem?_eq_some_iff.1 h0).1
  exact⟨rfl,mi h00,by omega⟩
 ·cases h0
theorem PI.pe4(h1:(x.1==1)=false)(h2:(x.1==2)=false)(h3:(x.1==3)=false)(h4:(x.1==4)=true):yj c par inp sid s x q=(q.regs.getD x.2.toNat 0,PU x q)/\(0<=x.2/\(q.regs.map eU)[x.2.toNat]? = some (eU (q.regs.getD x.2.toNat 0)))/\x.2<(q.regs.length:Nat):=by
 have hp:=h.step.2.2.2.1
 unfold putO at hp
 rw[if_neg (by rw[h1];decide),if_neg (by rw[h2];decide),if_neg (by rw[h3];decide),if_pos h4]at hp
 rw[Option.map_eq_some_iff]at hp
 obtain⟨w,h0,hp⟩:=hp
 have h0:getI q.regs x.2=some w:=h0
 have h00:=h0
 unfold getI at h0
 split at h0
 ·rename_i hx
  have e:q.regs.getD x.2.toNat 0=w:=by rw[List.getD_eq_getElem?_getD,h0];rfl
  rw[e,<-hp]
  have:=(List.getElem?_eq_some_iff.1 h0).1
  exact⟨rfl,mi h00,by omega⟩
 ·cases h0
theorem PI.pe5(h1:(x.1==1)=false)(h2:(x.1==2)=false)(h3:(x.1==3)=false)(h4:(x.1==4)=false)(h5:(x.1==5)=true):yj c par inp sid s x q=(Ad c inp sid s x q,{ PU x q with regs:=q.regs.set x.2.toNat (Ad c inp sid s x q) })/\0<=x.2/\x.2<(q.regs.length:Nat):=by
 have hp:=h.step.2.2.2.1
 unfold putO at hp
 rw[if_neg (by rw[h1];decide),if_neg (by rw[h2];decide),if_neg (by rw[h3];decide),if_neg (by rw[h4];decide),if_pos h5]at hp
 split at hp
 ·rename_i hc
  simp only[Bool.and_eq_true,decide_eq_true_eq]at hc
  exact⟨(Option.some.inj hp).symm,hc.1,hc.2⟩
 ·cases hp
theorem PI.pe6(h1:(x.1==1)=false)(h2:(x.1==2)=false)(h3:(x.1==3)=false)(h4:(x.1==4)=false)(h5:(x.1==5)=false)(h6:(x.1==6)=true):yj c par inp sid s x q=(Ad c inp sid s x q,{ PU x q with values:=q.values.set x.2.toNat (Ad c inp sid s x q) })/\0<=x.2/\x.2<(q.values.length:Nat):=by
 have hp:=h.step.2.2.2.1
 unfold putO at hp
 rw[if_neg (by rw[h1];decide),if_neg (by rw[h2];decide),if_neg (by rw[h3];decide),if_neg (by rw[h4];decide),if_neg (by rw[h5];decide),if_pos h6]at hp
 split at hp
 ·rename_i hc
  simp only[Bool.and_eq_true,decide_eq_true_eq]at hc
  exact⟨(Option.some.inj hp).symm,hc.1,hc.2⟩
 ·cases hp
theorem PI.pe7(h1:(x.1==1)=false)(h2:(x.1==2)=false)(h3:(x.1==3)=false)(h4:(x.1==4)=false)(h5:(x.1==5)=false)(h6:(x.1==6)=false)(h7:(x.1==7)=true):yj c par inp sid s x q=(Ad c inp sid s x q,{ PU x q with pushed:=q.pushed.set x.2.toNat true,last:=q.last.set x.2.toNat (Ad c inp sid s x q) })/\0<=x.2/\x.2<(q.pushed.length:Nat)/\x.2<(q.last.length:Nat):=by
 have hp:=h.step.2.2.2.1
 unfold putO at hp
 rw[if_neg (by rw[h1];decide),if_neg (by rw[h2];decide),if_neg (by rw[h3];decide),if_neg (by rw[h4];decide),if_neg (by rw[h5];decide),if_neg (by rw[h6];decide),if_pos h7]at hp
 split at hp
 ·rename_i hc
  simp only[Bool.and_eq_true,decide_eq_true_eq]at hc
  exact⟨(Option.some.inj hp).symm,hc.1,hc.2.1,hc.2.2⟩
 ·cases hp
theorem PI.pe22(h1:(x.1==1)=false)(h2:(x.1==2)=false)(h3:(x.1==3)=false)(h4:(x.1==4)=false)(h5:(x.1==5)=false)(h6:(x.1==6)=false)(h7:(x.1==7)=false)(h22:(x.1==22)=true):yj c par inp sid s x q=(Ad c inp sid s x q,{ PU x q with out:=Ad c inp sid s x q }):=by
 have hp:=h.step.2.2.2.1
 unfold putO at hp
 rw[if_neg (by rw[h1];decide),if_neg (by rw[h2];decide),if_neg (by rw[h3];decide),if_neg (by rw[h4];decide),if_neg (by rw[h5];decide),if_neg (by rw[h6];decide),if_neg (by rw[h7];decide),if_pos h22]at hp
 exact(Option.some.inj hp).symm
theorem PI.pe0(h1:(x.1==1)=false)(h2:(x.1==2)=false)(h3:(x.1==3)=false)(h4:(x.1==4)=false)(h5:(x.1==5)=false)(h6:(x.1==6)=false)(h7:(x.1==7)=false)(h22:(x.1==22)=false):yj c par inp sid s x q=(Ad c inp sid s x q,PU x q):=by
 have hp:=h.step.2.2.2.1
 unfold putO at hp
 rw[if_neg (by rw[h1];decide),if_neg (by rw[h2];decide),if_neg (by rw[h3];decide),if_neg (by rw[h4];decide),if_neg (by rw[h5];decide),if_neg (by rw[h6];decide),if_neg (by rw[h7];decide),if_neg (by rw[h22];decide)]at hp
 exact(Option.some.inj hp).symm
end
end
theorem CV{α:Type}{l:List α}{i:Int}{d:α}{f:α->List D}(h0:0<=i)(h:i<(l.length:Nat)):(l.map f)[0+i.toNat]? = some (f (l.getD i.toNat d)):=by
 have:i.toNat<l.length:=by omega
 rw[Nat.zero_add,List.getElem?_map,List.getD_eq_getElem?_getD,List.getElem?_eq_getElem this];rfl
theorem lM{l:List Bool}{v:Bool}{k i:Nat}:Block.arr k 1 ((l.map Mac.boolC).set (0+i) [D.b v])=Block.arr k 1 ((l.set i v).map Mac.boolC):=by
 rw[Nat.zero_add,List.map_set]
theorem z16(n:Nat)(v:Int):Block.arr 0 1 (List.replicate n [D.i v])=Block.arr 0 1 ((List.replicate n v).map eU):=by rw[List.map_replicate]
theorem PI.own_cut{c:Mac.Cd}{par inp sid:List Int}{s:Mac.Sta}{F:PQ}{x:Int×Int}{r:List (Int×Int)}{row:List Int}{m:Nat}{q:PQ}(h:PI c par inp sid s F (x::r) row m q){i v:Nat}:AV.own i v 1 0 (W ((m:Int)-tk x)).toNat=AV.own i v 1 0 (restN x q):=by rw[h.rest.2.2.1,Int.toNat_natCast]
theorem PI.len1{c:Mac.Cd}{par inp sid:List Int}{s:Mac.Sta}{F:PQ}{x:Int×Int}{r:List (Int×Int)}{row:List Int}{m:Nat}{q:PQ}(h:PI c par inp sid s F (x::r) row m q):0+(W ((m:Int)-tk x)).toNat+(m-(W ((m:Int)-tk x)).toNat)<=(row.map eU).length:=by
 have h1:=h.rest.2.2.2;have h2:=h.le
 rw[List.length_map];omega
theorem PI.len2{c:Mac.Cd}{par inp sid:List Int}{s:Mac.Sta}{F:PQ}{x:Int×Int}{r:List (Int×Int)}{row:List Int}{m:Nat}{q:PQ}(h:PI c par inp sid s F (x::r) row m q):(((row.map eU).drop (0+(W ((m:Int)-tk x)).toNat)).take (m-(W ((m:Int)-tk x)).toNat)).length<=1073741824:=by
 have h1:=h.step.2.1
 rw[List.length_take];omega
theorem Xv{α:Type}(l:List α)(f:α->List D)(v:Int):Block.arr 0 1 (List.replicate (((l.map f).length:Nat):Int).toNat [D.i v])=Block.arr 0 1 ((List.replicate l.length v).map eU):=by rw[List.map_replicate,Int.toNat_natCast,List.length_map]
theorem UX{α:Type}(l:List α)(f:α->List D)(v:Bool):Block.arr 0 1 (List.replicate (((l.map f).length:Nat):Int).toNat [D.b v])=Block.arr 0 1 ((List.replicate l.length v).map Mac.boolC):=by rw[List.map_replicate,Int.toNat_natCast,List.length_map]
theorem Xw{c:Mac.Cd}{par inp sid:List Int}{s:Mac.Sta}{F:PQ}(h:Xt c par inp sid s c.instrs (CU c s)=some F):PI c par inp sid s F c.instrs [] 0 (CU c s):=
 ⟨h,rfl,Nat.le_refl _,List.length_replicate,rfl,List.length_replicate,List.length_replicate⟩
theorem PI.fin{c:Mac.Cd}{par inp sid:List Int}{s:Mac.Sta}{F:PQ}{row:List Int}{m:Nat}{q:PQ}(h:PI c par inp sid s F [] row m q):q=F:=by
 have:=h.run;rw[Xt]at this;exact Option.some.inj this
structure LI(s:Mac.Sta)(F:PQ)(L:List (List Int))(r:List Ln)(i:Nat)(ls:List (List Int)):Prop where
 ex:∃k,uI s F r i=some k/\ls++k=L
def AQ(s:Mac.Sta)(i:Nat):List Int:=s.lines.getD i []
def Xx(s:Mac.Sta)(F:PQ)(i:Nat):List Int:=(Kq F i (AQ s i)).getD []
section
variable {s : Mac.Sta} {F : PQ} {L : List (List Int)} {x : Ln} {r : List Ln} {i : Nat} {ls : List (List Int)} (h : LI s F L (x :: r) i ls)
include h
theorem LI.step:s.lines[i]? = some (AQ s i)/\Kq F i (AQ s i)=some (Xx s F i)/\LI s F L r (i+1) (ls++[Xx s F i]):=by
 obtain⟨k,h1,h2⟩:=h.ex
 rw[uI]at h1
 cases hl:s.lines[i]? with
 |none=>rw[hl]at h1;cases h1
 |some l=>
  rw[hl]at h1
  dsimp only at h1
  have e:AQ s i=l:=by rw[AQ,List.getD_eq_getElem?_getD,hl];rfl
  cases hm:Kq F i l with
  |none=>rw[hm]at h1;cases h1
  |some m=>
   rw[hm]at h1
   dsimp only at h1
   have em:Xx s F i=m:=by rw[Xx,e,hm];rfl
   cases hk:uI s F r (i+1)with
   |none=>rw[hk]at h1;cases h1
   |some k'=>
    rw[hk]at h1
    refine⟨by rw[e],by rw[e,em];exact hm,⟨k',hk,?_⟩⟩
    rw[em,<-h2,<-Option.some.inj h1];simp
theorem LI.old:(0:Int)<=(i:Int)/\(s.lines.map Mac.lnC)[((i:Nat):Int).toNat]? = some (Mac.lnC (AQ s i)):=⟨Int.natCast_nonneg _,by rw[Int.toNat_natCast,List.getElem?_map,h.step.1];rfl⟩
theorem LI.push:(F.pushed.map Mac.boolC)[0+((i:Nat):Int).toNat]? = some (Mac.boolC (F.pushed.getD i false))/\i<F.pushed.length:=by
 have hl:=h.step.2.1
 rw[Kq]at hl
 cases hp:F.pushed[i]? with
 |none=>rw[hp]at hl;cases hl
 |some b=>
  refine⟨?_,(List.getElem?_eq_some_iff.1 hp).1⟩
  rw[Nat.zero_add,Int.toNat_natCast,List.getElem?_map,hp,List.getD_eq_getElem?_getD,hp];rfl
theorem LI.no(hb:F.pushed.getD i false=false):AQ s i=Xx s F i:=by
 have hl:=h.step.2.1
 have hp:=h.push.2
 have e:F.pushed[i]? = some false:=by rw[List.getElem?_eq_getElem hp];rw[List.getD_eq_getElem?_getD,List.getElem?_eq_getElem hp]at hb;exact congrArg some hb
 rw[Kq,e]at hl
 exact Option.some.inj hl
theorem LI.yes(hb:F.pushed.getD i false=true):((F.last.map eU)[0+((i:Nat):Int).toNat]? = some (eU (F.last.getD i 0))/\i<F.last.length)/\1<=(AQ s i).length/\F.last.getD i 0::(AQ s i).take ((AQ s i).length-1)=Xx s F i:=by
 have hl:=h.step.2.1
 have hp:=h.push.2
 have e:F.pushed[i]? = some true:=by rw[List.getElem?_eq_getElem hp];rw[List.getD_eq_getElem?_getD,List.getElem?_eq_getElem hp]at hb;exact congrArg some hb
 rw[Kq,e]at hl
 cases hv:F.last[i]? with
 |none=>rw[hv]at hl;cases hl
 |some v=>
  rw[hv]at hl
  have ev:F.last.getD i 0=v:=by rw[List.getD_eq_getElem?_getD,hv];rfl
  simp only at hl
  split at hl
  ·cases hl
  ·rename_i h0
   refine⟨⟨?_,(List.getElem?_eq_some_iff.1 hv).1⟩,by omega,by rw[ev];exact Option.some.inj hl⟩
   rw[Nat.zero_add,Int.toNat_natCast,List.getElem?_map,hv,ev];rfl
end
theorem Kr{s:Mac.Sta}{F:PQ}{L:List (List Int)}{x:Ln}{r:List Ln}{i:Nat}{ls:List (List Int)}(gs:s.Sm)(h:LI s F L (x::r) i ls):(AQ s i).length<=268435456:=gs.line _ (List.mem_of_getElem? h.step.1)
section
variable {s : Mac.Sta} {F : PQ} {L : List (List Int)} {x : Ln} {r : List Ln} {i : Nat} {ls : List (List Int)} (gs : s.Sm) (h : LI s F L (x :: r) i ls)
include gs h
theorem LI.w(hb:F.pushed.getD i false=true):IntKind.i64.wrap (((([]:List (List D))++(AQ s i).map eU).length:Nat)-1:Int)=(((AQ s i).length-1:Nat):Int):=by
 have h1:=(h.yes hb).2.1
 have h2:=Kr gs h
 rw[List.nil_append,List.length_map,bJ (by omega) (by omega)];omega
theorem LI.w1(hb:F.pushed.getD i false=true):0<=IntKind.i64.wrap (((([]:List (List D))++(AQ s i).map eU).length:Nat)-1:Int):=by rw[h.w gs hb];omega
theorem LI.w2(hb:F.pushed.getD i false=true):IntKind.i64.wrap (((([]:List (List D))++(AQ s i).map eU).length:Nat)-1:Int)<=((([]:List (List D))++(AQ s i).map eU).length:Nat):=by
 rw[h.w gs hb,List.nil_append,List.length_map];omega
theorem LI.w3(hb:F.pushed.getD i false=true):(cut none (some (IntKind.i64.wrap (((([]:List (List D))++(AQ s i).map eU).length:Nat)-1:Int))) (([]:List (List D))++(AQ s i).map eU)).length<=1073741824:=by
 have h2:=Kr gs h
 rw[h.w gs hb,cut,List.nil_append,List.length_take,List.length_map];omega
theorem LI.ln1(hb:F.pushed.getD i false=true):ls.map Mac.lnC++[[D.sl 1 ([[D.i (F.last.getD i 0)]]++cut none (some (IntKind.i64.wrap (((([]:List (List D))++(AQ s i).map eU).length:Nat)-1:Int))) (([]:List (List D))++(AQ s i).map eU))]]=(ls++[Xx s F i]).map Mac.lnC:=by
 rw[h.w gs hb,cut,Int.toNat_natCast,List.nil_append,<-(h.yes hb).2.2,List.map_append]
 simp only[List.map_cons,List.map_nil,Mac.lnC,ints,List.map_take];rfl
end
theorem LI.ln0{s:Mac.Sta}{F:PQ}{L:List (List Int)}{x:Ln}{r:List Ln}{i:Nat}{ls:List (List Int)}(h:LI s F L (x::r) i ls)(hb:F.pushed.getD i false=false):ls.map Mac.lnC++[[D.sl 1 (([]:List (List D))++(AQ s i).map eU)]]=(ls++[Xx s F i]).map Mac.lnC:=by
 rw[List.nil_append,<-h.no hb,List.map_append];rfl
theorem LI.fin{s:Mac.Sta}{F:PQ}{L:List (List Int)}{i:Nat}{ls:List (List Int)}(h:LI s F L [] i ls):ls=L:=by
 obtain⟨k,h1,h2⟩:=h.ex
 rw[uI]at h1
 rw[<-h2,<-Option.some.inj h1,List.append_nil]
theorem Xy{s:Mac.Sta}{F:PQ}{L:List (List Int)}{r:List Ln}(h:uI s F r 0=some L):LI s F L r 0 []:=⟨⟨L,h,rfl⟩⟩
theorem Xz{c:Mac.Cd}{par inp sid:List Int}{s:Mac.Sta}{v:Int}{t:Mac.Sta}(h:EH c par inp sid s=some (v,t)):∃F,Xt c par inp sid s c.instrs (CU c s)=some F/\uI s F c.lines 0=some t.lines/\v=F.out/\t.values=F.values:=by
 rw[EH]at h
 cases hr:Xt c par inp sid s c.instrs (CU c s)with
 |none=>rw[hr]at h;cases h
 |some F=>
  rw[hr]at h
  cases hl:uI s F c.lines 0 with
  |none=>simp only[hl]at h;cases h
  |some l=>
   simp only[hl]at h
   obtain⟨h1,h2⟩:=Prod.mk.inj (Option.some.inj h)
   subst h2
   exact⟨F,rfl,hl,h1.symm,rfl⟩
end Go.Fw.Lw
