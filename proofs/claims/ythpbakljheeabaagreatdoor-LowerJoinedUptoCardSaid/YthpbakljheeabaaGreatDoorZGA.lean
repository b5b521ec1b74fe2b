/- Package lower in plain words: how processors are compiled. -/
import Derived.Test.YthpbakljheeabaaGreatDoorZMA
import Derived.Test.YthpbakljheeabaaGreatDoorZTB
set_option linter.unusedSectionVars false
set_option linter.unusedSimpArgs false
set_option linter.unusedVariables false
namespace Go.Fw.Lw
open Go.Fw Go.Fw.Ref15 Go.Fw.Rg Go.Fw.Tl
variable [af]
abbrev Ins:=List (Int×Int)
abbrev GF:=Int->Ins×Int
def qj:List Int->Int->Int->Int
 | [],_,n=>n
 |k::r,i,n=>qj r (i+1) (mm2 true n (k+i))
abbrev aY(l:List Int):Int×Int:=Mac.mostF l 0 0 0
def qm(l:List Int):Int:=
 if l.length=0 then 1 else if l.length=1 then(aY l).1
 else if l.length=2 then mm2 true (aY l).1 (l.getD (1-(aY l).2).toNat 0+1)
 else qj (l.set (aY l).2.toNat 1) 0 (aY l).1
mutual
def ak:Ex->Int
 | .mk _ _ _ _ l=>qm (bV l)
def bV:List Ex->List Int
 | []=>[]
 |x::r=>ak x::bV r
end
theorem pW(x:Ex):ak x=qm (bV x.l):=by cases x;rw[ak];rfl
theorem jF:∀l:List Ex,bV l=l.map ak
 | []=>rfl
 |x::r=>by rw[bV,jF r];rfl
def dQ(op a:Int):GF:=λn=>([(op,a)],n)
def lG(f g:GF):GF:=λn=>((f n).1++(g (f n).2).1,(g (f n).2).2)
def gNil:GF:=λn=>([],n)
def chG:List GF->Int->Int->Int->GF
 | [],_,_,_=>gNil
 |f::r,at_,reg,i=>lG (if i==at_ then dQ 4 reg else f) (chG r at_ reg (i+1))
def z9c(k:Int):Int:=if k==11 then 13 else if k==12 then 14 else if k==15 then 17 else 19
def z6b(k:Int):Int:=if k==6 then 8 else if k==7 then 9 else if k==8 then 10 else if k==9 then 11 else if k==10 then 12 else if k==13 then 15 else if k==14 then 16 else 20
def z9d(k:Int):Bool:=k==11 || k==12 || k==15 || k==17
def fAt(fs:List GF)(i:Int):GF:=fs.getD i.toNat gNil
def Am(op:Int)(ns:List Int)(fs:List GF):GF:=lG (lG (fAt fs (aY ns).2) (fAt fs (1-(aY ns).2))) (dQ op 0)
def OM(ns:List Int)(fs:List GF):GF:=
 if ns.getD 1 0<=ns.getD 0 0 then lG (lG (fAt fs 0) (fAt fs 1)) (dQ 18 0)
 else lG (lG (lG (fAt fs 1) (dQ 16 0)) (fAt fs 0)) (dQ 17 0)
def gIf(ns:List Int)(fs:List GF):GF:=λn=>lG (lG (lG (fAt fs (aY ns).2) (dQ 5 n)) (chG fs (aY ns).2 n 0)) (dQ 21 0) (n+1)
def genC(R:List (Int×Int))(k i m:Int)(ns:List Int)(fs:List GF):GF:=
 if k==1 then dQ 1 m
 else if k==3 then dQ 2 i
 else if k==4 then dQ 3 i
 else if k==5 then dQ 4 ((lkA i R).getD 0)
 else if z9d k then Am (z9c k) ns fs
 else if k==16 then OM ns fs
 else if k==19 then gIf ns fs
 else lG (fAt fs 0) (dQ (z6b k) (i+m))
mutual
def bn(R:List (Int×Int)):Ex->GF
 | .mk k _ i m l=>genC R k i m (bV l) (fH R l)
def fH(R:List (Int×Int)):List Ex->List GF
 | []=>[]
 |x::r=>bn R x::fH R r
end
theorem Ud(R:List (Int×Int))(x:Ex):bn R x=genC R x.kind x.index x.n (bV x.l) (fH R x.l):=by cases x;rw[bn];rfl
theorem Ea(R:List (Int×Int)):∀l:List Ex,fH R l=l.map (bn R)
 | []=>rfl
 |x::r=>by rw[fH,Ea R r];rfl
def cmpL:List Sm->Nat->List (Int×Int)->Int->Ins×Int
 | [],_,_,n=>([],n)
 |s::r,i,R,n=>
  if s.kind==1 then((bn R s.x n).1++[(5,(bn R s.x n).2)]++(cmpL r (i+1) (mM (i:Int) (bn R s.x n).2 R) ((bn R s.x n).2+1)).1,(cmpL r (i+1) (mM (i:Int) (bn R s.x n).2 R) ((bn R s.x n).2+1)).2)
  else((bn R s.x n).1++[if s.kind==2 then(6,s.index)else if s.kind==3 then(7,s.index)else(22,0)]++(cmpL r (i+1) R (bn R s.x n).2).1,(cmpL r (i+1) R (bn R s.x n).2).2)
def z03(p:Pr):Mac.Cd:=⟨p.latency,p.tail,p.params,p.states,p.lines,p.tables.map (·.values),(cmpL p.stmts 0 [] 0).2,(cmpL p.stmts 0 [] 0).1⟩
abbrev Ue:Mac.Cd:=⟨0,0,[],[],[],[],0,[]⟩
def xP(p:Pr):Mac.Cd×Int:=if(o7 p != 0)=true then(Ue,o7 p)else(z03 p,0)
theorem len1{α:Type}{l:List α}(h:(l.length:Int)=1):∃a,l = [a]:=by
 match l,h with
 | [a],_=>exact⟨a,rfl⟩
 | [],h=>simp at h
 |_::_::_,h=>simp at h;omega
theorem len2{α:Type}{l:List α}(h:(l.length:Int)=2):∃a b,l = [a,b]:=by
 match l,h with
 | [a,b],_=>exact⟨a,b,rfl⟩
 | [],h=>simp at h
 | [_],h=>simp at h
 |_::_::_::_,h=>simp at h;omega
theorem z7t{α:Type}{l:List α}(h:(l.length:Int)=4):∃a b c d,l = [a,b,c,d]:=by
 match l,h with
 | [a,b,c,d],_=>exact⟨a,b,c,d,rfl⟩
 | [],h=>simp at h
 | [_],h=>simp at h
 | [_,_],h=>simp at h
 | [_,_,_],h=>simp at h
 |_::_::_::_::_::_,h=>simp at h;omega
theorem nK{k n:Int}(h:n=Ref15.parts k)(h0:0<=n):(n=0/\(k=1\/k=2\/k=3\/k=4\/k=5))\/(n=1/\(k=6\/k=7\/k=8\/k=9\/k=10\/k=13\/k=14\/k=18))\/(n=2/\(k=11\/k=12\/k=15\/k=16\/k=17))\/(n=4/\k=19):=by
 unfold Ref15.parts at h
 simp only[Bool.or_eq_true,beq_iff_eq]at h
 split at h
 ·exact .inl ⟨h,by omega⟩
 ·split at h
  ·exact .inr (.inl ⟨h,by omega⟩)
  ·split at h
   ·exact .inr (.inr (.inl ⟨h,by omega⟩))
   ·split at h
    ·exact .inr (.inr (.inr ⟨h,by omega⟩))
    ·omega
theorem z04{a b:Int}(ha:1<=a):(a>=b/\aY [a,b]=(a,0))\/(b>a/\aY [a,b]=(b,1)):=by
 by_cases h:b>a
 ·refine .inr ⟨h,?_⟩
  simp only[aY,Mac.mostF,decide_eq_true (show a>0 by omega),decide_eq_true h,cond_true];rfl
 ·refine .inl ⟨by omega,?_⟩
  simp only[aY,Mac.mostF,decide_eq_true (show a>0 by omega),decide_eq_false h,cond_true,cond_false]
theorem pX:∀(l:List Int) (i n k:Int),(Mac.mostF l i n k=(n,k)/\∀x∈l,x<=n)\/(∃j:Nat,l[j]? = some (Mac.mostF l i n k).1/\(Mac.mostF l i n k).2=i+j/\n<(Mac.mostF l i n k).1/\∀x∈l,x<=(Mac.mostF l i n k).1)
 | [],i,n,k=>.inl ⟨rfl,by simp⟩
 |x::r,i,n,k=>by
  rw[Mac.mostF]
  by_cases h:x>n
  ·rw[decide_eq_true h,cond_true]
   rcases pX r (i+1) x i with⟨e,h2⟩ |⟨j,h1,h2,h3,h4⟩
   ·rw[e]
    refine .inr ⟨0,rfl,by simp,h,λy hy=>?_⟩
    rcases List.mem_cons.1 hy with rfl |hy
    ·exact Int.le_refl _
    ·exact h2 y hy
   ·refine .inr ⟨j+1,h1,by rw[h2];omega,by omega,λy hy=>?_⟩
    rcases List.mem_cons.1 hy with rfl |hy
    ·omega
    ·exact h4 y hy
  ·rw[decide_eq_false h,cond_false]
   rcases pX r (i+1) n k with⟨e,h2⟩ |⟨j,h1,h2,h3,h4⟩
   ·rw[e]
    refine .inl ⟨rfl,λy hy=>?_⟩
    rcases List.mem_cons.1 hy with rfl |hy
    ·omega
    ·exact h2 y hy
   ·refine .inr ⟨j+1,h1,by rw[h2];omega,h3,λy hy=>?_⟩
    rcases List.mem_cons.1 hy with rfl |hy
    ·omega
    ·exact h4 y hy
theorem WI{a b c d:Int}(ha:1<=a):∃j:Nat,j<4/\(aY [a,b,c,d]).2=j /\ [a,b,c,d][j]? = some (aY [a,b,c,d]).1/\∀x ∈ [a,b,c,d],x<=(aY [a,b,c,d]).1:=by
 rcases pX [a,b,c,d] 0 0 0 with⟨_,h⟩ |⟨j,h1,h2,_,h4⟩
 ·have:=h a (by simp);omega
 ·have hj:j<4:=by have:=(List.getElem?_eq_some_iff.1 h1).1;simpa using this
  exact⟨j,hj,by rw[aY,h2];omega,h1,h4⟩
theorem MP:∀(l:List Int) (i n:Int),n<=qj l i n/\∀(j:Nat) k,l[j]? = some k->k+(i+j)<=qj l i n
 | [],i,n=>⟨Int.le_refl _,λj k h=>by simp at h⟩
 |x::r,i,n=>by
  have ih:=MP r (i+1) (mm2 true n (x+i))
  have hm:=kV n (x+i)
  rw[qj]
  refine⟨by omega,λj k h=>?_⟩
  cases j with
  |zero=>simp only[List.getElem?_cons_zero,Option.some.injEq]at h;subst h;simp only[Int.natCast_zero];omega
  |succ j=>
   have:=ih.2 j k (by simpa using h)
   omega
theorem MQ:∀(l:List Int) (i n:Int),qj l i n=n\/∃(j:Nat) (k:Int),l[j]? = some k/\qj l i n=k+(i+j)
 | [],i,n=>.inl rfl
 |x::r,i,n=>by
  rw[qj]
  rcases MQ r (i+1) (mm2 true n (x+i))with e |⟨j,k,h1,h2⟩
  ·rw[e]
   rcases(kV n (x+i)).2.2 with q |q
   ·exact .inl q
   ·exact .inr ⟨0,x,rfl,by rw[q];simp⟩
  ·exact .inr ⟨j+1,k,by simpa using h1,by rw[h2];omega⟩
theorem YA{a:Int}(ha:1<=a):qm [a]=a:=by
 show(aY [a]).1=a
 simp only[aY,Mac.mostF,decide_eq_true (show a>0 by omega),cond_true]
theorem YB{a b:Int}(ha:1<=a):qm [a,b]=if b>a then mm2 true b (a+1)else mm2 true a (b+1):=by
 show mm2 true (aY [a,b]).1 ([a,b].getD (1-(aY [a,b]).2).toNat 0+1)=_
 rcases z04 (b:=b) ha with⟨h,e⟩ |⟨h,e⟩
 ·rw[e,if_neg (by omega)];rfl
 ·rw[e,if_pos h];rfl
theorem xQ:∀x:Ex,(∀n p,wfX p n x=true->1<=ak x):=by
 refine Ex.ind λx ih=>?_
 intro n p hw
 obtain⟨g1,g2,g3⟩:=bQ hw
 have hc:∀y∈x.l,1<=ak y:=λy hy=>ih y hy n p (iC g3 y hy)
 rw[pW,jF]
 rcases nK g1 (Int.natCast_nonneg _)with⟨h,_⟩ |⟨h,_⟩ |⟨h,_⟩ |⟨h,_⟩
 ·have:x.l = []:=by
   cases e:x.l with
   |nil=>rfl
   |cons a r=>rw[e]at h;simp at h;omega
  rw[this];exact Int.le_refl _
 ·obtain⟨a,e⟩:=len1 h
  have:=hc a (by rw[e];simp)
  rw[e];show 1<=qm [ak a];rw[YA this];exact this
 ·obtain⟨a,b,e⟩:=len2 h
  have h1:=hc a (by rw[e];simp)
  have h2:=hc b (by rw[e];simp)
  rw[e];show 1<=qm [ak a,ak b];rw[YB h1]
  split
  ·have:=(kV (ak b) (ak a+1)).1;omega
  ·have:=(kV (ak a) (ak b+1)).1;omega
 ·obtain⟨a,b,c,d,e⟩:=z7t h
  have h1:=hc a (by rw[e];simp)
  rw[e]
  show 1<=qj ([ak a,ak b,ak c,ak d].set (aY [ak a,ak b,ak c,ak d]).2.toNat 1) 0 (aY [ak a,ak b,ak c,ak d]).1
  have:=(MP ([ak a,ak b,ak c,ak d].set (aY [ak a,ak b,ak c,ak d]).2.toNat 1) 0 (aY [ak a,ak b,ak c,ak d]).1).1
  obtain⟨j,_,_,_,h4⟩:=WI (b:=ak b) (c:=ak c) (d:=ak d) h1
  have:=h4 (ak a) (by simp)
  omega
theorem vT{a b:Nat}(h:a<=b):2 ^ a<=2 ^ b:=Nat.pow_le_pow_right (by decide) h
theorem uo{a b:Nat}(h:a<=b):a * a * a<=b * b * b:=Nat.mul_le_mul (Nat.mul_le_mul h h) h
theorem MR{a b n:Nat}(h:a+b+1<=n)(hab:a<=b):8 * (a * a * a)<=n * n * n:=by
 have h1:2 * a<=n:=by omega
 have h2:=uo h1
 have e:2 * a * (2 * a) * (2 * a)=8 * (a * a * a):=by
  simp only[Nat.mul_assoc,Nat.mul_comm,Nat.mul_left_comm]
 omega
theorem aQ{d a b:Int}{A B n:Nat}(hA:2 ^ a.toNat<=2 * (A * A * A))(hB:2 ^ b.toNat<=2 * (B * B * B))(h1:d<=a+3)(h2:d<=b+3)(ha:0<=a)(hb:0<=b)(hn:A+B+1<=n):2 ^ d.toNat<=2 * (n * n * n):=by
 rcases Nat.le_total A B with h |h
 ·have h3:=vT (show d.toNat<=a.toNat+3 by omega)
  have h4:=MR hn h
  rw[Nat.pow_add]at h3
  have:(2:Nat) ^ 3=8:=rfl
  rw[this]at h3
  omega
 ·have h3:=vT (show d.toNat<=b.toNat+3 by omega)
  have h4:=MR (show B+A+1<=n by omega) h
  rw[Nat.pow_add]at h3
  have:(2:Nat) ^ 3=8:=rfl
  rw[this]at h3
  omega
theorem uq{a:Int}{A n:Nat}(hA:2 ^ a.toNat<=2 * (A * A * A))(hn:A<=n):2 ^ a.toNat<=2 * (n * n * n):=by
 have:=uo hn;omega
theorem dR(x:Ex):1<=Ref15.nodes x:=by rw[Ref15.nodes_eq];omega
theorem WJ:∀x:Ex,(∀n p,wfX p n x=true->2 ^ (ak x).toNat<=2 * (Ref15.nodes x * Ref15.nodes x * Ref15.nodes x)):=by
 refine Ex.ind λx ih=>?_
 intro n p hw
 obtain⟨g1,g2,g3⟩:=bQ hw
 have hc:∀y∈x.l,1<=ak y:=λy hy=>xQ y n p (iC g3 y hy)
 have hp:∀y∈x.l,2 ^ (ak y).toNat<=2 * (Ref15.nodes y * Ref15.nodes y * Ref15.nodes y):=λy hy=>ih y hy n p (iC g3 y hy)
 rw[pW,jF,Ref15.nodes_eq]
 rcases nK g1 (Int.natCast_nonneg _)with⟨h,_⟩ |⟨h,_⟩ |⟨h,_⟩ |⟨h,_⟩
 ·have:x.l = []:=by
   cases e:x.l with
   |nil=>rfl
   |cons a r=>rw[e]at h;simp at h;omega
  rw[this];decide
 ·obtain⟨a,e⟩:=len1 h
  have h1:=hc a (by rw[e];simp)
  rw[e]
  show 2 ^ (qm [ak a]).toNat<=_
  rw[YA h1]
  exact uq (hp a (by rw[e];simp)) (by simp[Ref15.nodesL])
 ·obtain⟨a,b,e⟩:=len2 h
  have h1:=hc a (by rw[e];simp)
  have h2:=hc b (by rw[e];simp)
  have p1:=hp a (by rw[e];simp)
  have p2:=hp b (by rw[e];simp)
  rw[e]
  show 2 ^ (qm [ak a,ak b]).toNat<=_
  rw[YB h1]
  have hn:Ref15.nodes a+Ref15.nodes b+1<=1+Ref15.nodesL [a,b]:=by simp[Ref15.nodesL];omega
  split
  ·rename_i hgt
   rcases(kV (ak b) (ak a+1)).2.2 with q |q
   ·rw[q];exact uq p2 (by omega)
   ·rw[q];exact aQ p1 p2 (by omega) (by omega) (by omega) (by omega) hn
  ·rename_i hgt
   rcases(kV (ak a) (ak b+1)).2.2 with q |q
   ·rw[q];exact uq p1 (by omega)
   ·rw[q];exact aQ p1 p2 (by omega) (by omega) (by omega) (by omega) hn
 ·obtain⟨a,b,c,d,e⟩:=z7t h
  have ha:=hc a (by rw[e];simp)
  rw[e]
  show 2 ^ (qj ([ak a,ak b,ak c,ak d].set (aY [ak a,ak b,ak c,ak d]).2.toNat 1) 0 (aY [ak a,ak b,ak c,ak d]).1).toNat<=_
  obtain⟨j,hj,e1,e2,e3⟩:=WI (b:=ak b) (c:=ak c) (d:=ak d) ha
  have hN:1+Ref15.nodesL [a,b,c,d]=1+(Ref15.nodes a+(Ref15.nodes b+(Ref15.nodes c+Ref15.nodes d))):=by simp[Ref15.nodesL]
  have hpa:=dR a;have hpb:=dR b;have hpc:=dR c;have hpd:=dR d
  -- each part by its place
  have hat:∀i:Nat,i<4->∃y,[a,b,c,d][i]? = some y/\y∈x.l /\ [ak a,ak b,ak c,ak d][i]? = some (ak y):=by
   intro i hi
   match i,hi with
   | 0,_=>exact⟨a,rfl,by rw[e];simp,rfl⟩
   | 1,_=>exact⟨b,rfl,by rw[e];simp,rfl⟩
   | 2,_=>exact⟨c,rfl,by rw[e];simp,rfl⟩
   | 3,_=>exact⟨d,rfl,by rw[e];simp,rfl⟩
  have hsum:∀i i':Nat,i<4->i' < 4->i≠i'->∀y y',[a,b,c,d][i]? = some y -> [a,b,c,d][i']? = some y'->Ref15.nodes y+Ref15.nodes y'+1<=1+Ref15.nodesL [a,b,c,d]:=by
   intro i i' hi hi' hne y y' hy hy'
   rw[hN]
   match i,hi,i',hi',hne with
   | 0,_,1,_,_=>cases hy;cases hy';omega
   | 0,_,2,_,_=>cases hy;cases hy';omega
   | 0,_,3,_,_=>cases hy;cases hy';omega
   | 1,_,0,_,_=>cases hy;cases hy';omega
   | 1,_,2,_,_=>cases hy;cases hy';omega
   | 1,_,3,_,_=>cases hy;cases hy';omega
   | 2,_,0,_,_=>cases hy;cases hy';omega
   | 2,_,1,_,_=>cases hy;cases hy';omega
   | 2,_,3,_,_=>cases hy;cases hy';omega
   | 3,_,0,_,_=>cases hy;cases hy';omega
   | 3,_,1,_,_=>cases hy;cases hy';omega
   | 3,_,2,_,_=>cases hy;cases hy';omega
   | 0,_,0,_,h=>exact absurd rfl h
   | 1,_,1,_,h=>exact absurd rfl h
   | 2,_,2,_,h=>exact absurd rfl h
   | 3,_,3,_,h=>exact absurd rfl h
  obtain⟨z,z1,z2,z3⟩:=hat j hj
  have ez:(aY [ak a,ak b,ak c,ak d]).1=ak z:=by rw[e2]at z3;exact Option.some.inj z3
  have hz:=hc z z2
  have pz:=hp z z2
  rw[e1,ez,Int.toNat_natCast]
  rcases MQ ([ak a,ak b,ak c,ak d].set j 1) 0 (ak z)with q |⟨i,k,q1,q2⟩
  ·rw[q]
   have:=hsum j (if j=0 then 1 else 0) hj (by split<;>omega) (by split<;>omega) z _ z1 ((hat (if j=0 then 1 else 0) (by split<;>omega)).choose_spec.1)
   exact uq pz (by omega)
  ·have hi:i<4:=by
    have:=(List.getElem?_eq_some_iff.1 q1).1
    simpa using this
   rw[q2]
   by_cases hij:i=j
   ·subst hij
    have:k=1:=by
     rw[List.getElem?_set]at q1
     simpa[hi]using q1.symm
    subst this
    have hb:5<=1+Ref15.nodesL [a,b,c,d]:=by rw[hN];omega
    have:=uo hb
    have h3:=vT (show((1:Int)+(0+(i:Nat))).toNat<=4 by omega)
    have:(2:Nat) ^ 4=16:=rfl
    omega
   ·obtain⟨y,y1,y2,y3⟩:=hat i hi
    have ek:k=ak y:=by
     rw[List.getElem?_set_ne (λh=>hij h.symm),y3]at q1
     exact(Option.some.inj q1).symm
    subst ek
    have hyz:ak y<=ak z:=by rw[<-ez];exact e3 _ (List.mem_of_getElem? y3)
    exact aQ (hp y y2) pz (by omega) (by omega) (by have:=hc y y2;omega) (by omega) (hsum i j hi hj hij y z y1 z1)
theorem z05{x:Ex}{n:Nat}{p:Pr}(hw:wfX p n x=true)(hn:Ref15.nodes x<=512):ak x<=28:=by
 have h1:=WJ x n p hw
 have h2:=uo hn
 have h3:2 ^ (ak x).toNat<=2 ^ 28:=by
  have:(2:Nat) ^ 28=2 * (512 * 512 * 512):=by decide
  omega
 have h4:(ak x).toNat<=28:=by
  by_cases h:(ak x).toNat<=28
  ·exact h
  ·have:=Nat.pow_lt_pow_right (a:=2) (by decide) (show 28<(ak x).toNat by omega)
   omega
 omega
structure COk(c:Mac.Cd)(p:Pr):Prop where
 par:c.params=p.params
 sta:c.states=p.states
 lin:c.lines=p.lines
 tab:c.tables.length=p.tables.length
 reg:0<=c.regs/\c.regs<=65536
 lim:p.params.length<=16/\p.states.length<=16/\p.lines.length<=16/\p.tables.length<=16
structure V(p:Pr)(b:Nat)(x:Ex):Prop where
 wf:wfX p b x=true
 rs:bz p b x=(x,true)
 fo:formed x=true
variable {p : Pr}
theorem kR:∀{l:List Ex},formeds l=true->∀y∈l,formed y=true
 |x::r,h,y,hy=>by
  rw[formeds]at h
  simp only[Bool.and_eq_true]at h
  rcases List.mem_cons.1 hy with rfl |hy
  ·exact h.1
  ·exact kR h.2 y hy
theorem V.part{b:Nat}{x y:Ex}(h:V p b x)(hy:y∈x.l):V p b y:=by
 have hf:=h.fo
 rw[formed_eq]at hf
 simp only[Bool.and_eq_true]at hf
 exact⟨iC (bQ h.wf).2.2 y hy,xN h.wf h.rs hy,kR hf.2 y hy⟩
theorem V.num{b:Nat}{x:Ex}(h:V p b x)(h1:x.kind≠1)(h2:x.kind≠18):x.n=0:=by
 have hf:=h.fo
 rw[formed_eq]at hf
 simp only[Bool.and_eq_true,Bool.not_eq_true',Bool.and_eq_false_iff,bne_eq_false_iff_eq]at hf
 rcases hf.1.2 with(e |e) |e
 ·exact absurd e h1
 ·exact absurd e h2
 ·exact e
theorem V.idx{b:Nat}{x:Ex}(h:V p b x)(hn:(named x.kind&&x.kind != 8&&x.kind != 9)=false)(h8:x.kind≠8)(h9:x.kind≠9):x.index=0:=by
 have hr:=h.rs
 rw[kJ,if_neg (by rw[hn];decide)]at hr
 have e:=congrArg (λq=>q.1.index) hr
 simp only[Ex.index]at e
 rw[show x.index=iT p x from e.symm,iT,if_neg (by simpa using h9),if_neg (by simpa using h8)]
theorem own_k18'{n:Nat}{k i m:Int}(h:uG p n k i m=true)(hk:k=18):1<=m/\m<=2147483648:=by
 subst hk;simp[uG]at h;exact h
theorem ut(R:List (Int×Int)){l:List Ex}{i:Int}{j:Nat}{y:Ex}(hi:i=j)(h:l[j]? = some y):fAt (fH R l) i=bn R y:=by
 subst hi
 rw[fAt,Ea,Int.toNat_natCast,List.getD_eq_getElem?_getD,List.getElem?_map,h];rfl
theorem z6c{α:Type}{l:List α}(h:(l.length:Int)=0):l = []:=by
 cases l with
 |nil=>rfl
 |cons a r=>simp at h;omega
def Sz(f:GF)(L r:Nat):Prop:=∀n,2 * (f n).1.length<=L/\n<=(f n).2/\(f n).2<=n+r
theorem Sz.seq{f g:GF}{L M r s:Nat}(hf:Sz f L r)(hg:Sz g M s):Sz (lG f g) (L+M) (r+s):=by
 intro n
 obtain⟨a1,a2,a3⟩:=hf n
 obtain⟨b1,b2,b3⟩:=hg (f n).2
 refine⟨?_,?_,?_⟩
 ·show 2 * ((f n).1++(g (f n).2).1).length<=_
  rw[List.length_append];omega
 ·show n<=(g (f n).2).2;omega
 ·show(g (f n).2).2<=_;omega
theorem Sz.emit(op a:Int):Sz (dQ op a) 2 0:=λn=>⟨Nat.le_refl _,Int.le_refl n,by show n<=n+0;omega⟩
theorem Sz.nil:Sz gNil 0 0:=λn=>⟨Nat.le_refl _,Int.le_refl n,by show n<=n+0;omega⟩
theorem Sz.weak{f:GF}{L M r s:Nat}(hf:Sz f L r)(h1:L<=M)(h2:r<=s):Sz f M s:=λn=>by have:=hf n;omega
theorem z9e{f0 f1 f2 f3:GF}{a b c d:Nat}{at_ reg:Int}(h0:Sz f0 (3 * a-1) a)(h1:Sz f1 (3 * b-1) b)(h2:Sz f2 (3 * c-1) c)(h3:Sz f3 (3 * d-1) d)(ha:1<=a)(hb:1<=b)(hc:1<=c)(hd:1<=d)(j:Nat)(hj:j<4)(hja:at_=j) :
  Sz (chG [f0,f1,f2,f3] at_ reg 0) (3 * (a+b+c+d)-4+2-(3 * [a,b,c,d].getD j 0-1)) (a+b+c+d - [a,b,c,d].getD j 0):=by
 subst hja
 match j,hj with
 | 0,_=>
  have:=(Sz.emit 4 reg).seq (h1.seq (h2.seq (h3.seq Sz.nil)))
  exact this.weak (by show 2+(3 * b-1+(3 * c-1+(3 * d-1+0)))<=3 * (a+b+c+d)-4+2-(3 * a-1);omega) (by show 0+(b+(c+(d+0)))<=a+b+c+d-a;omega)
 | 1,_=>
  have:=h0.seq ((Sz.emit 4 reg).seq (h2.seq (h3.seq Sz.nil)))
  exact this.weak (by show 3 * a-1+(2+(3 * c-1+(3 * d-1+0)))<=3 * (a+b+c+d)-4+2-(3 * b-1);omega) (by show a+(0+(c+(d+0)))<=a+b+c+d-b;omega)
 | 2,_=>
  have:=h0.seq (h1.seq ((Sz.emit 4 reg).seq (h3.seq Sz.nil)))
  exact this.weak (by show 3 * a-1+(3 * b-1+(2+(3 * d-1+0)))<=3 * (a+b+c+d)-4+2-(3 * c-1);omega) (by show a+(b+(0+(d+0)))<=a+b+c+d-c;omega)
 | 3,_=>
  have:=h0.seq (h1.seq (h2.seq ((Sz.emit 4 reg).seq Sz.nil)))
  exact this.weak (by show 3 * a-1+(3 * b-1+(3 * c-1+(2+0)))<=3 * (a+b+c+d)-4+2-(3 * d-1);omega) (by show a+(b+(c+(0+0)))<=a+b+c+d-d;omega)
theorem Uf{p:Pr}{b:Nat}{R:List (Int×Int)}:∀x:Ex,wfX p b x=true->Sz (bn R x) (3 * Ref15.nodes x-1) (Ref15.nodes x):=by
 refine Ex.ind λx ih=>?_
 intro hw
 obtain⟨g1,g2,g3⟩:=bQ hw
 have hi:∀y∈x.l,Sz (bn R y) (3 * Ref15.nodes y-1) (Ref15.nodes y):=λy hy=>ih y hy (iC g3 y hy)
 have hp:∀y∈x.l,1<=ak y:=λy hy=>xQ y b p (iC g3 y hy)
 rw[Ud,Ref15.nodes_eq,jF]
 rcases nK g1 (Int.natCast_nonneg _)with⟨h,hk⟩ |⟨h,hk⟩ |⟨h,hk⟩ |⟨h,hk⟩
 ·rw[z6c h]
  have:∃op a,genC R x.kind x.index x.n ([].map ak) (fH R [])=dQ op a:=by
   rcases hk with q |q |q |q |q
   ·exact⟨1,x.n,by rw[q];rfl⟩
   ·rw[q]at g2;simp[uG]at g2
   ·exact⟨2,x.index,by rw[q];rfl⟩
   ·exact⟨3,x.index,by rw[q];rfl⟩
   ·exact⟨4,(lkA x.index R).getD 0,by rw[q];rfl⟩
  obtain⟨op,a,e⟩:=this
  rw[e];exact(Sz.emit op a).weak (by decide) (by decide)
 ·obtain⟨y,e⟩:=len1 h
  have hy:y∈x.l:=by rw[e];simp
  have hg:genC R x.kind x.index x.n (x.l.map ak) (fH R x.l)=lG (fAt (fH R x.l) 0) (dQ (z6b x.kind) (x.index+x.n)):=by
   rcases hk with q |q |q |q |q |q |q |q<;>rw[q]<;>rfl
  have f0:fAt (fH R x.l) 0=bn R y:=ut R (j:=0) rfl (by rw[e];rfl)
  rw[hg,f0,e]
  have hn:=dR y
  exact((hi y hy).seq (Sz.emit _ _)).weak (by simp only[Ref15.nodesL];omega) (by simp only[Ref15.nodesL];omega)
 ·obtain⟨y,z,e⟩:=len2 h
  have hy:y∈x.l:=by rw[e];simp
  have hz:z∈x.l:=by rw[e];simp
  have f0:fAt (fH R x.l) 0=bn R y:=ut R (j:=0) rfl (by rw[e];rfl)
  have f1:fAt (fH R x.l) 1=bn R z:=ut R (j:=1) rfl (by rw[e];rfl)
  have hny:=dR y;have hnz:=dR z
  have hm:x.l.map ak = [ak y,ak z]:=by rw[e];rfl
  have hN:1+Ref15.nodesL x.l=1+(Ref15.nodes y+(Ref15.nodes z+0)):=by rw[e];rfl
  rw[hm,hN]
  have cmb:∀op,Sz (Am op [ak y,ak z] (fH R x.l)) (3 * (1+(Ref15.nodes y+(Ref15.nodes z+0)))-1) (1+(Ref15.nodes y+(Ref15.nodes z+0))):=by
   intro op
   rcases z04 (b:=ak z) (hp y hy)with⟨_,q2⟩ |⟨_,q2⟩
   ·rw[Am,q2]
    show Sz (lG (lG (fAt (fH R x.l) 0) (fAt (fH R x.l) 1)) (dQ op 0)) _ _
    rw[f0,f1]
    exact(((hi y hy).seq (hi z hz)).seq (Sz.emit _ _)).weak (by omega) (by omega)
   ·rw[Am,q2]
    show Sz (lG (lG (fAt (fH R x.l) 1) (fAt (fH R x.l) 0)) (dQ op 0)) _ _
    rw[f0,f1]
    exact(((hi z hz).seq (hi y hy)).seq (Sz.emit _ _)).weak (by omega) (by omega)
  rcases hk with k |k |k |k |k
  ·rw[show genC R x.kind x.index x.n [ak y,ak z] (fH R x.l)=Am 13 [ak y,ak z] (fH R x.l)by rw[k];rfl];exact cmb 13
  ·rw[show genC R x.kind x.index x.n [ak y,ak z] (fH R x.l)=Am 14 [ak y,ak z] (fH R x.l)by rw[k];rfl];exact cmb 14
  ·rw[show genC R x.kind x.index x.n [ak y,ak z] (fH R x.l)=Am 17 [ak y,ak z] (fH R x.l)by rw[k];rfl];exact cmb 17
  ·rw[show genC R x.kind x.index x.n [ak y,ak z] (fH R x.l)=OM [ak y,ak z] (fH R x.l)by rw[k];rfl,OM,f0,f1]
   split
   ·exact(((hi y hy).seq (hi z hz)).seq (Sz.emit _ _)).weak (by omega) (by omega)
   ·exact((((hi z hz).seq (Sz.emit _ _)).seq (hi y hy)).seq (Sz.emit _ _)).weak (by omega) (by omega)
  ·rw[show genC R x.kind x.index x.n [ak y,ak z] (fH R x.l)=Am 19 [ak y,ak z] (fH R x.l)by rw[k];rfl];exact cmb 19
 ·obtain⟨y0,y1,y2,y3,e⟩:=z7t h
  have h0:=hi y0 (by rw[e];simp);have h1:=hi y1 (by rw[e];simp);have h2:=hi y2 (by rw[e];simp);have h3:=hi y3 (by rw[e];simp)
  have n0:=dR y0;have n1:=dR y1;have n2:=dR y2;have n3:=dR y3
  have hm:x.l.map ak = [ak y0,ak y1,ak y2,ak y3]:=by rw[e];rfl
  have hN:1+Ref15.nodesL x.l=1+(Ref15.nodes y0+(Ref15.nodes y1+(Ref15.nodes y2+(Ref15.nodes y3+0)))):=by rw[e];rfl
  have hL:fH R x.l = [bn R y0,bn R y1,bn R y2,bn R y3]:=by rw[Ea,e];rfl
  rw[show genC R x.kind x.index x.n (x.l.map ak) (fH R x.l)=gIf (x.l.map ak) (fH R x.l)by rw[hk];rfl,hm,hN,hL]
  obtain⟨j,hj,e1,_,_⟩:=WI (b:=ak y1) (c:=ak y2) (d:=ak y3) (hp y0 (by rw[e];simp))
  intro n
  have hc:=z9e (reg:=n) h0 h1 h2 h3 n0 n1 n2 n3 j hj e1
  have hz:Sz (fAt [bn R y0,bn R y1,bn R y2,bn R y3] (aY [ak y0,ak y1,ak y2,ak y3]).2) (3 * [Ref15.nodes y0,Ref15.nodes y1,Ref15.nodes y2,Ref15.nodes y3].getD j 0-1) ([Ref15.nodes y0,Ref15.nodes y1,Ref15.nodes y2,Ref15.nodes y3].getD j 0):=by
   rw[e1]
   match j,hj with
   | 0,_=>exact h0
   | 1,_=>exact h1
   | 2,_=>exact h2
   | 3,_=>exact h3
  have hb:[Ref15.nodes y0,Ref15.nodes y1,Ref15.nodes y2,Ref15.nodes y3].getD j 0<=Ref15.nodes y0+Ref15.nodes y1+Ref15.nodes y2+Ref15.nodes y3-3/\1 <= [Ref15.nodes y0,Ref15.nodes y1,Ref15.nodes y2,Ref15.nodes y3].getD j 0:=by
   match j,hj with
   | 0,_=>show Ref15.nodes y0<=_/\1<=Ref15.nodes y0;omega
   | 1,_=>show Ref15.nodes y1<=_/\1<=Ref15.nodes y1;omega
   | 2,_=>show Ref15.nodes y2<=_/\1<=Ref15.nodes y2;omega
   | 3,_=>show Ref15.nodes y3<=_/\1<=Ref15.nodes y3;omega
  have hall:=(((hz.seq (Sz.emit 5 n)).seq hc).seq (Sz.emit 21 0)) (n+1)
  have hd:gIf [ak y0,ak y1,ak y2,ak y3] [bn R y0,bn R y1,bn R y2,bn R y3] n=lG (lG (lG (fAt [bn R y0,bn R y1,bn R y2,bn R y3] (aY [ak y0,ak y1,ak y2,ak y3]).2) (dQ 5 n)) (chG [bn R y0,bn R y1,bn R y2,bn R y3] (aY [ak y0,ak y1,ak y2,ak y3]).2 n 0)) (dQ 21 0) (n+1):=rfl
  rw[hd]
  omega
structure SV(p:Pr)(i:Nat)(s:Sm):Prop where
 v:V p i s.x
 nd:Ref15.nodes s.x<=512
 kd:s.kind=1\/s.kind=2\/s.kind=3\/s.kind=4
 k2:s.kind=2->0<=s.index/\s.index<p.states.length
 k3:s.kind=3->0<=s.index/\s.index<p.lines.length
theorem YC{p:Pr}(h:Res p){i:Nat}{s:Sm}(hs:p.stmts[i]? = some s):SV p i s:=by
 have hw:=D7 p.stmts 0 h.wf i s hs
 rw[Nat.zero_add]at hw
 have hr:=D9 p.stmts 0 false h.ru i s hs
 rw[Nat.zero_add]at hr
 have hm:=List.mem_of_getElem? hs
 have hf:=List.all_eq_true.1 h.fo s hm
 have hl:=h.li
 rw[limited_eq]at hl
 simp only[Bool.and_eq_true]at hl
 have hx:=List.all_eq_true.1 hl.2.2.2.1 s hm
 simp only[stmtOk,Bool.not_eq_true',Bool.or_eq_false_iff,decide_eq_false_iff_not]at hf
 simp only[zf,Bool.not_eq_true',decide_eq_false_iff_not]at hx
 simp only[wfS,Bool.and_eq_true,Bool.or_eq_true,Bool.not_eq_true',decide_eq_true_eq]at hw
 refine⟨⟨hw.1,hr,by simpa using hf.2⟩,by omega,by omega,λe=>?_,λe=>?_⟩
 ·rcases hw.2.1 with q |q
  ·rw[e]at q;exact absurd q (by decide)
  ·exact q
 ·rcases hw.2.2 with q |q
  ·rw[e]at q;exact absurd q (by decide)
  ·exact q
theorem Ug{α:Type}{l r:List α}{i:Nat}{a:α}(h:l.drop i=a::r):l[i]? = some a/\l.drop (i+1)=r:=by
 constructor
 ·have:=congrArg (λl=>l[0]?) h
  simpa using this
 ·have:=congrArg (λl=>l.drop 1) h
  simpa[List.drop_drop,Nat.add_comm]using this
theorem Uh{p:Pr}(h:Res p):∀(r:List Sm) (i:Nat) (R:List (Int×Int)) (n:Int),p.stmts.drop i=r->(cmpL r i R n).1.length<=768 * r.length/\n<=(cmpL r i R n).2/\(cmpL r i R n).2<=n+513 * (r.length:Int)
 | [],i,R,n,_=>⟨Nat.le_refl _,Int.le_refl _,by show n<=n+513 * 0;omega⟩
 |s::r,i,R,n,hd=>by
  obtain⟨hs,hd'⟩:=Ug hd
  have sv:=YC h hs
  obtain⟨a1,a2,a3⟩:=Uf (p:=p) (b:=i) (R:=R) s.x sv.v.wf n
  have hnd:=sv.nd
  rw[cmpL]
  split
  ·obtain⟨b1,b2,b3⟩:=Uh h r (i+1) (mM (i:Int) (bn R s.x n).2 R) ((bn R s.x n).2+1) hd'
   simp only[List.length_append,List.length_cons,List.length_nil]
   refine⟨by omega,by omega,by omega⟩
  ·obtain⟨b1,b2,b3⟩:=Uh h r (i+1) R (bn R s.x n).2 hd'
   simp only[List.length_append,List.length_cons,List.length_nil]
   refine⟨by omega,by omega,by omega⟩
theorem WL{p:Pr}(h:Res p):COk (z03 p) p:=by
 have hl:=z81 h
 obtain⟨_,z2,z3⟩:=Uh h p.stmts 0 [] 0 (by rfl)
 exact⟨rfl,rfl,rfl,List.length_map _,⟨z2,by show(cmpL p.stmts 0 [] 0).2<=65536;omega⟩,by omega⟩
end Go.Fw.Lw
namespace Go.Fw.Lw
open Go.Fw
variable [af] {c : Mac.Cd}
def TU(q:Int×Int×Int×Int):Prop:=-1<=q.1/\q.1<=4/\0<=q.2.1/\q.2.1<=1
theorem TU.bif{b:Bool}{x y:Int×Int×Int×Int}(hx:TU x)(hy:TU y):TU (bif b then x else y):=by cases b<;>assumption
theorem TU.of{t u lo hi:Int}(h:(decide (-1<=t)&&(decide (t<=4)&&(decide (0<=u)&&decide (u<=1))))=true):TU (t,u,lo,hi):=by
 simp only[Bool.and_eq_true,decide_eq_true_eq]at h;exact h
theorem YD(c:Mac.Cd)(op:Int):-1<=(Mac.effP c op).1/\(Mac.effP c op).1<=4/\0<=(Mac.effP c op).2.1/\(Mac.effP c op).2.1<=1:=by
 show TU (Mac.effP c op)
 unfold Mac.effP
 repeat' (first |exact TU.of rfl |refine TU.bif ?_ ?_)
def bd(c:Mac.Cd)(x:Int×Int):Bool:=decide (0<=(Mac.effP c x.1).1)&&(decide ((Mac.effP c x.1).2.2.1<=x.2)&&decide (x.2<=(Mac.effP c x.1).2.2.2))
def hts(c:Mac.Cd):Ins->Int->Option Int
 | [],n=>some n
 |x::r,n=>if n<(Mac.effP c x.1).1\/n-(Mac.effP c x.1).1+(Mac.effP c x.1).2.1>64 then none else hts c r (n-(Mac.effP c x.1).1+(Mac.effP c x.1).2.1)
def mG:Ins->Int
 | []=>0
 |x::r=>(if x.1==22 then 1 else 0)+mG r
def eu:Ins->List Int
 | []=>[]
 |x::r=>if x.1==7 then x.2::eu r else eu r
theorem WM{n:Int}(h:-1000000000000<=n/\n<=1000000000000):Mac.W n=n:=bI (by omega) (by omega)
theorem Ui{x:Int×Int}{n:Int}(hn:0<=n/\n<=64):Mac.refP (Mac.effP c x.1) x.2 n=false↔bd c x=true/\¬(n<(Mac.effP c x.1).1\/n-(Mac.effP c x.1).1+(Mac.effP c x.1).2.1>64):=by
 have he:=YD c x.1
 have e1:Mac.W (n-(Mac.effP c x.1).1)=n-(Mac.effP c x.1).1:=WM (by omega)
 have e2:Mac.W (n-(Mac.effP c x.1).1+(Mac.effP c x.1).2.1)=n-(Mac.effP c x.1).1+(Mac.effP c x.1).2.1:=WM (by omega)
 unfold Mac.refP bd
 rw[e1,e2]
 generalize (Mac.effP c x.1)=q at *
 obtain⟨t,u,lo,hi⟩:=q
 simp only[Bool.cond_eq_ite,Bool.and_eq_true,decide_eq_true_eq]
 by_cases a1:t<0
 ·simp[a1];omega
 ·by_cases a2:x.2<lo
  ·simp[a1,a2];omega
  ·by_cases a3:x.2>hi
   ·simp[a1,a2,a3];omega
   ·by_cases a4:n<t
    ·simp[a1,a2,a3,a4]
    ·simp[a1,a2,a3,a4];omega
theorem Eb{l:List Bool}{i k:Nat}(hi:i<l.length):(l.set i true).getD k false=false↔l.getD k false=false/\k≠i:=by
 by_cases e:k=i
 ·subst e
  rw[List.getD_eq_getElem?_getD,List.getElem?_set_self hi];simp
 ·rw[List.getD_eq_getElem?_getD,List.getElem?_set_ne (λq=>e q.symm),<-List.getD_eq_getElem?_getD]
  simp[e]
theorem Ec(hl:c.lines.length<=1000000):∀(l:Ins) (n o:Int) (pu:List Bool),0<=n/\n<=64->0<=o->o+l.length<=1000000000->pu.length=c.lines.length ->
  (Mac.chkP c l n o pu=true↔(∀x∈l,bd c x=true)/\hts c l n=some 0/\o+mG l=1/\(eu l).Nodup/\∀a∈eu l,pu.getD a.toNat false=false)
 | [],n,o,pu,hn,ho,_,_=>by
  rw[Mac.chkP]
  simp only[hts,mG,eu,Int.add_zero,List.not_mem_nil,false_implies,implies_true,List.nodup_nil,and_true,true_and,Option.some.injEq]
  cases h1:n != 0 with
  |true=>simp only[cond_true,Bool.not_true,Bool.false_eq_true,false_iff];have:=ne_of_beq_false (show(n==0)=false by simpa using h1);omega
  |false=>
   have h1:n=0:=by simpa using h1
   simp only[cond_false,Bool.not_eq_true',bne_eq_false_iff_eq];omega
 |x::r,n,o,pu,hn,ho,hb,hp=>by
  have he:=YD c x.1
  simp only[List.length_cons]at hb
  rw[Mac.chkP]
  cases hr:Mac.refP (Mac.effP c x.1) x.2 n with
  |true=>
   rw[cond_true]
   simp only[Bool.false_eq_true,false_iff]
   rintro⟨h1,h2,_⟩
   have:Mac.refP (Mac.effP c x.1) x.2 n=false:=(Ui hn).2 ⟨h1 x (by simp),λq=>by rw[hts,if_pos q]at h2;cases h2⟩
   rw[hr]at this;cases this
  |false=>
   obtain⟨r1,r2⟩:=(Ui hn).1 hr
   have e1:Mac.W ((Mac.effP c x.1).2.1-(Mac.effP c x.1).1)=(Mac.effP c x.1).2.1-(Mac.effP c x.1).1:=WM (by omega)
   have e2:Mac.W (n+((Mac.effP c x.1).2.1-(Mac.effP c x.1).1))=n-(Mac.effP c x.1).1+(Mac.effP c x.1).2.1:=by rw[WM (by omega)];omega
   have e3:Mac.W (o+1)=o+1:=WM (by omega)
   have hn':0<=n-(Mac.effP c x.1).1+(Mac.effP c x.1).2.1/\n-(Mac.effP c x.1).1+(Mac.effP c x.1).2.1<=64:=by omega
   rw[cond_false,e1,e2,e3]
   have hh:hts c (x::r) n=hts c r (n-(Mac.effP c x.1).1+(Mac.effP c x.1).2.1):=by rw[hts,if_neg r2]
   have hbd:(∀y∈x::r,bd c y=true)↔∀y∈r,bd c y=true:=by simp[r1]
   rw[hh,hbd]
   cases h22:x.1==22 with
   |true=>
    rw[cond_true]
    have h7:(x.1==7)=false:=by have:=eq_of_beq h22;rw[this];rfl
    rw[Ec hl r _ (o+1) pu hn' (by omega) (by omega) hp]
    simp only[mG,eu,h22,h7,if_true,Bool.false_eq_true,if_false]
    rw[show o+1+mG r=o+(1+mG r)by omega]
   |false=>
    rw[cond_false]
    cases h7:x.1==7 with
    |false=>
     rw[cond_false,Ec hl r _ o pu hn' ho (by omega) hp]
     simp only[mG,eu,h22,h7,Bool.false_eq_true,if_false,Int.zero_add]
    |true=>
     rw[cond_true]
     have e7:=eq_of_beq h7
     have hx:0<=x.2/\x.2<c.lines.length:=by
      have hb7:=r1
      unfold bd at hb7
      rw[e7]at hb7
      simp only[Bool.and_eq_true,decide_eq_true_eq]at hb7
      have q1:(0:Int)<=x.2:=hb7.2.1
      have q2:x.2<=Mac.W ((c.lines.length:Int)-1):=hb7.2.2
      rw[WM (by omega)]at q2
      exact⟨q1,by omega⟩
     have hlt:x.2.toNat<pu.length:=by omega
     simp only[mG,eu,h22,h7,if_true,Bool.false_eq_true,if_false,Int.zero_add]
     cases hq:pu.getD x.2.toNat false with
     |true=>
      rw[cond_true]
      simp only[Bool.false_eq_true,false_iff]
      rintro⟨_,_,_,_,h5⟩
      have:=h5 x.2 (by simp)
      rw[hq]at this;cases this
     |false=>
      rw[cond_false,Ec hl r _ o (pu.set x.2.toNat true) hn' ho (by omega) (by rw[List.length_set];exact hp)]
      -- the bounds of what is pushed later
      constructor
      ·rintro⟨h1,h2,h3,h4,h5⟩
       refine⟨h1,h2,h3,List.nodup_cons.2 ⟨λhm=>?_,h4⟩,λa ha=>?_⟩
       ·exact((Eb hlt).1 (h5 _ hm)).2 rfl
       ·rcases List.mem_cons.1 ha with rfl |ha
        ·exact hq
        ·exact((Eb hlt).1 (h5 _ ha)).1
      ·rintro⟨h1,h2,h3,h4,h5⟩
       obtain⟨h4a,h4b⟩:=List.nodup_cons.1 h4
       refine⟨h1,h2,h3,h4b,λa ha=>(Eb hlt).2 ⟨h5 a (List.mem_cons_of_mem _ ha),λe=>?_⟩⟩
       have hpa:0<=a:=by
        have key:∀l:Ins,(∀y∈l,bd c y=true)->∀a∈eu l,0<=a:=by
         intro l
         induction l with
         |nil=>intro _ a ha;simp[eu]at ha
         |cons y l ih=>
          intro hy a ha
          rw[eu]at ha
          split at ha
          ·rename_i q
           rcases List.mem_cons.1 ha with rfl |ha
           ·have hb7:=hy y (by simp)
            unfold bd at hb7
            rw[eq_of_beq q]at hb7
            simp only[Bool.and_eq_true,decide_eq_true_eq]at hb7
            exact hb7.2.1
           ·exact ih (λz hz=>hy z (by simp[hz])) a ha
          ·exact ih (λz hz=>hy z (by simp[hz])) a ha
        exact key r h1 a ha
       have:a=x.2:=by omega
       exact h4a (this ▸ ha)
theorem Uj(hd:Mac.decP c=true)(hl:c.lines.length<=1000000)(hi:c.instrs.length<=1000000):Mac.checkP c=true↔(∀x∈c.instrs,bd c x=true)/\hts c c.instrs 0=some 0/\mG c.instrs=1/\(eu c.instrs).Nodup:=by
 rw[Mac.checkP,hd]
 show Mac.chkP c c.instrs 0 0 (List.replicate c.lines.length false)=true↔_
 rw[Ec hl c.instrs 0 0 _ (by omega) (Int.le_refl _) (by omega) List.length_replicate]
 have hp:∀a∈eu c.instrs,(List.replicate c.lines.length false).getD a.toNat false=false:=by
  intro a _
  rw[List.getD_eq_getElem?_getD,List.getElem?_replicate]
  split<;>rfl
 rw[Int.zero_add]
 exact⟨λ⟨a,b,d,e,_⟩=>⟨a,b,d,e⟩,λ⟨a,b,d,e⟩=>⟨a,b,d,e,hp⟩⟩
theorem Uk(c:Mac.Cd):∀(a b:Ins) (n:Int),hts c (a++b) n=match hts c a n with |none=>none |some m=>hts c b m
 | [],b,n=>rfl
 |x::r,b,n=>by
  rw[List.cons_append,hts,hts]
  split
  ·rfl
  ·exact Uk c r b _
theorem Ed:∀a b:Ins,mG (a++b)=mG a+mG b
 | [],b=>by rw[List.nil_append,mG,Int.zero_add]
 |x::r,b=>by rw[List.cons_append,mG,mG,Ed r b,Int.add_assoc]
theorem Ee:∀a b:Ins,eu (a++b)=eu a++eu b
 | [],b=>rfl
 |x::r,b=>by rw[List.cons_append,eu,eu];split<;>rw[Ee r b];rfl
end Go.Fw.Lw
namespace Go.Fw.Lw
open Go.Fw
variable [af]
abbrev Q4:=Int×Int×Int×Int
def E2(q r:Q4):Prop:=q.1=r.1/\q.2.1=r.2.1
theorem E2.bif{b:Bool}{x y x' y':Q4}(hx:E2 x x')(hy:E2 y y'):E2 (bif b then x else y) (bif b then x' else y'):=by cases b<;>assumption
theorem MS(c d:Mac.Cd)(op:Int):E2 (Mac.effP c op) (Mac.effP d op):=by
 unfold Mac.effP
 repeat' (first |exact⟨rfl,rfl⟩ |refine E2.bif ?_ ?_)
def E3(q r:Q4):Prop:=q.1=r.1/\q.2.2.1=r.2.2.1/\q.2.2.2<=r.2.2.2
theorem E3.bif{b:Bool}{x y x' y':Q4}(hx:E3 x x')(hy:E3 y y'):E3 (bif b then x else y) (bif b then x' else y'):=by cases b<;>assumption
structure WN(c d:Mac.Cd):Prop where
 par:c.params.length=d.params.length
 sta:c.states.length=d.states.length
 lin:c.lines.length=d.lines.length
 tab:c.tables.length=d.tables.length
 reg:-1000000<=c.regs/\c.regs<=d.regs/\d.regs<=1000000
theorem WO{c d:Mac.Cd}(h:WN c d)(op:Int):E3 (Mac.effP c op) (Mac.effP d op):=by
 have hr:Mac.W (c.regs-1)<=Mac.W (d.regs-1):=by have:=h.reg;rw[WM (by omega),WM (by omega)];omega
 unfold Mac.effP
 rw[h.par,h.sta,h.lin,h.tab]
 repeat' (first |exact⟨rfl,rfl,Int.le_refl _⟩ |exact⟨rfl,rfl,hr⟩ |refine E3.bif ?_ ?_)
theorem Ul{c d:Mac.Cd}(h:WN c d){x:Int×Int}(hb:bd c x=true):bd d x=true:=by
 obtain⟨h1,h2,h3⟩:=WO h x.1
 simp only[bd,Bool.and_eq_true,decide_eq_true_eq]at hb ⊢
 rw[<-h1,<-h2]
 exact⟨hb.1,hb.2.1,by omega⟩
theorem JH(c d:Mac.Cd):∀(l m:Ins) (n:Int),(l.map λx=>((Mac.effP c x.1).1,(Mac.effP c x.1).2.1))=(m.map λx=>((Mac.effP d x.1).1,(Mac.effP d x.1).2.1))->hts c l n=hts d m n
 | [],[],n,_=>rfl
 | [],y::m,n,h=>by simp at h
 |x::l,[],n,h=>by simp at h
 |x::l,y::m,n,h=>by
  simp only[List.map_cons,List.cons.injEq,Prod.mk.injEq]at h
  rw[hts,hts,h.1.1,h.1.2,JH c d l m _ h.2]
theorem MV(c d:Mac.Cd)(l:Ins)(n:Int):hts c l n=hts d l n:=JH c d l l n (List.map_congr_left λx _=>by rw[(MS c d x.1).1,(MS c d x.1).2])
structure Val(c:Mac.Cd)(l:Ins):Prop where
 bd:∀x∈l,bd c x=true
 ht:hts c l 0=some 0
 out:mG l=1
 psh:(eu l).Nodup
variable {c : Mac.Cd}
theorem vU(hd:Mac.decP c=true)(hl:c.lines.length<=1000000)(hi:c.instrs.length<=1000000):Mac.checkP c=true↔Val c c.instrs:=
 (Uj hd hl hi).trans ⟨λ⟨a,b,d,e⟩=>⟨a,b,d,e⟩,λh=>⟨h.bd,h.ht,h.out,h.psh⟩⟩
theorem mJ(h:Mac.checkP c=true):Mac.decP c=true:=by
 rw[Mac.checkP]at h
 cases hd:Mac.decP c with
 |true=>rfl
 |false=>rw[hd]at h;cases h
theorem uu{n:Int}(h:Mac.finP c n=true):n<=16/\(c.latency>=0/\c.latency<=4096)/\(c.tail >= -1/\c.tail<=1048576)/\(c.regs>=0/\c.regs<=65536)/\(c.instrs.length:Int)<=65536:=by
 simp only[Mac.finP,Bool.cond_false_right,Bool.and_eq_true,decide_eq_true_eq]at h
 omega
theorem z6d{n:Int}(h:n<=16/\(c.latency>=0/\c.latency<=4096)/\(c.tail >= -1/\c.tail<=1048576)/\(c.regs>=0/\c.regs<=65536)/\(c.instrs.length:Int)<=65536):Mac.finP c n=true:=by
 simp only[Mac.finP,Bool.cond_false_right,Bool.and_eq_true,decide_eq_true_eq]
 omega
theorem uw(h:Mac.decP c=true):Mac.anyB [c.params,c.states].flatten=false/\Mac.anyL c.lines=false/\Mac.anyT c.tables=false/\Mac.finP c (Mac.mostF [(c.params.length:Int),(c.states.length:Int),(c.lines.length:Int),(c.tables.length:Int)] 0 0 0).1=true:=by
 rw[Mac.decP]at h
 cases h1:Mac.anyB [c.params,c.states].flatten<;>rw[h1]at h
 ·cases h2:Mac.anyL c.lines<;>rw[h2]at h
  ·cases h3:Mac.anyT c.tables<;>rw[h3]at h
   ·exact⟨rfl,rfl,rfl,h⟩
   ·cases h
  ·cases h
 ·cases h
theorem z6e(h1:Mac.anyB [c.params,c.states].flatten=false)(h2:Mac.anyL c.lines=false)(h3:Mac.anyT c.tables=false)(h4:Mac.finP c (Mac.mostF [(c.params.length:Int),(c.states.length:Int),(c.lines.length:Int),(c.tables.length:Int)] 0 0 0).1=true):Mac.decP c=true:=by
 rw[Mac.decP,h1,h2,h3];exact h4
theorem z06(h:Mac.decP c=true){l:Ins}{r:Int}(hr:0<=r/\r<=65536)(hl:(l.length:Int)<=65536):Mac.decP { c with instrs:=l,regs:=r }=true:=by
 obtain⟨h1,h2,h3,h4⟩:=uw h
 obtain⟨a,b,d,e,f⟩:=uu h4
 exact z6e h1 h2 h3 (z6d ⟨a,b,d,⟨hr.1,hr.2⟩,hl⟩)
def MW(r:Int)(x:Int×Int):Int×Int:=if x.1==22 then(5,r)else x
theorem BX{r:Int}{x:Int×Int}(h:x.1=22):MW r x=(5,r):=by rw[MW,if_pos (by simpa using h)]
theorem OO{r:Int}{x:Int×Int}(h:¬x.1=22):MW r x=x:=by rw[MW,if_neg (by simpa using h)]
theorem MX(r:Int):∀l:Ins,eu (l.map (MW r))=eu l
 | []=>rfl
 |x::l=>by
  rw[List.map_cons,eu,eu,MX r l]
  by_cases h:x.1=22
  ·rw[BX h,h];rfl
  ·rw[OO h]
theorem MZ(r:Int):∀l:Ins,mG (l.map (MW r))=0
 | []=>rfl
 |x::l=>by
  rw[List.map_cons,mG,MZ r l]
  by_cases h:x.1=22
  ·rw[BX h];rfl
  ·rw[OO h,if_neg (by simpa using h)];rfl
theorem z07(c:Mac.Cd)(r:Int)(l:Ins)(n:Int):hts c (l.map (MW r)) n=hts c l n:=by
 refine JH c c _ _ n ?_
 rw[List.map_map]
 refine List.map_congr_left λx _=>?_
 show((Mac.effP c (MW r x).1).1,(Mac.effP c (MW r x).1).2.1)=_
 by_cases h:x.1=22
 ·rw[BX h,h];rfl
 ·rw[OO h]
theorem WP{c d:Mac.Cd}{b:Mac.Cd}(hb:b.instrs=c.instrs++d.instrs)(h1:mG c.instrs=1)(h2:mG d.instrs=1)(hl:b.lines.length<=1000000)(hi:b.instrs.length<=1000000):Mac.checkP b=false:=by
 cases hq:Mac.checkP b with
 |false=>rfl
 |true=>
  have:=((vU (mJ hq) hl hi).1 hq).out
  rw[hb,Ed]at this
  omega
theorem z08{c d b:Mac.Cd}(hc:Mac.checkP c=true)(hd:Mac.checkP d=true)(hl:c.lines.length<=1000000)(h1:(c.instrs.length:Int)<=20000)(h2:(d.instrs.length:Int)<=20000)(hr:c.regs<=1000)
  (hdc:d.params=c.params/\d.states=c.states/\d.lines=c.lines/\d.tables=c.tables) (hbr:c.regs+1<=b.regs/\d.regs<=b.regs/\(b.regs=c.regs+1\/b.regs=d.regs))
  (hbe:b = { c with instrs:=c.instrs.map (MW c.regs)++d.instrs,regs:=b.regs }):Mac.checkP b=true↔(eu (c.instrs++d.instrs)).Nodup:=by
 have hdecc:=mJ hc
 have hdecd:=mJ hd
 have hvc:=(vU hdecc hl (by omega)).1 hc
 have hvd:=(vU hdecd (by rw[hdc.2.2.1];exact hl) (by omega)).1 hd
 have rc:=(uu (uw hdecc).2.2.2).2.2.2.1
 have rd:=(uu (uw hdecd).2.2.2).2.2.2.1
 have hbr2:0<=b.regs/\b.regs<=65536:=by rcases hbr.2.2 with e |e<;>omega
 have hdecb:Mac.decP b=true:=by
  rw[hbe]
  exact z06 hdecc hbr2 (by simp only[List.length_append,List.length_map];omega)
 have hbi:b.instrs=c.instrs.map (MW c.regs)++d.instrs:=by rw[hbe]
 have hbl:b.lines=c.lines:=by rw[hbe]
 rw[vU hdecb (by rw[hbl];exact hl) (by rw[hbi];simp only[List.length_append,List.length_map];omega),hbi]
 have mc:WN c b:=⟨by rw[hbe],by rw[hbe],by rw[hbe],by rw[hbe],by omega⟩
 have md:WN d b:=⟨by rw[hdc.1,hbe],by rw[hdc.2.1,hbe],by rw[hdc.2.2.1,hbe],by rw[hdc.2.2.2,hbe],by omega⟩
 have hpu:eu (c.instrs.map (MW c.regs)++d.instrs)=eu (c.instrs++d.instrs):=by rw[Ee,Ee,MX]
 constructor
 ·intro h;rw[<-hpu];exact h.psh
 ·intro h
  refine⟨λx hx=>?_,?_,?_,by rw[hpu];exact h⟩
  ·rcases List.mem_append.1 hx with hx |hx
   ·obtain⟨y,hy,rfl⟩:=List.mem_map.1 hx
    by_cases h22:y.1=22
    ·rw[BX h22]
     have he:Mac.effP b 5=(1,0,0,b.regs-1):=by
      show(1,0,0,Mac.W (b.regs-1))=_
      rw[WM (by omega)]
     simp only[bd,he,Bool.and_eq_true,decide_eq_true_eq];omega
    ·rw[OO h22];exact Ul mc (hvc.bd y hy)
   ·exact Ul md (hvd.bd x hx)
  ·rw[Uk,z07,MV b c,hvc.ht]
   show hts b d.instrs 0=some 0
   rw[MV b d];exact hvd.ht
  ·rw[Ed,MZ,hvd.out];rfl
end Go.Fw.Lw
namespace Go.Fw.Lw
open Go.Fw Go.Fw.Ref15 Go.Fw.Rg Go.Fw.Tl
variable [af] {l : List Int} {ns : List Int} {i : Nat} {x : Ex}
theorem Um(h:l ≠ [])(hp:∀k∈l,1<=k):∃j:Nat,j<l.length/\(aY l).2=(j:Int)/\l[j]? = some (aY l).1:=by
 rcases pX l 0 0 0 with⟨_,h2⟩ |⟨j,h1,h2,_,_⟩
 ·cases l with
  |nil=>exact absurd rfl h
  |cons a r=>have:=hp a (by simp);have:=h2 a (by simp);omega
 ·exact⟨j,(List.getElem?_eq_some_iff.1 h1).1,by rw[h2];omega,h1⟩
theorem WQ(h:ns++bV []=bV x.l/\ns.length=i):ns=bV x.l:=by
 have h:=h.1
 simpa[bV]using h
theorem GL{l:List Ex}{r:List Ex}(h:ns++bV (x::r)=bV l/\ns.length=i):(ns++[ak x])++bV r=bV l/\(ns++[ak x]).length=i+1:=by
 refine⟨?_,by simp[h.2]⟩
 rw[<-h.1,bV];simp
theorem WR{k:Int}(h:k∈bV x.l):∃y∈x.l,k=ak y:=by
 rw[jF]at h
 obtain⟨y,h1,h2⟩:=List.mem_map.1 h
 exact⟨y,h1,h2.symm⟩
theorem lW{p:Pr}{n:Nat}{x y:Ex}(h:wfX p n x=true)(hy:y∈x.l):wfX p n y=true:=iC (bQ h).2.2 _ hy
theorem pY{x y:Ex}(hy:y∈x.l):Ref15.nodes y<Ref15.nodes x:=by
 have:=Ref15.nodes_eq x
 have:=mD hy
 omega
theorem WS{p:Pr}{n:Nat}(hw:wfX p n x=true)(hn:Ref15.nodes x<=512):∀k∈bV x.l,1<=k/\k<=28:=by
 intro k hk
 obtain⟨y,hy,rfl⟩:=WR hk
 have:=pY hy
 exact⟨xQ y n p (lW hw hy),z05 (lW hw hy) (by omega)⟩
theorem z09(h:(((l.length:Nat):Int)==0)=true):qm l=1:=by
 have:l.length=0:=by simpa using h
 unfold qm;rw[if_pos this]
theorem z1a(h:(((l.length:Nat):Int)==1)=true):qm l=(aY l).1:=by
 have:l.length=1:=by simp at h;omega
 unfold qm;rw[if_neg (by omega),if_pos this]
theorem z1b(h:(((l.length:Nat):Int)==2)=true):qm l=mm2 true (aY l).1 (l.getD (1-(aY l).2).toNat 0+1):=by
 have:l.length=2:=by simp at h;omega
 unfold qm;rw[if_neg (by omega),if_neg (by omega),if_pos this]
theorem z1c(h0:(((l.length:Nat):Int)==0)=false)(h1:(((l.length:Nat):Int)==1)=false)(h2:(((l.length:Nat):Int)==2)=false):qm l=qj (l.set (aY l).2.toNat 1) 0 (aY l).1:=by
 have h0:l.length≠0:=by intro e;simp[e]at h0
 have h1:l.length≠1:=by intro e;simp[e]at h1
 have h2:l.length≠2:=by intro e;simp[e]at h2
 unfold qm;rw[if_neg h0,if_neg h1,if_neg h2]
theorem Ef(h:(((l.length:Nat):Int)==2)=true)(hp:∀k∈l,1<=k/\k<=28):IntKind.i64.wrap (1-(aY l).2)=1-(aY l).2/\(0<=IntKind.i64.wrap (1-(aY l).2)/\IntKind.i64.wrap (1-(aY l).2)<(l.length:Nat)) /\
  (l.map eG)[0+(IntKind.i64.wrap (1-(aY l).2)).toNat]? = some (eG (l.getD (1-(aY l).2).toNat 0))/\IntKind.i64.wrap (l.getD (1-(aY l).2).toNat 0+1)=l.getD (1-(aY l).2).toNat 0+1:=by
 have hl:l.length=2:=by simp at h;omega
 obtain⟨j,h1,h2,h3⟩:=Um (l:=l) (by rintro rfl;simp at hl) (λk hk=>(hp k hk).1)
 have e:IntKind.i64.wrap (1-(aY l).2)=1-(aY l).2:=bI (by omega) (by omega)
 have hlt:(1-(aY l).2).toNat<l.length:=by omega
 rw[e]
 have hm:l.getD (1-(aY l).2).toNat 0∈l:=by
  rw[List.getD_eq_getElem?_getD,List.getElem?_eq_getElem hlt];exact List.getElem_mem hlt
 have:=hp _ hm
 refine⟨rfl,⟨by omega,by omega⟩,?_,bI (by omega) (by omega)⟩
 rw[Nat.zero_add,List.getElem?_map,List.getD_eq_getElem?_getD,List.getElem?_eq_getElem hlt];rfl
theorem Na(h0:(((l.length:Nat):Int)==0)=false)(hp:∀k∈l,1<=k/\k<=28):(0<=(aY l).2/\(aY l).2<(l.length:Nat))/\(l.map eG)[0+((aY l).2).toNat]? = some (eG (aY l).1):=by
 obtain⟨j,h1,h2,h3⟩:=Um (l:=l) (by rintro rfl;simp at h0) (λk hk=>(hp k hk).1)
 refine⟨by omega,?_⟩
 rw[h2,Nat.zero_add,Int.toNat_natCast,List.getElem?_map,h3];rfl
theorem z1d(k:Nat)(hp:∀k∈l,1<=k/\k<=28):∀v∈l.set k 1,1<=v/\v<=28:=by
 intro v hv
 rcases List.mem_or_eq_of_mem_set hv with h |rfl
 ·exact hp v h
 ·omega
theorem OQ{L:List Int}{k:Int}{r:List Int}{n m:Int}(h:qj (k::r) i n=m)(hd:L.drop i=k::r)(hL:L.length<=1000)(hk:∀v∈L,1<=v/\v<=28):qj r ((i+1:Nat):Int) (mm2 true n (IntKind.i64.wrap (k+i)))=m:=by
 have h1:=kL hd
 have h2:=hk k (bK hd)
 rw[bI (by omega) (by omega),<-h,qj]
 rfl
theorem WT{i v s:Nat}{a:Int}:AV.own i v s 0 (ns.length+1)=AV.own i v s 0 (ns++[a]).length:=by simp
theorem z1e{v:Int}{k:Nat}(n:Nat)(h:l.length=n):Block.arr k 1 ((l.map eG).take n++[[D.i v]])=Block.arr k 1 ((l++[v]).map eG):=by
 rw[List.take_of_length_le (by simp[h])];simp
theorem nM{v:Int}{k i:Nat}:Block.arr k 1 ((l.map eG).set (0+i) [D.i v])=Block.arr k 1 ((l.set i v).map eG):=by
 rw[Nat.zero_add,List.map_set]
theorem WU{x:Int}{r:List Int}(h:l.drop i=x::r):(l.map eG)[0+((i:Nat):Int).toNat]? = some (eG x):=by
 rw[Nat.zero_add,Int.toNat_natCast,List.getElem?_map,gX h];rfl
end Go.Fw.Lw
namespace Go.Fw.Lw
open Go.Fw Go.Fw.Ref15 Go.Fw.Rg Go.Fw.Tl
variable [af]
theorem sub_le{R:List (Int×Int)}{a b:Ex}(h:ak b<=ak a):OM [ak a,ak b] (fH R [a,b])=lG (lG (bn R a) (bn R b)) (dQ 18 0):=by
 have h:([ak a,ak b]:List Int).getD 1 0<=([ak a,ak b]:List Int).getD 0 0:=h
 unfold OM;rw[if_pos h];rfl
theorem YE{R:List (Int×Int)}{a b:Ex}(h:¬ak b<=ak a):OM [ak a,ak b] (fH R [a,b])=lG (lG (lG (bn R b) (dQ 16 0)) (bn R a)) (dQ 17 0):=by
 have h:¬([ak a,ak b]:List Int).getD 1 0<=([ak a,ak b]:List Int).getD 0 0:=h
 unfold OM;rw[if_neg h];rfl
theorem OT{y:Ex}{r:List Ex}:(0:Int)<=0/\(Ex.css (y::r))[(0:Int).toNat]? = some (Ex.cs y):=by rw[Ex.css_eq];exact⟨Int.le_refl 0,rfl⟩
theorem Un{x y:Ex}{r:List Ex}:(0:Int)<=1/\(Ex.css (x::y::r))[(1:Int).toNat]? = some (Ex.cs y):=by rw[Ex.css_eq];exact⟨by decide,rfl⟩
theorem z9f{x y z:Ex}{r:List Ex}:(0:Int)<=2/\(Ex.css (x::y::z::r))[(2:Int).toNat]? = some (Ex.cs z):=by rw[Ex.css_eq];exact⟨by decide,rfl⟩
theorem z9g{x y z u:Ex}{r:List Ex}:(0:Int)<=3/\(Ex.css (x::y::z::u::r))[(3:Int).toNat]? = some (Ex.cs u):=by rw[Ex.css_eq];exact⟨by decide,rfl⟩
theorem z6f{n:Int}(h:0<=n/\n<=1000000):IntKind.i64.wrap (n+1)=n+1:=bI (by omega) (by omega)
theorem z9h{n:Int}(h:0<=n/\n<=1000000):IntKind.i64.wrap (IntKind.i64.wrap (n+1)-1)=n:=by
 rw[z6f h,bI (by omega) (by omega)];omega
theorem z9i{op n:Int}{ns:List Int}{fs:List GF}{f g:GF}(fa:fAt fs (aY ns).2=f)(fb:fAt fs (1-(aY ns).2)=g):(g (f n).2).2=(Am op ns fs n).2:=by simp only[Am,fa,fb,lG,dQ]
theorem z1f{R:List (Int×Int)}{a b:Ex}{n:Int}(h:ak b<=ak a):(bn R b (bn R a n).2).2=(OM [ak a,ak b] (fH R [a,b]) n).2:=by rw[sub_le h];rfl
theorem z1g{R:List (Int×Int)}{a b:Ex}{n:Int}(h:¬ak b<=ak a):(bn R a (bn R b n).2).2=(OM [ak a,ak b] (fH R [a,b]) n).2:=by rw[YE h];rfl
def chW:List Ex->Int->Int->Nat
 | [],_,_=>0
 |y::r,a,i=>(if i==a then 2 else 3 * Ref15.nodes y-1)+chW r a (i+1)
def chR:List Ex->Int->Int->Nat
 | [],_,_=>0
 |y::r,a,i=>(if i==a then 0 else Ref15.nodes y)+chR r a (i+1)
structure ChI(R:List (Int×Int))(at_ reg:Int)(T:Ins×Int)(i:Nat)(r:List Ex)(ins:Ins)(n:Int):Prop where
 code:ins++(chG (fH R r) at_ reg i n).1=T.1
 regs:(chG (fH R r) at_ reg i n).2=T.2
 len:2 * ins.length+chW r at_ i+2<=2000000
 n0:0<=n
 nb:n+chR r at_ i<=1000000
variable {n : Int} {r : List Ex} {ins : Ins} {l : List Ex} {ns : List Int} {i : Nat} {x : Ex}
theorem ChI.at{R:List (Int×Int)}{at_ reg:Int}{T:Ins×Int}(h:ChI R at_ reg T i (x::r) ins n)(hc:((i:Int)==at_)=true):ChI R at_ reg T (i+1) r (ins++[(4,reg)]) n:=by
 have h1:=h.code
 have h2:=h.regs
 have h3:=h.len
 have h5:=h.nb
 rw[fH,chG,if_pos hc]at h1 h2
 rw[chW,if_pos hc]at h3
 rw[chR,if_pos hc]at h5
 refine⟨?_,h2,?_,h.n0,?_⟩
 ·rw[<-h1];show ins++[(4,reg)]++(chG (fH R r) at_ reg ((i+1:Nat):Int) n).1=ins++([(4,reg)]++(chG (fH R r) at_ reg ((i:Int)+1) n).1)
  rw[List.append_assoc];rfl
 ·rw[List.length_append];simp only[List.length_cons,List.length_nil,Int.natCast_add,Int.natCast_one];omega
 ·simp only[Int.natCast_add,Int.natCast_one];omega
theorem ChI.next{R:List (Int×Int)}{at_ reg:Int}{T:Ins×Int}(h:ChI R at_ reg T i (x::r) ins n)(hc:((i:Int)==at_)=false)(hz:Sz (bn R x) (3 * Ref15.nodes x-1) (Ref15.nodes x)):ChI R at_ reg T (i+1) r (ins++(bn R x n).1) (bn R x n).2:=by
 have h1:=h.code
 have h2:=h.regs
 have h3:=h.len
 have h5:=h.nb
 have z:=hz n
 rw[fH,chG,if_neg (by rw[hc];decide)]at h1 h2
 rw[chW,if_neg (by rw[hc];decide)]at h3
 rw[chR,if_neg (by rw[hc];decide)]at h5
 have h0:=h.n0
 refine⟨?_,h2,?_,by omega,?_⟩
 ·rw[<-h1];show ins++(bn R x n).1++(chG (fH R r) at_ reg ((i+1:Nat):Int) (bn R x n).2).1=ins++((bn R x n).1++(chG (fH R r) at_ reg ((i:Int)+1) (bn R x n).2).1)
  rw[List.append_assoc];rfl
 ·rw[List.length_append];simp only[Int.natCast_add,Int.natCast_one];omega
 ·simp only[Int.natCast_add,Int.natCast_one];omega
theorem ChI.fit{R:List (Int×Int)}{at_ reg:Int}{T:Ins×Int}(h:ChI R at_ reg T i (x::r) ins n)(hc:((i:Int)==at_)=false):2 * ins.length+3 * Ref15.nodes x<=2000000/\0<=n/\n+Ref15.nodes x<=1000000:=by
 have h3:=h.len
 have h5:=h.nb
 rw[chW,if_neg (by rw[hc];decide)]at h3
 rw[chR,if_neg (by rw[hc];decide)]at h5
 have:=dR x
 exact⟨by omega,h.n0,by omega⟩
theorem ChI.fin{R:List (Int×Int)}{at_ reg:Int}{T:Ins×Int}(h:ChI R at_ reg T i [] ins n):ins=T.1/\n=T.2:=by
 have h1:=h.code
 rw[fH,chG]at h1
 exact⟨by rw[<-h1];show ins=ins++[];rw[List.append_nil],h.regs⟩
theorem ChI.ilen{R:List (Int×Int)}{at_ reg:Int}{T:Ins×Int}(h:ChI R at_ reg T i r ins n):ins.length<=1000000:=by have:=h.len;omega
abbrev chT(R:List (Int×Int))(at_ n:Int)(l:List Ex)(y0:Ex)(ins:Ins):Ins×Int:=
 (ins++(bn R y0 (n+1)).1++[(5,n)]++(chG (fH R l) at_ n 0 (bn R y0 (n+1)).2).1,(chG (fH R l) at_ n 0 (bn R y0 (n+1)).2).2)
theorem zai{R:List (Int×Int)}{y0:Ex}(fa:fAt (fH R l) (aY ns).2=bn R y0):(chT R (aY ns).2 n l y0 ins).1++[(21,0)]=ins++(gIf ns (fH R l) n).1:=by
 simp only[gIf,fa,lG,dQ,List.append_assoc]
theorem zaj{R:List (Int×Int)}{y0:Ex}(fa:fAt (fH R l) (aY ns).2=bn R y0):(chT R (aY ns).2 n l y0 ins).2=(gIf ns (fH R l) n).2:=by
 simp only[gIf,fa,lG,dQ]
theorem z6g(hl:∀y∈l,1<=Ref15.nodes y)(a:Nat)(y0:Ex):∀i:Nat,(h:∀(j:Nat) y,l[j]? = some y->i+j=a->y=y0)->chW l a i<=3 * Ref15.nodesL l-l.length/\chR l a i<=Ref15.nodesL l/\(i<=a->a<i+l.length->chW l a i+(3 * Ref15.nodes y0-1)<=3 * Ref15.nodesL l-l.length+2/\chR l a i+Ref15.nodes y0<=Ref15.nodesL l):=by
 induction l with
 |nil=>intro i h;exact⟨Nat.zero_le _,Nat.zero_le _,λh1 h2=>by simp at h2;omega⟩
 |cons x r ih=>
  intro i h
  have hx:=hl x (by simp)
  have ih:=ih (λy hy=>hl y (by simp[hy])) (i+1) (λj y e h2=>h (j+1) y (by simpa using e) (by omega))
  have hn:Ref15.nodesL (x::r)=Ref15.nodes x+Ref15.nodesL r:=by rw[Ref15.nodesL]
  have hlr:=Ref15.len_nodes r
  rw[hn,chW,chR,List.length_cons]
  have ec:((i:Nat):Int)+1=((i+1:Nat):Int):=by omega
  rw[ec]
  by_cases e:i=a
  ·subst e
   have:=h 0 x rfl rfl
   subst this
   simp only[beq_self_eq_true,if_true]
   refine⟨by omega,by omega,λ_ _=>⟨by omega,by omega⟩⟩
  ·have e':(((i:Nat):Int)==(a:Int))=false:=by simp;omega
   simp only[e',Bool.false_eq_true,if_false]
   refine⟨by omega,by omega,λh1 h2=>?_⟩
   have:=ih.2.2 (by omega) (by omega)
   omega
theorem WV{R:List (Int×Int)}{y0:Ex}{j:Nat}(hj:(aY ns).2=(j:Int))(hy:l[j]? = some y0)(hl:l.length=4)(hz:Sz (bn R y0) (3 * Ref15.nodes y0-1) (Ref15.nodes y0))(hi:2 * ins.length+3 * (Ref15.nodesL l+1)<=2000000)(h0:0<=n)(hn:n+(Ref15.nodesL l+1)<=1000000) :
  ChI R (aY ns).2 n (chT R (aY ns).2 n l y0 ins) 0 l (ins++(bn R y0 (n+1)).1++[(5,n)]) (bn R y0 (n+1)).2:=by
 have z:=hz (n+1)
 have hu:∀(i:Nat) y,l[i]? = some y->0+i=j->y=y0:=by
  intro i y e h
  have h:i=j:=by omega
  subst h
  rw[hy]at e;exact(Option.some.inj e).symm
 have s:=z6g (l:=l) (λy _=>dR y) j y0 0 hu
 have hjl:j<4:=by have:=(List.getElem?_eq_some_iff.1 hy).1;omega
 have s2:=s.2.2 (Nat.zero_le _) (by omega)
 have hp:=dR y0
 have hs:=Ref15.len_nodes l
 refine⟨rfl,rfl,?_,by omega,?_⟩
 ·rw[hj,List.length_append,List.length_append]
  simp only[List.length_cons,List.length_nil]
  have s3:=s2.1
  simp only[Int.natCast_zero]at s3 ⊢
  omega
 ·rw[hj]
  have s3:=s2.2
  simp only[Int.natCast_zero]at s3 ⊢
  omega
theorem z1h{p:Pr}{b:Nat}(hl:p.lines.length<=16/\p.tables.length<=16)(v:V p b x)(hk:x.kind=6\/x.kind=7\/x.kind=8\/x.kind=9\/x.kind=10\/x.kind=13\/x.kind=14\/x.kind=18):IntKind.i64.wrap (x.index+x.n)=x.index+x.n:=by
 have hg:=(bQ v.wf).2.1
 have:0<=x.index+x.n/\x.index+x.n<=2147483648:=by
  rcases hk with e |e |e |e |e |e |e |e
  ·rw[v.num (by omega) (by omega),v.idx (by rw[e];rfl) (by omega) (by omega)];decide
  ·rw[v.num (by omega) (by omega),v.idx (by rw[e];rfl) (by omega) (by omega)];decide
  ·have:=z4t hg (by rw[e];rfl)
   rw[v.num (by omega) (by omega)];omega
  ·have:=z4u hg (by rw[e];rfl)
   rw[v.num (by omega) (by omega)];omega
  ·rw[v.num (by omega) (by omega),v.idx (by rw[e];rfl) (by omega) (by omega)];decide
  ·rw[v.num (by omega) (by omega),v.idx (by rw[e];rfl) (by omega) (by omega)];decide
  ·rw[v.num (by omega) (by omega),v.idx (by rw[e];rfl) (by omega) (by omega)];decide
  ·have:=own_k18' hg e
   rw[v.idx (by rw[e];rfl) (by omega) (by omega)];omega
 exact bI (by omega) (by omega)
theorem z6h{j:Nat}{i:Int}{y:Ex}(hi:i=j)(h:l[j]? = some y):0<=i/\(Ex.css l)[i.toNat]? = some (Ex.cs y):=by
 subst hi
 rw[Ex.css_eq]
 exact⟨Int.natCast_nonneg _,by rw[Int.toNat_natCast,List.getElem?_map,h];rfl⟩
theorem z1i{p:Pr}(h:o7 p=0):Res p:=by
 have hb:(aK p).2=0:=by
  apply Classical.byContradiction
  intro hn
  have:((aK p).2 != 0)=true:=by simpa using hn
  rw[o7,if_pos this]at h
  exact hn h
 exact xK (lD hb).2
theorem Uo{p:Pr}(h:Res p):p.stmts.length<=64/\p.lines.length<=16/\p.tables.length<=16:=by
 have hl:=h.li
 rw[limited_eq]at hl
 simp only[Bool.and_eq_true,few,Bool.not_eq_true',Bool.or_eq_false_iff,decide_eq_false_iff_not]at hl
 have hc:=(WL h).lim
 exact⟨by omega,hc.2.2⟩
structure vV(p:Pr)(T:Ins×Int)(i:Nat)(r:List Sm)(ins:Ins)(n:Int)(R:List (Int×Int)):Prop where
 res:Res p
 at_:p.stmts.drop i=r
 code:ins++(cmpL r i R n).1=T.1
 regs:(cmpL r i R n).2=T.2
 len:ins.length<=768 * i
 n0:0<=n
 nb:n<=513 * (i:Int)
 il:i<=64
variable {r : List Sm} {p : Pr} {ins : Ins} {i : Nat} {n : Int} {x : Sm} {tabs l : List (List Int)}
theorem Ur(h:Res p):vV p (cmpL p.stmts 0 [] 0) 0 p.stmts [] 0 []:=⟨h,rfl,rfl,rfl,Nat.zero_le _,Int.le_refl _,by omega,by omega⟩
theorem vV.fin{T:Ins×Int}{R:List (Int×Int)}(h:vV p T i [] ins n R):ins=T.1/\n=T.2:=by
 have h1:=h.code
 have h2:=h.regs
 rw[cmpL]at h1 h2
 exact⟨by rw[<-h1,List.append_nil],h2⟩
theorem vV.sv{T:Ins×Int}{R:List (Int×Int)}(h:vV p T i (x::r) ins n R):SV p i x:=YC h.res (gX h.at_)
theorem vV.fit{T:Ins×Int}{R:List (Int×Int)}(h:vV p T i (x::r) ins n R) :
  (2 * ins.length+3 * Ref15.nodes x.x<=2000000/\0<=n/\n+Ref15.nodes x.x<=1000000)/\(ins++(bn R x.x n).1).length<=1000000/\0<=(bn R x.x n).2/\(bn R x.x n).2<=1000000:=by
 have sv:=h.sv
 have z:=Uf (p:=p) (b:=i) (R:=R) x.x sv.v.wf n
 have:=sv.nd
 have:=h.len
 have:=h.n0
 have:=h.nb
 have:=h.il
 rw[List.length_append]
 refine⟨⟨by omega,by omega,by omega⟩,by omega,by omega,by omega⟩
theorem vV.nexti{T:Ins×Int}{R:List (Int×Int)}(h:vV p T i (x::r) ins n R):i<p.stmts.length/\i+1<=64:=by
 have h1:=kL h.at_
 have h2:=(Uo h.res).1
 exact⟨h1,by omega⟩
theorem vV.let_{T:Ins×Int}{R:List (Int×Int)}(h:vV p T i (x::r) ins n R)(hk:(x.kind==1)=true) :
  vV p T (i+1) r (ins++(bn R x.x n).1++[(5,(bn R x.x n).2)]) ((bn R x.x n).2+1) (mM (i:Int) (bn R x.x n).2 R):=by
 have sv:=h.sv
 have z:=Uf (p:=p) (b:=i) (R:=R) x.x sv.v.wf n
 have h1:=h.code
 have h2:=h.regs
 have:=sv.nd
 have:=h.len
 have:=h.n0
 have:=h.nb
 rw[cmpL,if_pos hk]at h1 h2
 refine⟨h.res,zk h.at_,?_,h2,?_,by omega,by rw[Int.natCast_add];omega,h.nexti.2⟩
 ·rw[<-h1];simp only[List.append_assoc]
 ·rw[List.length_append,List.length_append];simp only[List.length_cons,List.length_nil];omega
theorem vV.other{T:Ins×Int}{R:List (Int×Int)}{y:Int×Int}(h:vV p T i (x::r) ins n R)(hk:(x.kind==1)=false)(hy:(if x.kind==2 then(6,x.index)else if x.kind==3 then(7,x.index)else(22,0))=y) :
  vV p T (i+1) r (ins++(bn R x.x n).1++[y]) (bn R x.x n).2 R:=by
 have sv:=h.sv
 have z:=Uf (p:=p) (b:=i) (R:=R) x.x sv.v.wf n
 have h1:=h.code
 have h2:=h.regs
 have:=sv.nd
 have:=h.len
 have:=h.n0
 have:=h.nb
 rw[cmpL,if_neg (by rw[hk];decide),hy]at h1
 rw[cmpL,if_neg (by rw[hk];decide)]at h2
 refine⟨h.res,zk h.at_,?_,h2,?_,by omega,by rw[Int.natCast_add];omega,h.nexti.2⟩
 ·rw[<-h1];simp only[List.append_assoc]
 ·rw[List.length_append,List.length_append];simp only[List.length_cons,List.length_nil];omega
theorem vV.set_{T:Ins×Int}{R:List (Int×Int)}(h:vV p T i (x::r) ins n R)(h1:(x.kind==1)=false)(h2:(x.kind==2)=true) :
  vV p T (i+1) r (ins++(bn R x.x n).1++[(6,x.index)]) (bn R x.x n).2 R:=h.other h1 (if_pos h2)
theorem vV.push_{T:Ins×Int}{R:List (Int×Int)}(h:vV p T i (x::r) ins n R)(h1:(x.kind==1)=false)(h2:(x.kind==2)=false)(h3:(x.kind==3)=true) :
  vV p T (i+1) r (ins++(bn R x.x n).1++[(7,x.index)]) (bn R x.x n).2 R:=h.other h1 (by rw[if_neg (by rw[h2];decide),if_pos h3])
theorem vV.out_{T:Ins×Int}{R:List (Int×Int)}(h:vV p T i (x::r) ins n R)(h1:(x.kind==1)=false)(h2:(x.kind==2)=false)(h3:(x.kind==3)=false) :
  vV p T (i+1) r (ins++(bn R x.x n).1++[(22,0)]) (bn R x.x n).2 R:=h.other h1 (by rw[if_neg (by rw[h2];decide),if_neg (by rw[h3];decide)])
theorem vV.no{T:Ins×Int}{R:List (Int×Int)}{P:Prop}(h:vV p T i (x::r) ins n R)(h1:(x.kind==1)=false)(h2:(x.kind==2)=false)(h3:(x.kind==3)=false)(h4:(x.kind==4)=false):P:=by
 rcases h.sv.kd with e |e |e |e
 ·rw[e]at h1;exact absurd h1 (by decide)
 ·rw[e]at h2;exact absurd h2 (by decide)
 ·rw[e]at h3;exact absurd h3 (by decide)
 ·rw[e]at h4;exact absurd h4 (by decide)
theorem z6i{k v w:Int}{R:List (Int×Int)}(h:lkA k (mM k v R)=some w):w=v:=by
 rw[zM,if_pos (by simp)]at h;exact(Option.some.inj h).symm
theorem z1j{k v:Int}{R:List (Int×Int)}{P:Prop}(h:lkA k (mM k v R)=none):P:=by
 rw[zM,if_pos (by simp)]at h;cases h
theorem z1k(h:tabs++([]:List Tb).map Tb.values=l):tabs=l:=by simpa using h
theorem WW{r:List Tb}(h:tabs++r.map Tb.values=l):tabs.length<=l.length:=by rw[<-h];simp
theorem WX{x:Tb}{r:List Tb}(h:tabs++(x::r).map Tb.values=l):tabs++[x.values]++r.map Tb.values=l:=by rw[<-h];simp
end Go.Fw.Lw
namespace Go.Fw.Lw
open Go.Fw
variable [af]
abbrev W(n:Int):Int:=IntKind.i64.wrap n
def getI{α:Type}(l:List α)(i:Int):Option α:=if 0<=i then l[i.toNat]? else none
def rF(n lo hi:Int):Int:=bif decide (n<lo)then lo else bif decide (n>hi)then hi else n
def OU(a b:Int):Int:=
 bif (bif decide (b>0)then decide (a>W (4611686018427387904-b))else false)then 4611686018427387904 else
 bif (bif decide (b<0)then decide (a<W (-4611686018427387904-b))else false)then -4611686018427387904 else W (a+b)
def WY(n:Int):Int:=bif decide (n<0)then W (0-n)else n
def z1l(a b:Int):Int:=bif decide (WY a<=W (Int.tdiv 4611686018427387904 (WY b)))then W (WY a * WY b)else 4611686018427387904
def GM(a b:Int):Int:=
 bif (bif a==0 then true else b==0)then 0 else
 bif !(decide (a<0)==decide (b<0))then W (0-z1l a b)else z1l a b
def WZ(n d:Int):Int:=bif decide (W (W (n.tdiv d) * d)>n)then W (W (n.tdiv d)-1)else W (n.tdiv d)
def Us(v:Int):Int:=mm2 true (-2147483648) (mm2 false v 2147483647)
def Pq(c:Mac.Cd)(inp sid:List Int)(s:Mac.Sta)(op a v:Int):Option Int:=
 if op==8 then getI inp (rF v 0 c.latency)
 else if op==9 then getI sid (rF v 0 c.latency)
 else if op==10 then(match getI s.lines a,getI c.lines a with
  |some l,some b=>getI l (rF v 0 (W (b.size-1)))
  |_,_=>none)
 else if op==11 then(match getI c.tables a with
  |some t=>getI t (rF v 0 (W ((t.length:Int)-1)))
  |none=>none)
 else if op==12 then some (Us v)
 else if op==15 then some (WY v)
 else if op==16 then some (W (0-v))
 else if a==0 then none else some (WZ v a)
def W9(op a b:Int):Option Int:=
 if op==13 then some (mm2 false a b)
 else if op==14 then some (mm2 true a b)
 else if op==17 then some (OU a b)
 else if op==18 then some (OU a (W (0-b)))
 else if decide (-4611686018427387904<=b)&&decide (b<=4611686018427387904)then some (GM a b)else none
structure PQ where
 stack:List Int
 regs:List Int
 values:List Int
 pushed:List Bool
 last:List Int
 out:Int
instance:Inhabited PQ:=⟨⟨[],[],[],[],[],0⟩⟩
abbrev tk(x:Int×Int):Int:=(Mac.takesR x.1).1
abbrev ps(x:Int×Int):Int:=(Mac.takesR x.1).2.1
def UR(c:Mac.Cd)(inp sid:List Int)(s:Mac.Sta)(x:Int×Int)(l:List Int):Option Int:=
 if tk x==1 then(match l with
  |v::_=>if ps x==1 then Pq c inp sid s x.1 x.2 v else some v
  | []=>none)
 else if tk x==2 then(match l with
  |a::b::_=>W9 x.1 a b
  |_=>none)
 else if tk x==4 then(match l with
  |a::b::c::d::_=>some (bif decide (a<b)then c else d)
  |_=>none)
 else some 0
def putO(par:List Int)(x:Int×Int)(v:Int)(q:PQ):Option (Int×PQ):=
 if x.1==1 then some (x.2,q)
 else if x.1==2 then(getI par x.2).map λw=>(w,q)
 else if x.1==3 then(getI q.values x.2).map λw=>(w,q)
 else if x.1==4 then(getI q.regs x.2).map λw=>(w,q)
 else if x.1==5 then(if decide (0<=x.2)&&decide (x.2<q.regs.length)then some (v,{ q with regs:=q.regs.set x.2.toNat v })else none)
 else if x.1==6 then(if decide (0<=x.2)&&decide (x.2<q.values.length)then some (v,{ q with values:=q.values.set x.2.toNat v })else none)
 else if x.1==7 then(if decide (0<=x.2)&&(decide (x.2<q.pushed.length)&&decide (x.2<q.last.length))then some (v,{ q with pushed:=q.pushed.set x.2.toNat true,last:=q.last.set x.2.toNat v })else none)
 else if x.1==22 then some (v,{ q with out:=v })
 else some (v,q)
def restN(x:Int×Int)(q:PQ):Nat:=q.stack.length-(tk x).toNat
def z1m(c:Mac.Cd)(par inp sid:List Int)(s:Mac.Sta)(x:Int×Int)(q:PQ):Option PQ:=
 if decide (tk x<=q.stack.length)&&decide (q.stack.length<=1000000)then
  match UR c inp sid s x (q.stack.drop (restN x q))with
  |none=>none
  |some v=>match putO par x v { q with stack:=q.stack.take (restN x q) } with
   |none=>none
   |some (w,q')=>some (if ps x==1 then { q' with stack:=q'.stack++[rF w (-4611686018427387904) 4611686018427387904] } else q')
 else none
def Xa(c:Mac.Cd)(par inp sid:List Int)(s:Mac.Sta):List (Int×Int)->PQ->Option PQ
 | [],q=>some q
 |x::r,q=>match z1m c par inp sid s x q with
  |none=>none
  |some q'=>Xa c par inp sid s r q'
def JI(q:PQ)(i:Nat)(l:List Int):Option (List Int):=
 match q.pushed[i]? with
 |none=>none
 |some false=>some l
 |some true=>match q.last[i]? with
  |none=>none
  |some v=>if l.length=0 then none else some (v::l.take (l.length-1))
def uy(s:Mac.Sta)(q:PQ):List Ln->Nat->Option (List (List Int))
 | [],_=>some []
 |_::r,i=>match s.lines[i]? with
  |none=>none
  |some l=>match JI q i l with
   |none=>none
   |some m=>match uy s q r (i+1)with
    |none=>none
    |some k=>some (m::k)
def BZ(c:Mac.Cd)(s:Mac.Sta):PQ:=⟨[],List.replicate c.regs.toNat 0,s.values,List.replicate c.lines.length false,List.replicate c.lines.length 0,0⟩
def Eg(c:Mac.Cd)(par inp sid:List Int)(s:Mac.Sta):Option (Int×Mac.Sta):=
 match Xa c par inp sid s c.instrs (BZ c s)with
 |none=>none
 |some q=>match uy s q c.lines 0 with
  |none=>none
  |some l=>some (q.out,⟨q.values,l⟩)
theorem lX{α β:Type}{l:List α}{f:α->β}{i:Int}{v:α}(h:getI l i=some v):0<=i/\(l.map f)[i.toNat]? = some (f v):=by
 unfold getI at h
 split at h
 ·rename_i h0;exact⟨h0,by rw[List.getElem?_map,h];rfl⟩
 ·cases h
section
variable {c : Mac.Cd} {inp sid : List Int} {s : Mac.Sta} {op a v r : Int} (hO : Pq c inp sid s op a v = some r)
include hO
theorem z9j(h:(op==8)=true):getI inp (rF v 0 c.latency)=some r:=by rw[Pq,if_pos h]at hO;exact hO
theorem z9k(h8:(op==8)=false)(h:(op==9)=true):getI sid (rF v 0 c.latency)=some r:=by rw[Pq,if_neg (by rw[h8];decide),if_pos h]at hO;exact hO
theorem z6j(h8:(op==8)=false)(h9:(op==9)=false)(h:(op==10)=true):∃l b,getI s.lines a=some l/\getI c.lines a=some b/\getI l (rF v 0 (W (b.size-1)))=some r:=by
 rw[Pq,if_neg (by rw[h8];decide),if_neg (by rw[h9];decide),if_pos h]at hO
 cases h1:getI s.lines a with
 |none=>rw[h1]at hO;cases hO
 |some l=>cases h2:getI c.lines a with
  |none=>rw[h1,h2]at hO;cases hO
  |some b=>rw[h1,h2]at hO;exact⟨l,b,rfl,rfl,hO⟩
theorem z6k(h8:(op==8)=false)(h9:(op==9)=false)(h10:(op==10)=false)(h:(op==11)=true):∃t,getI c.tables a=some t/\getI t (rF v 0 (W ((t.length:Int)-1)))=some r:=by
 rw[Pq,if_neg (by rw[h8];decide),if_neg (by rw[h9];decide),if_neg (by rw[h10];decide),if_pos h]at hO
 cases h1:getI c.tables a with
 |none=>rw[h1]at hO;cases hO
 |some t=>rw[h1]at hO;exact⟨t,rfl,hO⟩
theorem z6l(h8:(op==8)=false)(h9:(op==9)=false)(h10:(op==10)=false)(h11:(op==11)=false)(h:(op==12)=true):Us v=r:=by
 rw[Pq,if_neg (by rw[h8];decide),if_neg (by rw[h9];decide),if_neg (by rw[h10];decide),if_neg (by rw[h11];decide),if_pos h]at hO;exact Option.some.inj hO
theorem z6m(h8:(op==8)=false)(h9:(op==9)=false)(h10:(op==10)=false)(h11:(op==11)=false)(h12:(op==12)=false)(h:(op==15)=true):WY v=r:=by
 rw[Pq,if_neg (by rw[h8];decide),if_neg (by rw[h9];decide),if_neg (by rw[h10];decide),if_neg (by rw[h11];decide),if_neg (by rw[h12];decide),if_pos h]at hO;exact Option.some.inj hO
theorem z6n(h8:(op==8)=false)(h9:(op==9)=false)(h10:(op==10)=false)(h11:(op==11)=false)(h12:(op==12)=false)(h15:(op==15)=false)(h:(op==16)=true):W (0-v)=r:=by
 rw[Pq,if_neg (by rw[h8];decide),if_neg (by rw[h9];decide),if_neg (by rw[h10];decide),if_neg (by rw[h11];decide),if_neg (by rw[h12];decide),if_neg (by rw[h15];decide),if_pos h]at hO;exact Option.some.inj hO
theorem YF(h8:(op==8)=false)(h9:(op==9)=false)(h10:(op==10)=false)(h11:(op==11)=false)(h12:(op==12)=false)(h15:(op==15)=false)(h:(op==16)=false):a≠0/\WZ v a=r:=by
 rw[Pq,if_neg (by rw[h8];decide),if_neg (by rw[h9];decide),if_neg (by rw[h10];decide),if_neg (by rw[h11];decide),if_neg (by rw[h12];decide),if_neg (by rw[h15];decide),if_neg (by rw[h];decide)]at hO
 split at hO
 ·cases hO
 ·rename_i h0;exact⟨by simpa using h0,Option.some.inj hO⟩
end
section
variable {op a b r : Int} (hO : W9 op a b = some r)
include hO
theorem z6o(h:(op==13)=true):mm2 false a b=r:=by rw[W9,if_pos h]at hO;exact Option.some.inj hO
theorem z6p(h13:(op==13)=false)(h:(op==14)=true):mm2 true a b=r:=by rw[W9,if_neg (by rw[h13];decide),if_pos h]at hO;exact Option.some.inj hO
theorem z6q(h13:(op==13)=false)(h14:(op==14)=false)(h:(op==17)=true):OU a b=r:=by rw[W9,if_neg (by rw[h13];decide),if_neg (by rw[h14];decide),if_pos h]at hO;exact Option.some.inj hO
theorem z6r(h13:(op==13)=false)(h14:(op==14)=false)(h17:(op==17)=false)(h:(op==18)=true):OU a (W (0-b))=r:=by rw[W9,if_neg (by rw[h13];decide),if_neg (by rw[h14];decide),if_neg (by rw[h17];decide),if_pos h]at hO;exact Option.some.inj hO
theorem YG(h13:(op==13)=false)(h14:(op==14)=false)(h17:(op==17)=false)(h:(op==18)=false):(-4611686018427387904<=b/\b<=4611686018427387904)/\GM a b=r:=by
 rw[W9,if_neg (by rw[h13];decide),if_neg (by rw[h14];decide),if_neg (by rw[h17];decide),if_neg (by rw[h];decide)]at hO
 split at hO
 ·rename_i h0;simp only[Bool.and_eq_true,decide_eq_true_eq]at h0;exact⟨h0,Option.some.inj hO⟩
 ·cases hO
end
theorem z6s{a b:Int}(h:(bif a==0 then true else b==0)=false):b≠0:=by
 intro e;subst e
 revert h;cases (a==0)<;>simp
theorem z6t{b:Int}(hb:-4611686018427387904<=b/\b<=4611686018427387904)(h:decide (b<0)=true):IntKind.i64.wrap (0-b)≠0:=by
 have:=of_decide_eq_true h
 rw[bI (by omega) (by omega)];omega
section
variable (c : Mac.Cd) (par inp sid : List Int) (s : Mac.Sta)
def zQ(x:Int×Int)(q:PQ):Int:=(UR c inp sid s x (q.stack.drop (restN x q))).getD 0
def Pv(x:Int×Int)(q:PQ):PQ:={ q with stack:=q.stack.take (restN x q) }
def xR(x:Int×Int)(q:PQ):Int×PQ:=(putO par x (zQ c inp sid s x q) (Pv x q)).getD default
def Ut(x:Int×Int)(q:PQ):PQ:={ (xR c par inp sid s x q).2 with stack:=if ps x==1 then q.stack.take (restN x q)++[rF (xR c par inp sid s x q).1 (-4611686018427387904) 4611686018427387904]else q.stack.take (restN x q) }
end
theorem GN{par:List Int}{x:Int×Int}{v w:Int}{q q':PQ}(h:putO par x v q=some (w,q')):q'.stack=q.stack/\q'.regs.length=q.regs.length/\q'.values.length=q.values.length/\q'.pushed.length=q.pushed.length/\q'.last.length=q.last.length:=by
 unfold putO at h
 repeat' split at h
 all_goals first |(cases h;done) |skip
 all_goals first
  |(obtain⟨_,rfl⟩:=Prod.mk.inj (Option.some.inj h);exact⟨rfl,by simp,by simp,by simp,by simp⟩)
  |(rw[Option.map_eq_some_iff]at h;obtain⟨_,_,h⟩:=h;obtain⟨_,rfl⟩:=Prod.mk.inj h;exact⟨rfl,rfl,rfl,rfl,rfl⟩)
structure PI(c:Mac.Cd)(par inp sid:List Int)(s:Mac.Sta)(F:PQ)(r:List (Int×Int))(row:List Int)(m:Nat)(q:PQ):Prop where
 run:Xa c par inp sid s r q=some F
 st:q.stack=row.take m
 le:m<=row.length
 lr:q.regs.length=c.regs.toNat
 lv:q.values.length=s.values.length
 lp:q.pushed.length=c.lines.length
 ll:q.last.length=c.lines.length
section
variable {c : Mac.Cd} {par inp sid : List Int} {s : Mac.Sta} {F : PQ} {x : Int × Int} {r : List (Int × Int)} {row : List Int} {m : Nat} {q : PQ}
theorem PI.sl(h:PI c par inp sid s F r row m q):q.stack.length=m:=by rw[h.st,List.length_take];have:=h.le;omega
def T4(e:Int×Int×Bool):Prop:=0<=e.1/\e.1<=4
theorem T4.bif{b:Bool}{x y:Int×Int×Bool}(hx:T4 x)(hy:T4 y):T4 (bif b then x else y):=by cases b<;>assumption
theorem T4.of{t u:Int}{k:Bool}(h:(decide (0<=t)&&decide (t<=4))=true):T4 (t,u,k):=by
 simp only[Bool.and_eq_true,decide_eq_true_eq]at h;exact h
theorem z6u(x:Int×Int):0<=tk x/\tk x<=4:=by
 have:T4 (Mac.takesR x.1):=by
  unfold Mac.takesR
  repeat' (first |exact T4.of rfl |refine T4.bif ?_ ?_)
 exact this
theorem PI.step(h:PI c par inp sid s F (x::r) row m q):tk x<=m/\m<=1000000/\UR c inp sid s x (q.stack.drop (restN x q))=some (zQ c inp sid s x q)/\putO par x (zQ c inp sid s x q) (Pv x q)=some (xR c par inp sid s x q)/\Xa c par inp sid s r (Ut c par inp sid s x q)=some F:=by
 have hr:=h.run
 have hsl:=h.sl
 rw[Xa]at hr
 cases hs:z1m c par inp sid s x q with
 |none=>rw[hs]at hr;cases hr
 |some q'=>
  rw[hs]at hr
  rw[z1m]at hs
  split at hs
  ·rename_i hc
   simp only[Bool.and_eq_true,decide_eq_true_eq,hsl]at hc
   cases ha:UR c inp sid s x (q.stack.drop (restN x q))with
   |none=>rw[ha]at hs;cases hs
   |some v=>
    rw[ha]at hs
    dsimp only at hs
    have ev:zQ c inp sid s x q=v:=by rw[zQ,ha];rfl
    cases hp:putO par x v { q with stack:=q.stack.take (restN x q) } with
    |none=>rw[hp]at hs;cases hs
    |some w=>
     obtain⟨w,q1⟩:=w
     rw[hp]at hs
     have ep:xR c par inp sid s x q=(w,q1):=by rw[xR,ev];show(putO par x v { q with stack:=q.stack.take (restN x q) }).getD default=_;rw[hp];rfl
     refine⟨hc.1,by have:=hc.2;omega,by rw[ev],by rw[ev,ep];exact hp,?_⟩
     have hst:=(GN hp).1
     have e:Ut c par inp sid s x q=q':=by
      have hs:=Option.some.inj hs
      rw[<-hs,Ut,ep]
      by_cases h1:(ps x==1)=true
      ·simp only[h1,if_true,hst]
      ·simp only[h1,if_false,Bool.false_eq_true]
       cases q1
       simp only at hst ⊢
       rw[hst]
     rw[e];exact hr
  ·cases hs
theorem PI.rest(h:PI c par inp sid s F (x::r) row m q):restN x q=m-(tk x).toNat/\restN x q<=m/\W ((m:Int)-tk x)=(restN x q:Nat)/\(0<=W ((m:Int)-tk x)/\W ((m:Int)-tk x)<=m):=by
 have hs:=h.step
 have ht:=z6u x
 have e:restN x q=m-(tk x).toNat:=by rw[restN,h.sl]
 have ew:W ((m:Int)-tk x)=(restN x q:Nat):=by rw[W,bI (by omega) (by omega),e];omega
 refine⟨e,by omega,ew,?_,?_⟩<;>rw[ew]<;>omega
def YH(x:Int×Int)(row:List Int)(k:Nat)(w:Int):List Int:=if ps x==1 then row.take k++[rF w (-4611686018427387904) 4611686018427387904]else row
def mN(x:Int×Int)(k:Nat):Nat:=if ps x==1 then k+1 else k
def Xb(x:Int×Int)(v:Nat):Nat:=if ps x==1 then v+1 else v
theorem PI.next(h:PI c par inp sid s F (x::r) row m q):PI c par inp sid s F r (YH x row (restN x q) (xR c par inp sid s x q).1) (mN x (restN x q)) (Ut c par inp sid s x q):=by
 obtain⟨h1,h2,h3,h4,h5⟩:=h.step
 have hp:=GN (show putO par x (zQ c inp sid s x q) (Pv x q)=some ((xR c par inp sid s x q).1,(xR c par inp sid s x q).2)from h4)
 have hr:=h.rest
 have hle:=h.le
 have e:q.stack.take (restN x q)=row.take (restN x q):=by rw[h.st,List.take_take,Nat.min_eq_left hr.2.1]
 refine⟨h5,?_,?_,hp.2.1.trans h.lr,hp.2.2.1.trans h.lv,hp.2.2.2.1.trans h.lp,hp.2.2.2.2.trans h.ll⟩
 ·show(if ps x==1 then _ else _)=_
  unfold YH mN
  split
  ·rw[e,List.take_of_length_le (l:=row.take (restN x q)++_)]
   simp only[List.length_append,List.length_take,List.length_cons,List.length_nil];omega
  ·exact e
 ·unfold YH mN
  split
  ·simp only[List.length_append,List.length_take,List.length_cons,List.length_nil];omega
  ·omega
theorem z9l{i v k:Nat}(h:(ps x==1)=true):AV.own i (v+1) 1 0 (k+1)=AV.own i (Xb x v) 1 0 (mN x k):=by rw[Xb,mN,if_pos h,if_pos h]
theorem z9m{i v k:Nat}(h:(ps x==1)=false):AV.own i v 1 0 k=AV.own i (Xb x v) 1 0 (mN x k):=by rw[Xb,mN,if_neg (by rw[h];decide),if_neg (by rw[h];decide)]
theorem z9n{v k:Nat}{w:Int}(h:(ps x==1)=true):Block.arr (v+1) 1 ((row.map eG).take k++[[D.i (rF w (-4611686018427387904) 4611686018427387904)]])=Block.arr (Xb x v) 1 ((YH x row k w).map eG):=by
 rw[Xb,YH,if_pos h,if_pos h,List.map_append,List.map_take];rfl
theorem z9o{v k:Nat}{w:Int}(h:(ps x==1)=false):Block.arr v 1 (row.map eG)=Block.arr (Xb x v) 1 ((YH x row k w).map eG):=by
 rw[Xb,YH,if_neg (by rw[h];decide),if_neg (by rw[h];decide)]
theorem PI.args(h:PI c par inp sid s F (x::r) row m q):([]:List (List D))++((row.map eG).drop (0+(W ((m:Int)-tk x)).toNat)).take (m-(W ((m:Int)-tk x)).toNat)=(q.stack.drop (restN x q)).map eG:=by
 have hr:=h.rest
 rw[hr.2.2.1,Int.toNat_natCast,Nat.zero_add,List.nil_append,h.st,List.drop_take,List.map_take,List.map_drop]
section
variable (h : PI c par inp sid s F (x :: r) row m q)
include h
theorem PI.a1(h1:(tk x==1)=true):(0:Int)<=0/\((q.stack.drop (restN x q)).map eG)[(0:Int).toNat]? = some (eG ((q.stack.drop (restN x q)).getD 0 0)):=by
 have ha:=h.step.2.2.1
 unfold UR at ha
 rw[if_pos h1]at ha
 refine⟨Int.le_refl 0,?_⟩
 cases hd:q.stack.drop (restN x q)with
 |nil=>rw[hd]at ha;cases ha
 |cons v t=>rfl
theorem PI.a1o(h1:(tk x==1)=true)(h2:(ps x==1)=true):Pq c inp sid s x.1 x.2 ((q.stack.drop (restN x q)).getD 0 0)=some (zQ c inp sid s x q):=by
 have ha:=h.step.2.2.1
 unfold UR at ha
 rw[if_pos h1]at ha
 cases hd:q.stack.drop (restN x q)with
 |nil=>rw[hd]at ha;cases ha
 |cons v t=>rw[hd]at ha;simp only[h2,if_true]at ha;exact ha
theorem PI.a1v(h1:(tk x==1)=true)(h2:(ps x==1)=false):(q.stack.drop (restN x q)).getD 0 0=zQ c inp sid s x q:=by
 have ha:=h.step.2.2.1
 unfold UR at ha
 rw[if_pos h1]at ha
 cases hd:q.stack.drop (restN x q)with
 |nil=>rw[hd]at ha;cases ha
 |cons v t=>rw[hd]at ha;simp only[h2,Bool.false_eq_true,if_false]at ha;exact Option.some.inj ha
theorem PI.a2(h1:(tk x==1)=false)(h2:(tk x==2)=true):((0:Int)<=0/\((q.stack.drop (restN x q)).map eG)[(0:Int).toNat]? = some (eG ((q.stack.drop (restN x q)).getD 0 0)))/\((0:Int)<=1/\((q.stack.drop (restN x q)).map eG)[(1:Int).toNat]? = some (eG ((q.stack.drop (restN x q)).getD 1 0))) /\
  W9 x.1 ((q.stack.drop (restN x q)).getD 0 0) ((q.stack.drop (restN x q)).getD 1 0)=some (zQ c inp sid s x q):=by
 have ha:=h.step.2.2.1
 unfold UR at ha
 rw[if_neg (by rw[h1];decide),if_pos h2]at ha
 match hd:q.stack.drop (restN x q)with
 | []=>rw[hd]at ha;cases ha
 | [v]=>rw[hd]at ha;cases ha
 |a::b::t=>rw[hd]at ha;exact⟨⟨Int.le_refl 0,rfl⟩,⟨by decide,rfl⟩,ha⟩
theorem PI.a4(h1:(tk x==1)=false)(h2:(tk x==2)=false)(h4:(tk x==4)=true):(((0:Int)<=0/\((q.stack.drop (restN x q)).map eG)[(0:Int).toNat]? = some (eG ((q.stack.drop (restN x q)).getD 0 0)))/\((0:Int)<=1/\((q.stack.drop (restN x q)).map eG)[(1:Int).toNat]? = some (eG ((q.stack.drop (restN x q)).getD 1 0))) /\
  ((0:Int)<=2/\((q.stack.drop (restN x q)).map eG)[(2:Int).toNat]? = some (eG ((q.stack.drop (restN x q)).getD 2 0)))/\((0:Int)<=3/\((q.stack.drop (restN x q)).map eG)[(3:Int).toNat]? = some (eG ((q.stack.drop (restN x q)).getD 3 0)))) /\
  (bif decide ((q.stack.drop (restN x q)).getD 0 0<(q.stack.drop (restN x q)).getD 1 0)then(q.stack.drop (restN x q)).getD 2 0 else(q.stack.drop (restN x q)).getD 3 0)=zQ c inp sid s x q:=by
 have ha:=h.step.2.2.1
 unfold UR at ha
 rw[if_neg (by rw[h1];decide),if_neg (by rw[h2];decide),if_pos h4]at ha
 match hd:q.stack.drop (restN x q)with
 | []=>rw[hd]at ha;cases ha
 | [v]=>rw[hd]at ha;cases ha
 | [v,_]=>rw[hd]at ha;cases ha
 | [v,_,_]=>rw[hd]at ha;cases ha
 |a::b::d::e::t=>rw[hd]at ha;exact⟨⟨⟨Int.le_refl 0,rfl⟩,⟨by decide,rfl⟩,⟨by decide,rfl⟩,⟨by decide,rfl⟩⟩,Option.some.inj ha⟩
theorem PI.a4t(h1:(tk x==1)=false)(h2:(tk x==2)=false)(h4:(tk x==4)=true)(hl:decide ((q.stack.drop (restN x q)).getD 0 0<(q.stack.drop (restN x q)).getD 1 0)=true):(q.stack.drop (restN x q)).getD 2 0=zQ c inp sid s x q:=by
 have:=(h.a4 h1 h2 h4).2;rw[hl]at this;exact this
theorem PI.a4f(h1:(tk x==1)=false)(h2:(tk x==2)=false)(h4:(tk x==4)=true)(hl:decide ((q.stack.drop (restN x q)).getD 0 0<(q.stack.drop (restN x q)).getD 1 0)=false):(q.stack.drop (restN x q)).getD 3 0=zQ c inp sid s x q:=by
 have:=(h.a4 h1 h2 h4).2;rw[hl]at this;exact this
theorem PI.a0(h1:(tk x==1)=false)(h2:(tk x==2)=false)(h4:(tk x==4)=false):0=zQ c inp sid s x q:=by
 have ha:=h.step.2.2.1
 unfold UR at ha
 rw[if_neg (by rw[h1];decide),if_neg (by rw[h2];decide),if_neg (by rw[h4];decide)]at ha
 exact Option.some.inj ha
theorem PI.pe1(h1:(x.1==1)=true):xR c par inp sid s x q=(x.2,Pv x q):=by
 have hp:=h.step.2.2.2.1
 unfold putO at hp
 rw[if_pos h1]at hp
 exact(Option.some.inj hp).symm
theorem PI.pe2(h1:(x.1==1)=false)(h2:(x.1==2)=true):xR c par inp sid s x q=(par.getD x.2.toNat 0,Pv x q)/\(0<=x.2/\(par.map eG)[x.2.toNat]? = some (eG (par.getD x.2.toNat 0)))/\x.2<(par.length:Nat):=by
 have hp:=h.step.2.2.2.1
 unfold putO at hp
 rw[if_neg (by rw[h1];decide),if_pos h2]at hp
 rw[Option.map_eq_some_iff]at hp
 obtain⟨w,h0,hp⟩:=hp
 have h0:getI par x.2=some w:=h0
 have h00:=h0
 unfold getI at h0
 split at h0
 ·rename_i hx
  have e:par.getD x.2.toNat 0=w:=by rw[List.getD_eq_getElem?_getD,h0];rfl
  rw[e,<-hp]
  have:=(List.getElem?_eq_some_iff.1 h0).1
  exact⟨rfl,lX h00,by omega⟩
 ·cases h0
theorem PI.pe3(h1:(x.1==1)=false)(h2:(x.1==2)=false)(h3:(x.1==3)=true):xR c par inp sid s x q=(q.values.getD x.2.toNat 0,Pv x q)/\(0<=x.2/\(q.values.map eG)[x.2.toNat]? = some (eG (q.values.getD x.2.toNat 0)))/\x.2<(q.values.length:Nat):=by
 have hp:=h.step.2.2.2.1
 unfold putO at hp
 rw[if_neg (by rw[h1];decide),if_neg (by rw[h2];decide),if_pos h3]at hp
 rw[Option.map_eq_some_iff]at hp
 obtain⟨w,h0,hp⟩:=hp
 have h0:getI q.values x.2=some w:=h0
 have h00:=h0
 unfold getI at h0
 split at h0
 ·rename_i hx
  have e:q.values.getD x.2.toNat 0=w:=by rw[List.getD_eq_getElem?_getD,h0];rfl
  rw[e,<-hp]
  have:=(List.getElem?_eq_some_iff.1 h0).1
  exact⟨rfl,lX h00,by omega⟩
 ·cases h0
theorem PI.pe4(h1:(x.1==1)=false)(h2:(x.1==2)=false)(h3:(x.1==3)=false)(h4:(x.1==4)=true):xR c par inp sid s x q=(q.regs.getD x.2.toNat 0,Pv x q)/\(0<=x.2/\(q.regs.map eG)[x.2.toNat]? = some (eG (q.regs.getD x.2.toNat 0)))/\x.2<(q.regs.length:Nat):=by
 have hp:=h.step.2.2.2.1
 unfold putO at hp
 rw[if_neg (by rw[h1];decide),if_neg (by rw[h2];decide),if_neg (by rw[h3];decide),if_pos h4]at hp
 rw[Option.map_eq_some_iff]at hp
 obtain⟨w,h0,hp⟩:=hp
 have h0:getI q.regs x.2=some w:=h0
 have h00:=h0
 unfold getI at h0
 split at h0
 ·rename_i hx
  have e:q.regs.getD x.2.toNat 0=w:=by rw[List.getD_eq_getElem?_getD,h0];rfl
  rw[e,<-hp]
  have:=(List.getElem?_eq_some_iff.1 h0).1
  exact⟨rfl,lX h00,by omega⟩
 ·cases h0
theorem PI.pe5(h1:(x.1==1)=false)(h2:(x.1==2)=false)(h3:(x.1==3)=false)(h4:(x.1==4)=false)(h5:(x.1==5)=true):xR c par inp sid s x q=(zQ c inp sid s x q,{ Pv x q with regs:=q.regs.set x.2.toNat (zQ c inp sid s x q) })/\0<=x.2/\x.2<(q.regs.length:Nat):=by
 have hp:=h.step.2.2.2.1
 unfold putO at hp
 rw[if_neg (by rw[h1];decide),if_neg (by rw[h2];decide),if_neg (by rw[h3];decide),if_neg (by rw[h4];decide),if_pos h5]at hp
 split at hp
 ·rename_i hc
  simp only[Bool.and_eq_true,decide_eq_true_eq]at hc
  exact⟨(Option.some.inj hp).symm,hc.1,hc.2⟩
 ·cases hp
theorem PI.pe6(h1:(x.1==1)=false)(h2:(x.1==2)=false)(h3:(x.1==3)=false)(h4:(x.1==4)=false)(h5:(x.1==5)=false)(h6:(x.1==6)=true):xR c par inp sid s x q=(zQ c inp sid s x q,{ Pv x q with values:=q.values.set x.2.toNat (zQ c inp sid s x q) })/\0<=x.2/\x.2<(q.values.length:Nat):=by
 have hp:=h.step.2.2.2.1
 unfold putO at hp
 rw[if_neg (by rw[h1];decide),if_neg (by rw[h2];decide),if_neg (by rw[h3];decide),if_neg (by rw[h4];decide),if_neg (by rw[h5];decide),if_pos h6]at hp
 split at hp
 ·rename_i hc
  simp only[Bool.and_eq_true,decide_eq_true_eq]at hc
  exact⟨(Option.some.inj hp).symm,hc.1,hc.2⟩
 ·cases hp
theorem PI.pe7(h1:(x.1==1)=false)(h2:(x.1==2)=false)(h3:(x.1==3)=false)(h4:(x.1==4)=false)(h5:(x.1==5)=false)(h6:(x.1==6)=false)(h7:(x.1==7)=true):xR c par inp sid s x q=(zQ c inp sid s x q,{ Pv x q with pushed:=q.pushed.set x.2.toNat true,last:=q.last.set x.2.toNat (zQ c inp sid s x q) })/\0<=x.2/\x.2<(q.pushed.length:Nat)/\x.2<(q.last.length:Nat):=by
 have hp:=h.step.2.2.2.1
 unfold putO at hp
 rw[if_neg (by rw[h1];decide),if_neg (by rw[h2];decide),if_neg (by rw[h3];decide),if_neg (by rw[h4];decide),if_neg (by rw[h5];decide),if_neg (by rw[h6];decide),if_pos h7]at hp
 split at hp
 ·rename_i hc
  simp only[Bool.and_eq_true,decide_eq_true_eq]at hc
  exact⟨(Option.some.inj hp).symm,hc.1,hc.2.1,hc.2.2⟩
 ·cases hp
theorem PI.pe22(h1:(x.1==1)=false)(h2:(x.1==2)=false)(h3:(x.1==3)=false)(h4:(x.1==4)=false)(h5:(x.1==5)=false)(h6:(x.1==6)=false)(h7:(x.1==7)=false)(h22:(x.1==22)=true):xR c par inp sid s x q=(zQ c inp sid s x q,{ Pv x q with out:=zQ c inp sid s x q }):=by
 have hp:=h.step.2.2.2.1
 unfold putO at hp
 rw[if_neg (by rw[h1];decide),if_neg (by rw[h2];decide),if_neg (by rw[h3];decide),if_neg (by rw[h4];decide),if_neg (by rw[h5];decide),if_neg (by rw[h6];decide),if_neg (by rw[h7];decide),if_pos h22]at hp
 exact(Option.some.inj hp).symm
theorem PI.pe0(h1:(x.1==1)=false)(h2:(x.1==2)=false)(h3:(x.1==3)=false)(h4:(x.1==4)=false)(h5:(x.1==5)=false)(h6:(x.1==6)=false)(h7:(x.1==7)=false)(h22:(x.1==22)=false):xR c par inp sid s x q=(zQ c inp sid s x q,Pv x q):=by
 have hp:=h.step.2.2.2.1
 unfold putO at hp
 rw[if_neg (by rw[h1];decide),if_neg (by rw[h2];decide),if_neg (by rw[h3];decide),if_neg (by rw[h4];decide),if_neg (by rw[h5];decide),if_neg (by rw[h6];decide),if_neg (by rw[h7];decide),if_neg (by rw[h22];decide)]at hp
 exact(Option.some.inj hp).symm
end
end
theorem Cb{α:Type}{l:List α}{i:Int}{d:α}{f:α->List D}(h0:0<=i)(h:i<(l.length:Nat)):(l.map f)[0+i.toNat]? = some (f (l.getD i.toNat d)):=by
 have:i.toNat<l.length:=by omega
 rw[Nat.zero_add,List.getElem?_map,List.getD_eq_getElem?_getD,List.getElem?_eq_getElem this];rfl
theorem lH{l:List Bool}{v:Bool}{k i:Nat}:Block.arr k 1 ((l.map Mac.boolC).set (0+i) [D.b v])=Block.arr k 1 ((l.set i v).map Mac.boolC):=by
 rw[Nat.zero_add,List.map_set]
theorem z1o(n:Nat)(v:Int):Block.arr 0 1 (List.replicate n [D.i v])=Block.arr 0 1 ((List.replicate n v).map eG):=by rw[List.map_replicate]
theorem PI.own_cut{c:Mac.Cd}{par inp sid:List Int}{s:Mac.Sta}{F:PQ}{x:Int×Int}{r:List (Int×Int)}{row:List Int}{m:Nat}{q:PQ}(h:PI c par inp sid s F (x::r) row m q){i v:Nat}:AV.own i v 1 0 (W ((m:Int)-tk x)).toNat=AV.own i v 1 0 (restN x q):=by rw[h.rest.2.2.1,Int.toNat_natCast]
theorem PI.len1{c:Mac.Cd}{par inp sid:List Int}{s:Mac.Sta}{F:PQ}{x:Int×Int}{r:List (Int×Int)}{row:List Int}{m:Nat}{q:PQ}(h:PI c par inp sid s F (x::r) row m q):0+(W ((m:Int)-tk x)).toNat+(m-(W ((m:Int)-tk x)).toNat)<=(row.map eG).length:=by
 have h1:=h.rest.2.2.2;have h2:=h.le
 rw[List.length_map];omega
theorem PI.len2{c:Mac.Cd}{par inp sid:List Int}{s:Mac.Sta}{F:PQ}{x:Int×Int}{r:List (Int×Int)}{row:List Int}{m:Nat}{q:PQ}(h:PI c par inp sid s F (x::r) row m q):(((row.map eG).drop (0+(W ((m:Int)-tk x)).toNat)).take (m-(W ((m:Int)-tk x)).toNat)).length<=1073741824:=by
 have h1:=h.step.2.1
 rw[List.length_take];omega
theorem Xc{α:Type}(l:List α)(f:α->List D)(v:Int):Block.arr 0 1 (List.replicate (((l.map f).length:Nat):Int).toNat [D.i v])=Block.arr 0 1 ((List.replicate l.length v).map eG):=by rw[List.map_replicate,Int.toNat_natCast,List.length_map]
theorem Uu{α:Type}(l:List α)(f:α->List D)(v:Bool):Block.arr 0 1 (List.replicate (((l.map f).length:Nat):Int).toNat [D.b v])=Block.arr 0 1 ((List.replicate l.length v).map Mac.boolC):=by rw[List.map_replicate,Int.toNat_natCast,List.length_map]
theorem Xd{c:Mac.Cd}{par inp sid:List Int}{s:Mac.Sta}{F:PQ}(h:Xa c par inp sid s c.instrs (BZ c s)=some F):PI c par inp sid s F c.instrs [] 0 (BZ c s):=
 ⟨h,rfl,Nat.le_refl _,List.length_replicate,rfl,List.length_replicate,List.length_replicate⟩
theorem PI.fin{c:Mac.Cd}{par inp sid:List Int}{s:Mac.Sta}{F:PQ}{row:List Int}{m:Nat}{q:PQ}(h:PI c par inp sid s F [] row m q):q=F:=by
 have:=h.run;rw[Xa]at this;exact Option.some.inj this
structure LI(s:Mac.Sta)(F:PQ)(L:List (List Int))(r:List Ln)(i:Nat)(ls:List (List Int)):Prop where
 ex:∃k,uy s F r i=some k/\ls++k=L
def Ap(s:Mac.Sta)(i:Nat):List Int:=s.lines.getD i []
def Xe(s:Mac.Sta)(F:PQ)(i:Nat):List Int:=(JI F i (Ap s i)).getD []
section
variable {s : Mac.Sta} {F : PQ} {L : List (List Int)} {x : Ln} {r : List Ln} {i : Nat} {ls : List (List Int)} (h : LI s F L (x :: r) i ls)
include h
theorem LI.step:s.lines[i]? = some (Ap s i)/\JI F i (Ap s i)=some (Xe s F i)/\LI s F L r (i+1) (ls++[Xe s F i]):=by
 obtain⟨k,h1,h2⟩:=h.ex
 rw[uy]at h1
 cases hl:s.lines[i]? with
 |none=>rw[hl]at h1;cases h1
 |some l=>
  rw[hl]at h1
  dsimp only at h1
  have e:Ap s i=l:=by rw[Ap,List.getD_eq_getElem?_getD,hl];rfl
  cases hm:JI F i l with
  |none=>rw[hm]at h1;cases h1
  |some m=>
   rw[hm]at h1
   dsimp only at h1
   have em:Xe s F i=m:=by rw[Xe,e,hm];rfl
   cases hk:uy s F r (i+1)with
   |none=>rw[hk]at h1;cases h1
   |some k'=>
    rw[hk]at h1
    refine⟨by rw[e],by rw[e,em];exact hm,⟨k',hk,?_⟩⟩
    rw[em,<-h2,<-Option.some.inj h1];simp
theorem LI.old:(0:Int)<=(i:Int)/\(s.lines.map Mac.lnC)[((i:Nat):Int).toNat]? = some (Mac.lnC (Ap s i)):=⟨Int.natCast_nonneg _,by rw[Int.toNat_natCast,List.getElem?_map,h.step.1];rfl⟩
theorem LI.push:(F.pushed.map Mac.boolC)[0+((i:Nat):Int).toNat]? = some (Mac.boolC (F.pushed.getD i false))/\i<F.pushed.length:=by
 have hl:=h.step.2.1
 rw[JI]at hl
 cases hp:F.pushed[i]? with
 |none=>rw[hp]at hl;cases hl
 |some b=>
  refine⟨?_,(List.getElem?_eq_some_iff.1 hp).1⟩
  rw[Nat.zero_add,Int.toNat_natCast,List.getElem?_map,hp,List.getD_eq_getElem?_getD,hp];rfl
theorem LI.no(hb:F.pushed.getD i false=false):Ap s i=Xe s F i:=by
 have hl:=h.step.2.1
 have hp:=h.push.2
 have e:F.pushed[i]? = some false:=by rw[List.getElem?_eq_getElem hp];rw[List.getD_eq_getElem?_getD,List.getElem?_eq_getElem hp]at hb;exact congrArg some hb
 rw[JI,e]at hl
 exact Option.some.inj hl
theorem LI.yes(hb:F.pushed.getD i false=true):((F.last.map eG)[0+((i:Nat):Int).toNat]? = some (eG (F.last.getD i 0))/\i<F.last.length)/\1<=(Ap s i).length/\F.last.getD i 0::(Ap s i).take ((Ap s i).length-1)=Xe s F i:=by
 have hl:=h.step.2.1
 have hp:=h.push.2
 have e:F.pushed[i]? = some true:=by rw[List.getElem?_eq_getElem hp];rw[List.getD_eq_getElem?_getD,List.getElem?_eq_getElem hp]at hb;exact congrArg some hb
 rw[JI,e]at hl
 cases hv:F.last[i]? with
 |none=>rw[hv]at hl;cases hl
 |some v=>
  rw[hv]at hl
  have ev:F.last.getD i 0=v:=by rw[List.getD_eq_getElem?_getD,hv];rfl
  simp only at hl
  split at hl
  ·cases hl
  ·rename_i h0
   refine⟨⟨?_,(List.getElem?_eq_some_iff.1 hv).1⟩,by omega,by rw[ev];exact Option.some.inj hl⟩
   rw[Nat.zero_add,Int.toNat_natCast,List.getElem?_map,hv,ev];rfl
end
theorem JJ{s:Mac.Sta}{F:PQ}{L:List (List Int)}{x:Ln}{r:List Ln}{i:Nat}{ls:List (List Int)}(gs:s.Sm)(h:LI s F L (x::r) i ls):(Ap s i).length<=268435456:=gs.line _ (List.mem_of_getElem? h.step.1)
section
variable {s : Mac.Sta} {F : PQ} {L : List (List Int)} {x : Ln} {r : List Ln} {i : Nat} {ls : List (List Int)} (gs : s.Sm) (h : LI s F L (x :: r) i ls)
include gs h
theorem LI.w(hb:F.pushed.getD i false=true):IntKind.i64.wrap (((([]:List (List D))++(Ap s i).map eG).length:Nat)-1:Int)=(((Ap s i).length-1:Nat):Int):=by
 have h1:=(h.yes hb).2.1
 have h2:=JJ gs h
 rw[List.nil_append,List.length_map,bI (by omega) (by omega)];omega
theorem LI.w1(hb:F.pushed.getD i false=true):0<=IntKind.i64.wrap (((([]:List (List D))++(Ap s i).map eG).length:Nat)-1:Int):=by rw[h.w gs hb];omega
theorem LI.w2(hb:F.pushed.getD i false=true):IntKind.i64.wrap (((([]:List (List D))++(Ap s i).map eG).length:Nat)-1:Int)<=((([]:List (List D))++(Ap s i).map eG).length:Nat):=by
 rw[h.w gs hb,List.nil_append,List.length_map];omega
theorem LI.w3(hb:F.pushed.getD i false=true):(cut none (some (IntKind.i64.wrap (((([]:List (List D))++(Ap s i).map eG).length:Nat)-1:Int))) (([]:List (List D))++(Ap s i).map eG)).length<=1073741824:=by
 have h2:=JJ gs h
 rw[h.w gs hb,cut,List.nil_append,List.length_take,List.length_map];omega
theorem LI.ln1(hb:F.pushed.getD i false=true):ls.map Mac.lnC++[[D.sl 1 ([[D.i (F.last.getD i 0)]]++cut none (some (IntKind.i64.wrap (((([]:List (List D))++(Ap s i).map eG).length:Nat)-1:Int))) (([]:List (List D))++(Ap s i).map eG))]]=(ls++[Xe s F i]).map Mac.lnC:=by
 rw[h.w gs hb,cut,Int.toNat_natCast,List.nil_append,<-(h.yes hb).2.2,List.map_append]
 simp only[List.map_cons,List.map_nil,Mac.lnC,ints,List.map_take];rfl
end
theorem LI.ln0{s:Mac.Sta}{F:PQ}{L:List (List Int)}{x:Ln}{r:List Ln}{i:Nat}{ls:List (List Int)}(h:LI s F L (x::r) i ls)(hb:F.pushed.getD i false=false):ls.map Mac.lnC++[[D.sl 1 (([]:List (List D))++(Ap s i).map eG)]]=(ls++[Xe s F i]).map Mac.lnC:=by
 rw[List.nil_append,<-h.no hb,List.map_append];rfl
theorem LI.fin{s:Mac.Sta}{F:PQ}{L:List (List Int)}{i:Nat}{ls:List (List Int)}(h:LI s F L [] i ls):ls=L:=by
 obtain⟨k,h1,h2⟩:=h.ex
 rw[uy]at h1
 rw[<-h2,<-Option.some.inj h1,List.append_nil]
theorem Xf{s:Mac.Sta}{F:PQ}{L:List (List Int)}{r:List Ln}(h:uy s F r 0=some L):LI s F L r 0 []:=⟨⟨L,h,rfl⟩⟩
theorem Xg{c:Mac.Cd}{par inp sid:List Int}{s:Mac.Sta}{v:Int}{t:Mac.Sta}(h:Eg c par inp sid s=some (v,t)):∃F,Xa c par inp sid s c.instrs (BZ c s)=some F/\uy s F c.lines 0=some t.lines/\v=F.out/\t.values=F.values:=by
 rw[Eg]at h
 cases hr:Xa c par inp sid s c.instrs (BZ c s)with
 |none=>rw[hr]at h;cases h
 |some F=>
  rw[hr]at h
  cases hl:uy s F c.lines 0 with
  |none=>simp only[hl]at h;cases h
  |some l=>
   simp only[hl]at h
   obtain⟨h1,h2⟩:=Prod.mk.inj (Option.some.inj h)
   subst h2
   exact⟨F,rfl,hl,h1.symm,rfl⟩
end Go.Fw.Lw
