/- Package lower in plain words: how processors are compiled. -/
import Derived.Test.YthpbakljheeabaaGreatDoorZMA
import Derived.Test.YthpbakljheeabaaGreatDoorZTB
set_option linter.unusedSectionVars false
set_option linter.unusedSimpArgs false
set_option linter.unusedVariables false
namespace Go.Fw.Lw
open Go.Fw Go.Fw.Ref15 Go.Fw.Rg Go.Fw.Tl
variable [af]
abbrev Ins:=List (Int×Int)
abbrev GF:=Int->Ins×Int
def pW:List Int->Int->Int->Int
 | [],_,n=>n
 |k::r,i,n=>pW r (i+1) (mm2 true n (k+i))
abbrev aX(l:List Int):Int×Int:=Mac.mostF l 0 0 0
def pX(l:List Int):Int:=
 if l.length=0 then 1 else if l.length=1 then(aX l).1
 else if l.length=2 then mm2 true (aX l).1 (l.getD (1-(aX l).2).toNat 0+1)
 else pW (l.set (aX l).2.toNat 1) 0 (aX l).1
mutual
def aj:Ex->Int
 | .mk _ _ _ _ l=>pX (bU l)
def bU:List Ex->List Int
 | []=>[]
 |x::r=>aj x::bU r
end
theorem pJ(x:Ex):aj x=pX (bU x.l):=by cases x;rw[aj];rfl
theorem jy:∀l:List Ex,bU l=l.map aj
 | []=>rfl
 |x::r=>by rw[bU,jy r];rfl
def dP(op a:Int):GF:=λn=>([(op,a)],n)
def lq(f g:GF):GF:=λn=>((f n).1++(g (f n).2).1,(g (f n).2).2)
def gNil:GF:=λn=>([],n)
def chG:List GF->Int->Int->Int->GF
 | [],_,_,_=>gNil
 |f::r,at_,reg,i=>lq (if i==at_ then dP 4 reg else f) (chG r at_ reg (i+1))
def z8p(k:Int):Int:=if k==11 then 13 else if k==12 then 14 else if k==15 then 17 else 19
def z5g(k:Int):Int:=if k==6 then 8 else if k==7 then 9 else if k==8 then 10 else if k==9 then 11 else if k==10 then 12 else if k==13 then 15 else if k==14 then 16 else 20
def z8q(k:Int):Bool:=k==11 || k==12 || k==15 || k==17
def fAt(fs:List GF)(i:Int):GF:=fs.getD i.toNat gNil
def Ac(op:Int)(ns:List Int)(fs:List GF):GF:=lq (lq (fAt fs (aX ns).2) (fAt fs (1-(aX ns).2))) (dP op 0)
def Oy(ns:List Int)(fs:List GF):GF:=
 if ns.getD 1 0<=ns.getD 0 0 then lq (lq (fAt fs 0) (fAt fs 1)) (dP 18 0)
 else lq (lq (lq (fAt fs 1) (dP 16 0)) (fAt fs 0)) (dP 17 0)
def gIf(ns:List Int)(fs:List GF):GF:=λn=>lq (lq (lq (fAt fs (aX ns).2) (dP 5 n)) (chG fs (aX ns).2 n 0)) (dP 21 0) (n+1)
def genC(R:List (Int×Int))(k i m:Int)(ns:List Int)(fs:List GF):GF:=
 if k==1 then dP 1 m
 else if k==3 then dP 2 i
 else if k==4 then dP 3 i
 else if k==5 then dP 4 ((lkA i R).getD 0)
 else if z8q k then Ac (z8p k) ns fs
 else if k==16 then Oy ns fs
 else if k==19 then gIf ns fs
 else lq (fAt fs 0) (dP (z5g k) (i+m))
mutual
def bn(R:List (Int×Int)):Ex->GF
 | .mk k _ i m l=>genC R k i m (bU l) (fF R l)
def fF(R:List (Int×Int)):List Ex->List GF
 | []=>[]
 |x::r=>bn R x::fF R r
end
theorem TK(R:List (Int×Int))(x:Ex):bn R x=genC R x.kind x.index x.n (bU x.l) (fF R x.l):=by cases x;rw[bn];rfl
theorem DX(R:List (Int×Int)):∀l:List Ex,fF R l=l.map (bn R)
 | []=>rfl
 |x::r=>by rw[fF,DX R r];rfl
def cmpL:List Sm->Nat->List (Int×Int)->Int->Ins×Int
 | [],_,_,n=>([],n)
 |s::r,i,R,n=>
  if s.kind==1 then((bn R s.x n).1++[(5,(bn R s.x n).2)]++(cmpL r (i+1) (mf (i:Int) (bn R s.x n).2 R) ((bn R s.x n).2+1)).1,(cmpL r (i+1) (mf (i:Int) (bn R s.x n).2 R) ((bn R s.x n).2+1)).2)
  else((bn R s.x n).1++[if s.kind==2 then(6,s.index)else if s.kind==3 then(7,s.index)else(22,0)]++(cmpL r (i+1) R (bn R s.x n).2).1,(cmpL r (i+1) R (bn R s.x n).2).2)
def z0l(p:Pr):Mac.Cd:=⟨p.latency,p.tail,p.params,p.states,p.lines,p.tables.map (·.values),(cmpL p.stmts 0 [] 0).2,(cmpL p.stmts 0 [] 0).1⟩
abbrev TL:Mac.Cd:=⟨0,0,[],[],[],[],0,[]⟩
def xC(p:Pr):Mac.Cd×Int:=if(oN p != 0)=true then(TL,oN p)else(z0l p,0)
theorem len1{α:Type}{l:List α}(h:(l.length:Int)=1):∃a,l = [a]:=by
 match l,h with
 | [a],_=>exact⟨a,rfl⟩
 | [],h=>simp at h
 |_::_::_,h=>simp at h;omega
theorem len2{α:Type}{l:List α}(h:(l.length:Int)=2):∃a b,l = [a,b]:=by
 match l,h with
 | [a,b],_=>exact⟨a,b,rfl⟩
 | [],h=>simp at h
 | [_],h=>simp at h
 |_::_::_::_,h=>simp at h;omega
theorem z7e{α:Type}{l:List α}(h:(l.length:Int)=4):∃a b c d,l = [a,b,c,d]:=by
 match l,h with
 | [a,b,c,d],_=>exact⟨a,b,c,d,rfl⟩
 | [],h=>simp at h
 | [_],h=>simp at h
 | [_,_],h=>simp at h
 | [_,_,_],h=>simp at h
 |_::_::_::_::_::_,h=>simp at h;omega
theorem ny{k n:Int}(h:n=Ref15.parts k)(h0:0<=n):(n=0/\(k=1\/k=2\/k=3\/k=4\/k=5))\/(n=1/\(k=6\/k=7\/k=8\/k=9\/k=10\/k=13\/k=14\/k=18))\/(n=2/\(k=11\/k=12\/k=15\/k=16\/k=17))\/(n=4/\k=19):=by
 unfold Ref15.parts at h
 simp only[Bool.or_eq_true,beq_iff_eq]at h
 split at h
 ·exact .inl ⟨h,by omega⟩
 ·split at h
  ·exact .inr (.inl ⟨h,by omega⟩)
  ·split at h
   ·exact .inr (.inr (.inl ⟨h,by omega⟩))
   ·split at h
    ·exact .inr (.inr (.inr ⟨h,by omega⟩))
    ·omega
theorem z0m{a b:Int}(ha:1<=a):(a>=b/\aX [a,b]=(a,0))\/(b>a/\aX [a,b]=(b,1)):=by
 by_cases h:b>a
 ·refine .inr ⟨h,?_⟩
  simp only[aX,Mac.mostF,decide_eq_true (show a>0 by omega),decide_eq_true h,cond_true];rfl
 ·refine .inl ⟨by omega,?_⟩
  simp only[aX,Mac.mostF,decide_eq_true (show a>0 by omega),decide_eq_false h,cond_true,cond_false]
theorem pK:∀(l:List Int) (i n k:Int),(Mac.mostF l i n k=(n,k)/\∀x∈l,x<=n)\/(∃j:Nat,l[j]? = some (Mac.mostF l i n k).1/\(Mac.mostF l i n k).2=i+j/\n<(Mac.mostF l i n k).1/\∀x∈l,x<=(Mac.mostF l i n k).1)
 | [],i,n,k=>.inl ⟨rfl,by simp⟩
 |x::r,i,n,k=>by
  rw[Mac.mostF]
  by_cases h:x>n
  ·rw[decide_eq_true h,cond_true]
   rcases pK r (i+1) x i with⟨e,h2⟩ |⟨j,h1,h2,h3,h4⟩
   ·rw[e]
    refine .inr ⟨0,rfl,by simp,h,λy hy=>?_⟩
    rcases List.mem_cons.1 hy with rfl |hy
    ·exact Int.le_refl _
    ·exact h2 y hy
   ·refine .inr ⟨j+1,h1,by rw[h2];omega,by omega,λy hy=>?_⟩
    rcases List.mem_cons.1 hy with rfl |hy
    ·omega
    ·exact h4 y hy
  ·rw[decide_eq_false h,cond_false]
   rcases pK r (i+1) n k with⟨e,h2⟩ |⟨j,h1,h2,h3,h4⟩
   ·rw[e]
    refine .inl ⟨rfl,λy hy=>?_⟩
    rcases List.mem_cons.1 hy with rfl |hy
    ·omega
    ·exact h2 y hy
   ·refine .inr ⟨j+1,h1,by rw[h2];omega,h3,λy hy=>?_⟩
    rcases List.mem_cons.1 hy with rfl |hy
    ·omega
    ·exact h4 y hy
theorem Wl{a b c d:Int}(ha:1<=a):∃j:Nat,j<4/\(aX [a,b,c,d]).2=j /\ [a,b,c,d][j]? = some (aX [a,b,c,d]).1/\∀x ∈ [a,b,c,d],x<=(aX [a,b,c,d]).1:=by
 rcases pK [a,b,c,d] 0 0 0 with⟨_,h⟩ |⟨j,h1,h2,_,h4⟩
 ·have:=h a (by simp);omega
 ·have hj:j<4:=by have:=(List.getElem?_eq_some_iff.1 h1).1;simpa using this
  exact⟨j,hj,by rw[aX,h2];omega,h1,h4⟩
theorem MH:∀(l:List Int) (i n:Int),n<=pW l i n/\∀(j:Nat) k,l[j]? = some k->k+(i+j)<=pW l i n
 | [],i,n=>⟨Int.le_refl _,λj k h=>by simp at h⟩
 |x::r,i,n=>by
  have ih:=MH r (i+1) (mm2 true n (x+i))
  have hm:=kP n (x+i)
  rw[pW]
  refine⟨by omega,λj k h=>?_⟩
  cases j with
  |zero=>simp only[List.getElem?_cons_zero,Option.some.injEq]at h;subst h;simp only[Int.natCast_zero];omega
  |succ j=>
   have:=ih.2 j k (by simpa using h)
   omega
theorem MI:∀(l:List Int) (i n:Int),pW l i n=n\/∃(j:Nat) (k:Int),l[j]? = some k/\pW l i n=k+(i+j)
 | [],i,n=>.inl rfl
 |x::r,i,n=>by
  rw[pW]
  rcases MI r (i+1) (mm2 true n (x+i))with e |⟨j,k,h1,h2⟩
  ·rw[e]
   rcases(kP n (x+i)).2.2 with q |q
   ·exact .inl q
   ·exact .inr ⟨0,x,rfl,by rw[q];simp⟩
  ·exact .inr ⟨j+1,k,by simpa using h1,by rw[h2];omega⟩
theorem Yf{a:Int}(ha:1<=a):pX [a]=a:=by
 show(aX [a]).1=a
 simp only[aX,Mac.mostF,decide_eq_true (show a>0 by omega),cond_true]
theorem Yg{a b:Int}(ha:1<=a):pX [a,b]=if b>a then mm2 true b (a+1)else mm2 true a (b+1):=by
 show mm2 true (aX [a,b]).1 ([a,b].getD (1-(aX [a,b]).2).toNat 0+1)=_
 rcases z0m (b:=b) ha with⟨h,e⟩ |⟨h,e⟩
 ·rw[e,if_neg (by omega)];rfl
 ·rw[e,if_pos h];rfl
theorem xE:∀x:Ex,(∀n p,wfX p n x=true->1<=aj x):=by
 refine Ex.ind λx ih=>?_
 intro n p hw
 obtain⟨g1,g2,g3⟩:=bP hw
 have hc:∀y∈x.l,1<=aj y:=λy hy=>ih y hy n p (ig g3 y hy)
 rw[pJ,jy]
 rcases ny g1 (Int.natCast_nonneg _)with⟨h,_⟩ |⟨h,_⟩ |⟨h,_⟩ |⟨h,_⟩
 ·have:x.l = []:=by
   cases e:x.l with
   |nil=>rfl
   |cons a r=>rw[e]at h;simp at h;omega
  rw[this];exact Int.le_refl _
 ·obtain⟨a,e⟩:=len1 h
  have:=hc a (by rw[e];simp)
  rw[e];show 1<=pX [aj a];rw[Yf this];exact this
 ·obtain⟨a,b,e⟩:=len2 h
  have h1:=hc a (by rw[e];simp)
  have h2:=hc b (by rw[e];simp)
  rw[e];show 1<=pX [aj a,aj b];rw[Yg h1]
  split
  ·have:=(kP (aj b) (aj a+1)).1;omega
  ·have:=(kP (aj a) (aj b+1)).1;omega
 ·obtain⟨a,b,c,d,e⟩:=z7e h
  have h1:=hc a (by rw[e];simp)
  rw[e]
  show 1<=pW ([aj a,aj b,aj c,aj d].set (aX [aj a,aj b,aj c,aj d]).2.toNat 1) 0 (aX [aj a,aj b,aj c,aj d]).1
  have:=(MH ([aj a,aj b,aj c,aj d].set (aX [aj a,aj b,aj c,aj d]).2.toNat 1) 0 (aX [aj a,aj b,aj c,aj d]).1).1
  obtain⟨j,_,_,_,h4⟩:=Wl (b:=aj b) (c:=aj c) (d:=aj d) h1
  have:=h4 (aj a) (by simp)
  omega
theorem vH{a b:Nat}(h:a<=b):2 ^ a<=2 ^ b:=Nat.pow_le_pow_right (by decide) h
theorem uh{a b:Nat}(h:a<=b):a * a * a<=b * b * b:=Nat.mul_le_mul (Nat.mul_le_mul h h) h
theorem MJ{a b n:Nat}(h:a+b+1<=n)(hab:a<=b):8 * (a * a * a)<=n * n * n:=by
 have h1:2 * a<=n:=by omega
 have h2:=uh h1
 have e:2 * a * (2 * a) * (2 * a)=8 * (a * a * a):=by
  simp only[Nat.mul_assoc,Nat.mul_comm,Nat.mul_left_comm]
 omega
theorem aP{d a b:Int}{A B n:Nat}(hA:2 ^ a.toNat<=2 * (A * A * A))(hB:2 ^ b.toNat<=2 * (B * B * B))(h1:d<=a+3)(h2:d<=b+3)(ha:0<=a)(hb:0<=b)(hn:A+B+1<=n):2 ^ d.toNat<=2 * (n * n * n):=by
 rcases Nat.le_total A B with h |h
 ·have h3:=vH (show d.toNat<=a.toNat+3 by omega)
  have h4:=MJ hn h
  rw[Nat.pow_add]at h3
  have:(2:Nat) ^ 3=8:=rfl
  rw[this]at h3
  omega
 ·have h3:=vH (show d.toNat<=b.toNat+3 by omega)
  have h4:=MJ (show B+A+1<=n by omega) h
  rw[Nat.pow_add]at h3
  have:(2:Nat) ^ 3=8:=rfl
  rw[this]at h3
  omega
theorem ui{a:Int}{A n:Nat}(hA:2 ^ a.toNat<=2 * (A * A * A))(hn:A<=n):2 ^ a.toNat<=2 * (n * n * n):=by
 have:=uh hn;omega
theorem dQ(x:Ex):1<=Ref15.nodes x:=by rw[Ref15.nodes_eq];omega
theorem Wn:∀x:Ex,(∀n p,wfX p n x=true->2 ^ (aj x).toNat<=2 * (Ref15.nodes x * Ref15.nodes x * Ref15.nodes x)):=by
 refine Ex.ind λx ih=>?_
 intro n p hw
 obtain⟨g1,g2,g3⟩:=bP hw
 have hc:∀y∈x.l,1<=aj y:=λy hy=>xE y n p (ig g3 y hy)
 have hp:∀y∈x.l,2 ^ (aj y).toNat<=2 * (Ref15.nodes y * Ref15.nodes y * Ref15.nodes y):=λy hy=>ih y hy n p (ig g3 y hy)
 rw[pJ,jy,Ref15.nodes_eq]
 rcases ny g1 (Int.natCast_nonneg _)with⟨h,_⟩ |⟨h,_⟩ |⟨h,_⟩ |⟨h,_⟩
 ·have:x.l = []:=by
   cases e:x.l with
   |nil=>rfl
   |cons a r=>rw[e]at h;simp at h;omega
  rw[this];decide
 ·obtain⟨a,e⟩:=len1 h
  have h1:=hc a (by rw[e];simp)
  rw[e]
  show 2 ^ (pX [aj a]).toNat<=_
  rw[Yf h1]
  exact ui (hp a (by rw[e];simp)) (by simp[Ref15.nodesL])
 ·obtain⟨a,b,e⟩:=len2 h
  have h1:=hc a (by rw[e];simp)
  have h2:=hc b (by rw[e];simp)
  have p1:=hp a (by rw[e];simp)
  have p2:=hp b (by rw[e];simp)
  rw[e]
  show 2 ^ (pX [aj a,aj b]).toNat<=_
  rw[Yg h1]
  have hn:Ref15.nodes a+Ref15.nodes b+1<=1+Ref15.nodesL [a,b]:=by simp[Ref15.nodesL];omega
  split
  ·rename_i hgt
   rcases(kP (aj b) (aj a+1)).2.2 with q |q
   ·rw[q];exact ui p2 (by omega)
   ·rw[q];exact aP p1 p2 (by omega) (by omega) (by omega) (by omega) hn
  ·rename_i hgt
   rcases(kP (aj a) (aj b+1)).2.2 with q |q
   ·rw[q];exact ui p1 (by omega)
   ·rw[q];exact aP p1 p2 (by omega) (by omega) (by omega) (by omega) hn
 ·obtain⟨a,b,c,d,e⟩:=z7e h
  have ha:=hc a (by rw[e];simp)
  rw[e]
  show 2 ^ (pW ([aj a,aj b,aj c,aj d].set (aX [aj a,aj b,aj c,aj d]).2.toNat 1) 0 (aX [aj a,aj b,aj c,aj d]).1).toNat<=_
  obtain⟨j,hj,e1,e2,e3⟩:=Wl (b:=aj b) (c:=aj c) (d:=aj d) ha
  have hN:1+Ref15.nodesL [a,b,c,d]=1+(Ref15.nodes a+(Ref15.nodes b+(Ref15.nodes c+Ref15.nodes d))):=by simp[Ref15.nodesL]
  have hpa:=dQ a;have hpb:=dQ b;have hpc:=dQ c;have hpd:=dQ d
  -- each part by its place
  have hat:∀i:Nat,i<4->∃y,[a,b,c,d][i]? = some y/\y∈x.l /\ [aj a,aj b,aj c,aj d][i]? = some (aj y):=by
   intro i hi
   match i,hi with
   | 0,_=>exact⟨a,rfl,by rw[e];simp,rfl⟩
   | 1,_=>exact⟨b,rfl,by rw[e];simp,rfl⟩
   | 2,_=>exact⟨c,rfl,by rw[e];simp,rfl⟩
   | 3,_=>exact⟨d,rfl,by rw[e];simp,rfl⟩
  have hsum:∀i i':Nat,i<4->i' < 4->i≠i'->∀y y',[a,b,c,d][i]? = some y -> [a,b,c,d][i']? = some y'->Ref15.nodes y+Ref15.nodes y'+1<=1+Ref15.nodesL [a,b,c,d]:=by
   intro i i' hi hi' hne y y' hy hy'
   rw[hN]
   match i,hi,i',hi',hne with
   | 0,_,1,_,_=>cases hy;cases hy';omega
   | 0,_,2,_,_=>cases hy;cases hy';omega
   | 0,_,3,_,_=>cases hy;cases hy';omega
   | 1,_,0,_,_=>cases hy;cases hy';omega
   | 1,_,2,_,_=>cases hy;cases hy';omega
   | 1,_,3,_,_=>cases hy;cases hy';omega
   | 2,_,0,_,_=>cases hy;cases hy';omega
   | 2,_,1,_,_=>cases hy;cases hy';omega
   | 2,_,3,_,_=>cases hy;cases hy';omega
   | 3,_,0,_,_=>cases hy;cases hy';omega
   | 3,_,1,_,_=>cases hy;cases hy';omega
   | 3,_,2,_,_=>cases hy;cases hy';omega
   | 0,_,0,_,h=>exact absurd rfl h
   | 1,_,1,_,h=>exact absurd rfl h
   | 2,_,2,_,h=>exact absurd rfl h
   | 3,_,3,_,h=>exact absurd rfl h
  obtain⟨z,z1,z2,z3⟩:=hat j hj
  have ez:(aX [aj a,aj b,aj c,aj d]).1=aj z:=by rw[e2]at z3;exact Option.some.inj z3
  have hz:=hc z z2
  have pz:=hp z z2
  rw[e1,ez,Int.toNat_natCast]
  rcases MI ([aj a,aj b,aj c,aj d].set j 1) 0 (aj z)with q |⟨i,k,q1,q2⟩
  ·rw[q]
   have:=hsum j (if j=0 then 1 else 0) hj (by split<;>omega) (by split<;>omega) z _ z1 ((hat (if j=0 then 1 else 0) (by split<;>omega)).choose_spec.1)
   exact ui pz (by omega)
  ·have hi:i<4:=by
    have:=(List.getElem?_eq_some_iff.1 q1).1
    simpa using this
   rw[q2]
   by_cases hij:i=j
   ·subst hij
    have:k=1:=by
     rw[List.getElem?_set]at q1
     simpa[hi]using q1.symm
    subst this
    have hb:5<=1+Ref15.nodesL [a,b,c,d]:=by rw[hN];omega
    have:=uh hb
    have h3:=vH (show((1:Int)+(0+(i:Nat))).toNat<=4 by omega)
    have:(2:Nat) ^ 4=16:=rfl
    omega
   ·obtain⟨y,y1,y2,y3⟩:=hat i hi
    have ek:k=aj y:=by
     rw[List.getElem?_set_ne (λh=>hij h.symm),y3]at q1
     exact(Option.some.inj q1).symm
    subst ek
    have hyz:aj y<=aj z:=by rw[<-ez];exact e3 _ (List.mem_of_getElem? y3)
    exact aP (hp y y2) pz (by omega) (by omega) (by have:=hc y y2;omega) (by omega) (hsum i j hi hj hij y z y1 z1)
theorem z0n{x:Ex}{n:Nat}{p:Pr}(hw:wfX p n x=true)(hn:Ref15.nodes x<=512):aj x<=28:=by
 have h1:=Wn x n p hw
 have h2:=uh hn
 have h3:2 ^ (aj x).toNat<=2 ^ 28:=by
  have:(2:Nat) ^ 28=2 * (512 * 512 * 512):=by decide
  omega
 have h4:(aj x).toNat<=28:=by
  by_cases h:(aj x).toNat<=28
  ·exact h
  ·have:=Nat.pow_lt_pow_right (a:=2) (by decide) (show 28<(aj x).toNat by omega)
   omega
 omega
structure COk(c:Mac.Cd)(p:Pr):Prop where
 par:c.params=p.params
 sta:c.states=p.states
 lin:c.lines=p.lines
 tab:c.tables.length=p.tables.length
 reg:0<=c.regs/\c.regs<=65536
 lim:p.params.length<=16/\p.states.length<=16/\p.lines.length<=16/\p.tables.length<=16
structure V(p:Pr)(b:Nat)(x:Ex):Prop where
 wf:wfX p b x=true
 rs:bz p b x=(x,true)
 fo:formed x=true
variable {p : Pr}
theorem kK:∀{l:List Ex},formeds l=true->∀y∈l,formed y=true
 |x::r,h,y,hy=>by
  rw[formeds]at h
  simp only[Bool.and_eq_true]at h
  rcases List.mem_cons.1 hy with rfl |hy
  ·exact h.1
  ·exact kK h.2 y hy
theorem V.part{b:Nat}{x y:Ex}(h:V p b x)(hy:y∈x.l):V p b y:=by
 have hf:=h.fo
 rw[formed_eq]at hf
 simp only[Bool.and_eq_true]at hf
 exact⟨ig (bP h.wf).2.2 y hy,xA h.wf h.rs hy,kK hf.2 y hy⟩
theorem V.num{b:Nat}{x:Ex}(h:V p b x)(h1:x.kind≠1)(h2:x.kind≠18):x.n=0:=by
 have hf:=h.fo
 rw[formed_eq]at hf
 simp only[Bool.and_eq_true,Bool.not_eq_true',Bool.and_eq_false_iff,bne_eq_false_iff_eq]at hf
 rcases hf.1.2 with(e |e) |e
 ·exact absurd e h1
 ·exact absurd e h2
 ·exact e
theorem V.idx{b:Nat}{x:Ex}(h:V p b x)(hn:(named x.kind&&x.kind != 8&&x.kind != 9)=false)(h8:x.kind≠8)(h9:x.kind≠9):x.index=0:=by
 have hr:=h.rs
 rw[kC,if_neg (by rw[hn];decide)]at hr
 have e:=congrArg (λq=>q.1.index) hr
 simp only[Ex.index]at e
 rw[show x.index=iO p x from e.symm,iO,if_neg (by simpa using h9),if_neg (by simpa using h8)]
theorem own_k18'{n:Nat}{k i m:Int}(h:uw p n k i m=true)(hk:k=18):1<=m/\m<=2147483648:=by
 subst hk;simp[uw]at h;exact h
theorem uj(R:List (Int×Int)){l:List Ex}{i:Int}{j:Nat}{y:Ex}(hi:i=j)(h:l[j]? = some y):fAt (fF R l) i=bn R y:=by
 subst hi
 rw[fAt,DX,Int.toNat_natCast,List.getD_eq_getElem?_getD,List.getElem?_map,h];rfl
theorem z5h{α:Type}{l:List α}(h:(l.length:Int)=0):l = []:=by
 cases l with
 |nil=>rfl
 |cons a r=>simp at h;omega
def Sz(f:GF)(L r:Nat):Prop:=∀n,2 * (f n).1.length<=L/\n<=(f n).2/\(f n).2<=n+r
theorem Sz.seq{f g:GF}{L M r s:Nat}(hf:Sz f L r)(hg:Sz g M s):Sz (lq f g) (L+M) (r+s):=by
 intro n
 obtain⟨a1,a2,a3⟩:=hf n
 obtain⟨b1,b2,b3⟩:=hg (f n).2
 refine⟨?_,?_,?_⟩
 ·show 2 * ((f n).1++(g (f n).2).1).length<=_
  rw[List.length_append];omega
 ·show n<=(g (f n).2).2;omega
 ·show(g (f n).2).2<=_;omega
theorem Sz.emit(op a:Int):Sz (dP op a) 2 0:=λn=>⟨Nat.le_refl _,Int.le_refl n,by show n<=n+0;omega⟩
theorem Sz.nil:Sz gNil 0 0:=λn=>⟨Nat.le_refl _,Int.le_refl n,by show n<=n+0;omega⟩
theorem Sz.weak{f:GF}{L M r s:Nat}(hf:Sz f L r)(h1:L<=M)(h2:r<=s):Sz f M s:=λn=>by have:=hf n;omega
theorem z8r{f0 f1 f2 f3:GF}{a b c d:Nat}{at_ reg:Int}(h0:Sz f0 (3 * a-1) a)(h1:Sz f1 (3 * b-1) b)(h2:Sz f2 (3 * c-1) c)(h3:Sz f3 (3 * d-1) d)(ha:1<=a)(hb:1<=b)(hc:1<=c)(hd:1<=d)(j:Nat)(hj:j<4)(hja:at_=j) :
  Sz (chG [f0,f1,f2,f3] at_ reg 0) (3 * (a+b+c+d)-4+2-(3 * [a,b,c,d].getD j 0-1)) (a+b+c+d - [a,b,c,d].getD j 0):=by
 subst hja
 match j,hj with
 | 0,_=>
  have:=(Sz.emit 4 reg).seq (h1.seq (h2.seq (h3.seq Sz.nil)))
  exact this.weak (by show 2+(3 * b-1+(3 * c-1+(3 * d-1+0)))<=3 * (a+b+c+d)-4+2-(3 * a-1);omega) (by show 0+(b+(c+(d+0)))<=a+b+c+d-a;omega)
 | 1,_=>
  have:=h0.seq ((Sz.emit 4 reg).seq (h2.seq (h3.seq Sz.nil)))
  exact this.weak (by show 3 * a-1+(2+(3 * c-1+(3 * d-1+0)))<=3 * (a+b+c+d)-4+2-(3 * b-1);omega) (by show a+(0+(c+(d+0)))<=a+b+c+d-b;omega)
 | 2,_=>
  have:=h0.seq (h1.seq ((Sz.emit 4 reg).seq (h3.seq Sz.nil)))
  exact this.weak (by show 3 * a-1+(3 * b-1+(2+(3 * d-1+0)))<=3 * (a+b+c+d)-4+2-(3 * c-1);omega) (by show a+(b+(0+(d+0)))<=a+b+c+d-c;omega)
 | 3,_=>
  have:=h0.seq (h1.seq (h2.seq ((Sz.emit 4 reg).seq Sz.nil)))
  exact this.weak (by show 3 * a-1+(3 * b-1+(3 * c-1+(2+0)))<=3 * (a+b+c+d)-4+2-(3 * d-1);omega) (by show a+(b+(c+(0+0)))<=a+b+c+d-d;omega)
theorem TM{p:Pr}{b:Nat}{R:List (Int×Int)}:∀x:Ex,wfX p b x=true->Sz (bn R x) (3 * Ref15.nodes x-1) (Ref15.nodes x):=by
 refine Ex.ind λx ih=>?_
 intro hw
 obtain⟨g1,g2,g3⟩:=bP hw
 have hi:∀y∈x.l,Sz (bn R y) (3 * Ref15.nodes y-1) (Ref15.nodes y):=λy hy=>ih y hy (ig g3 y hy)
 have hp:∀y∈x.l,1<=aj y:=λy hy=>xE y b p (ig g3 y hy)
 rw[TK,Ref15.nodes_eq,jy]
 rcases ny g1 (Int.natCast_nonneg _)with⟨h,hk⟩ |⟨h,hk⟩ |⟨h,hk⟩ |⟨h,hk⟩
 ·rw[z5h h]
  have:∃op a,genC R x.kind x.index x.n ([].map aj) (fF R [])=dP op a:=by
   rcases hk with q |q |q |q |q
   ·exact⟨1,x.n,by rw[q];rfl⟩
   ·rw[q]at g2;simp[uw]at g2
   ·exact⟨2,x.index,by rw[q];rfl⟩
   ·exact⟨3,x.index,by rw[q];rfl⟩
   ·exact⟨4,(lkA x.index R).getD 0,by rw[q];rfl⟩
  obtain⟨op,a,e⟩:=this
  rw[e];exact(Sz.emit op a).weak (by decide) (by decide)
 ·obtain⟨y,e⟩:=len1 h
  have hy:y∈x.l:=by rw[e];simp
  have hg:genC R x.kind x.index x.n (x.l.map aj) (fF R x.l)=lq (fAt (fF R x.l) 0) (dP (z5g x.kind) (x.index+x.n)):=by
   rcases hk with q |q |q |q |q |q |q |q<;>rw[q]<;>rfl
  have f0:fAt (fF R x.l) 0=bn R y:=uj R (j:=0) rfl (by rw[e];rfl)
  rw[hg,f0,e]
  have hn:=dQ y
  exact((hi y hy).seq (Sz.emit _ _)).weak (by simp only[Ref15.nodesL];omega) (by simp only[Ref15.nodesL];omega)
 ·obtain⟨y,z,e⟩:=len2 h
  have hy:y∈x.l:=by rw[e];simp
  have hz:z∈x.l:=by rw[e];simp
  have f0:fAt (fF R x.l) 0=bn R y:=uj R (j:=0) rfl (by rw[e];rfl)
  have f1:fAt (fF R x.l) 1=bn R z:=uj R (j:=1) rfl (by rw[e];rfl)
  have hny:=dQ y;have hnz:=dQ z
  have hm:x.l.map aj = [aj y,aj z]:=by rw[e];rfl
  have hN:1+Ref15.nodesL x.l=1+(Ref15.nodes y+(Ref15.nodes z+0)):=by rw[e];rfl
  rw[hm,hN]
  have cmb:∀op,Sz (Ac op [aj y,aj z] (fF R x.l)) (3 * (1+(Ref15.nodes y+(Ref15.nodes z+0)))-1) (1+(Ref15.nodes y+(Ref15.nodes z+0))):=by
   intro op
   rcases z0m (b:=aj z) (hp y hy)with⟨_,q2⟩ |⟨_,q2⟩
   ·rw[Ac,q2]
    show Sz (lq (lq (fAt (fF R x.l) 0) (fAt (fF R x.l) 1)) (dP op 0)) _ _
    rw[f0,f1]
    exact(((hi y hy).seq (hi z hz)).seq (Sz.emit _ _)).weak (by omega) (by omega)
   ·rw[Ac,q2]
    show Sz (lq (lq (fAt (fF R x.l) 1) (fAt (fF R x.l) 0)) (dP op 0)) _ _
    rw[f0,f1]
    exact(((hi z hz).seq (hi y hy)).seq (Sz.emit _ _)).weak (by omega) (by omega)
  rcases hk with k |k |k |k |k
  ·rw[show genC R x.kind x.index x.n [aj y,aj z] (fF R x.l)=Ac 13 [aj y,aj z] (fF R x.l)by rw[k];rfl];exact cmb 13
  ·rw[show genC R x.kind x.index x.n [aj y,aj z] (fF R x.l)=Ac 14 [aj y,aj z] (fF R x.l)by rw[k];rfl];exact cmb 14
  ·rw[show genC R x.kind x.index x.n [aj y,aj z] (fF R x.l)=Ac 17 [aj y,aj z] (fF R x.l)by rw[k];rfl];exact cmb 17
  ·rw[show genC R x.kind x.index x.n [aj y,aj z] (fF R x.l)=Oy [aj y,aj z] (fF R x.l)by rw[k];rfl,Oy,f0,f1]
   split
   ·exact(((hi y hy).seq (hi z hz)).seq (Sz.emit _ _)).weak (by omega) (by omega)
   ·exact((((hi z hz).seq (Sz.emit _ _)).seq (hi y hy)).seq (Sz.emit _ _)).weak (by omega) (by omega)
  ·rw[show genC R x.kind x.index x.n [aj y,aj z] (fF R x.l)=Ac 19 [aj y,aj z] (fF R x.l)by rw[k];rfl];exact cmb 19
 ·obtain⟨y0,y1,y2,y3,e⟩:=z7e h
  have h0:=hi y0 (by rw[e];simp);have h1:=hi y1 (by rw[e];simp);have h2:=hi y2 (by rw[e];simp);have h3:=hi y3 (by rw[e];simp)
  have n0:=dQ y0;have n1:=dQ y1;have n2:=dQ y2;have n3:=dQ y3
  have hm:x.l.map aj = [aj y0,aj y1,aj y2,aj y3]:=by rw[e];rfl
  have hN:1+Ref15.nodesL x.l=1+(Ref15.nodes y0+(Ref15.nodes y1+(Ref15.nodes y2+(Ref15.nodes y3+0)))):=by rw[e];rfl
  have hL:fF R x.l = [bn R y0,bn R y1,bn R y2,bn R y3]:=by rw[DX,e];rfl
  rw[show genC R x.kind x.index x.n (x.l.map aj) (fF R x.l)=gIf (x.l.map aj) (fF R x.l)by rw[hk];rfl,hm,hN,hL]
  obtain⟨j,hj,e1,_,_⟩:=Wl (b:=aj y1) (c:=aj y2) (d:=aj y3) (hp y0 (by rw[e];simp))
  intro n
  have hc:=z8r (reg:=n) h0 h1 h2 h3 n0 n1 n2 n3 j hj e1
  have hz:Sz (fAt [bn R y0,bn R y1,bn R y2,bn R y3] (aX [aj y0,aj y1,aj y2,aj y3]).2) (3 * [Ref15.nodes y0,Ref15.nodes y1,Ref15.nodes y2,Ref15.nodes y3].getD j 0-1) ([Ref15.nodes y0,Ref15.nodes y1,Ref15.nodes y2,Ref15.nodes y3].getD j 0):=by
   rw[e1]
   match j,hj with
   | 0,_=>exact h0
   | 1,_=>exact h1
   | 2,_=>exact h2
   | 3,_=>exact h3
  have hb:[Ref15.nodes y0,Ref15.nodes y1,Ref15.nodes y2,Ref15.nodes y3].getD j 0<=Ref15.nodes y0+Ref15.nodes y1+Ref15.nodes y2+Ref15.nodes y3-3/\1 <= [Ref15.nodes y0,Ref15.nodes y1,Ref15.nodes y2,Ref15.nodes y3].getD j 0:=by
   match j,hj with
   | 0,_=>show Ref15.nodes y0<=_/\1<=Ref15.nodes y0;omega
   | 1,_=>show Ref15.nodes y1<=_/\1<=Ref15.nodes y1;omega
   | 2,_=>show Ref15.nodes y2<=_/\1<=Ref15.nodes y2;omega
   | 3,_=>show Ref15.nodes y3<=_/\1<=Ref15.nodes y3;omega
  have hall:=(((hz.seq (Sz.emit 5 n)).seq hc).seq (Sz.emit 21 0)) (n+1)
  have hd:gIf [aj y0,aj y1,aj y2,aj y3] [bn R y0,bn R y1,bn R y2,bn R y3] n=lq (lq (lq (fAt [bn R y0,bn R y1,bn R y2,bn R y3] (aX [aj y0,aj y1,aj y2,aj y3]).2) (dP 5 n)) (chG [bn R y0,bn R y1,bn R y2,bn R y3] (aX [aj y0,aj y1,aj y2,aj y3]).2 n 0)) (dP 21 0) (n+1):=rfl
  rw[hd]
  omega
structure SV(p:Pr)(i:Nat)(s:Sm):Prop where
 v:V p i s.x
 nd:Ref15.nodes s.x<=512
 kd:s.kind=1\/s.kind=2\/s.kind=3\/s.kind=4
 k2:s.kind=2->0<=s.index/\s.index<p.states.length
 k3:s.kind=3->0<=s.index/\s.index<p.lines.length
theorem Yh{p:Pr}(h:Res p){i:Nat}{s:Sm}(hs:p.stmts[i]? = some s):SV p i s:=by
 have hw:=DU p.stmts 0 h.wf i s hs
 rw[Nat.zero_add]at hw
 have hr:=DW p.stmts 0 false h.ru i s hs
 rw[Nat.zero_add]at hr
 have hm:=List.mem_of_getElem? hs
 have hf:=List.all_eq_true.1 h.fo s hm
 have hl:=h.li
 rw[limited_eq]at hl
 simp only[Bool.and_eq_true]at hl
 have hx:=List.all_eq_true.1 hl.2.2.2.1 s hm
 simp only[stmtOk,Bool.not_eq_true',Bool.or_eq_false_iff,decide_eq_false_iff_not]at hf
 simp only[yT,Bool.not_eq_true',decide_eq_false_iff_not]at hx
 simp only[wfS,Bool.and_eq_true,Bool.or_eq_true,Bool.not_eq_true',decide_eq_true_eq]at hw
 refine⟨⟨hw.1,hr,by simpa using hf.2⟩,by omega,by omega,λe=>?_,λe=>?_⟩
 ·rcases hw.2.1 with q |q
  ·rw[e]at q;exact absurd q (by decide)
  ·exact q
 ·rcases hw.2.2 with q |q
  ·rw[e]at q;exact absurd q (by decide)
  ·exact q
theorem TN{α:Type}{l r:List α}{i:Nat}{a:α}(h:l.drop i=a::r):l[i]? = some a/\l.drop (i+1)=r:=by
 constructor
 ·have:=congrArg (λl=>l[0]?) h
  simpa using this
 ·have:=congrArg (λl=>l.drop 1) h
  simpa[List.drop_drop,Nat.add_comm]using this
theorem TP{p:Pr}(h:Res p):∀(r:List Sm) (i:Nat) (R:List (Int×Int)) (n:Int),p.stmts.drop i=r->(cmpL r i R n).1.length<=768 * r.length/\n<=(cmpL r i R n).2/\(cmpL r i R n).2<=n+513 * (r.length:Int)
 | [],i,R,n,_=>⟨Nat.le_refl _,Int.le_refl _,by show n<=n+513 * 0;omega⟩
 |s::r,i,R,n,hd=>by
  obtain⟨hs,hd'⟩:=TN hd
  have sv:=Yh h hs
  obtain⟨a1,a2,a3⟩:=TM (p:=p) (b:=i) (R:=R) s.x sv.v.wf n
  have hnd:=sv.nd
  rw[cmpL]
  split
  ·obtain⟨b1,b2,b3⟩:=TP h r (i+1) (mf (i:Int) (bn R s.x n).2 R) ((bn R s.x n).2+1) hd'
   simp only[List.length_append,List.length_cons,List.length_nil]
   refine⟨by omega,by omega,by omega⟩
  ·obtain⟨b1,b2,b3⟩:=TP h r (i+1) R (bn R s.x n).2 hd'
   simp only[List.length_append,List.length_cons,List.length_nil]
   refine⟨by omega,by omega,by omega⟩
theorem Wp{p:Pr}(h:Res p):COk (z0l p) p:=by
 have hl:=z8l h
 obtain⟨_,z2,z3⟩:=TP h p.stmts 0 [] 0 (by rfl)
 exact⟨rfl,rfl,rfl,List.length_map _,⟨z2,by show(cmpL p.stmts 0 [] 0).2<=65536;omega⟩,by omega⟩
end Go.Fw.Lw
namespace Go.Fw.Lw
open Go.Fw
variable [af] {c : Mac.Cd}
def TU(q:Int×Int×Int×Int):Prop:=-1<=q.1/\q.1<=4/\0<=q.2.1/\q.2.1<=1
theorem TU.bif{b:Bool}{x y:Int×Int×Int×Int}(hx:TU x)(hy:TU y):TU (bif b then x else y):=by cases b<;>assumption
theorem TU.of{t u lo hi:Int}(h:(decide (-1<=t)&&(decide (t<=4)&&(decide (0<=u)&&decide (u<=1))))=true):TU (t,u,lo,hi):=by
 simp only[Bool.and_eq_true,decide_eq_true_eq]at h;exact h
theorem Yi(c:Mac.Cd)(op:Int):-1<=(Mac.effP c op).1/\(Mac.effP c op).1<=4/\0<=(Mac.effP c op).2.1/\(Mac.effP c op).2.1<=1:=by
 show TU (Mac.effP c op)
 unfold Mac.effP
 repeat' (first |exact TU.of rfl |refine TU.bif ?_ ?_)
def bd(c:Mac.Cd)(x:Int×Int):Bool:=decide (0<=(Mac.effP c x.1).1)&&(decide ((Mac.effP c x.1).2.2.1<=x.2)&&decide (x.2<=(Mac.effP c x.1).2.2.2))
def hts(c:Mac.Cd):Ins->Int->Option Int
 | [],n=>some n
 |x::r,n=>if n<(Mac.effP c x.1).1\/n-(Mac.effP c x.1).1+(Mac.effP c x.1).2.1>64 then none else hts c r (n-(Mac.effP c x.1).1+(Mac.effP c x.1).2.1)
def qZ:Ins->Int
 | []=>0
 |x::r=>(if x.1==22 then 1 else 0)+qZ r
def iT:Ins->List Int
 | []=>[]
 |x::r=>if x.1==7 then x.2::iT r else iT r
theorem z16{n:Int}(h:-1000000000000<=n/\n<=1000000000000):Mac.W n=n:=bH (by omega) (by omega)
theorem TQ{x:Int×Int}{n:Int}(hn:0<=n/\n<=64):Mac.refP (Mac.effP c x.1) x.2 n=false↔bd c x=true/\¬(n<(Mac.effP c x.1).1\/n-(Mac.effP c x.1).1+(Mac.effP c x.1).2.1>64):=by
 have he:=Yi c x.1
 have e1:Mac.W (n-(Mac.effP c x.1).1)=n-(Mac.effP c x.1).1:=z16 (by omega)
 have e2:Mac.W (n-(Mac.effP c x.1).1+(Mac.effP c x.1).2.1)=n-(Mac.effP c x.1).1+(Mac.effP c x.1).2.1:=z16 (by omega)
 unfold Mac.refP bd
 rw[e1,e2]
 generalize (Mac.effP c x.1)=q at *
 obtain⟨t,u,lo,hi⟩:=q
 simp only[Bool.cond_eq_ite,Bool.and_eq_true,decide_eq_true_eq]
 by_cases a1:t<0
 ·simp[a1];omega
 ·by_cases a2:x.2<lo
  ·simp[a1,a2];omega
  ·by_cases a3:x.2>hi
   ·simp[a1,a2,a3];omega
   ·by_cases a4:n<t
    ·simp[a1,a2,a3,a4]
    ·simp[a1,a2,a3,a4];omega
theorem DY{l:List Bool}{i k:Nat}(hi:i<l.length):(l.set i true).getD k false=false↔l.getD k false=false/\k≠i:=by
 by_cases e:k=i
 ·subst e
  rw[List.getD_eq_getElem?_getD,List.getElem?_set_self hi];simp
 ·rw[List.getD_eq_getElem?_getD,List.getElem?_set_ne (λq=>e q.symm),<-List.getD_eq_getElem?_getD]
  simp[e]
theorem DZ(hl:c.lines.length<=1000000):∀(l:Ins) (n o:Int) (pu:List Bool),0<=n/\n<=64->0<=o->o+l.length<=1000000000->pu.length=c.lines.length ->
  (Mac.chkP c l n o pu=true↔(∀x∈l,bd c x=true)/\hts c l n=some 0/\o+qZ l=1/\(iT l).Nodup/\∀a∈iT l,pu.getD a.toNat false=false)
 | [],n,o,pu,hn,ho,_,_=>by
  rw[Mac.chkP]
  simp only[hts,qZ,iT,Int.add_zero,List.not_mem_nil,false_implies,implies_true,List.nodup_nil,and_true,true_and,Option.some.injEq]
  cases h1:n != 0 with
  |true=>simp only[cond_true,Bool.not_true,Bool.false_eq_true,false_iff];have:=ne_of_beq_false (show(n==0)=false by simpa using h1);omega
  |false=>
   have h1:n=0:=by simpa using h1
   simp only[cond_false,Bool.not_eq_true',bne_eq_false_iff_eq];omega
 |x::r,n,o,pu,hn,ho,hb,hp=>by
  have he:=Yi c x.1
  simp only[List.length_cons]at hb
  rw[Mac.chkP]
  cases hr:Mac.refP (Mac.effP c x.1) x.2 n with
  |true=>
   rw[cond_true]
   simp only[Bool.false_eq_true,false_iff]
   rintro⟨h1,h2,_⟩
   have:Mac.refP (Mac.effP c x.1) x.2 n=false:=(TQ hn).2 ⟨h1 x (by simp),λq=>by rw[hts,if_pos q]at h2;cases h2⟩
   rw[hr]at this;cases this
  |false=>
   obtain⟨r1,r2⟩:=(TQ hn).1 hr
   have e1:Mac.W ((Mac.effP c x.1).2.1-(Mac.effP c x.1).1)=(Mac.effP c x.1).2.1-(Mac.effP c x.1).1:=z16 (by omega)
   have e2:Mac.W (n+((Mac.effP c x.1).2.1-(Mac.effP c x.1).1))=n-(Mac.effP c x.1).1+(Mac.effP c x.1).2.1:=by rw[z16 (by omega)];omega
   have e3:Mac.W (o+1)=o+1:=z16 (by omega)
   have hn':0<=n-(Mac.effP c x.1).1+(Mac.effP c x.1).2.1/\n-(Mac.effP c x.1).1+(Mac.effP c x.1).2.1<=64:=by omega
   rw[cond_false,e1,e2,e3]
   have hh:hts c (x::r) n=hts c r (n-(Mac.effP c x.1).1+(Mac.effP c x.1).2.1):=by rw[hts,if_neg r2]
   have hbd:(∀y∈x::r,bd c y=true)↔∀y∈r,bd c y=true:=by simp[r1]
   rw[hh,hbd]
   cases h22:x.1==22 with
   |true=>
    rw[cond_true]
    have h7:(x.1==7)=false:=by have:=eq_of_beq h22;rw[this];rfl
    rw[DZ hl r _ (o+1) pu hn' (by omega) (by omega) hp]
    simp only[qZ,iT,h22,h7,if_true,Bool.false_eq_true,if_false]
    rw[show o+1+qZ r=o+(1+qZ r)by omega]
   |false=>
    rw[cond_false]
    cases h7:x.1==7 with
    |false=>
     rw[cond_false,DZ hl r _ o pu hn' ho (by omega) hp]
     simp only[qZ,iT,h22,h7,Bool.false_eq_true,if_false,Int.zero_add]
    |true=>
     rw[cond_true]
     have e7:=eq_of_beq h7
     have hx:0<=x.2/\x.2<c.lines.length:=by
      have hb7:=r1
      unfold bd at hb7
      rw[e7]at hb7
      simp only[Bool.and_eq_true,decide_eq_true_eq]at hb7
      have q1:(0:Int)<=x.2:=hb7.2.1
      have q2:x.2<=Mac.W ((c.lines.length:Int)-1):=hb7.2.2
      rw[z16 (by omega)]at q2
      exact⟨q1,by omega⟩
     have hlt:x.2.toNat<pu.length:=by omega
     simp only[qZ,iT,h22,h7,if_true,Bool.false_eq_true,if_false,Int.zero_add]
     cases hq:pu.getD x.2.toNat false with
     |true=>
      rw[cond_true]
      simp only[Bool.false_eq_true,false_iff]
      rintro⟨_,_,_,_,h5⟩
      have:=h5 x.2 (by simp)
      rw[hq]at this;cases this
     |false=>
      rw[cond_false,DZ hl r _ o (pu.set x.2.toNat true) hn' ho (by omega) (by rw[List.length_set];exact hp)]
      -- the bounds of what is pushed later
      constructor
      ·rintro⟨h1,h2,h3,h4,h5⟩
       refine⟨h1,h2,h3,List.nodup_cons.2 ⟨λhm=>?_,h4⟩,λa ha=>?_⟩
       ·exact((DY hlt).1 (h5 _ hm)).2 rfl
       ·rcases List.mem_cons.1 ha with rfl |ha
        ·exact hq
        ·exact((DY hlt).1 (h5 _ ha)).1
      ·rintro⟨h1,h2,h3,h4,h5⟩
       obtain⟨h4a,h4b⟩:=List.nodup_cons.1 h4
       refine⟨h1,h2,h3,h4b,λa ha=>(DY hlt).2 ⟨h5 a (List.mem_cons_of_mem _ ha),λe=>?_⟩⟩
       have hpa:0<=a:=by
        have key:∀l:Ins,(∀y∈l,bd c y=true)->∀a∈iT l,0<=a:=by
         intro l
         induction l with
         |nil=>intro _ a ha;simp[iT]at ha
         |cons y l ih=>
          intro hy a ha
          rw[iT]at ha
          split at ha
          ·rename_i q
           rcases List.mem_cons.1 ha with rfl |ha
           ·have hb7:=hy y (by simp)
            unfold bd at hb7
            rw[eq_of_beq q]at hb7
            simp only[Bool.and_eq_true,decide_eq_true_eq]at hb7
            exact hb7.2.1
           ·exact ih (λz hz=>hy z (by simp[hz])) a ha
          ·exact ih (λz hz=>hy z (by simp[hz])) a ha
        exact key r h1 a ha
       have:a=x.2:=by omega
       exact h4a (this ▸ ha)
theorem TR(hd:Mac.decP c=true)(hl:c.lines.length<=1000000)(hi:c.instrs.length<=1000000):Mac.checkP c=true↔(∀x∈c.instrs,bd c x=true)/\hts c c.instrs 0=some 0/\qZ c.instrs=1/\(iT c.instrs).Nodup:=by
 rw[Mac.checkP,hd]
 show Mac.chkP c c.instrs 0 0 (List.replicate c.lines.length false)=true↔_
 rw[DZ hl c.instrs 0 0 _ (by omega) (Int.le_refl _) (by omega) List.length_replicate]
 have hp:∀a∈iT c.instrs,(List.replicate c.lines.length false).getD a.toNat false=false:=by
  intro a _
  rw[List.getD_eq_getElem?_getD,List.getElem?_replicate]
  split<;>rfl
 rw[Int.zero_add]
 exact⟨λ⟨a,b,d,e,_⟩=>⟨a,b,d,e⟩,λ⟨a,b,d,e⟩=>⟨a,b,d,e,hp⟩⟩
theorem D5:∀a b:Ins,iT (a++b)=iT a++iT b
 | [],b=>rfl
 |x::r,b=>by rw[List.cons_append,iT,iT];split<;>rw[D5 r b];rfl
end Go.Fw.Lw
namespace Go.Fw.Lw
open Go.Fw
variable [af]
abbrev Q4:=Int×Int×Int×Int
def E2(q r:Q4):Prop:=q.1=r.1/\q.2.1=r.2.1
theorem E2.bif{b:Bool}{x y x' y':Q4}(hx:E2 x x')(hy:E2 y y'):E2 (bif b then x else y) (bif b then x' else y'):=by cases b<;>assumption
theorem MK(c d:Mac.Cd)(op:Int):E2 (Mac.effP c op) (Mac.effP d op):=by
 unfold Mac.effP
 repeat' (first |exact⟨rfl,rfl⟩ |refine E2.bif ?_ ?_)
theorem JA(c d:Mac.Cd):∀(l m:Ins) (n:Int),(l.map λx=>((Mac.effP c x.1).1,(Mac.effP c x.1).2.1))=(m.map λx=>((Mac.effP d x.1).1,(Mac.effP d x.1).2.1))->hts c l n=hts d m n
 | [],[],n,_=>rfl
 | [],y::m,n,h=>by simp at h
 |x::l,[],n,h=>by simp at h
 |x::l,y::m,n,h=>by
  simp only[List.map_cons,List.cons.injEq,Prod.mk.injEq]at h
  rw[hts,hts,h.1.1,h.1.2,JA c d l m _ h.2]
theorem Wq(c d:Mac.Cd)(l:Ins)(n:Int):hts c l n=hts d l n:=JA c d l l n (List.map_congr_left λx _=>by rw[(MK c d x.1).1,(MK c d x.1).2])
theorem ML:∀(l m:Ins),l.map Prod.fst=m.map Prod.fst->qZ l=qZ m
 | [],[],_=>rfl
 | [],y::m,h=>by simp at h
 |x::l,[],h=>by simp at h
 |x::l,y::m,h=>by
  simp only[List.map_cons,List.cons.injEq]at h
  rw[qZ,qZ,h.1,ML l m h.2]
structure Val(c:Mac.Cd)(l:Ins):Prop where
 bd:∀x∈l,bd c x=true
 ht:hts c l 0=some 0
 out:qZ l=1
 psh:(iT l).Nodup
variable {c : Mac.Cd}
theorem TS(hd:Mac.decP c=true)(hl:c.lines.length<=1000000)(hi:c.instrs.length<=1000000):Mac.checkP c=true↔Val c c.instrs:=
 (TR hd hl hi).trans ⟨λ⟨a,b,d,e⟩=>⟨a,b,d,e⟩,λh=>⟨h.bd,h.ht,h.out,h.psh⟩⟩
theorem TT(h:Mac.checkP c=true):Mac.decP c=true:=by
 rw[Mac.checkP]at h
 cases hd:Mac.decP c with
 |true=>rfl
 |false=>rw[hd]at h;cases h
theorem Gw{n:Int}(h:Mac.finP c n=true):n<=16/\(c.latency>=0/\c.latency<=4096)/\(c.tail >= -1/\c.tail<=1048576)/\(c.regs>=0/\c.regs<=65536)/\(c.instrs.length:Int)<=65536:=by
 simp only[Mac.finP,Bool.cond_false_right,Bool.and_eq_true,decide_eq_true_eq]at h
 omega
theorem z5i{n:Int}(h:n<=16/\(c.latency>=0/\c.latency<=4096)/\(c.tail >= -1/\c.tail<=1048576)/\(c.regs>=0/\c.regs<=65536)/\(c.instrs.length:Int)<=65536):Mac.finP c n=true:=by
 simp only[Mac.finP,Bool.cond_false_right,Bool.and_eq_true,decide_eq_true_eq]
 omega
theorem Gx(h:Mac.decP c=true):Mac.anyB [c.params,c.states].flatten=false/\Mac.anyL c.lines=false/\Mac.anyT c.tables=false/\Mac.finP c (Mac.mostF [(c.params.length:Int),(c.states.length:Int),(c.lines.length:Int),(c.tables.length:Int)] 0 0 0).1=true:=by
 rw[Mac.decP]at h
 cases h1:Mac.anyB [c.params,c.states].flatten<;>rw[h1]at h
 ·cases h2:Mac.anyL c.lines<;>rw[h2]at h
  ·cases h3:Mac.anyT c.tables<;>rw[h3]at h
   ·exact⟨rfl,rfl,rfl,h⟩
   ·cases h
  ·cases h
 ·cases h
theorem z5j(h1:Mac.anyB [c.params,c.states].flatten=false)(h2:Mac.anyL c.lines=false)(h3:Mac.anyT c.tables=false)(h4:Mac.finP c (Mac.mostF [(c.params.length:Int),(c.states.length:Int),(c.lines.length:Int),(c.tables.length:Int)] 0 0 0).1=true):Mac.decP c=true:=by
 rw[Mac.decP,h1,h2,h3];exact h4
theorem z0o(h:Mac.decP c=true){l:Ins}{r:Int}(hr:0<=r/\r<=65536)(hl:(l.length:Int)<=65536):Mac.decP { c with instrs:=l,regs:=r }=true:=by
 obtain⟨h1,h2,h3,h4⟩:=Gx h
 obtain⟨a,b,d,e,f⟩:=Gw h4
 exact z5j h1 h2 h3 (z5i ⟨a,b,d,⟨hr.1,hr.2⟩,hl⟩)
def oC(l:Ins)(i:Nat)(op a lo hi:Int):Prop:=(lo<=a/\a<=hi)/\∀(k:Nat) (x:Int×Int),l[k]? = some x->k≠i->x.1=7->op=7->x.2≠a
theorem mem_push:∀{l:Ins} {a:Int},a∈iT l↔∃x∈l,x.1=7/\x.2=a
 | [],a=>by simp[iT]
 |x::r,a=>by
  rw[iT]
  by_cases h:x.1=7
  ·rw[if_pos (by simpa using h)]
   simp only[List.mem_cons,mem_push (l:=r),exists_eq_or_imp]
   constructor
   ·rintro(e |e)
    ·exact .inl ⟨h,e.symm⟩
    ·exact .inr e
   ·rintro(e |e)
    ·exact .inl e.2.symm
    ·exact .inr e
  ·rw[if_neg (by simpa using h)]
   simp only[List.mem_cons,mem_push (l:=r),exists_eq_or_imp]
   constructor
   ·exact λe=>.inr e
   ·rintro(e |e)
    ·exact absurd e.1 h
    ·exact e
theorem z5k{i:Nat}{op a0 a:Int}(h:Mac.checkP c=true)(hl:c.lines.length<=1000000)(hi:c.instrs.length<=60000)(hx:c.instrs[i]? = some (op,a0)) :
  Mac.checkP { c with instrs:=c.instrs.set i (op,a) }=true↔oC c.instrs i op a (Mac.effP c op).2.2.1 (Mac.effP c op).2.2.2:=by
 have hd:=TT h
 have hv:=(TS hd hl (by omega)).1 h
 obtain⟨_,_,_,h4⟩:=Gx hd
 have hr:=(Gw h4).2.2.2.1
 have hd2:Mac.decP { c with instrs:=c.instrs.set i (op,a) }=true:=z0o (r:=c.regs) hd ⟨hr.1,hr.2⟩ (by rw[List.length_set];omega)
 rw[TS hd2 hl (by simp only[List.length_set];omega)]
 have hlt:=(List.getElem?_eq_some_iff.1 hx).1
 have hsp:c.instrs=c.instrs.take i++(op,a0)::c.instrs.drop (i+1):=by
  have e:=(List.getElem?_eq_some_iff.1 hx).2
  conv=>lhs;rw[<-List.take_append_drop i c.instrs,List.drop_eq_getElem_cons hlt,e]
 have hset:c.instrs.set i (op,a)=c.instrs.take i++(op,a)::c.instrs.drop (i+1):=List.set_eq_take_append_cons_drop.trans (if_pos hlt)
 have hfst:(c.instrs.set i (op,a)).map Prod.fst=c.instrs.map Prod.fst:=by
  rw[hset];conv=>rhs;rw[hsp]
  simp
 have ht:hts { c with instrs:=c.instrs.set i (op,a) } (c.instrs.set i (op,a)) 0=some 0:=by
  rw[Wq _ c,<-hv.ht]
  refine JA c c _ _ 0 ?_
  have:=congrArg (List.map λo:Int=>((Mac.effP c o).1,(Mac.effP c o).2.1)) hfst
  simpa[List.map_map,Function.comp_def]using this
 have hout:qZ (c.instrs.set i (op,a))=1:=(ML _ _ hfst).trans hv.out
 have hb0:=hv.bd (op,a0) (List.mem_of_getElem? hx)
 have hbd:(∀x∈c.instrs.set i (op,a),bd { c with instrs:=c.instrs.set i (op,a) } x=true)↔((Mac.effP c op).2.2.1<=a/\a<=(Mac.effP c op).2.2.2):=by
  have hba:bd c (op,a)=true↔((Mac.effP c op).2.2.1<=a/\a<=(Mac.effP c op).2.2.2):=by
   simp only[bd,Bool.and_eq_true,decide_eq_true_eq]at hb0 ⊢
   exact⟨λq=>q.2,λq=>⟨hb0.1,q⟩⟩
  rw[<-hba]
  constructor
  ·exact λq=>q (op,a) (by rw[hset];simp)
  ·intro q x hm
   rw[hset]at hm
   rcases List.mem_append.1 hm with hm |hm
   ·exact hv.bd x (List.mem_of_mem_take hm)
   ·rcases List.mem_cons.1 hm with rfl |hm
    ·exact q
    ·exact hv.bd x (List.mem_of_mem_drop hm)
 have hp0:=hv.psh
 rw[hsp,D5]at hp0
 have hpush:(iT (c.instrs.set i (op,a))).Nodup↔(op=7->a ∉ iT (c.instrs.take i)/\a ∉ iT (c.instrs.drop (i+1))):=by
  rw[hset,D5]
  by_cases h7:op=7
  ·rw[iT,if_pos (by simpa using h7)]at hp0 ⊢
   have q0:=List.perm_middle.nodup_iff.1 hp0
   rw[List.perm_middle.nodup_iff,List.nodup_cons,List.mem_append]
   have q1:=(List.nodup_cons.1 q0).2
   constructor
   ·exact λq _=>⟨λe=>q.1 (.inl e),λe=>q.1 (.inr e)⟩
   ·exact λq=>⟨λe=>e.elim (q h7).1 (q h7).2,q1⟩
  ·rw[iT,if_neg (by simpa using h7)]at hp0 ⊢
   exact⟨λ_ e=>absurd e h7,λ_=>hp0⟩
 have hwant:(op=7->a ∉ iT (c.instrs.take i)/\a ∉ iT (c.instrs.drop (i+1)))↔∀(k:Nat) (x:Int×Int),c.instrs[k]? = some x->k≠i->x.1=7->op=7->x.2≠a:=by
  constructor
  ·intro q k x hk hne h7 ho e
   obtain⟨q1,q2⟩:=q ho
   by_cases hlt2:k<i
   ·exact q1 (mem_push.2 ⟨x,List.mem_of_getElem? (i:=k) (by rw[List.getElem?_take_of_lt hlt2];exact hk),h7,e⟩)
   ·exact q2 (mem_push.2 ⟨x,List.mem_of_getElem? (i:=k-(i+1)) (by rw[List.getElem?_drop,show i+1+(k-(i+1))=k by omega];exact hk),h7,e⟩)
  ·intro q ho
   refine⟨λhm=>?_,λhm=>?_⟩
   ·obtain⟨x,hx1,hx2,hx3⟩:=mem_push.1 hm
    obtain⟨k,hk,e⟩:=List.mem_iff_getElem.1 hx1
    have hki:k<i:=by rw[List.length_take]at hk;omega
    refine q k x ?_ (by omega) hx2 ho hx3
    rw[<-List.getElem?_take_of_lt hki,List.getElem?_eq_getElem hk,e]
   ·obtain⟨x,hx1,hx2,hx3⟩:=mem_push.1 hm
    obtain⟨k,hk,e⟩:=List.mem_iff_getElem.1 hx1
    refine q (i+1+k) x ?_ (by omega) hx2 ho hx3
    rw[<-List.getElem?_drop,List.getElem?_eq_getElem hk,e]
 constructor
 ·exact λq=>⟨hbd.1 q.bd,hwant.1 (hpush.1 q.psh)⟩
 ·exact λq=>⟨hbd.2 q.1,ht,hout,hpush.2 (hwant.2 q.2)⟩
end Go.Fw.Lw
namespace Go.Fw.Lw
open Go.Fw Go.Fw.Ref15 Go.Fw.Rg Go.Fw.Tl
variable [af] {l : List Int} {ns : List Int} {i : Nat} {x : Ex}
theorem TV(h:l ≠ [])(hp:∀k∈l,1<=k):∃j:Nat,j<l.length/\(aX l).2=(j:Int)/\l[j]? = some (aX l).1:=by
 rcases pK l 0 0 0 with⟨_,h2⟩ |⟨j,h1,h2,_,_⟩
 ·cases l with
  |nil=>exact absurd rfl h
  |cons a r=>have:=hp a (by simp);have:=h2 a (by simp);omega
 ·exact⟨j,(List.getElem?_eq_some_iff.1 h1).1,by rw[h2];omega,h1⟩
theorem Ws(h:ns++bU []=bU x.l/\ns.length=i):ns=bU x.l:=by
 have h:=h.1
 simpa[bU]using h
theorem Gy{l:List Ex}{r:List Ex}(h:ns++bU (x::r)=bU l/\ns.length=i):(ns++[aj x])++bU r=bU l/\(ns++[aj x]).length=i+1:=by
 refine⟨?_,by simp[h.2]⟩
 rw[<-h.1,bU];simp
theorem Wu{k:Int}(h:k∈bU x.l):∃y∈x.l,k=aj y:=by
 rw[jy]at h
 obtain⟨y,h1,h2⟩:=List.mem_map.1 h
 exact⟨y,h1,h2.symm⟩
theorem lN{p:Pr}{n:Nat}{x y:Ex}(h:wfX p n x=true)(hy:y∈x.l):wfX p n y=true:=ig (bP h).2.2 _ hy
theorem pM{x y:Ex}(hy:y∈x.l):Ref15.nodes y<Ref15.nodes x:=by
 have:=Ref15.nodes_eq x
 have:=lZ hy
 omega
theorem Wv{p:Pr}{n:Nat}(hw:wfX p n x=true)(hn:Ref15.nodes x<=512):∀k∈bU x.l,1<=k/\k<=28:=by
 intro k hk
 obtain⟨y,hy,rfl⟩:=Wu hk
 have:=pM hy
 exact⟨xE y n p (lN hw hy),z0n (lN hw hy) (by omega)⟩
theorem z0p(h:(((l.length:Nat):Int)==0)=true):pX l=1:=by
 have:l.length=0:=by simpa using h
 unfold pX;rw[if_pos this]
theorem z0q(h:(((l.length:Nat):Int)==1)=true):pX l=(aX l).1:=by
 have:l.length=1:=by simp at h;omega
 unfold pX;rw[if_neg (by omega),if_pos this]
theorem z0r(h:(((l.length:Nat):Int)==2)=true):pX l=mm2 true (aX l).1 (l.getD (1-(aX l).2).toNat 0+1):=by
 have:l.length=2:=by simp at h;omega
 unfold pX;rw[if_neg (by omega),if_neg (by omega),if_pos this]
theorem z0s(h0:(((l.length:Nat):Int)==0)=false)(h1:(((l.length:Nat):Int)==1)=false)(h2:(((l.length:Nat):Int)==2)=false):pX l=pW (l.set (aX l).2.toNat 1) 0 (aX l).1:=by
 have h0:l.length≠0:=by intro e;simp[e]at h0
 have h1:l.length≠1:=by intro e;simp[e]at h1
 have h2:l.length≠2:=by intro e;simp[e]at h2
 unfold pX;rw[if_neg h0,if_neg h1,if_neg h2]
theorem D6(h:(((l.length:Nat):Int)==2)=true)(hp:∀k∈l,1<=k/\k<=28):IntKind.i64.wrap (1-(aX l).2)=1-(aX l).2/\(0<=IntKind.i64.wrap (1-(aX l).2)/\IntKind.i64.wrap (1-(aX l).2)<(l.length:Nat)) /\
  (l.map dZ)[0+(IntKind.i64.wrap (1-(aX l).2)).toNat]? = some (dZ (l.getD (1-(aX l).2).toNat 0))/\IntKind.i64.wrap (l.getD (1-(aX l).2).toNat 0+1)=l.getD (1-(aX l).2).toNat 0+1:=by
 have hl:l.length=2:=by simp at h;omega
 obtain⟨j,h1,h2,h3⟩:=TV (l:=l) (by rintro rfl;simp at hl) (λk hk=>(hp k hk).1)
 have e:IntKind.i64.wrap (1-(aX l).2)=1-(aX l).2:=bH (by omega) (by omega)
 have hlt:(1-(aX l).2).toNat<l.length:=by omega
 rw[e]
 have hm:l.getD (1-(aX l).2).toNat 0∈l:=by
  rw[List.getD_eq_getElem?_getD,List.getElem?_eq_getElem hlt];exact List.getElem_mem hlt
 have:=hp _ hm
 refine⟨rfl,⟨by omega,by omega⟩,?_,bH (by omega) (by omega)⟩
 rw[Nat.zero_add,List.getElem?_map,List.getD_eq_getElem?_getD,List.getElem?_eq_getElem hlt];rfl
theorem MM(h0:(((l.length:Nat):Int)==0)=false)(hp:∀k∈l,1<=k/\k<=28):(0<=(aX l).2/\(aX l).2<(l.length:Nat))/\(l.map dZ)[0+((aX l).2).toNat]? = some (dZ (aX l).1):=by
 obtain⟨j,h1,h2,h3⟩:=TV (l:=l) (by rintro rfl;simp at h0) (λk hk=>(hp k hk).1)
 refine⟨by omega,?_⟩
 rw[h2,Nat.zero_add,Int.toNat_natCast,List.getElem?_map,h3];rfl
theorem z0t(k:Nat)(hp:∀k∈l,1<=k/\k<=28):∀v∈l.set k 1,1<=v/\v<=28:=by
 intro v hv
 rcases List.mem_or_eq_of_mem_set hv with h |rfl
 ·exact hp v h
 ·omega
theorem Oz{L:List Int}{k:Int}{r:List Int}{n m:Int}(h:pW (k::r) i n=m)(hd:L.drop i=k::r)(hL:L.length<=1000)(hk:∀v∈L,1<=v/\v<=28):pW r ((i+1:Nat):Int) (mm2 true n (IntKind.i64.wrap (k+i)))=m:=by
 have h1:=kE hd
 have h2:=hk k (bJ hd)
 rw[bH (by omega) (by omega),<-h,pW]
 rfl
theorem Wx{i v s:Nat}{a:Int}:AV.own i v s 0 (ns.length+1)=AV.own i v s 0 (ns++[a]).length:=by simp
theorem z0u{v:Int}{k:Nat}(n:Nat)(h:l.length=n):Block.arr k 1 ((l.map dZ).take n++[[D.i v]])=Block.arr k 1 ((l++[v]).map dZ):=by
 rw[List.take_of_length_le (by simp[h])];simp
theorem nz{v:Int}{k i:Nat}:Block.arr k 1 ((l.map dZ).set (0+i) [D.i v])=Block.arr k 1 ((l.set i v).map dZ):=by
 rw[Nat.zero_add,List.map_set]
theorem Wy{x:Int}{r:List Int}(h:l.drop i=x::r):(l.map dZ)[0+((i:Nat):Int).toNat]? = some (dZ x):=by
 rw[Nat.zero_add,Int.toNat_natCast,List.getElem?_map,o9 h];rfl
end Go.Fw.Lw
namespace Go.Fw.Lw
open Go.Fw Go.Fw.Ref15 Go.Fw.Rg Go.Fw.Tl
variable [af]
theorem sub_le{R:List (Int×Int)}{a b:Ex}(h:aj b<=aj a):Oy [aj a,aj b] (fF R [a,b])=lq (lq (bn R a) (bn R b)) (dP 18 0):=by
 have h:([aj a,aj b]:List Int).getD 1 0<=([aj a,aj b]:List Int).getD 0 0:=h
 unfold Oy;rw[if_pos h];rfl
theorem Yj{R:List (Int×Int)}{a b:Ex}(h:¬aj b<=aj a):Oy [aj a,aj b] (fF R [a,b])=lq (lq (lq (bn R b) (dP 16 0)) (bn R a)) (dP 17 0):=by
 have h:¬([aj a,aj b]:List Int).getD 1 0<=([aj a,aj b]:List Int).getD 0 0:=h
 unfold Oy;rw[if_neg h];rfl
theorem OA{y:Ex}{r:List Ex}:(0:Int)<=0/\(Ex.css (y::r))[(0:Int).toNat]? = some (Ex.cs y):=by rw[Ex.css_eq];exact⟨Int.le_refl 0,rfl⟩
theorem TW{x y:Ex}{r:List Ex}:(0:Int)<=1/\(Ex.css (x::y::r))[(1:Int).toNat]? = some (Ex.cs y):=by rw[Ex.css_eq];exact⟨by decide,rfl⟩
theorem z8s{x y z:Ex}{r:List Ex}:(0:Int)<=2/\(Ex.css (x::y::z::r))[(2:Int).toNat]? = some (Ex.cs z):=by rw[Ex.css_eq];exact⟨by decide,rfl⟩
theorem z8t{x y z u:Ex}{r:List Ex}:(0:Int)<=3/\(Ex.css (x::y::z::u::r))[(3:Int).toNat]? = some (Ex.cs u):=by rw[Ex.css_eq];exact⟨by decide,rfl⟩
theorem z5l{n:Int}(h:0<=n/\n<=1000000):IntKind.i64.wrap (n+1)=n+1:=bH (by omega) (by omega)
theorem z8u{n:Int}(h:0<=n/\n<=1000000):IntKind.i64.wrap (IntKind.i64.wrap (n+1)-1)=n:=by
 rw[z5l h,bH (by omega) (by omega)];omega
theorem z8v{op n:Int}{ns:List Int}{fs:List GF}{f g:GF}(fa:fAt fs (aX ns).2=f)(fb:fAt fs (1-(aX ns).2)=g):(g (f n).2).2=(Ac op ns fs n).2:=by simp only[Ac,fa,fb,lq,dP]
theorem z0v{R:List (Int×Int)}{a b:Ex}{n:Int}(h:aj b<=aj a):(bn R b (bn R a n).2).2=(Oy [aj a,aj b] (fF R [a,b]) n).2:=by rw[sub_le h];rfl
theorem z0w{R:List (Int×Int)}{a b:Ex}{n:Int}(h:¬aj b<=aj a):(bn R a (bn R b n).2).2=(Oy [aj a,aj b] (fF R [a,b]) n).2:=by rw[Yj h];rfl
def chW:List Ex->Int->Int->Nat
 | [],_,_=>0
 |y::r,a,i=>(if i==a then 2 else 3 * Ref15.nodes y-1)+chW r a (i+1)
def chR:List Ex->Int->Int->Nat
 | [],_,_=>0
 |y::r,a,i=>(if i==a then 0 else Ref15.nodes y)+chR r a (i+1)
structure ChI(R:List (Int×Int))(at_ reg:Int)(T:Ins×Int)(i:Nat)(r:List Ex)(ins:Ins)(n:Int):Prop where
 code:ins++(chG (fF R r) at_ reg i n).1=T.1
 regs:(chG (fF R r) at_ reg i n).2=T.2
 len:2 * ins.length+chW r at_ i+2<=2000000
 n0:0<=n
 nb:n+chR r at_ i<=1000000
variable {n : Int} {r : List Ex} {ins : Ins} {l : List Ex} {ns : List Int} {i : Nat} {x : Ex}
theorem ChI.at{R:List (Int×Int)}{at_ reg:Int}{T:Ins×Int}(h:ChI R at_ reg T i (x::r) ins n)(hc:((i:Int)==at_)=true):ChI R at_ reg T (i+1) r (ins++[(4,reg)]) n:=by
 have h1:=h.code
 have h2:=h.regs
 have h3:=h.len
 have h5:=h.nb
 rw[fF,chG,if_pos hc]at h1 h2
 rw[chW,if_pos hc]at h3
 rw[chR,if_pos hc]at h5
 refine⟨?_,h2,?_,h.n0,?_⟩
 ·rw[<-h1];show ins++[(4,reg)]++(chG (fF R r) at_ reg ((i+1:Nat):Int) n).1=ins++([(4,reg)]++(chG (fF R r) at_ reg ((i:Int)+1) n).1)
  rw[List.append_assoc];rfl
 ·rw[List.length_append];simp only[List.length_cons,List.length_nil,Int.natCast_add,Int.natCast_one];omega
 ·simp only[Int.natCast_add,Int.natCast_one];omega
theorem ChI.next{R:List (Int×Int)}{at_ reg:Int}{T:Ins×Int}(h:ChI R at_ reg T i (x::r) ins n)(hc:((i:Int)==at_)=false)(hz:Sz (bn R x) (3 * Ref15.nodes x-1) (Ref15.nodes x)):ChI R at_ reg T (i+1) r (ins++(bn R x n).1) (bn R x n).2:=by
 have h1:=h.code
 have h2:=h.regs
 have h3:=h.len
 have h5:=h.nb
 have z:=hz n
 rw[fF,chG,if_neg (by rw[hc];decide)]at h1 h2
 rw[chW,if_neg (by rw[hc];decide)]at h3
 rw[chR,if_neg (by rw[hc];decide)]at h5
 have h0:=h.n0
 refine⟨?_,h2,?_,by omega,?_⟩
 ·rw[<-h1];show ins++(bn R x n).1++(chG (fF R r) at_ reg ((i+1:Nat):Int) (bn R x n).2).1=ins++((bn R x n).1++(chG (fF R r) at_ reg ((i:Int)+1) (bn R x n).2).1)
  rw[List.append_assoc];rfl
 ·rw[List.length_append];simp only[Int.natCast_add,Int.natCast_one];omega
 ·simp only[Int.natCast_add,Int.natCast_one];omega
theorem ChI.fit{R:List (Int×Int)}{at_ reg:Int}{T:Ins×Int}(h:ChI R at_ reg T i (x::r) ins n)(hc:((i:Int)==at_)=false):2 * ins.length+3 * Ref15.nodes x<=2000000/\0<=n/\n+Ref15.nodes x<=1000000:=by
 have h3:=h.len
 have h5:=h.nb
 rw[chW,if_neg (by rw[hc];decide)]at h3
 rw[chR,if_neg (by rw[hc];decide)]at h5
 have:=dQ x
 exact⟨by omega,h.n0,by omega⟩
theorem ChI.fin{R:List (Int×Int)}{at_ reg:Int}{T:Ins×Int}(h:ChI R at_ reg T i [] ins n):ins=T.1/\n=T.2:=by
 have h1:=h.code
 rw[fF,chG]at h1
 exact⟨by rw[<-h1];show ins=ins++[];rw[List.append_nil],h.regs⟩
theorem ChI.ilen{R:List (Int×Int)}{at_ reg:Int}{T:Ins×Int}(h:ChI R at_ reg T i r ins n):ins.length<=1000000:=by have:=h.len;omega
abbrev chT(R:List (Int×Int))(at_ n:Int)(l:List Ex)(y0:Ex)(ins:Ins):Ins×Int:=
 (ins++(bn R y0 (n+1)).1++[(5,n)]++(chG (fF R l) at_ n 0 (bn R y0 (n+1)).2).1,(chG (fF R l) at_ n 0 (bn R y0 (n+1)).2).2)
theorem z90{R:List (Int×Int)}{y0:Ex}(fa:fAt (fF R l) (aX ns).2=bn R y0):(chT R (aX ns).2 n l y0 ins).1++[(21,0)]=ins++(gIf ns (fF R l) n).1:=by
 simp only[gIf,fa,lq,dP,List.append_assoc]
theorem z92{R:List (Int×Int)}{y0:Ex}(fa:fAt (fF R l) (aX ns).2=bn R y0):(chT R (aX ns).2 n l y0 ins).2=(gIf ns (fF R l) n).2:=by
 simp only[gIf,fa,lq,dP]
theorem z5m(hl:∀y∈l,1<=Ref15.nodes y)(a:Nat)(y0:Ex):∀i:Nat,(h:∀(j:Nat) y,l[j]? = some y->i+j=a->y=y0)->chW l a i<=3 * Ref15.nodesL l-l.length/\chR l a i<=Ref15.nodesL l/\(i<=a->a<i+l.length->chW l a i+(3 * Ref15.nodes y0-1)<=3 * Ref15.nodesL l-l.length+2/\chR l a i+Ref15.nodes y0<=Ref15.nodesL l):=by
 induction l with
 |nil=>intro i h;exact⟨Nat.zero_le _,Nat.zero_le _,λh1 h2=>by simp at h2;omega⟩
 |cons x r ih=>
  intro i h
  have hx:=hl x (by simp)
  have ih:=ih (λy hy=>hl y (by simp[hy])) (i+1) (λj y e h2=>h (j+1) y (by simpa using e) (by omega))
  have hn:Ref15.nodesL (x::r)=Ref15.nodes x+Ref15.nodesL r:=by rw[Ref15.nodesL]
  have hlr:=Ref15.len_nodes r
  rw[hn,chW,chR,List.length_cons]
  have ec:((i:Nat):Int)+1=((i+1:Nat):Int):=by omega
  rw[ec]
  by_cases e:i=a
  ·subst e
   have:=h 0 x rfl rfl
   subst this
   simp only[beq_self_eq_true,if_true]
   refine⟨by omega,by omega,λ_ _=>⟨by omega,by omega⟩⟩
  ·have e':(((i:Nat):Int)==(a:Int))=false:=by simp;omega
   simp only[e',Bool.false_eq_true,if_false]
   refine⟨by omega,by omega,λh1 h2=>?_⟩
   have:=ih.2.2 (by omega) (by omega)
   omega
theorem WA{R:List (Int×Int)}{y0:Ex}{j:Nat}(hj:(aX ns).2=(j:Int))(hy:l[j]? = some y0)(hl:l.length=4)(hz:Sz (bn R y0) (3 * Ref15.nodes y0-1) (Ref15.nodes y0))(hi:2 * ins.length+3 * (Ref15.nodesL l+1)<=2000000)(h0:0<=n)(hn:n+(Ref15.nodesL l+1)<=1000000) :
  ChI R (aX ns).2 n (chT R (aX ns).2 n l y0 ins) 0 l (ins++(bn R y0 (n+1)).1++[(5,n)]) (bn R y0 (n+1)).2:=by
 have z:=hz (n+1)
 have hu:∀(i:Nat) y,l[i]? = some y->0+i=j->y=y0:=by
  intro i y e h
  have h:i=j:=by omega
  subst h
  rw[hy]at e;exact(Option.some.inj e).symm
 have s:=z5m (l:=l) (λy _=>dQ y) j y0 0 hu
 have hjl:j<4:=by have:=(List.getElem?_eq_some_iff.1 hy).1;omega
 have s2:=s.2.2 (Nat.zero_le _) (by omega)
 have hp:=dQ y0
 have hs:=Ref15.len_nodes l
 refine⟨rfl,rfl,?_,by omega,?_⟩
 ·rw[hj,List.length_append,List.length_append]
  simp only[List.length_cons,List.length_nil]
  have s3:=s2.1
  simp only[Int.natCast_zero]at s3 ⊢
  omega
 ·rw[hj]
  have s3:=s2.2
  simp only[Int.natCast_zero]at s3 ⊢
  omega
theorem z0x{p:Pr}{b:Nat}(hl:p.lines.length<=16/\p.tables.length<=16)(v:V p b x)(hk:x.kind=6\/x.kind=7\/x.kind=8\/x.kind=9\/x.kind=10\/x.kind=13\/x.kind=14\/x.kind=18):IntKind.i64.wrap (x.index+x.n)=x.index+x.n:=by
 have hg:=(bP v.wf).2.1
 have:0<=x.index+x.n/\x.index+x.n<=2147483648:=by
  rcases hk with e |e |e |e |e |e |e |e
  ·rw[v.num (by omega) (by omega),v.idx (by rw[e];rfl) (by omega) (by omega)];decide
  ·rw[v.num (by omega) (by omega),v.idx (by rw[e];rfl) (by omega) (by omega)];decide
  ·have:=z3x hg (by rw[e];rfl)
   rw[v.num (by omega) (by omega)];omega
  ·have:=z3y hg (by rw[e];rfl)
   rw[v.num (by omega) (by omega)];omega
  ·rw[v.num (by omega) (by omega),v.idx (by rw[e];rfl) (by omega) (by omega)];decide
  ·rw[v.num (by omega) (by omega),v.idx (by rw[e];rfl) (by omega) (by omega)];decide
  ·rw[v.num (by omega) (by omega),v.idx (by rw[e];rfl) (by omega) (by omega)];decide
  ·have:=own_k18' hg e
   rw[v.idx (by rw[e];rfl) (by omega) (by omega)];omega
 exact bH (by omega) (by omega)
theorem z5n{j:Nat}{i:Int}{y:Ex}(hi:i=j)(h:l[j]? = some y):0<=i/\(Ex.css l)[i.toNat]? = some (Ex.cs y):=by
 subst hi
 rw[Ex.css_eq]
 exact⟨Int.natCast_nonneg _,by rw[Int.toNat_natCast,List.getElem?_map,h];rfl⟩
theorem z0y{p:Pr}(h:oN p=0):Res p:=by
 have hb:(aJ p).2=0:=by
  apply Classical.byContradiction
  intro hn
  have:((aJ p).2 != 0)=true:=by simpa using hn
  rw[oN,if_pos this]at h
  exact hn h
 exact xx (lh hb).2
theorem TY{p:Pr}(h:Res p):p.stmts.length<=64/\p.lines.length<=16/\p.tables.length<=16:=by
 have hl:=h.li
 rw[limited_eq]at hl
 simp only[Bool.and_eq_true,few,Bool.not_eq_true',Bool.or_eq_false_iff,decide_eq_false_iff_not]at hl
 have hc:=(Wp h).lim
 exact⟨by omega,hc.2.2⟩
structure vI(p:Pr)(T:Ins×Int)(i:Nat)(r:List Sm)(ins:Ins)(n:Int)(R:List (Int×Int)):Prop where
 res:Res p
 at_:p.stmts.drop i=r
 code:ins++(cmpL r i R n).1=T.1
 regs:(cmpL r i R n).2=T.2
 len:ins.length<=768 * i
 n0:0<=n
 nb:n<=513 * (i:Int)
 il:i<=64
variable {r : List Sm} {p : Pr} {ins : Ins} {i : Nat} {n : Int} {x : Sm} {tabs l : List (List Int)}
theorem TZ(h:Res p):vI p (cmpL p.stmts 0 [] 0) 0 p.stmts [] 0 []:=⟨h,rfl,rfl,rfl,Nat.zero_le _,Int.le_refl _,by omega,by omega⟩
theorem vI.fin{T:Ins×Int}{R:List (Int×Int)}(h:vI p T i [] ins n R):ins=T.1/\n=T.2:=by
 have h1:=h.code
 have h2:=h.regs
 rw[cmpL]at h1 h2
 exact⟨by rw[<-h1,List.append_nil],h2⟩
theorem vI.sv{T:Ins×Int}{R:List (Int×Int)}(h:vI p T i (x::r) ins n R):SV p i x:=Yh h.res (o9 h.at_)
theorem vI.fit{T:Ins×Int}{R:List (Int×Int)}(h:vI p T i (x::r) ins n R) :
  (2 * ins.length+3 * Ref15.nodes x.x<=2000000/\0<=n/\n+Ref15.nodes x.x<=1000000)/\(ins++(bn R x.x n).1).length<=1000000/\0<=(bn R x.x n).2/\(bn R x.x n).2<=1000000:=by
 have sv:=h.sv
 have z:=TM (p:=p) (b:=i) (R:=R) x.x sv.v.wf n
 have:=sv.nd
 have:=h.len
 have:=h.n0
 have:=h.nb
 have:=h.il
 rw[List.length_append]
 refine⟨⟨by omega,by omega,by omega⟩,by omega,by omega,by omega⟩
theorem vI.nexti{T:Ins×Int}{R:List (Int×Int)}(h:vI p T i (x::r) ins n R):i<p.stmts.length/\i+1<=64:=by
 have h1:=kE h.at_
 have h2:=(TY h.res).1
 exact⟨h1,by omega⟩
theorem vI.let_{T:Ins×Int}{R:List (Int×Int)}(h:vI p T i (x::r) ins n R)(hk:(x.kind==1)=true) :
  vI p T (i+1) r (ins++(bn R x.x n).1++[(5,(bn R x.x n).2)]) ((bn R x.x n).2+1) (mf (i:Int) (bn R x.x n).2 R):=by
 have sv:=h.sv
 have z:=TM (p:=p) (b:=i) (R:=R) x.x sv.v.wf n
 have h1:=h.code
 have h2:=h.regs
 have:=sv.nd
 have:=h.len
 have:=h.n0
 have:=h.nb
 rw[cmpL,if_pos hk]at h1 h2
 refine⟨h.res,yY h.at_,?_,h2,?_,by omega,by rw[Int.natCast_add];omega,h.nexti.2⟩
 ·rw[<-h1];simp only[List.append_assoc]
 ·rw[List.length_append,List.length_append];simp only[List.length_cons,List.length_nil];omega
theorem vI.other{T:Ins×Int}{R:List (Int×Int)}{y:Int×Int}(h:vI p T i (x::r) ins n R)(hk:(x.kind==1)=false)(hy:(if x.kind==2 then(6,x.index)else if x.kind==3 then(7,x.index)else(22,0))=y) :
  vI p T (i+1) r (ins++(bn R x.x n).1++[y]) (bn R x.x n).2 R:=by
 have sv:=h.sv
 have z:=TM (p:=p) (b:=i) (R:=R) x.x sv.v.wf n
 have h1:=h.code
 have h2:=h.regs
 have:=sv.nd
 have:=h.len
 have:=h.n0
 have:=h.nb
 rw[cmpL,if_neg (by rw[hk];decide),hy]at h1
 rw[cmpL,if_neg (by rw[hk];decide)]at h2
 refine⟨h.res,yY h.at_,?_,h2,?_,by omega,by rw[Int.natCast_add];omega,h.nexti.2⟩
 ·rw[<-h1];simp only[List.append_assoc]
 ·rw[List.length_append,List.length_append];simp only[List.length_cons,List.length_nil];omega
theorem vI.set_{T:Ins×Int}{R:List (Int×Int)}(h:vI p T i (x::r) ins n R)(h1:(x.kind==1)=false)(h2:(x.kind==2)=true) :
  vI p T (i+1) r (ins++(bn R x.x n).1++[(6,x.index)]) (bn R x.x n).2 R:=h.other h1 (if_pos h2)
theorem vI.push_{T:Ins×Int}{R:List (Int×Int)}(h:vI p T i (x::r) ins n R)(h1:(x.kind==1)=false)(h2:(x.kind==2)=false)(h3:(x.kind==3)=true) :
  vI p T (i+1) r (ins++(bn R x.x n).1++[(7,x.index)]) (bn R x.x n).2 R:=h.other h1 (by rw[if_neg (by rw[h2];decide),if_pos h3])
theorem vI.out_{T:Ins×Int}{R:List (Int×Int)}(h:vI p T i (x::r) ins n R)(h1:(x.kind==1)=false)(h2:(x.kind==2)=false)(h3:(x.kind==3)=false) :
  vI p T (i+1) r (ins++(bn R x.x n).1++[(22,0)]) (bn R x.x n).2 R:=h.other h1 (by rw[if_neg (by rw[h2];decide),if_neg (by rw[h3];decide)])
theorem vI.no{T:Ins×Int}{R:List (Int×Int)}{P:Prop}(h:vI p T i (x::r) ins n R)(h1:(x.kind==1)=false)(h2:(x.kind==2)=false)(h3:(x.kind==3)=false)(h4:(x.kind==4)=false):P:=by
 rcases h.sv.kd with e |e |e |e
 ·rw[e]at h1;exact absurd h1 (by decide)
 ·rw[e]at h2;exact absurd h2 (by decide)
 ·rw[e]at h3;exact absurd h3 (by decide)
 ·rw[e]at h4;exact absurd h4 (by decide)
theorem z5o{k v w:Int}{R:List (Int×Int)}(h:lkA k (mf k v R)=some w):w=v:=by
 rw[zB,if_pos (by simp)]at h;exact(Option.some.inj h).symm
theorem z0z{k v:Int}{R:List (Int×Int)}{P:Prop}(h:lkA k (mf k v R)=none):P:=by
 rw[zB,if_pos (by simp)]at h;cases h
theorem z00(h:tabs++([]:List Tb).map Tb.values=l):tabs=l:=by simpa using h
theorem WB{r:List Tb}(h:tabs++r.map Tb.values=l):tabs.length<=l.length:=by rw[<-h];simp
theorem WC{x:Tb}{r:List Tb}(h:tabs++(x::r).map Tb.values=l):tabs++[x.values]++r.map Tb.values=l:=by rw[<-h];simp
end Go.Fw.Lw
namespace Go.Fw.Lw
open Go.Fw
variable [af]
abbrev W(n:Int):Int:=IntKind.i64.wrap n
def getI{α:Type}(l:List α)(i:Int):Option α:=if 0<=i then l[i.toNat]? else none
def rf(n lo hi:Int):Int:=bif decide (n<lo)then lo else bif decide (n>hi)then hi else n
def OB(a b:Int):Int:=
 bif (bif decide (b>0)then decide (a>W (4611686018427387904-b))else false)then 4611686018427387904 else
 bif (bif decide (b<0)then decide (a<W (-4611686018427387904-b))else false)then -4611686018427387904 else W (a+b)
def WE(n:Int):Int:=bif decide (n<0)then W (0-n)else n
def z01(a b:Int):Int:=bif decide (WE a<=W (Int.tdiv 4611686018427387904 (WE b)))then W (WE a * WE b)else 4611686018427387904
def Gz(a b:Int):Int:=
 bif (bif a==0 then true else b==0)then 0 else
 bif !(decide (a<0)==decide (b<0))then W (0-z01 a b)else z01 a b
def WF(n d:Int):Int:=bif decide (W (W (n.tdiv d) * d)>n)then W (W (n.tdiv d)-1)else W (n.tdiv d)
def Ua(v:Int):Int:=mm2 true (-2147483648) (mm2 false v 2147483647)
def O1(c:Mac.Cd)(inp sid:List Int)(s:Mac.Sta)(op a v:Int):Option Int:=
 if op==8 then getI inp (rf v 0 c.latency)
 else if op==9 then getI sid (rf v 0 c.latency)
 else if op==10 then(match getI s.lines a,getI c.lines a with
  |some l,some b=>getI l (rf v 0 (W (b.size-1)))
  |_,_=>none)
 else if op==11 then(match getI c.tables a with
  |some t=>getI t (rf v 0 (W ((t.length:Int)-1)))
  |none=>none)
 else if op==12 then some (Ua v)
 else if op==15 then some (WE v)
 else if op==16 then some (W (0-v))
 else if a==0 then none else some (WF v a)
def WG(op a b:Int):Option Int:=
 if op==13 then some (mm2 false a b)
 else if op==14 then some (mm2 true a b)
 else if op==17 then some (OB a b)
 else if op==18 then some (OB a (W (0-b)))
 else if decide (-4611686018427387904<=b)&&decide (b<=4611686018427387904)then some (Gz a b)else none
structure PQ where
 stack:List Int
 regs:List Int
 values:List Int
 pushed:List Bool
 last:List Int
 out:Int
instance:Inhabited PQ:=⟨⟨[],[],[],[],[],0⟩⟩
abbrev tk(x:Int×Int):Int:=(Mac.takesR x.1).1
abbrev ps(x:Int×Int):Int:=(Mac.takesR x.1).2.1
def UA(c:Mac.Cd)(inp sid:List Int)(s:Mac.Sta)(x:Int×Int)(l:List Int):Option Int:=
 if tk x==1 then(match l with
  |v::_=>if ps x==1 then O1 c inp sid s x.1 x.2 v else some v
  | []=>none)
 else if tk x==2 then(match l with
  |a::b::_=>WG x.1 a b
  |_=>none)
 else if tk x==4 then(match l with
  |a::b::c::d::_=>some (bif decide (a<b)then c else d)
  |_=>none)
 else some 0
def putO(par:List Int)(x:Int×Int)(v:Int)(q:PQ):Option (Int×PQ):=
 if x.1==1 then some (x.2,q)
 else if x.1==2 then(getI par x.2).map λw=>(w,q)
 else if x.1==3 then(getI q.values x.2).map λw=>(w,q)
 else if x.1==4 then(getI q.regs x.2).map λw=>(w,q)
 else if x.1==5 then(if decide (0<=x.2)&&decide (x.2<q.regs.length)then some (v,{ q with regs:=q.regs.set x.2.toNat v })else none)
 else if x.1==6 then(if decide (0<=x.2)&&decide (x.2<q.values.length)then some (v,{ q with values:=q.values.set x.2.toNat v })else none)
 else if x.1==7 then(if decide (0<=x.2)&&(decide (x.2<q.pushed.length)&&decide (x.2<q.last.length))then some (v,{ q with pushed:=q.pushed.set x.2.toNat true,last:=q.last.set x.2.toNat v })else none)
 else if x.1==22 then some (v,{ q with out:=v })
 else some (v,q)
def restN(x:Int×Int)(q:PQ):Nat:=q.stack.length-(tk x).toNat
def z02(c:Mac.Cd)(par inp sid:List Int)(s:Mac.Sta)(x:Int×Int)(q:PQ):Option PQ:=
 if decide (tk x<=q.stack.length)&&decide (q.stack.length<=1000000)then
  match UA c inp sid s x (q.stack.drop (restN x q))with
  |none=>none
  |some v=>match putO par x v { q with stack:=q.stack.take (restN x q) } with
   |none=>none
   |some (w,q')=>some (if ps x==1 then { q' with stack:=q'.stack++[rf w (-4611686018427387904) 4611686018427387904] } else q')
 else none
def WH(c:Mac.Cd)(par inp sid:List Int)(s:Mac.Sta):List (Int×Int)->PQ->Option PQ
 | [],q=>some q
 |x::r,q=>match z02 c par inp sid s x q with
  |none=>none
  |some q'=>WH c par inp sid s r q'
def JB(q:PQ)(i:Nat)(l:List Int):Option (List Int):=
 match q.pushed[i]? with
 |none=>none
 |some false=>some l
 |some true=>match q.last[i]? with
  |none=>none
  |some v=>if l.length=0 then none else some (v::l.take (l.length-1))
def uk(s:Mac.Sta)(q:PQ):List Ln->Nat->Option (List (List Int))
 | [],_=>some []
 |_::r,i=>match s.lines[i]? with
  |none=>none
  |some l=>match JB q i l with
   |none=>none
   |some m=>match uk s q r (i+1)with
    |none=>none
    |some k=>some (m::k)
def BN(c:Mac.Cd)(s:Mac.Sta):PQ:=⟨[],List.replicate c.regs.toNat 0,s.values,List.replicate c.lines.length false,List.replicate c.lines.length 0,0⟩
def D7(c:Mac.Cd)(par inp sid:List Int)(s:Mac.Sta):Option (Int×Mac.Sta):=
 match WH c par inp sid s c.instrs (BN c s)with
 |none=>none
 |some q=>match uk s q c.lines 0 with
  |none=>none
  |some l=>some (q.out,⟨q.values,l⟩)
theorem lQ{α β:Type}{l:List α}{f:α->β}{i:Int}{v:α}(h:getI l i=some v):0<=i/\(l.map f)[i.toNat]? = some (f v):=by
 unfold getI at h
 split at h
 ·rename_i h0;exact⟨h0,by rw[List.getElem?_map,h];rfl⟩
 ·cases h
section
variable {c : Mac.Cd} {inp sid : List Int} {s : Mac.Sta} {op a v r : Int} (hO : O1 c inp sid s op a v = some r)
include hO
theorem z8w(h:(op==8)=true):getI inp (rf v 0 c.latency)=some r:=by rw[O1,if_pos h]at hO;exact hO
theorem z8x(h8:(op==8)=false)(h:(op==9)=true):getI sid (rf v 0 c.latency)=some r:=by rw[O1,if_neg (by rw[h8];decide),if_pos h]at hO;exact hO
theorem z5p(h8:(op==8)=false)(h9:(op==9)=false)(h:(op==10)=true):∃l b,getI s.lines a=some l/\getI c.lines a=some b/\getI l (rf v 0 (W (b.size-1)))=some r:=by
 rw[O1,if_neg (by rw[h8];decide),if_neg (by rw[h9];decide),if_pos h]at hO
 cases h1:getI s.lines a with
 |none=>rw[h1]at hO;cases hO
 |some l=>cases h2:getI c.lines a with
  |none=>rw[h1,h2]at hO;cases hO
  |some b=>rw[h1,h2]at hO;exact⟨l,b,rfl,rfl,hO⟩
theorem z5q(h8:(op==8)=false)(h9:(op==9)=false)(h10:(op==10)=false)(h:(op==11)=true):∃t,getI c.tables a=some t/\getI t (rf v 0 (W ((t.length:Int)-1)))=some r:=by
 rw[O1,if_neg (by rw[h8];decide),if_neg (by rw[h9];decide),if_neg (by rw[h10];decide),if_pos h]at hO
 cases h1:getI c.tables a with
 |none=>rw[h1]at hO;cases hO
 |some t=>rw[h1]at hO;exact⟨t,rfl,hO⟩
theorem z5r(h8:(op==8)=false)(h9:(op==9)=false)(h10:(op==10)=false)(h11:(op==11)=false)(h:(op==12)=true):Ua v=r:=by
 rw[O1,if_neg (by rw[h8];decide),if_neg (by rw[h9];decide),if_neg (by rw[h10];decide),if_neg (by rw[h11];decide),if_pos h]at hO;exact Option.some.inj hO
theorem z5s(h8:(op==8)=false)(h9:(op==9)=false)(h10:(op==10)=false)(h11:(op==11)=false)(h12:(op==12)=false)(h:(op==15)=true):WE v=r:=by
 rw[O1,if_neg (by rw[h8];decide),if_neg (by rw[h9];decide),if_neg (by rw[h10];decide),if_neg (by rw[h11];decide),if_neg (by rw[h12];decide),if_pos h]at hO;exact Option.some.inj hO
theorem z5t(h8:(op==8)=false)(h9:(op==9)=false)(h10:(op==10)=false)(h11:(op==11)=false)(h12:(op==12)=false)(h15:(op==15)=false)(h:(op==16)=true):W (0-v)=r:=by
 rw[O1,if_neg (by rw[h8];decide),if_neg (by rw[h9];decide),if_neg (by rw[h10];decide),if_neg (by rw[h11];decide),if_neg (by rw[h12];decide),if_neg (by rw[h15];decide),if_pos h]at hO;exact Option.some.inj hO
theorem Yk(h8:(op==8)=false)(h9:(op==9)=false)(h10:(op==10)=false)(h11:(op==11)=false)(h12:(op==12)=false)(h15:(op==15)=false)(h:(op==16)=false):a≠0/\WF v a=r:=by
 rw[O1,if_neg (by rw[h8];decide),if_neg (by rw[h9];decide),if_neg (by rw[h10];decide),if_neg (by rw[h11];decide),if_neg (by rw[h12];decide),if_neg (by rw[h15];decide),if_neg (by rw[h];decide)]at hO
 split at hO
 ·cases hO
 ·rename_i h0;exact⟨by simpa using h0,Option.some.inj hO⟩
end
section
variable {op a b r : Int} (hO : WG op a b = some r)
include hO
theorem z5u(h:(op==13)=true):mm2 false a b=r:=by rw[WG,if_pos h]at hO;exact Option.some.inj hO
theorem z5v(h13:(op==13)=false)(h:(op==14)=true):mm2 true a b=r:=by rw[WG,if_neg (by rw[h13];decide),if_pos h]at hO;exact Option.some.inj hO
theorem z5w(h13:(op==13)=false)(h14:(op==14)=false)(h:(op==17)=true):OB a b=r:=by rw[WG,if_neg (by rw[h13];decide),if_neg (by rw[h14];decide),if_pos h]at hO;exact Option.some.inj hO
theorem z5x(h13:(op==13)=false)(h14:(op==14)=false)(h17:(op==17)=false)(h:(op==18)=true):OB a (W (0-b))=r:=by rw[WG,if_neg (by rw[h13];decide),if_neg (by rw[h14];decide),if_neg (by rw[h17];decide),if_pos h]at hO;exact Option.some.inj hO
theorem Yl(h13:(op==13)=false)(h14:(op==14)=false)(h17:(op==17)=false)(h:(op==18)=false):(-4611686018427387904<=b/\b<=4611686018427387904)/\Gz a b=r:=by
 rw[WG,if_neg (by rw[h13];decide),if_neg (by rw[h14];decide),if_neg (by rw[h17];decide),if_neg (by rw[h];decide)]at hO
 split at hO
 ·rename_i h0;simp only[Bool.and_eq_true,decide_eq_true_eq]at h0;exact⟨h0,Option.some.inj hO⟩
 ·cases hO
end
theorem z5y{a b:Int}(h:(bif a==0 then true else b==0)=false):b≠0:=by
 intro e;subst e
 revert h;cases (a==0)<;>simp
theorem z5z{b:Int}(hb:-4611686018427387904<=b/\b<=4611686018427387904)(h:decide (b<0)=true):IntKind.i64.wrap (0-b)≠0:=by
 have:=of_decide_eq_true h
 rw[bH (by omega) (by omega)];omega
section
variable (c : Mac.Cd) (par inp sid : List Int) (s : Mac.Sta)
def zF(x:Int×Int)(q:PQ):Int:=(UA c inp sid s x (q.stack.drop (restN x q))).getD 0
def O3(x:Int×Int)(q:PQ):PQ:={ q with stack:=q.stack.take (restN x q) }
def xG(x:Int×Int)(q:PQ):Int×PQ:=(putO par x (zF c inp sid s x q) (O3 x q)).getD default
def Ub(x:Int×Int)(q:PQ):PQ:={ (xG c par inp sid s x q).2 with stack:=if ps x==1 then q.stack.take (restN x q)++[rf (xG c par inp sid s x q).1 (-4611686018427387904) 4611686018427387904]else q.stack.take (restN x q) }
end
theorem GG{par:List Int}{x:Int×Int}{v w:Int}{q q':PQ}(h:putO par x v q=some (w,q')):q'.stack=q.stack/\q'.regs.length=q.regs.length/\q'.values.length=q.values.length/\q'.pushed.length=q.pushed.length/\q'.last.length=q.last.length:=by
 unfold putO at h
 repeat' split at h
 all_goals first |(cases h;done) |skip
 all_goals first
  |(obtain⟨_,rfl⟩:=Prod.mk.inj (Option.some.inj h);exact⟨rfl,by simp,by simp,by simp,by simp⟩)
  |(rw[Option.map_eq_some_iff]at h;obtain⟨_,_,h⟩:=h;obtain⟨_,rfl⟩:=Prod.mk.inj h;exact⟨rfl,rfl,rfl,rfl,rfl⟩)
structure PI(c:Mac.Cd)(par inp sid:List Int)(s:Mac.Sta)(F:PQ)(r:List (Int×Int))(row:List Int)(m:Nat)(q:PQ):Prop where
 run:WH c par inp sid s r q=some F
 st:q.stack=row.take m
 le:m<=row.length
 lr:q.regs.length=c.regs.toNat
 lv:q.values.length=s.values.length
 lp:q.pushed.length=c.lines.length
 ll:q.last.length=c.lines.length
section
variable {c : Mac.Cd} {par inp sid : List Int} {s : Mac.Sta} {F : PQ} {x : Int × Int} {r : List (Int × Int)} {row : List Int} {m : Nat} {q : PQ}
theorem PI.sl(h:PI c par inp sid s F r row m q):q.stack.length=m:=by rw[h.st,List.length_take];have:=h.le;omega
def T4(e:Int×Int×Bool):Prop:=0<=e.1/\e.1<=4
theorem T4.bif{b:Bool}{x y:Int×Int×Bool}(hx:T4 x)(hy:T4 y):T4 (bif b then x else y):=by cases b<;>assumption
theorem T4.of{t u:Int}{k:Bool}(h:(decide (0<=t)&&decide (t<=4))=true):T4 (t,u,k):=by
 simp only[Bool.and_eq_true,decide_eq_true_eq]at h;exact h
theorem z6a(x:Int×Int):0<=tk x/\tk x<=4:=by
 have:T4 (Mac.takesR x.1):=by
  unfold Mac.takesR
  repeat' (first |exact T4.of rfl |refine T4.bif ?_ ?_)
 exact this
theorem PI.step(h:PI c par inp sid s F (x::r) row m q):tk x<=m/\m<=1000000/\UA c inp sid s x (q.stack.drop (restN x q))=some (zF c inp sid s x q)/\putO par x (zF c inp sid s x q) (O3 x q)=some (xG c par inp sid s x q)/\WH c par inp sid s r (Ub c par inp sid s x q)=some F:=by
 have hr:=h.run
 have hsl:=h.sl
 rw[WH]at hr
 cases hs:z02 c par inp sid s x q with
 |none=>rw[hs]at hr;cases hr
 |some q'=>
  rw[hs]at hr
  rw[z02]at hs
  split at hs
  ·rename_i hc
   simp only[Bool.and_eq_true,decide_eq_true_eq,hsl]at hc
   cases ha:UA c inp sid s x (q.stack.drop (restN x q))with
   |none=>rw[ha]at hs;cases hs
   |some v=>
    rw[ha]at hs
    dsimp only at hs
    have ev:zF c inp sid s x q=v:=by rw[zF,ha];rfl
    cases hp:putO par x v { q with stack:=q.stack.take (restN x q) } with
    |none=>rw[hp]at hs;cases hs
    |some w=>
     obtain⟨w,q1⟩:=w
     rw[hp]at hs
     have ep:xG c par inp sid s x q=(w,q1):=by rw[xG,ev];show(putO par x v { q with stack:=q.stack.take (restN x q) }).getD default=_;rw[hp];rfl
     refine⟨hc.1,by have:=hc.2;omega,by rw[ev],by rw[ev,ep];exact hp,?_⟩
     have hst:=(GG hp).1
     have e:Ub c par inp sid s x q=q':=by
      have hs:=Option.some.inj hs
      rw[<-hs,Ub,ep]
      by_cases h1:(ps x==1)=true
      ·simp only[h1,if_true,hst]
      ·simp only[h1,if_false,Bool.false_eq_true]
       cases q1
       simp only at hst ⊢
       rw[hst]
     rw[e];exact hr
  ·cases hs
theorem PI.rest(h:PI c par inp sid s F (x::r) row m q):restN x q=m-(tk x).toNat/\restN x q<=m/\W ((m:Int)-tk x)=(restN x q:Nat)/\(0<=W ((m:Int)-tk x)/\W ((m:Int)-tk x)<=m):=by
 have hs:=h.step
 have ht:=z6a x
 have e:restN x q=m-(tk x).toNat:=by rw[restN,h.sl]
 have ew:W ((m:Int)-tk x)=(restN x q:Nat):=by rw[W,bH (by omega) (by omega),e];omega
 refine⟨e,by omega,ew,?_,?_⟩<;>rw[ew]<;>omega
def Ym(x:Int×Int)(row:List Int)(k:Nat)(w:Int):List Int:=if ps x==1 then row.take k++[rf w (-4611686018427387904) 4611686018427387904]else row
def mN(x:Int×Int)(k:Nat):Nat:=if ps x==1 then k+1 else k
def WI(x:Int×Int)(v:Nat):Nat:=if ps x==1 then v+1 else v
theorem PI.next(h:PI c par inp sid s F (x::r) row m q):PI c par inp sid s F r (Ym x row (restN x q) (xG c par inp sid s x q).1) (mN x (restN x q)) (Ub c par inp sid s x q):=by
 obtain⟨h1,h2,h3,h4,h5⟩:=h.step
 have hp:=GG (show putO par x (zF c inp sid s x q) (O3 x q)=some ((xG c par inp sid s x q).1,(xG c par inp sid s x q).2)from h4)
 have hr:=h.rest
 have hle:=h.le
 have e:q.stack.take (restN x q)=row.take (restN x q):=by rw[h.st,List.take_take,Nat.min_eq_left hr.2.1]
 refine⟨h5,?_,?_,hp.2.1.trans h.lr,hp.2.2.1.trans h.lv,hp.2.2.2.1.trans h.lp,hp.2.2.2.2.trans h.ll⟩
 ·show(if ps x==1 then _ else _)=_
  unfold Ym mN
  split
  ·rw[e,List.take_of_length_le (l:=row.take (restN x q)++_)]
   simp only[List.length_append,List.length_take,List.length_cons,List.length_nil];omega
  ·exact e
 ·unfold Ym mN
  split
  ·simp only[List.length_append,List.length_take,List.length_cons,List.length_nil];omega
  ·omega
theorem z8y{i v k:Nat}(h:(ps x==1)=true):AV.own i (v+1) 1 0 (k+1)=AV.own i (WI x v) 1 0 (mN x k):=by rw[WI,mN,if_pos h,if_pos h]
theorem z8z{i v k:Nat}(h:(ps x==1)=false):AV.own i v 1 0 k=AV.own i (WI x v) 1 0 (mN x k):=by rw[WI,mN,if_neg (by rw[h];decide),if_neg (by rw[h];decide)]
theorem z81{v k:Nat}{w:Int}(h:(ps x==1)=true):Block.arr (v+1) 1 ((row.map dZ).take k++[[D.i (rf w (-4611686018427387904) 4611686018427387904)]])=Block.arr (WI x v) 1 ((Ym x row k w).map dZ):=by
 rw[WI,Ym,if_pos h,if_pos h,List.map_append,List.map_take];rfl
theorem z88{v k:Nat}{w:Int}(h:(ps x==1)=false):Block.arr v 1 (row.map dZ)=Block.arr (WI x v) 1 ((Ym x row k w).map dZ):=by
 rw[WI,Ym,if_neg (by rw[h];decide),if_neg (by rw[h];decide)]
theorem PI.args(h:PI c par inp sid s F (x::r) row m q):([]:List (List D))++((row.map dZ).drop (0+(W ((m:Int)-tk x)).toNat)).take (m-(W ((m:Int)-tk x)).toNat)=(q.stack.drop (restN x q)).map dZ:=by
 have hr:=h.rest
 rw[hr.2.2.1,Int.toNat_natCast,Nat.zero_add,List.nil_append,h.st,List.drop_take,List.map_take,List.map_drop]
section
variable (h : PI c par inp sid s F (x :: r) row m q)
include h
theorem PI.a1(h1:(tk x==1)=true):(0:Int)<=0/\((q.stack.drop (restN x q)).map dZ)[(0:Int).toNat]? = some (dZ ((q.stack.drop (restN x q)).getD 0 0)):=by
 have ha:=h.step.2.2.1
 unfold UA at ha
 rw[if_pos h1]at ha
 refine⟨Int.le_refl 0,?_⟩
 cases hd:q.stack.drop (restN x q)with
 |nil=>rw[hd]at ha;cases ha
 |cons v t=>rfl
theorem PI.a1o(h1:(tk x==1)=true)(h2:(ps x==1)=true):O1 c inp sid s x.1 x.2 ((q.stack.drop (restN x q)).getD 0 0)=some (zF c inp sid s x q):=by
 have ha:=h.step.2.2.1
 unfold UA at ha
 rw[if_pos h1]at ha
 cases hd:q.stack.drop (restN x q)with
 |nil=>rw[hd]at ha;cases ha
 |cons v t=>rw[hd]at ha;simp only[h2,if_true]at ha;exact ha
theorem PI.a1v(h1:(tk x==1)=true)(h2:(ps x==1)=false):(q.stack.drop (restN x q)).getD 0 0=zF c inp sid s x q:=by
 have ha:=h.step.2.2.1
 unfold UA at ha
 rw[if_pos h1]at ha
 cases hd:q.stack.drop (restN x q)with
 |nil=>rw[hd]at ha;cases ha
 |cons v t=>rw[hd]at ha;simp only[h2,Bool.false_eq_true,if_false]at ha;exact Option.some.inj ha
theorem PI.a2(h1:(tk x==1)=false)(h2:(tk x==2)=true):((0:Int)<=0/\((q.stack.drop (restN x q)).map dZ)[(0:Int).toNat]? = some (dZ ((q.stack.drop (restN x q)).getD 0 0)))/\((0:Int)<=1/\((q.stack.drop (restN x q)).map dZ)[(1:Int).toNat]? = some (dZ ((q.stack.drop (restN x q)).getD 1 0))) /\
  WG x.1 ((q.stack.drop (restN x q)).getD 0 0) ((q.stack.drop (restN x q)).getD 1 0)=some (zF c inp sid s x q):=by
 have ha:=h.step.2.2.1
 unfold UA at ha
 rw[if_neg (by rw[h1];decide),if_pos h2]at ha
 match hd:q.stack.drop (restN x q)with
 | []=>rw[hd]at ha;cases ha
 | [v]=>rw[hd]at ha;cases ha
 |a::b::t=>rw[hd]at ha;exact⟨⟨Int.le_refl 0,rfl⟩,⟨by decide,rfl⟩,ha⟩
theorem PI.a4(h1:(tk x==1)=false)(h2:(tk x==2)=false)(h4:(tk x==4)=true):(((0:Int)<=0/\((q.stack.drop (restN x q)).map dZ)[(0:Int).toNat]? = some (dZ ((q.stack.drop (restN x q)).getD 0 0)))/\((0:Int)<=1/\((q.stack.drop (restN x q)).map dZ)[(1:Int).toNat]? = some (dZ ((q.stack.drop (restN x q)).getD 1 0))) /\
  ((0:Int)<=2/\((q.stack.drop (restN x q)).map dZ)[(2:Int).toNat]? = some (dZ ((q.stack.drop (restN x q)).getD 2 0)))/\((0:Int)<=3/\((q.stack.drop (restN x q)).map dZ)[(3:Int).toNat]? = some (dZ ((q.stack.drop (restN x q)).getD 3 0)))) /\
  (bif decide ((q.stack.drop (restN x q)).getD 0 0<(q.stack.drop (restN x q)).getD 1 0)then(q.stack.drop (restN x q)).getD 2 0 else(q.stack.drop (restN x q)).getD 3 0)=zF c inp sid s x q:=by
 have ha:=h.step.2.2.1
 unfold UA at ha
 rw[if_neg (by rw[h1];decide),if_neg (by rw[h2];decide),if_pos h4]at ha
 match hd:q.stack.drop (restN x q)with
 | []=>rw[hd]at ha;cases ha
 | [v]=>rw[hd]at ha;cases ha
 | [v,_]=>rw[hd]at ha;cases ha
 | [v,_,_]=>rw[hd]at ha;cases ha
 |a::b::d::e::t=>rw[hd]at ha;exact⟨⟨⟨Int.le_refl 0,rfl⟩,⟨by decide,rfl⟩,⟨by decide,rfl⟩,⟨by decide,rfl⟩⟩,Option.some.inj ha⟩
theorem PI.a4t(h1:(tk x==1)=false)(h2:(tk x==2)=false)(h4:(tk x==4)=true)(hl:decide ((q.stack.drop (restN x q)).getD 0 0<(q.stack.drop (restN x q)).getD 1 0)=true):(q.stack.drop (restN x q)).getD 2 0=zF c inp sid s x q:=by
 have:=(h.a4 h1 h2 h4).2;rw[hl]at this;exact this
theorem PI.a4f(h1:(tk x==1)=false)(h2:(tk x==2)=false)(h4:(tk x==4)=true)(hl:decide ((q.stack.drop (restN x q)).getD 0 0<(q.stack.drop (restN x q)).getD 1 0)=false):(q.stack.drop (restN x q)).getD 3 0=zF c inp sid s x q:=by
 have:=(h.a4 h1 h2 h4).2;rw[hl]at this;exact this
theorem PI.a0(h1:(tk x==1)=false)(h2:(tk x==2)=false)(h4:(tk x==4)=false):0=zF c inp sid s x q:=by
 have ha:=h.step.2.2.1
 unfold UA at ha
 rw[if_neg (by rw[h1];decide),if_neg (by rw[h2];decide),if_neg (by rw[h4];decide)]at ha
 exact Option.some.inj ha
theorem PI.pe1(h1:(x.1==1)=true):xG c par inp sid s x q=(x.2,O3 x q):=by
 have hp:=h.step.2.2.2.1
 unfold putO at hp
 rw[if_pos h1]at hp
 exact(Option.some.inj hp).symm
theorem PI.pe2(h1:(x.1==1)=false)(h2:(x.1==2)=true):xG c par inp sid s x q=(par.getD x.2.toNat 0,O3 x q)/\(0<=x.2/\(par.map dZ)[x.2.toNat]? = some (dZ (par.getD x.2.toNat 0)))/\x.2<(par.length:Nat):=by
 have hp:=h.step.2.2.2.1
 unfold putO at hp
 rw[if_neg (by rw[h1];decide),if_pos h2]at hp
 rw[Option.map_eq_some_iff]at hp
 obtain⟨w,h0,hp⟩:=hp
 have h0:getI par x.2=some w:=h0
 have h00:=h0
 unfold getI at h0
 split at h0
 ·rename_i hx
  have e:par.getD x.2.toNat 0=w:=by rw[List.getD_eq_getElem?_getD,h0];rfl
  rw[e,<-hp]
  have:=(List.getElem?_eq_some_iff.1 h0).1
  exact⟨rfl,lQ h00,by omega⟩
 ·cases h0
theorem PI.pe3(h1:(x.1==1)=false)(h2:(x.1==2)=false)(h3:(x.1==3)=true):xG c par inp sid s x q=(q.values.getD x.2.toNat 0,O3 x q)/\(0<=x.2/\(q.values.map dZ)[x.2.toNat]? = some (dZ (q.values.getD x.2.toNat 0)))/\x.2<(q.values.length:Nat):=by
 have hp:=h.step.2.2.2.1
 unfold putO at hp
 rw[if_neg (by rw[h1];decide),if_neg (by rw[h2];decide),if_pos h3]at hp
 rw[Option.map_eq_some_iff]at hp
 obtain⟨w,h0,hp⟩:=hp
 have h0:getI q.values x.2=some w:=h0
 have h00:=h0
 unfold getI at h0
 split at h0
 ·rename_i hx
  have e:q.values.getD x.2.toNat 0=w:=by rw[List.getD_eq_getElem?_getD,h0];rfl
  rw[e,<-hp]
  have:=(List.getElem?_eq_some_iff.1 h0).1
  exact⟨rfl,lQ h00,by omega⟩
 ·cases h0
theorem PI.pe4(h1:(x.1==1)=false)(h2:(x.1==2)=false)(h3:(x.1==3)=false)(h4:(x.1==4)=true):xG c par inp sid s x q=(q.regs.getD x.2.toNat 0,O3 x q)/\(0<=x.2/\(q.regs.map dZ)[x.2.toNat]? = some (dZ (q.regs.getD x.2.toNat 0)))/\x.2<(q.regs.length:Nat):=by
 have hp:=h.step.2.2.2.1
 unfold putO at hp
 rw[if_neg (by rw[h1];decide),if_neg (by rw[h2];decide),if_neg (by rw[h3];decide),if_pos h4]at hp
 rw[Option.map_eq_some_iff]at hp
 obtain⟨w,h0,hp⟩:=hp
 have h0:getI q.regs x.2=some w:=h0
 have h00:=h0
 unfold getI at h0
 split at h0
 ·rename_i hx
  have e:q.regs.getD x.2.toNat 0=w:=by rw[List.getD_eq_getElem?_getD,h0];rfl
  rw[e,<-hp]
  have:=(List.getElem?_eq_some_iff.1 h0).1
  exact⟨rfl,lQ h00,by omega⟩
 ·cases h0
theorem PI.pe5(h1:(x.1==1)=false)(h2:(x.1==2)=false)(h3:(x.1==3)=false)(h4:(x.1==4)=false)(h5:(x.1==5)=true):xG c par inp sid s x q=(zF c inp sid s x q,{ O3 x q with regs:=q.regs.set x.2.toNat (zF c inp sid s x q) })/\0<=x.2/\x.2<(q.regs.length:Nat):=by
 have hp:=h.step.2.2.2.1
 unfold putO at hp
 rw[if_neg (by rw[h1];decide),if_neg (by rw[h2];decide),if_neg (by rw[h3];decide),if_neg (by rw[h4];decide),if_pos h5]at hp
 split at hp
 ·rename_i hc
  simp only[Bool.and_eq_true,decide_eq_true_eq]at hc
  exact⟨(Option.some.inj hp).symm,hc.1,hc.2⟩
 ·cases hp
theorem PI.pe6(h1:(x.1==1)=false)(h2:(x.1==2)=false)(h3:(x.1==3)=false)(h4:(x.1==4)=false)(h5:(x.1==5)=false)(h6:(x.1==6)=true):xG c par inp sid s x q=(zF c inp sid s x q,{ O3 x q with values:=q.values.set x.2.toNat (zF c inp sid s x q) })/\0<=x.2/\x.2<(q.values.length:Nat):=by
 have hp:=h.step.2.2.2.1
 unfold putO at hp
 rw[if_neg (by rw[h1];decide),if_neg (by rw[h2];decide),if_neg (by rw[h3];decide),if_neg (by rw[h4];decide),if_neg (by rw[h5];decide),if_pos h6]at hp
 split at hp
 ·rename_i hc
  simp only[Bool.and_eq_true,decide_eq_true_eq]at hc
  exact⟨(Option.some.inj hp).symm,hc.1,hc.2⟩
 ·cases hp
theorem PI.pe7(h1:(x.1==1)=false)(h2:(x.1==2)=false)(h3:(x.1==3)=false)(h4:(x.1==4)=false)(h5:(x.1==5)=false)(h6:(x.1==6)=false)(h7:(x.1==7)=true):xG c par inp sid s x q=(zF c inp sid s x q,{ O3 x q with pushed:=q.pushed.set x.2.toNat true,last:=q.last.set x.2.toNat (zF c inp sid s x q) })/\0<=x.2/\x.2<(q.pushed.length:Nat)/\x.2<(q.last.length:Nat):=by
 have hp:=h.step.2.2.2.1
 unfold putO at hp
 rw[if_neg (by rw[h1];decide),if_neg (by rw[h2];decide),if_neg (by rw[h3];decide),if_neg (by rw[h4];decide),if_neg (by rw[h5];decide),if_neg (by rw[h6];decide),if_pos h7]at hp
 split at hp
 ·rename_i hc
  simp only[Bool.and_eq_true,decide_eq_true_eq]at hc
  exact⟨(Option.some.inj hp).symm,hc.1,hc.2.1,hc.2.2⟩
 ·cases hp
theorem PI.pe22(h1:(x.1==1)=false)(h2:(x.1==2)=false)(h3:(x.1==3)=false)(h4:(x.1==4)=false)(h5:(x.1==5)=false)(h6:(x.1==6)=false)(h7:(x.1==7)=false)(h22:(x.1==22)=true):xG c par inp sid s x q=(zF c inp sid s x q,{ O3 x q with out:=zF c inp sid s x q }):=by
 have hp:=h.step.2.2.2.1
 unfold putO at hp
 rw[if_neg (by rw[h1];decide),if_neg (by rw[h2];decide),if_neg (by rw[h3];decide),if_neg (by rw[h4];decide),if_neg (by rw[h5];decide),if_neg (by rw[h6];decide),if_neg (by rw[h7];decide),if_pos h22]at hp
 exact(Option.some.inj hp).symm
theorem PI.pe0(h1:(x.1==1)=false)(h2:(x.1==2)=false)(h3:(x.1==3)=false)(h4:(x.1==4)=false)(h5:(x.1==5)=false)(h6:(x.1==6)=false)(h7:(x.1==7)=false)(h22:(x.1==22)=false):xG c par inp sid s x q=(zF c inp sid s x q,O3 x q):=by
 have hp:=h.step.2.2.2.1
 unfold putO at hp
 rw[if_neg (by rw[h1];decide),if_neg (by rw[h2];decide),if_neg (by rw[h3];decide),if_neg (by rw[h4];decide),if_neg (by rw[h5];decide),if_neg (by rw[h6];decide),if_neg (by rw[h7];decide),if_neg (by rw[h22];decide)]at hp
 exact(Option.some.inj hp).symm
end
end
theorem BO{α:Type}{l:List α}{i:Int}{d:α}{f:α->List D}(h0:0<=i)(h:i<(l.length:Nat)):(l.map f)[0+i.toNat]? = some (f (l.getD i.toNat d)):=by
 have:i.toNat<l.length:=by omega
 rw[Nat.zero_add,List.getElem?_map,List.getD_eq_getElem?_getD,List.getElem?_eq_getElem this];rfl
theorem lu{l:List Bool}{v:Bool}{k i:Nat}:Block.arr k 1 ((l.map Mac.boolC).set (0+i) [D.b v])=Block.arr k 1 ((l.set i v).map Mac.boolC):=by
 rw[Nat.zero_add,List.map_set]
theorem z03(n:Nat)(v:Int):Block.arr 0 1 (List.replicate n [D.i v])=Block.arr 0 1 ((List.replicate n v).map dZ):=by rw[List.map_replicate]
theorem PI.own_cut{c:Mac.Cd}{par inp sid:List Int}{s:Mac.Sta}{F:PQ}{x:Int×Int}{r:List (Int×Int)}{row:List Int}{m:Nat}{q:PQ}(h:PI c par inp sid s F (x::r) row m q){i v:Nat}:AV.own i v 1 0 (W ((m:Int)-tk x)).toNat=AV.own i v 1 0 (restN x q):=by rw[h.rest.2.2.1,Int.toNat_natCast]
theorem PI.len1{c:Mac.Cd}{par inp sid:List Int}{s:Mac.Sta}{F:PQ}{x:Int×Int}{r:List (Int×Int)}{row:List Int}{m:Nat}{q:PQ}(h:PI c par inp sid s F (x::r) row m q):0+(W ((m:Int)-tk x)).toNat+(m-(W ((m:Int)-tk x)).toNat)<=(row.map dZ).length:=by
 have h1:=h.rest.2.2.2;have h2:=h.le
 rw[List.length_map];omega
theorem PI.len2{c:Mac.Cd}{par inp sid:List Int}{s:Mac.Sta}{F:PQ}{x:Int×Int}{r:List (Int×Int)}{row:List Int}{m:Nat}{q:PQ}(h:PI c par inp sid s F (x::r) row m q):(((row.map dZ).drop (0+(W ((m:Int)-tk x)).toNat)).take (m-(W ((m:Int)-tk x)).toNat)).length<=1073741824:=by
 have h1:=h.step.2.1
 rw[List.length_take];omega
theorem WJ{α:Type}(l:List α)(f:α->List D)(v:Int):Block.arr 0 1 (List.replicate (((l.map f).length:Nat):Int).toNat [D.i v])=Block.arr 0 1 ((List.replicate l.length v).map dZ):=by rw[List.map_replicate,Int.toNat_natCast,List.length_map]
theorem Uc{α:Type}(l:List α)(f:α->List D)(v:Bool):Block.arr 0 1 (List.replicate (((l.map f).length:Nat):Int).toNat [D.b v])=Block.arr 0 1 ((List.replicate l.length v).map Mac.boolC):=by rw[List.map_replicate,Int.toNat_natCast,List.length_map]
theorem WL{c:Mac.Cd}{par inp sid:List Int}{s:Mac.Sta}{F:PQ}(h:WH c par inp sid s c.instrs (BN c s)=some F):PI c par inp sid s F c.instrs [] 0 (BN c s):=
 ⟨h,rfl,Nat.le_refl _,List.length_replicate,rfl,List.length_replicate,List.length_replicate⟩
theorem PI.fin{c:Mac.Cd}{par inp sid:List Int}{s:Mac.Sta}{F:PQ}{row:List Int}{m:Nat}{q:PQ}(h:PI c par inp sid s F [] row m q):q=F:=by
 have:=h.run;rw[WH]at this;exact Option.some.inj this
structure LI(s:Mac.Sta)(F:PQ)(L:List (List Int))(r:List Ln)(i:Nat)(ls:List (List Int)):Prop where
 ex:∃k,uk s F r i=some k/\ls++k=L
def Ad(s:Mac.Sta)(i:Nat):List Int:=s.lines.getD i []
def WM(s:Mac.Sta)(F:PQ)(i:Nat):List Int:=(JB F i (Ad s i)).getD []
section
variable {s : Mac.Sta} {F : PQ} {L : List (List Int)} {x : Ln} {r : List Ln} {i : Nat} {ls : List (List Int)} (h : LI s F L (x :: r) i ls)
include h
theorem LI.step:s.lines[i]? = some (Ad s i)/\JB F i (Ad s i)=some (WM s F i)/\LI s F L r (i+1) (ls++[WM s F i]):=by
 obtain⟨k,h1,h2⟩:=h.ex
 rw[uk]at h1
 cases hl:s.lines[i]? with
 |none=>rw[hl]at h1;cases h1
 |some l=>
  rw[hl]at h1
  dsimp only at h1
  have e:Ad s i=l:=by rw[Ad,List.getD_eq_getElem?_getD,hl];rfl
  cases hm:JB F i l with
  |none=>rw[hm]at h1;cases h1
  |some m=>
   rw[hm]at h1
   dsimp only at h1
   have em:WM s F i=m:=by rw[WM,e,hm];rfl
   cases hk:uk s F r (i+1)with
   |none=>rw[hk]at h1;cases h1
   |some k'=>
    rw[hk]at h1
    refine⟨by rw[e],by rw[e,em];exact hm,⟨k',hk,?_⟩⟩
    rw[em,<-h2,<-Option.some.inj h1];simp
theorem LI.old:(0:Int)<=(i:Int)/\(s.lines.map Mac.lnC)[((i:Nat):Int).toNat]? = some (Mac.lnC (Ad s i)):=⟨Int.natCast_nonneg _,by rw[Int.toNat_natCast,List.getElem?_map,h.step.1];rfl⟩
theorem LI.push:(F.pushed.map Mac.boolC)[0+((i:Nat):Int).toNat]? = some (Mac.boolC (F.pushed.getD i false))/\i<F.pushed.length:=by
 have hl:=h.step.2.1
 rw[JB]at hl
 cases hp:F.pushed[i]? with
 |none=>rw[hp]at hl;cases hl
 |some b=>
  refine⟨?_,(List.getElem?_eq_some_iff.1 hp).1⟩
  rw[Nat.zero_add,Int.toNat_natCast,List.getElem?_map,hp,List.getD_eq_getElem?_getD,hp];rfl
theorem LI.no(hb:F.pushed.getD i false=false):Ad s i=WM s F i:=by
 have hl:=h.step.2.1
 have hp:=h.push.2
 have e:F.pushed[i]? = some false:=by rw[List.getElem?_eq_getElem hp];rw[List.getD_eq_getElem?_getD,List.getElem?_eq_getElem hp]at hb;exact congrArg some hb
 rw[JB,e]at hl
 exact Option.some.inj hl
theorem LI.yes(hb:F.pushed.getD i false=true):((F.last.map dZ)[0+((i:Nat):Int).toNat]? = some (dZ (F.last.getD i 0))/\i<F.last.length)/\1<=(Ad s i).length/\F.last.getD i 0::(Ad s i).take ((Ad s i).length-1)=WM s F i:=by
 have hl:=h.step.2.1
 have hp:=h.push.2
 have e:F.pushed[i]? = some true:=by rw[List.getElem?_eq_getElem hp];rw[List.getD_eq_getElem?_getD,List.getElem?_eq_getElem hp]at hb;exact congrArg some hb
 rw[JB,e]at hl
 cases hv:F.last[i]? with
 |none=>rw[hv]at hl;cases hl
 |some v=>
  rw[hv]at hl
  have ev:F.last.getD i 0=v:=by rw[List.getD_eq_getElem?_getD,hv];rfl
  simp only at hl
  split at hl
  ·cases hl
  ·rename_i h0
   refine⟨⟨?_,(List.getElem?_eq_some_iff.1 hv).1⟩,by omega,by rw[ev];exact Option.some.inj hl⟩
   rw[Nat.zero_add,Int.toNat_natCast,List.getElem?_map,hv,ev];rfl
end
theorem JC{s:Mac.Sta}{F:PQ}{L:List (List Int)}{x:Ln}{r:List Ln}{i:Nat}{ls:List (List Int)}(gs:s.Sm)(h:LI s F L (x::r) i ls):(Ad s i).length<=268435456:=gs.line _ (List.mem_of_getElem? h.step.1)
section
variable {s : Mac.Sta} {F : PQ} {L : List (List Int)} {x : Ln} {r : List Ln} {i : Nat} {ls : List (List Int)} (gs : s.Sm) (h : LI s F L (x :: r) i ls)
include gs h
theorem LI.w(hb:F.pushed.getD i false=true):IntKind.i64.wrap (((([]:List (List D))++(Ad s i).map dZ).length:Nat)-1:Int)=(((Ad s i).length-1:Nat):Int):=by
 have h1:=(h.yes hb).2.1
 have h2:=JC gs h
 rw[List.nil_append,List.length_map,bH (by omega) (by omega)];omega
theorem LI.w1(hb:F.pushed.getD i false=true):0<=IntKind.i64.wrap (((([]:List (List D))++(Ad s i).map dZ).length:Nat)-1:Int):=by rw[h.w gs hb];omega
theorem LI.w2(hb:F.pushed.getD i false=true):IntKind.i64.wrap (((([]:List (List D))++(Ad s i).map dZ).length:Nat)-1:Int)<=((([]:List (List D))++(Ad s i).map dZ).length:Nat):=by
 rw[h.w gs hb,List.nil_append,List.length_map];omega
theorem LI.w3(hb:F.pushed.getD i false=true):(cut none (some (IntKind.i64.wrap (((([]:List (List D))++(Ad s i).map dZ).length:Nat)-1:Int))) (([]:List (List D))++(Ad s i).map dZ)).length<=1073741824:=by
 have h2:=JC gs h
 rw[h.w gs hb,cut,List.nil_append,List.length_take,List.length_map];omega
theorem LI.ln1(hb:F.pushed.getD i false=true):ls.map Mac.lnC++[[D.sl 1 ([[D.i (F.last.getD i 0)]]++cut none (some (IntKind.i64.wrap (((([]:List (List D))++(Ad s i).map dZ).length:Nat)-1:Int))) (([]:List (List D))++(Ad s i).map dZ))]]=(ls++[WM s F i]).map Mac.lnC:=by
 rw[h.w gs hb,cut,Int.toNat_natCast,List.nil_append,<-(h.yes hb).2.2,List.map_append]
 simp only[List.map_cons,List.map_nil,Mac.lnC,ints,List.map_take];rfl
end
theorem LI.ln0{s:Mac.Sta}{F:PQ}{L:List (List Int)}{x:Ln}{r:List Ln}{i:Nat}{ls:List (List Int)}(h:LI s F L (x::r) i ls)(hb:F.pushed.getD i false=false):ls.map Mac.lnC++[[D.sl 1 (([]:List (List D))++(Ad s i).map dZ)]]=(ls++[WM s F i]).map Mac.lnC:=by
 rw[List.nil_append,<-h.no hb,List.map_append];rfl
theorem LI.fin{s:Mac.Sta}{F:PQ}{L:List (List Int)}{i:Nat}{ls:List (List Int)}(h:LI s F L [] i ls):ls=L:=by
 obtain⟨k,h1,h2⟩:=h.ex
 rw[uk]at h1
 rw[<-h2,<-Option.some.inj h1,List.append_nil]
theorem WN{s:Mac.Sta}{F:PQ}{L:List (List Int)}{r:List Ln}(h:uk s F r 0=some L):LI s F L r 0 []:=⟨⟨L,h,rfl⟩⟩
theorem WO{c:Mac.Cd}{par inp sid:List Int}{s:Mac.Sta}{v:Int}{t:Mac.Sta}(h:D7 c par inp sid s=some (v,t)):∃F,WH c par inp sid s c.instrs (BN c s)=some F/\uk s F c.lines 0=some t.lines/\v=F.out/\t.values=F.values:=by
 rw[D7]at h
 cases hr:WH c par inp sid s c.instrs (BN c s)with
 |none=>rw[hr]at h;cases h
 |some F=>
  rw[hr]at h
  cases hl:uk s F c.lines 0 with
  |none=>simp only[hl]at h;cases h
  |some l=>
   simp only[hl]at h
   obtain⟨h1,h2⟩:=Prod.mk.inj (Option.some.inj h)
   subst h2
   exact⟨F,rfl,hl,h1.symm,rfl⟩
end Go.Fw.Lw
