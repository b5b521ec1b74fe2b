/- A part of the proof. -/
import Derived.Test.YtaipffoajgkljaaGreatDoorZMC
import Derived.Test.YtaipffoajgkljaaGreatDoorZTB
set_option linter.all false
namespace Go.Fw.Lw
open Go.Fw Go.Fw.Ref15 Go.Fw.Rg Go.Fw.Tl
variable [af]
abbrev Ins:=List (Int×Int)
abbrev GF:=Int->Ins×Int
def needS:List Int->Int->Int->Int
 | [],_,n=>n
 |k::r,i,n=>needS r (i+1) (mm2 true n (k+i))
abbrev bg(l:List Int):Int×Int:=Mac.mostF l 0 0 0
def qF(l:List Int):Int:=
 if l.length=0 then 1 else if l.length=1 then(bg l).1
 else if l.length=2 then mm2 true (bg l).1 (l.getD (1-(bg l).2).toNat 0+1)
 else needS (l.set (bg l).2.toNat 1) 0 (bg l).1
mutual
def ae:Ex->Int
 | .mk _ _ _ _ l=>qF (cu l)
def cu:List Ex->List Int
 | []=>[]
 |x::r=>ae x::cu r
end
theorem oW(x:Ex):ae x=qF (cu x.l):=by cases x;rfl
theorem iP:∀l:List Ex,cu l=l.map ae
 | []=>rfl
 |x::r=>by rw[cu,iP r];rfl
def bQ(op a:Int):GF:=λn=>([(op,a)],n)
def gU(f g:GF):GF:=λn=>((f n).1++(g (f n).2).1,(g (f n).2).2)
def gNil:GF:=λn=>([],n)
def chG:List GF->Int->Int->Int->GF
 | [],_,_,_=>gNil
 |f::r,at_,reg,i=>gU (if i==at_ then bQ 4 reg else f) (chG r at_ reg (i+1))
def zfo(k:Int):Int:=if k==11 then 13 else if k==12 then 14 else if k==15 then 17 else 19
def yA(k:Int):Int:=if k==6 then 8 else if k==7 then 9 else if k==8 then 10 else if k==9 then 11 else if k==10 then 12 else if k==13 then 15 else if k==14 then 16 else 20
def zfp(k:Int):Bool:=k==11 || k==12 || k==15 || k==17
def fAt(fs:List GF)(i:Int):GF:=fs.getD i.toNat gNil
def qG(op:Int)(ns:List Int)(fs:List GF):GF:=gU (gU (fAt fs (bg ns).2) (fAt fs (1-(bg ns).2))) (bQ op 0)
def JD(ns:List Int)(fs:List GF):GF:=
 if ns.getD 1 0<=ns.getD 0 0 then gU (gU (fAt fs 0) (fAt fs 1)) (bQ 18 0)
 else gU (gU (gU (fAt fs 1) (bQ 16 0)) (fAt fs 0)) (bQ 17 0)
def gIf(ns:List Int)(fs:List GF):GF:=λn=>gU (gU (gU (fAt fs (bg ns).2) (bQ 5 n)) (chG fs (bg ns).2 n 0)) (bQ 21 0) (n+1)
def genC(R:List (Int×Int))(k i m:Int)(ns:List Int)(fs:List GF):GF:=
 if k==1 then bQ 1 m
 else if k==3 then bQ 2 i
 else if k==4 then bQ 3 i
 else if k==5 then bQ 4 ((lkA i R).getD 0)
 else if zfp k then qG (zfo k) ns fs
 else if k==16 then JD ns fs
 else if k==19 then gIf ns fs
 else gU (fAt fs 0) (bQ (yA k) (i+m))
mutual
def aN(R:List (Int×Int)):Ex->GF
 | .mk k _ i m l=>genC R k i m (cu l) (bV R l)
def bV(R:List (Int×Int)):List Ex->List GF
 | []=>[]
 |x::r=>aN R x::bV R r
end
theorem Gu(R:List (Int×Int))(x:Ex):aN R x=genC R x.kind x.index x.n (cu x.l) (bV R x.l):=by cases x;rfl
theorem kV(R:List (Int×Int)):∀l:List Ex,bV R l=l.map (aN R)
 | []=>rfl
 |x::r=>by rw[bV,kV R r];rfl
def cmpL:List Sm->Nat->List (Int×Int)->Int->Ins×Int
 | [],_,_,n=>([],n)
 |s::r,i,R,n=>
  if s.kind==1 then((aN R s.x n).1++[(5,(aN R s.x n).2)]++(cmpL r (i+1) (lW (i:Int) (aN R s.x n).2 R) ((aN R s.x n).2+1)).1,(cmpL r (i+1) (lW (i:Int) (aN R s.x n).2 R) ((aN R s.x n).2+1)).2)
  else((aN R s.x n).1++[if s.kind==2 then(6,s.index)else if s.kind==3 then(7,s.index)else(22,0)]++(cmpL r (i+1) R (aN R s.x n).2).1,(cmpL r (i+1) R (aN R s.x n).2).2)
def eF(p:Pr):Mac.Cd:=⟨p.latency,p.tail,p.params,p.states,p.lines,p.tables.map (·.values),(cmpL p.stmts 0 [] 0).2,(cmpL p.stmts 0 [] 0).1⟩
abbrev Xb:Mac.Cd:=⟨0,0,[],[],[],[],0,[]⟩
def zf(p:Pr):Mac.Cd×Int:=if(jF p != 0)=true then(Xb,jF p)else(eF p,0)
abbrev RS:=Int×Int×List Bool
def XW(c:Mac.Cd)(x:Int×Int)(s:RS):Option RS:=
 if Mac.refP (Mac.effP c x.1) x.2 s.1=true then none
 else if x.1==22 then some (Mac.W (s.1+Mac.W ((Mac.effP c x.1).2.1-(Mac.effP c x.1).1)),Mac.W (s.2.1+1),s.2.2)
 else if x.1==7 then(if s.2.2.getD x.2.toNat false=true then none else some (Mac.W (s.1+Mac.W ((Mac.effP c x.1).2.1-(Mac.effP c x.1).1)),s.2.1,s.2.2.set x.2.toNat true))
 else some (Mac.W (s.1+Mac.W ((Mac.effP c x.1).2.1-(Mac.effP c x.1).1)),s.2.1,s.2.2)
def runL(c:Mac.Cd):Ins->RS->Option RS
 | [],s=>some s
 |x::r,s=>match XW c x s with
  |none=>none
  |some t=>runL c r t
theorem Gv(c:Mac.Cd):∀(a b:Ins) (s t:RS),runL c a s=some t->runL c (a++b) s=runL c b t
 | [],b,s,t,h=>by cases h;rfl
 |x::r,b,s,t,h=>by
  rw[runL]at h
  rw[List.cons_append,runL]
  cases hx:XW c x s with
  |none=>simp_all
  |some u=>rw[hx]at h;exact Gv c r b u t h
theorem Gw(c:Mac.Cd):∀(l:Ins) (n o:Int) (pu:List Bool) (n' o':Int) (pu':List Bool),runL c l (n,o,pu)=some (n',o',pu')->Mac.chkP c l n o pu = !(bif n' != 0 then true else o' != 1)
 | [],n,o,pu,n',o',pu',h=>by cases h;rfl
 |x::r,n,o,pu,n',o',pu',h=>by
  rw[runL]at h
  rw[Mac.chkP]
  unfold XW at h
  by_cases h1:Mac.refP (Mac.effP c x.1) x.2 n=true<;>try(simp_all;done)
  simp only[h1,if_false]at h
  have h1:Mac.refP (Mac.effP c x.1) x.2 n=false:=by simpa using h1
  rw[h1]
  by_cases h2:(x.1==22)=true
  ·rw[h2,cond_true]
   rw[h2]at h
   exact Gw c r _ _ _ _ _ _ h
  ·have h2:(x.1==22)=false:=by simpa using h2
   rw[h2]
   simp only[h2,if_false]at h
   by_cases h3:(x.1==7)=true
   ·rw[h3,cond_true]
    simp only[h3,if_true]at h
    by_cases h4:pu.getD x.2.toNat false=true
    ·simp_all
    ·simp only[h4,if_false]at h
     have h4:pu.getD x.2.toNat false=false:=by simpa using h4
     rw[h4]
     exact Gw c r _ _ _ _ _ _ h
   ·have h3:(x.1==7)=false:=by simpa using h3
    rw[h3,cond_false]
    simp only[h3,if_false]at h
    exact Gw c r _ _ _ _ _ _ h
theorem len1{α:Type}{l:List α}(h:(l.length:Int)=1):∃a,l = [a]:=by
 match l,h with
 | [a],_=>simp
 | [],h=>simp at h
 |_::_::_,h=>simp at h;omega
theorem len2{α:Type}{l:List α}(h:(l.length:Int)=2):∃a b,l = [a,b]:=by
 match l,h with
 | [a,b],_=>simp
 | [],h=>simp at h
 | [_],h=>simp at h
 |_::_::_::_,h=>simp at h;omega
theorem zar{α:Type}{l:List α}(h:(l.length:Int)=4):∃a b c d,l = [a,b,c,d]:=by
 match l,h with
 | [a,b,c,d],_=>simp
 | [],h=>simp at h
 | [_],h=>simp at h
 | [_,_],h=>simp at h
 | [_,_,_],h=>simp at h
 |_::_::_::_::_::_,h=>simp at h;omega
theorem jR{k n:Int}(h:n=Ref15.parts k)(h0:0<=n):(n=0/\(k=1\/k=2\/k=3\/k=4\/k=5))\/(n=1/\(k=6\/k=7\/k=8\/k=9\/k=10\/k=13\/k=14\/k=18))\/(n=2/\(k=11\/k=12\/k=15\/k=16\/k=17))\/(n=4/\k=19):=by
 unfold Ref15.parts at h
 grind
theorem Xc{a b:Int}(ha:1<=a):(a>=b/\bg [a,b]=(a,0))\/(b>a/\bg [a,b]=(b,1)):=by
 by_cases h:b>a
 ·refine .inr ⟨h,?_⟩
  simp only[Mac.mostF,decide_eq_true (show a>0 by omega),decide_eq_true h];rfl
 ·refine .inl ⟨by omega,?_⟩
  simp[Mac.mostF,decide_eq_true (show a>0 by omega),decide_eq_false h,cond_true,cond_false]
theorem nX:∀(l:List Int) (i n k:Int),(Mac.mostF l i n k=(n,k)/\∀x∈l,x<=n)\/(∃j:Nat,l[j]? = some (Mac.mostF l i n k).1/\(Mac.mostF l i n k).2=i+j/\n<(Mac.mostF l i n k).1/\∀x∈l,x<=(Mac.mostF l i n k).1)
 | [],i,n,k=>.inl ⟨rfl,by simp⟩
 |x::r,i,n,k=>by
  rw[Mac.mostF]
  by_cases h:x>n
  ·rw[decide_eq_true h,cond_true]
   rcases nX r (i+1) x i with⟨e,h2⟩ |⟨j,h1,h2,h3,h4⟩
   ·rw[e]
    refine .inr ⟨0,rfl,by simp,h,λy hy=>?_⟩
    grind
   ·refine .inr ⟨j+1,h1,by omega,by omega,λy hy=>?_⟩
    grind
  ·rw[decide_eq_false h,cond_false]
   rcases nX r (i+1) n k with⟨e,h2⟩ |⟨j,h1,h2,h3,h4⟩
   ·simp_all
   ·refine .inr ⟨j+1,h1,by omega,h3,λy hy=>?_⟩
    grind
theorem Rz{a b c d:Int}(ha:1<=a):∃j:Nat,j<4/\(bg [a,b,c,d]).2=j /\ [a,b,c,d][j]? = some (bg [a,b,c,d]).1/\∀x ∈ [a,b,c,d],x<=(bg [a,b,c,d]).1:=by
 rcases nX [a,b,c,d] 0 0 0 with⟨_,h⟩ |⟨j,h1,h2,_,h4⟩
 ·have:=h a (by simp);omega
 grind
theorem Gx:∀(l:List Int) (i n:Int),n<=needS l i n/\∀(j:Nat) k,l[j]? = some k->k+(i+j)<=needS l i n
 | [],i,n=>⟨Int.le_refl _,λj k h=>by simp at h⟩
 |x::r,i,n=>by
  have ih:=Gx r (i+1) (mm2 true n (x+i))
  have hm:=gQ n (x+i)
  grind[needS]
theorem PV:∀(l:List Int) (i n:Int),needS l i n=n\/∃(j:Nat) (k:Int),l[j]? = some k/\needS l i n=k+(i+j)
 | [],i,n=>.inl rfl
 |x::r,i,n=>by
  rw[needS]
  rcases PV r (i+1) (mm2 true n (x+i))with e |⟨j,k,h1,h2⟩<;>try exact .inr ⟨j+1,k,by simpa using h1,by omega⟩
  rw[e]
  rcases(gQ n (x+i)).2.2 with q |q
  ·exact .inl q
  ·exact .inr ⟨0,x,rfl,by rw[q];simp⟩
theorem Xd{a:Int}(ha:1<=a):qF [a]=a:=by
 show(bg [a]).1=a
 simp[Mac.mostF,decide_eq_true (show a>0 by omega),cond_true]
theorem Xe{a b:Int}(ha:1<=a):qF [a,b]=if b>a then mm2 true b (a+1)else mm2 true a (b+1):=by
 show mm2 true (bg [a,b]).1 ([a,b].getD (1-(bg [a,b]).2).toNat 0+1)=_
 rcases Xc (b:=b) ha with⟨h,e⟩ |⟨h,e⟩<;>grind
theorem oZ:∀x:Ex,(∀n p,wfX p n x=true->1<=ae x):=by
 refine Ex.ind λx ih=>?_
 intro n p hw
 obtain⟨g1,g2,g3⟩:=aV hw
 have hc:∀y∈x.l,1<=ae y:=λy hy=>ih y hy n p (eQ g3 y hy)
 rw[oW,iP]
 rcases jR g1 (Int.natCast_nonneg _)with⟨h,_⟩ |⟨h,_⟩ |⟨h,_⟩ |⟨h,_⟩
 ·have:x.l = []:=by
   cases e:x.l with
   |nil=>rfl
   |cons a r=>grind
  rw[this];exact Int.le_refl _
 ·obtain⟨a,e⟩:=len1 h
  grind[Xd]
 ·obtain⟨a,b,e⟩:=len2 h
  have h1:=hc a (by rw[e];simp)
  rw[e];show 1<=qF [ae a,ae b];rw[Xe h1]
  split
  ·have:=(gQ (ae b) (ae a+1)).1;omega
  ·have:=(gQ (ae a) (ae b+1)).1;omega
 ·obtain⟨a,b,c,d,e⟩:=zar h
  have h1:=hc a (by rw[e];simp)
  rw[e]
  show 1<=needS ([ae a,ae b,ae c,ae d].set (bg [ae a,ae b,ae c,ae d]).2.toNat 1) 0 (bg [ae a,ae b,ae c,ae d]).1
  have:=(Gx ([ae a,ae b,ae c,ae d].set (bg [ae a,ae b,ae c,ae d]).2.toNat 1) 0 (bg [ae a,ae b,ae c,ae d]).1).1
  obtain⟨j,_,_,_,h4⟩:=Rz (b:=ae b) (c:=ae c) (d:=ae d) h1
  grind
theorem xy{a b:Nat}(h:a<=b):2 ^ a<=2 ^ b:=Nat.pow_le_pow_right (by decide) h
theorem vM{a b:Nat}(h:a<=b):a * a * a<=b * b * b:=Nat.mul_le_mul (Nat.mul_le_mul h h) h
theorem PW{a b n:Nat}(h:a+b+1<=n)(hab:a<=b):8 * (a * a * a)<=n * n * n:=by
 have h1:2 * a<=n:=by omega
 have h2:=vM h1
 grind
theorem aQ{d a b:Int}{A B n:Nat}(hA:2 ^ a.toNat<=2 * (A * A * A))(hB:2 ^ b.toNat<=2 * (B * B * B))(h1:d<=a+3)(h2:d<=b+3)(ha:0<=a)(hb:0<=b)(hn:A+B+1<=n):2 ^ d.toNat<=2 * (n * n * n):=by
 rcases Nat.le_total A B with h |h
 ·have h3:=xy (show d.toNat<=a.toNat+3 by omega)
  have h4:=PW hn h
  grind
 ·have h3:=xy (show d.toNat<=b.toNat+3 by omega)
  have h4:=PW (show B+A+1<=n by omega) h
  grind
theorem vN{a:Int}{A n:Nat}(hA:2 ^ a.toNat<=2 * (A * A * A))(hn:A<=n):2 ^ a.toNat<=2 * (n * n * n):=by
 have:=vM hn;omega
theorem gV(x:Ex):1<=Ref15.nodes x:=by rw[Ref15.nodes_eq];omega
theorem ZH:∀x:Ex,(∀n p,wfX p n x=true->2 ^ (ae x).toNat<=2 * (Ref15.nodes x * Ref15.nodes x * Ref15.nodes x)):=by
 refine Ex.ind λx ih=>?_
 intro n p hw
 obtain⟨g1,g2,g3⟩:=aV hw
 have hc:∀y∈x.l,1<=ae y:=λy hy=>oZ y n p (eQ g3 y hy)
 have hp:∀y∈x.l,2 ^ (ae y).toNat<=2 * (Ref15.nodes y * Ref15.nodes y * Ref15.nodes y):=λy hy=>ih y hy n p (eQ g3 y hy)
 rw[oW,iP,Ref15.nodes_eq]
 rcases jR g1 (Int.natCast_nonneg _)with⟨h,_⟩ |⟨h,_⟩ |⟨h,_⟩ |⟨h,_⟩
 ·have:x.l = []:=by
   cases e:x.l with
   |nil=>rfl
   |cons a r=>grind
  rw[this];decide
 ·obtain⟨a,e⟩:=len1 h
  grind[qF,ae,Xd,vN,Ref15.nodesL]
 ·obtain⟨a,b,e⟩:=len2 h
  have h1:=hc a (by rw[e];simp)
  have h2:=hc b (by rw[e];simp)
  have p1:=hp a (by rw[e];simp)
  have p2:=hp b (by rw[e];simp)
  rw[e]
  show 2 ^ (qF [ae a,ae b]).toNat<=_
  rw[Xe h1]
  have hn:Ref15.nodes a+Ref15.nodes b+1<=1+Ref15.nodesL [a,b]:=by simp[Ref15.nodesL];omega
  split
  ·rename_i hgt
   rcases(gQ (ae b) (ae a+1)).2.2 with q |q
   ·rw[q];exact vN p2 (by omega)
   ·rw[q];exact aQ p1 p2 (by omega) (by omega) (by omega) (by omega) hn
  ·rename_i hgt
   rcases(gQ (ae a) (ae b+1)).2.2 with q |q
   ·rw[q];exact vN p1 (by omega)
   ·rw[q];exact aQ p1 p2 (by omega) (by omega) (by omega) (by omega) hn
 ·obtain⟨a,b,c,d,e⟩:=zar h
  have ha:=hc a (by rw[e];simp)
  rw[e]
  show 2 ^ (needS ([ae a,ae b,ae c,ae d].set (bg [ae a,ae b,ae c,ae d]).2.toNat 1) 0 (bg [ae a,ae b,ae c,ae d]).1).toNat<=_
  obtain⟨j,hj,e1,e2,e3⟩:=Rz (b:=ae b) (c:=ae c) (d:=ae d) ha
  have hN:1+Ref15.nodesL [a,b,c,d]=1+(Ref15.nodes a+(Ref15.nodes b+(Ref15.nodes c+Ref15.nodes d))):=by rfl
  have hpa:=gV a;have hpb:=gV b;have hpc:=gV c;have hpd:=gV d
  -- each part by its place
  have hat:∀i:Nat,i<4->∃y,[a,b,c,d][i]? = some y/\y∈x.l /\ [ae a,ae b,ae c,ae d][i]? = some (ae y):=by
   intro i hi
   match i,hi with
   | 0,_=>simp_all
   | 1,_=>simp_all
   | 2,_=>simp_all
   | 3,_=>simp_all
  have hsum:∀i i':Nat,i<4->i' < 4->i≠i'->∀y y',[a,b,c,d][i]? = some y -> [a,b,c,d][i']? = some y'->Ref15.nodes y+Ref15.nodes y'+1<=1+Ref15.nodesL [a,b,c,d]:=by
   intro i i' hi hi' hne y y' hy hy'
   rw[hN]
   match i,hi,i',hi',hne with
   | 0,_,1,_,_=>grind
   | 0,_,2,_,_=>grind
   | 0,_,3,_,_=>grind
   | 1,_,0,_,_=>grind
   | 1,_,2,_,_=>grind
   | 1,_,3,_,_=>grind
   | 2,_,0,_,_=>grind
   | 2,_,1,_,_=>grind
   | 2,_,3,_,_=>grind
   | 3,_,0,_,_=>grind
   | 3,_,1,_,_=>grind
   | 3,_,2,_,_=>cases hy;cases hy';omega
   | 0,_,0,_,h=>omega
   | 1,_,1,_,h=>omega
   | 2,_,2,_,h=>omega
   | 3,_,3,_,h=>omega
  obtain⟨z,z1,z2,z3⟩:=hat j hj
  have ez:(bg [ae a,ae b,ae c,ae d]).1=ae z:=by simp_all
  have hz:=hc z z2
  have pz:=hp z z2
  rw[e1,ez,Int.toNat_natCast]
  rcases PV ([ae a,ae b,ae c,ae d].set j 1) 0 (ae z)with q |⟨i,k,q1,q2⟩
  ·rw[q]
   have:=hsum j (if j=0 then 1 else 0) hj (by split<;>omega) (by split<;>omega) z _ z1 ((hat (if j=0 then 1 else 0) (by split<;>omega)).choose_spec.1)
   exact vN pz (by omega)
  ·have hi:i<4:=by
    grind
   rw[q2]
   by_cases hij:i=j
   ·subst hij
    have:k=1:=by
     simp_all
    subst this
    have hb:5<=1+Ref15.nodesL [a,b,c,d]:=by rw[hN];omega
    have:=vM hb
    have h3:=xy (show((1:Int)+(0+(i:Nat))).toNat<=4 by omega)
    omega
   ·obtain⟨y,y1,y2,y3⟩:=hat i hi
    have ek:k=ae y:=by
     grind
    subst ek
    have hyz:ae y<=ae z:=by rw[<-ez];exact e3 _ (List.mem_of_getElem? y3)
    exact aQ (hp y y2) pz (by omega) (by omega) (by grind) (by omega) (hsum i j hi hj hij y z y1 z1)
theorem Xf{x:Ex}{n:Nat}{p:Pr}(hw:wfX p n x=true)(hn:Ref15.nodes x<=512):ae x<=28:=by
 have h1:=ZH x n p hw
 have h2:=vM hn
 have h4:(ae x).toNat<=28:=by
  by_cases h:(ae x).toNat<=28
  ·exact h
  ·have:=Nat.pow_lt_pow_right (a:=2) (by decide) (show 28<(ae x).toNat by omega)
   omega
 omega
theorem Wn{n:Int}(h:-1000000<=n/\n<=1000000):Mac.W n=n:=aO (by omega) (by omega)
theorem Nc{c:Mac.Cd}{op a h o t u lo hi:Int}{pu:List Bool}(he:Mac.effP c op=(t,u,lo,hi))(ht:0<=t/\t<=4)(hu:0<=u/\u<=1)(ha:lo<=a/\a<=hi)(hh:t<=h)(h64:h-t+u<=64)(h1:(op==22)=false)(h2:(op==7)=false):XW c (op,a) (h,o,pu)=some (h+(u-t),o,pu):=by
 unfold XW
 have e1:Mac.W (h-t)=h-t:=Wn (by omega)
 have e2:Mac.W (h-t+u)=h-t+u:=Wn (by omega)
 have e3:Mac.W (u-t)=u-t:=Wn (by omega)
 have e4:Mac.W (h+(u-t))=h+(u-t):=Wn (by omega)
 have hr:Mac.refP (Mac.effP c op) a h=false:=by
  rw[he]
  simp[Mac.refP,e1,e2,decide_eq_false (show ¬t<0 by omega),decide_eq_false (show ¬a<lo by omega),decide_eq_false (show ¬a>hi by omega),decide_eq_false (show ¬h<t by omega),decide_eq_false (show ¬h-t+u>64 by omega),cond_false]
 simp_all
def Runs(c:Mac.Cd)(n0:Int)(f:GF)(P:Int->Prop)(k:Int):Prop:=∀n,n0<=n->n<=(f n).2/\((f n).2<=c.regs->∀h o pu,P h->runL c (f n).1 (h,o,pu)=some (h+k,o,pu))
theorem Runs.seq{c:Mac.Cd}{n0 k m:Int}{f g:GF}{P Q:Int->Prop}(hf:Runs c n0 f P k)(hg:Runs c n0 g Q m):Runs c n0 (gU f g) (λh=>P h/\Q (h+k)) (k+m):=by
 intro n hn
 obtain⟨a1,a2⟩:=hf n hn
 obtain⟨b1,b2⟩:=hg (f n).2 (by omega)
 refine⟨Int.le_trans a1 b1,λhr h o pu hp=>?_⟩
 have hr:(g (f n).2).2<=c.regs:=hr
 show runL c ((f n).1++(g (f n).2).1) (h,o,pu)=_
 grind[Gv]
theorem Runs.weak{c:Mac.Cd}{n0 n1 k:Int}{f:GF}{P Q:Int->Prop}(hf:Runs c n0 f P k)(h1:n0<=n1)(h2:∀h,Q h->P h):Runs c n1 f Q k:=λn hn=>⟨(hf n (by omega)).1,λhr h o pu hq=>(hf n (by omega)).2 hr h o pu (h2 h hq)⟩
theorem Runs.emit{c:Mac.Cd}{n0 op a t u lo hi:Int}(he:Mac.effP c op=(t,u,lo,hi))(ht:0<=t/\t<=4)(hu:0<=u/\u<=1)(h1:(op==22)=false)(h2:(op==7)=false)(ha:n0<=c.regs->lo<=a/\a<=hi):Runs c n0 (bQ op a) (λh=>t<=h/\h-t+u<=64) (u-t):=by
 intro n hn
 refine⟨Int.le_refl n,λhr h o pu hp=>?_⟩
 have hr:n<=c.regs:=hr
 show runL c [(op,a)] (h,o,pu)=_
 rw[runL,Nc he ht hu (ha (by omega)) hp.1 hp.2 h1 h2];rfl
structure COk(c:Mac.Cd)(p:Pr):Prop where
 par:c.params=p.params
 sta:c.states=p.states
 lin:c.lines=p.lines
 tab:c.tables.length=p.tables.length
 reg:0<=c.regs/\c.regs<=65536
 lim:p.params.length<=16/\p.states.length<=16/\p.lines.length<=16/\p.tables.length<=16
structure V(p:Pr)(b:Nat)(x:Ex):Prop where
 wf:wfX p b x=true
 rs:bI p b x=(x,true)
 fo:formed x=true
variable {p : Pr} {b : Nat}
theorem lQ:∀{l:List Ex},formeds l=true->∀y∈l,formed y=true
 |x::r,h,y,hy=>by
  rcases List.mem_cons.1 hy with rfl |hy<;>grind[lQ]
theorem V.part{x y:Ex}(h:V p b x)(hy:y∈x.l):V p b y:=by
 have hf:=h.fo
 rw[formed_eq]at hf
 simp at hf
 exact⟨eQ (aV h.wf).2.2 y hy,y8 h.wf h.rs hy,lQ hf.2 y hy⟩
theorem V.num{x:Ex}(h:V p b x)(h1:x.kind≠1)(h2:x.kind≠18):x.n=0:=by
 have hf:=h.fo
 rw[formed_eq]at hf
 simp_all
theorem V.idx{x:Ex}(h:V p b x)(hn:(named x.kind&&x.kind != 8&&x.kind != 9)=false)(h8:x.kind≠8)(h9:x.kind≠9):x.index=0:=by
 have hr:=h.rs
 rw[lI,if_neg (by rw[hn];decide)]at hr
 have e:=congrArg (λq=>q.1.index) hr
 rw[show x.index=jP p x from e.symm,jP,if_neg (by simpa using h9),if_neg (by simpa using h8)]
theorem zdn{n:Nat}{k i m:Int}(h:oP p n k i m=true)(hk:k=1):0<=m/\m<=2147483648:=by
 grind[oP]
theorem own_k18'{n:Nat}{k i m:Int}(h:oP p n k i m=true)(hk:k=18):1<=m/\m<=2147483648:=by
 grind[oP]
theorem kJ(R:List (Int×Int)){l:List Ex}{i:Int}{j:Nat}{y:Ex}(hi:i=j)(h:l[j]? = some y):fAt (bV R l) i=aN R y:=by
 subst hi
 rw[fAt,kV,Int.toNat_natCast,List.getD_eq_getElem?_getD,List.getElem?_map,h];rfl
def ROk(p:Pr)(R:List (Int×Int))(b:Nat)(n0:Int):Prop:=∀i:Int,0<=i->i<b->((p.stmts.getD i.toNat Sm.none).kind==1)=true->∃r,lkA i R=some r/\0<=r/\r<n0
theorem z8o{c:Mac.Cd}(hc:COk c p){x:Ex}(v:V p b x)(hk:x.kind=6\/x.kind=7\/x.kind=8\/x.kind=9\/x.kind=10\/x.kind=13\/x.kind=14\/x.kind=18):∃lo hi,Mac.effP c (yA x.kind)=(1,1,lo,hi)/\lo<=x.index+x.n/\x.index+x.n<=hi/\(yA x.kind==22)=false/\(yA x.kind==7)=false:=by
 have hg:=(aV v.wf).2.1
 have hl:=hc.lim
 rcases hk with e |e |e |e |e |e |e |e
 ·refine⟨0,0,by rw[e];rfl,?_,?_,by rw[e];rfl,by rw[e];rfl⟩<;>rw[v.num (by omega) (by omega),v.idx (by rw[e];rfl) (by omega) (by omega)]<;>decide
 ·refine⟨0,0,by rw[e];rfl,?_,?_,by rw[e];rfl,by rw[e];rfl⟩<;>rw[v.num (by omega) (by omega),v.idx (by rw[e];rfl) (by omega) (by omega)]<;>decide
 ·have:=Jb hg (by rw[e];rfl)
  refine⟨0,(p.lines.length:Int)-1,?_,?_,?_,by rw[e];rfl,by rw[e];rfl⟩<;>try(rw[v.num (by omega) (by omega)];omega)
  rw[e,<-hc.lin]
  show(1,1,0,Mac.W ((c.lines.length:Int)-1))=_
  rw[Wn (by rw[hc.lin];omega)]
 ·have:=O9 hg (by rw[e];rfl)
  refine⟨0,(p.tables.length:Int)-1,?_,?_,?_,by rw[e];rfl,by rw[e];rfl⟩<;>try(rw[v.num (by omega) (by omega)];omega)
  rw[e,<-hc.tab]
  show(1,1,0,Mac.W ((c.tables.length:Int)-1))=_
  rw[Wn (by rw[hc.tab];omega)]
 ·refine⟨0,0,by rw[e];rfl,?_,?_,by rw[e];rfl,by rw[e];rfl⟩<;>rw[v.num (by omega) (by omega),v.idx (by rw[e];rfl) (by omega) (by omega)]<;>decide
 ·refine⟨0,0,by rw[e];rfl,?_,?_,by rw[e];rfl,by rw[e];rfl⟩<;>rw[v.num (by omega) (by omega),v.idx (by rw[e];rfl) (by omega) (by omega)]<;>decide
 ·refine⟨0,0,by rw[e];rfl,?_,?_,by rw[e];rfl,by rw[e];rfl⟩<;>rw[v.num (by omega) (by omega),v.idx (by rw[e];rfl) (by omega) (by omega)]<;>decide
 ·have:=own_k18' hg e
  refine⟨1,2147483648,by rw[e];rfl,?_,?_,by rw[e];rfl,by rw[e];rfl⟩<;>rw[v.idx (by rw[e];rfl) (by omega) (by omega)]<;>omega
theorem Xg{c:Mac.Cd}{n0 at_ reg:Int}(hcr:c.regs<=65536)(hreg:0<=reg/\reg<n0):∀(fs:List GF) (ks:List Int) (i:Int),fs.length=ks.length->(∀(j:Nat) f k,fs[j]? = some f->ks[j]? = some k->i+j≠at_->Runs c n0 f (λh=>0<=h/\h+k<=64) 1)->(∀(j:Nat) k,ks[j]? = some k->i+j=at_->1<=k) ->
  Runs c n0 (chG fs at_ reg i) (λh=>0<=h/\∀(j:Nat) k,ks[j]? = some k->h+j+k<=64) (fs.length:Nat)
 | [],ks,i,_,_,_=>λn hn=>⟨Int.le_refl n,λ_ h o pu _=>by show some (h,o,pu)=some (h+0,o,pu);simp⟩
 |f::r,[],i,h,_,_=>by simp at h
 |f::r,k::ks,i,hl,hf,h1=>by
  have ih:=Xg hcr hreg (c:=c) (at_:=at_) r ks (i+1) (by simpa using hl) (λj f' k' e1 e2 hne=>hf (j+1) f' k' (by simpa using e1) (by simpa using e2) (by omega)) (λj k' e he=>h1 (j+1) k' (by simpa using e) (by omega))
  have hd:Runs c n0 (if i==at_ then bQ 4 reg else f) (λh=>0<=h/\h+k<=64) 1:=by
   by_cases e:i=at_
   ·rw[if_pos (by simpa using e)]
    have hk:=h1 0 k rfl (by omega)
    refine(Runs.emit (c:=c) (n0:=n0) (op:=4) (a:=reg) (t:=0) (u:=1) (lo:=0) (hi:=Mac.W (c.regs-1)) rfl (by decide) (by decide) rfl rfl (λhr=>?_)).weak (Int.le_refl _) (λh hh=>?_)<;>grind[Wn]
   ·rw[if_neg (by simpa using e)]
    exact hf 0 f k rfl rfl (by omega)
  have:=hd.seq ih
  have e:((f::r).length:Int)=1+(r.length:Nat):=by grind
  rw[e]
  refine this.weak (Int.le_refl _) (λh hh=>⟨⟨hh.1,by have:=hh.2 0 k rfl;omega⟩,by omega,λj k' e=>?_⟩)
  have:=hh.2 (j+1) k' (by simpa using e)
  omega
theorem Xh{α:Type}{l:List α}(h:(l.length:Int)=0):l = []:=by
 simp_all
theorem z8p{p:Pr}{c:Mac.Cd}(hc:COk c p){b:Nat}(hb:b<=p.stmts.length){R:List (Int×Int)}:∀x:Ex,V p b x->∀n0,0<=n0->ROk p R b n0->Runs c n0 (aN R x) (λh=>0<=h/\h+ae x<=64) 1:=by
 refine Ex.ind λx ih=>?_
 intro v n0 h0 hR
 obtain⟨g1,g2,g3⟩:=aV v.wf
 have hl:=hc.lim
 have hreg:=hc.reg
 have hp:∀y∈x.l,1<=ae y:=λy hy=>oZ y b p (eQ g3 y hy)
 have hi:∀y∈x.l,∀n1,n0<=n1->Runs c n1 (aN R y) (λh=>0<=h/\h+ae y<=64) 1:=λy hy n1 h1=>(ih y hy (v.part hy) n0 h0 hR).weak h1 (λ_ h=>h)
 rw[Gu,oW,iP]
 rcases jR g1 (Int.natCast_nonneg _)with⟨h,hk⟩ |⟨h,hk⟩ |⟨h,hk⟩ |⟨h,hk⟩
 ·rw[Xh h]
  show Runs c n0 (genC R x.kind x.index x.n [] []) (λh=>0<=h/\h+1<=64) 1
  rcases hk with e |e |e |e |e
  ·have:=zdn g2 e
   rw[genC,if_pos (by rw[e];rfl)]
   exact(Runs.emit (c:=c) (op:=1) (a:=x.n) (t:=0) (u:=1) rfl (by decide) (by decide) rfl rfl (λ_=>by omega)).weak (Int.le_refl _) λh hh=>by omega
  ·rw[e]at g2;simp[oP]at g2
  ·have:=O8 g2 (by rw[e];rfl)
   rw[genC,if_neg (by rw[e];decide),if_pos (by rw[e];rfl)]
   refine(Runs.emit (c:=c) (op:=2) (a:=x.index) (t:=0) (u:=1) rfl (by decide) (by decide) rfl rfl (λ_=>?_)).weak (Int.le_refl _) λh hh=>by omega
   rw[hc.par,Wn (by omega)];omega
  ·have:=Ja g2 (by rw[e];rfl)
   rw[genC,if_neg (by rw[e];decide),if_neg (by rw[e];decide),if_pos (by rw[e];rfl)]
   refine(Runs.emit (c:=c) (op:=3) (a:=x.index) (t:=0) (u:=1) rfl (by decide) (by decide) rfl rfl (λ_=>?_)).weak (Int.le_refl _) λh hh=>by omega
   rw[hc.sta,Wn (by omega)];omega
  ·have:=Ea g2 (by rw[e];rfl)
   have ho:=MK hb v.rs v.wf
   have hkk:((p.stmts.getD x.index.toNat Sm.none).kind==1)=true:=by
    rw[vI,h]at ho
    simp_all
   obtain⟨r,e1,e2,e3⟩:=hR x.index this.1 this.2 hkk
   rw[genC,if_neg (by rw[e];decide),if_neg (by rw[e];decide),if_neg (by rw[e];decide),if_pos (by rw[e];rfl),e1]
   refine(Runs.emit (c:=c) (op:=4) (a:=r) (t:=0) (u:=1) rfl (by decide) (by decide) rfl rfl (λhr=>?_)).weak (Int.le_refl _) λh hh=>by omega
   grind[Wn]
 ·obtain⟨y,e⟩:=len1 h
  have hy:y∈x.l:=by rw[e];simp
  obtain⟨lo,hi',c1,c2,c3,c4,c5⟩:=z8o hc v hk
  have hg:genC R x.kind x.index x.n (x.l.map ae) (bV R x.l)=gU (fAt (bV R x.l) 0) (bQ (yA x.kind) (x.index+x.n)):=by
   rcases hk with q |q |q |q |q |q |q |q<;>rw[q]<;>rfl
  have f0:fAt (bV R x.l) 0=aN R y:=kJ R (j:=0) rfl (by rw[e];rfl)
  rw[hg,f0,e]
  show Runs c n0 _ (λh=>0<=h/\h+qF [ae y]<=64) 1
  rw[Xd (hp y hy)]
  exact((hi y hy n0 (Int.le_refl _)).seq (Runs.emit (a:=x.index+x.n) c1 (by decide) (by decide) c4 c5 (λ_=>⟨c2,c3⟩))).weak (Int.le_refl _) λh hh=>⟨hh,by grind⟩
 ·obtain⟨y,z,e⟩:=len2 h
  have hy:y∈x.l:=by rw[e];simp
  have hz:z∈x.l:=by rw[e];simp
  have py:=hp y hy
  have pz:=hp z hz
  have f0:fAt (bV R x.l) 0=aN R y:=kJ R (j:=0) rfl (by rw[e];rfl)
  have f1:fAt (bV R x.l) 1=aN R z:=kJ R (j:=1) rfl (by rw[e];rfl)
  have ry:=hi y hy n0 (Int.le_refl _)
  have rz:=hi z hz n0 (Int.le_refl _)
  have hm:x.l.map ae = [ae y,ae z]:=by rw[e];rfl
  rw[hm,Xe py]
  have cmb:∀op,Mac.effP c op=(2,1,0,0)->(op==22)=false->(op==7)=false->Runs c n0 (qG op [ae y,ae z] (bV R x.l)) (λh=>0<=h/\h+(if ae z>ae y then mm2 true (ae z) (ae y+1)else mm2 true (ae y) (ae z+1))<=64) 1:=by
   intro op o1 o2 o3
   have he:Runs c n0 (bQ op 0) _ (1-2):=Runs.emit (a:=0) o1 (by decide) (by decide) o2 o3 (λ_=>by decide)
   rcases Xc (b:=ae z) py with⟨q1,q2⟩ |⟨q1,q2⟩
   ·rw[if_neg (by omega),qG,q2]
    show Runs c n0 (gU (gU (fAt (bV R x.l) 0) (fAt (bV R x.l) 1)) (bQ op 0)) _ 1
    rw[f0,f1]
    have hmx:=gQ (ae y) (ae z+1)
    exact((ry.seq rz).seq he).weak (Int.le_refl _) λh hh=>by omega
   ·rw[if_pos q1,qG,q2]
    show Runs c n0 (gU (gU (fAt (bV R x.l) 1) (fAt (bV R x.l) 0)) (bQ op 0)) _ 1
    rw[f0,f1]
    have hmx:=gQ (ae z) (ae y+1)
    exact((rz.seq ry).seq he).weak (Int.le_refl _) λh hh=>by omega
  rcases hk with k |k |k |k |k
  ·rw[show genC R x.kind x.index x.n [ae y,ae z] (bV R x.l)=qG 13 [ae y,ae z] (bV R x.l)by rw[k];rfl];exact cmb 13 rfl rfl rfl
  ·rw[show genC R x.kind x.index x.n [ae y,ae z] (bV R x.l)=qG 14 [ae y,ae z] (bV R x.l)by rw[k];rfl];exact cmb 14 rfl rfl rfl
  ·rw[show genC R x.kind x.index x.n [ae y,ae z] (bV R x.l)=qG 17 [ae y,ae z] (bV R x.l)by rw[k];rfl];exact cmb 17 rfl rfl rfl
  ·rw[show genC R x.kind x.index x.n [ae y,ae z] (bV R x.l)=JD [ae y,ae z] (bV R x.l)by rw[k];rfl,JD,f0,f1]
   show Runs c n0 (if ae z<=ae y then _ else _) _ 1
   by_cases q:ae z<=ae y
   ·rw[if_pos q,if_neg (by omega)]
    have hmx:=gQ (ae y) (ae z+1)
    exact((ry.seq rz).seq (Runs.emit (c:=c) (n0:=n0) (op:=18) (a:=0) (t:=2) (u:=1) (lo:=0) (hi:=0) rfl (by decide) (by decide) rfl rfl (λ_=>by decide))).weak (Int.le_refl _) λh hh=>by omega
   ·rw[if_neg q,if_pos (by omega)]
    have hmx:=gQ (ae z) (ae y+1)
    exact(((rz.seq (Runs.emit (c:=c) (n0:=n0) (op:=16) (a:=0) (t:=1) (u:=1) (lo:=0) (hi:=0) rfl (by decide) (by decide) rfl rfl (λ_=>by decide))).seq ry).seq (Runs.emit (c:=c) (n0:=n0) (op:=17) (a:=0) (t:=2) (u:=1) (lo:=0) (hi:=0) rfl (by decide) (by decide) rfl rfl (λ_=>by decide))).weak (Int.le_refl _) λh hh=>by omega
  ·rw[show genC R x.kind x.index x.n [ae y,ae z] (bV R x.l)=qG 19 [ae y,ae z] (bV R x.l)by rw[k];rfl];exact cmb 19 rfl rfl rfl
 ·obtain⟨y0,y1,y2,y3,e⟩:=zar h
  have p0:=hp y0 (by rw[e];simp)
  have hm:x.l.map ae = [ae y0,ae y1,ae y2,ae y3]:=by rw[e];rfl
  rw[show genC R x.kind x.index x.n (x.l.map ae) (bV R x.l)=gIf (x.l.map ae) (bV R x.l)by rw[hk];rfl,hm]
  obtain⟨j,hj,e1,e2,e3⟩:=Rz (b:=ae y1) (c:=ae y2) (d:=ae y3) p0
  have hat:∀i:Nat,i<4->∃y,x.l[i]? = some y/\y∈x.l /\ [ae y0,ae y1,ae y2,ae y3][i]? = some (ae y):=by
   grind
  obtain⟨z,z1,z2,z3⟩:=hat j hj
  have pz:=hp z z2
  have hN:qF [ae y0,ae y1,ae y2,ae y3]=needS ([ae y0,ae y1,ae y2,ae y3].set j 1) 0 (ae z):=by
   show needS ([ae y0,ae y1,ae y2,ae y3].set (bg [ae y0,ae y1,ae y2,ae y3]).2.toNat 1) 0 (bg [ae y0,ae y1,ae y2,ae y3]).1=_
   simp_all
  have hge:=Gx ([ae y0,ae y1,ae y2,ae y3].set j 1) 0 (ae z)
  rw[hN]
  intro n hn
  -- a register more
  have rz:=hi z z2 (n+1) (by omega)
  have r5:c.regs<=65536->Runs c (n+1) (bQ 5 n) (λh=>1<=h/\h-1+0<=64) (0-1):=λ_=>by
   refine Runs.emit (c:=c) (op:=5) (a:=n) (t:=1) (u:=0) (lo:=0) (hi:=Mac.W (c.regs-1)) rfl (by decide) (by decide) rfl rfl (λhr=>?_)
   grind[Wn]
  have rc:=Xg (c:=c) (n0:=n+1) (at_:=(j:Int)) (reg:=n) hreg.2 ⟨by omega,by omega⟩ (bV R x.l) ([ae y0,ae y1,ae y2,ae y3].set j 1) 0 (by grind[kV]) (λi f k i1 i2 hne=>by
   rw[kV,List.getElem?_map]at i1
   have hi4:i<4:=by grind
   obtain⟨y,w1,w2,w3⟩:=hat i hi4
   rw[w1]at i1
   simp only[Option.map_some,Option.some.injEq]at i1
   rw[List.getElem?_set_ne (by omega),w3]at i2
   cases i2
   grind) (λi k i2 hij=>by
   grind)
  have rF:=((rz.seq (r5 hreg.2)).seq rc).seq (Runs.emit (c:=c) (n0:=n+1) (op:=21) (a:=0) (t:=4) (u:=1) (lo:=0) (hi:=0) rfl (by decide) (by decide) rfl rfl (λ_=>by decide))
  have fz:fAt (bV R x.l) (bg [ae y0,ae y1,ae y2,ae y3]).2=aN R z:=kJ R e1 z1
  have hgen:gIf [ae y0,ae y1,ae y2,ae y3] (bV R x.l) n=gU (gU (gU (aN R z) (bQ 5 n)) (chG (bV R x.l) (j:Int) n 0)) (bQ 21 0) (n+1):=by rw[gIf,fz,e1]
  have hlen:((bV R x.l).length:Int)=4:=by grind[kV]
  rw[hgen]
  obtain⟨b1,b2⟩:=rF (n+1) (Int.le_refl _)
  refine⟨by omega,λhr h o pu hh=>?_⟩
  rw[b2 hr h o pu ?_]<;>grind
def Sz(f:GF)(L r:Nat):Prop:=∀n,2 * (f n).1.length<=L/\n<=(f n).2/\(f n).2<=n+r
theorem Sz.seq{f g:GF}{L M r s:Nat}(hf:Sz f L r)(hg:Sz g M s):Sz (gU f g) (L+M) (r+s):=by
 intro n
 obtain⟨a1,a2,a3⟩:=hf n
 obtain⟨b1,b2,b3⟩:=hg (f n).2
 refine⟨?_,?_,?_⟩
 ·show 2 * ((f n).1++(g (f n).2).1).length<=_
  grind
 ·show n<=(g (f n).2).2;omega
 ·show(g (f n).2).2<=_;omega
theorem Sz.emit(op a:Int):Sz (bQ op a) 2 0:=λn=>⟨Nat.le_refl _,Int.le_refl n,by show n<=n+0;omega⟩
theorem Sz.nil:Sz gNil 0 0:=λn=>⟨Nat.le_refl _,Int.le_refl n,by show n<=n+0;omega⟩
theorem Sz.weak{f:GF}{L M r s:Nat}(hf:Sz f L r)(h1:L<=M)(h2:r<=s):Sz f M s:=λn=>by have:=hf n;omega
theorem zfq{f0 f1 f2 f3:GF}{a b c d:Nat}{at_ reg:Int}(h0:Sz f0 (3 * a-1) a)(h1:Sz f1 (3 * b-1) b)(h2:Sz f2 (3 * c-1) c)(h3:Sz f3 (3 * d-1) d)(ha:1<=a)(hb:1<=b)(hc:1<=c)(hd:1<=d)(j:Nat)(hj:j<4)(hja:at_=j) :
  Sz (chG [f0,f1,f2,f3] at_ reg 0) (3 * (a+b+c+d)-4+2-(3 * [a,b,c,d].getD j 0-1)) (a+b+c+d - [a,b,c,d].getD j 0):=by
 subst hja
 match j,hj with
 | 0,_=>
  have:=(Sz.emit 4 reg).seq (h1.seq (h2.seq (h3.seq Sz.nil)))
  exact this.weak (by grind) (by grind)
 | 1,_=>
  have:=h0.seq ((Sz.emit 4 reg).seq (h2.seq (h3.seq Sz.nil)))
  exact this.weak (by grind) (by grind)
 | 2,_=>
  have:=h0.seq (h1.seq ((Sz.emit 4 reg).seq (h3.seq Sz.nil)))
  exact this.weak (by grind) (by grind)
 | 3,_=>
  have:=h0.seq (h1.seq (h2.seq ((Sz.emit 4 reg).seq Sz.nil)))
  exact this.weak (by grind) (by grind)
theorem Xi{p:Pr}{b:Nat}{R:List (Int×Int)}:∀x:Ex,wfX p b x=true->Sz (aN R x) (3 * Ref15.nodes x-1) (Ref15.nodes x):=by
 refine Ex.ind λx ih=>?_
 intro hw
 obtain⟨g1,g2,g3⟩:=aV hw
 have hi:∀y∈x.l,Sz (aN R y) (3 * Ref15.nodes y-1) (Ref15.nodes y):=λy hy=>ih y hy (eQ g3 y hy)
 have hp:∀y∈x.l,1<=ae y:=λy hy=>oZ y b p (eQ g3 y hy)
 rw[Gu,Ref15.nodes_eq,iP]
 rcases jR g1 (Int.natCast_nonneg _)with⟨h,hk⟩ |⟨h,hk⟩ |⟨h,hk⟩ |⟨h,hk⟩
 ·rw[Xh h]
  have:∃op a,genC R x.kind x.index x.n ([].map ae) (bV R [])=bQ op a:=by
   rcases hk with q |q |q |q |q
   ·exact⟨1,x.n,by rw[q];rfl⟩
   ·rw[q]at g2;simp[oP]at g2
   ·exact⟨2,x.index,by rw[q];rfl⟩
   ·exact⟨3,x.index,by rw[q];rfl⟩
   ·exact⟨4,(lkA x.index R).getD 0,by rw[q];rfl⟩
  obtain⟨op,a,e⟩:=this
  rw[e];exact(Sz.emit op a).weak (by decide) (by decide)
 ·obtain⟨y,e⟩:=len1 h
  have hy:y∈x.l:=by rw[e];simp
  have hg:genC R x.kind x.index x.n (x.l.map ae) (bV R x.l)=gU (fAt (bV R x.l) 0) (bQ (yA x.kind) (x.index+x.n)):=by
   rcases hk with q |q |q |q |q |q |q |q<;>rw[q]<;>rfl
  have f0:fAt (bV R x.l) 0=aN R y:=kJ R (j:=0) rfl (by rw[e];rfl)
  rw[hg,f0,e]
  exact((hi y hy).seq (Sz.emit _ _)).weak (by grind[Ref15.nodesL]) (by grind[Ref15.nodesL])
 ·obtain⟨y,z,e⟩:=len2 h
  have hy:y∈x.l:=by rw[e];simp
  have hz:z∈x.l:=by rw[e];simp
  have f0:fAt (bV R x.l) 0=aN R y:=kJ R (j:=0) rfl (by rw[e];rfl)
  have f1:fAt (bV R x.l) 1=aN R z:=kJ R (j:=1) rfl (by rw[e];rfl)
  have hny:=gV y;have hnz:=gV z
  have hm:x.l.map ae = [ae y,ae z]:=by rw[e];rfl
  have hN:1+Ref15.nodesL x.l=1+(Ref15.nodes y+(Ref15.nodes z+0)):=by rw[e];rfl
  rw[hm,hN]
  have cmb:∀op,Sz (qG op [ae y,ae z] (bV R x.l)) (3 * (1+(Ref15.nodes y+(Ref15.nodes z+0)))-1) (1+(Ref15.nodes y+(Ref15.nodes z+0))):=by
   intro op
   rcases Xc (b:=ae z) (hp y hy)with⟨_,q2⟩ |⟨_,q2⟩
   ·rw[qG,q2]
    show Sz (gU (gU (fAt (bV R x.l) 0) (fAt (bV R x.l) 1)) (bQ op 0)) _ _
    rw[f0,f1]
    exact(((hi y hy).seq (hi z hz)).seq (Sz.emit _ _)).weak (by omega) (by omega)
   ·rw[qG,q2]
    show Sz (gU (gU (fAt (bV R x.l) 1) (fAt (bV R x.l) 0)) (bQ op 0)) _ _
    rw[f0,f1]
    exact(((hi z hz).seq (hi y hy)).seq (Sz.emit _ _)).weak (by omega) (by omega)
  rcases hk with k |k |k |k |k
  ·rw[show genC R x.kind x.index x.n [ae y,ae z] (bV R x.l)=qG 13 [ae y,ae z] (bV R x.l)by rw[k];rfl];exact cmb 13
  ·rw[show genC R x.kind x.index x.n [ae y,ae z] (bV R x.l)=qG 14 [ae y,ae z] (bV R x.l)by rw[k];rfl];exact cmb 14
  ·rw[show genC R x.kind x.index x.n [ae y,ae z] (bV R x.l)=qG 17 [ae y,ae z] (bV R x.l)by rw[k];rfl];exact cmb 17
  ·rw[show genC R x.kind x.index x.n [ae y,ae z] (bV R x.l)=JD [ae y,ae z] (bV R x.l)by rw[k];rfl,JD,f0,f1]
   split
   ·exact(((hi y hy).seq (hi z hz)).seq (Sz.emit _ _)).weak (by omega) (by omega)
   ·exact((((hi z hz).seq (Sz.emit _ _)).seq (hi y hy)).seq (Sz.emit _ _)).weak (by omega) (by omega)
  ·rw[show genC R x.kind x.index x.n [ae y,ae z] (bV R x.l)=qG 19 [ae y,ae z] (bV R x.l)by rw[k];rfl];exact cmb 19
 ·obtain⟨y0,y1,y2,y3,e⟩:=zar h
  have h0:=hi y0 (by rw[e];simp);have h1:=hi y1 (by rw[e];simp);have h2:=hi y2 (by rw[e];simp);have h3:=hi y3 (by rw[e];simp)
  have n0:=gV y0;have n1:=gV y1;have n2:=gV y2;have n3:=gV y3
  have hm:x.l.map ae = [ae y0,ae y1,ae y2,ae y3]:=by rw[e];rfl
  have hN:1+Ref15.nodesL x.l=1+(Ref15.nodes y0+(Ref15.nodes y1+(Ref15.nodes y2+(Ref15.nodes y3+0)))):=by rw[e];rfl
  have hL:bV R x.l = [aN R y0,aN R y1,aN R y2,aN R y3]:=by rw[kV,e];rfl
  rw[show genC R x.kind x.index x.n (x.l.map ae) (bV R x.l)=gIf (x.l.map ae) (bV R x.l)by rw[hk];rfl,hm,hN,hL]
  obtain⟨j,hj,e1,_,_⟩:=Rz (b:=ae y1) (c:=ae y2) (d:=ae y3) (hp y0 (by rw[e];simp))
  intro n
  have hc:=zfq (reg:=n) h0 h1 h2 h3 n0 n1 n2 n3 j hj e1
  have hz:Sz (fAt [aN R y0,aN R y1,aN R y2,aN R y3] (bg [ae y0,ae y1,ae y2,ae y3]).2) (3 * [Ref15.nodes y0,Ref15.nodes y1,Ref15.nodes y2,Ref15.nodes y3].getD j 0-1) ([Ref15.nodes y0,Ref15.nodes y1,Ref15.nodes y2,Ref15.nodes y3].getD j 0):=by
   rw[e1]
   match j,hj with
   | 0,_=>exact h0
   | 1,_=>exact h1
   | 2,_=>exact h2
   | 3,_=>exact h3
  have hb:[Ref15.nodes y0,Ref15.nodes y1,Ref15.nodes y2,Ref15.nodes y3].getD j 0<=Ref15.nodes y0+Ref15.nodes y1+Ref15.nodes y2+Ref15.nodes y3-3/\1 <= [Ref15.nodes y0,Ref15.nodes y1,Ref15.nodes y2,Ref15.nodes y3].getD j 0:=by
   match j,hj with
   | 0,_=>grind
   | 1,_=>grind
   | 2,_=>grind
   | 3,_=>grind
  have hall:=(((hz.seq (Sz.emit 5 n)).seq hc).seq (Sz.emit 21 0)) (n+1)
  have hd:gIf [ae y0,ae y1,ae y2,ae y3] [aN R y0,aN R y1,aN R y2,aN R y3] n=gU (gU (gU (fAt [aN R y0,aN R y1,aN R y2,aN R y3] (bg [ae y0,ae y1,ae y2,ae y3]).2) (bQ 5 n)) (chG [aN R y0,aN R y1,aN R y2,aN R y3] (bg [ae y0,ae y1,ae y2,ae y3]).2 n 0)) (bQ 21 0) (n+1):=rfl
  rw[hd]
  omega
theorem PX{p:Pr}:∀(r:List Sm) (i:Nat) (out:Bool) (l:List Sm),di p r i out = .ok l->∀s,r.getLast? = some s->(s.kind==4)=true
 | [],_,_,_,_,s,h=>by cases h
 |t::r,i,out,l,h,s,hs=>by
  rw[di]at h
  split at h<;>try(cases h)
  split at h<;>try(cases h)
  split at h<;>try(cases h)
  cases hr:di p r (i+1) (t.kind==4)with
  |error e=>simp_all
  |ok m=>
   cases r with
   |nil=>
    grind[di]
   |cons a r=>exact PX (a::r) (i+1) _ m hr s (by simp_all)
structure SV(p:Pr)(i:Nat)(s:Sm):Prop where
 v:V p i s.x
 nd:Ref15.nodes s.x<=512
 kd:s.kind=1\/s.kind=2\/s.kind=3\/s.kind=4
 k2:s.kind=2->0<=s.index/\s.index<p.states.length
 k3:s.kind=3->0<=s.index/\s.index<p.lines.length
variable {p : Pr} {c : Mac.Cd}
theorem PY(h:Res p){i:Nat}{s:Sm}(hs:p.stmts[i]? = some s):SV p i s:=by
 have hw:=Gg p.stmts 0 h.wf i s hs
 rw[Nat.zero_add]at hw
 have hr:=Gj p.stmts 0 false h.ru i s hs
 rw[Nat.zero_add]at hr
 have hm:=List.mem_of_getElem? hs
 have hf:=List.all_eq_true.1 h.fo s hm
 have hl:=h.li
 rw[limited_eq]at hl
 simp only[Bool.and_eq_true]at hl
 have hx:=List.all_eq_true.1 hl.2.2.2.1 s hm
 simp[stmtOk]at hf
 simp[Au]at hx
 simp[wfS]at hw
 refine⟨⟨hw.1,hr,by simpa using hf.2⟩,by omega,by omega,λe=>?_,λe=>?_⟩<;>simp_all
theorem vO{α:Type}{l r:List α}{i:Nat}{a:α}(h:l.drop i=a::r):l[i]? = some a/\l.drop (i+1)=r:=by
 constructor
 ·have:=congrArg (λl=>l[0]?) h
  simpa using this
 ·have:=congrArg (λl=>l.drop 1) h
  grind[List.drop_drop]
def zdo(p:Pr)(i:Nat)(pu:List Bool):Prop:=pu.length=p.lines.length/\∀k:Nat,pu.getD k false=true->∃(j:Nat) (s:Sm),j<i/\p.stmts[j]? = some s/\s.kind=3/\s.index=k
theorem z8q{pu:List Bool}:XW c (22,0) (1,0,pu)=some (0,1,pu):=by
 rfl
theorem ZI(hc:COk c p){a:Int}{pu:List Bool}(ha:0<=a/\a<p.lines.length)(hp:pu.getD a.toNat false=false):XW c (7,a) (1,0,pu)=some (0,0,pu.set a.toNat true):=by
 unfold XW
 have hl:=hc.lim
 have he:Mac.effP c 7=(1,0,0,(p.lines.length:Int)-1):=by
  rw[<-hc.lin]
  show(1,0,0,Mac.W ((c.lines.length:Int)-1))=_
  rw[Wn (by rw[hc.lin];omega)]
 have hr:Mac.refP (Mac.effP c 7) a 1=false:=by
  rw[he]
  simp only[Mac.refP,decide_eq_false (show ¬a<0 by omega),decide_eq_false (show ¬a>(p.lines.length:Int)-1 by omega)]
  rfl
 rw[he]at hr
 simp only[he,hr,hp];rfl
theorem getD_set_ne{l:List Bool}{i k:Nat}(h:(l.set i true).getD k false=true):k=i\/l.getD k false=true:=by
 grind
theorem Xj(h:Res p)(hc:COk c p):∀(r:List Sm) (i:Nat) (R:List (Int×Int)) (n:Int),p.stmts.drop i=r->0<=n->ROk p R i n ->
  n<=(cmpL r i R n).2/\((cmpL r i R n).2<=c.regs->r ≠ []->∀pu,zdo p i pu->∃pu',runL c (cmpL r i R n).1 (0,0,pu)=some (0,1,pu'))
 | [],i,R,n,_,_,_=>⟨Int.le_refl n,λ_ h=>absurd rfl h⟩
 |s::r,i,R,n,hd,h0,hR=>by
  obtain⟨hs,hd'⟩:=vO hd
  have sv:=PY h hs
  have hi:i<p.stmts.length:=(List.getElem?_eq_some_iff.1 hs).1
  have hn28:=Xf sv.v.wf sv.nd
  have hx:=z8p hc (Nat.le_of_lt hi) s.x sv.v n h0 hR n (Int.le_refl _)
  have hreg:=hc.reg
  have hlim:=hc.lim
  have hat:=qC p.stmts 0 false h.ru
  have hlast:s.kind=4↔r = []:=by
   constructor
   ·intro hk
    cases r with
    |nil=>rfl
    |cons t r=>
     obtain⟨ht,_⟩:=vO hd'
     have ha:=(hat (i+1) t ht).2.2
     rw[Nat.zero_add,again,List.any_eq_false]at ha
     grind
   ·intro hr
    subst hr
    have hl:p.stmts.getLast? = some s:=by
     have:p.stmts=p.stmts.take i++[s]:=by rw[<-hd,List.take_append_drop]
     rw[this];simp
    have:=PX _ _ _ _ h.ru s hl
    simpa using this
  have rest:∀(R':List (Int×Int)) (n':Int),0<=n'->ROk p R' (i+1) n'->n'<=(cmpL r (i+1) R' n').2/\((cmpL r (i+1) R' n').2<=c.regs->r ≠ []->∀pu,zdo p (i+1) pu->∃pu',runL c (cmpL r (i+1) R' n').1 (0,0,pu)=some (0,1,pu')):=λR' n' h1 h2=>Xj h hc r (i+1) R' n' hd' h1 h2
  have keep:∀(pu:List Bool),zdo p i pu->zdo p (i+1) pu:=λpu hp=>⟨hp.1,λk hk=>by obtain⟨j,t,a,b⟩:=hp.2 k hk;grind⟩
  have hRk:s.kind≠1->∀n',n<=n'->ROk p R (i+1) n':=by
   intro hk n' hn' j j0 j1 jk
   by_cases e:j=i
   ·simp_all
   ·obtain⟨q,q1,q2,q3⟩:=hR j j0 (by omega) jk
    grind
  have hmid:∀(rg:Int) (I:Int×Int) (B:Ins) (pu pu2:List Bool) (o:Int),(aN R s.x n).2<=c.regs->XW c I (1,0,pu)=some (0,o,pu2)->∀t,runL c B (0,o,pu2)=some t->runL c ((aN R s.x n).1++[I]++B) (0,0,pu)=some t:=by
   intro rg I B pu pu2 o hr hI t hB
   have e1:=hx.2 hr 0 0 pu ⟨Int.le_refl _,by omega⟩
   rw[List.append_assoc,Gv c _ _ _ _ e1]
   grind[XW,runL]
  rcases sv.kd with hk |hk |hk |hk
  ·-- let
   have hne:r ≠ []:=λe=>by have:=hlast.2 e;omega
   have e:cmpL (s::r) i R n=((aN R s.x n).1++[(5,(aN R s.x n).2)]++(cmpL r (i+1) (lW (i:Int) (aN R s.x n).2 R) ((aN R s.x n).2+1)).1,(cmpL r (i+1) (lW (i:Int) (aN R s.x n).2 R) ((aN R s.x n).2+1)).2):=by
    rw[cmpL,if_pos (by rw[hk];rfl)]
   obtain⟨a1,a2⟩:=rest (lW (i:Int) (aN R s.x n).2 R) ((aN R s.x n).2+1) (by omega) (λj j0 j1 jk=>by
    rw[tZ]
    by_cases q:j=i
    ·grind
    ·rw[if_neg (by simpa using q)]
     obtain⟨w,q1,q2,q3⟩:=hR j j0 (by omega) jk
     grind)
   rw[e]
   refine⟨by omega,λhr _ pu hp=>?_⟩
   obtain⟨pu',w⟩:=a2 hr hne pu (keep pu hp)
   refine⟨pu',hmid 0 _ _ pu pu 0 (by omega) ?_ _ w⟩
   exact Nc (c:=c) (op:=5) (t:=1) (u:=0) (lo:=0) (hi:=Mac.W (c.regs-1)) rfl (by decide) (by decide) ⟨by omega,by grind[Wn]⟩ (by decide) (by decide) rfl rfl
  ·have hne:r ≠ []:=λe=>by have:=hlast.2 e;omega
   have e:cmpL (s::r) i R n=((aN R s.x n).1++[(6,s.index)]++(cmpL r (i+1) R (aN R s.x n).2).1,(cmpL r (i+1) R (aN R s.x n).2).2):=by
    rw[cmpL,if_neg (by rw[hk];decide),if_pos (by rw[hk];rfl)]
   obtain⟨a1,a2⟩:=rest R (aN R s.x n).2 (by omega) (hRk (by omega) _ hx.1)
   rw[e]
   refine⟨by omega,λhr _ pu hp=>?_⟩
   obtain⟨pu',w⟩:=a2 hr hne pu (keep pu hp)
   refine⟨pu',hmid 0 _ _ pu pu 0 (by omega) ?_ _ w⟩
   have hb:=sv.k2 hk
   exact Nc (c:=c) (op:=6) (t:=1) (u:=0) (lo:=0) (hi:=Mac.W ((c.states.length:Int)-1)) rfl (by decide) (by decide) ⟨hb.1,by rw[hc.sta,Wn (by omega)];omega⟩ (by decide) (by decide) rfl rfl
  ·have hne:r ≠ []:=λe=>by have:=hlast.2 e;omega
   have e:cmpL (s::r) i R n=((aN R s.x n).1++[(7,s.index)]++(cmpL r (i+1) R (aN R s.x n).2).1,(cmpL r (i+1) R (aN R s.x n).2).2):=by
    rw[cmpL,if_neg (by rw[hk];decide),if_neg (by rw[hk];decide),if_pos (by rw[hk];rfl)]
   obtain⟨a1,a2⟩:=rest R (aN R s.x n).2 (by omega) (hRk (by omega) _ hx.1)
   rw[e]
   refine⟨by omega,λhr _ pu hp=>?_⟩
   have hb:=sv.k3 hk
   have hpu:pu.getD s.index.toNat false=false:=by
    cases q:pu.getD s.index.toNat false with
    |false=>rfl
    |true=>
     obtain⟨j,t,q1,q2,q3,q4⟩:=hp.2 _ q
     exact absurd q1 (Gi h q2 hs (by rw[q3];rfl) (by omega) (by omega))
   have hset:zdo p (i+1) (pu.set s.index.toNat true):=by
    refine⟨by rw[List.length_set];exact hp.1,λk q=>?_⟩
    rcases getD_set_ne q with q |q
    ·grind
    ·obtain⟨j,t,a,b⟩:=hp.2 k q;grind
   obtain⟨pu',w⟩:=a2 hr hne _ hset
   exact⟨pu',hmid 0 _ _ pu _ 0 (by omega) (ZI hc hb hpu) _ w⟩
  ·have hr:=hlast.1 hk
   subst hr
   have e:cmpL [s] i R n=((aN R s.x n).1++[(22,0)]++[],(aN R s.x n).2):=by
    rw[cmpL,if_neg (by rw[hk];decide),if_neg (by rw[hk];decide),if_neg (by rw[hk];decide)];rfl
   rw[e]
   exact⟨hx.1,λhr _ pu hp=>⟨pu,hmid 0 _ _ pu pu 1 hr z8q _ rfl⟩⟩
theorem Eu(h:Res p):∀(r:List Sm) (i:Nat) (R:List (Int×Int)) (n:Int),p.stmts.drop i=r->(cmpL r i R n).1.length<=768 * r.length/\n<=(cmpL r i R n).2/\(cmpL r i R n).2<=n+513 * (r.length:Int)
 | [],i,R,n,_=>⟨Nat.le_refl _,Int.le_refl _,by show n<=n+513 * 0;omega⟩
 |s::r,i,R,n,hd=>by
  obtain⟨hs,hd'⟩:=vO hd
  have sv:=PY h hs
  obtain⟨a1,a2,a3⟩:=Xi (p:=p) (b:=i) (R:=R) s.x sv.v.wf n
  have hnd:=sv.nd
  rw[cmpL]
  split
  ·obtain⟨b1,b2,b3⟩:=Eu h r (i+1) (lW (i:Int) (aN R s.x n).2 R) ((aN R s.x n).2+1) hd'
   grind
  ·obtain⟨b1,b2,b3⟩:=Eu h r (i+1) R (aN R s.x n).2 hd'
   grind
theorem zg{lo hi:Int}(h:-2147483648<=lo/\lo<=hi/\hi<=2147483647):Mac.wrongM lo hi=false:=by
 grind[Mac.wrongM]
theorem Xk:∀l:List Bd,(∀b∈l,Mac.wrongM b.lo b.hi=false)->Mac.anyB l=false
 | [],_=>rfl
 |b::r,h=>by rw[Mac.anyB,h b (by simp)];exact Xk r λc hc=>h c (by simp[hc])
theorem Xl:∀l:List Ln,(∀b∈l,Mac.badL b=false)->Mac.anyL l=false
 | [],_=>rfl
 |b::r,h=>by rw[Mac.anyL,h b (by simp)];exact Xl r λc hc=>h c (by simp[hc])
theorem JE:∀(l:List Int) (i:Int),(∀v∈l,Mac.wrongM v v=false)->Mac.firstW l i = -1
 | [],_,_=>rfl
 |v::r,i,h=>by rw[Mac.firstW,h v (by simp)];exact JE r (i+1) λc hc=>h c (by simp[hc])
theorem Xm:∀l:List (List Int),(∀t∈l,Mac.badT t=false)->Mac.anyT l=false
 | [],_=>rfl
 |b::r,h=>by rw[Mac.anyT,h b (by simp)];exact Xm r λc hc=>h c (by simp[hc])
theorem z8r{l:List Int}{m:Int}(hm:0<=m)(h:∀x∈l,x<=m):(bg l).1<=m:=by
 rcases nX l 0 0 0 with⟨e,_⟩ |⟨j,h1,_⟩
 ·simp_all
 ·exact h _ (List.mem_of_getElem? h1)
theorem zdp(h:Res p):Mac.decP (eF p)=true:=by
 have hl:=zej h
 have hg:=h.rng
 obtain⟨z1,z2,z3⟩:=Eu h p.stmts 0 [] 0 (by rfl)
 have hli:=h.li
 rw[limited_eq]at hli
 simp only[Bool.and_eq_true]at hli
 have e1:Mac.anyB [(eF p).params,(eF p).states].flatten=false:=Xk _ λb hb=>by
  simp at hb
  rcases hb with hb |hb
  ·exact zg (hg.par b hb)
  ·exact zg (hg.sta b hb)
 have e2:Mac.anyL (eF p).lines=false:=Xl _ λb hb=>by
  have:=hl.2.1 b hb
  rw[Mac.badL,zg (hg.lin b hb),decide_eq_false (show ¬b.size<1 by omega),decide_eq_false (show ¬b.size>65536 by omega)];rfl
 have e3:Mac.anyT (eF p).tables=false:=Xm _ λt ht=>by
  obtain⟨tb,h1,rfl⟩:=List.mem_map.1 ht
  have ho:=List.all_eq_true.1 hli.2.2.1 tb h1
  simp only[kN,Bool.not_eq_true',Bool.or_eq_false_iff,decide_eq_false_iff_not]at ho
  rw[Mac.badT,JE _ _ λv hv=>zg (by have:=hg.tab tb h1 v hv;omega),decide_eq_false ho.1,decide_eq_false ho.2];rfl
 rw[Mac.decP,e1,e2]
 have hm:(bg [((eF p).params.length:Int),((eF p).states.length:Int),((eF p).lines.length:Int),((eF p).tables.length:Int)]).1<=16:=z8r (by decide) λx hx=>by
  have ht:(eF p).tables.length=p.tables.length:=List.length_map _
  simp at hx
  rcases hx with rfl |rfl |rfl |rfl
  ·show(p.params.length:Int)<=16;omega
  ·show(p.states.length:Int)<=16;omega
  ·show(p.lines.length:Int)<=16;omega
  omega
 have f1:(eF p).latency=p.latency:=rfl
 have f2:(eF p).tail=p.tail:=rfl
 have f3:(eF p).regs=(cmpL p.stmts 0 [] 0).2:=rfl
 have f4:(eF p).instrs=(cmpL p.stmts 0 [] 0).1:=rfl
 grind[Mac.finP]
theorem ZJ(h:Res p):COk (eF p) p:=by
 have hl:=zej h
 obtain⟨_,z2,z3⟩:=Eu h p.stmts 0 [] 0 (by rfl)
 exact⟨rfl,rfl,rfl,List.length_map _,⟨z2,by show(cmpL p.stmts 0 [] 0).2<=65536;omega⟩,by omega⟩
theorem RD(h:Res p):Mac.checkP (eF p)=true:=by
 rw[Mac.checkP,zdp h]
 show Mac.chkP (eF p) (cmpL p.stmts 0 [] 0).1 0 0 (List.replicate p.lines.length false)=true
 obtain⟨_,w⟩:=Xj h (ZJ h) p.stmts 0 [] 0 (by rfl) (Int.le_refl _) (λj h1 h2=>by omega)
 obtain⟨pu',e⟩:=w (Int.le_refl _) (λe=>by grind[VY]) (List.replicate p.lines.length false) ⟨List.length_replicate,λk hk=>by
  grind⟩
 grind[Gw]
end Go.Fw.Lw
namespace Go.Fw.Lw
open Go.Fw
variable [af]
end Go.Fw.Lw
namespace Go.Fw.Lw
open Go.Fw Go.Fw.Ref15 Go.Fw.Rg Go.Fw.Tl
variable [af] {l : List Int} {ns : List Int} {i : Nat} {x : Ex}
theorem Xn(h:l ≠ [])(hp:∀k∈l,1<=k):∃j:Nat,j<l.length/\(bg l).2=(j:Int)/\l[j]? = some (bg l).1:=by
 rcases nX l 0 0 0 with⟨_,h2⟩ |⟨j,h1,h2,_,_⟩
 ·cases l with
  |nil=>simp_all
  |cons a r=>have:=hp a (by simp);grind
 grind
theorem ZK(h:ns++cu []=cu x.l/\ns.length=i):ns=cu x.l:=by
 grind[cu]
theorem JF{l:List Ex}{r:List Ex}(h:ns++cu (x::r)=cu l/\ns.length=i):(ns++[ae x])++cu r=cu l/\(ns++[ae x]).length=i+1:=by
 grind[cu]
theorem ZL{k:Int}(h:k∈cu x.l):∃y∈x.l,k=ae y:=by
 rw[iP]at h
 obtain⟨y,h1,h2⟩:=List.mem_map.1 h
 exact⟨y,h1,h2.symm⟩
theorem nI{p:Pr}{n:Nat}{x y:Ex}(h:wfX p n x=true)(hy:y∈x.l):wfX p n y=true:=eQ (aV h).2.2 _ hy
theorem rf{x y:Ex}(hy:y∈x.l):Ref15.nodes y<Ref15.nodes x:=by
 have:=Ref15.nodes_eq x
 have:=lN hy
 omega
theorem ZM{p:Pr}{n:Nat}(hw:wfX p n x=true)(hn:Ref15.nodes x<=512):∀k∈cu x.l,1<=k/\k<=28:=by
 intro k hk
 obtain⟨y,hy,rfl⟩:=ZL hk
 have:=rf hy
 exact⟨oZ y n p (nI hw hy),Xf (nI hw hy) (by omega)⟩
theorem z8s(h:(((l.length:Nat):Int)==0)=true):qF l=1:=by
 have:l.length=0:=by simpa using h
 unfold qF;rw[if_pos this]
theorem z8t(h:(((l.length:Nat):Int)==1)=true):qF l=(bg l).1:=by
 have:l.length=1:=by simp at h;omega
 unfold qF;omega
theorem z8u(h:(((l.length:Nat):Int)==2)=true):qF l=mm2 true (bg l).1 (l.getD (1-(bg l).2).toNat 0+1):=by
 have:l.length=2:=by simp at h;omega
 unfold qF;omega
theorem z8v(h0:(((l.length:Nat):Int)==0)=false)(h1:(((l.length:Nat):Int)==1)=false)(h2:(((l.length:Nat):Int)==2)=false):qF l=needS (l.set (bg l).2.toNat 1) 0 (bg l).1:=by
 have h0:l.length≠0:=by simp_all
 have h1:l.length≠1:=by grind
 have h2:l.length≠2:=by grind
 unfold qF;omega
theorem Gy(h:(((l.length:Nat):Int)==2)=true)(hp:∀k∈l,1<=k/\k<=28):IntKind.i64.wrap (1-(bg l).2)=1-(bg l).2/\(0<=IntKind.i64.wrap (1-(bg l).2)/\IntKind.i64.wrap (1-(bg l).2)<(l.length:Nat)) /\
  (l.map fF)[0+(IntKind.i64.wrap (1-(bg l).2)).toNat]? = some (fF (l.getD (1-(bg l).2).toNat 0))/\IntKind.i64.wrap (l.getD (1-(bg l).2).toNat 0+1)=l.getD (1-(bg l).2).toNat 0+1:=by
 have hl:l.length=2:=by simp at h;omega
 obtain⟨j,h1,h2,h3⟩:=Xn (l:=l) (by grind) (λk hk=>(hp k hk).1)
 have e:IntKind.i64.wrap (1-(bg l).2)=1-(bg l).2:=aO (by omega) (by omega)
 have hlt:(1-(bg l).2).toNat<l.length:=by omega
 rw[e]
 have hm:l.getD (1-(bg l).2).toNat 0∈l:=by
  simp_all
 have:=hp _ hm
 refine⟨rfl,⟨by omega,by omega⟩,?_,aO (by omega) (by omega)⟩
 simp_all
theorem PZ(h0:(((l.length:Nat):Int)==0)=false)(hp:∀k∈l,1<=k/\k<=28):(0<=(bg l).2/\(bg l).2<(l.length:Nat))/\(l.map fF)[0+((bg l).2).toNat]? = some (fF (bg l).1):=by
 obtain⟨j,h1,h2,h3⟩:=Xn (l:=l) (by simp_all) (λk hk=>(hp k hk).1)
 simp_all
theorem z8w(k:Nat)(hp:∀k∈l,1<=k/\k<=28):∀v∈l.set k 1,1<=v/\v<=28:=by
 grind
theorem RF{L:List Int}{k:Int}{r:List Int}{n m:Int}(h:needS (k::r) i n=m)(hd:L.drop i=k::r)(hL:L.length<=1000)(hk:∀v∈L,1<=v/\v<=28):needS r ((i+1:Nat):Int) (mm2 true n (IntKind.i64.wrap (k+i)))=m:=by
 have h1:=lK hd
 have h2:=hk k (aX hd)
 grind[aO,needS]
theorem ZN{i v s:Nat}{a:Int}:AV.own i v s 0 (ns.length+1)=AV.own i v s 0 (ns++[a]).length:=by simp
theorem z8x{v:Int}{k:Nat}(n:Nat)(h:l.length=n):Block.arr k 1 ((l.map fF).take n++[[D.i v]])=Block.arr k 1 ((l++[v]).map fF):=by
 grind[List.take_of_length_le]
theorem o7{v:Int}{k i:Nat}:Block.arr k 1 ((l.map fF).set (0+i) [D.i v])=Block.arr k 1 ((l.set i v).map fF):=by
 simp
theorem ZO{x:Int}{r:List Int}(h:l.drop i=x::r):(l.map fF)[0+((i:Nat):Int).toNat]? = some (fF x):=by
 rw[Nat.zero_add,Int.toNat_natCast,List.getElem?_map,mD h];rfl
end Go.Fw.Lw
namespace Go.Fw.Lw
open Go.Fw Go.Fw.Ref15 Go.Fw.Rg Go.Fw.Tl
variable [af]
theorem sub_le{R:List (Int×Int)}{a b:Ex}(h:ae b<=ae a):JD [ae a,ae b] (bV R [a,b])=gU (gU (aN R a) (aN R b)) (bQ 18 0):=by
 have h:([ae a,ae b]:List Int).getD 1 0<=([ae a,ae b]:List Int).getD 0 0:=h
 unfold JD;rw[if_pos h];rfl
theorem z3c{R:List (Int×Int)}{a b:Ex}(h:¬ae b<=ae a):JD [ae a,ae b] (bV R [a,b])=gU (gU (gU (aN R b) (bQ 16 0)) (aN R a)) (bQ 17 0):=by
 have h:¬([ae a,ae b]:List Int).getD 1 0<=([ae a,ae b]:List Int).getD 0 0:=h
 unfold JD;rw[if_neg h];rfl
theorem RG{y:Ex}{r:List Ex}:(0:Int)<=0/\(Ex.css (y::r))[(0:Int).toNat]? = some (Ex.cs y):=by rw[Ex.css_eq];simp
theorem Xo{x y:Ex}{r:List Ex}:(0:Int)<=1/\(Ex.css (x::y::r))[(1:Int).toNat]? = some (Ex.cs y):=by rw[Ex.css_eq];simp
theorem zfr{x y z:Ex}{r:List Ex}:(0:Int)<=2/\(Ex.css (x::y::z::r))[(2:Int).toNat]? = some (Ex.cs z):=by rw[Ex.css_eq];simp
theorem zfs{x y z u:Ex}{r:List Ex}:(0:Int)<=3/\(Ex.css (x::y::z::u::r))[(3:Int).toNat]? = some (Ex.cs u):=by rw[Ex.css_eq];simp
theorem zft{n:Int}(h:0<=n/\n<=1000000):IntKind.i64.wrap (n+1)=n+1:=aO (by omega) (by omega)
theorem zfu{n:Int}(h:0<=n/\n<=1000000):IntKind.i64.wrap (IntKind.i64.wrap (n+1)-1)=n:=by
 grind[aO]
theorem zfv{op n:Int}{ns:List Int}{fs:List GF}{f g:GF}(fa:fAt fs (bg ns).2=f)(fb:fAt fs (1-(bg ns).2)=g):(g (f n).2).2=(qG op ns fs n).2:=by simp[qG,fa,fb,gU,bQ]
theorem z8y{R:List (Int×Int)}{a b:Ex}{n:Int}(h:ae b<=ae a):(aN R b (aN R a n).2).2=(JD [ae a,ae b] (bV R [a,b]) n).2:=by rw[sub_le h];rfl
theorem z8z{R:List (Int×Int)}{a b:Ex}{n:Int}(h:¬ae b<=ae a):(aN R a (aN R b n).2).2=(JD [ae a,ae b] (bV R [a,b]) n).2:=by rw[z3c h];rfl
def chW:List Ex->Int->Int->Nat
 | [],_,_=>0
 |y::r,a,i=>(if i==a then 2 else 3 * Ref15.nodes y-1)+chW r a (i+1)
def chR:List Ex->Int->Int->Nat
 | [],_,_=>0
 |y::r,a,i=>(if i==a then 0 else Ref15.nodes y)+chR r a (i+1)
structure ChI(R:List (Int×Int))(at_ reg:Int)(T:Ins×Int)(i:Nat)(r:List Ex)(ins:Ins)(n:Int):Prop where
 code:ins++(chG (bV R r) at_ reg i n).1=T.1
 regs:(chG (bV R r) at_ reg i n).2=T.2
 len:2 * ins.length+chW r at_ i+2<=2000000
 n0:0<=n
 nb:n+chR r at_ i<=1000000
variable {n : Int} {r : List Ex} {ins : Ins} {l : List Ex} {ns : List Int} {i : Nat} {x : Ex}
theorem ChI.at{R:List (Int×Int)}{at_ reg:Int}{T:Ins×Int}(h:ChI R at_ reg T i (x::r) ins n)(hc:((i:Int)==at_)=true):ChI R at_ reg T (i+1) r (ins++[(4,reg)]) n:=by
 have h1:=h.code
 have h2:=h.regs
 have h3:=h.len
 have h5:=h.nb
 rw[bV,chG,if_pos hc]at h1 h2
 rw[chW]at h3
 rw[chR]at h5
 refine⟨?_,h2,?_,h.n0,?_⟩
 ·rw[<-h1];show ins++[(4,reg)]++(chG (bV R r) at_ reg ((i+1:Nat):Int) n).1=ins++([(4,reg)]++(chG (bV R r) at_ reg ((i:Int)+1) n).1)
  simp
 ·grind
 simp_all
theorem ChI.next{R:List (Int×Int)}{at_ reg:Int}{T:Ins×Int}(h:ChI R at_ reg T i (x::r) ins n)(hc:((i:Int)==at_)=false)(hz:Sz (aN R x) (3 * Ref15.nodes x-1) (Ref15.nodes x)):ChI R at_ reg T (i+1) r (ins++(aN R x n).1) (aN R x n).2:=by
 have h1:=h.code
 have h2:=h.regs
 have h3:=h.len
 have h5:=h.nb
 have z:=hz n
 rw[bV,chG,if_neg (by rw[hc];decide)]at h1 h2
 rw[chW]at h3
 rw[chR]at h5
 have h0:=h.n0
 refine⟨?_,h2,?_,by omega,?_⟩
 ·rw[<-h1];show ins++(aN R x n).1++(chG (bV R r) at_ reg ((i+1:Nat):Int) (aN R x n).2).1=ins++((aN R x n).1++(chG (bV R r) at_ reg ((i:Int)+1) (aN R x n).2).1)
  simp
 ·grind
 grind
theorem ChI.fit{R:List (Int×Int)}{at_ reg:Int}{T:Ins×Int}(h:ChI R at_ reg T i (x::r) ins n)(hc:((i:Int)==at_)=false):2 * ins.length+3 * Ref15.nodes x<=2000000/\0<=n/\n+Ref15.nodes x<=1000000:=by
 have h3:=h.len
 have h5:=h.nb
 rw[chW,if_neg (by rw[hc];decide)]at h3
 rw[chR,if_neg (by rw[hc];decide)]at h5
 exact⟨by omega,h.n0,by omega⟩
theorem ChI.fin{R:List (Int×Int)}{at_ reg:Int}{T:Ins×Int}(h:ChI R at_ reg T i [] ins n):ins=T.1/\n=T.2:=by
 have h1:=h.code
 exact⟨by rw[<-h1];show ins=ins++[];simp,h.regs⟩
theorem ChI.ilen{R:List (Int×Int)}{at_ reg:Int}{T:Ins×Int}(h:ChI R at_ reg T i r ins n):ins.length<=1000000:=by have:=h.len;omega
abbrev chT(R:List (Int×Int))(at_ n:Int)(l:List Ex)(y0:Ex)(ins:Ins):Ins×Int:=
 (ins++(aN R y0 (n+1)).1++[(5,n)]++(chG (bV R l) at_ n 0 (aN R y0 (n+1)).2).1,(chG (bV R l) at_ n 0 (aN R y0 (n+1)).2).2)
theorem zg0{R:List (Int×Int)}{y0:Ex}(fa:fAt (bV R l) (bg ns).2=aN R y0):(chT R (bg ns).2 n l y0 ins).1++[(21,0)]=ins++(gIf ns (bV R l) n).1:=by
 simp[gIf,fa,gU,bQ]
theorem zg1{R:List (Int×Int)}{y0:Ex}(fa:fAt (bV R l) (bg ns).2=aN R y0):(chT R (bg ns).2 n l y0 ins).2=(gIf ns (bV R l) n).2:=by
 simp[gIf,fa,gU,bQ]
theorem zdq(hl:∀y∈l,1<=Ref15.nodes y)(a:Nat)(y0:Ex):∀i:Nat,(h:∀(j:Nat) y,l[j]? = some y->i+j=a->y=y0)->chW l a i<=3 * Ref15.nodesL l-l.length/\chR l a i<=Ref15.nodesL l/\(i<=a->a<i+l.length->chW l a i+(3 * Ref15.nodes y0-1)<=3 * Ref15.nodesL l-l.length+2/\chR l a i+Ref15.nodes y0<=Ref15.nodesL l):=by
 induction l with
 |nil=>intro i h;exact⟨Nat.zero_le _,Nat.zero_le _,λh1 h2=>by grind⟩
 |cons x r ih=>
  intro i h
  have hx:=hl x (by simp)
  have ih:=ih (λy hy=>hl y (by simp[hy])) (i+1) (λj y e h2=>h (j+1) y (by simpa using e) (by omega))
  have hn:Ref15.nodesL (x::r)=Ref15.nodes x+Ref15.nodesL r:=by rfl
  have hlr:=Ref15.len_nodes r
  rw[hn,chW,chR,List.length_cons]
  have ec:((i:Nat):Int)+1=((i+1:Nat):Int):=by omega
  rw[ec]
  by_cases e:i=a
  ·subst e
   have:=h 0 x rfl rfl
   grind
  grind
theorem ZP{R:List (Int×Int)}{y0:Ex}{j:Nat}(hj:(bg ns).2=(j:Int))(hy:l[j]? = some y0)(hl:l.length=4)(hz:Sz (aN R y0) (3 * Ref15.nodes y0-1) (Ref15.nodes y0))(hi:2 * ins.length+3 * (Ref15.nodesL l+1)<=2000000)(h0:0<=n)(hn:n+(Ref15.nodesL l+1)<=1000000) :
  ChI R (bg ns).2 n (chT R (bg ns).2 n l y0 ins) 0 l (ins++(aN R y0 (n+1)).1++[(5,n)]) (aN R y0 (n+1)).2:=by
 have z:=hz (n+1)
 have hu:∀(i:Nat) y,l[i]? = some y->0+i=j->y=y0:=by
  grind
 have s:=zdq (l:=l) (λy _=>gV y) j y0 0 hu
 refine⟨rfl,rfl,?_,by omega,?_⟩<;>grind
theorem z81{p:Pr}{b:Nat}(hl:p.lines.length<=16/\p.tables.length<=16)(v:V p b x)(hk:x.kind=6\/x.kind=7\/x.kind=8\/x.kind=9\/x.kind=10\/x.kind=13\/x.kind=14\/x.kind=18):IntKind.i64.wrap (x.index+x.n)=x.index+x.n:=by
 have hg:=(aV v.wf).2.1
 have:0<=x.index+x.n/\x.index+x.n<=2147483648:=by
  rcases hk with e |e |e |e |e |e |e |e
  ·rw[v.num (by omega) (by omega),v.idx (by rw[e];rfl) (by omega) (by omega)];decide
  ·rw[v.num (by omega) (by omega),v.idx (by rw[e];rfl) (by omega) (by omega)];decide
  ·have:=Jb hg (by rw[e];rfl)
   rw[v.num (by omega) (by omega)];omega
  ·have:=O9 hg (by rw[e];rfl)
   rw[v.num (by omega) (by omega)];omega
  ·rw[v.num (by omega) (by omega),v.idx (by rw[e];rfl) (by omega) (by omega)];decide
  ·rw[v.num (by omega) (by omega),v.idx (by rw[e];rfl) (by omega) (by omega)];decide
  ·rw[v.num (by omega) (by omega),v.idx (by rw[e];rfl) (by omega) (by omega)];decide
  ·have:=own_k18' hg e
   rw[v.idx (by rw[e];rfl) (by omega) (by omega)];omega
 grind[aO]
theorem zdr{j:Nat}{i:Int}{y:Ex}(hi:i=j)(h:l[j]? = some y):0<=i/\(Ex.css l)[i.toNat]? = some (Ex.cs y):=by
 subst hi
 rw[Ex.css_eq]
 exact⟨Int.natCast_nonneg _,by rw[Int.toNat_natCast,List.getElem?_map,h];rfl⟩
theorem z88{p:Pr}(h:jF p=0):Res p:=by
 have hb:(aJ p).2=0:=by
  apply Classical.byContradiction
  intro hn
  have:((aJ p).2 != 0)=true:=by simpa using hn
  rw[jF,if_pos this]at h
  exact hn h
 exact yZ (kH hb).2
theorem Gz{p:Pr}(h:Res p):p.stmts.length<=64/\p.lines.length<=16/\p.tables.length<=16:=by
 have hl:=h.li
 rw[limited_eq]at hl
 simp[few]at hl
 omega
structure xA(p:Pr)(T:Ins×Int)(i:Nat)(r:List Sm)(ins:Ins)(n:Int)(R:List (Int×Int)):Prop where
 res:Res p
 at_:p.stmts.drop i=r
 code:ins++(cmpL r i R n).1=T.1
 regs:(cmpL r i R n).2=T.2
 len:ins.length<=768 * i
 n0:0<=n
 nb:n<=513 * (i:Int)
 il:i<=64
variable {r : List Sm} {p : Pr} {ins : Ins} {i : Nat} {n : Int} {x : Sm} {tabs l : List (List Int)}
theorem Xp(h:Res p):xA p (cmpL p.stmts 0 [] 0) 0 p.stmts [] 0 []:=⟨h,rfl,rfl,rfl,Nat.zero_le _,Int.le_refl _,by omega,by omega⟩
theorem xA.fin{T:Ins×Int}{R:List (Int×Int)}(h:xA p T i [] ins n R):ins=T.1/\n=T.2:=by
 have h1:=h.code
 have h2:=h.regs
 rw[cmpL]at h1 h2
 exact⟨by rw[<-h1,List.append_nil],h2⟩
theorem xA.sv{T:Ins×Int}{R:List (Int×Int)}(h:xA p T i (x::r) ins n R):SV p i x:=PY h.res (mD h.at_)
theorem xA.fit{T:Ins×Int}{R:List (Int×Int)}(h:xA p T i (x::r) ins n R) :
  (2 * ins.length+3 * Ref15.nodes x.x<=2000000/\0<=n/\n+Ref15.nodes x.x<=1000000)/\(ins++(aN R x.x n).1).length<=1000000/\0<=(aN R x.x n).2/\(aN R x.x n).2<=1000000:=by
 have sv:=h.sv
 have z:=Xi (p:=p) (b:=i) (R:=R) x.x sv.v.wf n
 have:=sv.nd
 have:=h.len
 have:=h.n0
 have:=h.nb
 have:=h.il
 grind
theorem xA.nexti{T:Ins×Int}{R:List (Int×Int)}(h:xA p T i (x::r) ins n R):i<p.stmts.length/\i+1<=64:=by
 have h1:=lK h.at_
 have h2:=(Gz h.res).1
 omega
theorem xA.let_{T:Ins×Int}{R:List (Int×Int)}(h:xA p T i (x::r) ins n R)(hk:(x.kind==1)=true) :
  xA p T (i+1) r (ins++(aN R x.x n).1++[(5,(aN R x.x n).2)]) ((aN R x.x n).2+1) (lW (i:Int) (aN R x.x n).2 R):=by
 have sv:=h.sv
 have z:=Xi (p:=p) (b:=i) (R:=R) x.x sv.v.wf n
 have h1:=h.code
 have h2:=h.regs
 have:=sv.nd
 have:=h.len
 have:=h.n0
 have:=h.nb
 rw[cmpL,if_pos hk]at h1 h2
 refine⟨h.res,Az h.at_,?_,h2,?_,by omega,by omega,h.nexti.2⟩<;>grind
theorem xA.other{T:Ins×Int}{R:List (Int×Int)}{y:Int×Int}(h:xA p T i (x::r) ins n R)(hk:(x.kind==1)=false)(hy:(if x.kind==2 then(6,x.index)else if x.kind==3 then(7,x.index)else(22,0))=y) :
  xA p T (i+1) r (ins++(aN R x.x n).1++[y]) (aN R x.x n).2 R:=by
 have sv:=h.sv
 have z:=Xi (p:=p) (b:=i) (R:=R) x.x sv.v.wf n
 have h1:=h.code
 have h2:=h.regs
 have:=sv.nd
 have:=h.len
 have:=h.n0
 have:=h.nb
 rw[cmpL]at h1
 rw[cmpL,if_neg (by rw[hk];decide)]at h2
 refine⟨h.res,Az h.at_,?_,h2,?_,by omega,by omega,h.nexti.2⟩<;>grind
theorem xA.set_{T:Ins×Int}{R:List (Int×Int)}(h:xA p T i (x::r) ins n R)(h1:(x.kind==1)=false)(h2:(x.kind==2)=true) :
  xA p T (i+1) r (ins++(aN R x.x n).1++[(6,x.index)]) (aN R x.x n).2 R:=h.other h1 (if_pos h2)
theorem xA.push_{T:Ins×Int}{R:List (Int×Int)}(h:xA p T i (x::r) ins n R)(h1:(x.kind==1)=false)(h2:(x.kind==2)=false)(h3:(x.kind==3)=true) :
  xA p T (i+1) r (ins++(aN R x.x n).1++[(7,x.index)]) (aN R x.x n).2 R:=h.other h1 (by simp_all)
theorem xA.out_{T:Ins×Int}{R:List (Int×Int)}(h:xA p T i (x::r) ins n R)(h1:(x.kind==1)=false)(h2:(x.kind==2)=false)(h3:(x.kind==3)=false) :
  xA p T (i+1) r (ins++(aN R x.x n).1++[(22,0)]) (aN R x.x n).2 R:=h.other h1 (by simp_all)
theorem xA.no{T:Ins×Int}{R:List (Int×Int)}{P:Prop}(h:xA p T i (x::r) ins n R)(h1:(x.kind==1)=false)(h2:(x.kind==2)=false)(h3:(x.kind==3)=false)(h4:(x.kind==4)=false):P:=by
 rcases h.sv.kd with e |e |e |e<;>simp_all
theorem zds{k v w:Int}{R:List (Int×Int)}(h:lkA k (lW k v R)=some w):w=v:=by
 rw[tZ]at h;simp_all
theorem z9a{k v:Int}{R:List (Int×Int)}{P:Prop}(h:lkA k (lW k v R)=none):P:=by
 rw[tZ,if_pos (by simp)]at h;cases h
theorem z9b(h:tabs++([]:List Tb).map Tb.values=l):tabs=l:=by simpa using h
theorem ZQ{r:List Tb}(h:tabs++r.map Tb.values=l):tabs.length<=l.length:=by rw[<-h];simp
theorem ZR{x:Tb}{r:List Tb}(h:tabs++(x::r).map Tb.values=l):tabs++[x.values]++r.map Tb.values=l:=by rw[<-h];simp
end Go.Fw.Lw
namespace Go.Fw.Lw
open Go.Fw
variable [af]
abbrev W(n:Int):Int:=IntKind.i64.wrap n
def getI{α:Type}(l:List α)(i:Int):Option α:=if 0<=i then l[i.toNat]? else none
def kK(n lo hi:Int):Int:=bif decide (n<lo)then lo else bif decide (n>hi)then hi else n
def yB(a b:Int):Int:=
 bif (bif decide (b>0)then decide (a>W (4611686018427387904-b))else false)then 4611686018427387904 else
 bif (bif decide (b<0)then decide (a<W (-4611686018427387904-b))else false)then -4611686018427387904 else W (a+b)
def JG(n:Int):Int:=bif decide (n<0)then W (0-n)else n
def Xq(a b:Int):Int:=bif decide (JG a<=W (Int.tdiv 4611686018427387904 (JG b)))then W (JG a * JG b)else 4611686018427387904
def xZ(a b:Int):Int:=
 bif (bif a==0 then true else b==0)then 0 else
 bif !(decide (a<0)==decide (b<0))then W (0-Xq a b)else Xq a b
def Nh(n d:Int):Int:=bif decide (W (W (n.tdiv d) * d)>n)then W (W (n.tdiv d)-1)else W (n.tdiv d)
def Xr(v:Int):Int:=mm2 true (-2147483648) (mm2 false v 2147483647)
def RH(c:Mac.Cd)(inp sid:List Int)(s:Mac.Sta)(op a v:Int):Option Int:=
 if op==8 then getI inp (kK v 0 c.latency)
 else if op==9 then getI sid (kK v 0 c.latency)
 else if op==10 then(match getI s.lines a,getI c.lines a with
  |some l,some b=>getI l (kK v 0 (W (b.size-1)))
  |_,_=>none)
 else if op==11 then(match getI c.tables a with
  |some t=>getI t (kK v 0 (W ((t.length:Int)-1)))
  |none=>none)
 else if op==12 then some (Xr v)
 else if op==15 then some (JG v)
 else if op==16 then some (W (0-v))
 else if a==0 then none else some (Nh v a)
def S9(op a b:Int):Option Int:=
 if op==13 then some (mm2 false a b)
 else if op==14 then some (mm2 true a b)
 else if op==17 then some (yB a b)
 else if op==18 then some (yB a (W (0-b)))
 else if decide (-4611686018427387904<=b)&&decide (b<=4611686018427387904)then some (xZ a b)else none
structure PQ where
 stack:List Int
 regs:List Int
 values:List Int
 pushed:List Bool
 last:List Int
 out:Int
instance:Inhabited PQ:=⟨⟨[],[],[],[],[],0⟩⟩
abbrev tk(x:Int×Int):Int:=(Mac.takesR x.1).1
abbrev ps(x:Int×Int):Int:=(Mac.takesR x.1).2.1
def argO(c:Mac.Cd)(inp sid:List Int)(s:Mac.Sta)(x:Int×Int)(l:List Int):Option Int:=
 if tk x==1 then(match l with
  |v::_=>if ps x==1 then RH c inp sid s x.1 x.2 v else some v
  | []=>none)
 else if tk x==2 then(match l with
  |a::b::_=>S9 x.1 a b
  |_=>none)
 else if tk x==4 then(match l with
  |a::b::c::d::_=>some (bif decide (a<b)then c else d)
  |_=>none)
 else some 0
def putO(par:List Int)(x:Int×Int)(v:Int)(q:PQ):Option (Int×PQ):=
 if x.1==1 then some (x.2,q)
 else if x.1==2 then(getI par x.2).map λw=>(w,q)
 else if x.1==3 then(getI q.values x.2).map λw=>(w,q)
 else if x.1==4 then(getI q.regs x.2).map λw=>(w,q)
 else if x.1==5 then(if decide (0<=x.2)&&decide (x.2<q.regs.length)then some (v,{ q with regs:=q.regs.set x.2.toNat v })else none)
 else if x.1==6 then(if decide (0<=x.2)&&decide (x.2<q.values.length)then some (v,{ q with values:=q.values.set x.2.toNat v })else none)
 else if x.1==7 then(if decide (0<=x.2)&&(decide (x.2<q.pushed.length)&&decide (x.2<q.last.length))then some (v,{ q with pushed:=q.pushed.set x.2.toNat true,last:=q.last.set x.2.toNat v })else none)
 else if x.1==22 then some (v,{ q with out:=v })
 else some (v,q)
def restN(x:Int×Int)(q:PQ):Nat:=q.stack.length-(tk x).toNat
def GG(c:Mac.Cd)(par inp sid:List Int)(s:Mac.Sta)(x:Int×Int)(q:PQ):Option PQ:=
 if decide (tk x<=q.stack.length)&&decide (q.stack.length<=1000000)then
  match argO c inp sid s x (q.stack.drop (restN x q))with
  |none=>none
  |some v=>match putO par x v { q with stack:=q.stack.take (restN x q) } with
   |none=>none
   |some (w,q')=>some (if ps x==1 then { q' with stack:=q'.stack++[kK w (-4611686018427387904) 4611686018427387904] } else q')
 else none
def runO(c:Mac.Cd)(par inp sid:List Int)(s:Mac.Sta):List (Int×Int)->PQ->Option PQ
 | [],q=>some q
 |x::r,q=>match GG c par inp sid s x q with
  |none=>none
  |some q'=>runO c par inp sid s r q'
def CG(q:PQ)(i:Nat)(l:List Int):Option (List Int):=
 match q.pushed[i]? with
 |none=>none
 |some false=>some l
 |some true=>match q.last[i]? with
  |none=>none
  |some v=>if l.length=0 then none else some (v::l.take (l.length-1))
def o9(s:Mac.Sta)(q:PQ):List Ln->Nat->Option (List (List Int))
 | [],_=>some []
 |_::r,i=>match s.lines[i]? with
  |none=>none
  |some l=>match CG q i l with
   |none=>none
   |some m=>match o9 s q r (i+1)with
    |none=>none
    |some k=>some (m::k)
def Ew(c:Mac.Cd)(s:Mac.Sta):PQ:=⟨[],List.replicate c.regs.toNat 0,s.values,List.replicate c.lines.length false,List.replicate c.lines.length 0,0⟩
def vP(c:Mac.Cd)(par inp sid:List Int)(s:Mac.Sta):Option (Int×Mac.Sta):=
 match runO c par inp sid s c.instrs (Ew c s)with
 |none=>none
 |some q=>match o9 s q c.lines 0 with
  |none=>none
  |some l=>some (q.out,⟨q.values,l⟩)
theorem uf{α β:Type}{l:List α}{f:α->β}{i:Int}{v:α}(h:getI l i=some v):0<=i/\(l.map f)[i.toNat]? = some (f v):=by
 unfold getI at h
 split at h
 ·rename_i h0;exact⟨h0,by rw[List.getElem?_map,h];rfl⟩
 ·cases h
section
variable {c : Mac.Cd} {inp sid : List Int} {s : Mac.Sta} {op a v r : Int} (hO : RH c inp sid s op a v = some r)
include hO
theorem zfw(h:(op==8)=true):getI inp (kK v 0 c.latency)=some r:=by rw[RH,if_pos h]at hO;exact hO
theorem zfx(h8:(op==8)=false)(h:(op==9)=true):getI sid (kK v 0 c.latency)=some r:=by rw[RH,if_neg (by rw[h8];decide),if_pos h]at hO;exact hO
theorem zdt(h8:(op==8)=false)(h9:(op==9)=false)(h:(op==10)=true):∃l b,getI s.lines a=some l/\getI c.lines a=some b/\getI l (kK v 0 (W (b.size-1)))=some r:=by
 rw[RH]at hO
 grind
theorem zdu(h8:(op==8)=false)(h9:(op==9)=false)(h10:(op==10)=false)(h:(op==11)=true):∃t,getI c.tables a=some t/\getI t (kK v 0 (W ((t.length:Int)-1)))=some r:=by
 rw[RH]at hO
 grind
theorem zdv(h8:(op==8)=false)(h9:(op==9)=false)(h10:(op==10)=false)(h11:(op==11)=false)(h:(op==12)=true):Xr v=r:=by
 rw[RH]at hO;simp_all
theorem zdw(h8:(op==8)=false)(h9:(op==9)=false)(h10:(op==10)=false)(h11:(op==11)=false)(h12:(op==12)=false)(h:(op==15)=true):JG v=r:=by
 rw[RH]at hO;simp_all
theorem zdx(h8:(op==8)=false)(h9:(op==9)=false)(h10:(op==10)=false)(h11:(op==11)=false)(h12:(op==12)=false)(h15:(op==15)=false)(h:(op==16)=true):W (0-v)=r:=by
 rw[RH]at hO;simp_all
theorem z3d(h8:(op==8)=false)(h9:(op==9)=false)(h10:(op==10)=false)(h11:(op==11)=false)(h12:(op==12)=false)(h15:(op==15)=false)(h:(op==16)=false):a≠0/\Nh v a=r:=by
 rw[RH]at hO
 simp_all
end
section
variable {op a b r : Int} (hO : S9 op a b = some r)
include hO
theorem zdy(h:(op==13)=true):mm2 false a b=r:=by rw[S9]at hO;simp_all
theorem zdz(h13:(op==13)=false)(h:(op==14)=true):mm2 true a b=r:=by rw[S9]at hO;simp_all
theorem zd0(h13:(op==13)=false)(h14:(op==14)=false)(h:(op==17)=true):yB a b=r:=by rw[S9]at hO;simp_all
theorem zd1(h13:(op==13)=false)(h14:(op==14)=false)(h17:(op==17)=false)(h:(op==18)=true):yB a (W (0-b))=r:=by rw[S9]at hO;simp_all
theorem z3e(h13:(op==13)=false)(h14:(op==14)=false)(h17:(op==17)=false)(h:(op==18)=false):(-4611686018427387904<=b/\b<=4611686018427387904)/\xZ a b=r:=by
 rw[S9]at hO
 simp_all
end
theorem zd2{a b:Int}(h:(bif a==0 then true else b==0)=false):b≠0:=by
 simp_all
theorem zd3{b:Int}(hb:-4611686018427387904<=b/\b<=4611686018427387904)(h:decide (b<0)=true):IntKind.i64.wrap (0-b)≠0:=by
 grind[aO]
section
variable (c : Mac.Cd) (par inp sid : List Int) (s : Mac.Sta)
def BF(x:Int×Int)(q:PQ):Int:=(argO c inp sid s x (q.stack.drop (restN x q))).getD 0
def Tc(x:Int×Int)(q:PQ):PQ:={ q with stack:=q.stack.take (restN x q) }
def zh(x:Int×Int)(q:PQ):Int×PQ:=(putO par x (BF c inp sid s x q) (Tc x q)).getD default
def Xt(x:Int×Int)(q:PQ):PQ:={ (zh c par inp sid s x q).2 with stack:=if ps x==1 then q.stack.take (restN x q)++[kK (zh c par inp sid s x q).1 (-4611686018427387904) 4611686018427387904]else q.stack.take (restN x q) }
end
theorem JH{par:List Int}{x:Int×Int}{v w:Int}{q q':PQ}(h:putO par x v q=some (w,q')):q'.stack=q.stack/\q'.regs.length=q.regs.length/\q'.values.length=q.values.length/\q'.pushed.length=q.pushed.length/\q'.last.length=q.last.length:=by
 unfold putO at h
 repeat' split at h
 all_goals first |(cases h;done) |skip
 all_goals first
  |(obtain⟨_,rfl⟩:=Prod.mk.inj (Option.some.inj h);simp)
  |(rw[Option.map_eq_some_iff]at h;grind)
structure PI(c:Mac.Cd)(par inp sid:List Int)(s:Mac.Sta)(F:PQ)(r:List (Int×Int))(row:List Int)(m:Nat)(q:PQ):Prop where
 run:runO c par inp sid s r q=some F
 st:q.stack=row.take m
 le:m<=row.length
 lr:q.regs.length=c.regs.toNat
 lv:q.values.length=s.values.length
 lp:q.pushed.length=c.lines.length
 ll:q.last.length=c.lines.length
section
variable {c : Mac.Cd} {par inp sid : List Int} {s : Mac.Sta} {F : PQ} {x : Int × Int} {r : List (Int × Int)} {row : List Int} {m : Nat} {q : PQ}
theorem PI.sl(h:PI c par inp sid s F r row m q):q.stack.length=m:=by rw[h.st,List.length_take];have:=h.le;omega
def T4(e:Int×Int×Bool):Prop:=0<=e.1/\e.1<=4
theorem T4.bif{b:Bool}{x y:Int×Int×Bool}(hx:T4 x)(hy:T4 y):T4 (bif b then x else y):=by grind
theorem T4.of{t u:Int}{k:Bool}(h:(decide (0<=t)&&decide (t<=4))=true):T4 (t,u,k):=by
 simp at h;exact h
theorem zd4(x:Int×Int):0<=tk x/\tk x<=4:=by
 have:T4 (Mac.takesR x.1):=by
  repeat' (first |exact T4.of rfl |refine T4.bif ?_ ?_)
 exact this
theorem PI.step(h:PI c par inp sid s F (x::r) row m q):tk x<=m/\m<=1000000/\argO c inp sid s x (q.stack.drop (restN x q))=some (BF c inp sid s x q)/\putO par x (BF c inp sid s x q) (Tc x q)=some (zh c par inp sid s x q)/\runO c par inp sid s r (Xt c par inp sid s x q)=some F:=by
 have hr:=h.run
 have hsl:=h.sl
 rw[runO]at hr
 cases hs:GG c par inp sid s x q with
 |none=>simp_all
 |some q'=>
  rw[hs]at hr
  rw[GG]at hs
  split at hs<;>try(cases hs)
  rename_i hc
  simp[hsl]at hc
  cases ha:argO c inp sid s x (q.stack.drop (restN x q))with
  |none=>simp_all
  |some v=>
   rw[ha]at hs
   dsimp only at hs
   have ev:BF c inp sid s x q=v:=by rw[BF,ha];rfl
   cases hp:putO par x v { q with stack:=q.stack.take (restN x q) } with
   |none=>simp_all
   |some w=>
    obtain⟨w,q1⟩:=w
    rw[hp]at hs
    have ep:zh c par inp sid s x q=(w,q1):=by rw[zh,ev];show(putO par x v { q with stack:=q.stack.take (restN x q) }).getD default=_;rw[hp];rfl
    refine⟨hc.1,by omega,by rw[ev],by rw[ev,ep];exact hp,?_⟩
    have hst:=(JH hp).1
    have e:Xt c par inp sid s x q=q':=by
     rw[Xt,ep]
     by_cases h1:(ps x==1)=true
     ·simp_all
     ·cases q1
      simp_all
    rw[e];exact hr
theorem PI.rest(h:PI c par inp sid s F (x::r) row m q):restN x q=m-(tk x).toNat/\restN x q<=m/\W ((m:Int)-tk x)=(restN x q:Nat)/\(0<=W ((m:Int)-tk x)/\W ((m:Int)-tk x)<=m):=by
 have hs:=h.step
 have ht:=zd4 x
 have e:restN x q=m-(tk x).toNat:=by rw[restN,h.sl]
 have ew:W ((m:Int)-tk x)=(restN x q:Nat):=by rw[W,aO (by omega) (by omega)];omega
 omega
def z3f(x:Int×Int)(row:List Int)(k:Nat)(w:Int):List Int:=if ps x==1 then row.take k++[kK w (-4611686018427387904) 4611686018427387904]else row
def mN(x:Int×Int)(k:Nat):Nat:=if ps x==1 then k+1 else k
def ZT(x:Int×Int)(v:Nat):Nat:=if ps x==1 then v+1 else v
theorem PI.next(h:PI c par inp sid s F (x::r) row m q):PI c par inp sid s F r (z3f x row (restN x q) (zh c par inp sid s x q).1) (mN x (restN x q)) (Xt c par inp sid s x q):=by
 obtain⟨h1,h2,h3,h4,h5⟩:=h.step
 have hp:=JH (show putO par x (BF c inp sid s x q) (Tc x q)=some ((zh c par inp sid s x q).1,(zh c par inp sid s x q).2)from h4)
 have hr:=h.rest
 have hle:=h.le
 have e:q.stack.take (restN x q)=row.take (restN x q):=by rw[h.st,List.take_take,Nat.min_eq_left hr.2.1]
 refine⟨h5,?_,?_,hp.2.1.trans h.lr,hp.2.2.1.trans h.lv,hp.2.2.2.1.trans h.lp,hp.2.2.2.2.trans h.ll⟩
 ·show(if ps x==1 then _ else _)=_
  unfold z3f mN
  grind
 grind[z3f,mN,List.length_append,List.length_take,List.length_cons,List.length_nil]
theorem zfy{i v k:Nat}(h:(ps x==1)=true):AV.own i (v+1) 1 0 (k+1)=AV.own i (ZT x v) 1 0 (mN x k):=by rw[ZT,mN,if_pos h,if_pos h]
theorem zfz{i v k:Nat}(h:(ps x==1)=false):AV.own i v 1 0 k=AV.own i (ZT x v) 1 0 (mN x k):=by rw[ZT,mN,if_neg (by rw[h];decide),if_neg (by rw[h];decide)]
theorem zf0{v k:Nat}{w:Int}(h:(ps x==1)=true):Block.arr (v+1) 1 ((row.map fF).take k++[[D.i (kK w (-4611686018427387904) 4611686018427387904)]])=Block.arr (ZT x v) 1 ((z3f x row k w).map fF):=by
 rw[ZT,z3f,if_pos h,if_pos h,List.map_append,List.map_take];rfl
theorem zf1{v k:Nat}{w:Int}(h:(ps x==1)=false):Block.arr v 1 (row.map fF)=Block.arr (ZT x v) 1 ((z3f x row k w).map fF):=by
 rw[ZT,z3f,if_neg (by rw[h];decide),if_neg (by rw[h];decide)]
theorem PI.args(h:PI c par inp sid s F (x::r) row m q):([]:List (List D))++((row.map fF).drop (0+(W ((m:Int)-tk x)).toNat)).take (m-(W ((m:Int)-tk x)).toNat)=(q.stack.drop (restN x q)).map fF:=by
 have hr:=h.rest
 rw[hr.2.2.1,Int.toNat_natCast,Nat.zero_add,List.nil_append,h.st,List.drop_take,List.map_take,List.map_drop]
section
variable (h : PI c par inp sid s F (x :: r) row m q)
include h
theorem PI.a1(h1:(tk x==1)=true):(0:Int)<=0/\((q.stack.drop (restN x q)).map fF)[(0:Int).toNat]? = some (fF ((q.stack.drop (restN x q)).getD 0 0)):=by
 have ha:=h.step.2.2.1
 unfold argO at ha
 grind
theorem PI.a1o(h1:(tk x==1)=true)(h2:(ps x==1)=true):RH c inp sid s x.1 x.2 ((q.stack.drop (restN x q)).getD 0 0)=some (BF c inp sid s x q):=by
 have ha:=h.step.2.2.1
 unfold argO at ha
 grind
theorem PI.a1v(h1:(tk x==1)=true)(h2:(ps x==1)=false):(q.stack.drop (restN x q)).getD 0 0=BF c inp sid s x q:=by
 have ha:=h.step.2.2.1
 unfold argO at ha
 grind
theorem PI.a2(h1:(tk x==1)=false)(h2:(tk x==2)=true):((0:Int)<=0/\((q.stack.drop (restN x q)).map fF)[(0:Int).toNat]? = some (fF ((q.stack.drop (restN x q)).getD 0 0)))/\((0:Int)<=1/\((q.stack.drop (restN x q)).map fF)[(1:Int).toNat]? = some (fF ((q.stack.drop (restN x q)).getD 1 0))) /\
  S9 x.1 ((q.stack.drop (restN x q)).getD 0 0) ((q.stack.drop (restN x q)).getD 1 0)=some (BF c inp sid s x q):=by
 have ha:=h.step.2.2.1
 unfold argO at ha
 grind
theorem PI.a4(h1:(tk x==1)=false)(h2:(tk x==2)=false)(h4:(tk x==4)=true):(((0:Int)<=0/\((q.stack.drop (restN x q)).map fF)[(0:Int).toNat]? = some (fF ((q.stack.drop (restN x q)).getD 0 0)))/\((0:Int)<=1/\((q.stack.drop (restN x q)).map fF)[(1:Int).toNat]? = some (fF ((q.stack.drop (restN x q)).getD 1 0))) /\
  ((0:Int)<=2/\((q.stack.drop (restN x q)).map fF)[(2:Int).toNat]? = some (fF ((q.stack.drop (restN x q)).getD 2 0)))/\((0:Int)<=3/\((q.stack.drop (restN x q)).map fF)[(3:Int).toNat]? = some (fF ((q.stack.drop (restN x q)).getD 3 0)))) /\
  (bif decide ((q.stack.drop (restN x q)).getD 0 0<(q.stack.drop (restN x q)).getD 1 0)then(q.stack.drop (restN x q)).getD 2 0 else(q.stack.drop (restN x q)).getD 3 0)=BF c inp sid s x q:=by
 have ha:=h.step.2.2.1
 unfold argO at ha
 match hd:q.stack.drop (restN x q)with
 | []=>simp_all
 | [v]=>simp_all
 | [v,_]=>simp_all
 | [v,_,_]=>simp_all
 |a::b::d::e::t=>simp_all
theorem PI.a4t(h1:(tk x==1)=false)(h2:(tk x==2)=false)(h4:(tk x==4)=true)(hl:decide ((q.stack.drop (restN x q)).getD 0 0<(q.stack.drop (restN x q)).getD 1 0)=true):(q.stack.drop (restN x q)).getD 2 0=BF c inp sid s x q:=by
 have:=(h.a4 h1 h2 h4).2;simp_all
theorem PI.a4f(h1:(tk x==1)=false)(h2:(tk x==2)=false)(h4:(tk x==4)=true)(hl:decide ((q.stack.drop (restN x q)).getD 0 0<(q.stack.drop (restN x q)).getD 1 0)=false):(q.stack.drop (restN x q)).getD 3 0=BF c inp sid s x q:=by
 have:=(h.a4 h1 h2 h4).2;grind
theorem PI.a0(h1:(tk x==1)=false)(h2:(tk x==2)=false)(h4:(tk x==4)=false):0=BF c inp sid s x q:=by
 have ha:=h.step.2.2.1
 unfold argO at ha
 simp_all
theorem PI.pe1(h1:(x.1==1)=true):zh c par inp sid s x q=(x.2,Tc x q):=by
 have hp:=h.step.2.2.2.1
 unfold putO at hp
 simp_all
theorem PI.pe2(h1:(x.1==1)=false)(h2:(x.1==2)=true):zh c par inp sid s x q=(par.getD x.2.toNat 0,Tc x q)/\(0<=x.2/\(par.map fF)[x.2.toNat]? = some (fF (par.getD x.2.toNat 0)))/\x.2<(par.length:Nat):=by
 have hp:=h.step.2.2.2.1
 unfold putO at hp
 rw[if_neg (by rw[h1];decide),if_pos h2]at hp
 rw[Option.map_eq_some_iff]at hp
 obtain⟨w,h0,hp⟩:=hp
 unfold getI at h0
 grind
theorem PI.pe3(h1:(x.1==1)=false)(h2:(x.1==2)=false)(h3:(x.1==3)=true):zh c par inp sid s x q=(q.values.getD x.2.toNat 0,Tc x q)/\(0<=x.2/\(q.values.map fF)[x.2.toNat]? = some (fF (q.values.getD x.2.toNat 0)))/\x.2<(q.values.length:Nat):=by
 have hp:=h.step.2.2.2.1
 unfold putO at hp
 rw[if_neg (by rw[h1];decide),if_neg (by rw[h2];decide),if_pos h3]at hp
 rw[Option.map_eq_some_iff]at hp
 obtain⟨w,h0,hp⟩:=hp
 have h0:getI q.values x.2=some w:=h0
 unfold getI at h0
 grind
theorem PI.pe4(h1:(x.1==1)=false)(h2:(x.1==2)=false)(h3:(x.1==3)=false)(h4:(x.1==4)=true):zh c par inp sid s x q=(q.regs.getD x.2.toNat 0,Tc x q)/\(0<=x.2/\(q.regs.map fF)[x.2.toNat]? = some (fF (q.regs.getD x.2.toNat 0)))/\x.2<(q.regs.length:Nat):=by
 have hp:=h.step.2.2.2.1
 unfold putO at hp
 rw[if_neg (by rw[h1];decide),if_neg (by rw[h2];decide),if_neg (by rw[h3];decide),if_pos h4]at hp
 rw[Option.map_eq_some_iff]at hp
 obtain⟨w,h0,hp⟩:=hp
 have h0:getI q.regs x.2=some w:=h0
 unfold getI at h0
 grind
theorem PI.pe5(h1:(x.1==1)=false)(h2:(x.1==2)=false)(h3:(x.1==3)=false)(h4:(x.1==4)=false)(h5:(x.1==5)=true):zh c par inp sid s x q=(BF c inp sid s x q,{ Tc x q with regs:=q.regs.set x.2.toNat (BF c inp sid s x q) })/\0<=x.2/\x.2<(q.regs.length:Nat):=by
 have hp:=h.step.2.2.2.1
 unfold putO at hp
 rw[if_neg (by rw[h1];decide),if_neg (by rw[h2];decide),if_neg (by rw[h3];decide),if_neg (by rw[h4];decide),if_pos h5]at hp
 split at hp
 ·rename_i hc
  simp at hc
  exact⟨(Option.some.inj hp).symm,hc.1,hc.2⟩
 ·cases hp
theorem PI.pe6(h1:(x.1==1)=false)(h2:(x.1==2)=false)(h3:(x.1==3)=false)(h4:(x.1==4)=false)(h5:(x.1==5)=false)(h6:(x.1==6)=true):zh c par inp sid s x q=(BF c inp sid s x q,{ Tc x q with values:=q.values.set x.2.toNat (BF c inp sid s x q) })/\0<=x.2/\x.2<(q.values.length:Nat):=by
 have hp:=h.step.2.2.2.1
 unfold putO at hp
 rw[if_neg (by rw[h1];decide),if_neg (by rw[h2];decide),if_neg (by rw[h3];decide),if_neg (by rw[h4];decide),if_neg (by rw[h5];decide),if_pos h6]at hp
 split at hp
 ·rename_i hc
  simp at hc
  exact⟨(Option.some.inj hp).symm,hc.1,hc.2⟩
 ·cases hp
theorem PI.pe7(h1:(x.1==1)=false)(h2:(x.1==2)=false)(h3:(x.1==3)=false)(h4:(x.1==4)=false)(h5:(x.1==5)=false)(h6:(x.1==6)=false)(h7:(x.1==7)=true):zh c par inp sid s x q=(BF c inp sid s x q,{ Tc x q with pushed:=q.pushed.set x.2.toNat true,last:=q.last.set x.2.toNat (BF c inp sid s x q) })/\0<=x.2/\x.2<(q.pushed.length:Nat)/\x.2<(q.last.length:Nat):=by
 have hp:=h.step.2.2.2.1
 unfold putO at hp
 rw[if_neg (by rw[h1];decide),if_neg (by rw[h2];decide),if_neg (by rw[h3];decide),if_neg (by rw[h4];decide),if_neg (by rw[h5];decide),if_neg (by rw[h6];decide),if_pos h7]at hp
 split at hp
 ·rename_i hc
  simp at hc
  exact⟨(Option.some.inj hp).symm,hc.1,hc.2.1,hc.2.2⟩
 ·cases hp
theorem PI.pe22(h1:(x.1==1)=false)(h2:(x.1==2)=false)(h3:(x.1==3)=false)(h4:(x.1==4)=false)(h5:(x.1==5)=false)(h6:(x.1==6)=false)(h7:(x.1==7)=false)(h22:(x.1==22)=true):zh c par inp sid s x q=(BF c inp sid s x q,{ Tc x q with out:=BF c inp sid s x q }):=by
 have hp:=h.step.2.2.2.1
 unfold putO at hp
 simp_all
theorem PI.pe0(h1:(x.1==1)=false)(h2:(x.1==2)=false)(h3:(x.1==3)=false)(h4:(x.1==4)=false)(h5:(x.1==5)=false)(h6:(x.1==6)=false)(h7:(x.1==7)=false)(h22:(x.1==22)=false):zh c par inp sid s x q=(BF c inp sid s x q,Tc x q):=by
 have hp:=h.step.2.2.2.1
 unfold putO at hp
 simp_all
end
end
theorem Ey{α:Type}{l:List α}{i:Int}{d:α}{f:α->List D}(h0:0<=i)(h:i<(l.length:Nat)):(l.map f)[0+i.toNat]? = some (f (l.getD i.toNat d)):=by
 simp_all
theorem mV{l:List Bool}{v:Bool}{k i:Nat}:Block.arr k 1 ((l.map Mac.boolC).set (0+i) [D.b v])=Block.arr k 1 ((l.set i v).map Mac.boolC):=by
 simp
theorem z9c(n:Nat)(v:Int):Block.arr 0 1 (List.replicate n [D.i v])=Block.arr 0 1 ((List.replicate n v).map fF):=by simp
theorem PI.own_cut{c:Mac.Cd}{par inp sid:List Int}{s:Mac.Sta}{F:PQ}{x:Int×Int}{r:List (Int×Int)}{row:List Int}{m:Nat}{q:PQ}(h:PI c par inp sid s F (x::r) row m q){i v:Nat}:AV.own i v 1 0 (W ((m:Int)-tk x)).toNat=AV.own i v 1 0 (restN x q):=by rw[h.rest.2.2.1,Int.toNat_natCast]
theorem PI.len1{c:Mac.Cd}{par inp sid:List Int}{s:Mac.Sta}{F:PQ}{x:Int×Int}{r:List (Int×Int)}{row:List Int}{m:Nat}{q:PQ}(h:PI c par inp sid s F (x::r) row m q):0+(W ((m:Int)-tk x)).toNat+(m-(W ((m:Int)-tk x)).toNat)<=(row.map fF).length:=by
 have h1:=h.rest.2.2.2;have h2:=h.le
 simp_all
theorem PI.len2{c:Mac.Cd}{par inp sid:List Int}{s:Mac.Sta}{F:PQ}{x:Int×Int}{r:List (Int×Int)}{row:List Int}{m:Nat}{q:PQ}(h:PI c par inp sid s F (x::r) row m q):(((row.map fF).drop (0+(W ((m:Int)-tk x)).toNat)).take (m-(W ((m:Int)-tk x)).toNat)).length<=1073741824:=by
 have h1:=h.step.2.1
 grind
theorem ZU{α:Type}(l:List α)(f:α->List D)(v:Int):Block.arr 0 1 (List.replicate (((l.map f).length:Nat):Int).toNat [D.i v])=Block.arr 0 1 ((List.replicate l.length v).map fF):=by simp
theorem Xu{α:Type}(l:List α)(f:α->List D)(v:Bool):Block.arr 0 1 (List.replicate (((l.map f).length:Nat):Int).toNat [D.b v])=Block.arr 0 1 ((List.replicate l.length v).map Mac.boolC):=by simp
theorem ZV{c:Mac.Cd}{par inp sid:List Int}{s:Mac.Sta}{F:PQ}(h:runO c par inp sid s c.instrs (Ew c s)=some F):PI c par inp sid s F c.instrs [] 0 (Ew c s):=
 ⟨h,rfl,Nat.le_refl _,List.length_replicate,rfl,List.length_replicate,List.length_replicate⟩
theorem PI.fin{c:Mac.Cd}{par inp sid:List Int}{s:Mac.Sta}{F:PQ}{row:List Int}{m:Nat}{q:PQ}(h:PI c par inp sid s F [] row m q):q=F:=by
 have:=h.run;grind[runO]
structure LI(s:Mac.Sta)(F:PQ)(L:List (List Int))(r:List Ln)(i:Nat)(ls:List (List Int)):Prop where
 ex:∃k,o9 s F r i=some k/\ls++k=L
def CJ(s:Mac.Sta)(i:Nat):List Int:=s.lines.getD i []
def ZW(s:Mac.Sta)(F:PQ)(i:Nat):List Int:=(CG F i (CJ s i)).getD []
section
variable {s : Mac.Sta} {F : PQ} {L : List (List Int)} {x : Ln} {r : List Ln} {i : Nat} {ls : List (List Int)} (h : LI s F L (x :: r) i ls)
include h
theorem LI.step:s.lines[i]? = some (CJ s i)/\CG F i (CJ s i)=some (ZW s F i)/\LI s F L r (i+1) (ls++[ZW s F i]):=by
 obtain⟨k,h1,h2⟩:=h.ex
 rw[o9]at h1
 cases hl:s.lines[i]? with
 |none=>simp_all
 |some l=>
  rw[hl]at h1
  dsimp only at h1
  have e:CJ s i=l:=by rw[CJ,List.getD_eq_getElem?_getD,hl];rfl
  cases hm:CG F i l with
  |none=>simp_all
  |some m=>
   have em:ZW s F i=m:=by grind[ZW]
   cases hk:o9 s F r (i+1)with
   |none=>simp_all
   |some k'=>
    refine⟨by rw[e],by simp_all,⟨k',hk,?_⟩⟩
    simp_all
theorem LI.old:(0:Int)<=(i:Int)/\(s.lines.map Mac.lnC)[((i:Nat):Int).toNat]? = some (Mac.lnC (CJ s i)):=⟨Int.natCast_nonneg _,by rw[Int.toNat_natCast,List.getElem?_map,h.step.1];rfl⟩
theorem LI.push:(F.pushed.map Mac.boolC)[0+((i:Nat):Int).toNat]? = some (Mac.boolC (F.pushed.getD i false))/\i<F.pushed.length:=by
 have hl:=h.step.2.1
 rw[CG]at hl
 grind
theorem LI.no(hb:F.pushed.getD i false=false):CJ s i=ZW s F i:=by
 have hl:=h.step.2.1
 grind[CG]
theorem LI.yes(hb:F.pushed.getD i false=true):((F.last.map fF)[0+((i:Nat):Int).toNat]? = some (fF (F.last.getD i 0))/\i<F.last.length)/\1<=(CJ s i).length/\F.last.getD i 0::(CJ s i).take ((CJ s i).length-1)=ZW s F i:=by
 have hl:=h.step.2.1
 rw[CG]at hl
 grind
end
theorem Nj{s:Mac.Sta}{F:PQ}{L:List (List Int)}{x:Ln}{r:List Ln}{i:Nat}{ls:List (List Int)}(gs:s.Sm)(h:LI s F L (x::r) i ls):(CJ s i).length<=268435456:=gs.line _ (List.mem_of_getElem? h.step.1)
section
variable {s : Mac.Sta} {F : PQ} {L : List (List Int)} {x : Ln} {r : List Ln} {i : Nat} {ls : List (List Int)} (gs : s.Sm) (h : LI s F L (x :: r) i ls)
include gs h
theorem LI.w(hb:F.pushed.getD i false=true):IntKind.i64.wrap (((([]:List (List D))++(CJ s i).map fF).length:Nat)-1:Int)=(((CJ s i).length-1:Nat):Int):=by
 have h1:=(h.yes hb).2.1
 have h2:=Nj gs h
 rw[List.nil_append,List.length_map,aO (by omega) (by omega)];omega
theorem LI.w1(hb:F.pushed.getD i false=true):0<=IntKind.i64.wrap (((([]:List (List D))++(CJ s i).map fF).length:Nat)-1:Int):=by rw[h.w gs hb];omega
theorem LI.w2(hb:F.pushed.getD i false=true):IntKind.i64.wrap (((([]:List (List D))++(CJ s i).map fF).length:Nat)-1:Int)<=((([]:List (List D))++(CJ s i).map fF).length:Nat):=by
 rw[h.w gs hb,List.nil_append,List.length_map];omega
theorem LI.w3(hb:F.pushed.getD i false=true):(cut none (some (IntKind.i64.wrap (((([]:List (List D))++(CJ s i).map fF).length:Nat)-1:Int))) (([]:List (List D))++(CJ s i).map fF)).length<=1073741824:=by
 have h2:=Nj gs h
 rw[h.w gs hb,cut,List.length_take];omega
theorem LI.ln1(hb:F.pushed.getD i false=true):ls.map Mac.lnC++[[D.sl 1 ([[D.i (F.last.getD i 0)]]++cut none (some (IntKind.i64.wrap (((([]:List (List D))++(CJ s i).map fF).length:Nat)-1:Int))) (([]:List (List D))++(CJ s i).map fF))]]=(ls++[ZW s F i]).map Mac.lnC:=by
 rw[h.w gs hb,cut,<-(h.yes hb).2.2]
 simp
end
theorem LI.ln0{s:Mac.Sta}{F:PQ}{L:List (List Int)}{x:Ln}{r:List Ln}{i:Nat}{ls:List (List Int)}(h:LI s F L (x::r) i ls)(hb:F.pushed.getD i false=false):ls.map Mac.lnC++[[D.sl 1 (([]:List (List D))++(CJ s i).map fF)]]=(ls++[ZW s F i]).map Mac.lnC:=by
 rw[<-h.no hb,List.map_append];rfl
theorem LI.fin{s:Mac.Sta}{F:PQ}{L:List (List Int)}{i:Nat}{ls:List (List Int)}(h:LI s F L [] i ls):ls=L:=by
 obtain⟨k,h1,h2⟩:=h.ex
 rw[<-h2,<-Option.some.inj h1,List.append_nil]
theorem ZX{s:Mac.Sta}{F:PQ}{L:List (List Int)}{r:List Ln}(h:o9 s F r 0=some L):LI s F L r 0 []:=⟨⟨L,h,rfl⟩⟩
theorem ZY{c:Mac.Cd}{par inp sid:List Int}{s:Mac.Sta}{v:Int}{t:Mac.Sta}(h:vP c par inp sid s=some (v,t)):∃F,runO c par inp sid s c.instrs (Ew c s)=some F/\o9 s F c.lines 0=some t.lines/\v=F.out/\t.values=F.values:=by
 rw[vP]at h
 grind
end Go.Fw.Lw
