/- The functions of package tails, as plain functions. -/
import Derived.Test.YthpbakljheeabaaGreatDoorZRB
set_option linter.unusedSectionVars false
set_option linter.unusedSimpArgs false
set_option linter.unusedVariables false
namespace Go.Fw.Tl
open Go.Fw Go.Fw.Ref15 Go.Fw.Rg
variable [af]
mutual
def aG:Ex->List Ex
 | .mk k n i m l=>.mk k n i m l::dw l
def dw:List Ex->List Ex
 | []=>[]
 |x::r=>aG x++dw r
end
theorem jE(x:Ex):aG x=x::dw x.l:=by cases x;rw[aG];rfl
theorem zK:∀(l:List Ex) (x:Ex),dw (l++[x])=dw l++aG x
 | [],x=>by simp[dw]
 |y::r,x=>by rw[List.cons_append,dw,dw,zK r x,List.append_assoc]
theorem mF{x:Ex}:∀{l:List Ex},x∈dw l↔∃y∈l,x∈aG y
 | []=>by simp[dw]
 |y::r=>by simp[dw,mF (l:=r)]
def hiM(p:Pr)(x:Ex):Int:=match fU p x with | .ok s=>s.2 | .error _=>0
def looks(x:Ex):Bool:=bif x.kind==6 then true else x.kind==7
def z5o(p:Pr)(n:Int)(x:Ex):Int:=if looks x then mm2 true n (hiM p (x.l.getD 0 Ex.none))else n
def z8z(p:Pr)(n:Int)(s:Sm):Int:=(aG s.x).foldl (z5o p) n
def z2v(p:Pr):Int:=p.stmts.foldl (z8z p) 0
def nJ(p:Pr):Int×Int:=if((aK p).2 != 0)=true then(0,(aK p).2)else(z2v p,0)
abbrev Key:=Int×Int
def Md(a b:Key):Bool:=bif a.1==b.1 then a.2==b.2 else false
def lkK{α:Type}(k:Key):List (Key×α)->Option α
 | []=>none
 |(a,v)::r=>if Md k a then some v else lkK k r
def TC{α:Type}(k:Key)(v:α):List (Key×α)->List (Key×α)
 | []=>[(k,v)]
 |(a,w)::r=>if Md k a then(k,v)::r else(a,w)::TC k v r
def lkA{α:Type}(k:Int):List (Int×α)->Option α
 | []=>none
 |(a,v)::r=>if k==a then some v else lkA k r
def mM{α:Type}(k:Int)(v:α):List (Int×α)->List (Int×α)
 | []=>[(k,v)]
 |(a,w)::r=>if k==a then(k,v)::r else(a,w)::mM k v r
abbrev kkD(q:Key×Int):D×D:=(.agg [.i q.1.1,.i q.1.2],.i q.2)
abbrev iiD(q:Int×Int):D×D:=(.i q.1,.i q.2)
abbrev ibD(q:Int×Bool):D×D:=(.i q.1,.b q.2)
def sets(k:Int):Bool:=bif k==2 then true else k==3
def Wv:List Sm->Nat->List (Key×Int)->List (Key×Int)
 | [],_,S=>S
 |s::r,i,S=>Wv r (i+1) (if sets s.kind then TC (s.kind,s.index) (i:Int) S else S)
def aW(p:Pr):List (Key×Int):=Wv p.stmts 0 []
structure AS where
 ages:List (Int×Int)
 opn:List (Int×Bool)
inductive AR where
 |ok (v:Int) (s:AS)
 |pan (s:AS)
 |out
def AR.add(w:Int):AR->AR
 | .ok v s=>.ok (IntKind.i64.wrap (v+w)) s
 |r=>r
def rD(p:Pr)(S:List (Key×Int))(age:AS->Int->AR)(at_:Int)(x:Ex)(s:AS):AR:=
 if x.kind==5 then age s x.index
 else if x.kind==4 then match lkK (2,x.index) S with
  |some b=>if b<at_ then age s b else(age s b).add 1
  |none=>.ok 0 s
 else if x.kind==8 then match lkK (3,x.index) S with
  |some b=>if decide (0<=x.index)&&decide (x.index<p.lines.length)then(age s b).add (bY p x.index).size else .out
  |none=>.ok 0 s
 else .ok 0 s
def rE(own:Ex->AS->AR):List Ex->AS->Int->AR
 | [],s,m=>.ok m s
 |x::r,s,m=>match own x s with
  | .ok v s'=>rE own r s' (mm2 true m v)
  | .pan t=>.pan t
  | .out=>.out
def bF(p:Pr)(i:Int):Ex:=(p.stmts.getD i.toNat Sm.none).x
def iD(s:AS)(i:Int):Bool:=match lkA i s.opn with |some b=>b |none=>false
def pU(p:Pr)(S:List (Key×Int)):Nat->AS->Int->AR
 | 0,_,_=>.out
 |f+1,s,i=>if iD s i then .pan s else match lkA i s.ages with
  |some n=>.ok n s
  |none=>if decide (0<=i)&&decide (i<p.stmts.length)then(match rE (rD p S (pU p S f) i) (aG (bF p i)) ⟨s.ages,mM i true s.opn⟩ 0 with
   | .ok m s'=>.ok m ⟨mM i m s'.ages,mM i false s'.opn⟩
   | .pan t=>.pan t
   | .out=>.out)else .out
def z0q(p:Pr):Int:=match pU p (aW p) (p.stmts.length+1) ⟨[],[]⟩ ((p.stmts.length:Int)-1)with
 | .ok v _=>v
 |_=>-1
def vP(p:Pr):Int×Int:=if((aK p).2 != 0)=true then(0,(aK p).2)else(z0q p,0)
def o7(p:Pr):Int:=if((aK p).2 != 0)=true then(aK p).2
 else if z2v p>p.latency then 170
 else if(p.tail != -1&&(z0q p == -1 || decide (z0q p>p.tail)))=true then 171 else 0
theorem TD(k:Key):∀l:List (Key×Int),nS (.agg [.i k.1,.i k.2]) (l.map kkD)=(lkK k l).map .i
 | []=>rfl
 |(a,v)::r=>by
  have h:dD (.agg [.i k.1,.i k.2]) (.agg [.i a.1,.i a.2])=Md k a:=by
   simp only[dD,sameL,sameS,Md]
   cases (k.1==a.1)<;>simp
  simp only[List.map_cons,kkD,nS,h,lkK]
  cases Md k a
  ·exact TD k r
  ·rfl
theorem TE(k:Key)(v:Int):∀l:List (Key×Int),mput (.agg [.i k.1,.i k.2]) (.i v) (l.map kkD)=(TC k v l).map kkD
 | []=>rfl
 |(a,w)::r=>by
  have h:dD (.agg [.i k.1,.i k.2]) (.agg [.i a.1,.i a.2])=Md k a:=by
   simp only[dD,sameL,sameS,Md]
   cases (k.1==a.1)<;>simp
  simp only[List.map_cons,kkD,mput,h,TC]
  cases Md k a
  ·simp only[Bool.false_eq_true,if_false,List.map_cons];rw[<-TE k v r]
  ·rfl
theorem TF(k:Int):∀l:List (Int×Int),nS (.i k) (l.map iiD)=(lkA k l).map .i
 | []=>rfl
 |(a,v)::r=>by
  have h:dD (.i k) (.i a)=(k==a):=rfl
  simp only[List.map_cons,iiD,nS,h,lkA]
  cases k==a
  ·exact TF k r
  ·rfl
theorem JA(k v:Int):∀l:List (Int×Int),mput (.i k) (.i v) (l.map iiD)=(mM k v l).map iiD
 | []=>rfl
 |(a,w)::r=>by
  have h:dD (.i k) (.i a)=(k==a):=rfl
  simp only[List.map_cons,iiD,mput,h,mM]
  cases k==a
  ·simp only[Bool.false_eq_true,if_false,List.map_cons];rw[<-JA k v r]
  ·rfl
theorem TG(k:Int):∀l:List (Int×Bool),nS (.i k) (l.map ibD)=(lkA k l).map .b
 | []=>rfl
 |(a,v)::r=>by
  have h:dD (.i k) (.i a)=(k==a):=rfl
  simp only[List.map_cons,ibD,nS,h,lkA]
  cases k==a
  ·exact TG k r
  ·rfl
theorem TJ(k:Int)(v:Bool):∀l:List (Int×Bool),mput (.i k) (.b v) (l.map ibD)=(mM k v l).map ibD
 | []=>rfl
 |(a,w)::r=>by
  have h:dD (.i k) (.i a)=(k==a):=rfl
  simp only[List.map_cons,ibD,mput,h,mM]
  cases k==a
  ·simp only[Bool.false_eq_true,if_false,List.map_cons];rw[<-TJ k v r]
  ·rfl
end Go.Fw.Tl
