/- The functions of package tails, as plain functions. -/
import Derived.Test.YthpbakljheeabaaGreatDoorZRB
set_option linter.unusedSectionVars false
set_option linter.unusedSimpArgs false
set_option linter.unusedVariables false
namespace Go.Fw.Tl
open Go.Fw Go.Fw.Ref15 Go.Fw.Rg
variable [ah]
mutual
def aC:Ex->List Ex
 | .mk k n i m l=>.mk k n i m l::dC l
def dC:List Ex->List Ex
 | []=>[]
 |x::r=>aC x++dC r
end
theorem jM(x:Ex):aC x=x::dC x.l:=by cases x;rw[aC];rfl
theorem zY:∀(l:List Ex) (x:Ex),dC (l++[x])=dC l++aC x
 | [],x=>by simp[dC]
 |y::r,x=>by rw[List.cons_append,dC,dC,zY r x,List.append_assoc]
theorem mV{x:Ex}:∀{l:List Ex},x∈dC l↔∃y∈l,x∈aC y
 | []=>by simp[dC]
 |y::r=>by simp[dC,mV (l:=r)]
def hiM(p:Pr)(x:Ex):Int:=match gu p x with | .ok s=>s.2 | .error _=>0
def looks(x:Ex):Bool:=bif x.kind==6 then true else x.kind==7
def z5v(p:Pr)(n:Int)(x:Ex):Int:=if looks x then mm2 true n (hiM p (x.l.getD 0 Ex.none))else n
def z8x(p:Pr)(n:Int)(s:Sm):Int:=(aC s.x).foldl (z5v p) n
def z3b(p:Pr):Int:=p.stmts.foldl (z8x p) 0
def nR(p:Pr):Int×Int:=if((aH p).2 != 0)=true then(0,(aH p).2)else(z3b p,0)
abbrev Key:=Int×Int
def Nc(a b:Key):Bool:=bif a.1==b.1 then a.2==b.2 else false
def lkK{α:Type}(k:Key):List (Key×α)->Option α
 | []=>none
 |(a,v)::r=>if Nc k a then some v else lkK k r
def Uc{α:Type}(k:Key)(v:α):List (Key×α)->List (Key×α)
 | []=>[(k,v)]
 |(a,w)::r=>if Nc k a then(k,v)::r else(a,w)::Uc k v r
def lkA{α:Type}(k:Int):List (Int×α)->Option α
 | []=>none
 |(a,v)::r=>if k==a then some v else lkA k r
def lL{α:Type}(k:Int)(v:α):List (Int×α)->List (Int×α)
 | []=>[(k,v)]
 |(a,w)::r=>if k==a then(k,v)::r else(a,w)::lL k v r
abbrev kkD(q:Key×Int):D×D:=(.agg [.i q.1.1,.i q.1.2],.i q.2)
abbrev iiD(q:Int×Int):D×D:=(.i q.1,.i q.2)
abbrev ibD(q:Int×Bool):D×D:=(.i q.1,.b q.2)
def sets(k:Int):Bool:=bif k==2 then true else k==3
def WV:List Sm->Nat->List (Key×Int)->List (Key×Int)
 | [],_,S=>S
 |s::r,i,S=>WV r (i+1) (if sets s.kind then Uc (s.kind,s.index) (i:Int) S else S)
def aX(p:Pr):List (Key×Int):=WV p.stmts 0 []
structure AS where
 ages:List (Int×Int)
 opn:List (Int×Bool)
inductive AR where
 |ok (v:Int) (s:AS)
 |pan (s:AS)
 |out
def AR.add(w:Int):AR->AR
 | .ok v s=>.ok (IntKind.i64.wrap (v+w)) s
 |r=>r
def rW(p:Pr)(S:List (Key×Int))(age:AS->Int->AR)(at_:Int)(x:Ex)(s:AS):AR:=
 if x.kind==5 then age s x.index
 else if x.kind==4 then match lkK (2,x.index) S with
  |some b=>if b<at_ then age s b else(age s b).add 1
  |none=>.ok 0 s
 else if x.kind==8 then match lkK (3,x.index) S with
  |some b=>if decide (0<=x.index)&&decide (x.index<p.lines.length)then(age s b).add (cu p x.index).size else .out
  |none=>.ok 0 s
 else .ok 0 s
def rX(own:Ex->AS->AR):List Ex->AS->Int->AR
 | [],s,m=>.ok m s
 |x::r,s,m=>match own x s with
  | .ok v s'=>rX own r s' (mm2 true m v)
  | .pan t=>.pan t
  | .out=>.out
def bH(p:Pr)(i:Int):Ex:=(p.stmts.getD i.toNat Sm.none).x
def iI(s:AS)(i:Int):Bool:=match lkA i s.opn with |some b=>b |none=>false
def qf(p:Pr)(S:List (Key×Int)):Nat->AS->Int->AR
 | 0,_,_=>.out
 |f+1,s,i=>if iI s i then .pan s else match lkA i s.ages with
  |some n=>.ok n s
  |none=>if decide (0<=i)&&decide (i<p.stmts.length)then(match rX (rW p S (qf p S f) i) (aC (bH p i)) ⟨s.ages,lL i true s.opn⟩ 0 with
   | .ok m s'=>.ok m ⟨lL i m s'.ages,lL i false s'.opn⟩
   | .pan t=>.pan t
   | .out=>.out)else .out
def z09(p:Pr):Int:=match qf p (aX p) (p.stmts.length+1) ⟨[],[]⟩ ((p.stmts.length:Int)-1)with
 | .ok v _=>v
 |_=>-1
def wz(p:Pr):Int×Int:=if((aH p).2 != 0)=true then(0,(aH p).2)else(z09 p,0)
def kZ(p:Pr):Int:=if((aH p).2 != 0)=true then(aH p).2
 else if z3b p>p.latency then 170
 else if(p.tail != -1&&(z09 p == -1 || decide (z09 p>p.tail)))=true then 171 else 0
theorem Ud(k:Key):∀l:List (Key×Int),oh (.agg [.i k.1,.i k.2]) (l.map kkD)=(lkK k l).map .i
 | []=>rfl
 |(a,v)::r=>by
  have h:dH (.agg [.i k.1,.i k.2]) (.agg [.i a.1,.i a.2])=Nc k a:=by
   simp only[dH,sameL,sameS,Nc]
   cases (k.1==a.1)<;>simp
  simp only[List.map_cons,kkD,oh,h,lkK]
  cases Nc k a
  ·exact Ud k r
  ·rfl
theorem Ue(k:Key)(v:Int):∀l:List (Key×Int),mput (.agg [.i k.1,.i k.2]) (.i v) (l.map kkD)=(Uc k v l).map kkD
 | []=>rfl
 |(a,w)::r=>by
  have h:dH (.agg [.i k.1,.i k.2]) (.agg [.i a.1,.i a.2])=Nc k a:=by
   simp only[dH,sameL,sameS,Nc]
   cases (k.1==a.1)<;>simp
  simp only[List.map_cons,kkD,mput,h,Uc]
  cases Nc k a
  ·simp only[Bool.false_eq_true,if_false,List.map_cons];rw[<-Ue k v r]
  ·rfl
theorem Uf(k:Int):∀l:List (Int×Int),oh (.i k) (l.map iiD)=(lkA k l).map .i
 | []=>rfl
 |(a,v)::r=>by
  have h:dH (.i k) (.i a)=(k==a):=rfl
  simp only[List.map_cons,iiD,oh,h,lkA]
  cases k==a
  ·exact Uf k r
  ·rfl
theorem JW(k v:Int):∀l:List (Int×Int),mput (.i k) (.i v) (l.map iiD)=(lL k v l).map iiD
 | []=>rfl
 |(a,w)::r=>by
  have h:dH (.i k) (.i a)=(k==a):=rfl
  simp only[List.map_cons,iiD,mput,h,lL]
  cases k==a
  ·simp only[Bool.false_eq_true,if_false,List.map_cons];rw[<-JW k v r]
  ·rfl
theorem Ug(k:Int):∀l:List (Int×Bool),oh (.i k) (l.map ibD)=(lkA k l).map .b
 | []=>rfl
 |(a,v)::r=>by
  have h:dH (.i k) (.i a)=(k==a):=rfl
  simp only[List.map_cons,ibD,oh,h,lkA]
  cases k==a
  ·exact Ug k r
  ·rfl
theorem Uh(k:Int)(v:Bool):∀l:List (Int×Bool),mput (.i k) (.b v) (l.map ibD)=(lL k v l).map ibD
 | []=>rfl
 |(a,w)::r=>by
  have h:dH (.i k) (.i a)=(k==a):=rfl
  simp only[List.map_cons,ibD,mput,h,lL]
  cases k==a
  ·simp only[Bool.false_eq_true,if_false,List.map_cons];rw[<-Uh k v r]
  ·rfl
end Go.Fw.Tl
