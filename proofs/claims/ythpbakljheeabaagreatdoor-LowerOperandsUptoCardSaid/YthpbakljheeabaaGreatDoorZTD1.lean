/- The functions of package tails, as plain functions. -/
import Derived.Test.YthpbakljheeabaaGreatDoorZRB
set_option linter.unusedSectionVars false
set_option linter.unusedSimpArgs false
set_option linter.unusedVariables false
namespace Go.Fw.Tl
open Go.Fw Go.Fw.Ref15 Go.Fw.Rg
variable [af]
mutual
def aF:Ex->List Ex
 | .mk k n i m l=>.mk k n i m l::dm l
def dm:List Ex->List Ex
 | []=>[]
 |x::r=>aF x++dm r
end
theorem jw(x:Ex):aF x=x::dm x.l:=by cases x;rw[aF];rfl
theorem zy:∀(l:List Ex) (x:Ex),dm (l++[x])=dm l++aF x
 | [],x=>by simp[dm]
 |y::r,x=>by rw[List.cons_append,dm,dm,zy r x,List.append_assoc]
theorem l9{x:Ex}:∀{l:List Ex},x∈dm l↔∃y∈l,x∈aF y
 | []=>by simp[dm]
 |y::r=>by simp[dm,l9 (l:=r)]
def hiM(p:Pr)(x:Ex):Int:=match fP p x with | .ok s=>s.2 | .error _=>0
def looks(x:Ex):Bool:=bif x.kind==6 then true else x.kind==7
def z4t(p:Pr)(n:Int)(x:Ex):Int:=if looks x then mm2 true n (hiM p (x.l.getD 0 Ex.none))else n
def z8k(p:Pr)(n:Int)(s:Sm):Int:=(aF s.x).foldl (z4t p) n
def z15(p:Pr):Int:=p.stmts.foldl (z8k p) 0
def ni(p:Pr):Int×Int:=if((aJ p).2 != 0)=true then(0,(aJ p).2)else(z15 p,0)
abbrev Key:=Int×Int
def LV(a b:Key):Bool:=bif a.1==b.1 then a.2==b.2 else false
def lkK{α:Type}(k:Key):List (Key×α)->Option α
 | []=>none
 |(a,v)::r=>if LV k a then some v else lkK k r
def SY{α:Type}(k:Key)(v:α):List (Key×α)->List (Key×α)
 | []=>[(k,v)]
 |(a,w)::r=>if LV k a then(k,v)::r else(a,w)::SY k v r
def lkA{α:Type}(k:Int):List (Int×α)->Option α
 | []=>none
 |(a,v)::r=>if k==a then some v else lkA k r
def mf{α:Type}(k:Int)(v:α):List (Int×α)->List (Int×α)
 | []=>[(k,v)]
 |(a,w)::r=>if k==a then(k,v)::r else(a,w)::mf k v r
abbrev kkD(q:Key×Int):D×D:=(.agg [.i q.1.1,.i q.1.2],.i q.2)
abbrev iiD(q:Int×Int):D×D:=(.i q.1,.i q.2)
abbrev ibD(q:Int×Bool):D×D:=(.i q.1,.b q.2)
def sets(k:Int):Bool:=bif k==2 then true else k==3
def V4:List Sm->Nat->List (Key×Int)->List (Key×Int)
 | [],_,S=>S
 |s::r,i,S=>V4 r (i+1) (if sets s.kind then SY (s.kind,s.index) (i:Int) S else S)
def aV(p:Pr):List (Key×Int):=V4 p.stmts 0 []
structure AS where
 ages:List (Int×Int)
 opn:List (Int×Bool)
inductive AR where
 |ok (v:Int) (s:AS)
 |pan (s:AS)
 |out
def AR.add(w:Int):AR->AR
 | .ok v s=>.ok (IntKind.i64.wrap (v+w)) s
 |r=>r
def qX(p:Pr)(S:List (Key×Int))(age:AS->Int->AR)(at_:Int)(x:Ex)(s:AS):AR:=
 if x.kind==5 then age s x.index
 else if x.kind==4 then match lkK (2,x.index) S with
  |some b=>if b<at_ then age s b else(age s b).add 1
  |none=>.ok 0 s
 else if x.kind==8 then match lkK (3,x.index) S with
  |some b=>if decide (0<=x.index)&&decide (x.index<p.lines.length)then(age s b).add (bW p x.index).size else .out
  |none=>.ok 0 s
 else .ok 0 s
def qY(own:Ex->AS->AR):List Ex->AS->Int->AR
 | [],s,m=>.ok m s
 |x::r,s,m=>match own x s with
  | .ok v s'=>qY own r s' (mm2 true m v)
  | .pan t=>.pan t
  | .out=>.out
def bF(p:Pr)(i:Int):Ex:=(p.stmts.getD i.toNat Sm.none).x
def ik(s:AS)(i:Int):Bool:=match lkA i s.opn with |some b=>b |none=>false
def pG(p:Pr)(S:List (Key×Int)):Nat->AS->Int->AR
 | 0,_,_=>.out
 |f+1,s,i=>if ik s i then .pan s else match lkA i s.ages with
  |some n=>.ok n s
  |none=>if decide (0<=i)&&decide (i<p.stmts.length)then(match qY (qX p S (pG p S f) i) (aF (bF p i)) ⟨s.ages,mf i true s.opn⟩ 0 with
   | .ok m s'=>.ok m ⟨mf i m s'.ages,mf i false s'.opn⟩
   | .pan t=>.pan t
   | .out=>.out)else .out
def Z8(p:Pr):Int:=match pG p (aV p) (p.stmts.length+1) ⟨[],[]⟩ ((p.stmts.length:Int)-1)with
 | .ok v _=>v
 |_=>-1
def vF(p:Pr):Int×Int:=if((aJ p).2 != 0)=true then(0,(aJ p).2)else(Z8 p,0)
def oN(p:Pr):Int:=if((aJ p).2 != 0)=true then(aJ p).2
 else if z15 p>p.latency then 170
 else if(p.tail != -1&&(Z8 p == -1 || decide (Z8 p>p.tail)))=true then 171 else 0
theorem S9(k:Key):∀l:List (Key×Int),nI (.agg [.i k.1,.i k.2]) (l.map kkD)=(lkK k l).map .i
 | []=>rfl
 |(a,v)::r=>by
  have h:dD (.agg [.i k.1,.i k.2]) (.agg [.i a.1,.i a.2])=LV k a:=by
   simp only[dD,sameL,sameS,LV]
   cases (k.1==a.1)<;>simp
  simp only[List.map_cons,kkD,nI,h,lkK]
  cases LV k a
  ·exact S9 k r
  ·rfl
theorem Tc(k:Key)(v:Int):∀l:List (Key×Int),mput (.agg [.i k.1,.i k.2]) (.i v) (l.map kkD)=(SY k v l).map kkD
 | []=>rfl
 |(a,w)::r=>by
  have h:dD (.agg [.i k.1,.i k.2]) (.agg [.i a.1,.i a.2])=LV k a:=by
   simp only[dD,sameL,sameS,LV]
   cases (k.1==a.1)<;>simp
  simp only[List.map_cons,kkD,mput,h,SY]
  cases LV k a
  ·simp only[Bool.false_eq_true,if_false,List.map_cons];rw[<-Tc k v r]
  ·rfl
theorem Td(k:Int):∀l:List (Int×Int),nI (.i k) (l.map iiD)=(lkA k l).map .i
 | []=>rfl
 |(a,v)::r=>by
  have h:dD (.i k) (.i a)=(k==a):=rfl
  simp only[List.map_cons,iiD,nI,h,lkA]
  cases k==a
  ·exact Td k r
  ·rfl
theorem Js(k v:Int):∀l:List (Int×Int),mput (.i k) (.i v) (l.map iiD)=(mf k v l).map iiD
 | []=>rfl
 |(a,w)::r=>by
  have h:dD (.i k) (.i a)=(k==a):=rfl
  simp only[List.map_cons,iiD,mput,h,mf]
  cases k==a
  ·simp only[Bool.false_eq_true,if_false,List.map_cons];rw[<-Js k v r]
  ·rfl
theorem Tf(k:Int):∀l:List (Int×Bool),nI (.i k) (l.map ibD)=(lkA k l).map .b
 | []=>rfl
 |(a,v)::r=>by
  have h:dD (.i k) (.i a)=(k==a):=rfl
  simp only[List.map_cons,ibD,nI,h,lkA]
  cases k==a
  ·exact Tf k r
  ·rfl
theorem Ti(k:Int)(v:Bool):∀l:List (Int×Bool),mput (.i k) (.b v) (l.map ibD)=(mf k v l).map ibD
 | []=>rfl
 |(a,w)::r=>by
  have h:dD (.i k) (.i a)=(k==a):=rfl
  simp only[List.map_cons,ibD,mput,h,mf]
  cases k==a
  ·simp only[Bool.false_eq_true,if_false,List.map_cons];rw[<-Ti k v r]
  ·rfl
end Go.Fw.Tl
