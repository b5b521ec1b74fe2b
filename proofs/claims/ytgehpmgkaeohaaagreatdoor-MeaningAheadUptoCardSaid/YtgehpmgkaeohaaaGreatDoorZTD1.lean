/- A part of the proof. -/
import Derived.Test.YtgehpmgkaeohaaaGreatDoorZRB
set_option linter.all false
namespace Go.Fw.Tl
open Go.Fw Go.Fw.Ref15 Go.Fw.Rg
variable [ae]
mutual
def ax:Ex->List Ex
 | .mk k n i m l=>.mk k n i m l::dR l
def dR:List Ex->List Ex
 | []=>[]
 |x::r=>ax x++dR r
end
theorem jl(x:Ex):ax x=x::dR x.l:=by cases x;rfl
theorem BN:∀(l:List Ex) (x:Ex),dR (l++[x])=dR l++ax x
 | [],x=>by simp[dR]
 |y::r,x=>by rw[List.cons_append,dR,dR,BN r x,List.append_assoc]
theorem kP{x:Ex}:∀{l:List Ex},x∈dR l↔∃y∈l,x∈ax y
 | []=>by simp[dR]
 |y::r=>by simp[dR,kP (l:=r)]
def hiM(p:Pr)(x:Ex):Int:=match gz p x with | .ok s=>s.2 | .error _=>0
def looks(x:Ex):Bool:=bif x.kind==6 then true else x.kind==7
def WQ(p:Pr)(n:Int)(x:Ex):Int:=if looks x then mm2 true n (hiM p (x.l.getD 0 Ex.none))else n
def zcq(p:Pr)(n:Int)(s:Sm):Int:=(ax s.x).foldl (WQ p) n
def YH(p:Pr):Int:=p.stmts.foldl (zcq p) 0
def oQ(p:Pr):Int×Int:=if((aN p).2 != 0)=true then(0,(aN p).2)else(YH p,0)
abbrev Key:=Int×Int
def P5(a b:Key):Bool:=bif a.1==b.1 then a.2==b.2 else false
def lkK{α:Type}(k:Key):List (Key×α)->Option α
 | []=>none
 |(a,v)::r=>if P5 k a then some v else lkK k r
def YI{α:Type}(k:Key)(v:α):List (Key×α)->List (Key×α)
 | []=>[(k,v)]
 |(a,w)::r=>if P5 k a then(k,v)::r else(a,w)::YI k v r
def lkA{α:Type}(k:Int):List (Int×α)->Option α
 | []=>none
 |(a,v)::r=>if k==a then some v else lkA k r
def uH{α:Type}(k:Int)(v:α):List (Int×α)->List (Int×α)
 | []=>[(k,v)]
 |(a,w)::r=>if k==a then(k,v)::r else(a,w)::uH k v r
abbrev kkD(q:Key×Int):D×D:=(.agg [.i q.1.1,.i q.1.2],.i q.2)
abbrev iiD(q:Int×Int):D×D:=(.i q.1,.i q.2)
abbrev ibD(q:Int×Bool):D×D:=(.i q.1,.b q.2)
def sets(k:Int):Bool:=bif k==2 then true else k==3
def z4d:List Sm->Nat->List (Key×Int)->List (Key×Int)
 | [],_,S=>S
 |s::r,i,S=>z4d r (i+1) (if sets s.kind then YI (s.kind,s.index) (i:Int) S else S)
def aW(p:Pr):List (Key×Int):=z4d p.stmts 0 []
structure AS where
 ages:List (Int×Int)
 opn:List (Int×Bool)
inductive AR where
 |ok (v:Int) (s:AS)
 |pan (s:AS)
 |out
def AR.add(w:Int):AR->AR
 | .ok v s=>.ok (IntKind.i64.wrap (v+w)) s
 |r=>r
def um(p:Pr)(S:List (Key×Int))(age:AS->Int->AR)(at_:Int)(x:Ex)(s:AS):AR:=
 if x.kind==5 then age s x.index
 else if x.kind==4 then match lkK (2,x.index) S with
  |some b=>if b<at_ then age s b else(age s b).add 1
  |none=>.ok 0 s
 else if x.kind==8 then match lkK (3,x.index) S with
  |some b=>if decide (0<=x.index)&&decide (x.index<p.lines.length)then(age s b).add (bW p x.index).size else .out
  |none=>.ok 0 s
 else .ok 0 s
def uq(own:Ex->AS->AR):List Ex->AS->Int->AR
 | [],s,m=>.ok m s
 |x::r,s,m=>match own x s with
  | .ok v s'=>uq own r s' (mm2 true m v)
  | .pan t=>.pan t
  | .out=>.out
def bF(p:Pr)(i:Int):Ex:=(p.stmts.getD i.toNat Sm.none).x
def jm(s:AS)(i:Int):Bool:=match lkA i s.opn with |some b=>b |none=>false
def rf(p:Pr)(S:List (Key×Int)):Nat->AS->Int->AR
 | 0,_,_=>.out
 |f+1,s,i=>if jm s i then .pan s else match lkA i s.ages with
  |some n=>.ok n s
  |none=>if decide (0<=i)&&decide (i<p.stmts.length)then(match uq (um p S (rf p S f) i) (ax (bF p i)) ⟨s.ages,uH i true s.opn⟩ 0 with
   | .ok m s'=>.ok m ⟨uH i m s'.ages,uH i false s'.opn⟩
   | .pan t=>.pan t
   | .out=>.out)else .out
def z9b(p:Pr):Int:=match rf p (aW p) (p.stmts.length+1) ⟨[],[]⟩ ((p.stmts.length:Int)-1)with
 | .ok v _=>v
 |_=>-1
def xO(p:Pr):Int×Int:=if((aN p).2 != 0)=true then(0,(aN p).2)else(z9b p,0)
def jy(p:Pr):Int:=if((aN p).2 != 0)=true then(aN p).2
 else if YH p>p.latency then 170
 else if(p.tail != -1&&(z9b p == -1 || decide (z9b p>p.tail)))=true then 171 else 0
theorem WR(k:Key):∀l:List (Key×Int),nV (.agg [.i k.1,.i k.2]) (l.map kkD)=(lkK k l).map .i
 | []=>rfl
 |(a,v)::r=>by
  have h:dC (.agg [.i k.1,.i k.2]) (.agg [.i a.1,.i a.2])=P5 k a:=by
   grind[dC,sameL,sameS,P5]
  simp[nV,h,lkK]
  cases P5 k a
  ·exact WR k r
  ·rfl
theorem WS(k:Key)(v:Int):∀l:List (Key×Int),mput (.agg [.i k.1,.i k.2]) (.i v) (l.map kkD)=(YI k v l).map kkD
 | []=>rfl
 |(a,w)::r=>by
  have h:dC (.agg [.i k.1,.i k.2]) (.agg [.i a.1,.i a.2])=P5 k a:=by
   grind[dC,sameL,sameS,P5]
  simp[mput,h,YI]
  cases P5 k a
  ·simp;rw[<-WS k v r]
  ·rfl
theorem WT(k:Int):∀l:List (Int×Int),nV (.i k) (l.map iiD)=(lkA k l).map .i
 | []=>rfl
 |(a,v)::r=>by
  have h:dC (.i k) (.i a)=(k==a):=rfl
  simp only[List.map_cons,nV,h,lkA]
  cases k==a
  ·exact WT k r
  ·rfl
theorem WU(k v:Int):∀l:List (Int×Int),mput (.i k) (.i v) (l.map iiD)=(uH k v l).map iiD
 | []=>rfl
 |(a,w)::r=>by
  have h:dC (.i k) (.i a)=(k==a):=rfl
  simp only[List.map_cons,mput,h,uH]
  cases k==a
  ·simp;rw[<-WU k v r]
  ·rfl
theorem WV(k:Int):∀l:List (Int×Bool),nV (.i k) (l.map ibD)=(lkA k l).map .b
 | []=>rfl
 |(a,v)::r=>by
  have h:dC (.i k) (.i a)=(k==a):=rfl
  simp only[List.map_cons,nV,h,lkA]
  cases k==a
  ·exact WV k r
  ·rfl
theorem WW(k:Int)(v:Bool):∀l:List (Int×Bool),mput (.i k) (.b v) (l.map ibD)=(uH k v l).map ibD
 | []=>rfl
 |(a,w)::r=>by
  have h:dC (.i k) (.i a)=(k==a):=rfl
  simp only[List.map_cons,mput,h,uH]
  cases k==a
  ·simp;rw[<-WW k v r]
  ·rfl
end Go.Fw.Tl
