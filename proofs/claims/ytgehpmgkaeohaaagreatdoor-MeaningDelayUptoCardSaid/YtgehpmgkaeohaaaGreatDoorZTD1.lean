/- A part of the proof. -/
import Derived.Test.YtgehpmgkaeohaaaGreatDoorZRB
set_option linter.all false
namespace Go.Fw.Tl
open Go.Fw Go.Fw.Ref15 Go.Fw.Rg
variable [ae]
mutual
def au:Ex->List Ex
 | .mk k n i m l=>.mk k n i m l::dQ l
def dQ:List Ex->List Ex
 | []=>[]
 |x::r=>au x++dQ r
end
theorem jl(x:Ex):au x=x::dQ x.l:=by cases x;rfl
theorem Bq:∀(l:List Ex) (x:Ex),dQ (l++[x])=dQ l++au x
 | [],x=>by simp[dQ]
 |y::r,x=>by rw[List.cons_append,dQ,dQ,Bq r x,List.append_assoc]
theorem kN{x:Ex}:∀{l:List Ex},x∈dQ l↔∃y∈l,x∈au y
 | []=>by simp[dQ]
 |y::r=>by simp[dQ,kN (l:=r)]
def hiM(p:Pr)(x:Ex):Int:=match gy p x with | .ok s=>s.2 | .error _=>0
def looks(x:Ex):Bool:=bif x.kind==6 then true else x.kind==7
def V9(p:Pr)(n:Int)(x:Ex):Int:=if looks x then mm2 true n (hiM p (x.l.getD 0 Ex.none))else n
def za0(p:Pr)(n:Int)(s:Sm):Int:=(au s.x).foldl (V9 p) n
def XX(p:Pr):Int:=p.stmts.foldl (za0 p) 0
def oN(p:Pr):Int×Int:=if((aN p).2 != 0)=true then(0,(aN p).2)else(XX p,0)
abbrev Key:=Int×Int
def Pi(a b:Key):Bool:=bif a.1==b.1 then a.2==b.2 else false
def lkK{α:Type}(k:Key):List (Key×α)->Option α
 | []=>none
 |(a,v)::r=>if Pi k a then some v else lkK k r
def XY{α:Type}(k:Key)(v:α):List (Key×α)->List (Key×α)
 | []=>[(k,v)]
 |(a,w)::r=>if Pi k a then(k,v)::r else(a,w)::XY k v r
def lkA{α:Type}(k:Int):List (Int×α)->Option α
 | []=>none
 |(a,v)::r=>if k==a then some v else lkA k r
def ut{α:Type}(k:Int)(v:α):List (Int×α)->List (Int×α)
 | []=>[(k,v)]
 |(a,w)::r=>if k==a then(k,v)::r else(a,w)::ut k v r
abbrev kkD(q:Key×Int):D×D:=(.agg [.i q.1.1,.i q.1.2],.i q.2)
abbrev iiD(q:Int×Int):D×D:=(.i q.1,.i q.2)
abbrev ibD(q:Int×Bool):D×D:=(.i q.1,.b q.2)
def sets(k:Int):Bool:=bif k==2 then true else k==3
def z2c:List Sm->Nat->List (Key×Int)->List (Key×Int)
 | [],_,S=>S
 |s::r,i,S=>z2c r (i+1) (if sets s.kind then XY (s.kind,s.index) (i:Int) S else S)
def aW(p:Pr):List (Key×Int):=z2c p.stmts 0 []
structure AS where
 ages:List (Int×Int)
 opn:List (Int×Bool)
inductive AR where
 |ok (v:Int) (s:AS)
 |pan (s:AS)
 |out
def AR.add(w:Int):AR->AR
 | .ok v s=>.ok (IntKind.i64.wrap (v+w)) s
 |r=>r
def tZ(p:Pr)(S:List (Key×Int))(age:AS->Int->AR)(at_:Int)(x:Ex)(s:AS):AR:=
 if x.kind==5 then age s x.index
 else if x.kind==4 then match lkK (2,x.index) S with
  |some b=>if b<at_ then age s b else(age s b).add 1
  |none=>.ok 0 s
 else if x.kind==8 then match lkK (3,x.index) S with
  |some b=>if decide (0<=x.index)&&decide (x.index<p.lines.length)then(age s b).add (bW p x.index).size else .out
  |none=>.ok 0 s
 else .ok 0 s
def uf(own:Ex->AS->AR):List Ex->AS->Int->AR
 | [],s,m=>.ok m s
 |x::r,s,m=>match own x s with
  | .ok v s'=>uf own r s' (mm2 true m v)
  | .pan t=>.pan t
  | .out=>.out
def bF(p:Pr)(i:Int):Ex:=(p.stmts.getD i.toNat Sm.none).x
def jm(s:AS)(i:Int):Bool:=match lkA i s.opn with |some b=>b |none=>false
def qY(p:Pr)(S:List (Key×Int)):Nat->AS->Int->AR
 | 0,_,_=>.out
 |f+1,s,i=>if jm s i then .pan s else match lkA i s.ages with
  |some n=>.ok n s
  |none=>if decide (0<=i)&&decide (i<p.stmts.length)then(match uf (tZ p S (qY p S f) i) (au (bF p i)) ⟨s.ages,ut i true s.opn⟩ 0 with
   | .ok m s'=>.ok m ⟨ut i m s'.ages,ut i false s'.opn⟩
   | .pan t=>.pan t
   | .out=>.out)else .out
def z6z(p:Pr):Int:=match qY p (aW p) (p.stmts.length+1) ⟨[],[]⟩ ((p.stmts.length:Int)-1)with
 | .ok v _=>v
 |_=>-1
def xw(p:Pr):Int×Int:=if((aN p).2 != 0)=true then(0,(aN p).2)else(z6z p,0)
def jo(p:Pr):Int:=if((aN p).2 != 0)=true then(aN p).2
 else if XX p>p.latency then 170
 else if(p.tail != -1&&(z6z p == -1 || decide (z6z p>p.tail)))=true then 171 else 0
theorem We(k:Key):∀l:List (Key×Int),nS (.agg [.i k.1,.i k.2]) (l.map kkD)=(lkK k l).map .i
 | []=>rfl
 |(a,v)::r=>by
  have h:dA (.agg [.i k.1,.i k.2]) (.agg [.i a.1,.i a.2])=Pi k a:=by
   grind[dA,sameL,sameS,Pi]
  simp[nS,h,lkK]
  cases Pi k a
  ·exact We k r
  ·rfl
theorem Wh(k:Key)(v:Int):∀l:List (Key×Int),mput (.agg [.i k.1,.i k.2]) (.i v) (l.map kkD)=(XY k v l).map kkD
 | []=>rfl
 |(a,w)::r=>by
  have h:dA (.agg [.i k.1,.i k.2]) (.agg [.i a.1,.i a.2])=Pi k a:=by
   grind[dA,sameL,sameS,Pi]
  simp[mput,h,XY]
  cases Pi k a
  ·simp;rw[<-Wh k v r]
  ·rfl
theorem Wi(k:Int):∀l:List (Int×Int),nS (.i k) (l.map iiD)=(lkA k l).map .i
 | []=>rfl
 |(a,v)::r=>by
  have h:dA (.i k) (.i a)=(k==a):=rfl
  simp only[List.map_cons,nS,h,lkA]
  cases k==a
  ·exact Wi k r
  ·rfl
theorem Wj(k v:Int):∀l:List (Int×Int),mput (.i k) (.i v) (l.map iiD)=(ut k v l).map iiD
 | []=>rfl
 |(a,w)::r=>by
  have h:dA (.i k) (.i a)=(k==a):=rfl
  simp only[List.map_cons,mput,h,ut]
  cases k==a
  ·simp;rw[<-Wj k v r]
  ·rfl
theorem Wl(k:Int):∀l:List (Int×Bool),nS (.i k) (l.map ibD)=(lkA k l).map .b
 | []=>rfl
 |(a,v)::r=>by
  have h:dA (.i k) (.i a)=(k==a):=rfl
  simp only[List.map_cons,nS,h,lkA]
  cases k==a
  ·exact Wl k r
  ·rfl
theorem Wn(k:Int)(v:Bool):∀l:List (Int×Bool),mput (.i k) (.b v) (l.map ibD)=(ut k v l).map ibD
 | []=>rfl
 |(a,w)::r=>by
  have h:dA (.i k) (.i a)=(k==a):=rfl
  simp only[List.map_cons,mput,h,ut]
  cases k==a
  ·simp;rw[<-Wn k v r]
  ·rfl
end Go.Fw.Tl
