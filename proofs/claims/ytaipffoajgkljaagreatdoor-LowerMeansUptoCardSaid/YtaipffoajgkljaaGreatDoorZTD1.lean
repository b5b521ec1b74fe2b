/- A part of the proof. -/
import Derived.Test.YtaipffoajgkljaaGreatDoorZRB
set_option linter.all false
namespace Go.Fw.Tl
open Go.Fw Go.Fw.Ref15 Go.Fw.Rg
variable [af]
mutual
def aA:Ex->List Ex
 | .mk k n i m l=>.mk k n i m l::dP l
def dP:List Ex->List Ex
 | []=>[]
 |x::r=>aA x++dP r
end
theorem iM(x:Ex):aA x=x::dP x.l:=by cases x;rfl
theorem Bi:∀(l:List Ex) (x:Ex),dP (l++[x])=dP l++aA x
 | [],x=>by simp[dP]
 |y::r,x=>by rw[List.cons_append,dP,dP,Bi r x,List.append_assoc]
theorem kY{x:Ex}:∀{l:List Ex},x∈dP l↔∃y∈l,x∈aA y
 | []=>by simp[dP]
 |y::r=>by simp[dP,kY (l:=r)]
def hiM(p:Pr)(x:Ex):Int:=match gK p x with | .ok s=>s.2 | .error _=>0
def looks(x:Ex):Bool:=bif x.kind==6 then true else x.kind==7
def VO(p:Pr)(n:Int)(x:Ex):Int:=if looks x then mm2 true n (hiM p (x.l.getD 0 Ex.none))else n
def zan(p:Pr)(n:Int)(s:Sm):Int:=(aA s.x).foldl (VO p) n
def XU(p:Pr):Int:=p.stmts.foldl (zan p) 0
def oV(p:Pr):Int×Int:=if((aJ p).2 != 0)=true then(0,(aJ p).2)else(XU p,0)
abbrev Key:=Int×Int
def Pm(a b:Key):Bool:=bif a.1==b.1 then a.2==b.2 else false
def lkK{α:Type}(k:Key):List (Key×α)->Option α
 | []=>none
 |(a,v)::r=>if Pm k a then some v else lkK k r
def XV{α:Type}(k:Key)(v:α):List (Key×α)->List (Key×α)
 | []=>[(k,v)]
 |(a,w)::r=>if Pm k a then(k,v)::r else(a,w)::XV k v r
def lkA{α:Type}(k:Int):List (Int×α)->Option α
 | []=>none
 |(a,v)::r=>if k==a then some v else lkA k r
def lW{α:Type}(k:Int)(v:α):List (Int×α)->List (Int×α)
 | []=>[(k,v)]
 |(a,w)::r=>if k==a then(k,v)::r else(a,w)::lW k v r
abbrev kkD(q:Key×Int):D×D:=(.agg [.i q.1.1,.i q.1.2],.i q.2)
abbrev iiD(q:Int×Int):D×D:=(.i q.1,.i q.2)
abbrev ibD(q:Int×Bool):D×D:=(.i q.1,.b q.2)
def sets(k:Int):Bool:=bif k==2 then true else k==3
def z2c:List Sm->Nat->List (Key×Int)->List (Key×Int)
 | [],_,S=>S
 |s::r,i,S=>z2c r (i+1) (if sets s.kind then XV (s.kind,s.index) (i:Int) S else S)
def bf(p:Pr):List (Key×Int):=z2c p.stmts 0 []
structure AS where
 ages:List (Int×Int)
 opn:List (Int×Bool)
inductive AR where
 |ok (v:Int) (s:AS)
 |pan (s:AS)
 |out
def AR.add(w:Int):AR->AR
 | .ok v s=>.ok (IntKind.i64.wrap (v+w)) s
 |r=>r
def tX(p:Pr)(S:List (Key×Int))(age:AS->Int->AR)(at_:Int)(x:Ex)(s:AS):AR:=
 if x.kind==5 then age s x.index
 else if x.kind==4 then match lkK (2,x.index) S with
  |some b=>if b<at_ then age s b else(age s b).add 1
  |none=>.ok 0 s
 else if x.kind==8 then match lkK (3,x.index) S with
  |some b=>if decide (0<=x.index)&&decide (x.index<p.lines.length)then(age s b).add (bZ p x.index).size else .out
  |none=>.ok 0 s
 else .ok 0 s
def tY(own:Ex->AS->AR):List Ex->AS->Int->AR
 | [],s,m=>.ok m s
 |x::r,s,m=>match own x s with
  | .ok v s'=>tY own r s' (mm2 true m v)
  | .pan t=>.pan t
  | .out=>.out
def bH(p:Pr)(i:Int):Ex:=(p.stmts.getD i.toNat Sm.none).x
def jE(s:AS)(i:Int):Bool:=match lkA i s.opn with |some b=>b |none=>false
def qW(p:Pr)(S:List (Key×Int)):Nat->AS->Int->AR
 | 0,_,_=>.out
 |f+1,s,i=>if jE s i then .pan s else match lkA i s.ages with
  |some n=>.ok n s
  |none=>if decide (0<=i)&&decide (i<p.stmts.length)then(match tY (tX p S (qW p S f) i) (aA (bH p i)) ⟨s.ages,lW i true s.opn⟩ 0 with
   | .ok m s'=>.ok m ⟨lW i m s'.ages,lW i false s'.opn⟩
   | .pan t=>.pan t
   | .out=>.out)else .out
def z6t(p:Pr):Int:=match qW p (bf p) (p.stmts.length+1) ⟨[],[]⟩ ((p.stmts.length:Int)-1)with
 | .ok v _=>v
 |_=>-1
def xq(p:Pr):Int×Int:=if((aJ p).2 != 0)=true then(0,(aJ p).2)else(z6t p,0)
def jF(p:Pr):Int:=if((aJ p).2 != 0)=true then(aJ p).2
 else if XU p>p.latency then 170
 else if(p.tail != -1&&(z6t p == -1 || decide (z6t p>p.tail)))=true then 171 else 0
theorem VP(k:Key):∀l:List (Key×Int),pG (.agg [.i k.1,.i k.2]) (l.map kkD)=(lkK k l).map .i
 | []=>rfl
 |(a,v)::r=>by
  have h:dJ (.agg [.i k.1,.i k.2]) (.agg [.i a.1,.i a.2])=Pm k a:=by
   grind[dJ,sameL,sameS,Pm]
  simp[pG,h,lkK]
  cases Pm k a
  ·exact VP k r
  ·rfl
theorem VQ(k:Key)(v:Int):∀l:List (Key×Int),mput (.agg [.i k.1,.i k.2]) (.i v) (l.map kkD)=(XV k v l).map kkD
 | []=>rfl
 |(a,w)::r=>by
  have h:dJ (.agg [.i k.1,.i k.2]) (.agg [.i a.1,.i a.2])=Pm k a:=by
   grind[dJ,sameL,sameS,Pm]
  simp[mput,h,XV]
  cases Pm k a
  ·simp;rw[<-VQ k v r]
  ·rfl
theorem VR(k:Int):∀l:List (Int×Int),pG (.i k) (l.map iiD)=(lkA k l).map .i
 | []=>rfl
 |(a,v)::r=>by
  have h:dJ (.i k) (.i a)=(k==a):=rfl
  simp only[List.map_cons,pG,h,lkA]
  cases k==a
  ·exact VR k r
  ·rfl
theorem MF(k v:Int):∀l:List (Int×Int),mput (.i k) (.i v) (l.map iiD)=(lW k v l).map iiD
 | []=>rfl
 |(a,w)::r=>by
  have h:dJ (.i k) (.i a)=(k==a):=rfl
  simp only[List.map_cons,mput,h,lW]
  cases k==a
  ·simp;rw[<-MF k v r]
  ·rfl
theorem VS(k:Int):∀l:List (Int×Bool),pG (.i k) (l.map ibD)=(lkA k l).map .b
 | []=>rfl
 |(a,v)::r=>by
  have h:dJ (.i k) (.i a)=(k==a):=rfl
  simp only[List.map_cons,pG,h,lkA]
  cases k==a
  ·exact VS k r
  ·rfl
theorem VT(k:Int)(v:Bool):∀l:List (Int×Bool),mput (.i k) (.b v) (l.map ibD)=(lW k v l).map ibD
 | []=>rfl
 |(a,w)::r=>by
  have h:dJ (.i k) (.i a)=(k==a):=rfl
  simp only[List.map_cons,mput,h,lW]
  cases k==a
  ·simp;rw[<-VT k v r]
  ·rfl
end Go.Fw.Tl
