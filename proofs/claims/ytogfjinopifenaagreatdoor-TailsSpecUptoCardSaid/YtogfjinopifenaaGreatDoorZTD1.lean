/- The functions of package tails, as plain functions. -/
import Derived.Test.YtogfjinopifenaaGreatDoorZRB
set_option linter.unusedSectionVars false
set_option linter.unusedSimpArgs false
set_option linter.unusedVariables false
namespace Go.Fw.Tl
open Go.Fw Go.Fw.Ref15 Go.Fw.Rg
variable [GlobInt]
mutual
def partsX:Ex->List Ex
 | .mk k n i m l=>.mk k n i m l::partsL l
def partsL:List Ex->List Ex
 | []=>[]
 |x::r=>partsX x++partsL r
end
theorem partsX_eq(x:Ex):partsX x=x::partsL x.l:=by cases x;rfl
theorem partsL_snoc:∀(l:List Ex) (x:Ex),partsL (l++[x])=partsL l++partsX x
 | [],x=>by simp[partsL]
 |y::r,x=>by rw[List.cons_append,partsL,partsL,partsL_snoc r x,List.append_assoc]
theorem mem_partsL{x:Ex}:∀{l:List Ex},x∈partsL l↔∃y∈l,x∈partsX y
 | []=>by simp[partsL]
 |y::r=>by simp[partsL,mem_partsL (l:=r)]
def hiM(p:Pr)(x:Ex):Int:=match intervalR p x with | .ok s=>s.2 | .error _=>0
def looks(x:Ex):Bool:=bif x.kind==6 then true else x.kind==7
def latX(p:Pr)(n:Int)(x:Ex):Int:=if looks x then mm2 true n (hiM p (x.l.getD 0 Ex.none))else n
def latS(p:Pr)(n:Int)(s:Sm):Int:=(partsX s.x).foldl (latX p) n
def latM(p:Pr):Int:=p.stmts.foldl (latS p) 0
def latencyM(p:Pr):Int×Int:=if((boundsR p).2 != 0)=true then(0,(boundsR p).2)else(latM p,0)
abbrev Key:=Int×Int
def keyB(a b:Key):Bool:=bif a.1==b.1 then a.2==b.2 else false
def lkK{α:Type}(k:Key):List (Key×α)->Option α
 | []=>none
 |(a,v)::r=>if keyB k a then some v else lkK k r
def putK{α:Type}(k:Key)(v:α):List (Key×α)->List (Key×α)
 | []=>[(k,v)]
 |(a,w)::r=>if keyB k a then(k,v)::r else(a,w)::putK k v r
def lkA{α:Type}(k:Int):List (Int×α)->Option α
 | []=>none
 |(a,v)::r=>if k==a then some v else lkA k r
def putA{α:Type}(k:Int)(v:α):List (Int×α)->List (Int×α)
 | []=>[(k,v)]
 |(a,w)::r=>if k==a then(k,v)::r else(a,w)::putA k v r
abbrev kkD(q:Key×Int):D×D:=(.agg [.i q.1.1,.i q.1.2],.i q.2)
abbrev iiD(q:Int×Int):D×D:=(.i q.1,.i q.2)
abbrev ibD(q:Int×Bool):D×D:=(.i q.1,.b q.2)
def sets(k:Int):Bool:=bif k==2 then true else k==3
def setL:List Sm->Nat->List (Key×Int)->List (Key×Int)
 | [],_,S=>S
 |s::r,i,S=>setL r (i+1) (if sets s.kind then putK (s.kind,s.index) (i:Int) S else S)
def settersM(p:Pr):List (Key×Int):=setL p.stmts 0 []
structure AS where
 ages:List (Int×Int)
 opn:List (Int×Bool)
inductive AR where
 |ok (v:Int) (s:AS)
 |pan (s:AS)
 |out
def AR.add(w:Int):AR->AR
 | .ok v s=>.ok (IntKind.i64.wrap (v+w)) s
 |r=>r
def ownM(p:Pr)(S:List (Key×Int))(age:AS->Int->AR)(at_:Int)(x:Ex)(s:AS):AR:=
 if x.kind==5 then age s x.index
 else if x.kind==4 then match lkK (2,x.index) S with
  |some b=>if b<at_ then age s b else(age s b).add 1
  |none=>.ok 0 s
 else if x.kind==8 then match lkK (3,x.index) S with
  |some b=>if decide (0<=x.index)&&decide (x.index<p.lines.length)then(age s b).add (lineAt p x.index).size else .out
  |none=>.ok 0 s
 else .ok 0 s
def foldA(own:Ex->AS->AR):List Ex->AS->Int->AR
 | [],s,m=>.ok m s
 |x::r,s,m=>match own x s with
  | .ok v s'=>foldA own r s' (mm2 true m v)
  | .pan t=>.pan t
  | .out=>.out
def stmtX(p:Pr)(i:Int):Ex:=(p.stmts.getD i.toNat Sm.none).x
def isOpn(s:AS)(i:Int):Bool:=match lkA i s.opn with |some b=>b |none=>false
def ageM(p:Pr)(S:List (Key×Int)):Nat->AS->Int->AR
 | 0,_,_=>.out
 |f+1,s,i=>if isOpn s i then .pan s else match lkA i s.ages with
  |some n=>.ok n s
  |none=>if decide (0<=i)&&decide (i<p.stmts.length)then(match foldA (ownM p S (ageM p S f) i) (partsX (stmtX p i)) ⟨s.ages,putA i true s.opn⟩ 0 with
   | .ok m s'=>.ok m ⟨putA i m s'.ages,putA i false s'.opn⟩
   | .pan t=>.pan t
   | .out=>.out)else .out
def memM(p:Pr):Int:=match ageM p (settersM p) (p.stmts.length+1) ⟨[],[]⟩ ((p.stmts.length:Int)-1)with
 | .ok v _=>v
 |_=>-1
def memoryM(p:Pr):Int×Int:=if((boundsR p).2 != 0)=true then(0,(boundsR p).2)else(memM p,0)
def checkM(p:Pr):Int:=if((boundsR p).2 != 0)=true then(boundsR p).2
 else if latM p>p.latency then 170
 else if(p.tail != -1&&(memM p == -1 || decide (memM p>p.tail)))=true then 171 else 0
theorem mget_kk(k:Key):∀l:List (Key×Int),mget (.agg [.i k.1,.i k.2]) (l.map kkD)=(lkK k l).map .i
 | []=>rfl
 |(a,v)::r=>by
  have h:keySame (.agg [.i k.1,.i k.2]) (.agg [.i a.1,.i a.2])=keyB k a:=by
   grind[keySame,sameL,sameS,keyB]
  simp[mget,h,lkK]
  cases keyB k a
  ·exact mget_kk k r
  ·rfl
theorem mput_kk(k:Key)(v:Int):∀l:List (Key×Int),mput (.agg [.i k.1,.i k.2]) (.i v) (l.map kkD)=(putK k v l).map kkD
 | []=>rfl
 |(a,w)::r=>by
  have h:keySame (.agg [.i k.1,.i k.2]) (.agg [.i a.1,.i a.2])=keyB k a:=by
   grind[keySame,sameL,sameS,keyB]
  simp[mput,h,putK]
  cases keyB k a
  ·simp;rw[<-mput_kk k v r]
  ·rfl
theorem mget_ii(k:Int):∀l:List (Int×Int),mget (.i k) (l.map iiD)=(lkA k l).map .i
 | []=>rfl
 |(a,v)::r=>by
  have h:keySame (.i k) (.i a)=(k==a):=rfl
  simp only[List.map_cons,mget,h,lkA]
  cases k==a
  ·exact mget_ii k r
  ·rfl
theorem mput_ii(k v:Int):∀l:List (Int×Int),mput (.i k) (.i v) (l.map iiD)=(putA k v l).map iiD
 | []=>rfl
 |(a,w)::r=>by
  have h:keySame (.i k) (.i a)=(k==a):=rfl
  simp only[List.map_cons,mput,h,putA]
  cases k==a
  ·simp;rw[<-mput_ii k v r]
  ·rfl
theorem mget_ib(k:Int):∀l:List (Int×Bool),mget (.i k) (l.map ibD)=(lkA k l).map .b
 | []=>rfl
 |(a,v)::r=>by
  have h:keySame (.i k) (.i a)=(k==a):=rfl
  simp only[List.map_cons,mget,h,lkA]
  cases k==a
  ·exact mget_ib k r
  ·rfl
theorem mput_ib(k:Int)(v:Bool):∀l:List (Int×Bool),mput (.i k) (.b v) (l.map ibD)=(putA k v l).map ibD
 | []=>rfl
 |(a,w)::r=>by
  have h:keySame (.i k) (.i a)=(k==a):=rfl
  simp only[List.map_cons,mput,h,putA]
  cases k==a
  ·simp;rw[<-mput_ib k v r]
  ·rfl
end Go.Fw.Tl
