/- A part of the proof. -/
import Derived.Laws.Wrap64
import Derived.Test.YtgehpmgkaeohaaaGreatDoorZKA
set_option linter.all false
namespace Go.Fw
variable [ae]
theorem bM{n:Int}(h1:-9223372036854775808<=n)(h2:n<=9223372036854775807):IntKind.i64.wrap n=n:=by
 grind[IntKind.wrap,IntKind.bits,IntKind.signed]
structure Bd where
 name:List UInt8
 lo:Int
 hi:Int
structure Ln where
 name:List UInt8
 size:Int
 lo:Int
 hi:Int
structure Tb where
 name:List UInt8
 values:List Int
inductive Ex where
 |mk (kind:Int) (name:List UInt8) (index n:Int) (l:List Ex)
namespace Ex
def kind:Ex->Int | .mk k _ _ _ _=>k
def name:Ex->List UInt8 | .mk _ n _ _ _=>n
def index:Ex->Int | .mk _ _ i _ _=>i
def n:Ex->Int | .mk _ _ _ n _=>n
def l:Ex->List Ex | .mk _ _ _ _ l=>l
end Ex
structure Sm where
 kind:Int
 name:List UInt8
 index:Int
 x:Ex
structure Pr where
 name:List UInt8
 latency:Int
 tail:Int
 params:List Bd
 states:List Bd
 lines:List Ln
 tables:List Tb
 stmts:List Sm
abbrev Bd.cs(b:Bd):List D:=[.str b.name,.i b.lo,.i b.hi]
abbrev Ln.cs(b:Ln):List D:=[.str b.name,.i b.size,.i b.lo,.i b.hi]
abbrev z3p(v:Int):List D:=[.i v]
abbrev z3q(v:List UInt8):List D:=[.str v]
abbrev ints(l:List Int):D:=.sl 1 (l.map z3p)
abbrev strs(l:List (List UInt8)):D:=.sl 1 (l.map z3q)
abbrev Tb.cs(b:Tb):List D:=[.str b.name,ints b.values]
mutual
def Ex.cs1:Ex->List D
 | .mk k n i m l=>[.i k,.str n,.i i,.i m,.sl 5 (Ex.css l)]
def Ex.css:List Ex->List (List D)
 | []=>[]
 |x::r=>Ex.cs1 x::Ex.css r
end
abbrev Ex.cs(x:Ex):List D:=[.i x.kind,.str x.name,.i x.index,.i x.n,.sl 5 (Ex.css x.l)]
theorem Ex.css_cons(x:Ex)(r:List Ex):Ex.css (x::r)=x.cs::Ex.css r:=by
 cases x;rfl
theorem Ex.css_eq:∀l,Ex.css l=l.map Ex.cs:=by
 intro l
 induction l with
 |nil=>rfl
 |cons x r ih=>rw[Ex.css_cons,ih];rfl
abbrev Sm.cs(s:Sm):List D:=[.i s.kind,.str s.name,.i s.index,.i s.x.kind,.str s.x.name,.i s.x.index,.i s.x.n,.sl 5 (Ex.css s.x.l)]
abbrev Pr.cs(p:Pr):List D:=[.str p.name,.i p.latency,.i p.tail,.sl 3 (p.params.map Bd.cs),.sl 3 (p.states.map Bd.cs),.sl 4 (p.lines.map Ln.cs),.sl 2 (p.tables.map Tb.cs),.sl 8 (p.stmts.map Sm.cs)]
abbrev Ex.d(x:Ex):D:=.agg x.cs
abbrev Sm.d(x:Sm):D:=.agg x.cs
abbrev Pr.d(x:Pr):D:=.agg x.cs
theorem Ex.ind{P:Ex->Prop}(h:∀x,(∀y∈x.l,P y)->P x):∀x,P x:=by
 have:∀n,∀x:Ex,SizeOf.sizeOf x<=n->P x:=by
  intro n
  induction n with
  |zero=>intro x hx;cases x;simp at hx
  |succ n ih=>
   intro x hx
   refine h x λy hy=>ih y ?_
   cases x with
   |mk k s i m l=>
    simp[Ex.l]at hy
    have:=List.sizeOf_lt_of_mem hy
    grind
 exact λx=>this _ x (Nat.le_refl _)
theorem Ex.fits{x:Ex}(h:Fits x.d):x.l.length<=9223372036854775807:=by
 have:=(Fits.agg h (.sl 5 (Ex.css x.l)) (by simp)).sl.1
 grind[Ex.css_eq]
structure Pr.Fit(p:Pr):Prop where
 params:p.params.length<=9223372036854775807
 states:p.states.length<=9223372036854775807
 lines:p.lines.length<=9223372036854775807
 tables:p.tables.length<=9223372036854775807
 stmts:p.stmts.length<=9223372036854775807
 values:∀t∈p.tables,t.values.length<=9223372036854775807
theorem Pr.fits{p:Pr}(h:Fits p.d):p.Fit:=by
 have h:=Fits.agg h
 refine⟨?_,?_,?_,?_,?_,?_⟩
 ·simpa using(h (.sl 3 (p.params.map Bd.cs)) (by simp)).sl.1
 ·simpa using(h (.sl 3 (p.states.map Bd.cs)) (by simp)).sl.1
 ·simpa using(h (.sl 4 (p.lines.map Ln.cs)) (by simp)).sl.1
 ·simpa using(h (.sl 2 (p.tables.map Tb.cs)) (by simp)).sl.1
 ·simpa using(h (.sl 8 (p.stmts.map Sm.cs)) (by simp)).sl.1
 ·intro t ht
  have:=(h (.sl 2 (p.tables.map Tb.cs)) (by simp)).sl.2 (Tb.cs t) (List.mem_map_of_mem ht)
  simpa using(this.2 (ints t.values) (by simp)).sl.1
structure Pr.Small(p:Pr):Prop where
 params:p.params.length<=67108864
 states:p.states.length<=67108864
 lines:p.lines.length<=67108864
 tables:p.tables.length<=67108864
 stmts:p.stmts.length<=67108864
abbrev Str:=List UInt8
abbrev Pr.none:Pr:=⟨[],0,0,[],[],[],[],[]⟩
abbrev Ex.none:Ex:=⟨0,[],0,0,[]⟩
end Go.Fw
namespace Go.Fw.Ref15
def aX(s:Str):List Str->Int->Int
 | [],_=>-1
 |x::r,i=>if x==s then i else aX s r (i+1)
def find(l:List Str)(s:Str):Int:=aX s l 0
def parts(k:Int):Int:=
 if k==1 || k==2 || k==3 || k==4 || k==5 then 0
 else if k==6 || k==7 || k==10 || k==13 || k==14 || k==8 || k==9 || k==18 then 1
 else if k==11 || k==12 || k==15 || k==16 || k==17 then 2
 else if k==19 then 4 else -1
def named(k:Int):Bool:=k==2 || k==3 || k==4 || k==5 || k==8 || k==9
mutual
def formed:Ex->Bool
 | .mk k n _ m l=>!((l.length:Int) != parts k || (!named k&&n != []) || decide (m<0)) && !(k != 1&&k != 18&&m != 0)&&formeds l
def formeds:List Ex->Bool
 | []=>true
 |x::r=>formed x&&formeds r
end
theorem formed_eq(x:Ex):formed x=(!((x.l.length:Int) != parts x.kind || (!named x.kind&&x.name != []) || decide (x.n<0)) && !(x.kind != 1&&x.kind != 18&&x.n != 0)&&formeds x.l):=by
 cases x;rfl
mutual
def nodes:Ex->Nat
 | .mk _ _ _ _ l=>1+nodesL l
def nodesL:List Ex->Nat
 | []=>0
 |x::r=>nodes x+nodesL r
end
theorem nodes_eq(x:Ex):nodes x=1+nodesL x.l:=by cases x;rfl
def stmtOk(s:Sm):Bool:=!(decide (s.kind<1) || decide (s.kind>4) || (s.kind==4&&s.name != []) || !formed s.x)
def Formed(p:Pr):Bool:=p.stmts.all stmtOk
def Bi(l:Ln):Bool:=!(decide (l.size<1) || decide (l.size>65536))
def lu(t:Tb):Bool:=!(decide ((t.values.length:Int)<1) || decide ((t.values.length:Int)>1024))
def Ey(s:Sm):Bool:=!decide ((nodes s.x:Int)>512)
def few(p:Pr):Bool:=!(decide ((p.params.length:Int)>16) || decide ((p.states.length:Int)>16) || decide ((p.lines.length:Int)>16) || decide ((p.tables.length:Int)>16) || decide ((p.stmts.length:Int)>64))
def memOk(p:Pr):Bool:=decide (p.latency>=0)&&decide (p.latency<=4096)&&decide (p.tail >= -1)&&decide (p.tail<=1048576)
def limited(p:Pr):Bool:=few p&&p.lines.all Bi&&p.tables.all lu&&p.stmts.all Ey&&memOk p
def bounds(l:List Bd):List Str:=l.map (·.name)
def lines(p:Pr):List Str:=p.lines.map (·.name)
def tables(p:Pr):List Str:=p.tables.map (·.name)
def lets(l:List Sm):List Str:=(l.filter λs=>s.kind==1).map (·.name)
def eu(p:Pr):List Str:=bounds p.params++bounds p.states++lines p++tables p++lets p.stmts
def between(lo hi:Int):Bool:=decide (lo >= -2147483648)&&decide (lo<=hi)&&decide (hi<=2147483647)
mutual
def numbers:Ex->Bool
 | .mk k _ _ m l=>!(decide (m>2147483648) || (k==18&&decide (m<1)))&&qU l
def qU:List Ex->Bool
 | []=>true
 |x::r=>numbers x&&qU r
end
theorem Ez(x:Ex):numbers x=(!(decide (x.n>2147483648) || (x.kind==18&&decide (x.n<1)))&&qU x.l):=by cases x;rfl
def ranged(p:Pr):Bool:=(p.params.all λb=>between b.lo b.hi)&&(p.states.all λb=>between b.lo b.hi)&&(p.lines.all λb=>between b.lo b.hi)&&(p.tables.all λt=>t.values.all λv=>between v v)&&p.stmts.all λs=>numbers s.x
def aA(name:Str):List Sm->Int->Int
 | [],_=>-1
 |s::r,i=>if s.kind==1&&s.name==name then i else aA name r (i+1)
def given(p:Pr)(name:Str)(before:Nat):Int:=aA name (p.stmts.take before) 0
def value(p:Pr)(name:Str)(before:Nat):Ex×Bool:=
 let i:=find (bounds p.params) name
 if decide (i<0)then
  let j:=find (bounds p.states) name
  if decide (j<0)then
   let k:=given p name before
   (⟨5,name,k,0,[]⟩,decide (k>=0))
  else(⟨4,name,j,0,[]⟩,decide (j>=0))
 else(⟨3,name,i,0,[]⟩,decide (i>=0))
end Go.Fw.Ref15
namespace Go.Fw
abbrev D.u8(c:UInt8):D:=.val (.int .u8 (c.toNat:Int))
end Go.Fw
namespace Go.Fw.Ref03
def letter(c:UInt8):Bool:=(decide ((c.toNat:Int)>=97)&&decide ((c.toNat:Int)<=122)) || (decide ((c.toNat:Int)>=65)&&decide ((c.toNat:Int)<=90))
def figure(c:UInt8):Bool:=decide ((c.toNat:Int)>=48)&&decide ((c.toNat:Int)<=57)
def part(c:UInt8):Bool:=letter c || figure c || (c.toNat:Int)==95
def name(s:Str):Bool:=!(decide ((s.length:Int)<1) || decide ((s.length:Int)>32) || !letter (s.getD 0 0))&&s.all part
end Go.Fw.Ref03
namespace Go.Fw.Ref15
def words:List Str:=[[112,114,111,99,101,115,115,111,114],[108,97,116,101,110,99,121],[116,97,105,108],[102,111,114,101,118,101,114],[112,97,114,97,109],[115,116,97,116,101],[108,105,110,101],[116,97,98,108,101],[102,114,111,109],[116,111],[108,101,116],[115,101,116],[112,117,115,104],[111,117,116],[105,102],[116,104,101,110],[101,108,115,101],[105,110],[115,105,100,101],[116,97,112],[108,111,111,107],[115,97,116],[109,105,110],[109,97,120],[97,98,115]]
def lw(p:Pr)(x:Ex):Int:=if x.kind==9 then find (tables p) x.name else if x.kind==8 then find (lines p) x.name else 0
mutual
def bJ(p:Pr)(b:Nat):Ex->Ex×Bool
 | .mk k n i m l=>if named k&&k != 8&&k != 9 then value p n b
  else(⟨k,n,lw p ⟨k,n,i,m,l⟩,m,(dL p b l).1⟩,decide (lw p ⟨k,n,i,m,l⟩>=0)&&(dL p b l).2)
def dL(p:Pr)(b:Nat):List Ex->List Ex×Bool
 | []=>([],true)
 |x::r=>((bJ p b x).1::(dL p b r).1,(bJ p b x).2&&(dL p b r).2)
end
theorem oI(p:Pr)(b:Nat)(x:Ex):bJ p b x=if named x.kind&&x.kind != 8&&x.kind != 9 then value p x.name b
  else(⟨x.kind,x.name,lw p x,x.n,(dL p b x.l).1⟩,decide (lw p x>=0)&&(dL p b x.l).2):=by cases x;rfl
def again(p:Pr)(i:Nat)(s:Sm):Bool:=(p.stmts.take i).any λt=>t.kind==4 || (s.kind != 1&&t.kind==s.kind&&t.name==s.name)
def qw(s:Str):Bool:=!(!Ref03.name s || decide (find words s>=0))
def iV(l:List Str):List Str->Int->Bool
 | [],_=>true
 |s::r,i=>!(find l s != i)&&iV l r (i+1)
def cu(p:Pr)(s:Sm):Int:=if s.kind==3 then find (lines p) s.name else if s.kind==2 then find (bounds p.states) s.name else 0
def dN(p:Pr):List Sm->Nat->Bool->Except Int (List Sm)
 | [],_,out=>if !out then .error 150 else .ok []
 |s::r,i,_=>
  if !(bJ p i s.x).2 then .error 150
  else if decide (cu p s<0)then .error 150
  else if again p i s then .error 151
  else match dN p r (i+1) (s.kind==4)with
   | .error e=>.error e
   | .ok l=>.ok (⟨s.kind,s.name,cu p s,(bJ p i s.x).1⟩::l)
def fin(p:Pr)(done:List Sm):Except Int (List Sm)->Pr×Int
 | .error e=>(Pr.none,e)
 | .ok l=>({ p with stmts:=done++l },0)
def Resolve(p:Pr):Pr×Int:=
 if !Formed p then(Pr.none,1)
 else if !limited p then(Pr.none,2)
 else if !qw p.name then(Pr.none,150)
 else if !(eu p).all qw then(Pr.none,150)
 else if !iV (eu p) (eu p) 0 then(Pr.none,151)
 else if !ranged p then(Pr.none,161)
 else fin p [] (dN p p.stmts 0 false)
mutual
def iK:Ex->Ex->Bool
 | .mk k n i m l,b=>if k != b.kind || n != b.name || i != b.index || m != b.n || (l.length:Int) != b.l.length then false else sameL l b.l
def sameL:List Ex->List Ex->Bool
 | [],_=>true
 |x::r,l=>iK x (l.headD Ex.none)&&sameL r l.tail
end
theorem MO(a b:Ex):iK a b=if a.kind != b.kind || a.name != b.name || a.index != b.index || a.n != b.n || (a.l.length:Int) != b.l.length then false else sameL a.l b.l:=by cases a;rfl
def VB(l:List Bd):Bool:=l.all λb=>between b.lo b.hi
def z7o(l:List Ln):Bool:=l.all λb=>between b.lo b.hi
def z3r(l:List Int):Bool:=l.all λv=>between v v
def z7p(l:List Tb):Bool:=l.all λt=>z3r t.values
def z7q(l:List Sm):Bool:=l.all λs=>numbers s.x
theorem ranged_eq(p:Pr):ranged p=(VB p.params&&(VB p.states&&(z7o p.lines&&(z7p p.tables&&z7q p.stmts)))):=by
 simp[ranged,VB,z7o,z7p,z3r,z7q,Bool.and_assoc]
theorem limited_eq(p:Pr):limited p=(few p&&(p.lines.all Bi&&(p.tables.all lu&&(p.stmts.all Ey&&memOk p)))):=by
 simp[limited,Bool.and_assoc]
theorem len_nodes:∀l:List Ex,l.length<=nodesL l
 | []=>Nat.le_refl _
 |x::r=>by
  have h1:=len_nodes r
  grind[nodes_eq,nodesL]
theorem fin_cons{p:Pr}{done:List Sm}{t:Sm}{e:Except Int (List Sm)}:fin p done (match e with | .error e=>.error e | .ok l=>.ok (t::l))=fin p (done++[t]) e:=by
 grind[fin]
theorem Bj:∀{l m:List Ex},l.length=m.length->sameL l m=(l.zip m).all λq=>iK q.1 q.2
 | [],[],_=>rfl
 |x::r,y::s,h=>by
  simp[sameL]
  rw[Bj (by simpa using h)]
def EC(q:Bd×Bd):Bool:=Go.Fw.sameL q.1.cs q.2.cs
def Bl(q:Ln×Ln):Bool:=Go.Fw.sameL q.1.cs q.2.cs
def kM(l m:List Bd):Bool:=!((l.length:Int) != (m.length:Int))&&(l.zip m).all EC
end Go.Fw.Ref15
namespace Go.Fw.Nam
variable [ae]
def arity(k:Int):Int×Bool:=
 if k==1 then(0,false)
 else if k==2 || k==3 || k==4 || k==5 then(0,true)
 else if k==8 || k==9 then(1,true)
 else if k==6 || k==7 || k==10 || k==13 || k==14 || k==18 then(1,false)
 else if k==11 || k==12 || k==15 || k==16 || k==17 then(2,false)
 else if k==19 then(4,false)else(-1,false)
def sample(n:Int):Bool:=decide (n >= -2147483648)&&decide (n<=2147483647)
mutual
def every(f:Ex->Bool):Ex->Bool
 | .mk k n i m l=>f (.mk k n i m l)&&vM f l
def vM(f:Ex->Bool):List Ex->Bool
 | []=>true
 |x::r=>every f x&&vM f r
end
theorem zt(f:Ex->Bool)(x:Ex):every f x=(f x&&vM f x.l):=by cases x;rfl
def lD(x:Ex):Bool:=(x.l.length:Int)==(arity x.kind).1&&((arity x.kind).2 || x.name==[])&&decide (x.n>=0)&&((x.kind==1 || x.kind==18) || x.n==0)
def Zq(s:Sm):Bool:=decide (s.kind>=1)&&decide (s.kind<=4)&&(s.kind != 4 || s.name==[])
def formed(p:Pr):Bool:=p.stmts.all λs=>Zq s&&every lD s.x
def mX(x:Ex):Bool:=decide (x.n<=2147483648)&&(x.kind != 18 || decide (x.n>0))
end Go.Fw.Nam
namespace Go.Fw.Nam
def mY:List Int->Int->Int
 | [],_=>-1
 |v::r,i=>if !sample v then i else mY r (i+1)
def bad(l:List Int):Bool:=decide (mY l 0>=0)
def most(p:Pr):Int:=mm2 true (mm2 true (mm2 true (p.params.length:Int) p.states.length) p.lines.length) p.tables.length
def z7r(p:Pr):Bool:=decide (most p<=16)&&decide ((p.stmts.length:Int)<=64)&&decide (p.latency>=0)&&decide (p.latency<=4096)&&decide (p.tail >= -1)&&decide (p.tail<=1048576)
def ln1(l:Ln):Bool:=decide (l.size>=1)&&decide (l.size<=65536)
def tb1(t:Tb):Bool:=decide ((t.values.length:Int)>=1)&&decide ((t.values.length:Int)<=1024)
def sm1(s:Sm):Bool:=decide ((Ref15.nodes s.x:Int)<=512)
def limited(p:Pr):Bool:=z7r p&&(p.lines.all ln1&&(p.tables.all tb1&&p.stmts.all sm1))
end Go.Fw.Nam
