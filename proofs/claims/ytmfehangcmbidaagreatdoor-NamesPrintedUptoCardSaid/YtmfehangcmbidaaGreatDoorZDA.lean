/- The typed data of processors, and how they lie in memory. -/
import Derived.Laws.Wrap64
import Derived.Test.YtmfehangcmbidaaGreatDoorZKA
set_option linter.unusedSectionVars false
set_option linter.unusedSimpArgs false
set_option linter.unusedVariables false
namespace Go.Fw
variable [ae]
theorem eQ{n:Int}(h1:-9223372036854775808<=n)(h2:n<=9223372036854775807):IntKind.i64.wrap n=n:=by
 simp only[IntKind.wrap,IntKind.bits,IntKind.signed]
 first |(simp;omega) |skip
structure Bd where
 name:List UInt8
 lo:Int
 hi:Int
structure Ln where
 name:List UInt8
 size:Int
 lo:Int
 hi:Int
structure Tb where
 name:List UInt8
 values:List Int
inductive Ex where
 |mk (kind:Int) (name:List UInt8) (index n:Int) (l:List Ex)
namespace Ex
def kind:Ex->Int | .mk k _ _ _ _=>k
def name:Ex->List UInt8 | .mk _ n _ _ _=>n
def index:Ex->Int | .mk _ _ i _ _=>i
def n:Ex->Int | .mk _ _ _ n _=>n
def l:Ex->List Ex | .mk _ _ _ _ l=>l
end Ex
structure Sm where
 kind:Int
 name:List UInt8
 index:Int
 x:Ex
structure Pr where
 name:List UInt8
 latency:Int
 tail:Int
 params:List Bd
 states:List Bd
 lines:List Ln
 tables:List Tb
 stmts:List Sm
abbrev Bd.cs(b:Bd):List D:=[.str b.name,.i b.lo,.i b.hi]
abbrev Ln.cs(b:Ln):List D:=[.str b.name,.i b.size,.i b.lo,.i b.hi]
abbrev U7(v:Int):List D:=[.i v]
abbrev ui(v:List UInt8):List D:=[.str v]
abbrev ints(l:List Int):D:=.sl 1 (l.map U7)
abbrev strs(l:List (List UInt8)):D:=.sl 1 (l.map ui)
abbrev Tb.cs(b:Tb):List D:=[.str b.name,ints b.values]
mutual
def Ex.cs1:Ex->List D
 | .mk k n i m l=>[.i k,.str n,.i i,.i m,.sl 5 (Ex.css l)]
def Ex.css:List Ex->List (List D)
 | []=>[]
 |x::r=>Ex.cs1 x::Ex.css r
end
abbrev Ex.cs(x:Ex):List D:=[.i x.kind,.str x.name,.i x.index,.i x.n,.sl 5 (Ex.css x.l)]
theorem Ex.css_cons(x:Ex)(r:List Ex):Ex.css (x::r)=x.cs::Ex.css r:=by
 cases x;rfl
theorem Ex.css_eq:∀l,Ex.css l=l.map Ex.cs:=by
 intro l
 induction l with
 |nil=>rfl
 |cons x r ih=>rw[Ex.css_cons,ih];rfl
abbrev Sm.cs(s:Sm):List D:=[.i s.kind,.str s.name,.i s.index,.i s.x.kind,.str s.x.name,.i s.x.index,.i s.x.n,.sl 5 (Ex.css s.x.l)]
abbrev Pr.cs(p:Pr):List D:=[.str p.name,.i p.latency,.i p.tail,.sl 3 (p.params.map Bd.cs),.sl 3 (p.states.map Bd.cs),.sl 4 (p.lines.map Ln.cs),.sl 2 (p.tables.map Tb.cs),.sl 8 (p.stmts.map Sm.cs)]
abbrev Ex.d(x:Ex):D:=.agg x.cs
abbrev Sm.d(x:Sm):D:=.agg x.cs
abbrev Pr.d(x:Pr):D:=.agg x.cs
theorem Ex.ind{P:Ex->Prop}(h:∀x,(∀y∈x.l,P y)->P x):∀x,P x:=by
 have:∀n,∀x:Ex,SizeOf.sizeOf x<=n->P x:=by
  intro n
  induction n with
  |zero=>intro x hx;cases x;simp at hx
  |succ n ih=>
   intro x hx
   refine h x λy hy=>ih y ?_
   cases x with
   |mk k s i m l=>
    simp only[Ex.l]at hy
    have:=List.sizeOf_lt_of_mem hy
    simp only[Ex.mk.sizeOf_spec]at hx
    omega
 exact λx=>this _ x (Nat.le_refl _)
theorem Ex.fits{x:Ex}(h:Fits x.d):x.l.length<=9223372036854775807:=by
 have:=(Fits.agg h (.sl 5 (Ex.css x.l)) (by simp)).sl.1
 simpa[Ex.css_eq]using this
structure Pr.Fit(p:Pr):Prop where
 params:p.params.length<=9223372036854775807
 states:p.states.length<=9223372036854775807
 lines:p.lines.length<=9223372036854775807
 tables:p.tables.length<=9223372036854775807
 stmts:p.stmts.length<=9223372036854775807
 values:∀t∈p.tables,t.values.length<=9223372036854775807
theorem Pr.fits{p:Pr}(h:Fits p.d):p.Fit:=by
 have h:=Fits.agg h
 refine⟨?_,?_,?_,?_,?_,?_⟩
 ·simpa using(h (.sl 3 (p.params.map Bd.cs)) (by simp)).sl.1
 ·simpa using(h (.sl 3 (p.states.map Bd.cs)) (by simp)).sl.1
 ·simpa using(h (.sl 4 (p.lines.map Ln.cs)) (by simp)).sl.1
 ·simpa using(h (.sl 2 (p.tables.map Tb.cs)) (by simp)).sl.1
 ·simpa using(h (.sl 8 (p.stmts.map Sm.cs)) (by simp)).sl.1
 ·intro t ht
  have:=(h (.sl 2 (p.tables.map Tb.cs)) (by simp)).sl.2 (Tb.cs t) (List.mem_map_of_mem ht)
  simpa using(this.2 (ints t.values) (by simp)).sl.1
structure Pr.Small(p:Pr):Prop where
 params:p.params.length<=67108864
 states:p.states.length<=67108864
 lines:p.lines.length<=67108864
 tables:p.tables.length<=67108864
 stmts:p.stmts.length<=67108864
abbrev Str:=List UInt8
abbrev Pr.none:Pr:=⟨[],0,0,[],[],[],[],[]⟩
abbrev Ex.none:Ex:=⟨0,[],0,0,[]⟩
end Go.Fw
namespace Go.Fw.Ref15
def qw(s:Str):List Str->Int->Int
 | [],_=>-1
 |x::r,i=>if x==s then i else qw s r (i+1)
def find(l:List Str)(s:Str):Int:=qw s l 0
def parts(k:Int):Int:=
 if k==1 || k==2 || k==3 || k==4 || k==5 then 0
 else if k==6 || k==7 || k==10 || k==13 || k==14 || k==8 || k==9 || k==18 then 1
 else if k==11 || k==12 || k==15 || k==16 || k==17 then 2
 else if k==19 then 4 else -1
def named(k:Int):Bool:=k==2 || k==3 || k==4 || k==5 || k==8 || k==9
mutual
def nodes:Ex->Nat
 | .mk _ _ _ _ l=>1+nodesL l
def nodesL:List Ex->Nat
 | []=>0
 |x::r=>nodes x+nodesL r
end
theorem jC(x:Ex):nodes x=1+nodesL x.l:=by cases x;rw[nodes];rfl
def bounds(l:List Bd):List Str:=l.map (·.name)
def lines(p:Pr):List Str:=p.lines.map (·.name)
def tables(p:Pr):List Str:=p.tables.map (·.name)
def dF(name:Str):List Sm->Int->Int
 | [],_=>-1
 |s::r,i=>if s.kind==1&&s.name==name then i else dF name r (i+1)
end Go.Fw.Ref15
namespace Go.Fw
abbrev D.u8(c:UInt8):D:=.val (.int .u8 (c.toNat:Int))
end Go.Fw
namespace Go.Fw.Ref03
def letter(c:UInt8):Bool:=(decide ((c.toNat:Int)>=97)&&decide ((c.toNat:Int)<=122)) || (decide ((c.toNat:Int)>=65)&&decide ((c.toNat:Int)<=90))
def figure(c:UInt8):Bool:=decide ((c.toNat:Int)>=48)&&decide ((c.toNat:Int)<=57)
end Go.Fw.Ref03
namespace Go.Fw.Ref15
def fin(p:Pr)(done:List Sm):Except Int (List Sm)->Pr×Int
 | .error e=>(Pr.none,e)
 | .ok l=>({ p with stmts:=done++l },0)
mutual
def dG:Ex->Ex->Bool
 | .mk k n i m l,b=>if k != b.kind || n != b.name || i != b.index || m != b.n || (l.length:Int) != b.l.length then false else sameL l b.l
def sameL:List Ex->List Ex->Bool
 | [],_=>true
 |x::r,l=>dG x (l.headD Ex.none)&&sameL r l.tail
end
theorem kQ(a b:Ex):dG a b=if a.kind != b.kind || a.name != b.name || a.index != b.index || a.n != b.n || (a.l.length:Int) != b.l.length then false else sameL a.l b.l:=by cases a;rw[dG];rfl
theorem uT:∀l:List Ex,l.length<=nodesL l
 | []=>Nat.le_refl _
 |x::r=>by
  have h1:=uT r
  have h2:1<=nodes x:=by rw[jC];omega
  simp only[nodesL,List.length_cons];omega
theorem fin_cons{p:Pr}{done:List Sm}{t:Sm}{e:Except Int (List Sm)}:fin p done (match e with | .error e=>.error e | .ok l=>.ok (t::l))=fin p (done++[t]) e:=by
 cases e<;>simp[fin]
theorem pM:∀{l m:List Ex},l.length=m.length->sameL l m=(l.zip m).all λq=>dG q.1 q.2
 | [],[],_=>rfl
 |x::r,y::s,h=>by
  simp only[List.zip_cons_cons,List.all_cons,sameL,List.headD_cons,List.tail_cons]
  rw[pM (by simpa using h)]
def rJ(q:Bd×Bd):Bool:=Go.Fw.sameL q.1.cs q.2.cs
def lM(q:Ln×Ln):Bool:=Go.Fw.sameL q.1.cs q.2.cs
def dK(l m:List Bd):Bool:=!((l.length:Int) != (m.length:Int))&&(l.zip m).all rJ
def rM(q:Tb×Tb):Bool:=!(q.1.name != q.2.name || (q.1.values.length:Int) != (q.2.values.length:Int))&&(q.1.values.zip q.2.values).all λv=>!(v.1 != v.2)
def heads(a b:Pr):Bool:=!(a.name != b.name || a.latency != b.latency || a.tail != b.tail || !dK a.params b.params || !dK a.states b.states || (a.lines.length:Int) != (b.lines.length:Int) || (a.tables.length:Int) != (b.tables.length:Int))
def jc(a b:Pr):Bool:=heads a b&&((a.lines.zip b.lines).all lM&&(a.tables.zip b.tables).all rM)
def LX(q:Sm×Sm):Bool:=!(q.1.kind != q.2.kind || q.1.name != q.2.name || q.1.index != q.2.index || !dG q.1.x q.2.x)
def Same(a b:Pr):Bool:=!(!jc a b || (a.stmts.length:Int) != (b.stmts.length:Int))&&(a.stmts.zip b.stmts).all LX
def Zf:List Sm->Int->Int
 | [],n=>n
 |s::r,n=>if decide (n<3000)then Zf r (n+(nodes s.x:Nat))else n
def XY:List Tb->Int->Int
 | [],n=>n
 |t::r,n=>if decide (n<3000)then XY r (n+(t.values.length:Nat))else n
def CV(p:Pr)(n:Int):Bool:=decide (n<3000)&&decide ((p.stmts.length:Int)<=80)
def Few(p:Pr):Bool:=CV p (XY p.tables (Zf p.stmts ((p.params.length:Int)+p.states.length+p.lines.length+p.tables.length+p.stmts.length)))
end Go.Fw.Ref15
namespace Go.Fw.Nam
variable [ae]
def arity(k:Int):Int×Bool:=
 if k==1 then(0,false)
 else if k==2 || k==3 || k==4 || k==5 then(0,true)
 else if k==8 || k==9 then(1,true)
 else if k==6 || k==7 || k==10 || k==13 || k==14 || k==18 then(1,false)
 else if k==11 || k==12 || k==15 || k==16 || k==17 then(2,false)
 else if k==19 then(4,false)else(-1,false)
def sample(n:Int):Bool:=decide (n >= -2147483648)&&decide (n<=2147483647)
mutual
def every(f:Ex->Bool):Ex->Bool
 | .mk k n i m l=>f (.mk k n i m l)&&jd f l
def jd(f:Ex->Bool):List Ex->Bool
 | []=>true
 |x::r=>every f x&&jd f r
end
theorem jD(f:Ex->Bool)(x:Ex):every f x=(f x&&jd f x.l):=by cases x;rw[every];rfl
def dR(x:Ex):Bool:=(x.l.length:Int)==(arity x.kind).1&&((arity x.kind).2 || x.name==[])&&decide (x.n>=0)&&((x.kind==1 || x.kind==18) || x.n==0)
def SA(s:Sm):Bool:=decide (s.kind>=1)&&decide (s.kind<=4)&&(s.kind != 4 || s.name==[])
def formed(p:Pr):Bool:=p.stmts.all λs=>SA s&&every dR s.x
def eU(x:Ex):Bool:=decide (x.n<=2147483648)&&(x.kind != 18 || decide (x.n>0))
end Go.Fw.Nam
namespace Go.Fw.Nam
def tq:List Int->Int->Int
 | [],_=>-1
 |v::r,i=>if !sample v then i else tq r (i+1)
def bad(l:List Int):Bool:=decide (tq l 0>=0)
def most(p:Pr):Int:=mm2 true (mm2 true (mm2 true (p.params.length:Int) p.states.length) p.lines.length) p.tables.length
def VV(p:Pr):Bool:=decide (most p<=16)&&decide ((p.stmts.length:Int)<=64)&&decide (p.latency>=0)&&decide (p.latency<=4096)&&decide (p.tail >= -1)&&decide (p.tail<=1048576)
def ln1(l:Ln):Bool:=decide (l.size>=1)&&decide (l.size<=65536)
def tb1(t:Tb):Bool:=decide ((t.values.length:Int)>=1)&&decide ((t.values.length:Int)<=1024)
def sm1(s:Sm):Bool:=decide ((Ref15.nodes s.x:Int)<=512)
def limited(p:Pr):Bool:=VV p&&(p.lines.all ln1&&(p.tables.all tb1&&p.stmts.all sm1))
end Go.Fw.Nam
