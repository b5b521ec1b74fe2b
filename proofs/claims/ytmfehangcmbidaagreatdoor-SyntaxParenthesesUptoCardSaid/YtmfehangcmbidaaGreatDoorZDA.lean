/- The typed data of processors, and how they lie in memory. -/
import Derived.Laws.Wrap64
import Derived.Test.YtmfehangcmbidaaGreatDoorZKA
set_option linter.unusedSectionVars false
set_option linter.unusedSimpArgs false
set_option linter.unusedVariables false
namespace Go.Fw
variable [ae]
theorem dX{n:Int}(h1:-9223372036854775808<=n)(h2:n<=9223372036854775807):IntKind.i64.wrap n=n:=by
 simp only[IntKind.wrap,IntKind.bits,IntKind.signed]
 first |(simp;omega) |skip
structure Bd where
 name:List UInt8
 lo:Int
 hi:Int
structure Ln where
 name:List UInt8
 size:Int
 lo:Int
 hi:Int
structure Tb where
 name:List UInt8
 values:List Int
inductive Ex where
 |mk (kind:Int) (name:List UInt8) (index n:Int) (l:List Ex)
namespace Ex
def kind:Ex->Int | .mk k _ _ _ _=>k
def name:Ex->List UInt8 | .mk _ n _ _ _=>n
def index:Ex->Int | .mk _ _ i _ _=>i
def n:Ex->Int | .mk _ _ _ n _=>n
def l:Ex->List Ex | .mk _ _ _ _ l=>l
end Ex
structure Sm where
 kind:Int
 name:List UInt8
 index:Int
 x:Ex
structure Pr where
 name:List UInt8
 latency:Int
 tail:Int
 params:List Bd
 states:List Bd
 lines:List Ln
 tables:List Tb
 stmts:List Sm
abbrev Bd.cs(b:Bd):List D:=[.str b.name,.i b.lo,.i b.hi]
abbrev Ln.cs(b:Ln):List D:=[.str b.name,.i b.size,.i b.lo,.i b.hi]
abbrev SQ(v:Int):List D:=[.i v]
abbrev ve(v:List UInt8):List D:=[.str v]
abbrev ints(l:List Int):D:=.sl 1 (l.map SQ)
abbrev strs(l:List (List UInt8)):D:=.sl 1 (l.map ve)
abbrev Tb.cs(b:Tb):List D:=[.str b.name,ints b.values]
mutual
def Ex.cs1:Ex->List D
 | .mk k n i m l=>[.i k,.str n,.i i,.i m,.sl 5 (Ex.css l)]
def Ex.css:List Ex->List (List D)
 | []=>[]
 |x::r=>Ex.cs1 x::Ex.css r
end
abbrev Ex.cs(x:Ex):List D:=[.i x.kind,.str x.name,.i x.index,.i x.n,.sl 5 (Ex.css x.l)]
theorem Ex.css_cons(x:Ex)(r:List Ex):Ex.css (x::r)=x.cs::Ex.css r:=by
 cases x;rfl
theorem Ex.css_eq:∀l,Ex.css l=l.map Ex.cs:=by
 intro l
 induction l with
 |nil=>rfl
 |cons x r ih=>rw[Ex.css_cons,ih];rfl
abbrev Sm.cs(s:Sm):List D:=[.i s.kind,.str s.name,.i s.index,.i s.x.kind,.str s.x.name,.i s.x.index,.i s.x.n,.sl 5 (Ex.css s.x.l)]
abbrev Pr.cs(p:Pr):List D:=[.str p.name,.i p.latency,.i p.tail,.sl 3 (p.params.map Bd.cs),.sl 3 (p.states.map Bd.cs),.sl 4 (p.lines.map Ln.cs),.sl 2 (p.tables.map Tb.cs),.sl 8 (p.stmts.map Sm.cs)]
abbrev Ex.d(x:Ex):D:=.agg x.cs
abbrev Sm.d(x:Sm):D:=.agg x.cs
abbrev Pr.d(x:Pr):D:=.agg x.cs
theorem Ex.ind{P:Ex->Prop}(h:∀x,(∀y∈x.l,P y)->P x):∀x,P x:=by
 have:∀n,∀x:Ex,SizeOf.sizeOf x<=n->P x:=by
  intro n
  induction n with
  |zero=>intro x hx;cases x;simp at hx
  |succ n ih=>
   intro x hx
   refine h x λy hy=>ih y ?_
   cases x with
   |mk k s i m l=>
    simp only[Ex.l]at hy
    have:=List.sizeOf_lt_of_mem hy
    simp only[Ex.mk.sizeOf_spec]at hx
    omega
 exact λx=>this _ x (Nat.le_refl _)
theorem Ex.fits{x:Ex}(h:Fits x.d):x.l.length<=9223372036854775807:=by
 have:=(Fits.agg h (.sl 5 (Ex.css x.l)) (by simp)).sl.1
 simpa[Ex.css_eq]using this
structure Pr.Fit(p:Pr):Prop where
 params:p.params.length<=9223372036854775807
 states:p.states.length<=9223372036854775807
 lines:p.lines.length<=9223372036854775807
 tables:p.tables.length<=9223372036854775807
 stmts:p.stmts.length<=9223372036854775807
 values:∀t∈p.tables,t.values.length<=9223372036854775807
theorem Pr.fits{p:Pr}(h:Fits p.d):p.Fit:=by
 have h:=Fits.agg h
 refine⟨?_,?_,?_,?_,?_,?_⟩
 ·simpa using(h (.sl 3 (p.params.map Bd.cs)) (by simp)).sl.1
 ·simpa using(h (.sl 3 (p.states.map Bd.cs)) (by simp)).sl.1
 ·simpa using(h (.sl 4 (p.lines.map Ln.cs)) (by simp)).sl.1
 ·simpa using(h (.sl 2 (p.tables.map Tb.cs)) (by simp)).sl.1
 ·simpa using(h (.sl 8 (p.stmts.map Sm.cs)) (by simp)).sl.1
 ·intro t ht
  have:=(h (.sl 2 (p.tables.map Tb.cs)) (by simp)).sl.2 (Tb.cs t) (List.mem_map_of_mem ht)
  simpa using(this.2 (ints t.values) (by simp)).sl.1
abbrev Str:=List UInt8
abbrev Ex.none:Ex:=⟨0,[],0,0,[]⟩
end Go.Fw
namespace Go.Fw.Ref15
mutual
def nodes:Ex->Nat
 | .mk _ _ _ _ l=>1+wo l
def wo:List Ex->Nat
 | []=>0
 |x::r=>nodes x+wo r
end
theorem Jt(x:Ex):nodes x=1+wo x.l:=by cases x;rw[nodes];rfl
end Go.Fw.Ref15
namespace Go.Fw
abbrev D.u8(c:UInt8):D:=.val (.int .u8 (c.toNat:Int))
end Go.Fw
namespace Go.Fw.Ref03
def letter(c:UInt8):Bool:=(decide ((c.toNat:Int)>=97)&&decide ((c.toNat:Int)<=122)) || (decide ((c.toNat:Int)>=65)&&decide ((c.toNat:Int)<=90))
def figure(c:UInt8):Bool:=decide ((c.toNat:Int)>=48)&&decide ((c.toNat:Int)<=57)
end Go.Fw.Ref03
namespace Go.Fw.Ref15
mutual
def dN:Ex->Ex->Bool
 | .mk k n i m l,b=>if k != b.kind || n != b.name || i != b.index || m != b.n || (l.length:Int) != b.l.length then false else sameL l b.l
def sameL:List Ex->List Ex->Bool
 | [],_=>true
 |x::r,l=>dN x (l.headD Ex.none)&&sameL r l.tail
end
theorem mf(a b:Ex):dN a b=if a.kind != b.kind || a.name != b.name || a.index != b.index || a.n != b.n || (a.l.length:Int) != b.l.length then false else sameL a.l b.l:=by cases a;rw[dN];rfl
theorem EH:∀l:List Ex,l.length<=wo l
 | []=>Nat.le_refl _
 |x::r=>by
  have h1:=EH r
  have h2:1<=nodes x:=by rw[Jt];omega
  simp only[wo,List.length_cons];omega
theorem tK:∀{l m:List Ex},l.length=m.length->sameL l m=(l.zip m).all λq=>dN q.1 q.2
 | [],[],_=>rfl
 |x::r,y::s,h=>by
  simp only[List.zip_cons_cons,List.all_cons,sameL,List.headD_cons,List.tail_cons]
  rw[tK (by simpa using h)]
def wu(q:Bd×Bd):Bool:=Go.Fw.sameL q.1.cs q.2.cs
def jZ(q:Ln×Ln):Bool:=Go.Fw.sameL q.1.cs q.2.cs
def dY(l m:List Bd):Bool:=!((l.length:Int) != (m.length:Int))&&(l.zip m).all wu
end Go.Fw.Ref15
namespace Go.Fw.Nam
variable [ae]
end Go.Fw.Nam
namespace Go.Fw.Nam
end Go.Fw.Nam
