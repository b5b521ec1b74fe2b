/- The typed data of processors, and how they lie in memory. -/
import Derived.Laws.Wrap64
import Derived.Lib.IndexMore
import Derived.Test.YtgilgdfmohmbdaaZK5
set_option linter.unusedSimpArgs false
set_option linter.unusedVariables false
namespace Go.Fw
set_option linter.unusedSectionVars false
variable [GlobInt]

theorem wrap_ok {n : Int} (h1 : -9223372036854775808 ≤ n) (h2 : n ≤ 9223372036854775807) : IntKind.i64.wrap n = n := by
  simp only [IntKind.wrap, IntKind.bits, IntKind.signed]
  first | (simp; omega) | skip

structure Bd where
  name : List UInt8
  lo : Int
  hi : Int
structure Ln where
  name : List UInt8
  size : Int
  lo : Int
  hi : Int
structure Tb where
  name : List UInt8
  values : List Int
inductive Ex where
  | mk (kind : Int) (name : List UInt8) (index n : Int) (l : List Ex)
namespace Ex
def kind : Ex → Int | .mk k _ _ _ _ => k
def name : Ex → List UInt8 | .mk _ n _ _ _ => n
def index : Ex → Int | .mk _ _ i _ _ => i
def n : Ex → Int | .mk _ _ _ n _ => n
def l : Ex → List Ex | .mk _ _ _ _ l => l
end Ex
structure Sm where
  kind : Int
  name : List UInt8
  index : Int
  x : Ex
structure Pr where
  name : List UInt8
  latency : Int
  tail : Int
  params : List Bd
  states : List Bd
  lines : List Ln
  tables : List Tb
  stmts : List Sm

abbrev Bd.cs (b : Bd) : List D := [.str b.name, .i b.lo, .i b.hi]
abbrev Ln.cs (b : Ln) : List D := [.str b.name, .i b.size, .i b.lo, .i b.hi]
abbrev intC (v : Int) : List D := [.i v]
abbrev strC (v : List UInt8) : List D := [.str v]
abbrev ints (l : List Int) : D := .sl 1 (l.map intC)
abbrev strs (l : List (List UInt8)) : D := .sl 1 (l.map strC)
abbrev Tb.cs (b : Tb) : List D := [.str b.name, ints b.values]
mutual
def Ex.cs1 : Ex → List D
  | .mk k n i m l => [.i k, .str n, .i i, .i m, .sl 5 (Ex.css l)]
def Ex.css : List Ex → List (List D)
  | [] => []
  | x :: r => Ex.cs1 x :: Ex.css r
end
abbrev Ex.cs (x : Ex) : List D := [.i x.kind, .str x.name, .i x.index, .i x.n, .sl 5 (Ex.css x.l)]
theorem Ex.css_cons (x : Ex) (r : List Ex) : Ex.css (x :: r) = x.cs :: Ex.css r := by
  cases x; rfl
theorem Ex.css_eq : ∀ l, Ex.css l = l.map Ex.cs := by
  intro l
  induction l with
  | nil => rfl
  | cons x r ih => rw [Ex.css_cons, ih]; rfl
abbrev Sm.cs (s : Sm) : List D := [.i s.kind, .str s.name, .i s.index, .i s.x.kind, .str s.x.name, .i s.x.index, .i s.x.n, .sl 5 (Ex.css s.x.l)]
abbrev Pr.cs (p : Pr) : List D := [.str p.name, .i p.latency, .i p.tail, .sl 3 (p.params.map Bd.cs), .sl 3 (p.states.map Bd.cs), .sl 4 (p.lines.map Ln.cs), .sl 2 (p.tables.map Tb.cs), .sl 8 (p.stmts.map Sm.cs)]
abbrev Ex.d (x : Ex) : D := .agg x.cs
abbrev Sm.d (x : Sm) : D := .agg x.cs
abbrev Pr.d (x : Pr) : D := .agg x.cs

/-- An induction over expressions and their parts. -/
theorem Ex.ind {P : Ex → Prop} (h : ∀ x, (∀ y ∈ x.l, P y) → P x) : ∀ x, P x := by
  have : ∀ n, ∀ x : Ex, SizeOf.sizeOf x ≤ n → P x := by
    intro n
    induction n with
    | zero => intro x hx; cases x; simp at hx
    | succ n ih =>
      intro x hx
      refine h x fun y hy => ih y ?_
      cases x with
      | mk k s i m l =>
        simp only [Ex.l] at hy
        have := List.sizeOf_lt_of_mem hy
        simp only [Ex.mk.sizeOf_spec] at hx
        omega
  exact fun x => this _ x (Nat.le_refl _)
theorem Ex.fits {x : Ex} (h : Fits x.d) : x.l.length ≤ 9223372036854775807 := by
  have := (Fits.agg h (.sl 5 (Ex.css x.l)) (by simp)).sl.1
  simpa [Ex.css_eq] using this
structure Pr.Fit (p : Pr) : Prop where
  params : p.params.length ≤ 9223372036854775807
  states : p.states.length ≤ 9223372036854775807
  lines : p.lines.length ≤ 9223372036854775807
  tables : p.tables.length ≤ 9223372036854775807
  stmts : p.stmts.length ≤ 9223372036854775807
  values : ∀ t ∈ p.tables, t.values.length ≤ 9223372036854775807
theorem Pr.fits {p : Pr} (h : Fits p.d) : p.Fit := by
  have h := Fits.agg h
  refine ⟨?_, ?_, ?_, ?_, ?_, ?_⟩
  · simpa using (h (.sl 3 (p.params.map Bd.cs)) (by simp)).sl.1
  · simpa using (h (.sl 3 (p.states.map Bd.cs)) (by simp)).sl.1
  · simpa using (h (.sl 4 (p.lines.map Ln.cs)) (by simp)).sl.1
  · simpa using (h (.sl 2 (p.tables.map Tb.cs)) (by simp)).sl.1
  · simpa using (h (.sl 8 (p.stmts.map Sm.cs)) (by simp)).sl.1
  · intro t ht
    have := (h (.sl 2 (p.tables.map Tb.cs)) (by simp)).sl.2 (Tb.cs t) (List.mem_map_of_mem ht)
    simpa using (this.2 (ints t.values) (by simp)).sl.1
/-- Few enough declarations for every sum of their numbers. -/
structure Pr.Small (p : Pr) : Prop where
  params : p.params.length ≤ 67108864
  states : p.states.length ≤ 67108864
  lines : p.lines.length ≤ 67108864
  tables : p.tables.length ≤ 67108864
  stmts : p.stmts.length ≤ 67108864
end Go.Fw
namespace Go.Fw
set_option linter.unusedSectionVars false
variable [GlobInt]
abbrev Str := List UInt8
abbrev Pr.none : Pr := ⟨[], 0, 0, [], [], [], [], []⟩
abbrev Ex.none : Ex := ⟨0, [], 0, 0, []⟩
end Go.Fw
namespace Go.Fw.Ref15
def findFrom (s : Str) : List Str → Int → Int
  | [], _ => -1
  | x :: r, i => if x == s then i else findFrom s r (i + 1)
def find (l : List Str) (s : Str) : Int := findFrom s l 0
def parts (k : Int) : Int :=
  if k == 1 || k == 2 || k == 3 || k == 4 || k == 5 then 0
  else if k == 6 || k == 7 || k == 10 || k == 13 || k == 14 || k == 8 || k == 9 || k == 18 then 1
  else if k == 11 || k == 12 || k == 15 || k == 16 || k == 17 then 2
  else if k == 19 then 4 else -1
def named (k : Int) : Bool := k == 2 || k == 3 || k == 4 || k == 5 || k == 8 || k == 9
mutual
def formed : Ex → Bool
  | .mk k n _ m l => !((l.length : Int) != parts k || (!named k && n != []) || decide (m < 0)) && !(k != 1 && k != 18 && m != 0) && formeds l
def formeds : List Ex → Bool
  | [] => true
  | x :: r => formed x && formeds r
end
theorem formed_eq (x : Ex) : formed x = (!((x.l.length : Int) != parts x.kind || (!named x.kind && x.name != []) || decide (x.n < 0)) && !(x.kind != 1 && x.kind != 18 && x.n != 0) && formeds x.l) := by
  cases x; rw [formed]; rfl
mutual
def nodes : Ex → Nat
  | .mk _ _ _ _ l => 1 + nodesL l
def nodesL : List Ex → Nat
  | [] => 0
  | x :: r => nodes x + nodesL r
end
theorem nodes_eq (x : Ex) : nodes x = 1 + nodesL x.l := by cases x; rw [nodes]; rfl
def stmtOk (s : Sm) : Bool := !(decide (s.kind < 1) || decide (s.kind > 4) || (s.kind == 4 && s.name != []) || !formed s.x)
def Formed (p : Pr) : Bool := p.stmts.all stmtOk
def lineOk (l : Ln) : Bool := !(decide (l.size < 1) || decide (l.size > 65536))
def tableOk (t : Tb) : Bool := !(decide ((t.values.length : Int) < 1) || decide ((t.values.length : Int) > 1024))
def exprOk (s : Sm) : Bool := !decide ((nodes s.x : Int) > 512)
def few (p : Pr) : Bool := !(decide ((p.params.length : Int) > 16) || decide ((p.states.length : Int) > 16) || decide ((p.lines.length : Int) > 16) || decide ((p.tables.length : Int) > 16) || decide ((p.stmts.length : Int) > 64))
def memOk (p : Pr) : Bool := decide (p.latency ≥ 0) && decide (p.latency ≤ 4096) && decide (p.tail ≥ -1) && decide (p.tail ≤ 1048576)
def limited (p : Pr) : Bool := few p && p.lines.all lineOk && p.tables.all tableOk && p.stmts.all exprOk && memOk p
def bounds (l : List Bd) : List Str := l.map (·.name)
def lines (p : Pr) : List Str := p.lines.map (·.name)
def tables (p : Pr) : List Str := p.tables.map (·.name)
def lets (l : List Sm) : List Str := (l.filter fun s => s.kind == 1).map (·.name)
def Declared (p : Pr) : List Str := bounds p.params ++ bounds p.states ++ lines p ++ tables p ++ lets p.stmts
def between (lo hi : Int) : Bool := decide (lo ≥ -2147483648) && decide (lo ≤ hi) && decide (hi ≤ 2147483647)
mutual
def numbers : Ex → Bool
  | .mk k _ _ m l => !(decide (m > 2147483648) || (k == 18 && decide (m < 1))) && numbersL l
def numbersL : List Ex → Bool
  | [] => true
  | x :: r => numbers x && numbersL r
end
theorem numbers_eq (x : Ex) : numbers x = (!(decide (x.n > 2147483648) || (x.kind == 18 && decide (x.n < 1))) && numbersL x.l) := by cases x; rw [numbers]; rfl
def ranged (p : Pr) : Bool := (p.params.all fun b => between b.lo b.hi) && (p.states.all fun b => between b.lo b.hi) && (p.lines.all fun b => between b.lo b.hi) && (p.tables.all fun t => t.values.all fun v => between v v) && p.stmts.all fun s => numbers s.x
def givenFrom (name : Str) : List Sm → Int → Int
  | [], _ => -1
  | s :: r, i => if s.kind == 1 && s.name == name then i else givenFrom name r (i + 1)
def given (p : Pr) (name : Str) (before : Nat) : Int := givenFrom name (p.stmts.take before) 0
def value (p : Pr) (name : Str) (before : Nat) : Ex × Bool :=
  let i := find (bounds p.params) name
  if decide (i < 0) then
    let j := find (bounds p.states) name
    if decide (j < 0) then
      let k := given p name before
      (⟨5, name, k, 0, []⟩, decide (k ≥ 0))
    else (⟨4, name, j, 0, []⟩, decide (j ≥ 0))
  else (⟨3, name, i, 0, []⟩, decide (i ≥ 0))
end Go.Fw.Ref15
namespace Go.Fw
abbrev D.u8 (c : UInt8) : D := .val (.int .u8 (c.toNat : Int))
end Go.Fw
namespace Go.Fw.Ref03
def letter (c : UInt8) : Bool := (decide ((c.toNat : Int) ≥ 97) && decide ((c.toNat : Int) ≤ 122)) || (decide ((c.toNat : Int) ≥ 65) && decide ((c.toNat : Int) ≤ 90))
def figure (c : UInt8) : Bool := decide ((c.toNat : Int) ≥ 48) && decide ((c.toNat : Int) ≤ 57)
def part (c : UInt8) : Bool := letter c || figure c || (c.toNat : Int) == 95
def name (s : Str) : Bool := !(decide ((s.length : Int) < 1) || decide ((s.length : Int) > 32) || !letter (s.getD 0 0)) && s.all part
end Go.Fw.Ref03
namespace Go.Fw.Ref15
def words : List Str := [[112, 114, 111, 99, 101, 115, 115, 111, 114], [108, 97, 116, 101, 110, 99, 121], [116, 97, 105, 108], [102, 111, 114, 101, 118, 101, 114], [112, 97, 114, 97, 109], [115, 116, 97, 116, 101], [108, 105, 110, 101], [116, 97, 98, 108, 101], [102, 114, 111, 109], [116, 111], [108, 101, 116], [115, 101, 116], [112, 117, 115, 104], [111, 117, 116], [105, 102], [116, 104, 101, 110], [101, 108, 115, 101], [105, 110], [115, 105, 100, 101], [116, 97, 112], [108, 111, 111, 107], [115, 97, 116], [109, 105, 110], [109, 97, 120], [97, 98, 115]]
def exIndex (p : Pr) (x : Ex) : Int := if x.kind == 9 then find (tables p) x.name else if x.kind == 8 then find (lines p) x.name else 0
mutual
def resolved (p : Pr) (b : Nat) : Ex → Ex × Bool
  | .mk k n i m l => if named k && k != 8 && k != 9 then value p n b
    else (⟨k, n, exIndex p ⟨k, n, i, m, l⟩, m, (resolvedL p b l).1⟩, decide (exIndex p ⟨k, n, i, m, l⟩ ≥ 0) && (resolvedL p b l).2)
def resolvedL (p : Pr) (b : Nat) : List Ex → List Ex × Bool
  | [] => ([], true)
  | x :: r => ((resolved p b x).1 :: (resolvedL p b r).1, (resolved p b x).2 && (resolvedL p b r).2)
end
theorem resolved_eq (p : Pr) (b : Nat) (x : Ex) : resolved p b x = if named x.kind && x.kind != 8 && x.kind != 9 then value p x.name b
    else (⟨x.kind, x.name, exIndex p x, x.n, (resolvedL p b x.l).1⟩, decide (exIndex p x ≥ 0) && (resolvedL p b x.l).2) := by cases x; rw [resolved]; rfl
def again (p : Pr) (i : Nat) (s : Sm) : Bool := (p.stmts.take i).any fun t => t.kind == 4 || (s.kind != 1 && t.kind == s.kind && t.name == s.name)
def nameOk (s : Str) : Bool := !(!Ref03.name s || decide (find words s ≥ 0))
def uniqueFrom (l : List Str) : List Str → Int → Bool
  | [], _ => true
  | s :: r, i => !(find l s != i) && uniqueFrom l r (i + 1)
def smIndex (p : Pr) (s : Sm) : Int := if s.kind == 3 then find (lines p) s.name else if s.kind == 2 then find (bounds p.states) s.name else 0
def resolveL (p : Pr) : List Sm → Nat → Bool → Except Int (List Sm)
  | [], _, out => if !out then .error 150 else .ok []
  | s :: r, i, _ =>
    if !(resolved p i s.x).2 then .error 150
    else if decide (smIndex p s < 0) then .error 150
    else if again p i s then .error 151
    else match resolveL p r (i + 1) (s.kind == 4) with
      | .error e => .error e
      | .ok l => .ok (⟨s.kind, s.name, smIndex p s, (resolved p i s.x).1⟩ :: l)
def fin (p : Pr) (done : List Sm) : Except Int (List Sm) → Pr × Int
  | .error e => (Pr.none, e)
  | .ok l => ({ p with stmts := done ++ l }, 0)
def Resolve (p : Pr) : Pr × Int :=
  if !Formed p then (Pr.none, 1)
  else if !limited p then (Pr.none, 2)
  else if !nameOk p.name then (Pr.none, 150)
  else if !(Declared p).all nameOk then (Pr.none, 150)
  else if !uniqueFrom (Declared p) (Declared p) 0 then (Pr.none, 151)
  else if !ranged p then (Pr.none, 161)
  else fin p [] (resolveL p p.stmts 0 false)
mutual
def SameExpr : Ex → Ex → Bool
  | .mk k n i m l, b => if k != b.kind || n != b.name || i != b.index || m != b.n || (l.length : Int) != b.l.length then false else sameL l b.l
def sameL : List Ex → List Ex → Bool
  | [], _ => true
  | x :: r, l => SameExpr x (l.headD Ex.none) && sameL r l.tail
end
theorem SameExpr_eq (a b : Ex) : SameExpr a b = if a.kind != b.kind || a.name != b.name || a.index != b.index || a.n != b.n || (a.l.length : Int) != b.l.length then false else sameL a.l b.l := by cases a; rw [SameExpr]; rfl
end Go.Fw.Ref15
namespace Go.Fw.Ref15
def bdsOk (l : List Bd) : Bool := l.all fun b => between b.lo b.hi
def lnsOk (l : List Ln) : Bool := l.all fun b => between b.lo b.hi
def valsOk (l : List Int) : Bool := l.all fun v => between v v
def tbsOk (l : List Tb) : Bool := l.all fun t => valsOk t.values
def smsOk (l : List Sm) : Bool := l.all fun s => numbers s.x
theorem ranged_eq (p : Pr) : ranged p = (bdsOk p.params && (bdsOk p.states && (lnsOk p.lines && (tbsOk p.tables && smsOk p.stmts)))) := by
  simp only [ranged, bdsOk, lnsOk, tbsOk, valsOk, smsOk, Bool.and_assoc]
theorem limited_eq (p : Pr) : limited p = (few p && (p.lines.all lineOk && (p.tables.all tableOk && (p.stmts.all exprOk && memOk p)))) := by
  simp only [limited, Bool.and_assoc]
end Go.Fw.Ref15
namespace Go.Fw.Ref15
theorem len_nodes : ∀ l : List Ex, l.length ≤ nodesL l
  | [] => Nat.le_refl _
  | x :: r => by
    have h1 := len_nodes r
    have h2 : 1 ≤ nodes x := by rw [nodes_eq]; omega
    simp only [nodesL, List.length_cons]; omega
theorem fin_cons {p : Pr} {done : List Sm} {t : Sm} {e : Except Int (List Sm)} : fin p done (match e with | .error e => .error e | .ok l => .ok (t :: l)) = fin p (done ++ [t]) e := by
  cases e <;> simp [fin]
theorem sameL_zip : ∀ {l m : List Ex}, l.length = m.length → sameL l m = (l.zip m).all fun q => SameExpr q.1 q.2
  | [], [], _ => rfl
  | x :: r, y :: s, h => by
    simp only [List.zip_cons_cons, List.all_cons, sameL, List.headD_cons, List.tail_cons]
    rw [sameL_zip (by simpa using h)]
def bdSame (q : Bd × Bd) : Bool := Go.Fw.sameL q.1.cs q.2.cs
def lnSame (q : Ln × Ln) : Bool := Go.Fw.sameL q.1.cs q.2.cs
def sameBounds (l m : List Bd) : Bool := !((l.length : Int) != (m.length : Int)) && (l.zip m).all bdSame
def tbSame (q : Tb × Tb) : Bool := !(q.1.name != q.2.name || (q.1.values.length : Int) != (q.2.values.length : Int)) && (q.1.values.zip q.2.values).all fun v => !(v.1 != v.2)
def heads (a b : Pr) : Bool := !(a.name != b.name || a.latency != b.latency || a.tail != b.tail || !sameBounds a.params b.params || !sameBounds a.states b.states || (a.lines.length : Int) != (b.lines.length : Int) || (a.tables.length : Int) != (b.tables.length : Int))
def SameDecls (a b : Pr) : Bool := heads a b && ((a.lines.zip b.lines).all lnSame && (a.tables.zip b.tables).all tbSame)
def smSame (q : Sm × Sm) : Bool := !(q.1.kind != q.2.kind || q.1.name != q.2.name || q.1.index != q.2.index || !SameExpr q.1.x q.2.x)
def Same (a b : Pr) : Bool := !(!SameDecls a b || (a.stmts.length : Int) != (b.stmts.length : Int)) && (a.stmts.zip b.stmts).all smSame
def few1 : List Sm → Int → Int
  | [], n => n
  | s :: r, n => if decide (n < 3000) then few1 r (n + (nodes s.x : Nat)) else n
def few2 : List Tb → Int → Int
  | [], n => n
  | t :: r, n => if decide (n < 3000) then few2 r (n + (t.values.length : Nat)) else n
def fewEnd (p : Pr) (n : Int) : Bool := decide (n < 3000) && decide ((p.stmts.length : Int) ≤ 80)
def Few (p : Pr) : Bool := fewEnd p (few2 p.tables (few1 p.stmts ((p.params.length : Int) + p.states.length + p.lines.length + p.tables.length + p.stmts.length)))
end Go.Fw.Ref15
namespace Go.Fw.Ref15
theorem declared_len (p : Pr) : (Declared p).length ≤ p.params.length + p.states.length + p.lines.length + p.tables.length + p.stmts.length := by
  simp only [Declared, List.length_append, bounds, lines, tables, lets, List.length_map]
  have := List.length_filter_le (fun s : Sm => s.kind == 1) p.stmts
  omega
end Go.Fw.Ref15
namespace Go.Fw.Nam
set_option linter.unusedSectionVars false
variable [GlobInt]
def arity (k : Int) : Int × Bool :=
  if k == 1 then (0, false)
  else if k == 2 || k == 3 || k == 4 || k == 5 then (0, true)
  else if k == 8 || k == 9 then (1, true)
  else if k == 6 || k == 7 || k == 10 || k == 13 || k == 14 || k == 18 then (1, false)
  else if k == 11 || k == 12 || k == 15 || k == 16 || k == 17 then (2, false)
  else if k == 19 then (4, false) else (-1, false)
def sample (n : Int) : Bool := decide (n ≥ -2147483648) && decide (n ≤ 2147483647)
mutual
def every (f : Ex → Bool) : Ex → Bool
  | .mk k n i m l => f (.mk k n i m l) && everyL f l
def everyL (f : Ex → Bool) : List Ex → Bool
  | [] => true
  | x :: r => every f x && everyL f r
end
theorem every_eq (f : Ex → Bool) (x : Ex) : every f x = (f x && everyL f x.l) := by cases x; rw [every]; rfl
def formed1 (x : Ex) : Bool := (x.l.length : Int) == (arity x.kind).1 && ((arity x.kind).2 || x.name == []) && decide (x.n ≥ 0) && ((x.kind == 1 || x.kind == 18) || x.n == 0)
def stmt1 (s : Sm) : Bool := decide (s.kind ≥ 1) && decide (s.kind ≤ 4) && (s.kind != 4 || s.name == [])
def formed (p : Pr) : Bool := p.stmts.all fun s => stmt1 s && every formed1 s.x
def ranged2 (x : Ex) : Bool := decide (x.n ≤ 2147483648) && (x.kind != 18 || decide (x.n > 0))
end Go.Fw.Nam
namespace Go.Fw.Nam
def badFrom : List Int → Int → Int
  | [], _ => -1
  | v :: r, i => if !sample v then i else badFrom r (i + 1)
def bad (l : List Int) : Bool := decide (badFrom l 0 ≥ 0)
end Go.Fw.Nam
namespace Go.Fw.Nam
def most (p : Pr) : Int := mm2 true (mm2 true (mm2 true (p.params.length : Int) p.states.length) p.lines.length) p.tables.length
def head1 (p : Pr) : Bool := decide (most p ≤ 16) && decide ((p.stmts.length : Int) ≤ 64) && decide (p.latency ≥ 0) && decide (p.latency ≤ 4096) && decide (p.tail ≥ -1) && decide (p.tail ≤ 1048576)
def ln1 (l : Ln) : Bool := decide (l.size ≥ 1) && decide (l.size ≤ 65536)
def tb1 (t : Tb) : Bool := decide ((t.values.length : Int) ≥ 1) && decide ((t.values.length : Int) ≤ 1024)
def sm1 (s : Sm) : Bool := decide ((Ref15.nodes s.x : Int) ≤ 512)
def limited (p : Pr) : Bool := head1 p && (p.lines.all ln1 && (p.tables.all tb1 && p.stmts.all sm1))
end Go.Fw.Nam
namespace Go.Fw
set_option linter.unusedSectionVars false
variable [GlobInt]

theorem BrI.tt {p q : Prop} (h : p) : BrI true p q := BrI.intro (fun _ => h) (fun e => by simp at e)
theorem BrI.ff {p q : Prop} (h : q) : BrI false p q := BrI.intro (fun e => by simp at e) (fun _ => h)

theorem drop_lt {α : Type} {l : List α} {i : Nat} {x : α} {r : List α} (h : l.drop i = x :: r) : i < l.length := by
  rcases Nat.lt_or_ge i l.length with h1 | h1
  · exact h1
  · rw [List.drop_eq_nil_of_le h1] at h; simp at h
/-- A loop over a list, with an index in a slot. -/
abbrev rangeL {α β : Type} (l : List α) (slot : Nat) (ev : β → Env) (hv : β → Heap) (keep : List Nat) (I : Nat → List α → β → Prop) : Loop where
  S := Nat × List α × β
  ev s := match s with | (i, _, b) => (slot, .data (.val (.int .i64 (i : Int)))) :: ev b
  hv s := match s with | (_, _, b) => hv b
  keep := keep
  I s := match s with | (i, r, b) => l.drop i = r ∧ I i r b
  μ s := match s with | (_, r, _) => r.length

theorem rangeL_rule {α β : Type} {l : List α} {slot : Nat} {ev : β → Env} {hv : β → Heap} {keep : List Nat} {I : Nat → List α → β → Prop} {E F : Nat × List α × β → Prop} (b : β)
    (hW : E (0, l, b)) (hI : I 0 l b) (h0 : ∀ i b, l.drop i = [] → I i [] b → F (i, [], b)) (h1 : ∀ i x r b, l.drop i = x :: r → i < l.length → I i (x :: r) b → F (i, x :: r, b)) :
    (∃ s, (rangeL l slot ev hv keep I).I s ∧ E s) ∧ ∀ s, (rangeL l slot ev hv keep I).I s → F s := by
  refine ⟨⟨(0, l, b), ⟨rfl, hI⟩, hW⟩, ?_⟩
  rintro ⟨i, r, b⟩ ⟨hd, h⟩
  cases r with
  | nil => exact h0 i b hd h
  | cons x r => exact h1 i x r b hd (drop_lt hd) h

theorem drop_next {α : Type} {l : List α} {i : Nat} {x : α} {r : List α} (h : l.drop i = x :: r) : l.drop (i + 1) = r := by
  have h1 := drop_lt h
  rw [List.drop_eq_getElem_cons h1] at h
  exact (List.cons.inj h).2
theorem drop_get {α : Type} {l : List α} {i : Nat} {x : α} {r : List α} (h : l.drop i = x :: r) : l[i]? = some x := by
  have h1 := drop_lt h
  rw [List.drop_eq_getElem_cons h1] at h
  rw [List.getElem?_eq_getElem h1, (List.cons.inj h).1]
theorem drop_mem {α : Type} {l : List α} {i : Nat} {x : α} {r : List α} (h : l.drop i = x :: r) : x ∈ l := List.mem_of_getElem? (drop_get h)
theorem drop_ge {α : Type} {l : List α} {i : Nat} (h : l.drop i = []) : l.length ≤ i := by simpa using h

/-- The head of such a loop. -/
theorem range_nil {α β : Type} {l : List α} {f : α → β} {i : Nat} (h : l.drop i = []) : decide ((i : Int) < ((l.map f).length : Int)) = false := by
  have := drop_ge h
  simp; omega
theorem range_cons {α β : Type} {l : List α} {f : α → β} {i : Nat} {x : α} {r : List α} (h : l.drop i = x :: r) : decide ((i : Int) < ((l.map f).length : Int)) = true := by
  have := drop_lt h
  simp; omega
theorem br_nil {α β : Type} {l : List α} {f : α → β} {i : Nat} {p q : Prop} (h : l.drop i = []) (hq : q) : BrI (decide ((i : Int) < ((l.map f).length : Int))) p q := by
  rw [range_nil h]; exact BrI.ff hq
theorem br_cons {α β : Type} {l : List α} {f : α → β} {i : Nat} {x : α} {r : List α} {p q : Prop} (h : l.drop i = x :: r) (hp : p) : BrI (decide ((i : Int) < ((l.map f).length : Int))) p q := by
  rw [range_cons h]; exact BrI.tt hp
theorem idx_drop {α β : Type} {l : List α} {f : α → β} {i : Nat} {x : α} {r : List α} (h : l.drop i = x :: r) : 0 ≤ (i : Int) ∧ (l.map f)[(i : Int).toNat]? = some (f x) :=
  ⟨by omega, by simp [drop_get h]⟩
theorem idx_next {α : Type} {l : List α} {i : Nat} {x : α} {r : List α} (h : l.drop i = x :: r) (hl : l.length ≤ 9223372036854775807) : AV.data (.val (.int .i64 (IntKind.i64.wrap ((i : Int) + 1)))) = AV.data (.val (.int .i64 ((i + 1 : Nat) : Int))) := by
  have := drop_lt h
  rw [wrap_ok (by omega) (by omega)]; rfl
theorem rangeL_next {α β : Type} {l : List α} {slot : Nat} {ev : β → Env} {hv : β → Heap} {keep : List Nat} {I : Nat → List α → β → Prop} {E : Nat × List α × β → Prop} {i : Nat} {x : α} {r : List α} {b0 : β} (hd : l.drop i = x :: r) (b : β)
    (hW : E (i + 1, r, b)) (hI : I (i + 1) r b) :
    ∃ s, (rangeL l slot ev hv keep I).I s ∧ (rangeL l slot ev hv keep I).μ s < (rangeL l slot ev hv keep I).μ (i, x :: r, b0) ∧ E s :=
  ⟨(i + 1, r, b), ⟨drop_next hd, hI⟩, Nat.lt_succ_self _, hW⟩

/-! Lists that grow. -/
theorem gs_snoc {α : Type} {l : List α} {f : α → List D} {x : α} {id sz : Nat} : AV.gs id sz (l.map f ++ [f x]) = AV.gs id sz ((l ++ [x]).map f) := by simp
theorem gs_app {α : Type} {l m : List α} {f : α → List D} {id sz : Nat} : AV.gs id sz (l.map f ++ m.map f) = AV.gs id sz ((l ++ m).map f) := by simp
theorem gs_nil {α : Type} {f : α → List D} {id sz : Nat} : AV.gs id sz [] = AV.gs id sz (([] : List α).map f) := rfl
theorem tok_snoc {α : Type} {l : List α} {f : α → List D} {x : α} {sz : Nat} : Block.tok sz (l.map f ++ [f x]).length = Block.tok sz ((l ++ [x]).map f).length := by simp
theorem tok_app {α : Type} {l m : List α} {f : α → List D} {sz : Nat} : Block.tok sz (l.map f ++ m.map f).length = Block.tok sz ((l ++ m).map f).length := by simp
theorem chk_step {T : Tbl} {ops : Array Oper} {env : Env} {K : Heap} {tr : List Rec} {q : Prop} (h : chk T ops env K tr = true) (hq : q) : chk T ops env K tr = true ∧ q := ⟨h, hq⟩

/-! Expressions. -/
theorem br_nil_e {l : List Ex} {i : Nat} {p q : Prop} (h : l.drop i = []) (hq : q) : BrI (decide ((i : Int) < ((Ex.css l).length : Int))) p q := by
  rw [Ex.css_eq]; exact br_nil h hq
theorem br_cons_e {l : List Ex} {i : Nat} {x : Ex} {r : List Ex} {p q : Prop} (h : l.drop i = x :: r) (hp : p) : BrI (decide ((i : Int) < ((Ex.css l).length : Int))) p q := by
  rw [Ex.css_eq]; exact br_cons h hp
theorem idx_drop_e {l : List Ex} {i : Nat} {x : Ex} {r : List Ex} (h : l.drop i = x :: r) : 0 ≤ (i : Int) ∧ (Ex.css l)[(i : Int).toNat]? = some (Ex.cs x) := by
  rw [Ex.css_eq]; exact idx_drop h
theorem Ex.css_len (l : List Ex) : (Ex.css l).length = l.length := by rw [Ex.css_eq]; simp

theorem wrap_nat {a b : Nat} (h : a + b ≤ 9223372036854775807) : IntKind.i64.wrap ((a : Int) + (b : Int)) = ((a + b : Nat) : Int) := by
  rw [wrap_ok (by omega) (by omega)]; omega

/-! The shapes at which a walk stops. -/
theorem idx_step {k : Bool} {a b : Nat} {n : Int} {es : List (List D)} {q : List D → Prop} (h1 : k = true) (h2 : a = b) (c : List D) (h3 : 0 ≤ n ∧ es[n.toNat]? = some c) (h4 : q c) : (k = true ∧ a = b) ∧ ∃ c, (0 ≤ n ∧ es[n.toNat]? = some c) ∧ q c := ⟨⟨h1, h2⟩, c, h3, h4⟩
theorem str_step {n : Int} {s : List UInt8} {q : UInt8 → Prop} (c : UInt8) (h3 : 0 ≤ n ∧ s[n.toNat]? = some c) (h4 : q c) : ∃ c, (0 ≤ n ∧ s[n.toNat]? = some c) ∧ q c := ⟨c, h3, h4⟩
theorem len_step {cs : List D} {t : TI} {q : Prop} (h1 : cs.length = t.size) (h : q) : cs.length = t.size ∧ q := ⟨h1, h⟩
theorem app_step {a b c n m x y z : Nat} {q : Prop} (h1 : a = b) (h2 : b = c) (h3 : n = m) (h4 : x * y ≤ z) (h : q) : (a = b ∧ b = c ∧ n = m) ∧ x * y ≤ z ∧ q := ⟨⟨h1, h2, h3⟩, h4, h⟩
theorem nil_step {a b x y z : Nat} {q : Prop} (h1 : a = b) (h4 : x * y ≤ z) (h : q) : a = b ∧ x * y ≤ z ∧ q := ⟨h1, h4, h⟩
theorem guard_step {p g : Bool} {A B : AV → Prop} (h1 : p = true) (v : AV) (h2 : g = true → A v) (h3 : B v) : p = true ∧ ∃ v, (g = true → A v) ∧ B v := ⟨h1, v, h2, h3⟩
theorem val_step {a v : AV} {b c : Heap} (h : a = v) (h2 : b = c) : a = v ∧ b = c := ⟨h, h2⟩
theorem same_step {b c : Heap} {q : Prop} (h : b = c) (h2 : q) : b = c ∧ q := ⟨h, h2⟩
theorem call_step {A M : DOut → Prop} {V : Prop} (out : DOut) (h : A out) (h2 : M out) : (∃ out, A out ∧ M out) ∨ V := .inl ⟨out, h, h2⟩
theorem ret_step {T : Tbl} {rs : List ResultVar} {K0 K K1 : Heap} {out : AOut} {env : Env} {q : Prop} (h : finR T rs K0 out K1 env K) : finR T rs K0 out K1 env K ∨ q := .inl h
theorem fin_step {K0 K K1 : Heap} {x y : AV} (h1 : finOk [] K0 K1 y = true) (h2 : covA K (mapRn [] (keys K1)) [] 100 x y) (h3 : covH K (mapRn [] (keys K1)) [] K1) : ∃ τ, finOk τ K0 K1 y = true ∧ covA K (mapRn τ (keys K1)) τ 100 x y ∧ covH K (mapRn τ (keys K1)) τ K1 := ⟨[], h1, h2, h3⟩

theorem gs_eq {id id' sz sz' : Nat} {es es' : List (List D)} (h0 : id = id') (h : sz = sz') (h2 : es = es') : AV.gs id sz es = AV.gs id' sz' es' := by rw [h0, h, h2]
theorem tok_eq {sz sz' : Nat} {es es' : List (List D)} (h : sz = sz') (h2 : es = es') : Block.tok sz es.length = Block.tok sz' es'.length := by rw [h, h2]
theorem map_snoc {α : Type} {l : List α} {f : α → List D} {x : α} : l.map f ++ [f x] = (l ++ [x]).map f := by simp
theorem map_app {α : Type} {l m : List α} {f : α → List D} : l.map f ++ m.map f = (l ++ m).map f := by simp
theorem map_app3 {α : Type} {l m k : List α} {f : α → List D} : l.map f ++ m.map f ++ k.map f = (l ++ m ++ k).map f := by simp
theorem map_app4 {α : Type} {l m k o : List α} {f : α → List D} : l.map f ++ m.map f ++ k.map f ++ o.map f = (l ++ m ++ k ++ o).map f := by simp
theorem app_le {a y b : Nat} (h1 : a ≤ 1073741824) (h2 : y ≤ 1073741824) (h3 : Nat.ble b 65536 = true) : (a + y) * b ≤ 140737488355328 :=
  Nat.le_trans (Nat.mul_le_mul (show a + y ≤ 2147483648 by omega) (Nat.le_of_ble_eq_true h3)) (by decide)
theorem app_le0 {y b : Nat} (h2 : y ≤ 1073741824) (h3 : Nat.ble b 65536 = true) : y * b ≤ 140737488355328 :=
  Nat.le_trans (Nat.mul_le_mul (show y ≤ 2147483648 by omega) (Nat.le_of_ble_eq_true h3)) (by decide)
theorem ble_le {a b : Nat} (h : Nat.ble a b = true) : a ≤ b := Nat.le_of_ble_eq_true h

theorem app_step' {a b c n m x y w : Nat} {q : Prop} (h1 : a = b) (h2 : b = c) (h3 : n = m) (hb : Nat.ble w 65536 = true) (hx : x ≤ 1073741824) (hy : y ≤ 1073741824) (h : q) : (a = b ∧ b = c ∧ n = m) ∧ (x + y) * w ≤ 140737488355328 ∧ q := ⟨⟨h1, h2, h3⟩, app_le hx hy hb, h⟩
theorem nil_step' {a b x y : Nat} {q : Prop} (h1 : a = b) (hb : Nat.ble y 65536 = true) (hx : x ≤ 1073741824) (h : q) : a = b ∧ x * y ≤ 140737488355328 ∧ q := ⟨h1, app_le0 hx hb, h⟩

theorem lent_step {B : FuncId → List AV → Heap → AOut → Heap → Prop} {L : List Nat} {f : FuncId} {as as0 : List AV} {env : Env} {K K0 K1 : Heap} {out : AOut} {next pan : Next} {Z : Prop} (ρ : List (Nat × Nat)) (h : B f as0 K0 out K1) (h1 : AV.ren.go ρ as0 = as) (h2 : Heap.sub ρ K K0) (h3 : lentOk ρ K0 K1 out.av env K L = true)
    (h4 : outGo ρ K1 K next pan out) : Z ∨ vLent B L f as env K next pan := .inr ⟨as0, K0, out, K1, ρ, h, h1, h2, h3, h4⟩
theorem lent_step' {B : FuncId → List AV → Heap → AOut → Heap → Prop} {L : List Nat} {f : FuncId} {as as0 : List AV} {env : Env} {K K0 K1 : Heap} {out : AOut} {next pan : Next} (ρ : List (Nat × Nat)) (h : B f as0 K0 out K1) (h1 : AV.ren.go ρ as0 = as) (h2 : Heap.sub ρ K K0) (h3 : lentOk ρ K0 K1 out.av env K L = true)
    (h4 : outGo ρ K1 K next pan out) :
    ∃ (as0 : List AV) (K0 : Heap) (out : AOut) (K1 : Heap) (ρ : List (Nat × Nat)), B f as0 K0 out K1 ∧ AV.ren.go ρ as0 = as ∧ Heap.sub ρ K K0 ∧ lentOk ρ K0 K1 out.av env K L = true ∧
    outGo ρ K1 K next pan out := ⟨as0, K0, out, K1, ρ, h, h1, h2, h3, h4⟩
theorem fin_step' {K0 K K1 : Heap} {x y : AV} (τ : List (Nat × Nat)) (h1 : finOk τ K0 K1 y = true) (h2 : covA K (mapRn τ (keys K1)) τ 100 x y) (h3 : covH K (mapRn τ (keys K1)) τ K1) : ∃ τ, finOk τ K0 K1 y = true ∧ covA K (mapRn τ (keys K1)) τ 100 x y ∧ covH K (mapRn τ (keys K1)) τ K1 := ⟨τ, h1, h2, h3⟩

theorem gs_ren {τ : List (Nat × Nat)} {id id' sz sz' : Nat} {es es' : List (List D)} (h : id = rn τ id') (h0 : sz = sz') (h1 : es = es') : AV.gs id sz es = AV.ren τ (AV.gs id' sz' es') := by
  subst h h0 h1; simp only [AV.ren]

theorem ren_guard {τ : List (Nat × Nat)} {x y : AV} (h : x = AV.ren τ y) : x = AV.ren τ y := h

/-! Loops up to a number; strings; parts of lists. -/
theorem br_nil_k {α : Type} {l : List α} {i k : Nat} {p q : Prop} (h : l.drop i = []) (hk : l.length = k) (hq : q) : BrI (decide ((i : Int) < (k : Int))) p q := by
  have := drop_ge h
  rw [show decide ((i : Int) < (k : Int)) = false by simp; omega]; exact BrI.ff hq
theorem br_cons_k {α : Type} {l : List α} {i k : Nat} {x : α} {r : List α} {p q : Prop} (h : l.drop i = x :: r) (hk : l.length = k) (hp : p) : BrI (decide ((i : Int) < (k : Int))) p q := by
  have := drop_lt h
  rw [show decide ((i : Int) < (k : Int)) = true by simp; omega]; exact BrI.tt hp
theorem br_nil_and {α β : Type} {l : List α} {f : α → β} {i : Nat} {c : Bool} {p q : Prop} (h : l.drop i = []) (hq : q) : BrI (bif decide ((i : Int) < ((l.map f).length : Int)) then c else false) p q := by
  rw [range_nil h]; exact BrI.ff hq
theorem br_cons_and {α β : Type} {l : List α} {f : α → β} {i : Nat} {x : α} {r : List α} {c : Bool} {p q : Prop} (h : l.drop i = x :: r) (hp : BrI c p q) : BrI (bif decide ((i : Int) < ((l.map f).length : Int)) then c else false) p q := by
  rw [range_cons h]; exact hp
theorem idx_take {α β : Type} {l : List α} {f : α → β} {i k : Nat} {x : α} {r : List α} (h : (l.take k).drop i = x :: r) : 0 ≤ (i : Int) ∧ (l.map f)[(i : Int).toNat]? = some (f x) := by
  have h1 := drop_get h
  have h2 := drop_lt h
  rw [List.length_take] at h2
  rw [List.getElem?_take] at h1
  refine ⟨by omega, ?_⟩
  split at h1
  · simp [h1]
  · simp at h1
theorem idx_get {α β : Type} {l : List α} {f : α → β} {i : Nat} {x : α} (h : l[i]? = some x) : 0 ≤ (i : Int) ∧ (l.map f)[(i : Int).toNat]? = some (f x) := ⟨by omega, by simp [h]⟩
theorem idx_str {l : List UInt8} {i : Nat} {x : UInt8} {r : List UInt8} (h : l.drop i = x :: r) : 0 ≤ (i : Int) ∧ l[(i : Int).toNat]? = some x := ⟨by omega, by simp [drop_get h]⟩
theorem idx_getD {l : List UInt8} {n : Int} (h0 : 0 ≤ n) (h : n < l.length) : 0 ≤ n ∧ l[n.toNat]? = some (l.getD n.toNat 0) := by
  refine ⟨h0, ?_⟩
  have : n.toNat < l.length := by omega
  rw [List.getD_eq_getElem?_getD, List.getElem?_eq_getElem this]; rfl
theorem Ex.css_map (l : List Ex) : l.map Ex.cs = Ex.css l := (Ex.css_eq l).symm

theorem zip_get {α β : Type} {l : List α} {m : List β} {i : Nat} {x : α × β} {r : List (α × β)} (h : (l.zip m).drop i = x :: r) : l[i]? = some x.1 ∧ m[i]? = some x.2 := by
  have := drop_get h
  rw [List.getElem?_zip_eq_some] at this
  exact this
theorem idx_zip1 {α β γ : Type} {l : List α} {m : List β} {f : α → γ} {i : Nat} {x : α × β} {r : List (α × β)} (h : (l.zip m).drop i = x :: r) : 0 ≤ (i : Int) ∧ (l.map f)[(i : Int).toNat]? = some (f x.1) := idx_get (zip_get h).1
theorem idx_zip2 {α β γ : Type} {l : List α} {m : List β} {f : β → γ} {i : Nat} {x : α × β} {r : List (α × β)} (h : (l.zip m).drop i = x :: r) : 0 ≤ (i : Int) ∧ (m.map f)[(i : Int).toNat]? = some (f x.2) := idx_get (zip_get h).2
theorem idx_zip1e {l : List Ex} {m : List Ex} {i : Nat} {x : Ex × Ex} {r : List (Ex × Ex)} (h : (l.zip m).drop i = x :: r) : 0 ≤ (i : Int) ∧ (Ex.css l)[(i : Int).toNat]? = some (Ex.cs x.1) := by rw [Ex.css_eq]; exact idx_zip1 h
theorem idx_zip2e {l : List Ex} {m : List Ex} {i : Nat} {x : Ex × Ex} {r : List (Ex × Ex)} (h : (l.zip m).drop i = x :: r) : 0 ≤ (i : Int) ∧ (Ex.css m)[(i : Int).toNat]? = some (Ex.cs x.2) := by rw [Ex.css_eq]; exact idx_zip2 h
theorem zip_len {α β : Type} {l : List α} {m : List β} (h : l.length = m.length) : (l.zip m).length = l.length := by simp [h]
theorem idx_next_k {α : Type} {l : List α} {i : Nat} {x : α} {r : List α} (h : l.drop i = x :: r) {k : Nat} (hk : l.length = k) (hl : k ≤ 9223372036854775807) : AV.data (.val (.int .i64 (IntKind.i64.wrap ((i : Int) + 1)))) = AV.data (.val (.int .i64 ((i + 1 : Nat) : Int))) := idx_next h (by omega)

theorem str_idx {l : List UInt8} {i : Nat} {x : UInt8} {r : List UInt8} {q : UInt8 → Prop} (h : l.drop i = x :: r) (h4 : q x) : ∃ c, (0 ≤ (i : Int) ∧ l[(i : Int).toNat]? = some c) ∧ q c := ⟨x, idx_str h, h4⟩
theorem str_getD {l : List UInt8} {n : Int} {q : UInt8 → Prop} (h0 : 0 ≤ n) (h : n < l.length) (h4 : q (l.getD n.toNat 0)) : ∃ c, (0 ≤ n ∧ l[n.toNat]? = some c) ∧ q c := ⟨_, idx_getD h0 h, h4⟩

theorem nilgs_step {s s' id : Nat} {es : List (List D)} {e : Env} {K : Heap} (h1 : s = s') (h2 : es = []) (h3 : K.get id = none) (h4 : isLent id = false) (h5 : menE id e = false) (h6 : menH id K = false) : s = s' ∧ es = [] ∧ K.get id = none ∧ isLent id = false ∧ menE id e = false ∧ menH id K = false := ⟨h1, h2, h3, h4, h5, h6⟩
theorem tok0_step {b : Block} {id : Nat} {e : Env} {K : Heap} (h3 : b.isTok0 = true) (h4 : isLent id = false) (h5 : menE id e = false) (h6 : menH id K = false) : b.isTok0 = true ∧ isLent id = false ∧ menE id e = false ∧ menH id K = false := ⟨h3, h4, h5, h6⟩
theorem kok_step {a b : Bool} {q : Prop} (h1 : a = true) (h2 : b = true) (h : q) : (a = true ∧ b = true) ∧ q := ⟨⟨h1, h2⟩, h⟩

/-! What ends in a panic with an error's number, unless something holds. -/
def needOut (t : TypeId) (b : Bool) (e : Int) : DOut := match b with | true => .ret (.tuple []) | false => .pan (.iface t (.i e))
theorem need_step {A M : DOut → Prop} {V : Prop} {b : Bool} {e : Int} {t : TypeId} (hA : A (needOut t b e)) (h1 : b = true → M (.ret (.tuple []))) (h2 : b = false → M (.pan (.iface t (.i e)))) : (∃ out, A out ∧ M out) ∨ V := by
  refine .inl ⟨_, hA, ?_⟩
  cases b
  · exact h2 rfl
  · exact h1 rfl
theorem ret_need {T : Tbl} {rs : List ResultVar} {K0 K K1 : Heap} {env : Env} {q : Prop} {b : Bool} {e : Int} {t : TypeId} (hb : b = true) (h : finR T rs K0 (.ret (.data (.tuple []))) K1 env K) : finR T rs K0 (needOut t b e).toA K1 env K ∨ q := by
  subst hb; exact .inl h
theorem pan_need {K0 K K1 : Heap} {x : AV} {b : Bool} {e : Int} {t : TypeId} (hb : b = false) (h : fin K0 K x (.data (.iface t (.i e))) K1) : panR K0 K x K1 (needOut t b e).toA := by
  subst hb; unfold panR; exact h
theorem pan_step {K0 K K1 : Heap} {x : AV} {d : D} (h : fin K0 K x (.data d) K1) : panR K0 K x K1 (DOut.pan d).toA := by
  unfold panR; exact h
theorem pan_stepA {K0 K K1 : Heap} {x y : AV} (h : fin K0 K x y K1) : panR K0 K x K1 (.pan y) := by
  unfold panR; exact h
end Go.Fw
namespace Go.Fw.Nam
set_option linter.unusedSectionVars false
variable [GlobInt]
open Ref15
def signs : Str := [123, 125, 40, 41, 59, 44, 61, 58, 46, 60, 62, 33, 43, 45, 42, 47]
def cls (c : UInt8) : Int :=
  if Ref03.letter c then 2 else if Ref03.figure c then 3 else if (c.toNat : Int) == 95 then 5
  else if ((c.toNat : Int) == 32 || (c.toNat : Int) == 9 || (c.toNat : Int) == 10 || (c.toNat : Int) == 13) then 1
  else if decide (Lib.indexByte signs c ≥ 0) then 4 else 0
def clsOk (c : UInt8) : Bool := !(cls c != 2 && cls c != 3 && cls c != 5)
def lname (s : Str) : Bool := !((s == [] || decide ((s.length : Int) > 32)) || cls (s.getD 0 0) != 2) && s.all clsOk
/-- An entry of a declared name. -/
structure En where
  kind : Int
  index : Int
  frm : Int
def En.cs (e : En) : List D := [.i e.kind, .i e.index, .i e.frm]
def En.ds (es : List En) : List (List D) := es.map En.cs
abbrev Pe := Str × En
abbrev nmC (x : Pe) : List D := [.str x.1]
abbrev enC (x : Pe) : List D := [.i x.2.kind, .i x.2.index, .i x.2.frm]
def decN (k : Int) : List Str → Nat → List Pe
  | [], _ => []
  | s :: r, i => (s, ⟨k, i, 0⟩) :: decN k r (i + 1)
def decS : List Sm → Nat → List Pe
  | [], _ => []
  | s :: r, i => if s.kind == 1 then (s.name, ⟨5, i, i + 1⟩) :: decS r (i + 1) else decS r (i + 1)
theorem decN_len (k : Int) : ∀ (l : List Str) (i : Nat), (decN k l i).length = l.length
  | [], _ => rfl
  | _ :: r, i => by simp [decN, decN_len k r]
theorem decS_len : ∀ (l : List Sm) (i : Nat), (decS l i).length ≤ l.length
  | [], _ => Nat.le_refl _
  | s :: r, i => by
    have := decS_len r (i + 1)
    simp only [decS]; split <;> simp <;> omega
def T1 (p : Pr) : List Pe := decN 3 (bounds p.params) 0
def T2 (p : Pr) : List Pe := T1 p ++ decN 4 (bounds p.states) 0
def T3 (p : Pr) : List Pe := T2 p ++ decN 8 (lines p) 0
def T4 (p : Pr) : List Pe := T3 p ++ decN 9 (tables p) 0
def decl (p : Pr) : List Pe := T4 p ++ decS p.stmts 0
theorem T1_len {p : Pr} (h : p.Small) : (T1 p).length ≤ 67108864 := by have := h.params; simp [T1, decN_len, bounds]; omega
theorem T2_len {p : Pr} (h : p.Small) : (T2 p).length ≤ 134217728 := by have := T1_len h; have := h.states; simp [T2, decN_len, bounds]; omega
theorem T3_len {p : Pr} (h : p.Small) : (T3 p).length ≤ 201326592 := by have := T2_len h; have := h.lines; simp [T3, decN_len, lines]; omega
theorem T4_len {p : Pr} (h : p.Small) : (T4 p).length ≤ 268435456 := by have := T3_len h; have := h.tables; simp [T4, decN_len, tables]; omega
theorem decl_len {p : Pr} (h : p.Small) : (decl p).length ≤ 335544320 := by have := T4_len h; have := h.stmts; have := decS_len p.stmts 0; simp [decl]; omega
theorem app_le {α : Type} {a b c : List α} {n : Nat} (h : a ++ b = c) (hc : c.length ≤ n) : a.length ≤ n := by
  have := congrArg List.length h; simp at this; omega
def wordsT : Str := [32, 112, 114, 111, 99, 101, 115, 115, 111, 114, 32, 108, 97, 116, 101, 110, 99, 121, 32, 116, 97, 105, 108, 32, 102, 111, 114, 101, 118, 101, 114, 32, 112, 97, 114, 97, 109, 32, 115, 116, 97, 116, 101, 32, 108, 105, 110, 101, 32, 116, 97, 98, 108, 101, 32, 102, 114, 111, 109, 32, 116, 111, 32, 108, 101, 116, 32, 115, 101, 116, 32, 112, 117, 115, 104, 32, 111, 117, 116, 32, 105, 102, 32, 116, 104, 101, 110, 32, 101, 108, 115, 101, 32, 105, 110, 32, 115, 105, 100, 101, 32, 116, 97, 112, 32, 108, 111, 111, 107, 32, 115, 97, 116, 32, 109, 105, 110, 32, 109, 97, 120, 32, 97, 98, 115, 32]
def nmOk (s : Str) : Bool := lname s && !Lib.contains wordsT ([32] ++ s ++ [32])
theorem lname_len {s : Str} (h : lname s = true) : s.length ≤ 32 := by
  simp [lname] at h; omega
abbrev mC (x : Pe) : D × D := (.str x.1, .agg (enC x))
def mkM (l : List Pe) : List (D × D) := l.map mC
def fsts (l : List Pe) : List Str := l.map (·.1)
theorem keySame_str (a b : Str) : keySame (.str a) (.str b) = (a == b) := rfl
theorem mget_none {s : Str} : ∀ {l : List Pe}, s ∉ fsts l → mget (.str s) (mkM l) = none
  | [], _ => rfl
  | x :: r, h => by
    simp only [fsts, List.map_cons, List.mem_cons, not_or] at h
    have hb : (s == x.1) = false := by simpa using h.1
    simp only [mkM, List.map_cons, mget, keySame_str, hb]
    exact mget_none (l := r) h.2
theorem mput_new {s : Str} {v : D} : ∀ {l : List Pe}, s ∉ fsts l → mput (.str s) v (mkM l) = mkM l ++ [(.str s, v)]
  | [], _ => rfl
  | x :: r, h => by
    simp only [fsts, List.map_cons, List.mem_cons, not_or] at h
    have hb : (s == x.1) = false := by simpa using h.1
    simp only [mkM, List.map_cons, mput, keySame_str, hb, List.cons_append]
    exact congrArg _ (mput_new (l := r) h.2)
theorem mput_snoc {x : Pe} {d : List Pe} (h : x.1 ∉ fsts d) : mput (.str x.1) (.agg (enC x)) (mkM d) = mkM (d ++ [x]) := by
  rw [mput_new h]; simp [mkM]
theorem nonneg_len {n : Nat} (h : n ≤ 9223372036854775807) : (IntKind.i64.max - (n : Int)).NonNeg := by
  have : (n : Int) ≤ IntKind.i64.max := by simp [IntKind.max, IntKind.signed, IntKind.bits]; omega
  exact this
theorem opt_none {o : Option D} {f : D → Prop} {g : Prop} (h : o = none) (hg : g) : OptBr o f g := by subst h; exact hg
theorem opt_some {o : Option D} {f : D → Prop} {g : Prop} {d : D} (h : o = some d) (hg : f d) : OptBr o f g := by subst h; exact hg
/-- Is a name declared twice? -/
def uniq (l : List Pe) : Prop := (fsts l).Nodup
theorem mget_some {s : Str} : ∀ {l : List Pe}, s ∈ fsts l → ∃ e : En, mget (.str s) (mkM l) = some (.agg [.i e.kind, .i e.index, .i e.frm])
  | [], h => by simp [fsts] at h
  | x :: r, h => by
    simp only [mkM, List.map_cons, mget, keySame_str]
    cases hb : (s == x.1) with
    | true => exact ⟨x.2, rfl⟩
    | false =>
      simp only [fsts, List.map_cons, List.mem_cons] at h
      rcases h with h | h
      · subst h; simp at hb
      · exact mget_some (l := r) h
theorem opt_cases {s : Str} {l : List Pe} {f : D → Prop} {g : Prop} (h1 : ∀ e : En, s ∈ fsts l → f (.agg [.i e.kind, .i e.index, .i e.frm])) (h2 : s ∉ fsts l → g) : OptBr (mget (.str s) (mkM l)) f g := by
  by_cases hm : s ∈ fsts l
  · obtain ⟨e, he⟩ := mget_some hm
    exact opt_some he (h1 e hm)
  · exact opt_none (mget_none hm) (h2 hm)
theorem uniq_snoc {d : List Pe} {x : Pe} (h : uniq d) (hm : x.1 ∉ fsts d) : uniq (d ++ [x]) := by
  unfold uniq fsts at h ⊢
  rw [List.map_append, List.nodup_append]
  refine ⟨h, by simp, ?_⟩
  intro a ha b hb hab
  simp only [List.map_cons, List.map_nil, List.mem_singleton] at hb
  subst hb; subst hab
  exact hm ha
theorem uniq_at {l d r : List Pe} {x : Pe} (h : uniq l) (e : d ++ x :: r = l) : x.1 ∉ fsts d := by
  subst e
  unfold uniq fsts at h
  rw [List.map_append, List.nodup_append] at h
  intro hm
  exact h.2.2 _ hm _ (by simp) rfl
end Go.Fw.Nam
namespace Go.Fw
abbrev bdsC (l : List Bd) : List D := [.sl 3 (l.map Bd.cs)]
def lens {α : Type} (ls : List (List α)) : Nat := (ls.map List.length).sum
theorem lens_cons {α : Type} (l : List α) (r : List (List α)) : lens (l :: r) = l.length + lens r := by simp [lens]
theorem lens_nil {α : Type} : lens ([] : List (List α)) = 0 := rfl
theorem lens_flat {α : Type} (ls : List (List α)) : ls.flatten.length = lens ls := by simp [lens, List.length_flatten]
end Go.Fw
namespace Go.Fw.Nam
set_option linter.unusedSectionVars false
variable [GlobInt]
abbrev lnB (l : Ln) : Bd := ⟨[], l.lo, l.hi⟩
def allB (p : Pr) : List Bd := [p.params, p.states].flatten ++ p.lines.map lnB
def bd1 (b : Bd) : Bool := (sample b.lo && sample b.hi) && decide (b.lo ≤ b.hi)
def tb2 (t : Tb) : Bool := !bad t.values
def sm2 (s : Sm) : Bool := every ranged2 s.x
def ranged (p : Pr) : Bool := (allB p).all bd1 && (p.tables.all tb2 && p.stmts.all sm2)
theorem allB_len {p : Pr} (h : p.Small) : (allB p).length ≤ 201326592 := by
  have := h.params; have := h.states; have := h.lines
  simp [allB]; omega
end Go.Fw.Nam
namespace Go.Fw
theorem quiet_step [GlobInt] {T : Tbl} {N : List Nat} {kp i : Nat} {tr : List Rec} {q : Prop} (h : quietN T N kp i tr = true) (h2 : q) : quietN T N kp i tr = true ∧ q := ⟨h, h2⟩
end Go.Fw
namespace Go.Fw.Nam
set_option linter.unusedSectionVars false
variable [GlobInt]
def lk (n : Str) : List Pe → Option En
  | [] => none
  | x :: r => if n == x.1 then some x.2 else lk n r
theorem mget_lk (n : Str) : ∀ l : List Pe, mget (.str n) (mkM l) = (lk n l).map fun e => .agg [.i e.kind, .i e.index, .i e.frm]
  | [] => rfl
  | x :: r => by
    simp only [mkM, List.map_cons, mget, keySame_str, lk]
    cases hb : (n == x.1) with
    | true => rfl
    | false => exact mget_lk n r
theorem opt_lk {n : Str} {l : List Pe} {f : D → Prop} {g : Prop} (h1 : ∀ e : En, lk n l = some e → f (.agg [.i e.kind, .i e.index, .i e.frm])) (h2 : lk n l = none → g) : OptBr (mget (.str n) (mkM l)) f g := by
  cases hk : lk n l with
  | none => exact opt_none (by rw [mget_lk, hk]; rfl) (h2 hk)
  | some e => exact opt_some (d := .agg [.i e.kind, .i e.index, .i e.frm]) (by rw [mget_lk, hk]; rfl) (h1 e hk)
def arr (k : Int) : Bool := k == 8 || k == 9
def eok (i k : Int) (e : En) : Bool := decide (i ≥ e.frm) && (e.kind == k || (!arr e.kind && !arr k))
def vok (l : List Pe) (i k : Int) (n : Str) : Bool := !(arity k).2 || (match lk n l with | some e => eok i k e | none => false)
def vkind (l : List Pe) (k : Int) (n : Str) : Int := if (arity k).2 then (match lk n l with | some e => e.kind | none => 0) else k
def vidx (l : List Pe) (k : Int) (n : Str) : Int := if (arity k).2 then (match lk n l with | some e => e.index | none => 0) else 0
mutual
def visB (l : List Pe) (i : Int) : Ex → Bool
  | .mk k n _ _ ys => vok l i k n && visBL l i ys
def visBL (l : List Pe) (i : Int) : List Ex → Bool
  | [] => true
  | y :: r => visB l i y && visBL l i r
end
mutual
def vis (l : List Pe) : Ex → Ex
  | .mk k n _ m ys => .mk (vkind l k n) n (vidx l k n) m (visL l ys)
def visL (l : List Pe) : List Ex → List Ex
  | [] => []
  | y :: r => vis l y :: visL l r
end
theorem visB_eq (l : List Pe) (i : Int) (x : Ex) : visB l i x = (vok l i x.kind x.name && visBL l i x.l) := by cases x; rw [visB]; rfl
theorem vis_eq (l : List Pe) (x : Ex) : vis l x = .mk (vkind l x.kind x.name) x.name (vidx l x.kind x.name) x.n (visL l x.l) := by cases x; rw [vis]; rfl
theorem visBL_nil {l : List Pe} {i : Int} : visBL l i [] = true := by simp [visBL]
theorem visL_cases {l : List Pe} {i : Int} {x : Ex} {r : List Ex} (h : visBL l i (x :: r) = false) : (visB l i x = true ∧ visBL l i r = false) ∨ visB l i x = false := by
  simp only [visBL] at h
  cases hb : visB l i x with
  | true => left; rw [hb] at h; exact ⟨rfl, h⟩
  | false => exact .inr rfl
end Go.Fw.Nam
namespace Go.Fw.Nam
set_option linter.unusedSectionVars false
variable [GlobInt]
def isSP (k : Int) : Bool := k == 2 || k == 3
def kindOf (k : Int) : Int := if k == 2 then 4 else 8
/-- The statement's own index: none, if its name is wrong. -/
def target (l : List Pe) (s : Sm) : Option En := match lk s.name l with | some e => if e.kind == kindOf s.kind then some e else none | none => none
def sidx (l : List Pe) (s : Sm) : Int := if isSP s.kind then (match target l s with | some e => e.index | none => 0) else 0
def outS (l : List Pe) (s : Sm) : Sm := ⟨s.kind, s.name, sidx l s, vis l s.x⟩
/-- What stops a statement: 0, if nothing. -/
def stopS (l : List Pe) (s : Sm) (i : Nat) (done : List (Int × Int)) (out : Bool) : Int :=
  if !visB l i s.x then 150
  else if isSP s.kind then
    match target l s with
    | none => 150
    | some e => if !out && !(done.any fun d => d.1 == e.kind && d.2 == e.index) then (if !out then 0 else 151) else 151
  else if !out then 0 else 151
def doneS (l : List Pe) (s : Sm) (done : List (Int × Int)) : List (Int × Int) := if isSP s.kind then (match target l s with | some e => done ++ [(e.kind, e.index)] | none => done) else done
def runS (l : List Pe) : List Sm → Nat → List (Int × Int) → Bool → Except Int (List Sm)
  | [], _, _, out => if out then .ok [] else .error 150
  | s :: r, i, done, out =>
    if stopS l s i done out != 0 then .error (stopS l s i done out)
    else match runS l r (i + 1) (doneS l s done) (s.kind == 4) with
      | .error e => .error e
      | .ok t => .ok (outS l s :: t)
open Classical in
/-- names.Resolve. -/
noncomputable def resolve (p : Pr) : Pr × Int :=
  if !formed p then (Pr.none, 1)
  else if !limited p then (Pr.none, 2)
  else if !((p.name :: fsts (decl p)).all nmOk) then (Pr.none, 150)
  else if ¬ uniq (decl p) then (Pr.none, 151)
  else if !ranged p then (Pr.none, 161)
  else match runS (decl p) p.stmts 0 [] false with
    | .error e => (Pr.none, e)
    | .ok t => ({ p with stmts := t }, 0)
end Go.Fw.Nam
namespace Go.Fw.Nam
set_option linter.unusedSectionVars false
variable [GlobInt]
abbrev dnC (d : Int × Int) : D × D := (.agg [.i d.1, .i d.2], .b true)
def doneB (d : List (Int × Int)) (a b : Int) : Bool := d.any fun x => x.1 == a && x.2 == b
theorem bool_or (b : Bool) : b = true ∨ b = false := by cases b <;> simp
theorem keySame_pair (a b c d : Int) : keySame (.agg [.i a, .i b]) (.agg [.i c, .i d]) = (a == c && b == d) := by
  simp [keySame, sameL, sameS]
theorem mget_done (a b : Int) : ∀ d : List (Int × Int), mget (.agg [.i a, .i b]) (d.map dnC) = if doneB d a b then some (.b true) else none
  | [] => rfl
  | x :: r => by
    have e : doneB (x :: r) a b = ((x.1 == a && x.2 == b) || doneB r a b) := rfl
    simp only [List.map_cons, mget, keySame_pair]
    rw [e]
    by_cases h : (a == x.1 && b == x.2) = true
    · have h' : (x.1 == a && x.2 == b) = true := by simp at h ⊢; exact ⟨h.1.symm, h.2.symm⟩
      simp [h, h']
    · have h0 : (a == x.1 && b == x.2) = false := by simpa using h
      have h' : (x.1 == a && x.2 == b) = false := by
        cases hb : (x.1 == a && x.2 == b) with
        | false => rfl
        | true => simp at hb; simp [hb.1, hb.2] at h0
      rw [h0, h']
      simpa using mget_done a b r
theorem opt_done {a b : Int} {d : List (Int × Int)} {f : D → Prop} {g : Prop} (h1 : doneB d a b = true → f (.b true)) (h2 : doneB d a b = false → g) : OptBr (mget (.agg [.i a, .i b]) (d.map dnC)) f g := by
  rw [mget_done]
  cases h : doneB d a b with
  | true => exact h1 h
  | false => exact h2 h
theorem mput_done {a b : Int} : ∀ {d : List (Int × Int)}, doneB d a b = false → mput (.agg [.i a, .i b]) (.b true) (d.map dnC) = (d ++ [(a, b)]).map dnC
  | [], _ => rfl
  | x :: r, h => by
    have e : doneB (x :: r) a b = ((x.1 == a && x.2 == b) || doneB r a b) := rfl
    rw [e, Bool.or_eq_false_iff] at h
    have h0 : (a == x.1 && b == x.2) = false := by
      cases hb : (a == x.1 && b == x.2) with
      | false => rfl
      | true => simp at hb; simp [hb.1, hb.2] at h
    simp only [List.map_cons, mput, keySame_pair, h0, List.cons_append]
    exact congrArg _ (mput_done h.2)
theorem opt_kinds {k : Int} {f : D → Prop} {g : Prop} (hk : (bif k == 2 then true else k == 3) = true) (h : f (.i (kindOf k))) : OptBr (mget (.i k) (mput (.i 3) (.i 8) (mput (.i 2) (.i 4) []))) f g := by
  have e : mget (.i k) (mput (.i 3) (.i 8) (mput (.i 2) (.i 4) [])) = some (.i (kindOf k)) := by
    rw [show mput (.i 3) (.i 8) (mput (.i 2) (.i 4) []) = [(.i 2, .i 4), (.i 3, .i 8)] from rfl]
    simp only [mget, keySame, sameS, kindOf]
    cases h2 : (k == 2) with
    | true => simp
    | false => rw [h2] at hk; simp only [cond_false] at hk; simp [hk]
  rw [e]; exact h
theorem fin_err {p : Pr} {ts : List Sm} {l : List Pe} {s : Sm} {r : List Sm} {i : Nat} {d : List (Int × Int)} {o : Bool} {e : Int} (h : stopS l s i d o = e) (he : e ≠ 0) : Ref15.fin p ts (runS l (s :: r) i d o) = (Pr.none, e) := by
  simp only [runS]
  rw [if_pos (by rw [h]; simpa using he), h]; rfl
theorem fin_go {p : Pr} {ts : List Sm} {l : List Pe} {s : Sm} {r : List Sm} {i : Nat} {d : List (Int × Int)} {o : Bool} (h : stopS l s i d o = 0) : Ref15.fin p ts (runS l (s :: r) i d o) = Ref15.fin p (ts ++ [outS l s]) (runS l r (i + 1) (doneS l s d) (s.kind == 4)) := by
  simp only [runS]
  rw [if_neg (by rw [h]; simp)]
  exact Ref15.fin_cons
theorem stop_vis {l : List Pe} {s : Sm} {i : Nat} {d : List (Int × Int)} {o : Bool} (h : visB l i s.x = false) : stopS l s i d o = 150 := by simp [stopS, h]
theorem isSP_eq (k : Int) : (bif k == 2 then true else k == 3) = isSP k := by simp [isSP]
theorem stop_none {l : List Pe} {s : Sm} {i : Nat} {d : List (Int × Int)} {o : Bool} (h : visB l i s.x = true) (hk : (bif s.kind == 2 then true else s.kind == 3) = true) (ht : lk s.name l = none) : stopS l s i d o = 150 := by
  rw [isSP_eq] at hk; simp [stopS, h, hk, target, ht]
theorem stop_kind {l : List Pe} {s : Sm} {i : Nat} {d : List (Int × Int)} {o : Bool} {e : En} (h : visB l i s.x = true) (hk : (bif s.kind == 2 then true else s.kind == 3) = true) (ht : lk s.name l = some e) (he : (bif true then e.kind == kindOf s.kind else false) = false) : stopS l s i d o = 150 := by
  rw [isSP_eq] at hk; simp only [cond_true] at he; simp [stopS, h, hk, target, ht, he]
theorem target_eq {l : List Pe} {s : Sm} {e : En} (ht : lk s.name l = some e) (he : (bif true then e.kind == kindOf s.kind else false) = true) : target l s = some e := by
  simp only [cond_true] at he; simp [target, ht, he]
theorem stop_done {l : List Pe} {s : Sm} {i : Nat} {d : List (Int × Int)} {o : Bool} {e : En} (h : visB l i s.x = true) (hk : (bif s.kind == 2 then true else s.kind == 3) = true) (ht : target l s = some e) (hd : (bif !o then !doneB d e.kind e.index else false) = false) : stopS l s i d o = 151 := by
  rw [isSP_eq] at hk; simp only [stopS, h, hk, ht]
  have : (!o && !d.any fun x => x.1 == e.kind && x.2 == e.index) = false := by simpa [doneB, Bool.cond_false_right] using hd
  simp [this]
theorem stop_ok {l : List Pe} {s : Sm} {i : Nat} {d : List (Int × Int)} {o : Bool} {e : En} (h : visB l i s.x = true) (hk : (bif s.kind == 2 then true else s.kind == 3) = true) (ht : target l s = some e) (hd : (bif !o then !doneB d e.kind e.index else false) = true) : stopS l s i d o = 0 := by
  rw [isSP_eq] at hk; simp only [stopS, h, hk, ht]
  have : (!o && !d.any fun x => x.1 == e.kind && x.2 == e.index) = true := by simpa [doneB, Bool.cond_false_right] using hd
  have ho : o = false := by cases o <;> simp_all
  subst ho
  simp only [Bool.not_false, Bool.not_true, Bool.false_eq_true, if_false, if_true, reduceIte] at this ⊢
  rw [if_pos this]
theorem stop_out {l : List Pe} {s : Sm} {i : Nat} {d : List (Int × Int)} {o : Bool} (h : visB l i s.x = true) (hk : (bif s.kind == 2 then true else s.kind == 3) = false) (ho : (!o) = false) : stopS l s i d o = 151 := by
  rw [isSP_eq] at hk; simp_all [stopS]
theorem stop_ok' {l : List Pe} {s : Sm} {i : Nat} {d : List (Int × Int)} {o : Bool} (h : visB l i s.x = true) (hk : (bif s.kind == 2 then true else s.kind == 3) = false) (ho : (!o) = true) : stopS l s i d o = 0 := by
  rw [isSP_eq] at hk; simp_all [stopS]
theorem doneS_sp {l : List Pe} {s : Sm} {d : List (Int × Int)} {e : En} (hk : (bif s.kind == 2 then true else s.kind == 3) = true) (ht : target l s = some e) : doneS l s d = d ++ [(e.kind, e.index)] := by
  rw [isSP_eq] at hk; simp [doneS, hk, ht]
theorem doneS_no {l : List Pe} {s : Sm} {d : List (Int × Int)} (hk : (bif s.kind == 2 then true else s.kind == 3) = false) : doneS l s d = d := by
  rw [isSP_eq] at hk; simp [doneS, hk]
theorem sidx_sp {l : List Pe} {s : Sm} {e : En} (hk : (bif s.kind == 2 then true else s.kind == 3) = true) (ht : target l s = some e) : sidx l s = e.index := by
  rw [isSP_eq] at hk; simp [sidx, hk, ht]
theorem sidx_no {l : List Pe} {s : Sm} (hk : (bif s.kind == 2 then true else s.kind == 3) = false) : sidx l s = 0 := by
  rw [isSP_eq] at hk; simp [sidx, hk]
theorem fin_end {p : Pr} {ts : List Sm} {l : List Pe} {i : Nat} {d : List (Int × Int)} {o : Bool} (ho : o = true) : Ref15.fin p ts (runS l [] i d o) = ({ p with stmts := ts }, 0) := by
  subst ho; simp [runS, Ref15.fin]
theorem fin_bad {p : Pr} {ts : List Sm} {l : List Pe} {i : Nat} {d : List (Int × Int)} {o : Bool} (ho : o = false) : Ref15.fin p ts (runS l [] i d o) = (Pr.none, 150) := by
  subst ho; simp [runS, Ref15.fin]
theorem tup_eq {q : Pr × Int} {x : Pr} {e : Int} (h : q = (x, e)) : D.tuple [x.d, .val (.int .i64 e)] = D.tuple [q.1.d, .i q.2] := by subst h; rfl
theorem vis_split {xs : List Sm} {i : Nat} {x : Sm} {r : List Sm} {A B q : Prop} (l : List Pe) (_ : xs.drop i = x :: r) (hI : A ∧ B) (h1 : visB l (i : Int) x.x = true → A → B → q) (h2 : visB l (i : Int) x.x = false → A → B → q) : q := by
  rcases bool_or (visB l (i : Int) x.x) with h | h
  · exact h1 h hI.1 hI.2
  · exact h2 h hI.1 hI.2
theorem gs_no {l : List Pe} {s : Sm} {ts : List Sm} (hk : (bif s.kind == 2 then true else s.kind == 3) = false) : ts.map Sm.cs ++ [[.i s.kind, .str s.name, .i 0, .i (vis l s.x).kind, .str (vis l s.x).name, .i (vis l s.x).index, .i (vis l s.x).n, .sl 5 (Ex.css (vis l s.x).l)]] = (ts ++ [outS l s]).map Sm.cs := by
  simp [outS, sidx_no hk]
theorem gs_sp {l : List Pe} {s : Sm} {ts : List Sm} {e : En} (hk : (bif s.kind == 2 then true else s.kind == 3) = true) (ht : target l s = some e) : ts.map Sm.cs ++ [[.i s.kind, .str s.name, .i e.index, .i (vis l s.x).kind, .str (vis l s.x).name, .i (vis l s.x).index, .i (vis l s.x).n, .sl 5 (Ex.css (vis l s.x).l)]] = (ts ++ [outS l s]).map Sm.cs := by
  simp [outS, sidx_sp hk ht]
theorem absurd_out {o b : Bool} {q : Prop} (h1 : (bif !o then b else false) = true) (h2 : (!o) = false) : q := by rw [h2] at h1; cases h1
theorem map_no {l : List Pe} {s : Sm} {d : List (Int × Int)} (hk : (bif s.kind == 2 then true else s.kind == 3) = false) : Block.map true [.int .i64, .int .i64] (d.map dnC) = Block.map true [.int .i64, .int .i64] ((doneS l s d).map dnC) := by
  rw [doneS_no hk]
theorem map_sp {l : List Pe} {s : Sm} {d : List (Int × Int)} {e : En} {o : Bool} (hk : (bif s.kind == 2 then true else s.kind == 3) = true) (ht : target l s = some e) (hd : (bif !o then !doneB d e.kind e.index else false) = true) : Block.map true [.int .i64, .int .i64] (mput (.agg [.i e.kind, .i e.index]) (.b true) (d.map dnC)) = Block.map true [.int .i64, .int .i64] ((doneS l s d).map dnC) := by
  have hd' : doneB d e.kind e.index = false := by cases o <;> simp_all
  rw [doneS_sp hk ht, mput_done hd']
end Go.Fw.Nam
namespace Go.Fw.Nam
set_option linter.unusedSectionVars false
variable [GlobInt]
open Ref15
def hasS (s : Str) : List Str → Bool
  | [] => false
  | x :: r => x == s || hasS s r
def uniqB : List Str → Bool
  | [] => true
  | x :: r => !hasS x r && uniqB r
theorem hasS_iff {s : Str} : ∀ {l : List Str}, hasS s l = true ↔ s ∈ l
  | [] => by simp [hasS]
  | x :: r => by
    simp only [hasS, Bool.or_eq_true, List.mem_cons, hasS_iff (l := r), beq_iff_eq]
    constructor
    · rintro (h | h)
      · exact .inl h.symm
      · exact .inr h
    · rintro (h | h)
      · exact .inl h.symm
      · exact .inr h
theorem uniqB_iff : ∀ {l : List Str}, uniqB l = true ↔ l.Nodup
  | [] => by simp [uniqB]
  | x :: r => by
    simp only [uniqB, Bool.and_eq_true, Bool.not_eq_true', List.nodup_cons, uniqB_iff (l := r)]
    constructor
    · rintro ⟨h, h2⟩
      exact ⟨fun hm => by rw [hasS_iff.2 hm] at h; simp at h, h2⟩
    · rintro ⟨h, h2⟩
      refine ⟨?_, h2⟩
      cases hb : hasS x r with
      | false => rfl
      | true => exact absurd (hasS_iff.1 hb) h
/-- names.Resolve. -/
def resolveC (p : Pr) : Pr × Int :=
  if !formed p then (Pr.none, 1)
  else if !limited p then (Pr.none, 2)
  else if !((p.name :: fsts (decl p)).all nmOk) then (Pr.none, 150)
  else if !uniqB (fsts (decl p)) then (Pr.none, 151)
  else if !ranged p then (Pr.none, 161)
  else Ref15.fin p [] (runS (decl p) p.stmts 0 [] false)
def procM (l : List Sm) : Pr := ⟨[112], 0, 0, [⟨[103], 0, 9⟩], [⟨[115], -5, 5⟩], [⟨[100], 3, 0, 0⟩], [⟨[116], [4, 2]⟩], l⟩
def outM (x : Ex) : Sm := ⟨4, [], 0, x⟩
def namedM (s : Str) : Ex := ⟨2, s, 0, 0, []⟩
def one : Ex := ⟨1, [], 0, 1, []⟩
theorem br_t {c : Bool} {p q : Prop} (h : c = true) (hp : p) : BrI c p q := by subst h; exact BrI.tt hp
theorem br_f {c : Bool} {p q : Prop} (h : c = false) (hp : q) : BrI c p q := by subst h; exact BrI.ff hp
theorem idx_some {n : Int} {es : List (List D)} (h0 : decide (0 ≤ n) = true) (h : (es[n.toNat]?).isSome = true) : 0 ≤ n ∧ es[n.toNat]? = some (es.getD n.toNat []) := by
  refine ⟨by simpa using h0, ?_⟩
  rw [List.getD_eq_getElem?_getD]
  cases hh : es[n.toNat]? with
  | none => rw [hh] at h; simp at h
  | some c => rfl
theorem idx_lit {k : Bool} {a b : Nat} {n : Int} {es : List (List D)} {q : List D → Prop} (h1 : k = true) (h2 : a = b) (h0 : decide (0 ≤ n) = true) (h : (es[n.toNat]?).isSome = true) (h4 : q (es.getD n.toNat [])) : (k = true ∧ a = b) ∧ ∃ c, (0 ≤ n ∧ es[n.toNat]? = some c) ∧ q c := ⟨⟨h1, h2⟩, _, idx_some h0 h, h4⟩
def lawSpec (p : Pr) : Bool := if !Few p then true else Same (resolveC p).1 (Ref15.Resolve p).1 && (resolveC p).2 == (Ref15.Resolve p).2
end Go.Fw.Nam
