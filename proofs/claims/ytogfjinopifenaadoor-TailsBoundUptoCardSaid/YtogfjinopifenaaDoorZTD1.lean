/- The functions of package tails, as plain functions. -/
import Derived.Test.YtogfjinopifenaaDoorZRB
set_option linter.unusedSectionVars false
set_option linter.unusedSimpArgs false
set_option linter.unusedVariables false
namespace Go.Fw.Tl
open Go.Fw Go.Fw.Ref15 Go.Fw.Rg
variable [GlobInt]
mutual
def aj : Ex → List Ex
 | .mk k n i m l => .mk k n i m l :: bg l
def bg : List Ex → List Ex
 | [] => []
 | x :: r => aj x ++ bg r
end
theorem dP (x : Ex) : aj x = x :: bg x.l := by cases x; rw [aj]; rfl
theorem mM : ∀ (l : List Ex) (x : Ex), bg (l ++ [x]) = bg l ++ aj x
 | [], x => by simp [bg]
 | y :: r, x => by rw [List.cons_append, bg, bg, mM r x, List.append_assoc]
theorem iG {x : Ex} : ∀ {l : List Ex}, x ∈ bg l ↔ ∃ y ∈ l, x ∈ aj y
 | [] => by simp [bg]
 | y :: r => by simp [bg, iG (l := r)]
def hiM (p : Pr) (x : Ex) : Int := match bn p x with | .ok s => s.2 | .error _ => 0
def looks (x : Ex) : Bool := bif x.kind == 6 then true else x.kind == 7
def latX (p : Pr) (n : Int) (x : Ex) : Int := if looks x then mm2 true n (hiM p (x.l.getD 0 Ex.none)) else n
def qU (p : Pr) (n : Int) (s : Sm) : Int := (aj s.x).foldl (latX p) n
def latM (p : Pr) : Int := p.stmts.foldl (qU p) 0
def dQ (p : Pr) : Int × Int := if ((ai p).2 != 0) = true then (0, (ai p).2) else (latM p, 0)
abbrev Key := Int × Int
def wO (a b : Key) : Bool := bif a.1 == b.1 then a.2 == b.2 else false
def lkK {α : Type} (k : Key) : List (Key × α) → Option α
 | [] => none
 | (a, v) :: r => if wO k a then some v else lkK k r
def Aj {α : Type} (k : Key) (v : α) : List (Key × α) → List (Key × α)
 | [] => [(k, v)]
 | (a, w) :: r => if wO k a then (k, v) :: r else (a, w) :: Aj k v r
def lkA {α : Type} (k : Int) : List (Int × α) → Option α
 | [] => none
 | (a, v) :: r => if k == a then some v else lkA k r
def jv {α : Type} (k : Int) (v : α) : List (Int × α) → List (Int × α)
 | [] => [(k, v)]
 | (a, w) :: r => if k == a then (k, v) :: r else (a, w) :: jv k v r
abbrev kkD (q : Key × Int) : D × D := (.agg [.i q.1.1, .i q.1.2], .i q.2)
abbrev iiD (q : Int × Int) : D × D := (.i q.1, .i q.2)
abbrev ibD (q : Int × Bool) : D × D := (.i q.1, .b q.2)
def sets (k : Int) : Bool := bif k == 2 then true else k == 3
def sH : List Sm → Nat → List (Key × Int) → List (Key × Int)
 | [], _, S => S
 | s :: r, i, S => sH r (i + 1) (if sets s.kind then Aj (s.kind, s.index) (i : Int) S else S)
def aA (p : Pr) : List (Key × Int) := sH p.stmts 0 []
structure AS where
 ages : List (Int × Int)
 opn : List (Int × Bool)
inductive AR where
 | ok (v : Int) (s : AS)
 | pan (s : AS)
 | out
def AR.add (w : Int) : AR → AR
 | .ok v s => .ok (IntKind.i64.wrap (v + w)) s
 | r => r
def jw (p : Pr) (S : List (Key × Int)) (age : AS → Int → AR) (at_ : Int) (x : Ex) (s : AS) : AR :=
 if x.kind == 5 then age s x.index
 else if x.kind == 4 then match lkK (2, x.index) S with
  | some b => if b < at_ then age s b else (age s b).add 1
  | none => .ok 0 s
 else if x.kind == 8 then match lkK (3, x.index) S with
  | some b => if decide (0 ≤ x.index) && decide (x.index < p.lines.length) then (age s b).add (aI p x.index).size else .out
  | none => .ok 0 s
 else .ok 0 s
def jy (own : Ex → AS → AR) : List Ex → AS → Int → AR
 | [], s, m => .ok m s
 | x :: r, s, m => match own x s with
  | .ok v s' => jy own r s' (mm2 true m v)
  | .pan t => .pan t
  | .out => .out
def aJ (p : Pr) (i : Int) : Ex := (p.stmts.getD i.toNat Sm.none).x
def bY (s : AS) (i : Int) : Bool := match lkA i s.opn with | some b => b | none => false
def jh (p : Pr) (S : List (Key × Int)) : Nat → AS → Int → AR
 | 0, _, _ => .out
 | f + 1, s, i => if bY s i then .pan s else match lkA i s.ages with
  | some n => .ok n s
  | none => if decide (0 ≤ i) && decide (i < p.stmts.length) then (match jy (jw p S (jh p S f) i) (aj (aJ p i)) ⟨s.ages, jv i true s.opn⟩ 0 with
   | .ok m s' => .ok m ⟨jv i m s'.ages, jv i false s'.opn⟩
   | .pan t => .pan t
   | .out => .out) else .out
def ji (p : Pr) : Int := match jh p (aA p) (p.stmts.length + 1) ⟨[], []⟩ ((p.stmts.length : Int) - 1) with
 | .ok v _ => v
 | _ => -1
def iq (p : Pr) : Int × Int := if ((ai p).2 != 0) = true then (0, (ai p).2) else (ji p, 0)
def dF (p : Pr) : Int := if ((ai p).2 != 0) = true then (ai p).2
 else if latM p > p.latency then 170
 else if (p.tail != -1 && (ji p == -1 || decide (ji p > p.tail))) = true then 171 else 0
theorem Ak (k : Key) : ∀ l : List (Key × Int), mget (.agg [.i k.1, .i k.2]) (l.map kkD) = (lkK k l).map .i
 | [] => rfl
 | (a, v) :: r => by
  have h : keySame (.agg [.i k.1, .i k.2]) (.agg [.i a.1, .i a.2]) = wO k a := by
   simp only [keySame, sameL, sameS, wO]
   cases (k.1 == a.1) <;> simp
  simp only [List.map_cons, kkD, mget, h, lkK]
  cases wO k a
  ·exact Ak k r
  ·rfl
theorem Am (k : Key) (v : Int) : ∀ l : List (Key × Int), mput (.agg [.i k.1, .i k.2]) (.i v) (l.map kkD) = (Aj k v l).map kkD
 | [] => rfl
 | (a, w) :: r => by
  have h : keySame (.agg [.i k.1, .i k.2]) (.agg [.i a.1, .i a.2]) = wO k a := by
   simp only [keySame, sameL, sameS, wO]
   cases (k.1 == a.1) <;> simp
  simp only [List.map_cons, kkD, mput, h, Aj]
  cases wO k a
  ·simp only [Bool.false_eq_true, if_false, List.map_cons]; rw [← Am k v r]
  ·rfl
theorem Ap (k : Int) : ∀ l : List (Int × Int), mget (.i k) (l.map iiD) = (lkA k l).map .i
 | [] => rfl
 | (a, v) :: r => by
  have h : keySame (.i k) (.i a) = (k == a) := rfl
  simp only [List.map_cons, iiD, mget, h, lkA]
  cases k == a
  ·exact Ap k r
  ·rfl
theorem Aq (k v : Int) : ∀ l : List (Int × Int), mput (.i k) (.i v) (l.map iiD) = (jv k v l).map iiD
 | [] => rfl
 | (a, w) :: r => by
  have h : keySame (.i k) (.i a) = (k == a) := rfl
  simp only [List.map_cons, iiD, mput, h, jv]
  cases k == a
  ·simp only [Bool.false_eq_true, if_false, List.map_cons]; rw [← Aq k v r]
  ·rfl
theorem Ar (k : Int) : ∀ l : List (Int × Bool), mget (.i k) (l.map ibD) = (lkA k l).map .b
 | [] => rfl
 | (a, v) :: r => by
  have h : keySame (.i k) (.i a) = (k == a) := rfl
  simp only [List.map_cons, ibD, mget, h, lkA]
  cases k == a
  ·exact Ar k r
  ·rfl
theorem Au (k : Int) (v : Bool) : ∀ l : List (Int × Bool), mput (.i k) (.b v) (l.map ibD) = (jv k v l).map ibD
 | [] => rfl
 | (a, w) :: r => by
  have h : keySame (.i k) (.i a) = (k == a) := rfl
  simp only [List.map_cons, ibD, mput, h, jv]
  cases k == a
  ·simp only [Bool.false_eq_true, if_false, List.map_cons]; rw [← Au k v r]
  ·rfl
end Go.Fw.Tl
