/- The functions of package tails, as plain functions. -/
import Derived.Test.YtogfjinopifenaaDoorZRB
set_option linter.unusedSectionVars false
set_option linter.unusedSimpArgs false
set_option linter.unusedVariables false
namespace Go.Fw.Tl
open Go.Fw Go.Fw.Ref15 Go.Fw.Rg
variable [af]
mutual
def au : Ex → List Ex
 | .mk k n i m l => .mk k n i m l :: cu l
def cu : List Ex → List Ex
 | [] => []
 | x :: r => au x ++ cu r
end
theorem iM (x : Ex) : au x = x :: cu x.l := by cases x; rw [au]; rfl
theorem yx : ∀ (l : List Ex) (x : Ex), cu (l ++ [x]) = cu l ++ au x
 | [], x => by simp [cu]
 | y :: r, x => by rw [List.cons_append, cu, cu, yx r x, List.append_assoc]
theorem lS {x : Ex} : ∀ {l : List Ex}, x ∈ cu l ↔ ∃ y ∈ l, x ∈ au y
 | [] => by simp [cu]
 | y :: r => by simp [cu, lS (l := r)]
def hiM (p : Pr) (x : Ex) : Int := match dm p x with | .ok s => s.2 | .error _ => 0
def looks (x : Ex) : Bool := bif x.kind == 6 then true else x.kind == 7
def latX (p : Pr) (n : Int) (x : Ex) : Int := if looks x then mm2 true n (hiM p (x.l.getD 0 Ex.none)) else n
def Dq (p : Pr) (n : Int) (s : Sm) : Int := (au s.x).foldl (latX p) n
def latM (p : Pr) : Int := p.stmts.foldl (Dq p) 0
def iO (p : Pr) : Int × Int := if ((ak p).2 != 0) = true then (0, (ak p).2) else (latM p, 0)
abbrev Key := Int × Int
def JP (a b : Key) : Bool := bif a.1 == b.1 then a.2 == b.2 else false
def lkK {α : Type} (k : Key) : List (Key × α) → Option α
 | [] => none
 | (a, v) :: r => if JP k a then some v else lkK k r
def Qu {α : Type} (k : Key) (v : α) : List (Key × α) → List (Key × α)
 | [] => [(k, v)]
 | (a, w) :: r => if JP k a then (k, v) :: r else (a, w) :: Qu k v r
def lkA {α : Type} (k : Int) : List (Int × α) → Option α
 | [] => none
 | (a, v) :: r => if k == a then some v else lkA k r
def qj {α : Type} (k : Int) (v : α) : List (Int × α) → List (Int × α)
 | [] => [(k, v)]
 | (a, w) :: r => if k == a then (k, v) :: r else (a, w) :: qj k v r
abbrev kkD (q : Key × Int) : D × D := (.agg [.i q.1.1, .i q.1.2], .i q.2)
abbrev iiD (q : Int × Int) : D × D := (.i q.1, .i q.2)
abbrev ibD (q : Int × Bool) : D × D := (.i q.1, .b q.2)
def sets (k : Int) : Bool := bif k == 2 then true else k == 3
def E5 : List Sm → Nat → List (Key × Int) → List (Key × Int)
 | [], _, S => S
 | s :: r, i, S => E5 r (i + 1) (if sets s.kind then Qu (s.kind, s.index) (i : Int) S else S)
def aH (p : Pr) : List (Key × Int) := E5 p.stmts 0 []
structure AS where
 ages : List (Int × Int)
 opn : List (Int × Bool)
inductive AR where
 | ok (v : Int) (s : AS)
 | pan (s : AS)
 | out
def AR.add (w : Int) : AR → AR
 | .ok v s => .ok (IntKind.i64.wrap (v + w)) s
 | r => r
def qm (p : Pr) (S : List (Key × Int)) (age : AS → Int → AR) (at_ : Int) (x : Ex) (s : AS) : AR :=
 if x.kind == 5 then age s x.index
 else if x.kind == 4 then match lkK (2, x.index) S with
  | some b => if b < at_ then age s b else (age s b).add 1
  | none => .ok 0 s
 else if x.kind == 8 then match lkK (3, x.index) S with
  | some b => if decide (0 ≤ x.index) && decide (x.index < p.lines.length) then (age s b).add (aU p x.index).size else .out
  | none => .ok 0 s
 else .ok 0 s
def qo (own : Ex → AS → AR) : List Ex → AS → Int → AR
 | [], s, m => .ok m s
 | x :: r, s, m => match own x s with
  | .ok v s' => qo own r s' (mm2 true m v)
  | .pan t => .pan t
  | .out => .out
def aV (p : Pr) (i : Int) : Ex := (p.stmts.getD i.toNat Sm.none).x
def fE (s : AS) (i : Int) : Bool := match lkA i s.opn with | some b => b | none => false
def oI (p : Pr) (S : List (Key × Int)) : Nat → AS → Int → AR
 | 0, _, _ => .out
 | f + 1, s, i => if fE s i then .pan s else match lkA i s.ages with
  | some n => .ok n s
  | none => if decide (0 ≤ i) && decide (i < p.stmts.length) then (match qo (qm p S (oI p S f) i) (au (aV p i)) ⟨s.ages, qj i true s.opn⟩ 0 with
   | .ok m s' => .ok m ⟨qj i m s'.ages, qj i false s'.opn⟩
   | .pan t => .pan t
   | .out => .out) else .out
def oJ (p : Pr) : Int := match oI p (aH p) (p.stmts.length + 1) ⟨[], []⟩ ((p.stmts.length : Int) - 1) with
 | .ok v _ => v
 | _ => -1
def lD (p : Pr) : Int × Int := if ((ak p).2 != 0) = true then (0, (ak p).2) else (oJ p, 0)
def gX (p : Pr) : Int := if ((ak p).2 != 0) = true then (ak p).2
 else if latM p > p.latency then 170
 else if (p.tail != -1 && (oJ p == -1 || decide (oJ p > p.tail))) = true then 171 else 0
theorem Qv (k : Key) : ∀ l : List (Key × Int), mW (.agg [.i k.1, .i k.2]) (l.map kkD) = (lkK k l).map .i
 | [] => rfl
 | (a, v) :: r => by
  have h : cZ (.agg [.i k.1, .i k.2]) (.agg [.i a.1, .i a.2]) = JP k a := by
   simp only [cZ, sameL, sameS, JP]
   cases (k.1 == a.1) <;> simp
  simp only [List.map_cons, kkD, mW, h, lkK]
  cases JP k a
  ·exact Qv k r
  ·rfl
theorem Qw (k : Key) (v : Int) : ∀ l : List (Key × Int), mput (.agg [.i k.1, .i k.2]) (.i v) (l.map kkD) = (Qu k v l).map kkD
 | [] => rfl
 | (a, w) :: r => by
  have h : cZ (.agg [.i k.1, .i k.2]) (.agg [.i a.1, .i a.2]) = JP k a := by
   simp only [cZ, sameL, sameS, JP]
   cases (k.1 == a.1) <;> simp
  simp only [List.map_cons, kkD, mput, h, Qu]
  cases JP k a
  ·simp only [Bool.false_eq_true, if_false, List.map_cons]; rw [← Qw k v r]
  ·rfl
theorem Qx (k : Int) : ∀ l : List (Int × Int), mW (.i k) (l.map iiD) = (lkA k l).map .i
 | [] => rfl
 | (a, v) :: r => by
  have h : cZ (.i k) (.i a) = (k == a) := rfl
  simp only [List.map_cons, iiD, mW, h, lkA]
  cases k == a
  ·exact Qx k r
  ·rfl
theorem Qy (k v : Int) : ∀ l : List (Int × Int), mput (.i k) (.i v) (l.map iiD) = (qj k v l).map iiD
 | [] => rfl
 | (a, w) :: r => by
  have h : cZ (.i k) (.i a) = (k == a) := rfl
  simp only [List.map_cons, iiD, mput, h, qj]
  cases k == a
  ·simp only [Bool.false_eq_true, if_false, List.map_cons]; rw [← Qy k v r]
  ·rfl
theorem Qz (k : Int) : ∀ l : List (Int × Bool), mW (.i k) (l.map ibD) = (lkA k l).map .b
 | [] => rfl
 | (a, v) :: r => by
  have h : cZ (.i k) (.i a) = (k == a) := rfl
  simp only [List.map_cons, ibD, mW, h, lkA]
  cases k == a
  ·exact Qz k r
  ·rfl
theorem QA (k : Int) (v : Bool) : ∀ l : List (Int × Bool), mput (.i k) (.b v) (l.map ibD) = (qj k v l).map ibD
 | [] => rfl
 | (a, w) :: r => by
  have h : cZ (.i k) (.i a) = (k == a) := rfl
  simp only [List.map_cons, ibD, mput, h, qj]
  cases k == a
  ·simp only [Bool.false_eq_true, if_false, List.map_cons]; rw [← QA k v r]
  ·rfl
end Go.Fw.Tl
