/- The functions of package ranges and of its reference, as plain functions. -/
import Derived.KernelRfl
import Derived.Test.YtogfjinopifenaaDoorZDB
set_option linter.unusedSectionVars false
set_option linter.unusedSimpArgs false
set_option linter.unusedVariables false
namespace Go.Fw.Rg
open Go.Fw Go.Fw.Ref15
variable [af]
abbrev Sp := Int × Int
abbrev Sp.cs (s : Sp) : List D := [.i s.1, .i s.2]
abbrev Sp.d (s : Sp) : D := .agg [.i s.1, .i s.2]
def inW (n : Int) : Bool := decide (-4611686018427387904 ≤ n) && decide (n ≤ 4611686018427387904)
def okW (n : Int) : Except Int Int := if inW n then .ok n else .error 160
def oN (x : Int) : Int := if x < -2147483648 then -2147483648 else if x > 2147483647 then 2147483647 else x
def nT (a n : Int) : Int := a / n
def PH (a : Sp) : Sp := if a.1 ≥ 0 then a else if a.2 ≤ 0 then (-a.2, -a.1) else (0, mm2 true (-a.1) a.2)
def Jv (a b c d : Int) : Int := mm2 false (mm2 false (mm2 false a b) c) d
def Jw (a b c d : Int) : Int := mm2 true (mm2 true (mm2 true a b) c) d
def two (lo hi : Int) : Except Int Sp := if inW lo && inW hi then .ok (lo, hi) else .error 160
def prodM (a b : Sp) : Except Int Sp :=
 if inW (a.1 * b.1) && inW (a.1 * b.2) && inW (a.2 * b.1) && inW (a.2 * b.2) then .ok (Jv (a.1 * b.1) (a.1 * b.2) (a.2 * b.1) (a.2 * b.2), Jw (a.1 * b.1) (a.1 * b.2) (a.2 * b.1) (a.2 * b.2)) else .error 160
def aheadM (s : Sp) : Except Int Sp := if (decide (s.1 < 0) || decide (s.2 > 4096)) = true then .error 161 else .ok (-2147483648, 2147483647)
def minL : Int → List Int → Int
 | m, [] => m
 | m, v :: r => minL (mm2 false m v) r
def maxL : Int → List Int → Int
 | m, [] => m
 | m, v :: r => maxL (mm2 true m v) r
abbrev Bd.none : Bd := ⟨[], 0, 0⟩
abbrev Ln.none : Ln := ⟨[], 0, 0, 0⟩
abbrev Tb.none : Tb := ⟨[], []⟩
abbrev Sm.none : Sm := ⟨0, [], 0, Ex.none⟩
abbrev gK (p : Pr) (i : Int) : Bd := p.params.getD i.toNat Bd.none
abbrev aT (p : Pr) (i : Int) : Bd := p.states.getD i.toNat Bd.none
abbrev aU (p : Pr) (i : Int) : Ln := p.lines.getD i.toNat Ln.none
abbrev aC (p : Pr) (i : Int) : List Int := (p.tables.getD i.toNat Tb.none).values
def opM (p : Pr) (found : List Sp) (k i m : Int) (l : List Sp) : Except Int Sp :=
 if k == 1 then .ok (m, m)
 else if k == 3 then .ok ((gK p i).lo, (gK p i).hi)
 else if k == 4 then .ok ((aT p i).lo, (aT p i).hi)
 else if k == 5 then .ok (found.getD i.toNat (0, 0))
 else if k == 6 || k == 7 then aheadM (l.getD 0 (0, 0))
 else if k == 8 then .ok (mm2 false (aU p i).lo 0, mm2 true (aU p i).hi 0)
 else if k == 9 then .ok (minL ((aC p i).getD 0 0) (aC p i), maxL ((aC p i).getD 0 0) (aC p i))
 else if k == 10 then .ok (oN (l.getD 0 (0, 0)).1, oN (l.getD 0 (0, 0)).2)
 else if k == 11 then .ok (mm2 false (l.getD 0 (0, 0)).1 (l.getD 1 (0, 0)).1, mm2 false (l.getD 0 (0, 0)).2 (l.getD 1 (0, 0)).2)
 else if k == 12 then .ok (mm2 true (l.getD 0 (0, 0)).1 (l.getD 1 (0, 0)).1, mm2 true (l.getD 0 (0, 0)).2 (l.getD 1 (0, 0)).2)
 else if k == 13 then .ok (PH (l.getD 0 (0, 0)))
 else if k == 14 then .ok (-(l.getD 0 (0, 0)).2, -(l.getD 0 (0, 0)).1)
 else if k == 15 then two ((l.getD 0 (0, 0)).1 + (l.getD 1 (0, 0)).1) ((l.getD 0 (0, 0)).2 + (l.getD 1 (0, 0)).2)
 else if k == 16 then two ((l.getD 0 (0, 0)).1 + -(l.getD 1 (0, 0)).2) ((l.getD 0 (0, 0)).2 + -(l.getD 1 (0, 0)).1)
 else if k == 17 then prodM (l.getD 0 (0, 0)) (l.getD 1 (0, 0))
 else if k == 18 then .ok (nT (l.getD 0 (0, 0)).1 m, nT (l.getD 0 (0, 0)).2 m)
 else .ok (mm2 false (l.getD 2 (0, 0)).1 (l.getD 3 (0, 0)).1, mm2 true (l.getD 2 (0, 0)).2 (l.getD 3 (0, 0)).2)
mutual
def bJ (p : Pr) (found : List Sp) : Ex → Except Int Sp
 | .mk k _ i m l => match bD p found l with
  | .error e => .error e
  | .ok s => opM p found k i m s
def bD (p : Pr) (found : List Sp) : List Ex → Except Int (List Sp)
 | [] => .ok []
 | x :: r => match bJ p found x with
  | .error e => .error e
  | .ok s => match bD p found r with
   | .error e => .error e
   | .ok t => .ok (s :: t)
end
theorem dF (p : Pr) (found : List Sp) (x : Ex) : bJ p found x = match bD p found x.l with | .error e => .error e | .ok s => opM p found x.kind x.index x.n s := by cases x; rw [bJ]; rfl
def pre (a : List Sp) : Except Int (List Sp) → Except Int (List Sp)
 | .error e => .error e
 | .ok t => .ok (a ++ t)
theorem pre_nil (r : Except Int (List Sp)) : pre [] r = r := by cases r <;> rfl
theorem Zj {p : Pr} {found a : List Sp} {x : Ex} {r : List Ex} {s : Sp} (h : bJ p found x = .ok s) : pre a (bD p found (x :: r)) = pre (a ++ [s]) (bD p found r) := by
 rw [bD, h]
 simp only
 cases bD p found r with
 | error e => rfl
 | ok t => simp only [pre, List.append_assoc]; rfl
theorem W9 {p : Pr} {found a : List Sp} {x : Ex} {r : List Ex} {e : Int} (h : bJ p found x = .error e) : pre a (bD p found (x :: r)) = .error e := by
 rw [bD, h]; rfl
def xY (p : Pr) (n : Nat) (k i m : Int) : Bool :=
 if k == 1 then decide (0 ≤ m) && decide (m ≤ 2147483648)
 else if k == 3 then decide (0 ≤ i) && decide (i < p.params.length)
 else if k == 4 then decide (0 ≤ i) && decide (i < p.states.length)
 else if k == 5 then decide (0 ≤ i) && decide (i < n)
 else if k == 8 then decide (0 ≤ i) && decide (i < p.lines.length)
 else if k == 9 then decide (0 ≤ i) && decide (i < p.tables.length) && !(aC p i == [])
 else if k == 18 then decide (1 ≤ m) && decide (m ≤ 2147483648)
 else k == 6 || k == 7 || k == 10 || k == 11 || k == 12 || k == 13 || k == 14 || k == 15 || k == 16 || k == 17 || k == 19
mutual
def wfX (p : Pr) (n : Nat) : Ex → Bool
 | .mk k _ i m l => ((l.length : Int) == Ref15.parts k && xY p n k i m) && wfL p n l
def wfL (p : Pr) (n : Nat) : List Ex → Bool
 | [] => true
 | x :: r => wfX p n x && wfL p n r
end
theorem Jy (p : Pr) (n : Nat) (x : Ex) : wfX p n x = (((x.l.length : Int) == Ref15.parts x.kind && xY p n x.kind x.index x.n) && wfL p n x.l) := by cases x; rw [wfX]; rfl
theorem lw {p : Pr} {n : Nat} : ∀ {l : List Ex}, wfL p n l = true → ∀ y ∈ l, wfX p n y = true
 | x :: r, h, y, hy => by
  simp only [wfL, Bool.and_eq_true] at h
  rcases List.mem_cons.1 hy with rfl | hy
  ·exact h.1
  ·exact lw h.2 y hy
theorem EF {p : Pr} {found : List Sp} : ∀ {l : List Ex} {s : List Sp}, bD p found l = .ok s → s.length = l.length
 | [], s, h => by simp only [bD] at h; cases h; rfl
 | x :: r, s, h => by
  simp only [bD] at h
  cases hx : bJ p found x with
  | error e => rw [hx] at h; cases h
  | ok t =>
   rw [hx] at h
   simp only at h
   cases hr : bD p found r with
   | error e => rw [hr] at h; cases h
   | ok u =>
    rw [hr] at h
    cases h
    simp [EF hr]
def InS (l : List Sp) : Prop := ∀ s ∈ l, inW s.1 = true ∧ inW s.2 = true
structure Rng (p : Pr) : Prop where
 par : ∀ b ∈ p.params, -2147483648 ≤ b.lo ∧ b.lo ≤ b.hi ∧ b.hi ≤ 2147483647
 sta : ∀ b ∈ p.states, -2147483648 ≤ b.lo ∧ b.lo ≤ b.hi ∧ b.hi ≤ 2147483647
 lin : ∀ b ∈ p.lines, -2147483648 ≤ b.lo ∧ b.lo ≤ b.hi ∧ b.hi ≤ 2147483647
 tab : ∀ t ∈ p.tables, ∀ v ∈ t.values, -2147483648 ≤ v ∧ v ≤ 2147483647
theorem bM {n : Int} : inW n = true ↔ -4611686018427387904 ≤ n ∧ n ≤ 4611686018427387904 := by simp [inW]
def dI (p : Pr) (s : Sm) : Sp := if s.kind == 2 then ((aT p s.index).lo, (aT p s.index).hi) else if s.kind == 3 then ((aU p s.index).lo, (aU p s.index).hi) else if s.kind == 4 then (-2147483648, 2147483647) else (-4611686018427387904, 4611686018427387904)
def within (p : Pr) (s : Sm) (f : Sp) : Bool := decide (f.1 ≥ (dI p s).1) && decide (f.2 ≤ (dI p s).2)
def stmtsM (p : Pr) : List Sm → List Sp → Except Int (List Sp)
 | [], found => .ok found
 | s :: r, found => match bJ p found s.x with
  | .error e => .error e
  | .ok f => if within p s f then stmtsM p r (found ++ [f]) else .error 161
end Go.Fw.Rg
namespace Go.Fw.Rg
open Go.Fw Go.Fw.Ref15
variable [af] {a b : Int}
def z1a (a b : Int) : Bool := bif (bif (bif decide (a > 0) then decide (b > 0) else false) then decide (a > IntKind.i64.wrap (4611686018427387904 - b)) else false) then true else (bif (bif decide (a < 0) then decide (b < 0) else false) then decide (a < IntKind.i64.wrap (-4611686018427387904 - b)) else false)
theorem Xa (p q : Bool) : (bif p then q else false) = (p && q) := by cases p <;> rfl
theorem EG (p q : Bool) : (bif p then true else q) = (p || q) := by cases p <;> rfl
theorem PI (ha : inW a = true) (hb : inW b = true) : z1a a b = !inW (a + b) := by
 have ha := bM.1 ha
 have hb := bM.1 hb
 have key : ∀ x y : Int, (0 < b → x = 4611686018427387904 - b) → (b < 0 → y = -4611686018427387904 - b) →
   (bif (bif (bif decide (a > 0) then decide (b > 0) else false) then decide (a > x) else false) then true else (bif (bif decide (a < 0) then decide (b < 0) else false) then decide (a < y) else false)) = !inW (a + b) := by
  intro x y hx hy
  rw [Bool.eq_iff_iff]
  simp only [Xa, EG, Bool.and_eq_true, Bool.or_eq_true, decide_eq_true_eq, Bool.not_eq_true', inW, Bool.and_eq_false_iff, decide_eq_false_iff_not]
  omega
 exact key _ _ (fun h => bC (by omega) (by omega)) (fun h => bC (by omega) (by omega))
theorem mr {n : Int} (h : inW n = true) : IntKind.i64.wrap n = n := by
 have h := bM.1 h
 exact bC (by omega) (by omega)
theorem gy {n : Int} (h : inW n = true) : IntKind.i64.wrap (0 - n) = -n := by
 have h := bM.1 h
 rw [bC (by omega) (by omega)]; omega
theorem rJ {n : Int} (h : inW n = true) : inW (-n) = true := by
 have h := bM.1 h
 exact bM.2 (by omega)
def Me (n : Int) (f : Bool) : Bool := bif (bif !f then true else decide (n > 4611686018427387904)) then true else decide (n < -4611686018427387904)
def Vg (a b : Int) : Bool := bif a == 0 then true else b == 0
def Zk (a b : Int) : Bool := bif (IntKind.i64.wrap ((IntKind.i64.wrap (a * b)).tdiv b) == a) then decide (mm2 true a (IntKind.i64.wrap (0 - a)) ≤ IntKind.i64.wrap ((4611686018427387904 : Int).tdiv (mm2 true b (IntKind.i64.wrap (0 - b))))) else false
theorem Hm (a : Int) : mm2 true a (-a) = (a.natAbs : Int) := by
 simp only [mm2]; split <;> omega
theorem PK {n : Nat} (h : n ≤ 4611686018427387904) : IntKind.i64.wrap (n : Int) = (n : Int) := bC (by omega) (by omega)
theorem Xb (ha : inW a = true) (hb : inW b = true) (h0 : b ≠ 0) : Zk a b = inW (a * b) := by
 have ha' := bM.1 ha
 have hb' := bM.1 hb
 have hv : 0 < b.natAbs := Int.natAbs_pos.2 h0
 have hq : ((4611686018427387904 : Int).tdiv (b.natAbs : Int)) = ((4611686018427387904 / b.natAbs : Nat) : Int) := by
  rw [Int.tdiv_eq_ediv_of_nonneg (by omega)]; rfl
 have hle : 4611686018427387904 / b.natAbs ≤ 4611686018427387904 := Nat.div_le_self _ _
 have hex : (mm2 true a (IntKind.i64.wrap (0 - a)) ≤ IntKind.i64.wrap ((4611686018427387904 : Int).tdiv (mm2 true b (IntKind.i64.wrap (0 - b))))) ↔ inW (a * b) = true := by
  rw [gy ha, gy hb, Hm, Hm, hq, PK hle, Int.ofNat_le, Nat.le_div_iff_mul_le hv, bM, ← Int.natAbs_mul]
  omega
 unfold Zk
 cases hw : inW (a * b) with
 | true =>
  have e : IntKind.i64.wrap ((IntKind.i64.wrap (a * b)).tdiv b) = a := by
   rw [mr hw, Int.mul_tdiv_cancel _ h0, mr ha]
  rw [e, decide_eq_true (hex.2 hw)]; simp
 | false =>
  have : decide (mm2 true a (IntKind.i64.wrap (0 - a)) ≤ IntKind.i64.wrap ((4611686018427387904 : Int).tdiv (mm2 true b (IntKind.i64.wrap (0 - b))))) = false := by
   apply decide_eq_false
   intro h
   rw [hex.1 h] at hw; cases hw
  rw [this]
  cases (IntKind.i64.wrap ((IntKind.i64.wrap (a * b)).tdiv b) == a) <;> rfl
theorem Jz (ha : inW a = true) (hb : inW b = true) (h0 : b ≠ 0) : Me (IntKind.i64.wrap (a * b)) (Zk a b) = !inW (a * b) := by
 rw [Xb ha hb h0]
 cases hw : inW (a * b) with
 | true =>
  rw [mr hw]
  have hw := bM.1 hw
  have e1 : decide (a * b > 4611686018427387904) = false := decide_eq_false (by omega)
  have e2 : decide (a * b < -4611686018427387904) = false := decide_eq_false (by omega)
  simp only [Me, e1, e2]; rfl
 | false => rfl
theorem Xc (h : Vg a b = true) : a * b = 0 := by
 simp only [Vg, EG, Bool.or_eq_true, beq_iff_eq] at h
 rcases h with rfl | rfl <;> simp
theorem Xd (h : Vg a b = false) : b ≠ 0 := by
 simp only [Vg, EG, Bool.or_eq_false_iff, beq_eq_false_iff_ne] at h
 exact h.2
theorem JA {a n : Int} (hn : 1 ≤ n) (h : inW a = true) : inW (a / n) = true := by
 have h := bM.1 h
 refine bM.2 ⟨?_, ?_⟩
 ·rw [Int.le_ediv_iff_mul_le (by omega)]
  have : (4611686018427387904 : Int) * 1 ≤ 4611686018427387904 * n := Int.mul_le_mul_of_nonneg_left hn (by omega)
  omega
 ·have : a / n ≤ 4611686018427387904 / n := Int.ediv_le_ediv (by omega) h.2
  have h2 : (4611686018427387904 : Int) / n ≤ 4611686018427387904 := Int.ediv_le_self _ (by omega)
  omega
theorem TK {a n : Int} (hn : 1 ≤ n) (hn2 : n ≤ 2147483648) (h : inW a = true) (h0 : a < 0) : IntKind.i64.wrap (0 - IntKind.i64.wrap ((IntKind.i64.wrap (IntKind.i64.wrap (IntKind.i64.wrap (0 - a) + n) - 1)).tdiv n)) = nT a n := by
 have hw := bM.1 h
 rw [gy h, bC (n := -a + n) (by omega) (by omega), bC (n := -a + n - 1) (by omega) (by omega), Int.tdiv_eq_ediv_of_nonneg (by omega)]
 have e : (-a + n - 1) / n = -(a / n) := by
  have h1 := Int.mul_ediv_add_emod a n
  have h2 := Int.emod_nonneg a (show n ≠ 0 by omega)
  have h3 := Int.emod_lt_of_pos a (show 0 < n by omega)
  have h4 : -a + n - 1 = (n - 1 - a % n) + n * (-(a / n)) := by
   rw [Int.mul_neg]; omega
  rw [h4, Int.add_mul_ediv_left _ _ (by omega), Int.ediv_eq_zero_of_lt (by omega) (by omega), Int.zero_add]
 have hd := JA hn h
 rw [e, mr (rJ hd), gy (rJ hd), Int.neg_neg]; rfl
theorem TL {a n : Int} (hn : 1 ≤ n) (h : inW a = true) (h0 : ¬ a < 0) : IntKind.i64.wrap (a.tdiv n) = nT a n := by
 have hd := JA hn h
 rw [Int.tdiv_eq_ediv_of_nonneg (by omega), mr hd]; rfl
end Go.Fw.Rg
namespace Go.Fw
theorem fU [af] (T : Tbl) (A : FuncId → List D → mQ → Prop) (B : FuncId → List AV → Heap → jG → Heap → Prop) {kp : Nat} {Q : List Rec → Prop} {l : List Oper} {ms : List Nat} {tr : List Rec} {env : Env} {K : Heap} (bs : List Bool) (_ : l.length = bs.length) (h : (ms.map fun m => m.testBit kp) = bs) (h2 : uF T A B Q l bs tr env K) : KH (jk T A B kp Q l ms tr env K) :=
 rest_step T A B bs h h2
end Go.Fw
namespace Go.Fw.Rg
open Go.Fw Go.Fw.Ref15
variable [af] {r : Except Int Sp} {t : TypeId}
theorem jY {α : Type} {f : α → List D} (d : α) {k : Bool} {a b : Nat} {l : List α} {n : Int} {q : List D → Prop} (h1 : k = true) (h2 : a = b) (h3 : 0 ≤ n) (h4 : n < l.length) (h : q (f (l.getD n.toNat d))) :
  (k = true ∧ a = b) ∧ ∃ c, (0 ≤ n ∧ (l.map f)[n.toNat]? = some c) ∧ q c := by
 have h5 : n.toNat < l.length := by omega
 refine ⟨⟨h1, h2⟩, _, ⟨h3, ?_⟩, h⟩
 rw [List.getElem?_map, List.getElem?_eq_getElem h5, List.getD_eq_getElem?_getD, List.getElem?_eq_getElem h5]; rfl
theorem jm {k : Bool} {a b : Nat} {n : Int} {es : List (List D)} {q : List D → Prop} (h1 : k = true) (h2 : a = b) (h3 : decide (0 ≤ n ∧ n.toNat < es.length) = true) (h : q (es.getD n.toNat [])) : (k = true ∧ a = b) ∧ ∃ c, (0 ≤ n ∧ es[n.toNat]? = some c) ∧ q c := by
 have h3 := of_decide_eq_true h3
 refine ⟨⟨h1, h2⟩, _, ⟨h3.1, ?_⟩, h⟩
 rw [List.getD_eq_getElem?_getD, List.getElem?_eq_getElem h3.2]; rfl
def PL (t : TypeId) : Except Int Sp → mQ
 | .ok s => .ret s.d
 | .error e => .pan (.iface t (.i e))
def z1b (t : TypeId) : Except Int Int → mQ
 | .ok n => .ret (.i n)
 | .error e => .pan (.iface t (.i e))
theorem JB {A M : mQ → Prop} {V : Prop} (hA : A (PL t r)) (h1 : ∀ s, r = .ok s → M (.ret (.agg [.i s.1, .i s.2]))) (h2 : ∀ e, r = .error e → M (.pan (.iface t (.i e)))) : (∃ out, A out ∧ M out) ∨ V := by
 refine .inl ⟨_, hA, ?_⟩
 cases r with
 | ok s => exact h1 s rfl
 | error e => exact h2 e rfl
theorem jg {A M : mQ → Prop} {V : Prop} {r : Except Int Int} (hA : A (z1b t r)) (h1 : ∀ n, r = .ok n → M (.ret (.i n))) (h2 : ∀ e, r = .error e → M (.pan (.iface t (.i e)))) : (∃ out, A out ∧ M out) ∨ V := by
 refine .inl ⟨_, hA, ?_⟩
 cases r with
 | ok s => exact h1 s rfl
 | error e => exact h2 e rfl
theorem BJ {T : Tbl} {rs : List ResultVar} {K0 K K1 : Heap} {env : Env} {q : Prop} (s : Sp) (hs : r = .ok s) (h : Ll T rs K0 (.ret (.data (.agg [.i s.1, .i s.2]))) K1 env K) : Ll T rs K0 (PL t r).toA K1 env K ∨ q := by
 subst hs; exact .inl h
theorem lC {K0 K K1 : Heap} {x : AV} (e : Int) (hs : r = .error e) (h : fin K0 K x (.data (.iface t (.i e))) K1) : Ry K0 K x K1 (PL t r).toA := by
 subst hs; unfold Ry; exact h
theorem Aa {a n : Int} (h : okW a = .ok n) : n = a ∧ inW a = true := by
 unfold okW at h
 split at h
 ·rename_i hw; cases h; exact ⟨rfl, hw⟩
 ·cases h
theorem Ho {a e : Int} (h : okW a = .error e) : e = 160 ∧ inW a = false := by
 unfold okW at h
 split at h
 ·cases h
 ·rename_i hw; cases h; exact ⟨rfl, by simpa using hw⟩
theorem Vh {a b x y : Int} (h1 : okW a = .ok x) (h2 : okW b = .ok y) : two a b = .ok (x, y) := by
 obtain ⟨rfl, g1⟩ := Aa h1
 obtain ⟨rfl, g2⟩ := Aa h2
 rw [two, g1, g2]; rfl
theorem Vj {a b e : Int} (h1 : okW a = .error e) : two a b = .error e := by
 obtain ⟨rfl, g1⟩ := Ho h1
 rw [two, g1]; rfl
theorem Vk {a b e : Int} (h2 : okW b = .error e) : two a b = .error e := by
 obtain ⟨rfl, g2⟩ := Ho h2
 rw [two, g2, Bool.and_false]; rfl
theorem Xe {a b : Sp} {x y z w : Int} (h1 : okW (a.1 * b.1) = .ok x) (h2 : okW (a.1 * b.2) = .ok y) (h3 : okW (a.2 * b.1) = .ok z) (h4 : okW (a.2 * b.2) = .ok w) : prodM a b = .ok (Jv x y z w, Jw x y z w) := by
 obtain ⟨rfl, g1⟩ := Aa h1
 obtain ⟨rfl, g2⟩ := Aa h2
 obtain ⟨rfl, g3⟩ := Aa h3
 obtain ⟨rfl, g4⟩ := Aa h4
 rw [prodM, g1, g2, g3, g4]; rfl
theorem vU {a b : Sp} {e : Int} (h : okW (a.1 * b.1) = .error e ∨ okW (a.1 * b.2) = .error e ∨ okW (a.2 * b.1) = .error e ∨ okW (a.2 * b.2) = .error e) : prodM a b = .error e := by
 rcases h with h | h | h | h <;> obtain ⟨rfl, g⟩ := Ho h <;> rw [prodM, g] <;> simp
end Go.Fw.Rg
namespace Go.Fw.Rg
open Go.Fw Go.Fw.Ref15
variable [af] {p : Pr} {found sl : List Sp} {l : List Ex}
theorem kinds {k : Int} {n : Nat} {i m : Int} (h : xY p n k i m = true) : k = 1 ∨ k = 3 ∨ k = 4 ∨ k = 5 ∨ k = 6 ∨ k = 7 ∨ k = 8 ∨ k = 9 ∨ k = 10 ∨ k = 11 ∨ k = 12 ∨ k = 13 ∨ k = 14 ∨ k = 15 ∨ k = 16 ∨ k = 17 ∨ k = 18 ∨ k = 19 := by
 have h1 : ∀ n : Int, ¬ k = n → (k == n) = false := fun n hn => by simpa using hn
 have key : ¬ (k = 1 ∨ k = 3 ∨ k = 4 ∨ k = 5 ∨ k = 6 ∨ k = 7 ∨ k = 8 ∨ k = 9 ∨ k = 10 ∨ k = 11 ∨ k = 12 ∨ k = 13 ∨ k = 14 ∨ k = 15 ∨ k = 16 ∨ k = 17 ∨ k = 18 ∨ k = 19) → False := by
  intro hn
  unfold xY at h
  rw [h1 1 (by omega), h1 3 (by omega), h1 4 (by omega), h1 5 (by omega), h1 6 (by omega), h1 7 (by omega), h1 8 (by omega), h1 9 (by omega), h1 10 (by omega), h1 11 (by omega), h1 12 (by omega), h1 13 (by omega), h1 14 (by omega), h1 15 (by omega), h1 16 (by omega), h1 17 (by omega), h1 18 (by omega), h1 19 (by omega)] at h
  cases h
 exact Decidable.byContradiction key
theorem getD_in {l : List Sp} (h : InS l) (n : Nat) : inW (l.getD n (0, 0)).1 = true ∧ inW (l.getD n (0, 0)).2 = true := by
 rw [List.getD_eq_getElem?_getD]
 cases hn : l[n]? with
 | none => exact ⟨by decide, by decide⟩
 | some s => exact h s (List.mem_of_getElem? hn)
theorem getD_mem' {α : Type} {l : List α} {n : Int} (d : α) (h0 : 0 ≤ n) (h1 : n < l.length) : l.getD n.toNat d ∈ l := by
 have h : n.toNat < l.length := by omega
 rw [List.getD_eq_getElem?_getD, List.getElem?_eq_getElem h]
 exact List.getElem_mem h
theorem jZ {b : Bool} {x y : Int} (hx : inW x = true) (hy : inW y = true) : inW (mm2 b x y) = true := by
 cases b <;> simp only [mm2] <;> split <;> assumption
theorem eQ {x : Int} (h1 : -2147483648 ≤ x) (h2 : x ≤ 2147483648) : inW x = true := bM.2 (by omega)
theorem PM (x : Int) : -2147483648 ≤ oN x ∧ oN x ≤ 2147483647 := by
 unfold oN; repeat' split
 all_goals omega
theorem Hq : ∀ (l : List Int) (m : Int), minL m l ≤ m ∧ (∀ v ∈ l, minL m l ≤ v) ∧ (minL m l = m ∨ minL m l ∈ l)
 | [], m => ⟨Int.le_refl _, by simp, .inl rfl⟩
 | v :: r, m => by
  obtain ⟨h1, h2, h3⟩ := Hq r (mm2 false m v)
  have e : minL m (v :: r) = minL (mm2 false m v) r := rfl
  have hm : mm2 false m v ≤ m ∧ mm2 false m v ≤ v ∧ (mm2 false m v = m ∨ mm2 false m v = v) := by simp only [mm2]; split <;> omega
  rw [e]
  refine ⟨by omega, fun w hw => ?_, ?_⟩
  ·rcases List.mem_cons.1 hw with rfl | hw
   ·omega
   ·exact h2 w hw
  ·rcases h3 with h3 | h3
   ·rcases hm.2.2 with h | h
    ·left; omega
    ·right; rw [h3, h]; simp
   ·right; simp [h3]
theorem Ht : ∀ (l : List Int) (m : Int), m ≤ maxL m l ∧ (∀ v ∈ l, v ≤ maxL m l) ∧ (maxL m l = m ∨ maxL m l ∈ l)
 | [], m => ⟨Int.le_refl _, by simp, .inl rfl⟩
 | v :: r, m => by
  obtain ⟨h1, h2, h3⟩ := Ht r (mm2 true m v)
  have e : maxL m (v :: r) = maxL (mm2 true m v) r := rfl
  have hm : m ≤ mm2 true m v ∧ v ≤ mm2 true m v ∧ (mm2 true m v = m ∨ mm2 true m v = v) := by simp only [mm2]; split <;> omega
  rw [e]
  refine ⟨by omega, fun w hw => ?_, ?_⟩
  ·rcases List.mem_cons.1 hw with rfl | hw
   ·omega
   ·exact h2 w hw
  ·rcases h3 with h3 | h3
   ·rcases hm.2.2 with h | h
    ·left; omega
    ·right; rw [h3, h]; simp
   ·right; simp [h3]
theorem rM {a s : Sp} (h : aheadM a = .ok s) : s = (-2147483648, 2147483647) := by
 unfold aheadM at h
 split at h
 ·cases h
 ·cases h; rfl
theorem Hu {a b : Int} {s : Sp} (h : two a b = .ok s) : s = (a, b) ∧ inW a = true ∧ inW b = true := by
 unfold two at h
 split at h
 ·rename_i hw
  simp only [Bool.and_eq_true] at hw
  cases h
  exact ⟨rfl, hw.1, hw.2⟩
 ·cases h
theorem JC {a b s : Sp} (h : prodM a b = .ok s) : s = (Jv (a.1 * b.1) (a.1 * b.2) (a.2 * b.1) (a.2 * b.2), Jw (a.1 * b.1) (a.1 * b.2) (a.2 * b.1) (a.2 * b.2)) ∧ inW (a.1 * b.1) = true ∧ inW (a.1 * b.2) = true ∧ inW (a.2 * b.1) = true ∧ inW (a.2 * b.2) = true := by
 unfold prodM at h
 split at h
 ·rename_i hw
  simp only [Bool.and_eq_true] at hw
  cases h
  exact ⟨rfl, hw.1.1.1, hw.1.1.2, hw.1.2, hw.2⟩
 ·cases h
theorem in2 {x y : Int} (h1 : inW x = true) (h2 : inW y = true) : inW ((x, y) : Sp).1 = true ∧ inW ((x, y) : Sp).2 = true := ⟨h1, h2⟩
theorem Zl {found l : List Sp} {k i m : Int} {s : Sp} (hR : Rng p) (hF : InS found) (hs : InS l) (hw : xY p found.length k i m = true) (h : opM p found k i m l = .ok s) : inW s.1 = true ∧ inW s.2 = true := by
 have g := getD_in hs
 rcases kinds hw with rfl | rfl | rfl | rfl | rfl | rfl | rfl | rfl | rfl | rfl | rfl | rfl | rfl | rfl | rfl | rfl | rfl | rfl
 ·have hw : (decide (0 ≤ m) && decide (m ≤ 2147483648)) = true := hw
  simp at hw
  have h : Except.ok (m, m) = Except.ok s := h
  cases h
  exact in2 (eQ (by omega) (by omega)) (eQ (by omega) (by omega))
 ·have hw : (decide (0 ≤ i) && decide (i < p.params.length)) = true := hw
  simp only [Bool.and_eq_true, decide_eq_true_eq] at hw
  have h : Except.ok ((gK p i).lo, (gK p i).hi) = Except.ok s := h
  cases h
  have : -2147483648 ≤ (gK p i).lo ∧ (gK p i).lo ≤ (gK p i).hi ∧ (gK p i).hi ≤ 2147483647 := hR.par _ (getD_mem' Bd.none hw.1 hw.2)
  exact in2 (eQ (by omega) (by omega)) (eQ (by omega) (by omega))
 ·have hw : (decide (0 ≤ i) && decide (i < p.states.length)) = true := hw
  simp only [Bool.and_eq_true, decide_eq_true_eq] at hw
  have h : Except.ok ((aT p i).lo, (aT p i).hi) = Except.ok s := h
  cases h
  have : -2147483648 ≤ (aT p i).lo ∧ (aT p i).lo ≤ (aT p i).hi ∧ (aT p i).hi ≤ 2147483647 := hR.sta _ (getD_mem' Bd.none hw.1 hw.2)
  exact in2 (eQ (by omega) (by omega)) (eQ (by omega) (by omega))
 ·have h : Except.ok (found.getD i.toNat (0, 0)) = Except.ok s := h
  cases h
  exact getD_in hF _
 ·obtain rfl := rM (show aheadM (l.getD 0 (0, 0)) = .ok s from h)
  exact in2 (by decide) (by decide)
 ·obtain rfl := rM (show aheadM (l.getD 0 (0, 0)) = .ok s from h)
  exact in2 (by decide) (by decide)
 ·have hw : (decide (0 ≤ i) && decide (i < p.lines.length)) = true := hw
  simp only [Bool.and_eq_true, decide_eq_true_eq] at hw
  have h : Except.ok (mm2 false (aU p i).lo 0, mm2 true (aU p i).hi 0) = Except.ok s := h
  cases h
  have : -2147483648 ≤ (aU p i).lo ∧ (aU p i).lo ≤ (aU p i).hi ∧ (aU p i).hi ≤ 2147483647 := hR.lin _ (getD_mem' Ln.none hw.1 hw.2)
  exact in2 (jZ (eQ (by omega) (by omega)) (by decide)) (jZ (eQ (by omega) (by omega)) (by decide))
 ·have hw : (decide (0 ≤ i) && decide (i < p.tables.length) && !(aC p i == [])) = true := hw
  simp only [Bool.and_eq_true, decide_eq_true_eq] at hw
  have h : Except.ok (minL ((aC p i).getD 0 0) (aC p i), maxL ((aC p i).getD 0 0) (aC p i)) = Except.ok s := h
  cases h
  have ht := hR.tab _ (getD_mem' Tb.none hw.1.1 hw.1.2)
  have h0 : -2147483648 ≤ (aC p i).getD 0 0 ∧ (aC p i).getD 0 0 ≤ 2147483647 := by
   rw [List.getD_eq_getElem?_getD]
   cases hn : (aC p i)[0]? with
   | none => exact ⟨by decide, by decide⟩
   | some v => exact ht v (List.mem_of_getElem? hn)
  have h1 := Hq (aC p i) ((aC p i).getD 0 0)
  have h2 := Ht (aC p i) ((aC p i).getD 0 0)
  constructor
  ·rcases h1.2.2 with h | h
   ·show inW (minL _ _) = true
    rw [h]; exact eQ (by omega) (by omega)
   ·have := ht _ h
    exact eQ (by omega) (by omega)
  ·rcases h2.2.2 with h | h
   ·show inW (maxL _ _) = true
    rw [h]; exact eQ (by omega) (by omega)
   ·have := ht _ h
    exact eQ (by omega) (by omega)
 ·have h : Except.ok (oN (l.getD 0 (0, 0)).1, oN (l.getD 0 (0, 0)).2) = Except.ok s := h
  cases h
  have h1 := PM (l.getD 0 (0, 0)).1
  have h2 := PM (l.getD 0 (0, 0)).2
  exact in2 (eQ (by omega) (by omega)) (eQ (by omega) (by omega))
 ·have h : Except.ok (mm2 false (l.getD 0 (0, 0)).1 (l.getD 1 (0, 0)).1, mm2 false (l.getD 0 (0, 0)).2 (l.getD 1 (0, 0)).2) = Except.ok s := h
  cases h
  exact in2 (jZ (g 0).1 (g 1).1) (jZ (g 0).2 (g 1).2)
 ·have h : Except.ok (mm2 true (l.getD 0 (0, 0)).1 (l.getD 1 (0, 0)).1, mm2 true (l.getD 0 (0, 0)).2 (l.getD 1 (0, 0)).2) = Except.ok s := h
  cases h
  exact in2 (jZ (g 0).1 (g 1).1) (jZ (g 0).2 (g 1).2)
 ·have h : Except.ok (PH (l.getD 0 (0, 0))) = Except.ok s := h
  cases h
  unfold PH
  repeat' split
  ·exact g 0
  ·exact in2 (rJ (g 0).2) (rJ (g 0).1)
  ·exact in2 (by decide) (jZ (rJ (g 0).1) (g 0).2)
 ·have h : Except.ok (-(l.getD 0 (0, 0)).2, -(l.getD 0 (0, 0)).1) = Except.ok s := h
  cases h
  exact in2 (rJ (g 0).2) (rJ (g 0).1)
 ·obtain ⟨rfl, h1, h2⟩ := Hu (show two ((l.getD 0 (0, 0)).1 + (l.getD 1 (0, 0)).1) ((l.getD 0 (0, 0)).2 + (l.getD 1 (0, 0)).2) = .ok s from h)
  exact ⟨h1, h2⟩
 ·obtain ⟨rfl, h1, h2⟩ := Hu (show two ((l.getD 0 (0, 0)).1 + -(l.getD 1 (0, 0)).2) ((l.getD 0 (0, 0)).2 + -(l.getD 1 (0, 0)).1) = .ok s from h)
  exact ⟨h1, h2⟩
 ·obtain ⟨rfl, h1, h2, h3, h4⟩ := JC (show prodM (l.getD 0 (0, 0)) (l.getD 1 (0, 0)) = .ok s from h)
  exact in2 (jZ (jZ (jZ h1 h2) h3) h4) (jZ (jZ (jZ h1 h2) h3) h4)
 ·have hw : (decide (1 ≤ m) && decide (m ≤ 2147483648)) = true := hw
  simp only [Bool.and_eq_true, decide_eq_true_eq] at hw
  have h : Except.ok (nT (l.getD 0 (0, 0)).1 m, nT (l.getD 0 (0, 0)).2 m) = Except.ok s := h
  cases h
  exact in2 (JA hw.1 (g 0).1) (JA hw.1 (g 0).2)
 ·have h : Except.ok (mm2 false (l.getD 2 (0, 0)).1 (l.getD 3 (0, 0)).1, mm2 true (l.getD 2 (0, 0)).2 (l.getD 3 (0, 0)).2) = Except.ok s := h
  cases h
  exact in2 (jZ (g 2).1 (g 3).1) (jZ (g 2).2 (g 3).2)
theorem findL_in' {found : List Sp} : ∀ {l : List Ex} {t : List Sp}, (∀ x ∈ l, ∀ s : Sp, wfX p found.length x = true → bJ p found x = .ok s → inW s.1 = true ∧ inW s.2 = true) → wfL p found.length l = true → bD p found l = .ok t → InS t
 | [], t, _, _, h => by simp only [bD] at h; cases h; intro s hs; simp at hs
 | x :: r, t, ih, hw, h => by
  simp only [wfL, Bool.and_eq_true] at hw
  simp only [bD] at h
  cases hx : bJ p found x with
  | error e => rw [hx] at h; cases h
  | ok s =>
   rw [hx] at h
   simp only at h
   cases hr : bD p found r with
   | error e => rw [hr] at h; cases h
   | ok u =>
    rw [hr] at h
    cases h
    intro y hy
    rcases List.mem_cons.1 hy with rfl | hy
    ·exact ih x (by simp) _ hw.1 hx
    ·exact findL_in' (fun x hx => ih x (by simp [hx])) hw.2 hr y hy
theorem bY {n : Nat} {x : Ex} (h : wfX p n x = true) : (x.l.length : Int) = Ref15.parts x.kind ∧ xY p n x.kind x.index x.n = true ∧ wfL p n x.l = true := by
 rw [Jy] at h
 simp only [Bool.and_eq_true, beq_iff_eq] at h
 exact ⟨h.1.1, h.1.2, h.2⟩
theorem vV {found : List Sp} (hR : Rng p) (hF : InS found) : ∀ (x : Ex) (s : Sp), wfX p found.length x = true → bJ p found x = .ok s → inW s.1 = true ∧ inW s.2 = true := by
 refine Ex.ind fun x ih s hw h => ?_
 obtain ⟨_, h2, h3⟩ := bY hw
 rw [dF] at h
 cases hl : bD p found x.l with
 | error e => rw [hl] at h; cases h
 | ok t =>
  rw [hl] at h
  exact Zl hR hF (findL_in' ih h3 hl) h2 h
theorem TM {found : List Sp} (hR : Rng p) (hF : InS found) {t : List Sp} (hw : wfL p found.length l = true) (h : bD p found l = .ok t) : InS t :=
 findL_in' (fun x _ s => vV hR hF x s) hw h
theorem nU : ∀ {l : List Ex} {y : Ex}, y ∈ l → Ref15.nodes y ≤ Ref15.nodesL l
 | x :: r, y, h => by
  simp only [Ref15.nodesL]
  rcases List.mem_cons.1 h with rfl | h
  ·omega
  ·have := nU h; omega
theorem vW {x : Ex} (h : pre sl (bD p found []) = bD p found x.l) : bJ p found x = opM p found x.kind x.index x.n sl ∧ bD p found x.l = .ok sl := by
 have e : bD p found x.l = .ok sl := by rw [← h]; simp [bD, pre]
 exact ⟨by rw [dF, e], e⟩
theorem TN {x y : Ex} {r : List Ex} {e : Int} (h : pre sl (bD p found (y :: r)) = bD p found x.l) (hy : bJ p found y = .error e) : bJ p found x = .error e := by
 rw [W9 hy] at h
 rw [dF, ← h]
theorem PN {x y : Ex} {r : List Ex} {s : Sp} (h : pre sl (bD p found (y :: r)) = bD p found x.l) (hy : bJ p found y = .ok s) : pre (sl ++ [s]) (bD p found r) = bD p found x.l := by
 rw [← h, Zj hy]
theorem xZ {sl : List Sp} (h : sl.length = 1) : ∃ a, sl = [a] := by
 match sl, h with
 | [a], _ => exact ⟨a, rfl⟩
theorem PO {sl : List Sp} (h : sl.length = 2) : ∃ a b, sl = [a, b] := by
 match sl, h with
 | [a, b], _ => exact ⟨a, b, rfl⟩
theorem z1c {sl : List Sp} (h : sl.length = 4) : ∃ a b c d, sl = [a, b, c, d] := by
 match sl, h with
 | [a, b, c, d], _ => exact ⟨a, b, c, d, rfl⟩
end Go.Fw.Rg
namespace Go.Fw.Rg
open Go.Fw Go.Fw.Ref15
variable [af]
def wfS (p : Pr) (i : Nat) (s : Sm) : Bool := wfX p i s.x && ((!(s.kind == 2) || (decide (0 ≤ s.index) && decide (s.index < p.states.length))) && (!(s.kind == 3) || (decide (0 ≤ s.index) && decide (s.index < p.lines.length))))
def mX (p : Pr) : Nat → List Sm → Bool
 | _, [] => true
 | i, s :: r => wfS p i s && mX p (i + 1) r
theorem lN {p : Pr} {i : Nat} {s : Sm} {r : List Sm} (h : mX p i (s :: r) = true) : mX p (i + 1) r = true := by
 simp only [mX, Bool.and_eq_true] at h; exact h.2
theorem EH {p : Pr} {i : Nat} {s : Sm} {r : List Sm} (h : mX p i (s :: r) = true) : wfX p i s.x = true := by
 simp only [mX, wfS, Bool.and_eq_true] at h; exact h.1.1
theorem JD {p : Pr} {i : Nat} {s : Sm} {r : List Sm} (h : mX p i (s :: r) = true) (h2 : (s.kind == 2) = true) : 0 ≤ s.index ∧ s.index < p.states.length := by
 simp only [mX, wfS, Bool.and_eq_true, h2, Bool.not_true, Bool.false_or, decide_eq_true_eq] at h; exact h.1.2.1
theorem JE {p : Pr} {i : Nat} {s : Sm} {r : List Sm} (h : mX p i (s :: r) = true) (h2 : (s.kind == 3) = true) : 0 ≤ s.index ∧ s.index < p.lines.length := by
 simp only [mX, wfS, Bool.and_eq_true, h2, Bool.not_true, Bool.false_or, decide_eq_true_eq] at h; exact h.1.2.2
theorem Xf (f B : Sp) : sameL [.i (mm2 false f.1 B.1), .i (mm2 true f.2 B.2)] [.i B.1, .i B.2] = (decide (f.1 ≥ B.1) && decide (f.2 ≤ B.2)) := by
 rw [Bool.eq_iff_iff]
 simp only [sameL, sameS, Bool.and_true, Bool.and_eq_true, beq_iff_eq, decide_eq_true_eq, mm2]
 constructor
 ·rintro ⟨h1, h2⟩
  split at h1 <;> split at h2 <;> omega
 ·rintro ⟨h1, h2⟩
  split <;> split <;> omega
theorem PQ {p : Pr} {s : Sm} {f B : Sp} {b : Bool} (hB : dI p s = B) (h : (!(sameL [.i (mm2 false f.1 B.1), .i (mm2 true f.2 B.2)] [.i B.1, .i B.2])) = b) : within p s f = !b := by
 rw [Xf] at h
 rw [within, hB, ← h, Bool.not_not]
theorem jo {p : Pr} {s : Sm} {f B : Sp} (hB : dI p s = B) (h : (!(sameL [.i (mm2 false f.1 B.1), .i (mm2 true f.2 B.2)] [.i B.1, .i B.2])) = true) : within p s f = false := PQ hB h
theorem kR {p : Pr} {s : Sm} {f B : Sp} (hB : dI p s = B) (h : (!(sameL [.i (mm2 false f.1 B.1), .i (mm2 true f.2 B.2)] [.i B.1, .i B.2])) = false) : within p s f = true := PQ hB h
theorem Zm {p : Pr} {s : Sm} (h : (s.kind == 2) = true) : dI p s = ((aT p s.index).lo, (aT p s.index).hi) := by rw [dI, h]; rfl
theorem Zn {p : Pr} {s : Sm} (h : (s.kind == 2) = false) (h3 : (s.kind == 3) = true) : dI p s = ((aU p s.index).lo, (aU p s.index).hi) := by rw [dI, h, h3]; rfl
theorem Zo {p : Pr} {s : Sm} (h : (s.kind == 2) = false) (h3 : (s.kind == 3) = false) (h4 : (s.kind == 4) = true) : dI p s = (-2147483648, 2147483647) := by rw [dI, h, h3, h4]; rfl
theorem Zp {p : Pr} {s : Sm} (h : (s.kind == 2) = false) (h3 : (s.kind == 3) = false) (h4 : (s.kind == 4) = false) : dI p s = (-4611686018427387904, 4611686018427387904) := by rw [dI, h, h3, h4]; rfl
def gm (p : Pr) : List Sm → List Sp → List Sp
 | [], found => found
 | s :: r, found => match bJ p found s.x with
  | .error _ => found
  | .ok f => if within p s f then gm p r (found ++ [f]) else found
theorem TP {p : Pr} {s : Sm} {r : List Sm} {F : List Sp} {f : Sp} (h : bJ p F s.x = .ok f) (hw : within p s f = true) : stmtsM p (s :: r) F = stmtsM p r (F ++ [f]) ∧ gm p (s :: r) F = gm p r (F ++ [f]) := by
 constructor
 ·rw [stmtsM, h]; simp only [hw, if_true]
 ·rw [gm, h]; simp only [hw, if_true]
theorem TQ {p : Pr} {s : Sm} {r : List Sm} {F : List Sp} {e : Int} (h : bJ p F s.x = .error e) : stmtsM p (s :: r) F = .error e ∧ gm p (s :: r) F = F := by
 constructor
 ·rw [stmtsM, h]
 ·rw [gm, h]
theorem TR {p : Pr} {s : Sm} {r : List Sm} {F : List Sp} {f : Sp} (h : bJ p F s.x = .ok f) (hw : within p s f = false) : stmtsM p (s :: r) F = .error 161 ∧ gm p (s :: r) F = F := by
 constructor
 ·rw [stmtsM, h]; simp only [hw]; rfl
 ·rw [gm, h]; simp only [hw]; rfl
theorem EI {A M : mQ → Prop} {t : TypeId} {r : Except Int Sp} (hA : A (PL t r)) (h1 : ∀ s, r = .ok s → M (.ret (.agg [.i s.1, .i s.2]))) (h2 : ∀ e, r = .error e → M (.pan (.iface t (.i e)))) : ∃ out, A out ∧ M out := by
 refine ⟨_, hA, ?_⟩
 cases r with
 | ok s => exact h1 s rfl
 | error e => exact h2 e rfl
theorem BK {l : List Sp} {s : Sp} (h : InS l) (hs : inW s.1 = true ∧ inW s.2 = true) : InS (l ++ [s]) := by
 intro y hy
 rcases List.mem_append.1 hy with hy | hy
 ·exact h y hy
 ·rw [List.mem_singleton.1 hy]; exact hs
structure StI (p : Pr) (R : Except Int (List Sp)) (FF : List Sp) (i : Nat) (r : List Sm) (fs : List Sp) : Prop where
 eq : stmtsM p r fs = R
 eqF : gm p r fs = FF
 len : fs.length = i
 ins : InS fs
 wf : mX p i r = true
variable {p : Pr} {s : Sm} {r : List Sm} {R : Except Int (List Sp)} {i : Nat} {FF : List Sp} {fs : List Sp}
theorem EJ (h1 : stmtsM p p.stmts [] = R) (h2 : gm p p.stmts [] = FF) (hw : mX p 0 p.stmts = true) : StI p R FF 0 p.stmts [] := ⟨h1, h2, rfl, fun s hs => by simp at hs, hw⟩
theorem BL (h : StI p R FF i (s :: r) fs) : wfX p fs.length s.x = true := by rw [h.len]; exact EH h.wf
theorem kS {f : Sp} (hR : Rng p) (h : StI p R FF i (s :: r) fs) (q : bJ p fs s.x = .ok f) (hw : within p s f = true) : StI p R FF (i + 1) r (fs ++ [f]) := by
 obtain ⟨h1, h2⟩ := TP (r := r) q hw
 exact ⟨by rw [← h1]; exact h.eq, by rw [← h2]; exact h.eqF, by rw [List.length_append, h.len]; rfl, BK h.ins (vV hR h.ins _ _ (BL h) q), lN h.wf⟩
theorem PR (h : StI p R FF i [] fs) : R = .ok fs ∧ FF = fs := ⟨h.eq.symm, h.eqF.symm⟩
theorem BM {e : Int} (h : StI p R FF i (s :: r) fs) (q : bJ p fs s.x = .error e) : R = .error e ∧ FF = fs := by
 obtain ⟨h1, h2⟩ := TQ (r := r) q
 exact ⟨h.eq.symm.trans h1, h.eqF.symm.trans h2⟩
theorem gz {f : Sp} (h : StI p R FF i (s :: r) fs) (q : bJ p fs s.x = .ok f) (hw : within p s f = false) : R = .error 161 ∧ FF = fs := by
 obtain ⟨h1, h2⟩ := TR (r := r) q hw
 exact ⟨h.eq.symm.trans h1, h.eqF.symm.trans h2⟩
theorem EK {F : List Sp} {e : Int} (h : (Except.ok F : Except Int (List Sp)) = .error e) : False := by cases h
theorem PS {a b : Int} (h : (Except.error a : Except Int (List Sp)) = .error b) : a = b := by cases h; rfl
end Go.Fw.Rg
namespace Go.Fw.Rg
open Go.Fw Go.Fw.Ref15
variable [af]
def Ac {α : Type} (f : α × α → Bool) (l m : List α) : Bool := !((l.length : Int) != (m.length : Int)) && (l.zip m).all f
def Zq (v : Int × Int) : Bool := !(v.1 != v.2)
def PT (l m : List Int) : Bool := Ac Zq l m
def exE (q : Ex × Ex) : Bool := fQ q.1 q.2
def Zr (l m : List Ex) : Bool := Ac exE l m
def tbE (q : Tb × Tb) : Bool := q.1.name == q.2.name && PT q.1.values q.2.values
def smE (q : Sm × Sm) : Bool := ((q.1.kind == q.2.kind && q.1.name == q.2.name) && q.1.index == q.2.index) && fQ q.1.x q.2.x
def PU (a b : Pr) : Bool := (a.name == b.name && a.latency == b.latency) && a.tail == b.tail
def pq (a b : Pr) : Bool := ((((PU a b && jH a.params b.params) && jH a.states b.states) && Ac xQ a.lines b.lines) && Ac tbE a.tables b.tables) && Ac smE a.stmts b.stmts
theorem BN (a b : Ex) : (a.kind == b.kind && a.name == b.name && a.index == b.index && a.n == b.n && Zr a.l b.l) = fQ a b := by
 rw [xO, Zr, Ac]
 by_cases hl : a.l.length = b.l.length
 ·rw [xP hl]
  have e : ((a.l.length : Int) != (b.l.length : Int)) = false := by simp [hl]
  rw [e]
  by_cases h1 : a.kind = b.kind <;> by_cases h2 : a.name = b.name <;> by_cases h3 : a.index = b.index <;> by_cases h4 : a.n = b.n <;> simp [h1, h2, h3, h4] <;> rfl
 ·have e : ((a.l.length : Int) != (b.l.length : Int)) = true := by simp; omega
  rw [e]; simp
theorem TS (l m : List Bd) : jH l m = Ac zW l m := rfl
theorem PV {α : Type} {f : α × α → Bool} (h : ∀ x y, f (x, y) = true ↔ x = y) : ∀ l m : List α, l.length = m.length → ((l.zip m).all f = true ↔ l = m)
 | [], [], _ => by simp
 | x :: r, y :: s, hl => by
  have := PV h r s (by simpa using hl)
  simp only [List.zip_cons_cons, List.all_cons, Bool.and_eq_true, h x y, this, List.cons.injEq]
 | [], _ :: _, hl => by simp at hl
 | _ :: _, [], hl => by simp at hl
theorem rO {α : Type} {f : α × α → Bool} (h : ∀ x y, f (x, y) = true ↔ x = y) (l m : List α) : Ac f l m = true ↔ l = m := by
 unfold Ac
 by_cases hl : l.length = m.length
 ·have e : (!((l.length : Int) != (m.length : Int))) = true := by simp [hl]
  rw [e, Bool.true_and]
  exact PV h l m hl
 ·have e : (!((l.length : Int) != (m.length : Int))) = false := by simp; omega
  rw [e, Bool.false_and]
  constructor
  ·intro h; cases h
  ·intro h; exact absurd (congrArg List.length h) hl
theorem TT (x y : Int) : Zq (x, y) = true ↔ x = y := by simp [Zq]
theorem Xg (x y : Bd) : zW (x, y) = true ↔ x = y := by
 obtain ⟨a, b, c⟩ := x
 obtain ⟨d, e, f⟩ := y
 simp [zW, Go.Fw.sameL, Go.Fw.sameS]
theorem Xh (x y : Ln) : xQ (x, y) = true ↔ x = y := by
 obtain ⟨a, b, c, d⟩ := x
 obtain ⟨e, f, g, h⟩ := y
 simp [xQ, Go.Fw.sameL, Go.Fw.sameS]
theorem Xi (x y : Tb) : tbE (x, y) = true ↔ x = y := by
 obtain ⟨a, b⟩ := x
 obtain ⟨c, d⟩ := y
 simp only [tbE, PT, Bool.and_eq_true, beq_iff_eq, rO TT, Tb.mk.injEq]
theorem Xj : ∀ x y : Ex, fQ x y = true ↔ x = y := by
 refine Ex.ind fun x ih y => ?_
 obtain ⟨k, n, i, m, l⟩ := x
 obtain ⟨k', n', i', m', l'⟩ := y
 have ih : ∀ z ∈ l, ∀ y, fQ z y = true ↔ z = y := ih
 rw [xO]
 have key : ∀ l l' : List Ex, l.length = l'.length → (∀ z ∈ l, ∀ y, fQ z y = true ↔ z = y) → ((l.zip l').all (fun q => fQ q.1 q.2) = true ↔ l = l') := by
  intro l
  induction l with
  | nil => intro l' hl _; cases l' with
   | nil => simp
   | cons _ _ => simp at hl
  | cons x r ir =>
   intro l' hl hz
   cases l' with
   | nil => simp at hl
   | cons y s =>
    have := ir s (by simpa using hl) (fun z hz' => hz z (by simp [hz']))
    simp only [List.zip_cons_cons, List.all_cons, Bool.and_eq_true, hz x (by simp) y, this, List.cons.injEq]
 show (if (k != k' || n != n' || i != i' || m != m' || (l.length : Int) != (l'.length : Int)) = true then false else Ref15.sameL l l') = true ↔ _
 by_cases hl : l.length = l'.length
 ·have := key l l' hl ih
  rw [xP hl]
  rw [Ex.mk.injEq, ← this]
  by_cases h1 : k = k' <;> by_cases h2 : n = n' <;> by_cases h3 : i = i' <;> by_cases h4 : m = m' <;> simp [h1, h2, h3, h4, hl]
 ·have e : ((l.length : Int) != (l'.length : Int)) = true := by simp; omega
  rw [e, Bool.or_true, if_pos rfl]
  constructor
  ·intro h; cases h
  ·intro h
   injection h with _ _ _ _ h
   exact absurd (congrArg List.length h) hl
theorem Xk (x y : Sm) : smE (x, y) = true ↔ x = y := by
 obtain ⟨a, b, c, d⟩ := x
 obtain ⟨e, f, g, h⟩ := y
 simp only [smE, Bool.and_eq_true, beq_iff_eq, Xj, Sm.mk.injEq, and_assoc]
theorem fV (a b : Pr) : pq a b = true ↔ a = b := by
 obtain ⟨a1, a2, a3, a4, a5, a6, a7, a8⟩ := a
 obtain ⟨b1, b2, b3, b4, b5, b6, b7, b8⟩ := b
 simp only [pq, PU, TS, Bool.and_eq_true, beq_iff_eq, rO Xg, rO Xh, rO Xi, rO Xk, Pr.mk.injEq, and_assoc]
end Go.Fw.Rg
