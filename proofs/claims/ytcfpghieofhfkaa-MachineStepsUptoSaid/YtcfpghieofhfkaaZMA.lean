/- The typed data of compiled processors and their states, and how they lie in memory; what is checked of a code. -/
import Derived.Test.YtcfpghieofhfkaaZDA
set_option linter.unusedSimpArgs false
set_option linter.unusedVariables false
namespace Go.Fw.Mac
set_option linter.unusedSectionVars false
open Go.Fw
abbrev W (n : Int) : Int := IntKind.i64.wrap n
structure Cd where
  latency : Int
  tail : Int
  params : List Bd
  states : List Bd
  lines : List Ln
  tables : List (List Int)
  regs : Int
  instrs : List (Int × Int)
structure Sta where
  values : List Int
  lines : List (List Int)
abbrev insC (x : Int × Int) : List D := [.i x.1, .i x.2]
abbrev lnC (t : List Int) : List D := [ints t]
abbrev Cd.cs (c : Cd) : List D := [.i c.latency, .i c.tail, .sl 3 (c.params.map Bd.cs), .sl 3 (c.states.map Bd.cs), .sl 4 (c.lines.map Ln.cs), .sl 1 (c.tables.map lnC), .i c.regs, .sl 2 (c.instrs.map insC)]
abbrev Cd.d (c : Cd) : D := .agg c.cs
abbrev Sta.cs (s : Sta) : List D := [ints s.values, .sl 1 (s.lines.map lnC)]
abbrev Sta.d (s : Sta) : D := .agg s.cs
abbrev bdsC (l : List Bd) : List D := [.sl 3 (l.map Bd.cs)]
def lens {α : Type} (ls : List (List α)) : Nat := (ls.map List.length).sum
theorem lens_cons {α : Type} (l : List α) (r : List (List α)) : lens (l :: r) = l.length + lens r := by simp [lens]
theorem lens_nil {α : Type} : lens ([] : List (List α)) = 0 := rfl
theorem lens_flat {α : Type} (ls : List (List α)) : ls.flatten.length = lens ls := by simp [lens, List.length_flatten]
abbrev boolC (b : Bool) : List D := [.b b]
structure Cd.Sm (c : Cd) : Prop where
  params : c.params.length ≤ 268435456
  states : c.states.length ≤ 268435456
  lines : c.lines.length ≤ 268435456
  tables : c.tables.length ≤ 268435456
  instrs : c.instrs.length ≤ 268435456
  table : ∀ t ∈ c.tables, t.length ≤ 268435456
structure Sta.Sm (s : Sta) : Prop where
  values : s.values.length ≤ 268435456
  lines : s.lines.length ≤ 268435456
  line : ∀ t ∈ s.lines, t.length ≤ 268435456
def mostF : List Int → Int → Int → Int → Int × Int
  | [], _, n, k => (n, k)
  | x :: r, i, n, k => bif decide (x > n) then mostF r (i + 1) x i else mostF r (i + 1) n k
def wrongM (lo hi : Int) : Bool := bif (bif decide (lo < -2147483648) then true else decide (lo > hi)) then true else decide (hi > 2147483647)
def anyB : List Bd → Bool
  | [] => false
  | b :: r => bif wrongM b.lo b.hi then true else anyB r
def badL (x : Ln) : Bool := bif (bif wrongM x.lo x.hi then true else decide (x.size < 1)) then true else decide (x.size > 65536)
def anyL : List Ln → Bool
  | [] => false
  | x :: r => bif badL x then true else anyL r
def firstW : List Int → Int → Int
  | [], _ => -1
  | x :: r, i => bif wrongM x x then i else firstW r (i + 1)
def badT (t : List Int) : Bool := bif (bif decide ((t.length : Int) < 1) then true else decide ((t.length : Int) > 1024)) then true else decide (firstW t 0 ≥ 0)
def anyT : List (List Int) → Bool
  | [] => false
  | t :: r => bif badT t then true else anyT r
def finP (c : Cd) (n : Int) : Bool :=
  bif (bif (bif (bif (bif (bif (bif decide (n ≤ 16) then decide (c.latency ≥ 0) else false) then decide (c.latency ≤ 4096) else false) then decide (c.tail ≥ -1) else false) then decide (c.tail ≤ 1048576) else false) then decide (c.regs ≥ 0) else false) then decide (c.regs ≤ 65536) else false) then decide ((c.instrs.length : Int) ≤ 65536) else false
def decP (c : Cd) : Bool := bif anyB [c.params, c.states].flatten then false else bif anyL c.lines then false else bif anyT c.tables then false else
  finP c (mostF [(c.params.length : Int), (c.states.length : Int), (c.lines.length : Int), (c.tables.length : Int)] 0 0 0).1
def effP (c : Cd) (op : Int) : Int × Int × Int × Int :=
  bif op == 1 then (0, 1, -4611686018427387904, 4611686018427387904) else
  bif op == 2 then (0, 1, 0, W ((c.params.length : Int) - 1)) else
  bif op == 3 then (0, 1, 0, W ((c.states.length : Int) - 1)) else
  bif op == 4 then (0, 1, 0, W (c.regs - 1)) else
  bif op == 5 then (1, 0, 0, W (c.regs - 1)) else
  bif op == 6 then (1, 0, 0, W ((c.states.length : Int) - 1)) else
  bif op == 7 then (1, 0, 0, W ((c.lines.length : Int) - 1)) else
  bif op == 22 then (1, 0, 0, 0) else
  bif op == 10 then (1, 1, 0, W ((c.lines.length : Int) - 1)) else
  bif op == 11 then (1, 1, 0, W ((c.tables.length : Int) - 1)) else
  bif op == 20 then (1, 1, 1, 2147483648) else
  bif op == 8 then (1, 1, 0, 0) else
  bif op == 9 then (1, 1, 0, 0) else
  bif op == 12 then (1, 1, 0, 0) else
  bif op == 15 then (1, 1, 0, 0) else
  bif op == 16 then (1, 1, 0, 0) else
  bif op == 13 then (2, 1, 0, 0) else
  bif op == 14 then (2, 1, 0, 0) else
  bif op == 17 then (2, 1, 0, 0) else
  bif op == 18 then (2, 1, 0, 0) else
  bif op == 19 then (2, 1, 0, 0) else
  bif op == 21 then (4, 1, 0, 0) else (-1, 0, 0, 0)
abbrev effD (e : Int × Int × Int × Int) : D := .tuple [.i e.1, .i e.2.1, .i e.2.2.1, .i e.2.2.2]
def refP (e : Int × Int × Int × Int) (a n : Int) : Bool :=
  bif (bif (bif (bif decide (e.1 < 0) then true else decide (a < e.2.2.1)) then true else decide (a > e.2.2.2)) then true else decide (n < e.1)) then true else decide (W (W (n - e.1) + e.2.1) > 64)
def chkP (c : Cd) : List (Int × Int) → Int → Int → List Bool → Bool
  | [], n, outs, _ => !(bif n != 0 then true else outs != 1)
  | x :: r, n, outs, pu => bif refP (effP c x.1) x.2 n then false else
    bif x.1 == 22 then chkP c r (W (n + W ((effP c x.1).2.1 - (effP c x.1).1))) (W (outs + 1)) pu else
    bif x.1 == 7 then (bif pu.getD x.2.toNat false then false else chkP c r (W (n + W ((effP c x.1).2.1 - (effP c x.1).1))) outs (pu.set x.2.toNat true)) else
    chkP c r (W (n + W ((effP c x.1).2.1 - (effP c x.1).1))) outs pu
def okE (b : Bool) : Int := match b with | true => 0 | false => 200
def checkP (c : Cd) : Bool := bif !(decP c) then false else chkP c c.instrs 0 0 (List.replicate c.lines.length false)
def takesR (op : Int) : Int × Int × Bool :=
  bif op == 1 then (0, 1, true) else bif op == 2 then (0, 1, true) else bif op == 3 then (0, 1, true) else bif op == 4 then (0, 1, true) else
  bif op == 5 then (1, 0, true) else bif op == 6 then (1, 0, true) else bif op == 7 then (1, 0, true) else bif op == 22 then (1, 0, true) else
  bif op == 8 then (1, 1, true) else bif op == 9 then (1, 1, true) else bif op == 10 then (1, 1, true) else bif op == 11 then (1, 1, true) else bif op == 12 then (1, 1, true) else bif op == 15 then (1, 1, true) else bif op == 16 then (1, 1, true) else bif op == 20 then (1, 1, true) else
  bif op == 13 then (2, 1, true) else bif op == 14 then (2, 1, true) else bif op == 17 then (2, 1, true) else bif op == 18 then (2, 1, true) else bif op == 19 then (2, 1, true) else
  bif op == 21 then (4, 1, true) else (0, 0, false)
abbrev takesD (e : Int × Int × Bool) : D := .tuple [.i e.1, .i e.2.1, .b e.2.2]
def bndsR (c : Cd) (op : Int) : Int × Int :=
  bif op == 1 then (-4611686018427387904, 4611686018427387904) else
  bif op == 2 then (0, W ((c.params.length : Int) - 1)) else
  bif op == 3 then (0, W ((c.states.length : Int) - 1)) else
  bif op == 6 then (0, W ((c.states.length : Int) - 1)) else
  bif op == 4 then (0, W (c.regs - 1)) else
  bif op == 5 then (0, W (c.regs - 1)) else
  bif op == 7 then (0, W ((c.lines.length : Int) - 1)) else
  bif op == 10 then (0, W ((c.lines.length : Int) - 1)) else
  bif op == 11 then (0, W ((c.tables.length : Int) - 1)) else
  bif op == 20 then (1, 2147483648) else (0, 0)
def operR (c : Cd) (op a : Int) : Bool := bif decide (a ≥ (bndsR c op).1) then decide (a ≤ (bndsR c op).2) else false
def betwR (lo hi : Int) : Bool := bif (bif decide (lo ≥ -2147483648) then decide (lo ≤ hi) else false) then decide (hi ≤ 2147483647) else false
def allB : List Bd → Bool
  | [] => true
  | b :: r => bif !(betwR b.lo b.hi) then false else allB r
def boundsR (l : List Bd) : Bool := bif allB l then decide ((l.length : Int) ≤ 16) else false
def okL (x : Ln) : Bool := !(bif (bif !(betwR x.lo x.hi) then true else decide (x.size < 1)) then true else decide (x.size > 65536))
def allL : List Ln → Bool
  | [] => true
  | x :: r => bif okL x then allL r else false
def allN : List Int → Bool
  | [] => true
  | x :: r => bif !(betwR x x) then false else allN r
def okTl (t : List Int) : Bool := !(bif decide ((t.length : Int) < 1) then true else decide ((t.length : Int) > 1024))
def allT : List (List Int) → Bool
  | [] => true
  | t :: r => bif okTl t then (bif allN t then allT r else false) else false
def headR (c : Cd) : Bool :=
  bif (bif (bif (bif (bif (bif (bif decide (c.latency < 0) then true else decide (c.latency > 4096)) then true else decide (c.tail < -1)) then true else decide (c.tail > 1048576)) then true else !(boundsR c.params)) then true else !(boundsR c.states)) then true else decide ((c.lines.length : Int) > 16)) then true else decide ((c.tables.length : Int) > 16)
def finR (c : Cd) : Bool := bif (bif decide (c.regs ≥ 0) then decide (c.regs ≤ 65536) else false) then decide ((c.instrs.length : Int) ≤ 65536) else false
def decR (c : Cd) : Bool := bif headR c then false else bif !(allL c.lines) then false else bif !(allT c.tables) then false else finR c
def refR (c : Cd) (x : Int × Int) (n : Int) : Bool := bif (bif !((takesR x.1).2.2) then true else !(operR c x.1 x.2)) then true else decide (n < (takesR x.1).1)
def chkR (c : Cd) : List (Int × Int) → Int → Int → List Bool → Bool
  | [], n, outs, _ => !(bif n != 0 then true else outs != 1)
  | x :: r, n, outs, pu => bif refR c x n then false else
    bif decide (W (W (n - (takesR x.1).1) + (takesR x.1).2.1) > 64) then false else
    bif x.1 == 7 then (bif pu.getD x.2.toNat false then false else chkR c r (W (W (n - (takesR x.1).1) + (takesR x.1).2.1)) (bif x.1 == 22 then W (outs + 1) else outs) (pu.set x.2.toNat true)) else
    chkR c r (W (W (n - (takesR x.1).1) + (takesR x.1).2.1)) (bif x.1 == 22 then W (outs + 1) else outs) pu
def checkR (c : Cd) : Bool := bif !(decR c) then false else chkR c c.instrs 0 0 (List.replicate c.lines.length false)
theorem dec_b {c : Cd} {x : Bd} {r : List Bd} (hI : anyB [c.params, c.states].flatten = anyB (x :: r)) (h : wrongM x.lo x.hi = true) : decP c = false := by unfold decP; rw [hI]; simp [anyB, h]
theorem dec_l {c : Cd} {x : Ln} {r : List Ln} (hI : anyL c.lines = anyL (x :: r)) (h : badL x = true) : decP c = false := by unfold decP; rw [hI]; simp [anyL, h]
theorem dec_t {c : Cd} {x : List Int} {r : List (List Int)} (hI : anyT c.tables = anyT (x :: r)) (h : badT x = true) : decP c = false := by unfold decP; rw [hI]; simp [anyT, h]
theorem dec_f {c : Cd} (h1 : anyB [c.params, c.states].flatten = anyB []) (h2 : anyL c.lines = anyL []) (h3 : anyT c.tables = anyT []) : decP c = finP c (mostF [(c.params.length : Int), (c.states.length : Int), (c.lines.length : Int), (c.tables.length : Int)] 0 0 0).1 := by
  unfold decP; rw [h1, h2, h3]; rfl
theorem anyB_next {x : Bd} {r : List Bd} {b : Bool} (hI : b = anyB (x :: r)) (h : wrongM x.lo x.hi = false) : b = anyB r := by rw [hI]; simp [anyB, h]
theorem anyL_next {x : Ln} {r : List Ln} {b : Bool} (hI : b = anyL (x :: r)) (h : badL x = false) : b = anyL r := by rw [hI]; simp [anyL, h]
theorem anyT_next {x : List Int} {r : List (List Int)} {b : Bool} (hI : b = anyT (x :: r)) (h : badT x = false) : b = anyT r := by rw [hI]; simp [anyT, h]
end Go.Fw.Mac
namespace Go.Fw.Mac
set_option linter.unusedSectionVars false
open Go.Fw
theorem W_ok {n : Int} (h1 : -9223372036854775808 ≤ n) (h2 : n ≤ 9223372036854775807) : W n = n := by
  simp only [W, IntKind.wrap, IntKind.bits, IntKind.signed]
  first | (simp; omega) | skip
structure ChkI (c : Cd) (R : Bool) (r : List (Int × Int)) (n o : Int) (pu : List Bool) : Prop where
  eq : chkP c r n o pu = R
  len : pu.length = c.lines.length
  sm : c.lines.length ≤ 1073741824
theorem chk_start {c : Cd} {R : Bool} (h : chkP c c.instrs 0 0 (List.replicate c.lines.length false) = R) (hs : c.lines.length ≤ 1073741824) : ChkI c R c.instrs 0 0 (List.replicate c.lines.length false) := ⟨h, by simp, hs⟩
theorem chk_end {c : Cd} {R b : Bool} {n o : Int} {pu : List Bool} (h : ChkI c R [] n o pu) (hb : (bif n != 0 then true else o != 1) = b) : R = !b := by
  rw [← h.eq, chkP, hb]
theorem chk_ref {c : Cd} {R : Bool} {x : Int × Int} {r : List (Int × Int)} {n o : Int} {pu : List Bool} (h : ChkI c R (x :: r) n o pu) (hb : refP (effP c x.1) x.2 n = true) : R = false := by
  rw [← h.eq, chkP, hb]; rfl
theorem chk_22 {c : Cd} {R : Bool} {x : Int × Int} {r : List (Int × Int)} {n o : Int} {pu : List Bool} (h : ChkI c R (x :: r) n o pu) (hb : refP (effP c x.1) x.2 n = false) (h2 : (x.1 == 22) = true) :
    ChkI c R r (W (n + W ((effP c x.1).2.1 - (effP c x.1).1))) (W (o + 1)) pu := by
  have h1 := h.eq
  rw [chkP, hb, h2] at h1
  exact ⟨h1, h.len, h.sm⟩
theorem chk_7a {c : Cd} {R : Bool} {x : Int × Int} {r : List (Int × Int)} {n o : Int} {pu : List Bool} (h : ChkI c R (x :: r) n o pu) (hb : refP (effP c x.1) x.2 n = false) (h2 : (x.1 == 22) = false) (h3 : (x.1 == 7) = true) (h4 : pu.getD x.2.toNat false = true) : R = false := by
  have h1 := h.eq
  rw [chkP, hb, h2, h3, h4] at h1
  exact h1.symm
theorem chk_7b {c : Cd} {R : Bool} {x : Int × Int} {r : List (Int × Int)} {n o : Int} {pu : List Bool} (h : ChkI c R (x :: r) n o pu) (hb : refP (effP c x.1) x.2 n = false) (h2 : (x.1 == 22) = false) (h3 : (x.1 == 7) = true) (h4 : pu.getD x.2.toNat false = false) :
    ChkI c R r (W (n + W ((effP c x.1).2.1 - (effP c x.1).1))) o (pu.set x.2.toNat true) := by
  have h1 := h.eq
  rw [chkP, hb, h2, h3, h4] at h1
  exact ⟨h1, by simpa using h.len, h.sm⟩
theorem chk_n {c : Cd} {R : Bool} {x : Int × Int} {r : List (Int × Int)} {n o : Int} {pu : List Bool} (h : ChkI c R (x :: r) n o pu) (hb : refP (effP c x.1) x.2 n = false) (h2 : (x.1 == 22) = false) (h3 : (x.1 == 7) = false) :
    ChkI c R r (W (n + W ((effP c x.1).2.1 - (effP c x.1).1))) o pu := by
  have h1 := h.eq
  rw [chkP, hb, h2, h3] at h1
  exact ⟨h1, h.len, h.sm⟩
theorem ref_in {e : Int × Int × Int × Int} {a n : Int} (h : refP e a n = false) : 0 ≤ e.1 ∧ e.2.2.1 ≤ a ∧ a ≤ e.2.2.2 ∧ e.1 ≤ n ∧ W (W (n - e.1) + e.2.1) ≤ 64 := by
  unfold refP at h
  cases h1 : decide (e.1 < 0) <;> cases h2 : decide (a < e.2.2.1) <;> cases h3 : decide (a > e.2.2.2) <;> cases h4 : decide (n < e.1) <;> simp_all <;> omega
theorem pu_idx {c : Cd} {R : Bool} {x : Int × Int} {r : List (Int × Int)} {n o : Int} {pu : List Bool} (h : ChkI c R (x :: r) n o pu) (hb : refP (effP c x.1) x.2 n = false) (h3 : (x.1 == 7) = true) : 0 ≤ x.2 ∧ x.2 < pu.length := by
  obtain ⟨_, h1, h2, _⟩ := ref_in hb
  have e : x.1 = 7 := by simpa using h3
  rw [e] at h1 h2
  have h1 : (0 : Int) ≤ x.2 := h1
  have h2 : x.2 ≤ W ((c.lines.length : Int) - 1) := h2
  have := h.sm
  rw [W_ok (by omega) (by omega)] at h2
  have := h.len
  omega
theorem pu_idx2 {c : Cd} {R : Bool} {x : Int × Int} {r : List (Int × Int)} {n o : Int} {pu : List Bool} (h : ChkI c R (x :: r) n o pu) (hb : refP (effP c x.1) x.2 n = false) (h3 : (x.1 == 7) = true) : 0 ≤ x.2 ∧ x.2 < ((c.lines.map Ln.cs).length : Int).toNat := by
  have h1 := pu_idx h hb h3
  rw [h.len] at h1
  rw [List.length_map, Int.toNat_natCast]; exact h1
theorem pu_get {c : Cd} {R : Bool} {x : Int × Int} {r : List (Int × Int)} {n o : Int} {pu : List Bool} (h : ChkI c R (x :: r) n o pu) (hb : refP (effP c x.1) x.2 n = false) (h3 : (x.1 == 7) = true) : (pu.map boolC)[0 + x.2.toNat]? = some (boolC (pu.getD x.2.toNat false)) := by
  have h1 := pu_idx h hb h3
  have h2 : x.2.toNat < pu.length := by omega
  rw [Nat.zero_add, List.getElem?_map, List.getElem?_eq_getElem h2]
  simp [List.getD_eq_getElem?_getD, List.getElem?_eq_getElem h2]
theorem pu_set {pu : List Bool} {k : Nat} {v s : Nat} : Block.arr v s ((pu.map boolC).set (0 + k) [D.b true]) = Block.arr v s ((pu.set k true).map boolC) := by
  rw [Nat.zero_add, List.map_set]
theorem pu_new {α β : Type} {l : List α} {f : α → β} {v s : Nat} : Block.arr v s (List.replicate ((l.map f).length : Int).toNat [D.b false]) = Block.arr v s ((List.replicate l.length false).map boolC) := by
  rw [Int.toNat_natCast, List.length_map, List.map_replicate]
end Go.Fw.Mac
namespace Go.Fw.Mac
set_option linter.unusedSectionVars false
open Go.Fw
theorem decR_h {c : Cd} (h : headR c = true) : decR c = false := by unfold decR; rw [h]; rfl
theorem decR_l {c : Cd} {x : Ln} {r : List Ln} (hI : allL c.lines = allL (x :: r)) (h : (bif (bif !(betwR x.lo x.hi) then true else decide (x.size < 1)) then true else decide (x.size > 65536)) = true) : decR c = false := by
  unfold decR; rw [hI]; simp only [allL, okL, h]; cases headR c <;> rfl
theorem allL_next {c : Cd} {x : Ln} {r : List Ln} (hI : allL c.lines = allL (x :: r)) (h : (bif (bif !(betwR x.lo x.hi) then true else decide (x.size < 1)) then true else decide (x.size > 65536)) = false) : allL c.lines = allL r := by
  rw [hI]; simp only [allL, okL, h]; rfl
theorem decR_t {c : Cd} {x : List Int} {r : List (List Int)} (hI : allT c.tables = allT (x :: r)) (h : (bif decide ((x.length : Int) < 1) then true else decide ((x.length : Int) > 1024)) = true) : decR c = false := by
  unfold decR; rw [hI]; simp only [allT, okTl, h]; cases headR c <;> cases allL c.lines <;> rfl
theorem decR_n {c : Cd} {x : List Int} {r : List (List Int)} {y : Int} {q : List Int} (hI : allT c.tables = allT (x :: r)) (h : (bif decide ((x.length : Int) < 1) then true else decide ((x.length : Int) > 1024)) = false) (h2 : allN x = allN (y :: q)) (h3 : (!(betwR y y)) = true) : decR c = false := by
  unfold decR; rw [hI]; simp only [allT, okTl, h, h2, allN, h3]; cases headR c <;> cases allL c.lines <;> rfl
theorem allN_next {x : List Int} {y : Int} {q : List Int} (h2 : allN x = allN (y :: q)) (h3 : (!(betwR y y)) = false) : allN x = allN q := by rw [h2]; simp only [allN, h3]; rfl
theorem allT_next {c : Cd} {x : List Int} {r : List (List Int)} (hI : allT c.tables = allT (x :: r)) (h : (bif decide ((x.length : Int) < 1) then true else decide ((x.length : Int) > 1024)) = false) (h2 : allN x = allN []) : allT c.tables = allT r := by
  rw [hI]; simp only [allT, okTl, h, h2, allN]; rfl
theorem decR_f {c : Cd} (h : headR c = false) (h1 : allL c.lines = allL []) (h2 : allT c.tables = allT []) : decR c = finR c := by unfold decR; rw [h, h1, h2]; rfl
theorem tlen {x : List Int} {b : Bool} (h : (bif decide (((x.map intC).length : Int) < 1) then true else decide (((x.map intC).length : Int) > 1024)) = b) : (bif decide ((x.length : Int) < 1) then true else decide ((x.length : Int) > 1024)) = b := by simpa only [List.length_map] using h
theorem hlenR {c : Cd} {b : Bool} (h : (bif (bif (bif (bif (bif (bif (bif decide (c.latency < 0) then true else decide (c.latency > 4096)) then true else decide (c.tail < -1)) then true else decide (c.tail > 1048576)) then true else !(boundsR c.params)) then true else !(boundsR c.states)) then true else decide (((c.lines.map Ln.cs).length : Int) > 16)) then true else decide (((c.tables.map lnC).length : Int) > 16)) = b) : headR c = b := by
  simpa only [headR, List.length_map] using h
structure ChkR (c : Cd) (R : Bool) (r : List (Int × Int)) (n o : Int) (pu : List Bool) : Prop where
  eq : chkR c r n o pu = R
  len : pu.length = c.lines.length
  sm : c.lines.length ≤ 1073741824
section
variable {c : Cd} {R b : Bool} {x : Int × Int} {r : List (Int × Int)} {n o : Int} {pu : List Bool}
theorem chkR_start (h : chkR c c.instrs 0 0 (List.replicate c.lines.length false) = R) (hs : c.lines.length ≤ 1073741824) : ChkR c R c.instrs 0 0 (List.replicate c.lines.length false) := ⟨h, by simp, hs⟩
theorem chkR_end (h : ChkR c R [] n o pu) (hb : (bif n != 0 then true else o != 1) = b) : R = !b := by
  rw [← h.eq, chkR, hb]
theorem chkR_ref (h : ChkR c R (x :: r) n o pu) (hb : refR c x n = true) : R = false := by
  rw [← h.eq, chkR, hb]; rfl
theorem chkR_64 (h : ChkR c R (x :: r) n o pu) (hb : refR c x n = false) (h6 : decide (W (W (n - (takesR x.1).1) + (takesR x.1).2.1) > 64) = true) : R = false := by
  rw [← h.eq, chkR, hb, h6]; rfl
theorem chkR_7a (h : ChkR c R (x :: r) n o pu) (hb : refR c x n = false) (h6 : decide (W (W (n - (takesR x.1).1) + (takesR x.1).2.1) > 64) = false) (h3 : (x.1 == 7) = true) (h4 : pu.getD x.2.toNat false = true) : R = false := by
  rw [← h.eq, chkR, hb, h6, h3, h4]; rfl
theorem chkR_7b (h : ChkR c R (x :: r) n o pu) (hb : refR c x n = false) (h6 : decide (W (W (n - (takesR x.1).1) + (takesR x.1).2.1) > 64) = false) (h2 : (x.1 == 22) = false) (h3 : (x.1 == 7) = true) (h4 : pu.getD x.2.toNat false = false) :
    ChkR c R r (W (W (n - (takesR x.1).1) + (takesR x.1).2.1)) o (pu.set x.2.toNat true) := by
  have h1 := h.eq
  rw [chkR, hb, h6, h2, h3, h4] at h1
  exact ⟨h1, by simpa using h.len, h.sm⟩
theorem chkR_7c (h : ChkR c R (x :: r) n o pu) (hb : refR c x n = false) (h6 : decide (W (W (n - (takesR x.1).1) + (takesR x.1).2.1) > 64) = false) (h2 : (x.1 == 22) = true) (h3 : (x.1 == 7) = true) (h4 : pu.getD x.2.toNat false = false) :
    ChkR c R r (W (W (n - (takesR x.1).1) + (takesR x.1).2.1)) (W (o + 1)) (pu.set x.2.toNat true) := by
  have e : x.1 = 7 := by simpa using h3
  rw [e] at h2; exact absurd h2 (by decide)
theorem chkR_n1 (h : ChkR c R (x :: r) n o pu) (hb : refR c x n = false) (h6 : decide (W (W (n - (takesR x.1).1) + (takesR x.1).2.1) > 64) = false) (h2 : (x.1 == 22) = true) (h3 : (x.1 == 7) = false) :
    ChkR c R r (W (W (n - (takesR x.1).1) + (takesR x.1).2.1)) (W (o + 1)) pu := by
  have h1 := h.eq
  rw [chkR, hb, h6, h2, h3] at h1
  exact ⟨h1, h.len, h.sm⟩
theorem chkR_n2 (h : ChkR c R (x :: r) n o pu) (hb : refR c x n = false) (h6 : decide (W (W (n - (takesR x.1).1) + (takesR x.1).2.1) > 64) = false) (h2 : (x.1 == 22) = false) (h3 : (x.1 == 7) = false) :
    ChkR c R r (W (W (n - (takesR x.1).1) + (takesR x.1).2.1)) o pu := by
  have h1 := h.eq
  rw [chkR, hb, h6, h2, h3] at h1
  exact ⟨h1, h.len, h.sm⟩
theorem refR_in (h : refR c x n = false) : (takesR x.1).2.2 = true ∧ (bndsR c x.1).1 ≤ x.2 ∧ x.2 ≤ (bndsR c x.1).2 ∧ (takesR x.1).1 ≤ n := by
  unfold refR operR at h
  cases h1 : (takesR x.1).2.2 <;> cases h2 : decide (x.2 ≥ (bndsR c x.1).1) <;> cases h3 : decide (x.2 ≤ (bndsR c x.1).2) <;> cases h4 : decide (n < (takesR x.1).1) <;> simp_all
theorem puR_idx (h : ChkR c R (x :: r) n o pu) (hb : refR c x n = false) (h3 : (x.1 == 7) = true) : 0 ≤ x.2 ∧ x.2 < pu.length := by
  obtain ⟨_, h1, h2, _⟩ := refR_in hb
  have e : x.1 = 7 := by simpa using h3
  rw [e] at h1 h2
  have h1 : (0 : Int) ≤ x.2 := h1
  have h2 : x.2 ≤ W ((c.lines.length : Int) - 1) := h2
  have := h.sm
  rw [W_ok (by omega) (by omega)] at h2
  have := h.len
  omega
theorem puR_idx2 (h : ChkR c R (x :: r) n o pu) (hb : refR c x n = false) (h3 : (x.1 == 7) = true) : 0 ≤ x.2 ∧ x.2 < ((c.lines.map Ln.cs).length : Int).toNat := by
  have h1 := puR_idx h hb h3
  rw [h.len] at h1
  rw [List.length_map, Int.toNat_natCast]; exact h1
theorem puR_get (h : ChkR c R (x :: r) n o pu) (hb : refR c x n = false) (h3 : (x.1 == 7) = true) : (pu.map boolC)[0 + x.2.toNat]? = some (boolC (pu.getD x.2.toNat false)) := by
  have h1 := puR_idx h hb h3
  have h2 : x.2.toNat < pu.length := by omega
  rw [Nat.zero_add, List.getElem?_map, List.getElem?_eq_getElem h2]
  simp [List.getD_eq_getElem?_getD, List.getElem?_eq_getElem h2]
end
end Go.Fw.Mac
namespace Go.Fw
set_option linter.unusedSectionVars false
variable [GlobInt]
theorem own_slice_step {a b v v' : Nat} {k : Bool} {p q : Prop} (h1 : k = true) (h2 : a = b) (h3 : v = v') (h4 : p) (h : q) : (k = true ∧ a = b ∧ v = v') ∧ p ∧ q := ⟨⟨h1, h2, h3⟩, h4, h⟩
theorem own_clear_step {v v' s s' t n m : Nat} {q : Prop} (h1 : v = v') (h2 : s = s') (h3 : s = t) (h4 : n ≤ m) (h : q) : ((v = v' ∧ s' = s) ∧ s = t ∧ n ≤ m) ∧ q := ⟨⟨⟨h1, h2.symm⟩, h3, h4⟩, h⟩
end Go.Fw
namespace Go.Fw.Mac
set_option linter.unusedSectionVars false
open Go.Fw
def heldM (v lo hi : Int) : Int := mm2 true lo (mm2 false v hi)
def clM (v : Int) : Int := heldM v (-4611686018427387904) 4611686018427387904
def clipM (x : Int) : Int := bif decide (x < -2147483648) then -2147483648 else bif decide (x > 2147483647) then 2147483647 else x
def addM (a b : Int) : Int :=
  bif (bif (bif decide (a > 0) then decide (b > 0) else false) then decide (W (a + b) < 0) else false) then 4611686018427387904 else
  bif (bif (bif decide (a < 0) then decide (b < 0) else false) then decide (W (a + b) ≥ 0) else false) then -4611686018427387904 else W (a + b)
def mulM (a b : Int) : Int :=
  bif (bif a == 0 then true else b == 0) then 0 else
  bif (bif W ((W (a * b)).tdiv b) == a then clM (W (a * b)) == W (a * b) else false) then W (a * b) else
  bif (decide (a < 0) == decide (b < 0)) then 4611686018427387904 else -4611686018427387904
def downM (a b : Int) : Int := bif decide (W (W (a.tdiv b) * b) > a) then W (W (a.tdiv b) - 1) else W (a.tdiv b)
structure PS where
  ver : Nat
  row : List Int
  n : Nat
  regs : List Int
  values : List Int
  pushed : List (Int × Int)
  out : Int
abbrev kvD (x : Int × Int) : D × D := (.i x.1, .i x.2)
def putI (k v : Int) : List (Int × Int) → List (Int × Int)
  | [] => [(k, v)]
  | (a, w) :: r => match k == a with | true => (k, v) :: r | false => (a, w) :: putI k v r
theorem mput_map {k v : Int} : ∀ {l : List (Int × Int)}, mput (.i k) (.i v) (l.map kvD) = (putI k v l).map kvD
  | [] => rfl
  | (a, w) :: r => by
    simp only [List.map_cons, mput, putI, keySame, sameS]
    cases h : (k == a)
    · simp [mput_map (l := r)]
    · rfl
theorem wsub1 {m : Nat} (h : m ≤ 1073741824) : W (((m + 1 : Nat) : Int) - 1) = (m : Int) := by rw [W_ok (by omega) (by omega)]; omega
theorem pop_idx {m : Nat} (h : m ≤ 1073741824) : 0 ≤ W (((m + 1 : Nat) : Int) - 1) ∧ W (((m + 1 : Nat) : Int) - 1) < ((m + 1 : Nat) : Int) := by rw [wsub1 h]; omega
theorem pop_cut {m : Nat} (h : m ≤ 1073741824) : 0 ≤ W (((m + 1 : Nat) : Int) - 1) ∧ W (((m + 1 : Nat) : Int) - 1) ≤ ((m + 1 : Nat) : Int) := by rw [wsub1 h]; omega
theorem pop_get {m : Nat} {row : List Int} (h : m ≤ 1073741824) (h2 : m < row.length) : (row.map intC)[0 + (W (((m + 1 : Nat) : Int) - 1)).toNat]? = some (intC (row.getD m 0)) := by
  rw [wsub1 h, Nat.zero_add, Int.toNat_natCast, List.getElem?_map, List.getElem?_eq_getElem h2]
  simp [List.getD_eq_getElem?_getD, List.getElem?_eq_getElem h2]
theorem pop_own {m i v s : Nat} (h : m ≤ 1073741824) : AV.own i v s (0 + 0) ((W (((m + 1 : Nat) : Int) - 1)).toNat - 0) = AV.own i v s 0 m := by rw [wsub1 h]; simp
theorem put_arr {v s : Nat} {row : List Int} {n : Nat} {x : Int} : Block.arr v s ((row.map intC).take n ++ [[D.i x]]) = Block.arr v s ((row.take n ++ [x]).map intC) := by simp [List.map_take]
theorem idx_in {l : List Int} {n : Int} (h0 : 0 ≤ n) (h : n < l.length) : 0 ≤ n ∧ (l.map intC)[n.toNat]? = some (intC (l.getD n.toNat 0)) := by
  have h2 : n.toNat < l.length := by omega
  refine ⟨h0, ?_⟩
  rw [List.getElem?_map, List.getElem?_eq_getElem h2]
  simp [List.getD_eq_getElem?_getD, List.getElem?_eq_getElem h2]
theorem own_in {l : List Int} {n : Int} (h0 : 0 ≤ n) (h : n < l.length) : (l.map intC)[0 + n.toNat]? = some (intC (l.getD n.toNat 0)) := by rw [Nat.zero_add]; exact (idx_in h0 h).2
theorem idx_inL {l : List (List Int)} {n : Int} (h0 : 0 ≤ n) (h : n < l.length) : 0 ≤ n ∧ (l.map lnC)[n.toNat]? = some (lnC (l.getD n.toNat [])) := by
  have h2 : n.toNat < l.length := by omega
  refine ⟨h0, ?_⟩
  rw [List.getElem?_map, List.getElem?_eq_getElem h2]
  simp [List.getD_eq_getElem?_getD, List.getElem?_eq_getElem h2]
theorem own_inL {l : List (List Int)} {n : Int} (h0 : 0 ≤ n) (h : n < l.length) : (l.map lnC)[0 + n.toNat]? = some (lnC (l.getD n.toNat [])) := by rw [Nat.zero_add]; exact (idx_inL h0 h).2
instance : Inhabited Bd := ⟨⟨[], 0, 0⟩⟩
instance : Inhabited Ln := ⟨⟨[], 0, 0, 0⟩⟩
theorem idx_inB {l : List Bd} {n : Int} (h0 : 0 ≤ n) (h : n < l.length) : 0 ≤ n ∧ (l.map Bd.cs)[n.toNat]? = some (Bd.cs (l.getD n.toNat default)) := by
  have h2 : n.toNat < l.length := by omega
  refine ⟨h0, ?_⟩
  rw [List.getElem?_map, List.getElem?_eq_getElem h2]
  simp [List.getD_eq_getElem?_getD, List.getElem?_eq_getElem h2]
theorem idx_inN {l : List Ln} {n : Int} (h0 : 0 ≤ n) (h : n < l.length) : 0 ≤ n ∧ (l.map Ln.cs)[n.toNat]? = some (Ln.cs (l.getD n.toNat default)) := by
  have h2 : n.toNat < l.length := by omega
  refine ⟨h0, ?_⟩
  rw [List.getElem?_map, List.getElem?_eq_getElem h2]
  simp [List.getD_eq_getElem?_getD, List.getElem?_eq_getElem h2]
theorem set_arr {v s : Nat} {l : List Int} {k : Nat} {x : Int} : Block.arr v s ((l.map intC).set (0 + k) [D.i x]) = Block.arr v s ((l.set k x).map intC) := by rw [Nat.zero_add, List.map_set]
theorem set_len {l : List Int} {k i v s : Nat} {x : Int} : AV.own i v s 0 l.length = AV.own i v s 0 (l.set k x).length := by rw [List.length_set]
theorem held_in {y L : Int} (h : 0 ≤ L) : 0 ≤ heldM y 0 L ∧ heldM y 0 L ≤ L := by
  unfold heldM mm2
  simp only
  split <;> split <;> omega
theorem idx_tab {l : List Int} {y : Int} (h3 : 0 ≤ W ((l.length : Int) - 1)) (h4 : W ((l.length : Int) - 1) < l.length) : 0 ≤ heldM y 0 (IntKind.i64.wrap (((l.map intC).length : Int) - 1)) ∧ (l.map intC)[(heldM y 0 (IntKind.i64.wrap (((l.map intC).length : Int) - 1))).toNat]? = some (intC (l.getD (heldM y 0 (W ((l.length : Int) - 1))).toNat 0)) := by
  rw [List.length_map]; exact idx_in (held_in h3).1 (Int.lt_of_le_of_lt (held_in h3).2 h4)
theorem map_put {g : Bool} {ks : List KS} {l : List (Int × Int)} {k v : Int} : Block.map g ks (mput (.i k) (.i v) (l.map kvD)) = Block.map g ks ((putI k v l).map kvD) := by rw [mput_map]
end Go.Fw.Mac
namespace Go.Fw.Mac
set_option linter.unusedSectionVars false
open Go.Fw
structure EnvOk (c : Cd) (par inn sid : List Int) (lines : List (List Int)) : Prop where
  par : par.length = c.params.length
  inn : c.latency < inn.length
  sid : c.latency < sid.length
  lat : 0 ≤ c.latency
  linesN : lines.length = c.lines.length
  line : ∀ i, i < c.lines.length → ((lines.getD i []).length : Int) = (c.lines.getD i default).size
  size : ∀ i, i < c.lines.length → 1 ≤ (c.lines.getD i default).size ∧ (c.lines.getD i default).size ≤ 65536
  tab : ∀ i, i < c.tables.length → 1 ≤ (c.tables.getD i []).length ∧ (c.tables.getD i []).length ≤ 1024
  regs : 0 ≤ c.regs ∧ c.regs ≤ 65536
  sm : c.Sm
def oneP (c : Cd) (par inn sid : List Int) (lines : List (List Int)) (p : PS) (x : Int × Int) : PS :=
  bif x.1 == 1 then ⟨p.ver + 1, p.row.take p.n ++ [clM x.2], p.n + 1, p.regs, p.values, p.pushed, p.out⟩ else
  bif x.1 == 2 then ⟨p.ver + 1, p.row.take p.n ++ [clM (par.getD x.2.toNat 0)], p.n + 1, p.regs, p.values, p.pushed, p.out⟩ else
  bif x.1 == 3 then ⟨p.ver + 1, p.row.take p.n ++ [clM (p.values.getD x.2.toNat 0)], p.n + 1, p.regs, p.values, p.pushed, p.out⟩ else
  bif x.1 == 4 then ⟨p.ver + 1, p.row.take p.n ++ [clM (p.regs.getD x.2.toNat 0)], p.n + 1, p.regs, p.values, p.pushed, p.out⟩ else
  bif x.1 == 5 then ⟨p.ver, p.row, (p.n - 1), p.regs.set x.2.toNat (p.row.getD (p.n - 1) 0), p.values, p.pushed, p.out⟩ else
  bif x.1 == 6 then ⟨p.ver, p.row, (p.n - 1), p.regs, p.values.set x.2.toNat (heldM (p.row.getD (p.n - 1) 0) (c.states.getD x.2.toNat default).lo (c.states.getD x.2.toNat default).hi), p.pushed, p.out⟩ else
  bif x.1 == 7 then ⟨p.ver, p.row, (p.n - 1), p.regs, p.values, putI x.2 (heldM (p.row.getD (p.n - 1) 0) (c.lines.getD x.2.toNat default).lo (c.lines.getD x.2.toNat default).hi) p.pushed, p.out⟩ else
  bif x.1 == 8 then ⟨p.ver + 1, p.row.take (p.n - 1) ++ [clM (inn.getD (heldM (p.row.getD (p.n - 1) 0) 0 c.latency).toNat 0)], (p.n - 1) + 1, p.regs, p.values, p.pushed, p.out⟩ else
  bif x.1 == 9 then ⟨p.ver + 1, p.row.take (p.n - 1) ++ [clM (sid.getD (heldM (p.row.getD (p.n - 1) 0) 0 c.latency).toNat 0)], (p.n - 1) + 1, p.regs, p.values, p.pushed, p.out⟩ else
  bif x.1 == 10 then ⟨p.ver + 1, p.row.take (p.n - 1) ++ [clM ((lines.getD x.2.toNat []).getD (heldM (p.row.getD (p.n - 1) 0) 0 (W ((c.lines.getD x.2.toNat default).size - 1))).toNat 0)], (p.n - 1) + 1, p.regs, p.values, p.pushed, p.out⟩ else
  bif x.1 == 11 then ⟨p.ver + 1, p.row.take (p.n - 1) ++ [clM ((c.tables.getD x.2.toNat []).getD (heldM (p.row.getD (p.n - 1) 0) 0 (W (((c.tables.getD x.2.toNat []).length : Int) - 1))).toNat 0)], (p.n - 1) + 1, p.regs, p.values, p.pushed, p.out⟩ else
  bif x.1 == 12 then ⟨p.ver + 1, p.row.take (p.n - 1) ++ [clM (clipM (p.row.getD (p.n - 1) 0))], (p.n - 1) + 1, p.regs, p.values, p.pushed, p.out⟩ else
  bif x.1 == 13 then ⟨p.ver + 1, p.row.take (p.n - 2) ++ [clM (mm2 false (p.row.getD (p.n - 1) 0) (p.row.getD (p.n - 2) 0))], (p.n - 2) + 1, p.regs, p.values, p.pushed, p.out⟩ else
  bif x.1 == 14 then ⟨p.ver + 1, p.row.take (p.n - 2) ++ [clM (mm2 true (p.row.getD (p.n - 1) 0) (p.row.getD (p.n - 2) 0))], (p.n - 2) + 1, p.regs, p.values, p.pushed, p.out⟩ else
  bif x.1 == 15 then ⟨p.ver + 1, p.row.take (p.n - 1) ++ [clM (mm2 true (p.row.getD (p.n - 1) 0) (W (0 - (p.row.getD (p.n - 1) 0))))], (p.n - 1) + 1, p.regs, p.values, p.pushed, p.out⟩ else
  bif x.1 == 16 then ⟨p.ver + 1, p.row.take (p.n - 1) ++ [clM (W (0 - (p.row.getD (p.n - 1) 0)))], (p.n - 1) + 1, p.regs, p.values, p.pushed, p.out⟩ else
  bif x.1 == 17 then ⟨p.ver + 1, p.row.take (p.n - 2) ++ [clM (addM (p.row.getD (p.n - 1) 0) (p.row.getD (p.n - 2) 0))], (p.n - 2) + 1, p.regs, p.values, p.pushed, p.out⟩ else
  bif x.1 == 18 then ⟨p.ver + 1, p.row.take (p.n - 2) ++ [clM (addM (p.row.getD (p.n - 2) 0) (W (0 - (p.row.getD (p.n - 1) 0))))], (p.n - 2) + 1, p.regs, p.values, p.pushed, p.out⟩ else
  bif x.1 == 19 then ⟨p.ver + 1, p.row.take (p.n - 2) ++ [clM (mulM (p.row.getD (p.n - 1) 0) (p.row.getD (p.n - 2) 0))], (p.n - 2) + 1, p.regs, p.values, p.pushed, p.out⟩ else
  bif x.1 == 20 then ⟨p.ver + 1, p.row.take (p.n - 1) ++ [clM (downM (p.row.getD (p.n - 1) 0) x.2)], (p.n - 1) + 1, p.regs, p.values, p.pushed, p.out⟩ else
  bif x.1 == 21 then ⟨p.ver + 1, p.row.take (p.n - 4) ++ [clM (bif decide ((p.row.getD (p.n - 4) 0) < (p.row.getD (p.n - 3) 0)) then (p.row.getD (p.n - 2) 0) else (p.row.getD (p.n - 1) 0))], (p.n - 4) + 1, p.regs, p.values, p.pushed, p.out⟩ else
  bif x.1 == 22 then ⟨p.ver, p.row, (p.n - 1), p.regs, p.values, p.pushed, clipM (p.row.getD (p.n - 1) 0)⟩ else
  p
structure StepI (c : Cd) (par inn sid : List Int) (lines : List (List Int)) (F : PS) (r : List (Int × Int)) (p : PS) : Prop where
  fin : r.foldl (oneP c par inn sid lines) p = F
  chk : ∃ o pk, chkP c r p.n o pk = true ∧ pk.length = c.lines.length ∧ ∀ kv ∈ p.pushed, pk.getD kv.1.toNat false = true
  n : p.n ≤ 64
  row : p.n ≤ p.row.length
  regs : (p.regs.length : Int) = c.regs
  values : p.values.length = c.states.length
  keys : (p.pushed.map (·.1)).Nodup
  rng : ∀ kv ∈ p.pushed, 0 ≤ kv.1 ∧ kv.1 < c.lines.length
theorem ops_of {c : Cd} {op a n : Int} (h : refP (effP c op) a n = false) : op = 1 ∨ op = 2 ∨ op = 3 ∨ op = 4 ∨ op = 5 ∨ op = 6 ∨ op = 7 ∨ op = 8 ∨ op = 9 ∨ op = 10 ∨ op = 11 ∨ op = 12 ∨ op = 13 ∨ op = 14 ∨ op = 15 ∨ op = 16 ∨ op = 17 ∨ op = 18 ∨ op = 19 ∨ op = 20 ∨ op = 21 ∨ op = 22 := by
  have h1 := (ref_in h).1
  apply Classical.byContradiction
  intro hn
  simp only [not_or] at hn
  obtain ⟨q1, q2, q3, q4, q5, q6, q7, q8, q9, q10, q11, q12, q13, q14, q15, q16, q17, q18, q19, q20, q21, q22⟩ := hn
  have e : effP c op = (-1, 0, 0, 0) := by
    unfold effP
    simp only [show ∀ k : Int, op ≠ k → (op == k) = false from fun k hk => by simpa using hk, ne_eq, not_false_eq_true, q1, q2, q3, q4, q5, q6, q7, q8, q9, q10, q11, q12, q13, q14, q15, q16, q17, q18, q19, q20, q21, q22, cond_false]
  rw [e] at h1
  exact absurd h1 (by decide)
theorem chkP_ref {c : Cd} {x : Int × Int} {r : List (Int × Int)} {n o : Int} {pk : List Bool} (h : chkP c (x :: r) n o pk = true) : refP (effP c x.1) x.2 n = false := by
  cases hb : refP (effP c x.1) x.2 n with
  | false => rfl
  | true => rw [chkP, hb] at h; simp only [cond_true] at h; exact absurd h (by decide)
section
variable {c : Cd} {par inn sid : List Int} {lines : List (List Int)} {F : PS}
theorem mstep_ops {r : List (Int × Int)} {op a : Int} {ver : Nat} {row : List Int} {n : Nat} {regs values : List Int} {pu : List (Int × Int)} {out : Int} (E : EnvOk c par inn sid lines) (h : StepI c par inn sid lines F ((op, a) :: r) ⟨ver, row, n, regs, values, pu, out⟩) :
    (op = 1 ∧ (∃ m, m = n ∧ m ≤ 1000000 ∧ m ≤ row.length))
    ∨ (op = 2 ∧ (∃ m, m = n ∧ m ≤ 1000000 ∧ m ≤ row.length) ∧ 0 ≤ a ∧ a < par.length)
    ∨ (op = 3 ∧ (∃ m, m = n ∧ m ≤ 1000000 ∧ m ≤ row.length) ∧ 0 ≤ a ∧ a < values.length)
    ∨ (op = 4 ∧ (∃ m, m = n ∧ m ≤ 1000000 ∧ m ≤ row.length) ∧ 0 ≤ a ∧ a < regs.length)
    ∨ (op = 5 ∧ (∃ m, n = m + 1 ∧ m ≤ 1000000 ∧ m + 1 ≤ row.length) ∧ 0 ≤ a ∧ a < regs.length)
    ∨ (op = 6 ∧ (∃ m, n = m + 1 ∧ m ≤ 1000000 ∧ m + 1 ≤ row.length) ∧ 0 ≤ a ∧ a < values.length ∧ a < c.states.length)
    ∨ (op = 7 ∧ (∃ m, n = m + 1 ∧ m ≤ 1000000 ∧ m + 1 ≤ row.length) ∧ 0 ≤ a ∧ a < c.lines.length)
    ∨ (op = 8 ∧ (∃ m, n = m + 1 ∧ m ≤ 1000000 ∧ m + 1 ≤ row.length) ∧ 0 ≤ c.latency ∧ c.latency < inn.length)
    ∨ (op = 9 ∧ (∃ m, n = m + 1 ∧ m ≤ 1000000 ∧ m + 1 ≤ row.length) ∧ 0 ≤ c.latency ∧ c.latency < sid.length)
    ∨ (op = 10 ∧ (∃ m, n = m + 1 ∧ m ≤ 1000000 ∧ m + 1 ≤ row.length) ∧ 0 ≤ a ∧ a < lines.length ∧ a < c.lines.length ∧ 0 ≤ W ((c.lines.getD a.toNat default).size - 1) ∧ W ((c.lines.getD a.toNat default).size - 1) < (lines.getD a.toNat []).length)
    ∨ (op = 11 ∧ (∃ m, n = m + 1 ∧ m ≤ 1000000 ∧ m + 1 ≤ row.length) ∧ 0 ≤ a ∧ a < c.tables.length ∧ 0 ≤ W (((c.tables.getD a.toNat []).length : Int) - 1) ∧ W (((c.tables.getD a.toNat []).length : Int) - 1) < (c.tables.getD a.toNat []).length)
    ∨ (op = 12 ∧ (∃ m, n = m + 1 ∧ m ≤ 1000000 ∧ m + 1 ≤ row.length))
    ∨ (op = 13 ∧ (∃ m, n = m + 2 ∧ m ≤ 1000000 ∧ m + 2 ≤ row.length))
    ∨ (op = 14 ∧ (∃ m, n = m + 2 ∧ m ≤ 1000000 ∧ m + 2 ≤ row.length))
    ∨ (op = 15 ∧ (∃ m, n = m + 1 ∧ m ≤ 1000000 ∧ m + 1 ≤ row.length))
    ∨ (op = 16 ∧ (∃ m, n = m + 1 ∧ m ≤ 1000000 ∧ m + 1 ≤ row.length))
    ∨ (op = 17 ∧ (∃ m, n = m + 2 ∧ m ≤ 1000000 ∧ m + 2 ≤ row.length))
    ∨ (op = 18 ∧ (∃ m, n = m + 2 ∧ m ≤ 1000000 ∧ m + 2 ≤ row.length))
    ∨ (op = 19 ∧ (∃ m, n = m + 2 ∧ m ≤ 1000000 ∧ m + 2 ≤ row.length))
    ∨ (op = 20 ∧ (∃ m, n = m + 1 ∧ m ≤ 1000000 ∧ m + 1 ≤ row.length) ∧ a ≠ 0)
    ∨ (op = 21 ∧ (∃ m, n = m + 4 ∧ m ≤ 1000000 ∧ m + 4 ≤ row.length))
    ∨ (op = 22 ∧ (∃ m, n = m + 1 ∧ m ≤ 1000000 ∧ m + 1 ≤ row.length)) := by
  obtain ⟨o, pk, hc, hpk, -⟩ := h.chk
  have hb := chkP_ref hc
  have hn : n ≤ 64 := h.n
  have hr : n ≤ row.length := h.row
  have s1 := E.sm.params; have s2 := E.sm.states; have s3 := E.sm.lines; have s4 := E.sm.tables
  have s5 := E.regs
  have w1 : ∀ k : Nat, k ≤ 268435456 → W ((k : Int) - 1) = (k : Int) - 1 := fun k hk => W_ok (by omega) (by omega)
  have w2 : W (c.regs - 1) = c.regs - 1 := W_ok (by omega) (by omega)
  have key : ∀ {t ps lo hi : Int}, effP c op = (t, ps, lo, hi) → t ≤ n ∧ lo ≤ a ∧ a ≤ hi := fun e => by
    have := ref_in hb
    simp only at this
    rw [e] at this
    exact ⟨this.2.2.2.1, this.2.1, this.2.2.1⟩
  rcases ops_of hb with rfl | rfl | rfl | rfl | rfl | rfl | rfl | rfl | rfl | rfl | rfl | rfl | rfl | rfl | rfl | rfl | rfl | rfl | rfl | rfl | rfl | rfl
  · have q := key (show effP c 1 = (0, 1, -4611686018427387904, 4611686018427387904) from rfl)
    exact .inl (⟨rfl, ⟨n, rfl, by omega, by omega⟩⟩)
  · have q := key (show effP c 2 = (0, 1, 0, W ((c.params.length : Int) - 1)) from rfl)
    rw [w1 _ (by assumption)] at q
    exact .inr (.inl (⟨rfl, ⟨n, rfl, by omega, by omega⟩, ⟨by omega, by rw [E.par]; omega⟩⟩))
  · have q := key (show effP c 3 = (0, 1, 0, W ((c.states.length : Int) - 1)) from rfl)
    rw [w1 _ (by assumption)] at q
    exact .inr (.inr (.inl (⟨rfl, ⟨n, rfl, by omega, by omega⟩, ⟨by omega, by have := h.values; simp only at this; omega⟩⟩)))
  · have q := key (show effP c 4 = (0, 1, 0, W (c.regs - 1)) from rfl)
    rw [w2] at q
    exact .inr (.inr (.inr (.inl (⟨rfl, ⟨n, rfl, by omega, by omega⟩, ⟨by omega, by have := h.regs; simp only at this; omega⟩⟩))))
  · have q := key (show effP c 5 = (1, 0, 0, W (c.regs - 1)) from rfl)
    rw [w2] at q
    exact .inr (.inr (.inr (.inr (.inl (⟨rfl, ⟨n - 1, by omega, by omega, by omega⟩, ⟨by omega, by have := h.regs; simp only at this; omega⟩⟩)))))
  · have q := key (show effP c 6 = (1, 0, 0, W ((c.states.length : Int) - 1)) from rfl)
    rw [w1 _ (by assumption)] at q
    exact .inr (.inr (.inr (.inr (.inr (.inl (⟨rfl, ⟨n - 1, by omega, by omega, by omega⟩, ⟨by omega, by have := h.values; simp only at this; omega, by omega⟩⟩))))))
  · have q := key (show effP c 7 = (1, 0, 0, W ((c.lines.length : Int) - 1)) from rfl)
    rw [w1 _ (by assumption)] at q
    exact .inr (.inr (.inr (.inr (.inr (.inr (.inl (⟨rfl, ⟨n - 1, by omega, by omega, by omega⟩, ⟨by omega, by omega⟩⟩)))))))
  · have q := key (show effP c 8 = (1, 1, 0, 0) from rfl)
    exact .inr (.inr (.inr (.inr (.inr (.inr (.inr (.inl (⟨rfl, ⟨n - 1, by omega, by omega, by omega⟩, ⟨E.lat, E.inn⟩⟩))))))))
  · have q := key (show effP c 9 = (1, 1, 0, 0) from rfl)
    exact .inr (.inr (.inr (.inr (.inr (.inr (.inr (.inr (.inl (⟨rfl, ⟨n - 1, by omega, by omega, by omega⟩, ⟨E.lat, E.sid⟩⟩)))))))))
  · have q := key (show effP c 10 = (1, 1, 0, W ((c.lines.length : Int) - 1)) from rfl)
    rw [w1 _ (by assumption)] at q
    have l1 := E.line a.toNat (by omega)
    have l2 := E.size a.toNat (by omega)
    have l3 := E.linesN
    have l4 : W ((c.lines.getD a.toNat default).size - 1) = (c.lines.getD a.toNat default).size - 1 := W_ok (by omega) (by omega)
    exact .inr (.inr (.inr (.inr (.inr (.inr (.inr (.inr (.inr (.inl (⟨rfl, ⟨n - 1, by omega, by omega, by omega⟩, ⟨by omega, by omega, by omega, by omega, by omega⟩⟩))))))))))
  · have q := key (show effP c 11 = (1, 1, 0, W ((c.tables.length : Int) - 1)) from rfl)
    rw [w1 _ (by assumption)] at q
    have l1 := E.tab a.toNat (by omega)
    have l4 := w1 (c.tables.getD a.toNat []).length (by omega)
    exact .inr (.inr (.inr (.inr (.inr (.inr (.inr (.inr (.inr (.inr (.inl (⟨rfl, ⟨n - 1, by omega, by omega, by omega⟩, ⟨by omega, by omega, by omega, by omega⟩⟩)))))))))))
  · have q := key (show effP c 12 = (1, 1, 0, 0) from rfl)
    exact .inr (.inr (.inr (.inr (.inr (.inr (.inr (.inr (.inr (.inr (.inr (.inl (⟨rfl, ⟨n - 1, by omega, by omega, by omega⟩⟩))))))))))))
  · have q := key (show effP c 13 = (2, 1, 0, 0) from rfl)
    exact .inr (.inr (.inr (.inr (.inr (.inr (.inr (.inr (.inr (.inr (.inr (.inr (.inl (⟨rfl, ⟨n - 2, by omega, by omega, by omega⟩⟩)))))))))))))
  · have q := key (show effP c 14 = (2, 1, 0, 0) from rfl)
    exact .inr (.inr (.inr (.inr (.inr (.inr (.inr (.inr (.inr (.inr (.inr (.inr (.inr (.inl (⟨rfl, ⟨n - 2, by omega, by omega, by omega⟩⟩))))))))))))))
  · have q := key (show effP c 15 = (1, 1, 0, 0) from rfl)
    exact .inr (.inr (.inr (.inr (.inr (.inr (.inr (.inr (.inr (.inr (.inr (.inr (.inr (.inr (.inl (⟨rfl, ⟨n - 1, by omega, by omega, by omega⟩⟩)))))))))))))))
  · have q := key (show effP c 16 = (1, 1, 0, 0) from rfl)
    exact .inr (.inr (.inr (.inr (.inr (.inr (.inr (.inr (.inr (.inr (.inr (.inr (.inr (.inr (.inr (.inl (⟨rfl, ⟨n - 1, by omega, by omega, by omega⟩⟩))))))))))))))))
  · have q := key (show effP c 17 = (2, 1, 0, 0) from rfl)
    exact .inr (.inr (.inr (.inr (.inr (.inr (.inr (.inr (.inr (.inr (.inr (.inr (.inr (.inr (.inr (.inr (.inl (⟨rfl, ⟨n - 2, by omega, by omega, by omega⟩⟩)))))))))))))))))
  · have q := key (show effP c 18 = (2, 1, 0, 0) from rfl)
    exact .inr (.inr (.inr (.inr (.inr (.inr (.inr (.inr (.inr (.inr (.inr (.inr (.inr (.inr (.inr (.inr (.inr (.inl (⟨rfl, ⟨n - 2, by omega, by omega, by omega⟩⟩))))))))))))))))))
  · have q := key (show effP c 19 = (2, 1, 0, 0) from rfl)
    exact .inr (.inr (.inr (.inr (.inr (.inr (.inr (.inr (.inr (.inr (.inr (.inr (.inr (.inr (.inr (.inr (.inr (.inr (.inl (⟨rfl, ⟨n - 2, by omega, by omega, by omega⟩⟩)))))))))))))))))))
  · have q := key (show effP c 20 = (1, 1, 1, 2147483648) from rfl)
    exact .inr (.inr (.inr (.inr (.inr (.inr (.inr (.inr (.inr (.inr (.inr (.inr (.inr (.inr (.inr (.inr (.inr (.inr (.inr (.inl (⟨rfl, ⟨n - 1, by omega, by omega, by omega⟩, by omega⟩))))))))))))))))))))
  · have q := key (show effP c 21 = (4, 1, 0, 0) from rfl)
    exact .inr (.inr (.inr (.inr (.inr (.inr (.inr (.inr (.inr (.inr (.inr (.inr (.inr (.inr (.inr (.inr (.inr (.inr (.inr (.inr (.inl (⟨rfl, ⟨n - 4, by omega, by omega, by omega⟩⟩)))))))))))))))))))))
  · have q := key (show effP c 22 = (1, 0, 0, 0) from rfl)
    exact .inr (.inr (.inr (.inr (.inr (.inr (.inr (.inr (.inr (.inr (.inr (.inr (.inr (.inr (.inr (.inr (.inr (.inr (.inr (.inr (.inr (⟨rfl, ⟨n - 1, by omega, by omega, by omega⟩⟩)))))))))))))))))))))
theorem putI_keys {k v : Int} : ∀ {l : List (Int × Int)} {kv : Int × Int}, kv ∈ putI k v l → kv.1 = k ∨ kv ∈ l
  | [], kv, h => by simp [putI] at h; exact .inl (by rw [h])
  | (a, w) :: r, kv, h => by
    simp only [putI] at h
    split at h
    · rename_i e
      rcases List.mem_cons.1 h with rfl | h
      · exact .inl rfl
      · exact .inr (by simp [h])
    · rcases List.mem_cons.1 h with rfl | h
      · exact .inr (by simp)
      · rcases putI_keys h with h | h
        · exact .inl h
        · exact .inr (by simp [h])
theorem putI_nodup {k v : Int} : ∀ {l : List (Int × Int)}, (l.map (·.1)).Nodup → ((putI k v l).map (·.1)).Nodup
  | [], _ => by simp [putI]
  | (a, w) :: r, h => by
    simp only [List.map_cons, List.nodup_cons] at h
    simp only [putI]
    split
    · rename_i e
      have e : k = a := by simpa using e
      subst e
      simp only [List.map_cons, List.nodup_cons]; exact h
    · rename_i e
      have e : k ≠ a := by simpa using e
      simp only [List.map_cons, List.nodup_cons]
      refine ⟨fun hm => ?_, putI_nodup h.2⟩
      obtain ⟨kv, h1, h2⟩ := List.mem_map.1 hm
      rcases putI_keys h1 with h3 | h3
      · exact e (h3.symm.trans h2)
      · exact h.1 (List.mem_map.2 ⟨kv, h3, h2⟩)
theorem mstep_next {r : List (Int × Int)} {x : Int × Int} {p : PS} (E : EnvOk c par inn sid lines) (h : StepI c par inn sid lines F (x :: r) p) : StepI c par inn sid lines F r (oneP c par inn sid lines p x) := by
  obtain ⟨op, a⟩ := x
  obtain ⟨ver, row, n, regs, values, pu, out⟩ := p
  obtain ⟨o, pk, hc, hpk, hkk⟩ := h.chk
  have hb := chkP_ref hc
  have hn : n ≤ 64 := h.n
  have hr : n ≤ row.length := h.row
  have hfin := h.fin
  rw [List.foldl_cons] at hfin
  have s3 := E.sm.lines
  have w1 : ∀ k : Nat, k ≤ 268435456 → W ((k : Int) - 1) = (k : Int) - 1 := fun k hk => W_ok (by omega) (by omega)
  have key : ∀ {t ps lo hi : Int}, effP c op = (t, ps, lo, hi) → 0 ≤ t ∧ t ≤ 4 ∧ 0 ≤ ps ∧ ps ≤ 1 → t ≤ n ∧ lo ≤ a ∧ a ≤ hi ∧ (n : Int) - t + ps ≤ 64 ∧ W ((n : Int) + W (ps - t)) = (n : Int) - t + ps := fun {t ps lo hi} e hh => by
    have := ref_in hb
    simp only at this
    rw [e] at this
    have h1 : t ≤ (n : Int) := this.2.2.2.1
    have e1 : W ((n : Int) - t) = (n : Int) - t := W_ok (by omega) (by omega)
    have e2 : W ((n : Int) - t + ps) = (n : Int) - t + ps := W_ok (by omega) (by omega)
    have e3 : W (ps - t) = ps - t := W_ok (by omega) (by omega)
    have e4 : W ((n : Int) + (ps - t)) = (n : Int) + (ps - t) := W_ok (by omega) (by omega)
    have h2 := this.2.2.2.2
    simp only [e1, e2] at h2
    refine ⟨h1, this.2.1, this.2.2.1, h2, ?_⟩
    rw [e3, e4]; omega
  have hbk := hb
  rw [chkP, hb] at hc
  simp only [cond_false] at hc
  rcases ops_of hbk with rfl | rfl | rfl | rfl | rfl | rfl | rfl | rfl | rfl | rfl | rfl | rfl | rfl | rfl | rfl | rfl | rfl | rfl | rfl | rfl | rfl | rfl
  · have q := key (show effP c 1 = (0, 1, -4611686018427387904, 4611686018427387904) from rfl) (by decide)
    have ef : effP c 1 = (0, 1, -4611686018427387904, 4611686018427387904) := rfl
    have hw := q.2.2.2.2
    rw [ef] at hc
    simp only [show ((1 : Int) == 22) = false from rfl, show ((1 : Int) == 7) = false from rfl, cond_false, cond_true] at hc
    have hne : (n : Int) - 0 + 1 = ((n - 0 + 1 : Nat) : Int) := by omega
    rw [hw, hne] at hc
    exact ⟨hfin, ⟨_, pk, hc, hpk, hkk⟩, show n - 0 + 1 ≤ 64 by omega, show n - 0 + 1 ≤ (row.take (n - 0) ++ [_]).length by simp only [List.length_append, List.length_take, List.length_cons, List.length_nil]; omega, h.regs, h.values, h.keys, h.rng⟩
  · have q := key (show effP c 2 = (0, 1, 0, W ((c.params.length : Int) - 1)) from rfl) (by decide)
    have ef : effP c 2 = (0, 1, 0, W ((c.params.length : Int) - 1)) := rfl
    have hw := q.2.2.2.2
    rw [ef] at hc
    simp only [show ((2 : Int) == 22) = false from rfl, show ((2 : Int) == 7) = false from rfl, cond_false, cond_true] at hc
    have hne : (n : Int) - 0 + 1 = ((n - 0 + 1 : Nat) : Int) := by omega
    rw [hw, hne] at hc
    exact ⟨hfin, ⟨_, pk, hc, hpk, hkk⟩, show n - 0 + 1 ≤ 64 by omega, show n - 0 + 1 ≤ (row.take (n - 0) ++ [_]).length by simp only [List.length_append, List.length_take, List.length_cons, List.length_nil]; omega, h.regs, h.values, h.keys, h.rng⟩
  · have q := key (show effP c 3 = (0, 1, 0, W ((c.states.length : Int) - 1)) from rfl) (by decide)
    have ef : effP c 3 = (0, 1, 0, W ((c.states.length : Int) - 1)) := rfl
    have hw := q.2.2.2.2
    rw [ef] at hc
    simp only [show ((3 : Int) == 22) = false from rfl, show ((3 : Int) == 7) = false from rfl, cond_false, cond_true] at hc
    have hne : (n : Int) - 0 + 1 = ((n - 0 + 1 : Nat) : Int) := by omega
    rw [hw, hne] at hc
    exact ⟨hfin, ⟨_, pk, hc, hpk, hkk⟩, show n - 0 + 1 ≤ 64 by omega, show n - 0 + 1 ≤ (row.take (n - 0) ++ [_]).length by simp only [List.length_append, List.length_take, List.length_cons, List.length_nil]; omega, h.regs, h.values, h.keys, h.rng⟩
  · have q := key (show effP c 4 = (0, 1, 0, W (c.regs - 1)) from rfl) (by decide)
    have ef : effP c 4 = (0, 1, 0, W (c.regs - 1)) := rfl
    have hw := q.2.2.2.2
    rw [ef] at hc
    simp only [show ((4 : Int) == 22) = false from rfl, show ((4 : Int) == 7) = false from rfl, cond_false, cond_true] at hc
    have hne : (n : Int) - 0 + 1 = ((n - 0 + 1 : Nat) : Int) := by omega
    rw [hw, hne] at hc
    exact ⟨hfin, ⟨_, pk, hc, hpk, hkk⟩, show n - 0 + 1 ≤ 64 by omega, show n - 0 + 1 ≤ (row.take (n - 0) ++ [_]).length by simp only [List.length_append, List.length_take, List.length_cons, List.length_nil]; omega, h.regs, h.values, h.keys, h.rng⟩
  · have q := key (show effP c 5 = (1, 0, 0, W (c.regs - 1)) from rfl) (by decide)
    have ef : effP c 5 = (1, 0, 0, W (c.regs - 1)) := rfl
    have hw := q.2.2.2.2
    rw [ef] at hc
    simp only [show ((5 : Int) == 22) = false from rfl, show ((5 : Int) == 7) = false from rfl, cond_false, cond_true] at hc
    have hne : (n : Int) - 1 + 0 = ((n - 1 + 0 : Nat) : Int) := by omega
    rw [hw, hne] at hc
    exact ⟨hfin, ⟨_, pk, hc, hpk, hkk⟩, show n - 1 + 0 ≤ 64 by omega, show n - 1 + 0 ≤ row.length by omega, by have := h.regs; simpa [oneP] using this, h.values, h.keys, h.rng⟩
  · have q := key (show effP c 6 = (1, 0, 0, W ((c.states.length : Int) - 1)) from rfl) (by decide)
    have ef : effP c 6 = (1, 0, 0, W ((c.states.length : Int) - 1)) := rfl
    have hw := q.2.2.2.2
    rw [ef] at hc
    simp only [show ((6 : Int) == 22) = false from rfl, show ((6 : Int) == 7) = false from rfl, cond_false, cond_true] at hc
    have hne : (n : Int) - 1 + 0 = ((n - 1 + 0 : Nat) : Int) := by omega
    rw [hw, hne] at hc
    exact ⟨hfin, ⟨_, pk, hc, hpk, hkk⟩, show n - 1 + 0 ≤ 64 by omega, show n - 1 + 0 ≤ row.length by omega, h.regs, by have := h.values; simpa [oneP] using this, h.keys, h.rng⟩
  · have q := key (show effP c 7 = (1, 0, 0, W ((c.lines.length : Int) - 1)) from rfl) (by decide)
    have ef : effP c 7 = (1, 0, 0, W ((c.lines.length : Int) - 1)) := rfl
    have hw := q.2.2.2.2
    rw [ef] at hc
    simp only [show ((7 : Int) == 22) = false from rfl, show ((7 : Int) == 7) = true from rfl, cond_false, cond_true] at hc
    rw [w1 _ s3] at q
    have hne : (n : Int) - 1 + 0 = ((n - 1 + 0 : Nat) : Int) := by omega
    rw [hw, hne] at hc
    cases hg : pk.getD a.toNat false with
    | true => simp only [hg, cond_true] at hc; exact absurd hc (by decide)
    | false =>
      simp only [hg, cond_false] at hc
      refine ⟨hfin, ⟨_, _, hc, by simpa using hpk, fun kv hkv => ?_⟩, show n - 1 + 0 ≤ 64 by omega, show n - 1 + 0 ≤ row.length by omega, h.regs, h.values, putI_nodup h.keys, fun kv hkv => ?_⟩
      · have hlt : a.toNat < pk.length := by omega
        rcases putI_keys hkv with e | hm
        · rw [e]; simp [hlt]
        · have := hkk kv hm
          by_cases e : kv.1.toNat = a.toNat
          · rw [e]; simp [hlt]
          · simp only [List.getD_eq_getElem?_getD] at this ⊢
            rw [List.getElem?_set_ne (fun e' => e e'.symm)]; exact this
      · rcases putI_keys hkv with e | hm
        · rw [e]; omega
        · exact h.rng kv hm
  · have q := key (show effP c 8 = (1, 1, 0, 0) from rfl) (by decide)
    have ef : effP c 8 = (1, 1, 0, 0) := rfl
    have hw := q.2.2.2.2
    rw [ef] at hc
    simp only [show ((8 : Int) == 22) = false from rfl, show ((8 : Int) == 7) = false from rfl, cond_false, cond_true] at hc
    have hne : (n : Int) - 1 + 1 = ((n - 1 + 1 : Nat) : Int) := by omega
    rw [hw, hne] at hc
    exact ⟨hfin, ⟨_, pk, hc, hpk, hkk⟩, show n - 1 + 1 ≤ 64 by omega, show n - 1 + 1 ≤ (row.take (n - 1) ++ [_]).length by simp only [List.length_append, List.length_take, List.length_cons, List.length_nil]; omega, h.regs, h.values, h.keys, h.rng⟩
  · have q := key (show effP c 9 = (1, 1, 0, 0) from rfl) (by decide)
    have ef : effP c 9 = (1, 1, 0, 0) := rfl
    have hw := q.2.2.2.2
    rw [ef] at hc
    simp only [show ((9 : Int) == 22) = false from rfl, show ((9 : Int) == 7) = false from rfl, cond_false, cond_true] at hc
    have hne : (n : Int) - 1 + 1 = ((n - 1 + 1 : Nat) : Int) := by omega
    rw [hw, hne] at hc
    exact ⟨hfin, ⟨_, pk, hc, hpk, hkk⟩, show n - 1 + 1 ≤ 64 by omega, show n - 1 + 1 ≤ (row.take (n - 1) ++ [_]).length by simp only [List.length_append, List.length_take, List.length_cons, List.length_nil]; omega, h.regs, h.values, h.keys, h.rng⟩
  · have q := key (show effP c 10 = (1, 1, 0, W ((c.lines.length : Int) - 1)) from rfl) (by decide)
    have ef : effP c 10 = (1, 1, 0, W ((c.lines.length : Int) - 1)) := rfl
    have hw := q.2.2.2.2
    rw [ef] at hc
    simp only [show ((10 : Int) == 22) = false from rfl, show ((10 : Int) == 7) = false from rfl, cond_false, cond_true] at hc
    have hne : (n : Int) - 1 + 1 = ((n - 1 + 1 : Nat) : Int) := by omega
    rw [hw, hne] at hc
    exact ⟨hfin, ⟨_, pk, hc, hpk, hkk⟩, show n - 1 + 1 ≤ 64 by omega, show n - 1 + 1 ≤ (row.take (n - 1) ++ [_]).length by simp only [List.length_append, List.length_take, List.length_cons, List.length_nil]; omega, h.regs, h.values, h.keys, h.rng⟩
  · have q := key (show effP c 11 = (1, 1, 0, W ((c.tables.length : Int) - 1)) from rfl) (by decide)
    have ef : effP c 11 = (1, 1, 0, W ((c.tables.length : Int) - 1)) := rfl
    have hw := q.2.2.2.2
    rw [ef] at hc
    simp only [show ((11 : Int) == 22) = false from rfl, show ((11 : Int) == 7) = false from rfl, cond_false, cond_true] at hc
    have hne : (n : Int) - 1 + 1 = ((n - 1 + 1 : Nat) : Int) := by omega
    rw [hw, hne] at hc
    exact ⟨hfin, ⟨_, pk, hc, hpk, hkk⟩, show n - 1 + 1 ≤ 64 by omega, show n - 1 + 1 ≤ (row.take (n - 1) ++ [_]).length by simp only [List.length_append, List.length_take, List.length_cons, List.length_nil]; omega, h.regs, h.values, h.keys, h.rng⟩
  · have q := key (show effP c 12 = (1, 1, 0, 0) from rfl) (by decide)
    have ef : effP c 12 = (1, 1, 0, 0) := rfl
    have hw := q.2.2.2.2
    rw [ef] at hc
    simp only [show ((12 : Int) == 22) = false from rfl, show ((12 : Int) == 7) = false from rfl, cond_false, cond_true] at hc
    have hne : (n : Int) - 1 + 1 = ((n - 1 + 1 : Nat) : Int) := by omega
    rw [hw, hne] at hc
    exact ⟨hfin, ⟨_, pk, hc, hpk, hkk⟩, show n - 1 + 1 ≤ 64 by omega, show n - 1 + 1 ≤ (row.take (n - 1) ++ [_]).length by simp only [List.length_append, List.length_take, List.length_cons, List.length_nil]; omega, h.regs, h.values, h.keys, h.rng⟩
  · have q := key (show effP c 13 = (2, 1, 0, 0) from rfl) (by decide)
    have ef : effP c 13 = (2, 1, 0, 0) := rfl
    have hw := q.2.2.2.2
    rw [ef] at hc
    simp only [show ((13 : Int) == 22) = false from rfl, show ((13 : Int) == 7) = false from rfl, cond_false, cond_true] at hc
    have hne : (n : Int) - 2 + 1 = ((n - 2 + 1 : Nat) : Int) := by omega
    rw [hw, hne] at hc
    exact ⟨hfin, ⟨_, pk, hc, hpk, hkk⟩, show n - 2 + 1 ≤ 64 by omega, show n - 2 + 1 ≤ (row.take (n - 2) ++ [_]).length by simp only [List.length_append, List.length_take, List.length_cons, List.length_nil]; omega, h.regs, h.values, h.keys, h.rng⟩
  · have q := key (show effP c 14 = (2, 1, 0, 0) from rfl) (by decide)
    have ef : effP c 14 = (2, 1, 0, 0) := rfl
    have hw := q.2.2.2.2
    rw [ef] at hc
    simp only [show ((14 : Int) == 22) = false from rfl, show ((14 : Int) == 7) = false from rfl, cond_false, cond_true] at hc
    have hne : (n : Int) - 2 + 1 = ((n - 2 + 1 : Nat) : Int) := by omega
    rw [hw, hne] at hc
    exact ⟨hfin, ⟨_, pk, hc, hpk, hkk⟩, show n - 2 + 1 ≤ 64 by omega, show n - 2 + 1 ≤ (row.take (n - 2) ++ [_]).length by simp only [List.length_append, List.length_take, List.length_cons, List.length_nil]; omega, h.regs, h.values, h.keys, h.rng⟩
  · have q := key (show effP c 15 = (1, 1, 0, 0) from rfl) (by decide)
    have ef : effP c 15 = (1, 1, 0, 0) := rfl
    have hw := q.2.2.2.2
    rw [ef] at hc
    simp only [show ((15 : Int) == 22) = false from rfl, show ((15 : Int) == 7) = false from rfl, cond_false, cond_true] at hc
    have hne : (n : Int) - 1 + 1 = ((n - 1 + 1 : Nat) : Int) := by omega
    rw [hw, hne] at hc
    exact ⟨hfin, ⟨_, pk, hc, hpk, hkk⟩, show n - 1 + 1 ≤ 64 by omega, show n - 1 + 1 ≤ (row.take (n - 1) ++ [_]).length by simp only [List.length_append, List.length_take, List.length_cons, List.length_nil]; omega, h.regs, h.values, h.keys, h.rng⟩
  · have q := key (show effP c 16 = (1, 1, 0, 0) from rfl) (by decide)
    have ef : effP c 16 = (1, 1, 0, 0) := rfl
    have hw := q.2.2.2.2
    rw [ef] at hc
    simp only [show ((16 : Int) == 22) = false from rfl, show ((16 : Int) == 7) = false from rfl, cond_false, cond_true] at hc
    have hne : (n : Int) - 1 + 1 = ((n - 1 + 1 : Nat) : Int) := by omega
    rw [hw, hne] at hc
    exact ⟨hfin, ⟨_, pk, hc, hpk, hkk⟩, show n - 1 + 1 ≤ 64 by omega, show n - 1 + 1 ≤ (row.take (n - 1) ++ [_]).length by simp only [List.length_append, List.length_take, List.length_cons, List.length_nil]; omega, h.regs, h.values, h.keys, h.rng⟩
  · have q := key (show effP c 17 = (2, 1, 0, 0) from rfl) (by decide)
    have ef : effP c 17 = (2, 1, 0, 0) := rfl
    have hw := q.2.2.2.2
    rw [ef] at hc
    simp only [show ((17 : Int) == 22) = false from rfl, show ((17 : Int) == 7) = false from rfl, cond_false, cond_true] at hc
    have hne : (n : Int) - 2 + 1 = ((n - 2 + 1 : Nat) : Int) := by omega
    rw [hw, hne] at hc
    exact ⟨hfin, ⟨_, pk, hc, hpk, hkk⟩, show n - 2 + 1 ≤ 64 by omega, show n - 2 + 1 ≤ (row.take (n - 2) ++ [_]).length by simp only [List.length_append, List.length_take, List.length_cons, List.length_nil]; omega, h.regs, h.values, h.keys, h.rng⟩
  · have q := key (show effP c 18 = (2, 1, 0, 0) from rfl) (by decide)
    have ef : effP c 18 = (2, 1, 0, 0) := rfl
    have hw := q.2.2.2.2
    rw [ef] at hc
    simp only [show ((18 : Int) == 22) = false from rfl, show ((18 : Int) == 7) = false from rfl, cond_false, cond_true] at hc
    have hne : (n : Int) - 2 + 1 = ((n - 2 + 1 : Nat) : Int) := by omega
    rw [hw, hne] at hc
    exact ⟨hfin, ⟨_, pk, hc, hpk, hkk⟩, show n - 2 + 1 ≤ 64 by omega, show n - 2 + 1 ≤ (row.take (n - 2) ++ [_]).length by simp only [List.length_append, List.length_take, List.length_cons, List.length_nil]; omega, h.regs, h.values, h.keys, h.rng⟩
  · have q := key (show effP c 19 = (2, 1, 0, 0) from rfl) (by decide)
    have ef : effP c 19 = (2, 1, 0, 0) := rfl
    have hw := q.2.2.2.2
    rw [ef] at hc
    simp only [show ((19 : Int) == 22) = false from rfl, show ((19 : Int) == 7) = false from rfl, cond_false, cond_true] at hc
    have hne : (n : Int) - 2 + 1 = ((n - 2 + 1 : Nat) : Int) := by omega
    rw [hw, hne] at hc
    exact ⟨hfin, ⟨_, pk, hc, hpk, hkk⟩, show n - 2 + 1 ≤ 64 by omega, show n - 2 + 1 ≤ (row.take (n - 2) ++ [_]).length by simp only [List.length_append, List.length_take, List.length_cons, List.length_nil]; omega, h.regs, h.values, h.keys, h.rng⟩
  · have q := key (show effP c 20 = (1, 1, 1, 2147483648) from rfl) (by decide)
    have ef : effP c 20 = (1, 1, 1, 2147483648) := rfl
    have hw := q.2.2.2.2
    rw [ef] at hc
    simp only [show ((20 : Int) == 22) = false from rfl, show ((20 : Int) == 7) = false from rfl, cond_false, cond_true] at hc
    have hne : (n : Int) - 1 + 1 = ((n - 1 + 1 : Nat) : Int) := by omega
    rw [hw, hne] at hc
    exact ⟨hfin, ⟨_, pk, hc, hpk, hkk⟩, show n - 1 + 1 ≤ 64 by omega, show n - 1 + 1 ≤ (row.take (n - 1) ++ [_]).length by simp only [List.length_append, List.length_take, List.length_cons, List.length_nil]; omega, h.regs, h.values, h.keys, h.rng⟩
  · have q := key (show effP c 21 = (4, 1, 0, 0) from rfl) (by decide)
    have ef : effP c 21 = (4, 1, 0, 0) := rfl
    have hw := q.2.2.2.2
    rw [ef] at hc
    simp only [show ((21 : Int) == 22) = false from rfl, show ((21 : Int) == 7) = false from rfl, cond_false, cond_true] at hc
    have hne : (n : Int) - 4 + 1 = ((n - 4 + 1 : Nat) : Int) := by omega
    rw [hw, hne] at hc
    exact ⟨hfin, ⟨_, pk, hc, hpk, hkk⟩, show n - 4 + 1 ≤ 64 by omega, show n - 4 + 1 ≤ (row.take (n - 4) ++ [_]).length by simp only [List.length_append, List.length_take, List.length_cons, List.length_nil]; omega, h.regs, h.values, h.keys, h.rng⟩
  · have q := key (show effP c 22 = (1, 0, 0, 0) from rfl) (by decide)
    have ef : effP c 22 = (1, 0, 0, 0) := rfl
    have hw := q.2.2.2.2
    rw [ef] at hc
    simp only [show ((22 : Int) == 22) = true from rfl, show ((22 : Int) == 7) = false from rfl, cond_false, cond_true] at hc
    have hne : (n : Int) - 1 + 0 = ((n - 1 + 0 : Nat) : Int) := by omega
    rw [hw, hne] at hc
    exact ⟨hfin, ⟨_, pk, hc, hpk, hkk⟩, show n - 1 + 0 ≤ 64 by omega, show n - 1 + 0 ≤ row.length by omega, h.regs, h.values, h.keys, h.rng⟩
end
def updLn (L : List (List Int)) (kv : Int × Int) : List (List Int) := L.set kv.1.toNat (kv.2 :: (L.getD kv.1.toNat []).dropLast)
theorem updLn_len (L : List (List Int)) (kv : Int × Int) : (updLn L kv).length = L.length := by simp [updLn]
theorem updLn_get {L : List (List Int)} {kv : Int × Int} {i : Nat} (h : i ≠ kv.1.toNat) : (updLn L kv).getD i [] = L.getD i [] := by
  simp only [updLn, List.getD_eq_getElem?_getD]
  rw [List.getElem?_set_ne (fun e => h e.symm)]
theorem updLn_comm {L : List (List Int)} {a b : Int × Int} (h : a.1.toNat ≠ b.1.toNat) : updLn (updLn L a) b = updLn (updLn L b) a := by
  have h1 : (updLn L a).getD b.1.toNat [] = L.getD b.1.toNat [] := updLn_get fun e => h e.symm
  have h2 : (updLn L b).getD a.1.toNat [] = L.getD a.1.toNat [] := updLn_get h
  have e1 : updLn (updLn L a) b = (updLn L a).set b.1.toNat (b.2 :: ((updLn L a).getD b.1.toNat []).dropLast) := rfl
  have e2 : updLn (updLn L b) a = (updLn L b).set a.1.toNat (a.2 :: ((updLn L b).getD a.1.toNat []).dropLast) := rfl
  rw [e1, e2, h1, h2]
  simp only [updLn]
  exact List.set_comm _ _ h
theorem updLn_pick {x : Int × Int} : ∀ {l1 l2 : List (Int × Int)} {L : List (List Int)}, (∀ y ∈ l1, y.1.toNat ≠ x.1.toNat) → (l1 ++ x :: l2).foldl updLn L = (l1 ++ l2).foldl updLn (updLn L x)
  | [], l2, L, _ => rfl
  | y :: r, l2, L, h => by
    simp only [List.cons_append, List.foldl_cons]
    rw [updLn_pick (fun z hz => h z (by simp [hz])), updLn_comm (h y (by simp))]
structure LineI (n : Nat) (G : List (List Int)) (L : List (List Int)) (left : List (Int × Int)) : Prop where
  fin : left.foldl updLn L = G
  len : L.length = n
  keys : (left.map (·.1)).Nodup
  rng : ∀ kv ∈ left, 0 ≤ kv.1 ∧ kv.1 < n
  pos : ∀ i, i < n → 1 ≤ (L.getD i []).length ∧ (L.getD i []).length ≤ 65536
def lineI (n : Nat) (G L : List (List Int)) (left : List (D × D)) : Prop := ∃ l, left = l.map kvD ∧ LineI n G L l
theorem mline_pick {n : Nat} {G L : List (List Int)} {l1 l2 : List (D × D)} {x : D × D} (h : lineI n G L (l1 ++ x :: l2)) : ∃ kv : Int × Int, x = kvD kv ∧ (0 ≤ kv.1 ∧ kv.1 < L.length) ∧ 1 ≤ (L.getD kv.1.toNat []).length ∧ (L.getD kv.1.toNat []).length ≤ 65536 ∧ lineI n G (updLn L kv) (l1 ++ l2) := by
  obtain ⟨l, e, h⟩ := h
  have e := e.symm
  rw [List.map_eq_append_iff] at e
  obtain ⟨q1, q2, rfl, rfl, e2⟩ := e
  rw [List.map_eq_cons_iff] at e2
  obtain ⟨kv, q3, rfl, rfl, rfl⟩ := e2
  have hr := h.rng kv (by simp)
  have hk := h.keys
  simp only [List.map_append, List.map_cons, List.nodup_append, List.nodup_cons, List.mem_cons, List.mem_map] at hk
  obtain ⟨k1, ⟨k2, k3⟩, k4⟩ := hk
  have hl := h.len
  have hp := h.pos kv.1.toNat (by omega)
  refine ⟨kv, rfl, ⟨hr.1, by omega⟩, hp.1, hp.2, q1 ++ q3, by simp, ⟨?_, by rw [updLn_len]; exact h.len, ?_, fun y hy => h.rng y ?_, fun i hi => ?_⟩⟩
  · rw [← h.fin]
    refine (updLn_pick fun y hy e => ?_).symm
    have hy' := h.rng y (by simp [hy])
    exact k4 y.1 ⟨y, hy, rfl⟩ kv.1 (.inl rfl) (by omega)
  · simp only [List.map_append, List.nodup_append]
    refine ⟨k1, k3, fun a ha b hb => k4 a (by simpa using ha) b (.inr (by simpa using hb))⟩
  · rcases List.mem_append.1 hy with h | h <;> simp [h]
  · by_cases e : i = kv.1.toNat
    · subst e
      have hlt : kv.1.toNat < L.length := by omega
      simp only [updLn, List.getD_eq_getElem?_getD]
      rw [List.getElem?_set_self hlt]
      simp only [Option.getD_some, List.length_cons, List.length_dropLast, List.getD_eq_getElem?_getD] at hp ⊢
      omega
    · rw [updLn_get e]; exact h.pos i hi
theorem mline_end {n : Nat} {G L : List (List Int)} (h : lineI n G L []) : G = L := by
  obtain ⟨l, e, h⟩ := h
  have : l = [] := by simpa using e.symm
  subst this
  exact h.fin.symm
end Go.Fw.Mac
namespace Go.Fw.Mac
set_option linter.unusedSectionVars false
open Go.Fw
section
variable {c : Cd} {par inn sid : List Int} {lines : List (List Int)} {F : PS}
theorem mstep_end {p : PS} (h : StepI c par inn sid lines F [] p) : F = p := h.fin.symm
theorem mline_start {p : PS} {G : List (List Int)} (E : EnvOk c par inn sid lines) (h : StepI c par inn sid lines F [] p) (hG : p.pushed.foldl updLn lines = G) : lineI c.lines.length G lines (p.pushed.map kvD) := by
  refine ⟨p.pushed, rfl, hG, E.linesN, h.keys, h.rng, fun i hi => ?_⟩
  have h1 := E.line i hi
  have h2 := E.size i hi
  omega
end
theorem clear_arr {v s : Nat} {l : List Int} : Block.arr v s (List.replicate l.length [D.i 0] ++ (l.map intC).drop l.length) = Block.arr v s ((List.replicate l.length 0).map intC) := by
  rw [List.drop_of_length_le (by simp), List.append_nil, List.map_replicate]
theorem own_rep {i v s n : Nat} {a : Int} : AV.own i v s 0 n = AV.own i v s 0 (List.replicate n a).length := by rw [List.length_replicate]
theorem own_upd {i v s : Nat} {L : List (List Int)} {kv : Int × Int} : AV.own i v s 0 L.length = AV.own i v s 0 (updLn L kv).length := by rw [updLn_len]
theorem mline_cut {l : List Int} (h1 : 1 ≤ l.length) (h2 : l.length ≤ 65536) : 0 ≤ W (((l.map intC).length : Int) - 1) ∧ W (((l.map intC).length : Int) - 1) ≤ ((l.map intC).length : Int) := by
  rw [List.length_map, W_ok (by omega) (by omega)]; omega
theorem mline_arr {v s : Nat} {L : List (List Int)} {kv : Int × Int} (h1 : 1 ≤ (L.getD kv.1.toNat []).length) (h2 : (L.getD kv.1.toNat []).length ≤ 65536) :
    Block.arr v s ((L.map lnC).set (0 + kv.1.toNat) [D.sl 1 ([[D.i kv.2]] ++ ((L.getD kv.1.toNat []).map intC).take (W ((((L.getD kv.1.toNat []).map intC).length : Int) - 1)).toNat)]) = Block.arr v s ((updLn L kv).map lnC) := by
  rw [Nat.zero_add, updLn, List.map_set]
  congr 1
  rw [List.length_map, W_ok (by omega) (by omega)]
  have e : (((L.getD kv.1.toNat []).length : Int) - 1).toNat = (L.getD kv.1.toNat []).length - 1 := by omega
  rw [e, ← List.map_take, ← List.dropLast_eq_take]
  rfl
theorem mline_len {l : List Int} {k : Option Int} (h2 : l.length ≤ 65536) : (cut none k (l.map intC)).length ≤ 1073741824 := by
  have h : (cut none k (l.map intC)).length ≤ (l.map intC).length := by
    cases k with
    | none => exact Nat.le_refl _
    | some k => exact List.length_take_le' _ _
  rw [List.length_map] at h; omega
theorem step_op {c : Cd} {par inn sid : List Int} {lines : List (List Int)} {F p : PS} {op a : Int} {r : List (Int × Int)} (_ : EnvOk c par inn sid lines) (h : StepI c par inn sid lines F ((op, a) :: r) p) : 1 ≤ op ∧ op ≤ 22 := by
  obtain ⟨o, pk, hc, -⟩ := h.chk
  have := ops_of (chkP_ref hc)
  omega
theorem none_some {α : Type} {a : α} {p : Prop} (h : none = some a) : p := by cases h
theorem op_list {op : Int} (h : 1 ≤ op ∧ op ≤ 22) : op = 1 ∨ op = 2 ∨ op = 3 ∨ op = 4 ∨ op = 5 ∨ op = 6 ∨ op = 7 ∨ op = 8 ∨ op = 9 ∨ op = 10 ∨ op = 11 ∨ op = 12 ∨ op = 13 ∨ op = 14 ∨ op = 15 ∨ op = 16 ∨ op = 17 ∨ op = 18 ∨ op = 19 ∨ op = 20 ∨ op = 21 ∨ op = 22 := by omega
theorem beq_step {b : Bool} {p q : Prop} : b = false → p → (match b with | true => q | false => p) := by intro h h2; subst h; exact h2
end Go.Fw.Mac
namespace Go.Fw
set_option linter.unusedSectionVars false
variable [GlobInt]
theorem ret_weak {T : Tbl} {rs : List ResultVar} {K0 K K1 : Heap} {out : AOut} {env : Env} (env' : Env) (K' : Heap) (h1 : WeakI env K env' K') (h2 : Go.Fw.finR T rs K0 out K1 env' K') : Go.Fw.finR T rs K0 out K1 env K ∨ ∃ env' K', Weak env K env' K' ∧ Go.Fw.finR T rs K0 out K1 env' K' := .inr ⟨env', K', by rw [← WeakI_eq]; exact h1, h2⟩
end Go.Fw
namespace Go.Fw.Mac
set_option linter.unusedSectionVars false
open Go.Fw
def firstS : List Int → Int → Int
  | [], _ => -1
  | x :: r, i => bif x != clipM x then i else firstS r (i + 1)
def samplesM (c : Cd) (l : List Int) (n : Int) : Bool := bif ((l.length : Int) == W (n + c.latency)) then !(decide (firstS l 0 ≥ 0)) else false
def ctlZ : List (Int × Bd) → Bool
  | [] => true
  | (x, b) :: r => bif x != heldM x b.lo b.hi then false else ctlZ r
def controlsM (c : Cd) (l : List Int) : Bool := bif (l.length : Int) != (c.params.length : Int) then false else ctlZ (l.zip c.params)
def badV (x : Ln) (v : Int) : Bool := bif v != 0 then v != heldM v x.lo x.hi else false
def firstL (x : Ln) : List Int → Int → Int
  | [], _ => -1
  | v :: r, i => bif badV x v then i else firstL x r (i + 1)
def badLn (l : List Int) (x : Ln) : Bool := bif (l.length : Int) != x.size then true else decide (firstL x l 0 ≥ 0)
def linZ : List (List Int × Ln) → Bool
  | [] => true
  | (l, x) :: r => bif badLn l x then false else linZ r
def stateM (c : Cd) (s : Sta) : Bool := bif (bif (s.values.length : Int) != (c.states.length : Int) then true else (s.lines.length : Int) != (c.lines.length : Int)) then false else
  bif !(ctlZ (s.values.zip c.states)) then false else linZ (s.lines.zip c.lines)
def firstC (c : Cd) : List (List Int) → Int → Int
  | [], _ => -1
  | l :: r, i => bif !(controlsM c l) then i else firstC c r (i + 1)
def startM (c : Cd) : Sta := ⟨c.states.map fun b => heldM 0 b.lo b.hi, c.lines.map fun l => List.replicate l.size.toNat 0⟩
theorem firstS_next {x : Int} {r l : List Int} {i : Int} (h : firstS l 0 = firstS (x :: r) i) (hb : (x != clipM x) = false) : firstS l 0 = firstS r (i + 1) := by rw [h, firstS, hb]; rfl
theorem firstS_hit {x : Int} {r l : List Int} {i : Int} (h : firstS l 0 = firstS (x :: r) i) (hb : (x != clipM x) = true) : firstS l 0 = i := by rw [h, firstS, hb]; rfl
theorem firstL_next {y : Ln} {x : Int} {r l : List Int} {i : Int} (h : firstL y l 0 = firstL y (x :: r) i) (hb : badV y x = false) : firstL y l 0 = firstL y r (i + 1) := by rw [h, firstL, hb]; rfl
theorem firstL_hit {y : Ln} {x : Int} {r l : List Int} {i : Int} (h : firstL y l 0 = firstL y (x :: r) i) (hb : badV y x = true) : firstL y l 0 = i := by rw [h, firstL, hb]; rfl
theorem firstC_next {c : Cd} {x : List Int} {r l : List (List Int)} {i : Int} (h : firstC c l 0 = firstC c (x :: r) i) (hb : (!(controlsM c x)) = false) : firstC c l 0 = firstC c r (i + 1) := by rw [h, firstC, hb]; rfl
theorem firstC_hit {c : Cd} {x : List Int} {r l : List (List Int)} {i : Int} (h : firstC c l 0 = firstC c (x :: r) i) (hb : (!(controlsM c x)) = true) : firstC c l 0 = i := by rw [h, firstC, hb]; rfl
theorem len_ne {n m : Nat} (h : ((n : Int) != (m : Int)) = false) : n = m := by simp at h; omega
theorem len_ne2 {a b c d : Nat} (h : (bif (a : Int) != (b : Int) then true else (c : Int) != (d : Int)) = false) : a = b ∧ c = d := by
  cases h1 : ((a : Int) != (b : Int)) with
  | true => rw [h1] at h; simp at h
  | false => rw [h1] at h; exact ⟨len_ne h1, len_ne h⟩
theorem ctl_next {x : Int × Bd} {r : List (Int × Bd)} {b : Bool} (h : b = ctlZ (x :: r)) (hb : (x.1 != heldM x.1 x.2.lo x.2.hi) = false) : b = ctlZ r := by rw [h, ctlZ, hb]; rfl
theorem ctl_bad {x : Int × Bd} {r : List (Int × Bd)} {b : Bool} (h : b = ctlZ (x :: r)) (hb : (x.1 != heldM x.1 x.2.lo x.2.hi) = true) : b = false := by rw [h, ctlZ, hb]; rfl
theorem lin_next {x : List Int × Ln} {r : List (List Int × Ln)} {b : Bool} (h : b = linZ (x :: r)) (hb : badLn x.1 x.2 = false) : b = linZ r := by rw [h, linZ, hb]; rfl
theorem lin_bad {x : List Int × Ln} {r : List (List Int × Ln)} {b : Bool} (h : b = linZ (x :: r)) (hb : badLn x.1 x.2 = true) : b = false := by rw [h, linZ, hb]; rfl
theorem ctlM_no {c : Cd} {l : List Int} (h : ((l.length : Int) != (c.params.length : Int)) = true) : controlsM c l = false := by unfold controlsM; rw [h]; rfl
theorem ctlM_yes {c : Cd} {l : List Int} (h : ((l.length : Int) != (c.params.length : Int)) = false) : controlsM c l = ctlZ (l.zip c.params) := by unfold controlsM; rw [h]; rfl
theorem staM_no {c : Cd} {s : Sta} (h : (bif (s.values.length : Int) != (c.states.length : Int) then true else (s.lines.length : Int) != (c.lines.length : Int)) = true) : stateM c s = false := by unfold stateM; rw [h]; rfl
theorem staM_v {c : Cd} {s : Sta} (h : ctlZ (s.values.zip c.states) = false) : stateM c s = false := by
  unfold stateM; rw [h]
  cases (bif (s.values.length : Int) != (c.states.length : Int) then true else (s.lines.length : Int) != (c.lines.length : Int)) <;> rfl
theorem staM_l {c : Cd} {s : Sta} (h : linZ (s.lines.zip c.lines) = false) : stateM c s = false := by
  unfold stateM; rw [h]
  cases (bif (s.values.length : Int) != (c.states.length : Int) then true else (s.lines.length : Int) != (c.lines.length : Int)) <;> cases ctlZ (s.values.zip c.states) <;> rfl
theorem staM_yes {c : Cd} {s : Sta} (h : (bif (s.values.length : Int) != (c.states.length : Int) then true else (s.lines.length : Int) != (c.lines.length : Int)) = false) (h1 : ctlZ (s.values.zip c.states) = true) (h2 : linZ (s.lines.zip c.lines) = true) : stateM c s = true := by
  unfold stateM; rw [h, h1, h2]; rfl
theorem start_d {c : Cd} {vs : List Int} {ls : List (List Int)} (h1 : (startM c).values = vs ++ ([] : List Bd).map fun b => heldM 0 b.lo b.hi) (h2 : (startM c).lines = ls ++ ([] : List Ln).map fun l => List.replicate l.size.toNat 0) : (startM c).d = .agg [ints vs, .sl 1 (ls.map lnC)] := by
  have e1 : (startM c).values = vs := by simpa using h1
  have e2 : (startM c).lines = ls := by simpa using h2
  simp only [Sta.d, Sta.cs, e1, e2]
theorem rep_arr {v s k : Nat} : Block.arr v s (List.replicate k [D.i 0]) = Block.arr v s ((List.replicate k (0 : Int)).map intC) := by rw [List.map_replicate]
theorem chunk_ln {ls : List (List Int)} {k : Nat} : List.map lnC ls ++ chunks 1 1 [D.sl 1 (List.replicate k [D.val (Value.int .i64 0)])] = List.map lnC (ls ++ [List.replicate k 0]) := by
  rw [List.map_append]; congr 1
  simp only [chunks, List.map_cons, List.map_nil, lnC, ints, List.map_replicate]; rfl
theorem own_ren {τ : List (Nat × Nat)} {i j v s n m : Nat} (h : i = rn τ j) (h2 : n = m) : AV.own i v s 0 n = AV.ren τ (AV.own j v s 0 m) := by
  subst h h2; simp only [AV.ren]
theorem arr_take {v s : Nat} {k' l m : List (List D)} (h : l = m) : Block.arr v s (List.take 0 k' ++ l) = Block.arr v s m := by
  subst h; simp
theorem rep_ownX {i v s s1 n : Nat} (h : s = s1) : AV.own i v s 0 n = AV.own i v s1 0 (List.replicate n (0 : Int)).length := by rw [List.length_replicate, h]
theorem okE_no {b : Bool} (h : (okE b != 0) = true) : b = false := by cases b <;> simp [okE] at h ⊢
theorem okE_yes {b : Bool} (h : (okE b != 0) = false) : b = true := by cases b <;> simp [okE] at h ⊢
end Go.Fw.Mac
