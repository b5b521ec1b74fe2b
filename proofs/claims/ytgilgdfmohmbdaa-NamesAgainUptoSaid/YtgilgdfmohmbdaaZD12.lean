/- The law functions of names, as plain functions: what is missing. -/
import Derived.Test.YtgilgdfmohmbdaaZD11
set_option linter.unusedSimpArgs false
set_option linter.unusedVariables false
namespace Go.Fw.Nam
set_option linter.unusedSectionVars false
variable [GlobInt]
open Ref15
mutual
def uses (k i : Int) : Ex → Bool
  | .mk k' _ i' _ l => (k' == k && i' == i) || usesL k i l
def usesL (k i : Int) : List Ex → Bool
  | [] => false
  | x :: r => uses k i x || usesL k i r
end
theorem uses_eq (k i : Int) (x : Ex) : uses k i x = ((x.kind == k && x.index == i) || usesL k i x.l) := by cases x; rw [uses]; rfl
def use1 (k i st : Int) (s : Sm) : Bool := uses k i s.x || (s.kind == st && s.index == i)
def usedM (k i st : Int) (l : List Sm) : Bool := l.any (use1 k i st)
/-- The last of a list: its index, as the code reckons it. -/
def lastI (n : Nat) : Int := IntKind.i64.wrap ((n : Int) - 1)
def dropP (p : Pr) : Pr := { p with params := p.params.take (lastI (p.params.map Bd.cs).length).toNat }
def dropS (p : Pr) : Pr := { p with states := p.states.take (lastI (p.states.map Bd.cs).length).toNat }
def dropL (p : Pr) : Pr := { p with lines := p.lines.take (lastI (p.lines.map Ln.cs).length).toNat }
def dropT (p : Pr) : Pr := { p with tables := p.tables.take (lastI (p.tables.map Tb.cs).length).toNat }
def missB (q : Pr) (u : Bool) : Bool := bif (bif (resolveC q).2 != 0 then (resolveC q).2 != 150 else false) then true else ((resolveC q).2 == 0) == u
theorem small_take {p : Pr} (hp : p.Small) : (dropP p).Small ∧ (dropS p).Small ∧ (dropL p).Small ∧ (dropT p).Small := by
  obtain ⟨h1, h2, h3, h4, h5⟩ := hp
  refine ⟨?_, ?_, ?_, ?_⟩ <;> constructor <;> simp only [dropP, dropS, dropL, dropT, List.length_take] <;> omega
theorem last_cut {n : Nat} (h : decide (lastI n ≥ 0) = true) (hn : n ≤ 67108864) : 0 ≤ lastI n ∧ lastI n ≤ n := by
  simp only [decide_eq_true_eq] at h
  refine ⟨h, ?_⟩
  unfold lastI
  rw [wrap_ok (by omega) (by omega)]; omega
theorem res_len {p : Pr} (h : (resolveC p).2 = 0) : (resolveC p).1.stmts.length = p.stmts.length := by
  obtain ⟨_, _, _, _, _, _, e⟩ := resolved_form h
  rw [e]; simp
end Go.Fw.Nam
