/- The law functions of names, as plain functions: what a resolved processor fulfils. -/
import Derived.Test.YtgilgdfmohmbdaaZD13
import Derived.Test.YtgilgdfmohmbdaaZD12
set_option linter.unusedSimpArgs false
set_option linter.unusedVariables false
namespace Go.Fw.Nam
set_option linter.unusedSectionVars false
variable [GlobInt]
open Ref15
abbrev outC (p : Pr) (s : Sm) : List D := Sm.cs (outS (decl p) s)
def xr (p : Pr) : Pr := { p with stmts := p.stmts.map (outS (decl p)) }
abbrev xD (p : Pr) : D := .agg [.str p.name, .i p.latency, .i p.tail, .sl 3 (p.params.map Bd.cs), .sl 3 (p.states.map Bd.cs), .sl 4 (p.lines.map Ln.cs), .sl 2 (p.tables.map Tb.cs), .sl 8 (p.stmts.map (outC p))]
theorem xD_eq (p : Pr) : (xr p).d = xD p := by
  show D.agg [.str p.name, .i p.latency, .i p.tail, .sl 3 (p.params.map Bd.cs), .sl 3 (p.states.map Bd.cs), .sl 4 (p.lines.map Ln.cs), .sl 2 (p.tables.map Tb.cs), .sl 8 ((p.stmts.map (outS (decl p))).map Sm.cs)] = _
  rw [List.map_map]; rfl
structure Facts (p : Pr) : Prop where
  bare : ∀ s ∈ p.stmts, bareM (vis (decl p) s.x) s.x = true
  means : ∀ (i : Nat) s, p.stmts[i]? = some s → meansM (xr p) i (vis (decl p) s.x) = true
  set : ∀ s ∈ p.stmts, (s.kind == 2) = true → 0 ≤ sidx (decl p) s ∧ sidx (decl p) s < (p.states.length : Int) ∧ (p.states.getD (sidx (decl p) s).toNat bd0).name = s.name
  push : ∀ s ∈ p.stmts, (s.kind == 3) = true → 0 ≤ sidx (decl p) s ∧ sidx (decl p) s < (p.lines.length : Int) ∧ (p.lines.getD (sidx (decl p) s).toNat ln0).name = s.name
  rest : ∀ (i : Nat) s, p.stmts[i]? = some s → (s.kind == 2) = false → (s.kind == 3) = false → sidx (decl p) s = 0 ∧ (s.kind == 4) = ((i : Int) == (p.stmts.length : Int) - 1)
  last : 0 < p.stmts.length ∧ (p.stmts.getD ((p.stmts.length : Int) - 1).toNat sm0).kind = 4
theorem idx_last {α β : Type} {l : List α} {f : α → β} (d : α) (hl : l.length ≤ 67108864) (hg : wantB (decide (((l.map f).length : Int) > 0)) true = true) : 0 ≤ IntKind.i64.wrap (((l.map f).length : Int) - 1) ∧ (l.map f)[(IntKind.i64.wrap (((l.map f).length : Int) - 1)).toNat]? = some (f (l.getD ((l.length : Int) - 1).toNat d)) := by
  simp only [wantB, decide_eq_true_eq, List.length_map] at hg
  simp only [List.length_map]
  rw [wrap_ok (by omega) (by omega)]
  exact getD_at d (by omega) (by omega)
theorem set_no {p : Pr} {s : Sm} (h : 0 ≤ sidx (decl p) s ∧ sidx (decl p) s < (p.states.length : Int) ∧ (p.states.getD (sidx (decl p) s).toNat bd0).name = s.name) :
    (bif (bif decide (sidx (decl p) s < 0) then true else decide (sidx (decl p) s ≥ ((p.states.map Bd.cs).length : Int))) then true else !((p.states.getD (sidx (decl p) s).toNat bd0).name == s.name)) = false := by
  obtain ⟨h1, h2, h3⟩ := h
  rw [h3]
  have a : ¬ sidx (decl p) s < 0 := by omega
  have b : ¬ sidx (decl p) s ≥ ((p.states.map Bd.cs).length : Int) := by simp only [List.length_map]; omega
  simp only [a, b, decide_false, beq_self_eq_true, Bool.not_true]; rfl
theorem push_no {p : Pr} {s : Sm} (h : 0 ≤ sidx (decl p) s ∧ sidx (decl p) s < (p.lines.length : Int) ∧ (p.lines.getD (sidx (decl p) s).toNat ln0).name = s.name) :
    (bif (bif decide (sidx (decl p) s < 0) then true else decide (sidx (decl p) s ≥ ((p.lines.map Ln.cs).length : Int))) then true else !((p.lines.getD (sidx (decl p) s).toNat ln0).name == s.name)) = false := by
  obtain ⟨h1, h2, h3⟩ := h
  rw [h3]
  have a : ¬ sidx (decl p) s < 0 := by omega
  have b : ¬ sidx (decl p) s ≥ ((p.lines.map Ln.cs).length : Int) := by simp only [List.length_map]; omega
  simp only [a, b, decide_false, beq_self_eq_true, Bool.not_true]; rfl
theorem rest_no {p : Pr} {s : Sm} {i : Nat} (h : sidx (decl p) s = 0 ∧ (s.kind == 4) = ((i : Int) == (p.stmts.length : Int) - 1)) (hl : p.stmts.length ≤ 67108864) (h0 : i < p.stmts.length) :
    (bif sidx (decl p) s != 0 then true else !((s.kind == 4) == ((i : Int) == IntKind.i64.wrap (((p.stmts.map (outC p)).length : Int) - 1)))) = false := by
  obtain ⟨h1, h2⟩ := h
  rw [h1, h2, List.length_map, wrap_ok (by omega) (by omega)]
  simp
theorem last_yes {p : Pr} (hF : Facts p) (hl : p.stmts.length ≤ 67108864) : (bif decide (((p.stmts.map (outC p)).length : Int) > 0) then (outS (decl p) (p.stmts.getD ((p.stmts.length : Int) - 1).toNat sm0)).kind == 4 else false) = true := by
  obtain ⟨h1, h2⟩ := hF.last
  have a : (((p.stmts.map (outC p)).length : Int) > 0) := by rw [List.length_map]; omega
  have b : (outS (decl p) (p.stmts.getD ((p.stmts.length : Int) - 1).toNat sm0)).kind = 4 := h2
  rw [decide_eq_true a, b]; rfl
end Go.Fw.Nam
