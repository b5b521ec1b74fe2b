/- The law functions of names, as plain functions: resolved again. -/
import Derived.Test.YtgilgdfmohmbdaaZD14
import Derived.Test.YtgilgdfmohmbdaaZD
set_option linter.unusedSimpArgs false
set_option linter.unusedVariables false
namespace Go.Fw.Nam
set_option linter.unusedSectionVars false
variable [GlobInt]
mutual
def indexed (i : Int) : Ex → Ex
  | .mk k s _ n l => .mk k s i n (indexedL i l)
def indexedL (i : Int) : List Ex → List Ex
  | [] => []
  | x :: r => indexed i x :: indexedL i r
end
theorem indexedL_len (i : Int) : ∀ l : List Ex, (indexedL i l).length = l.length
  | [] => rfl
  | x :: r => by simp only [indexedL, List.length_cons, indexedL_len i r]
def indexS (i : Int) (s : Sm) : Sm := ⟨s.kind, s.name, i, indexed i s.x⟩
def againP (i : Int) (p : Pr) : Pr := { p with stmts := p.stmts.map (indexS i) }
abbrev agC (k : Int) (p : Pr) (s : Sm) : List D := Sm.cs (indexS k (outS (decl p) s))
abbrev zD (k : Int) (p : Pr) : D := .agg [.str p.name, .i p.latency, .i p.tail, .sl 3 (p.params.map Bd.cs), .sl 3 (p.states.map Bd.cs), .sl 4 (p.lines.map Ln.cs), .sl 2 (p.tables.map Tb.cs), .sl 8 (p.stmts.map (agC k p))]
theorem zD_eq (k : Int) (p : Pr) : (againP k (xr p)).d = zD k p := by
  show D.agg [.str p.name, .i p.latency, .i p.tail, .sl 3 (p.params.map Bd.cs), .sl 3 (p.states.map Bd.cs), .sl 4 (p.lines.map Ln.cs), .sl 2 (p.tables.map Tb.cs), .sl 8 (((p.stmts.map (outS (decl p))).map (indexS k)).map Sm.cs)] = _
  rw [List.map_map, List.map_map]; rfl
theorem small_xr {p : Pr} (h : p.Small) : (xr p).Small := ⟨h.params, h.states, h.lines, h.tables, by have := h.stmts; simpa [xr] using this⟩
theorem small_again {p : Pr} {k : Int} (h : p.Small) : (againP k p).Small := ⟨h.params, h.states, h.lines, h.tables, by have := h.stmts; simpa [againP] using this⟩
theorem idx_own {k : Int} {p : Pr} {dn rs r0 : List Sm} {i0 : Nat} {x0 : Sm} (h : rs = x0 :: r0 ∧ dn.length = i0 ∧ dn ++ rs = p.stmts) : (dn.map (agC k p) ++ rs.map (outC p))[0 + (i0 : Int).toNat]? = some (outC p x0) := by
  obtain ⟨rfl, rfl, _⟩ := h
  simp
theorem idx_set {k : Int} {p : Pr} {dn rs r0 : List Sm} {i0 : Nat} {x0 : Sm} (h : rs = x0 :: r0 ∧ dn.length = i0 ∧ dn ++ rs = p.stmts) {y : List D} : ((dn.map (agC k p) ++ rs.map (outC p)).set (0 + (i0 : Int).toNat) y)[0 + (i0 : Int).toNat]? = some y := by
  obtain ⟨rfl, rfl, _⟩ := h
  simp
theorem set_own {k : Int} {p : Pr} {dn rs r0 : List Sm} {i0 : Nat} {x0 : Sm} (h : rs = x0 :: r0 ∧ dn.length = i0 ∧ dn ++ rs = p.stmts) {y z : List D} (hz : z = agC k p x0) : ((dn.map (agC k p) ++ rs.map (outC p)).set (0 + (i0 : Int).toNat) y).set (0 + (i0 : Int).toNat) z = (dn ++ [x0]).map (agC k p) ++ r0.map (outC p) := by
  obtain ⟨rfl, rfl, _⟩ := h
  subst hz
  simp
theorem fin_own {k : Int} {p : Pr} {dn rs : List Sm} {i0 : Nat} (h : rs = [] ∧ dn.length = i0 ∧ dn ++ rs = p.stmts) : 0 + (p.stmts.map (outC p)).length ≤ (dn.map (agC k p) ++ rs.map (outC p)).length ∧ p.stmts.map (agC k p) = ((dn.map (agC k p) ++ rs.map (outC p)).drop 0).take (0 + (p.stmts.map (outC p)).length) := by
  obtain ⟨rfl, rfl, h⟩ := h
  rw [List.append_nil] at h
  subst h
  simp only [List.map_nil, List.append_nil, List.drop_zero, Nat.zero_add, List.length_map]
  exact ⟨Nat.le_refl _, (List.take_of_length_le (by simp)).symm⟩
theorem br_nil0 {α β : Type} {l : List α} {f : α → β} {i : Nat} {p q : Prop} (h : l.drop i = []) (hq : q) : BrI (decide ((i : Int) < ((0 + (l.map f).length : Nat) : Int))) p q := by
  rw [Nat.zero_add]; exact br_nil h hq
theorem br_cons0 {α β : Type} {l : List α} {f : α → β} {i : Nat} {x : α} {r : List α} {p q : Prop} (h : l.drop i = x :: r) (hp : p) : BrI (decide ((i : Int) < ((0 + (l.map f).length : Nat) : Int))) p q := by
  rw [Nat.zero_add]; exact br_cons h hp
end Go.Fw.Nam
