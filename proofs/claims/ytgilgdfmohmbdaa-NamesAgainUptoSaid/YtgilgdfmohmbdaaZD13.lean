/- The law functions of names, as plain functions: what indices mean. -/
import Derived.Test.YtgilgdfmohmbdaaZD11
set_option linter.unusedSimpArgs false
set_option linter.unusedVariables false
namespace Go.Fw.Nam
set_option linter.unusedSectionVars false
variable [GlobInt]
open Ref15
def bareV (k : Int) : Bool := k == 2 || k == 3 || k == 4 || k == 5
mutual
def bareM : Ex → Ex → Bool
  | .mk k n _ m l, b => if (k != b.kind && !(bareV k && bareV b.kind)) || n != b.name || m != b.n || (l.length : Int) != b.l.length then false else bareL l b.l
def bareL : List Ex → List Ex → Bool
  | [], _ => true
  | x :: r, l => bareM x (l.headD Ex.none) && bareL r l.tail
end
theorem bareM_eq (a b : Ex) : bareM a b = if (a.kind != b.kind && !(bareV a.kind && bareV b.kind)) || a.name != b.name || a.n != b.n || (a.l.length : Int) != b.l.length then false else bareL a.l b.l := by cases a; rw [bareM]; rfl
def bareQ (q : Ex × Ex) : Bool := bareM q.1 q.2
theorem bareL_zip : ∀ {l m : List Ex}, l.length = m.length → bareL l m = (l.zip m).all fun q => bareM q.1 q.2
  | [], [], _ => rfl
  | x :: r, y :: s, h => by
    simp only [List.zip_cons_cons, List.all_cons, bareL, List.headD_cons, List.tail_cons]
    rw [bareL_zip (by simpa using h)]
abbrev bd0 : Bd := ⟨[], 0, 0⟩
abbrev ln0 : Ln := ⟨[], 0, 0, 0⟩
abbrev tb0 : Tb := ⟨[], []⟩
abbrev sm0 : Sm := ⟨0, [], 0, Ex.none⟩
/-- One node. -/
def mean1 (p : Pr) (at' : Int) (k : Int) (n : Str) (i : Int) : Bool :=
  if k == 3 then (decide (i ≥ 0) && decide (i < ((p.params.map Bd.cs).length : Int))) && (p.params.getD i.toNat bd0).name == n
  else if k == 4 then (decide (i ≥ 0) && decide (i < ((p.states.map Bd.cs).length : Int))) && (p.states.getD i.toNat bd0).name == n
  else if k == 5 then ((decide (i ≥ 0) && decide (i < at')) && (p.stmts.getD i.toNat sm0).kind == 1) && (p.stmts.getD i.toNat sm0).name == n
  else if k == 8 then (decide (i ≥ 0) && decide (i < ((p.lines.map Ln.cs).length : Int))) && (p.lines.getD i.toNat ln0).name == n
  else if k == 9 then (decide (i ≥ 0) && decide (i < ((p.tables.map Tb.cs).length : Int))) && (p.tables.getD i.toNat tb0).name == n
  else i == 0
mutual
def meansM (p : Pr) (at' : Int) : Ex → Bool
  | .mk k n i _ l => if k == 2 then false else mean1 p at' k n i && meansL p at' l
def meansL (p : Pr) (at' : Int) : List Ex → Bool
  | [] => true
  | x :: r => meansM p at' x && meansL p at' r
end
theorem meansM_eq (p : Pr) (at' : Int) (x : Ex) : meansM p at' x = if x.kind == 2 then false else mean1 p at' x.kind x.name x.index && meansL p at' x.l := by cases x; rw [meansM]; rfl
theorem getD_at {α β : Type} {l : List α} {f : α → β} {i : Int} (d : α) (h0 : 0 ≤ i) (h : i < (l.length : Int)) : 0 ≤ i ∧ (l.map f)[i.toNat]? = some (f (l.getD i.toNat d)) := by
  refine ⟨h0, ?_⟩
  have : i.toNat < l.length := by omega
  rw [List.getElem?_map, List.getD_eq_getElem?_getD, List.getElem?_eq_getElem this]; rfl
theorem idx_at {α β : Type} {l : List α} {f : α → β} {i : Int} (d : α) (hg : wantB (bif decide (i ≥ 0) then decide (i < ((l.map f).length : Int)) else false) true = true) : 0 ≤ i ∧ (l.map f)[i.toNat]? = some (f (l.getD i.toNat d)) := by
  simp only [wantB, Bool.cond_false_right, Bool.and_eq_true, decide_eq_true_eq, List.length_map] at hg
  exact getD_at d hg.1 hg.2
theorem idx_at1 {α β : Type} {l : List α} {f : α → β} {i b : Int} (d : α) (hb : b ≤ (l.length : Int)) (hg : wantB (bif decide (i ≥ 0) then decide (i < b) else false) true = true) : 0 ≤ i ∧ (l.map f)[i.toNat]? = some (f (l.getD i.toNat d)) := by
  simp only [wantB, Bool.cond_false_right, Bool.and_eq_true, decide_eq_true_eq] at hg
  exact getD_at d hg.1 (by omega)
theorem idx_at2 {α β : Type} {l : List α} {f : α → β} {i b : Int} {c : Bool} (d : α) (hb : b ≤ (l.length : Int)) (hg : wantB (bif (bif decide (i ≥ 0) then decide (i < b) else false) then c else false) true = true) : 0 ≤ i ∧ (l.map f)[i.toNat]? = some (f (l.getD i.toNat d)) := by
  simp only [wantB, Bool.cond_false_right, Bool.and_eq_true, decide_eq_true_eq] at hg
  exact getD_at d hg.1.1 (by omega)
theorem idx_or {α β : Type} {l : List α} {f : α → β} {i : Int} (d : α) (hg : wantB (bif decide (i < 0) then true else decide (i ≥ ((l.map f).length : Int))) false = true) : 0 ≤ i ∧ (l.map f)[i.toNat]? = some (f (l.getD i.toNat d)) := by
  simp only [wantB, Bool.cond_true_left, Bool.not_eq_true', Bool.or_eq_false_iff, decide_eq_false_iff_not, List.length_map] at hg
  exact getD_at d (by omega) (by omega)
end Go.Fw.Nam
