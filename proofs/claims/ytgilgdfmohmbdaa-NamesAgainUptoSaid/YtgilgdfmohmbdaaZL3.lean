/- Steps of a walk: slices that are written in place. -/
import Derived.Test.YtgilgdfmohmbdaaZD
set_option linter.unusedSimpArgs false
set_option linter.unusedVariables false
namespace Go.Fw
set_option linter.unusedSectionVars false
variable [GlobInt]
theorem own_idx_step {a b v v' len : Nat} {k : Bool} {n : Int} {q : Prop} (h1 : k = true) (h2 : a = b) (h3 : v = v') (h4 : 0 ≤ n ∧ n < len) (h : q) : (k = true ∧ a = b ∧ v = v') ∧ (0 ≤ n ∧ n < len) ∧ q := ⟨⟨h1, h2, h3⟩, h4, h⟩
theorem own_load_step {v v' s s' off i : Nat} {es : List (List D)} {q : D → Prop} (h1 : v = v') (h2 : s = s') (e : List D) (c : D) (h3 : es[i]? = some e) (h4 : e[off]? = some c) (h : q c) : (v = v' ∧ s = s') ∧ ∃ e, es[i]? = some e ∧ ∃ c, e[off]? = some c ∧ q c := ⟨⟨h1, h2⟩, e, h3, c, h4, h⟩
theorem own_store_step {k sc : Bool} {v v' s s' l m off i : Nat} {es : List (List D)} {q : List D → Prop} (h1 : k = true) (h2 : v = v') (h3 : s = s') (h4 : l = m) (h5 : off + l ≤ s) (h6 : sc = true) (e : List D) (h7 : es[i]? = some e) (h : q e) :
    k = true ∧ (v = v' ∧ s = s') ∧ l = m ∧ off + l ≤ s ∧ sc = true ∧ ∃ e, es[i]? = some e ∧ q e := ⟨h1, ⟨h2, h3⟩, h4, h5, h6, e, h7, h⟩
end Go.Fw
namespace Go.Fw
set_option linter.unusedSectionVars false
variable [GlobInt]
/-- A part of an element is read. -/
theorem own_part_step {v v' s s' a b i : Nat} {es : List (List D)} {q : List D → Prop} (h1 : v = v') (h2 : s = s') (h3 : a ≤ b) (e : List D) (h4 : es[i]? = some e) (h : q e) : (v = v' ∧ s = s') ∧ a ≤ b ∧ ∃ e, es[i]? = some e ∧ q e := ⟨⟨h1, h2⟩, h3, e, h4, h⟩
theorem own_all_step {v v' s s' i : Nat} {es : List (List D)} {q : List D → Prop} (h1 : v = v') (h2 : s = s') (e : List D) (h4 : es[i]? = some e) (h : q e) : (v = v' ∧ s = s') ∧ ∃ e, es[i]? = some e ∧ q e := ⟨⟨h1, h2⟩, e, h4, h⟩
/-- Append onto a slice that is written in place. -/
theorem own_app_step {v v' s s' t n m x w : Nat} {q : Prop} (h1 : v = v') (h2 : s = s') (h3 : s = t) (h4 : n ≤ m) (hb : Nat.ble w 65536 = true) (hx : n ≤ 1073741824) (hy : x ≤ 1073741824) (h : q) : ((v = v' ∧ s' = s) ∧ s = t ∧ n ≤ m) ∧ (n + x) * w ≤ 140737488355328 ∧ q :=
  ⟨⟨⟨h1, h2.symm⟩, h3, h4⟩, app_le hx hy hb, h⟩
/-- It is said as data from here on. -/
theorem freeze_step {s s' v v' s2 k n : Nat} {a : Bool} {z : Option Block} {r r' : List (List D)} (h0 : s = s') (h1 : a = false) (h2 : z = none) (h3 : v = v') (h4 : s2 = s) (h5 : k ≤ n) (h6 : r = r') : s = s' ∧ a = false ∧ z = none ∧ (v = v' ∧ s2 = s) ∧ k ≤ n ∧ r = r' := ⟨h0, h1, h2, ⟨h3, h4⟩, h5, h6⟩
theorem mk_step {n m w : Int} {c : Nat} {q : Prop} (h1 : 0 ≤ n) (h2 : n ≤ m) (hb : Nat.ble c 65536 = true) (h3 : m ≤ 1073741824) (h : q) : (0 ≤ n ∧ n ≤ m ∧ m * (c : Int) ≤ 140737488355328) ∧ q := by
  refine ⟨⟨h1, h2, ?_⟩, h⟩
  have hb := Nat.le_of_ble_eq_true hb
  have : m * (c : Int) ≤ 1073741824 * 65536 := Int.mul_le_mul h3 (by omega) (by omega) (by omega)
  omega
theorem set_at {α : Type} {dn : List α} {x y : α} {r : List α} {i : Nat} (h : dn.length = i) : (dn ++ x :: r).set i y = dn ++ y :: r := by
  subst h; simp
theorem get_at {α : Type} {dn : List α} {x : α} {r : List α} {i : Nat} (h : dn.length = i) : (dn ++ x :: r)[i]? = some x := by
  subst h; simp
end Go.Fw
