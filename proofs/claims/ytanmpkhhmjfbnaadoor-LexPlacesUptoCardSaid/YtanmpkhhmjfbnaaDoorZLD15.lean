/- Package lex in plain words: places lie in the source; two sources with a line feed between them. -/
import Derived.Test.YtanmpkhhmjfbnaaDoorZLM
set_option linter.unusedSimpArgs false
set_option linter.unusedVariables false
namespace Go.Fw.Lx
set_option linter.unusedSectionVars false
variable [GlobInt]
theorem ok_ne {x : List Tk} {e : Nat} (h : (Except.ok x : Except Nat (List Tk)) = .error e) : False := by cases h
theorem lex_places : ∀ (n : Nat) (s : Str) (a : Nat), s.length ≤ n → (∀ e, lexS s a = .error e → a ≤ e ∧ e < a + s.length) ∧ ∀ x, lexS s a = .ok x → ∀ t ∈ x, (a : Int) ≤ t.pos ∧ t.pos < (a : Int) + s.length
  | _, [], a, _ => by
    constructor
    · intro e h
      have h : (Except.ok [] : Except Nat (List Tk)) = Except.error e := h
      cases h
    · intro x h t ht
      have h : (Except.ok [] : Except Nat (List Tk)) = Except.ok x := h
      cases h; simp at ht
  | 0, c :: r, a, h => by simp at h
  | n + 1, c :: r, a, h => by
    have hs : c :: r ≠ [] := by simp
    cases hk : pS (c :: r) with
    | skip k =>
      have h1 := (pos_S c r).1 k hk
      have h2 := skip_len hs hk
      rw [lexS_skip hs hk]
      obtain ⟨i1, i2⟩ := lex_places n ((c :: r).drop k) (a + k) (by simp only [List.length_drop, List.length_cons] at h ⊢; omega)
      rw [List.length_drop] at i1 i2
      exact ⟨fun e he => by have := i1 e he; omega, fun x hx t ht => by have := i2 x hx t ht; omega⟩
    | tok k t =>
      have h1 := (pos_S c r).2 k t hk
      have h2 := (tok_S hk).2.2.2
      rw [lexS_tok hs hk]
      obtain ⟨i1, i2⟩ := lex_places n ((c :: r).drop k) (a + k) (by simp only [List.length_drop, List.length_cons] at h ⊢; omega)
      rw [List.length_drop] at i1 i2
      cases hy : lexS ((c :: r).drop k) (a + k) with
      | error e =>
        have := i1 e hy
        refine ⟨fun e' he => ?_, fun x hx => (ok_ne hx.symm).elim⟩
        have he : (Except.error e : Except Nat (List Tk)) = .error e' := he
        cases he; omega
      | ok y =>
        have := i2 y hy
        refine ⟨fun e' he => (ok_ne he).elim, fun x hx u hu => ?_⟩
        have hx : (Except.ok (at' t a :: y) : Except Nat (List Tk)) = .ok x := hx
        cases hx
        rcases List.mem_cons.1 hu with rfl | hu
        · show (a : Int) ≤ (a : Int) ∧ (a : Int) < _
          simp only [List.length_cons]; omega
        · have := this u hu; omega
    | bad =>
      rw [lexS_bad hs hk]
      refine ⟨fun e' he => ?_, fun x hx => by cases hx⟩
      cases he
      simp only [List.length_cons]; omega
theorem err_lt {s : Str} {e : Nat} (h : lexR pStep s 0 = .error e) : e < s.length := by
  rw [lexR_eq] at h
  have := (lex_places _ s 0 (Nat.le_refl _)).1 e h
  omega
theorem pos_lt {s : Str} {x : List Tk} (h : lexR pStep s 0 = .ok x) : ∀ t ∈ x, 0 ≤ t.pos ∧ t.pos < s.length := fun t ht => by
  rw [lexR_eq] at h
  have := (lex_places _ s 0 (Nat.le_refl _)).2 x h t ht
  omega
def moved (k : Nat) (t : Tk) : Tk := { t with pos := t.pos + (k : Nat) }
theorem app10 (a b : Str) : a ++ [10] ++ b = a ++ 10 :: b := by simp
theorem joined_e1 {a b : Str} {i : Nat} (h : lexR pStep a 0 = .error i) : lexR pStep (a ++ [10] ++ b) 0 = .error i := by
  rw [lexR_eq] at h ⊢
  rw [app10, lex_joined b _ a 0 (Nat.le_refl _), h]; rfl
theorem joined_e2 {a b : Str} {x : List Tk} {k : Nat} (h : lexR pStep a 0 = .ok x) (h2 : lexR pStep b 0 = .error k) : lexR pStep (a ++ [10] ++ b) 0 = .error (k + (a.length + 1)) := by
  rw [lexR_eq] at h h2 ⊢
  rw [app10, lex_joined b _ a 0 (Nat.le_refl _), h, Nat.zero_add, lexS_at, h2]; rfl
theorem joined_ok {a b : Str} {x y : List Tk} (h : lexR pStep a 0 = .ok x) (h2 : lexR pStep b 0 = .ok y) : lexR pStep (a ++ [10] ++ b) 0 = .ok (x ++ y.map (moved (a.length + 1))) := by
  rw [lexR_eq] at h h2 ⊢
  rw [app10, lex_joined b _ a 0 (Nat.le_refl _), h, Nat.zero_add, lexS_at, h2]; rfl
theorem far_eq {a b : Str} {k : Nat} (ha : a.length ≤ 1048576) (hb : b.length ≤ 1048576) (hk : k < b.length) : (((k + (a.length + 1) : Nat) : Int) == IntKind.i64.wrap (IntKind.i64.wrap ((k : Int) + (a.length : Int)) + 1)) = true := by
  rw [wrap_ok (n := (k : Int) + (a.length : Int)) (by omega) (by omega), wrap_ok (by omega) (by omega)]
  simp only [beq_iff_eq]; omega
theorem fin_ts {ts l : List Tk} {f : Tk → Tk} (h : ts ++ ([] : List Tk).map f = l) : ts = l := by simpa using h
theorem moved_cs {ts : List Tk} {x : Tk} {a b : Str} (hp : 0 ≤ x.pos ∧ x.pos < b.length) (ha : a.length ≤ 1048576) (hb : b.length ≤ 1048576) : List.map Tk.cs ts ++ [[D.i x.kind, D.str x.text, D.i x.n, D.val (Value.int IntKind.i64 (IntKind.i64.wrap (x.pos + IntKind.i64.wrap ((a.length : Int) + 1))))]] = List.map Tk.cs (ts ++ [moved (a.length + 1) x]) := by
  rw [wrap_ok (n := (a.length : Int) + 1) (by omega) (by omega), wrap_ok (by omega) (by omega), List.map_append]
  rfl
end Go.Fw.Lx
