/- Package lex in plain words: words stand at their places. -/
import Derived.Test.YtanmpkhhmjfbnaaDoorZLD17
set_option linter.unusedSimpArgs false
set_option linter.unusedVariables false
namespace Go.Fw.Lx
set_option linter.unusedSectionVars false
variable [GlobInt]
/-- The place of the first token, or the end. -/
def Fst : List Tk → Nat → Int → Prop
  | [], n, T => T = n
  | t :: _, _, T => T = t.pos
abbrev qAt (src : Str) (j : Nat) : Nat := j + ((src.drop j).takeWhile notNl).length
/-- What holds between two tokens. -/
structure Inn (src : Str) (x : List Tk) (T : Int) (j : Nat) (cm : Bool) : Prop where
  le : (j : Int) ≤ T
  hi : T ≤ (src.length : Int)
  fs : Fst x src.length T
  no : cm = false → lexS (src.drop j) j = .ok x
  yes : cm = true → (qAt src j : Int) ≤ T ∧ lexS (src.drop (qAt src j)) (qAt src j) = .ok x
theorem fst_le {src : Str} {x : List Tk} {T : Int} {j : Nat} (hj : j ≤ src.length) (h : lexS (src.drop j) j = .ok x) (hf : Fst x src.length T) : (j : Int) ≤ T ∧ T ≤ (src.length : Int) := by
  cases x with
  | nil => have hf : T = (src.length : Int) := hf; omega
  | cons t r =>
    have hf : T = t.pos := hf
    have := (lex_places _ (src.drop j) j (Nat.le_refl _)).2 _ h t (by simp)
    rw [List.length_drop] at this
    omega
theorem inn_start {src : Str} {x : List Tk} {T : Int} {j : Nat} (hj : j ≤ src.length) (h : lexS (src.drop j) j = .ok x) (hf : Fst x src.length T) : Inn src x T j false := by
  have := fst_le hj h hf
  exact ⟨this.1, this.2, hf, fun _ => h, (fun h => Bool.noConfusion h)⟩
/-- What is at a place that is ahead of the first token. -/
theorem ahead_at {src : Str} {x : List Tk} {T : Int} {j : Nat} (hj : j < src.length) (h : lexS (src.drop j) j = .ok x) (hf : Fst x src.length T) (hlt : (j : Int) < T) :
    (cls (src.getD j 0) = 1 ∧ lexS (src.drop (j + 1)) (j + 1) = .ok x) ∨
    (src.getD j 0 = 47 ∧ src.getD (j + 1) 0 = 47 ∧ j + 2 ≤ qAt src j ∧ qAt src j ≤ src.length ∧ lexS (src.drop (qAt src j)) (qAt src j) = .ok x) := by
  have hd := drop_cons hj
  have hs : src.drop j ≠ [] := by rw [hd]; simp
  have e0 : (src.drop j).getD 0 0 = src.getD j 0 := by rw [hd]; rfl
  cases hk : pS (src.drop j) with
  | bad => rw [lexS_bad hs hk] at h; cases h
  | tok k t =>
    exfalso
    rw [lexS_tok hs hk] at h
    cases hy : lexS ((src.drop j).drop k) (j + k) with
    | error e => rw [hy] at h; cases h
    | ok y =>
      rw [hy] at h
      have h : at' t j :: y = x := by simpa [consE] using h
      subst h
      have hf : T = ((j : Nat) : Int) := hf
      omega
  | skip k =>
    rw [lexS_skip hs hk, List.drop_drop] at h
    rcases skip_S hs hk with ⟨rfl, h2⟩ | ⟨hp, rfl, _⟩
    · rw [e0] at h2
      exact .inl ⟨h2, h⟩
    · have h2 := (hp_skip hp).2
      have hl := cmt_le (src.drop j)
      obtain ⟨r, hr⟩ := hp_two hp
      rw [cmt_tw] at h h2 hl
      rw [List.length_drop] at hl
      have h1 : src.getD j 0 = 47 := by rw [← e0, hr]; rfl
      refine .inr ⟨h1, ?_, by show j + 2 ≤ j + _; omega, by show j + _ ≤ _; omega, h⟩
      have hj2 : j + 1 < src.length := by omega
      have : (src.drop j).getD 1 0 = src.getD (j + 1) 0 := by rw [hd, drop_cons hj2]; rfl
      rw [← this, hr]; rfl
theorem nl_of {c : UInt8} (h : notNl c = false) : c = 10 := by
  have : (c.toNat : Int) = 10 := by simpa [notNl] using h
  exact UInt8.toNat_inj.1 (by show c.toNat = 10; omega)
theorem q_yes {src : Str} {j : Nat} (hj : j < src.length) (h : notNl (src.getD j 0) = true) : qAt src (j + 1) = qAt src j := by
  show j + 1 + _ = j + _
  rw [tw_yes hj h, List.length_cons]; omega
theorem q_no {src : Str} {j : Nat} (hj : j < src.length) (h : notNl (src.getD j 0) = false) : qAt src j = j := by
  show j + _ = j
  rw [tw_no hj h]; rfl
/-- How the code sees that a comment begins or goes on. -/
def cmB (src : Str) (j : Nat) (T : Int) (cm : Bool) : Bool :=
  notNl (src.getD j 0) && (cm || (src.getD j 0 == 47 && decide (((j + 1 : Nat) : Int) < T) && src.getD (j + 1) 0 == 47))
theorem inn_next {src : Str} {x : List Tk} {T : Int} {j : Nat} {cm : Bool} (hI : Inn src x T j cm) (hlt : (j : Int) < T) :
    Inn src x T (j + 1) (cmB src j T cm) ∧ (cmB src j T cm = false → space (src.getD j 0) = true) := by
  obtain ⟨h1, h2, h3, h4, h5⟩ := hI
  have hj : j < src.length := by omega
  have hle : ((j + 1 : Nat) : Int) ≤ T := by omega
  cases cm with
  | true =>
    obtain ⟨h6, h7⟩ := h5 rfl
    cases hn : notNl (src.getD j 0) with
    | true =>
      have e : cmB src j T true = true := by simp only [cmB, hn, Bool.true_or, Bool.and_true]
      rw [e]
      refine ⟨⟨hle, h2, h3, (fun h => Bool.noConfusion h), fun _ => ?_⟩, (fun h => Bool.noConfusion h)⟩
      rw [q_yes hj hn]; exact ⟨h6, h7⟩
    | false =>
      have e : cmB src j T true = false := by simp only [cmB, hn, Bool.false_and]
      have hc := nl_of hn
      rw [e]
      rw [q_no hj hn, drop_cons hj, hc, skip_sp cls10] at h7
      refine ⟨⟨hle, h2, h3, fun _ => h7, (fun h => Bool.noConfusion h)⟩, fun _ => ?_⟩
      rw [hc]; rfl
  | false =>
    rcases ahead_at hj (h4 rfl) h3 hlt with ⟨hc, h7⟩ | ⟨hc, hc2, hq, hq2, h7⟩
    · have hne : (src.getD j 0 == 47) = false := by
        have := cls_ne47 hc
        simpa using this
      have e : cmB src j T false = false := by simp only [cmB, hne, Bool.false_and, Bool.or_false, Bool.and_false]
      rw [e]
      refine ⟨⟨hle, h2, h3, fun _ => h7, (fun h => Bool.noConfusion h)⟩, fun _ => ?_⟩
      rw [cls_space, hc]; rfl
    · have hqT := (fst_le hq2 h7 h3).1
      have hlt2 : decide (((j + 1 : Nat) : Int) < T) = true := decide_eq_true (by omega)
      have hn : notNl (src.getD j 0) = true := by rw [hc]; rfl
      have e : cmB src j T false = true := by rw [cmB, hn, hlt2, hc, hc2]; rfl
      rw [e]
      refine ⟨⟨hle, h2, h3, (fun h => Bool.noConfusion h), fun _ => ?_⟩, (fun h => Bool.noConfusion h)⟩
      rw [q_yes hj hn]; exact ⟨hqT, h7⟩
/-- At the place of a token. -/
theorem inn_tok {src : Str} {t : Tk} {r : List Tk} {j : Nat} {cm : Bool} (hI : Inn src (t :: r) t.pos j cm) (hlt : ¬ (j : Int) < t.pos) (hp : t.pos < (src.length : Int)) :
    cm = false ∧ word t = (src.take (j + (word t).length)).drop j ∧ 1 ≤ (word t).length ∧ j + (word t).length ≤ src.length ∧ lexS (src.drop (j + (word t).length)) (j + (word t).length) = .ok r ∧ valid t = true := by
  obtain ⟨h1, h2, h3, h4, h5⟩ := hI
  have hj : j < src.length := by omega
  have key : lexS (src.drop j) j = .ok (t :: r) → word t = (src.take (j + (word t).length)).drop j ∧ 1 ≤ (word t).length ∧ j + (word t).length ≤ src.length ∧ lexS (src.drop (j + (word t).length)) (j + (word t).length) = .ok r ∧ valid t = true := by
    intro h
    have hs : src.drop j ≠ [] := by rw [drop_cons hj]; simp
    cases hk : pS (src.drop j) with
    | bad => rw [lexS_bad hs hk] at h; cases h
    | skip k =>
      exfalso
      have hk1 := (pS_pos hs).1 k hk
      rw [lexS_skip hs hk] at h
      have := (lex_places _ ((src.drop j).drop k) (j + k) (Nat.le_refl _)).2 _ h t (by simp)
      omega
    | tok k u =>
      have hk1 := (pS_pos hs).2 k u hk
      obtain ⟨hv, hw, _, hkl⟩ := tok_S hk
      rw [lexS_tok hs hk, List.drop_drop] at h
      cases hy : lexS (src.drop (j + k)) (j + k) with
      | error e => rw [hy] at h; cases h
      | ok y =>
        rw [hy] at h
        have h : at' u j = t ∧ y = r := by simpa [consE] using h
        obtain ⟨rfl, rfl⟩ := h
        have hw' : word (at' u j) = (src.drop j).take k := hw
        have hl : (word (at' u j)).length = k := by rw [hw', List.length_take]; omega
        rw [hl]
        rw [List.length_drop] at hkl
        refine ⟨?_, hk1, by omega, hy, hv⟩
        rw [hw', List.drop_take, Nat.add_sub_cancel_left]
  cases cm with
  | false => exact ⟨rfl, key (h4 rfl)⟩
  | true =>
    exfalso
    obtain ⟨h6, h7⟩ := h5 rfl
    have hq : qAt src j = j := by
      have : j ≤ qAt src j := Nat.le_add_right _ _
      omega
    have hn : notNl (src.getD j 0) = false := by
      cases hn : notNl (src.getD j 0) with
      | false => rfl
      | true =>
        have := q_yes hj hn
        have : j + 1 ≤ qAt src (j + 1) := Nat.le_add_right _ _
        omega
    rw [hq, drop_cons hj, nl_of hn, skip_sp cls10] at h7
    have := (lex_places _ (src.drop (j + 1)) (j + 1) (Nat.le_refl _)).2 _ h7 t (by simp)
    omega
end Go.Fw.Lx
