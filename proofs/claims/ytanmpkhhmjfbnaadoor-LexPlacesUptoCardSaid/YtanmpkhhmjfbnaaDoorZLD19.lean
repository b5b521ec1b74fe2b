/- Package lex in plain words: how the law LexPlaces goes from place to place. -/
import Derived.Test.YtanmpkhhmjfbnaaDoorZLD18
set_option linter.unusedSimpArgs false
set_option linter.unusedVariables false
namespace Go.Fw.Lx
set_option linter.unusedSectionVars false
variable [GlobInt]
structure PlI (src : Str) (l : List Tk) (i k : Nat) : Prop where
  le : i ≤ src.length
  len : k ≤ l.length
  go : lexS (src.drop i) i = .ok (l.drop k)
theorem pl_start {src : Str} {l : List Tk} (h : lexR pStep src 0 = .ok l) : PlI src l 0 0 := ⟨Nat.zero_le _, Nat.zero_le _, by rw [lexR_eq] at h; exact h⟩
theorem inn_a {src : Str} {l r : List Tk} {x : Tk} {i k : Nat} (hI : PlI src l i k) (hx : l.drop k = x :: r) : Inn src (x :: r) x.pos i false := by
  have h := hI.go
  rw [hx] at h
  exact inn_start hI.le h rfl
theorem end_k {l : List Tk} {k : Nat} (h : decide ((k : Int) < ((l.map Tk.cs).length : Int)) = false) : l.drop k = [] := by
  have h := of_decide_eq_false h
  rw [List.length_map] at h
  exact List.drop_eq_nil_of_le (by omega)
theorem inn_b {src : Str} {l : List Tk} {i k : Nat} (hI : PlI src l i k) (h : decide ((k : Int) < ((l.map Tk.cs).length : Int)) = false) : Inn src [] (src.length : Int) i false := by
  have h2 := hI.go
  rw [end_k h] at h2
  exact inn_start hI.le h2 rfl
theorem end_no {l : List Tk} {k : Nat} (h1 : decide ((k : Int) < ((l.map Tk.cs).length : Int)) = false) (h2 : k ≤ l.length) (h : ((k : Int) == ((l.map Tk.cs).length : Int)) = false) : False := by
  have h1 := of_decide_eq_false h1
  rw [List.length_map] at h1 h
  have h : (k : Int) ≠ (l.length : Int) := by simpa using h
  omega
theorem to_no {src : Str} {x : List Tk} {T : Int} {j : Nat} {c : Bool} (hI : Inn src x T j c) (h : (bif decide (T < (j : Int)) then true else decide (T > (src.length : Int))) = true) : False := by
  have h1 := hI.le
  have h2 := hI.hi
  rw [decide_eq_false (by omega : ¬ T < (j : Int)), decide_eq_false (by omega : ¬ T > (src.length : Int))] at h
  cases h
theorem inn_lt {src : Str} {x : List Tk} {T : Int} {j : Nat} {c : Bool} (hI : Inn src x T j c) (h : decide ((j : Int) < T) = true) : j < src.length := by
  have h := of_decide_eq_true h
  have := hI.hi
  omega
theorem inn_lt1 {src : Str} {x : List Tk} {T : Int} {j : Nat} {c b : Bool} (hs : src.length ≤ 1073741824) (hI : Inn src x T j c) (hg : wantB (bif b then decide (IntKind.i64.wrap ((j : Int) + 1) < T) else false) true = true) : j + 1 < src.length := by
  have h1 := hI.le
  have h2 := hI.hi
  rw [wrap1 (a := j) (by omega)] at hg
  cases b with
  | false => cases hg
  | true =>
    have hg : decide (((j + 1 : Nat) : Int) < T) = true := by simpa [wantB] using hg
    have := of_decide_eq_true hg
    omega
theorem inn_lt2 {src : Str} {x : List Tk} {T : Int} {j : Nat} {c b g : Bool} (hs : src.length ≤ 1073741824) (hI : Inn src x T j c) (hg : (g && wantB (bif b then decide (IntKind.i64.wrap ((j : Int) + 1) < T) else false) true) = true) : j + 1 < src.length :=
  inn_lt1 hs hI (Bool.and_eq_true_iff.1 hg).2
theorem cm_eq {src : Str} {T : Int} {j : Nat} {c : Bool} (hj : j ≤ 1073741824) :
    (bif (((src.getD j 0).toNat : Int) != 10) then (bif c then true else (bif (bif (((src.getD j 0).toNat : Int) == 47) then decide (IntKind.i64.wrap ((j : Int) + 1) < T) else false) then (((src.getD (j + 1) 0).toNat : Int) == 47) else false)) else false) = cmB src j T c := by
  rw [wrap1 hj, is47, is47, cmB]
  have e : ((((src.getD j 0).toNat : Int)) != 10) = notNl (src.getD j 0) := rfl
  rw [e]
  have e1 : (src.getD j 0 == 47) = (47 == src.getD j 0) := by rw [Bool.eq_iff_iff]; simp only [beq_iff_eq]; exact eq_comm
  have e2 : (src.getD (j + 1) 0 == 47) = (47 == src.getD (j + 1) 0) := by rw [Bool.eq_iff_iff]; simp only [beq_iff_eq]; exact eq_comm
  rw [e1, e2]
  cases notNl (src.getD j 0) <;> cases c <;> cases (47 == src.getD j 0) <;> cases decide (((j + 1 : Nat) : Int) < T) <;> cases (47 == src.getD (j + 1) 0) <;> rfl
theorem inn_bad {src : Str} {x : List Tk} {T : Int} {j : Nat} {c e : Bool} (hI : Inn src x T j c) (hlt : decide ((j : Int) < T) = true) (he : e = cmB src j T c) (h : (bif !e then !(space (src.getD j 0)) else false) = true) : False := by
  subst he
  have := (inn_next hI (of_decide_eq_true hlt)).2
  cases hc : cmB src j T c with
  | true => rw [hc] at h; cases h
  | false =>
    rw [hc, this hc] at h; cases h
theorem inn_to {src : Str} {x : List Tk} {T : Int} {j : Nat} {c : Bool} (hI : Inn src x T j c) (hlt : decide ((j : Int) < T) = true) : Inn src x T (j + 1) (cmB src j T c) := (inn_next hI (of_decide_eq_true hlt)).1
structure TokF (src : Str) (x : Tk) (r : List Tk) (j : Nat) (c : Bool) : Prop where
  no : c = false
  cut : Fw.cut (some (j : Int)) (some ((j + (word x).length : Nat) : Int)) src = word x
  one : 1 ≤ (word x).length
  le : j + (word x).length ≤ src.length
  go : lexS (src.drop (j + (word x).length)) (j + (word x).length) = .ok r
  ok : valid x = true
theorem tokF {src : Str} {l : List Tk} {x : Tk} {r : List Tk} {j k : Nat} {c : Bool} (e1 : lexR pStep src 0 = .ok l) (hx : l.drop k = x :: r) (hI : Inn src (x :: r) x.pos j c) (hlt : decide ((j : Int) < x.pos) = false) : TokF src x r j c := by
  obtain ⟨h1, h2, h3, h4, h5, h6⟩ := inn_tok hI (of_decide_eq_false hlt) (pos_lt e1 x (drop_mem hx)).2
  exact ⟨h1, h2.symm, h3, h4, h5, h6⟩
theorem tok_wrap {src : Str} {x : Tk} {r : List Tk} {j : Nat} {c : Bool} (hs : src.length ≤ 1073741824) (h : TokF src x r j c) : IntKind.i64.wrap ((j : Int) + ((word x).length : Int)) = ((j + (word x).length : Nat) : Int) := nat_add (by have := h.le; omega)
theorem tok_bad {src : Str} {x : Tk} {r : List Tk} {j : Nat} {c : Bool} (hs : src.length ≤ 1073741824) (h : TokF src x r j c)
    (hb : (bif (bif (bif c then true else (((word x).length : Int) == 0)) then true else decide (IntKind.i64.wrap ((j : Int) + ((word x).length : Int)) > (src.length : Int))) then true else !(Fw.cut (some (j : Int)) (some ((j + (word x).length : Nat) : Int)) src == word x)) = true) : False := by
  have h1 := h.one
  have h2 := h.le
  have e0 : (((word x).length : Int) == 0) = false := by rw [beq_eq_false_iff_ne]; omega
  have e3 : decide ((((j + (word x).length : Nat) : Nat) : Int) > (src.length : Int)) = false := decide_eq_false (by omega)
  rw [h.no, e0, tok_wrap hs h, e3, h.cut, beq_self_eq_true] at hb
  cases hb
theorem pl_next {src : Str} {l : List Tk} {x : Tk} {r : List Tk} {i k j : Nat} {c : Bool} (hI : PlI src l i k) (hx : l.drop k = x :: r) (h : TokF src x r j c) : PlI src l (j + (word x).length) (k + 1) := by
  have := drop_lt hx
  exact ⟨h.le, this, by rw [drop_next hx]; exact h.go⟩
theorem idx_tk {b0 : Bool} {a b k : Nat} {l : List Tk} {q : List D → Prop} (h1 : b0 = true) (h2 : a = b) (h3 : decide ((k : Int) < ((l.map Tk.cs).length : Int)) = true) (h : ∀ x r, l.drop k = x :: r → q (Tk.cs x)) :
    (b0 = true ∧ a = b) ∧ ∃ c, (0 ≤ (k : Int) ∧ (l.map Tk.cs)[(k : Int).toNat]? = some c) ∧ q c := by
  have h3 := of_decide_eq_true h3
  rw [List.length_map] at h3
  have h4 : k < l.length := by omega
  have hx := List.drop_eq_getElem_cons h4
  exact ⟨⟨h1, h2⟩, _, idx_drop hx, h _ _ hx⟩
/-! The digits of a number, from the last one on. -/
structure SpD (N n : Nat) (s : Str) : Prop where
  eq : Lib.decDigits N = Lib.decDigits n ++ s
  le : n ≤ N
theorem spD_start (N : Nat) : SpD N N [] := ⟨(List.append_nil _).symm, Nat.le_refl _⟩
theorem spD_mu {n : Nat} (h : decide ((n : Int) < 10) = false) : n / 10 < n := by
  have := of_decide_eq_false h; omega
theorem spD_app {s b : Str} (h : s.length ≤ 20) (hb : b.length = 1) : ((b.length + s.length : Nat) : Int) ≤ IntKind.i64.max := by
  show (((_ : Nat) + _ : Nat) : Int) ≤ 9223372036854775807
  omega
theorem spD_len {N n : Nat} {s : Str} (hN : N ≤ 1099511627776) (h : SpD N n s) : s.length ≤ 20 := by
  have := dec_short 19 N (by show N < 100000000000000000000; omega)
  rw [h.eq, List.length_append] at this
  have h1 := List.length_pos_iff.2 (dec_dig n).2.2
  omega
theorem spD_next {N n : Nat} {s : Str} (h : SpD N n s) (hn : decide ((n : Int) < 10) = false) : SpD N (n / 10) ([digI (n : Int)] ++ s) := by
  have hn := of_decide_eq_false hn
  have e : Lib.decDigits n = Lib.decDigits (n / 10) ++ [digI (n : Int)] := by
    rw [digits_eq n, ahead, if_neg (by omega)]
  exact ⟨by rw [h.eq, e, List.append_assoc], by have := h.le; omega⟩
theorem spD_end {N n : Nat} {s : Str} (h : SpD N n s) (hn : decide ((n : Int) < 10) = true) : D.str ([digI (n : Int)] ++ s) = D.str (Lib.decDigits N) := by
  have hn := of_decide_eq_true hn
  have e : Lib.decDigits n = [digI (n : Int)] := by
    rw [digits_eq n, ahead, if_pos (by omega)]; rfl
  rw [h.eq, e]
end Go.Fw.Lx
