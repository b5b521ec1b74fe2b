/- Package lex: how long a text of tokens is. -/
import Derived.Test.YtanmpkhhmjfbnaaDoorZLA
set_option linter.unusedSimpArgs false
set_option linter.unusedVariables false
namespace Go.Fw.Lx
set_option linter.unusedSectionVars false
variable [GlobInt]
/-- The number of a token is one of the machine's. -/
def InI (t : Tk) : Prop := -9223372036854775808 ≤ t.n ∧ t.n ≤ 9223372036854775807
theorem dec_short : ∀ (k n : Nat), n < 10 ^ (k + 1) → (Lib.decDigits n).length ≤ k + 1
  | 0, n, h => by
    rw [Lib.decDigits, dif_pos (by omega)]; simp
  | k + 1, n, h => by
    rw [Lib.decDigits]
    split
    · simp
    · have := dec_short k (n / 10) (by rw [Nat.pow_succ] at h; omega)
      rw [List.length_append, List.length_cons, List.length_nil]; omega
theorem itoa_short {n : Int} (h0 : -9223372036854775808 ≤ n) (h1 : n ≤ 9223372036854775807) : (Lib.itoa n).length ≤ 21 := by
  rw [Lib.itoa]
  split
  · have := dec_short 19 n.natAbs (by show n.natAbs < 100000000000000000000; omega)
    simp only [List.length_cons]; omega
  · have := dec_short 19 n.toNat (by show n.toNat < 100000000000000000000; omega)
    omega
theorem word_short {t : Tk} (h : InI t) : (word t).length ≤ t.text.length + 21 := by
  rw [word]
  split
  · have := itoa_short h.1 h.2; omega
  · omega
theorem join_short : ∀ {l : List Tk}, (∀ t ∈ l, InI t) → (Lib.join (l.map word) [32]).length ≤ lens l + 22 * l.length
  | [], _ => by simp [Lib.join_nil]
  | [x], h => by
    have := word_short (h x (by simp))
    simp only [List.map_cons, List.map_nil, Lib.join_one, lens, List.sum_cons, List.sum_nil, List.length_cons, List.length_nil]; omega
  | x :: y :: r, h => by
    have h1 := word_short (h x (by simp))
    have h2 := join_short (l := y :: r) (fun t ht => h t (List.mem_cons_of_mem _ ht))
    have e : Lib.join ((x :: y :: r).map word) [32] = word x ++ ([32] ++ Lib.join ((y :: r).map word) [32]) := by
      simp only [List.map_cons, Lib.join_cons, Lib.joinTail, List.map_cons, List.flatten_cons, List.append_assoc]
    rw [e]
    simp only [lens, List.map_cons, List.sum_cons, List.length_append, List.length_cons, List.length_nil] at h2 ⊢
    omega
/-- What is asked of tokens that are read. -/
structure Rd (l : List Tk) : Prop where
  len : l.length ≤ 1048576
  lens : lens l ≤ 1048576
  ini : ∀ t ∈ l, InI t
theorem Rd.join {l : List Tk} (h : Rd l) : (Lib.join (l.map word) [32]).length ≤ 140737488355328 := by
  have := join_short h.ini
  have := h.len
  have := h.lens
  omega
theorem textR_eq (l : List Tk) : textR l = textM l := by
  rw [textR, textM, show validR = valid from funext valid_eq]
end Go.Fw.Lx
