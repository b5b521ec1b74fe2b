/- The bridge of the seat of the machine: the arguments. -/
import Derived.Test.YtcfpghieofhfkaaRows
import Derived.Test.YtcfpghieofhfkaaZK7
import Derived.Test.YtcfpghieofhfkaaZK6
import Derived.Test.YtcfpghieofhfkaaZMA
set_option linter.unusedSimpArgs false
set_option linter.unusedVariables false
namespace Go.Proofs.Ytcfpghieofhfkaa
open Go.Fw Go.Fw.Mac
set_option linter.unusedSectionVars false
set_option maxRecDepth 100000
theorem glob_ok {W : World} : ∃ I : GlobInt, @GlobW I W := ⟨⟨fun _ => 0⟩, @GlobW.mk ⟨fun _ => 0⟩ W (fun g cs h => by simp [gcells] at h)⟩
section
variable [GlobInt]
theorem list_of {T : Tbl} {α : Type} {f : α → List D} {w : α → Nat} {Q : α → Prop} {n : Nat} {e : TypeId} (h : ∀ m x, typed T n e m x → ∃ y, x = f y ∧ w y ≤ m ∧ Q y) : ∀ (es : List (List D)) (m : Nat), typedEs (typed T n e) es m → ∃ ys : List α, es = ys.map f ∧ (ys.map w).sum ≤ m ∧ ys.length ≤ m ∧ ∀ y ∈ ys, Q y
  | [], _, _ => ⟨[], rfl, by simp, by simp, by simp⟩
  | x :: r, m, hm => by
    obtain ⟨m1, m2, h1, h2, h3⟩ := hm
    obtain ⟨y, rfl, hw, hq⟩ := h m1 x h2
    obtain ⟨ys, rfl, hs, hl, hqs⟩ := list_of h r m2 h3
    have := typed_pos h2
    refine ⟨y :: ys, rfl, by simp only [List.map_cons, List.sum_cons]; omega, by simp only [List.length_cons]; omega, fun z hz => ?_⟩
    rcases List.mem_cons.1 hz with rfl | hz
    · exact hq
    · exact hqs z hz
theorem sl_of {T : Tbl} {α : Type} {f : α → List D} {w : α → Nat} {Q : α → Prop} {n m : Nat} {t e : TypeId} {ds : List D} (ht : (T.at t).ty = .slice e) (hm : typed T n t m ds) (h : ∀ k, k < n → ∀ m x, typed T k e m x → ∃ y, x = f y ∧ w y ≤ m ∧ Q y) :
    ∃ ys : List α, ds = [.sl (T.at e).size (ys.map f)] ∧ (ys.map w).sum + 1 ≤ m ∧ ys.length + 1 ≤ m ∧ ∀ y ∈ ys, Q y := by
  cases n with
  | zero => exact hm.elim
  | succ n =>
    simp only [typed, ht] at hm
    obtain ⟨m', es, h1, rfl, h2⟩ := hm
    obtain ⟨ys, rfl, hs, hl, hq⟩ := list_of (h n (Nat.lt_succ_self n)) es m' h2
    exact ⟨ys, rfl, by omega, by omega, hq⟩
theorem int_of {T : Tbl} {n m : Nat} {t : TypeId} {k : IntKind} {ds : List D} (ht : (T.at t).ty = .int k) (hm : typed T n t m ds) : ∃ v : Int, ds = [.val (.int k v)] ∧ k.min ≤ v ∧ v ≤ k.max := by
  cases n with
  | zero => exact hm.elim
  | succ n =>
    simp only [typed, ht] at hm
    obtain ⟨_, v, rfl, h⟩ := hm
    exact ⟨v, rfl, h⟩
theorem str_of {T : Tbl} {n m : Nat} {t : TypeId} {ds : List D} (ht : (T.at t).ty = .str) (hm : typed T n t m ds) : ∃ s : List UInt8, ds = [.str s] ∧ s.length + 1 ≤ m := by
  cases n with
  | zero => exact hm.elim
  | succ n =>
    simp only [typed, ht] at hm
    exact hm
theorem fields_of {T : Tbl} {n m : Nat} {t : TypeId} {fs : List (Nat × TypeId)} {ds : List D} (ht : (T.at t).ty = .struct fs) (hm : typed T n t m ds) : ∃ k m', n = k + 1 ∧ m' + 1 ≤ m ∧ typedFs (typed T k) fs m' ds := by
  cases n with
  | zero => exact hm.elim
  | succ n =>
    simp only [typed, ht] at hm
    obtain ⟨m', h1, h2⟩ := hm
    exact ⟨n, m', rfl, h1, h2⟩
theorem fs_cons {p : TypeId → Nat → List D → Prop} {o : Nat} {t : TypeId} {r : List (Nat × TypeId)} {m : Nat} {ds : List D} (h : typedFs p ((o, t) :: r) m ds) : ∃ m1 m2 d1 d2, m1 + m2 ≤ m ∧ ds = d1 ++ d2 ∧ p t m1 d1 ∧ typedFs p r m2 d2 := h
theorem sum_le {α : Type} {w : α → Nat} : ∀ {l : List α} {x : α}, x ∈ l → w x ≤ (l.map w).sum
  | y :: r, x, h => by
    rcases List.mem_cons.1 h with rfl | h
    · simp
    · have := @sum_le α w r x h; simp only [List.map_cons, List.sum_cons]; omega
theorem vals_of {n m : Nat} {ds : List D} (h : typed Try.T n 28 m ds) : ∃ l : List Int, ds = [ints l] ∧ l.length + 1 ≤ m := by
  obtain ⟨ys, h1, _, h2, _⟩ := sl_of (f := intC) (w := fun _ => 0) (Q := fun _ => True) (e := 3) rfl h (fun k _ m x hx => by
    obtain ⟨v, rfl, _⟩ := int_of (k := .i64) rfl hx
    exact ⟨v, rfl, Nat.zero_le _, trivial⟩)
  exact ⟨ys, h1, h2⟩
theorem lists_of {n m : Nat} {ds : List D} (h : typed Try.T n 24 m ds) : ∃ l : List (List Int), ds = [.sl 1 (l.map lnC)] ∧ l.length + 1 ≤ m ∧ ∀ t ∈ l, t.length ≤ m := by
  obtain ⟨ys, h1, h3, h2, _⟩ := sl_of (f := lnC) (w := fun t => t.length) (Q := fun _ => True) (e := 28) rfl h (fun k _ m x hx => by
    obtain ⟨v, rfl, hv⟩ := vals_of hx
    exact ⟨v, rfl, by omega, trivial⟩)
  exact ⟨ys, h1, h2, fun t ht => by have := sum_le (w := fun t : List Int => t.length) ht; omega⟩
theorem bd_of {n m : Nat} {ds : List D} (h : typed Try.T n 54 m ds) : ∃ b : Bd, ds = b.cs ∧ 0 ≤ m ∧ True := by
  obtain ⟨k, m', _, _, g0⟩ := fields_of (fs := [(0, 9), (1, 3), (2, 3)]) rfl h
  obtain ⟨_, _, _, _, _, e1, h1, g1⟩ := fs_cons g0
  obtain ⟨_, _, _, _, _, e2, h2, g2⟩ := fs_cons g1
  obtain ⟨_, _, _, _, _, e3, h3, g3⟩ := fs_cons g2
  obtain ⟨s, rfl, _⟩ := str_of rfl h1
  obtain ⟨a, rfl, _⟩ := int_of (k := .i64) rfl h2
  obtain ⟨b, rfl, _⟩ := int_of (k := .i64) rfl h3
  have g : _ = [] := g3
  subst g
  subst e3
  subst e2
  subst e1
  exact ⟨⟨s, a, b⟩, rfl, Nat.zero_le _, trivial⟩
theorem ln_of {n m : Nat} {ds : List D} (h : typed Try.T n 56 m ds) : ∃ b : Ln, ds = b.cs ∧ 0 ≤ m ∧ True := by
  obtain ⟨k, m', _, _, g0⟩ := fields_of (fs := [(0, 9), (1, 3), (2, 3), (3, 3)]) rfl h
  obtain ⟨_, _, _, _, _, e1, h1, g1⟩ := fs_cons g0
  obtain ⟨_, _, _, _, _, e2, h2, g2⟩ := fs_cons g1
  obtain ⟨_, _, _, _, _, e3, h3, g3⟩ := fs_cons g2
  obtain ⟨_, _, _, _, _, e4, h4, g4⟩ := fs_cons g3
  obtain ⟨s, rfl, _⟩ := str_of rfl h1
  obtain ⟨a, rfl, _⟩ := int_of (k := .i64) rfl h2
  obtain ⟨b, rfl, _⟩ := int_of (k := .i64) rfl h3
  obtain ⟨c, rfl, _⟩ := int_of (k := .i64) rfl h4
  have g : _ = [] := g4
  subst g
  subst e4
  subst e3
  subst e2
  subst e1
  exact ⟨⟨s, a, b, c⟩, rfl, Nat.zero_le _, trivial⟩
theorem ins_of {n m : Nat} {ds : List D} (h : typed Try.T n 50 m ds) : ∃ x : Int × Int, ds = insC x ∧ 0 ≤ m ∧ True := by
  obtain ⟨k, m', _, _, g0⟩ := fields_of (fs := [(0, 3), (1, 3)]) rfl h
  obtain ⟨_, _, _, _, _, e1, h1, g1⟩ := fs_cons g0
  obtain ⟨_, _, _, _, _, e2, h2, g2⟩ := fs_cons g1
  obtain ⟨a, rfl, _⟩ := int_of (k := .i64) rfl h1
  obtain ⟨b, rfl, _⟩ := int_of (k := .i64) rfl h2
  have g : _ = [] := g2
  subst g
  subst e2
  subst e1
  exact ⟨(a, b), rfl, Nat.zero_le _, trivial⟩
theorem code_of {n m : Nat} {ds : List D} (h : typed Try.T n 27 m ds) (hm : m ≤ 1048576) : ∃ c : Cd, ds = c.cs ∧ c.Sm := by
  obtain ⟨k, m', _, _, g0⟩ := fields_of (fs := [(0, 3), (1, 3), (2, 22), (3, 22), (4, 23), (5, 24), (6, 3), (7, 25)]) rfl h
  obtain ⟨_, _, _, _, _, e1, h1, g1⟩ := fs_cons g0
  obtain ⟨_, _, _, _, _, e2, h2, g2⟩ := fs_cons g1
  obtain ⟨_, _, _, _, _, e3, h3, g3⟩ := fs_cons g2
  obtain ⟨_, _, _, _, _, e4, h4, g4⟩ := fs_cons g3
  obtain ⟨_, _, _, _, _, e5, h5, g5⟩ := fs_cons g4
  obtain ⟨_, _, _, _, _, e6, h6, g6⟩ := fs_cons g5
  obtain ⟨_, _, _, _, _, e7, h7, g7⟩ := fs_cons g6
  obtain ⟨_, _, _, _, _, e8, h8, g8⟩ := fs_cons g7
  obtain ⟨a, rfl, _⟩ := int_of (k := .i64) rfl h1
  obtain ⟨b, rfl, _⟩ := int_of (k := .i64) rfl h2
  obtain ⟨l3, rfl, _, q3, _⟩ := sl_of (f := Bd.cs) (w := fun _ => 0) (Q := fun _ => True) (e := 54) rfl h3 (fun j hj m x hx => bd_of hx)
  obtain ⟨l4, rfl, _, q4, _⟩ := sl_of (f := Bd.cs) (w := fun _ => 0) (Q := fun _ => True) (e := 54) rfl h4 (fun j hj m x hx => bd_of hx)
  obtain ⟨l5, rfl, _, q5, _⟩ := sl_of (f := Ln.cs) (w := fun _ => 0) (Q := fun _ => True) (e := 56) rfl h5 (fun j hj m x hx => ln_of hx)
  obtain ⟨l6, rfl, q6, r6⟩ := lists_of h6
  obtain ⟨d, rfl, _⟩ := int_of (k := .i64) rfl h7
  obtain ⟨l8, rfl, _, q8, _⟩ := sl_of (f := insC) (w := fun _ => 0) (Q := fun _ => True) (e := 50) rfl h8 (fun j hj m x hx => ins_of hx)
  have g : _ = [] := g8
  subst g
  subst e8
  subst e7
  subst e6
  subst e5
  subst e4
  subst e3
  subst e2
  subst e1
  exact ⟨⟨a, b, l3, l4, l5, l6, d, l8⟩, rfl, by simp only; omega, by simp only; omega, by simp only; omega, by simp only; omega, by simp only; omega, fun t ht => by have := r6 t ht; omega⟩
theorem state_of {n m : Nat} {ds : List D} (h : typed Try.T n 30 m ds) (hm : m ≤ 1048576) : ∃ s : Sta, ds = s.cs ∧ s.Sm := by
  obtain ⟨k, m', _, _, g0⟩ := fields_of (fs := [(0, 28), (1, 24)]) rfl h
  obtain ⟨_, _, _, _, _, e1, h1, g1⟩ := fs_cons g0
  obtain ⟨_, _, _, _, _, e2, h2, g2⟩ := fs_cons g1
  obtain ⟨a, rfl, qa⟩ := vals_of h1
  obtain ⟨b, rfl, qb, rb⟩ := lists_of h2
  have g : _ = [] := g2
  subst g
  subst e2
  subst e1
  exact ⟨⟨a, b⟩, rfl, by simp only; omega, by simp only; omega, fun t ht => by have := rb t ht; omega⟩
end
theorem bulk_app {H : Type} (l r : List (DataW H)) : Rows.uptoBulkAll (l ++ r) = Rows.uptoBulkAll l + Rows.uptoBulkAll r := by
  induction l with
  | nil => simp [Rows.uptoBulkAll]
  | cons x l ih => simp only [List.cons_append, Rows.uptoBulkAll, ih]; omega
theorem bulk_le {H : Type} {ds gs : List (DataW H)} (hk : Rows.uptoSmall H (ds ++ gs) = true) : Rows.uptoBulkAll ds ≤ 1048576 := by
  have h : Rows.uptoBulkAll (ds ++ gs) ≤ 1048576 := of_decide_eq_true hk
  rw [bulk_app] at h
  omega
theorem arg_cons {H : Type} {t : TypeId} {ts : List TypeId} {ds : List (DataW H)} {xs : List D} (h : typedArgs Try.T (t :: ts) ds xs) : ∃ d ds' n l xs', ds = d :: ds' ∧ typed Try.T n t (Rows.uptoBulk d) l ∧ xs = asD Try.T t l :: xs' ∧ typedArgs Try.T ts ds' xs' := by
  match ds, xs, h with
  | [], [], h => exact h.elim
  | [], _ :: _, h => exact h.elim
  | _ :: _, [], h => exact h.elim
  | d :: ds, x :: xs, h =>
    obtain ⟨⟨n, l, h1, rfl⟩, h⟩ := h
    exact ⟨d, ds, n, l, xs, rfl, h1, rfl, h⟩
theorem arg_nil {H : Type} {ds : List (DataW H)} {xs : List D} (h : typedArgs Try.T [] ds xs) : ds = [] ∧ xs = [] := by
  match ds, xs, h with
  | [], [], _ => exact ⟨rfl, rfl⟩
  | [], _ :: _, h => exact h.elim
  | _ :: _, [], h => exact h.elim
  | _ :: _, _ :: _, h => exact h.elim
theorem own : ownKnob Try.prog.godebug = none := by kernel_rfl
theorem laid : laidOutB Try.prog = true := by kernel_rfl
def seatS : List Nat := [3, 5, 9, 22, 23, 24, 25, 27, 28, 30, 50, 54, 56]
theorem closedS : closedT Try.T seatS seatS = true := by kernel_rfl
theorem tok' : TblOk Try.prog Try.T := @tok ⟨fun _ => 0⟩
end Go.Proofs.Ytcfpghieofhfkaa
