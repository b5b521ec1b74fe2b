/- The bridge of the seat of names: names that are not long. -/
import Derived.Test.YtgilgdfmohmbdaaZP34
import Derived.Test.YtgilgdfmohmbdaaZD11
set_option linter.unusedSimpArgs false
set_option linter.unusedVariables false
namespace Go.Proofs.Ytgilgdfmohmbdaa
open Go.Fw Go.Fw.Ref15 Go.Fw.Nam
set_option linter.unusedSectionVars false
set_option maxRecDepth 10000
section
variable [GlobInt]
/-- As 'list_of', with what holds of each. -/
theorem list_all {T : Tbl} {α : Type} {f : α → List D} {Q : α → Prop} {n : Nat} {e : TypeId} {b : Nat} (h : ∀ m x, m ≤ b → typed T n e m x → ∃ y, x = f y ∧ Q y) : ∀ (es : List (List D)) (m : Nat), m ≤ b → typedEs (typed T n e) es m → ∃ ys : List α, es = ys.map f ∧ ∀ y ∈ ys, Q y
  | [], _, _, _ => ⟨[], rfl, by simp⟩
  | x :: r, m, hb, hm => by
    obtain ⟨m1, m2, h1, h2, h3⟩ := hm
    obtain ⟨y, rfl, hw⟩ := h m1 x (by omega) h2
    obtain ⟨ys, rfl, hs⟩ := list_all h r m2 (by omega) h3
    refine ⟨y :: ys, rfl, ?_⟩
    intro z hz
    rcases List.mem_cons.1 hz with rfl | hz
    · exact hw
    · exact hs z hz
theorem sl_all {T : Tbl} {α : Type} {f : α → List D} {Q : α → Prop} {n m : Nat} {t e : TypeId} {b : Nat} {ds : List D} (ht : (T.at t).ty = .slice e) (hb : m ≤ b) (hm : typed T n t m ds) (h : ∀ k, k < n → ∀ m x, m ≤ b → typed T k e m x → ∃ y, x = f y ∧ Q y) :
    ∃ ys : List α, ds = [.sl (T.at e).size (ys.map f)] ∧ ∀ y ∈ ys, Q y := by
  cases n with
  | zero => exact hm.elim
  | succ n =>
    simp only [typed, ht] at hm
    obtain ⟨m', es, h1, rfl, h2⟩ := hm
    obtain ⟨ys, rfl, hs⟩ := list_all (h n (Nat.lt_succ_self n)) es m' (by omega) h2
    exact ⟨ys, rfl, hs⟩
theorem bd_s {n m : Nat} {ds : List D} (hb : m ≤ 1048576) (h : typed Try.T n 42 m ds) : ∃ b : Bd, ds = b.cs ∧ b.name.length ≤ 1048576 := by
  obtain ⟨k, m', _, hm, g0⟩ := fields_of (fs := [(0, 9), (1, 3), (2, 3)]) rfl h
  obtain ⟨_, _, _, _, ha, e1, h1, g1⟩ := fs_cons g0
  obtain ⟨_, _, _, _, _, e2, h2, g2⟩ := fs_cons g1
  obtain ⟨_, _, _, _, _, e3, h3, g3⟩ := fs_cons g2
  obtain ⟨s, rfl, hs⟩ := str_of rfl h1
  obtain ⟨a, rfl, _⟩ := int_of (k := .i64) rfl h2
  obtain ⟨b, rfl, _⟩ := int_of (k := .i64) rfl h3
  have g : _ = [] := g3
  subst g; subst e3; subst e2; subst e1
  exact ⟨⟨s, a, b⟩, rfl, by simp only; omega⟩
theorem ln_s {n m : Nat} {ds : List D} (hb : m ≤ 1048576) (h : typed Try.T n 44 m ds) : ∃ b : Ln, ds = b.cs ∧ b.name.length ≤ 1048576 := by
  obtain ⟨k, m', _, hm, g0⟩ := fields_of (fs := [(0, 9), (1, 3), (2, 3), (3, 3)]) rfl h
  obtain ⟨_, _, _, _, ha, e1, h1, g1⟩ := fs_cons g0
  obtain ⟨_, _, _, _, _, e2, h2, g2⟩ := fs_cons g1
  obtain ⟨_, _, _, _, _, e3, h3, g3⟩ := fs_cons g2
  obtain ⟨_, _, _, _, _, e4, h4, g4⟩ := fs_cons g3
  obtain ⟨s, rfl, hs⟩ := str_of rfl h1
  obtain ⟨a, rfl, _⟩ := int_of (k := .i64) rfl h2
  obtain ⟨b, rfl, _⟩ := int_of (k := .i64) rfl h3
  obtain ⟨c, rfl, _⟩ := int_of (k := .i64) rfl h4
  have g : _ = [] := g4
  subst g; subst e4; subst e3; subst e2; subst e1
  exact ⟨⟨s, a, b, c⟩, rfl, by simp only; omega⟩
theorem tb_s {n m : Nat} {ds : List D} (hb : m ≤ 1048576) (h : typed Try.T n 52 m ds) : ∃ b : Tb, ds = b.cs ∧ b.name.length ≤ 1048576 := by
  obtain ⟨k, m', _, hm, g0⟩ := fields_of (fs := [(0, 9), (1, 50)]) rfl h
  obtain ⟨_, _, _, _, ha, e1, h1, g1⟩ := fs_cons g0
  obtain ⟨_, _, _, _, _, e2, h2, g2⟩ := fs_cons g1
  obtain ⟨s, rfl, hs⟩ := str_of rfl h1
  obtain ⟨l, rfl, _⟩ := vals_of h2
  have g : _ = [] := g2
  subst g; subst e2; subst e1
  exact ⟨⟨s, l⟩, rfl, by simp only; omega⟩
theorem everyL_all {f : Ex → Bool} : ∀ {l : List Ex}, (∀ x ∈ l, every f x = true) → everyL f l = true
  | [], _ => rfl
  | x :: r, h => by simp only [everyL, h x (by simp), everyL_all (fun y hy => h y (List.mem_cons_of_mem _ hy)), Bool.and_self]
theorem ex_s : ∀ (n m : Nat) (ds : List D), m ≤ 1048576 → typed Try.T n 36 m ds → ∃ x : Ex, ds = x.cs ∧ every short x = true := by
  intro n
  induction n using Nat.strongRecOn with
  | ind n ih =>
    intro m ds hb0 h
    obtain ⟨k, m', hk, hm, g0⟩ := fields_of (fs := [(0, 3), (1, 9), (2, 3), (3, 3), (4, 34)]) rfl h
    obtain ⟨m1, m2, _, _, ha, e1, h1, g1⟩ := fs_cons g0
    obtain ⟨m3, m4, _, _, hb, e2, h2, g2⟩ := fs_cons g1
    obtain ⟨m5, m6, _, _, hc, e3, h3, g3⟩ := fs_cons g2
    obtain ⟨m7, m8, _, _, hd, e4, h4, g4⟩ := fs_cons g3
    obtain ⟨m9, m0, _, _, he, e5, h5, g5⟩ := fs_cons g4
    obtain ⟨a, rfl, _⟩ := int_of (k := .i64) rfl h1
    obtain ⟨s, rfl, hs⟩ := str_of rfl h2
    obtain ⟨b, rfl, _⟩ := int_of (k := .i64) rfl h3
    obtain ⟨c, rfl, _⟩ := int_of (k := .i64) rfl h4
    obtain ⟨l, rfl, hl⟩ := sl_all (f := Ex.cs) (Q := fun x => every short x = true) (e := 36) (b := 1048576) rfl (by omega) h5 (fun j hj m x hmb hx => ih j (by omega) m x hmb hx)
    have g : _ = [] := g5
    subst g; subst e5; subst e4; subst e3; subst e2; subst e1
    refine ⟨.mk a s b c l, ?_, ?_⟩
    · show _ = [D.i a, D.str s, D.i b, D.i c, D.sl 5 (Ex.css l)]
      rw [Ex.css_eq]; rfl
    · rw [every_eq]
      show (short (.mk a s b c l) && everyL short l) = true
      rw [everyL_all hl, Bool.and_true]
      show decide (s.length ≤ 1048576) = true
      simp only [decide_eq_true_eq]; omega
theorem sm_s {n m : Nat} {ds : List D} (hb0 : m ≤ 1048576) (h : typed Try.T n 38 m ds) : ∃ s : Sm, ds = s.cs ∧ (s.name.length ≤ 1048576 ∧ every short s.x = true) := by
  obtain ⟨k, m', _, hm, g0⟩ := fields_of (fs := [(0, 3), (1, 9), (2, 3), (3, 36)]) rfl h
  obtain ⟨m1, m2, _, _, ha, e1, h1, g1⟩ := fs_cons g0
  obtain ⟨m3, m4, _, _, hb, e2, h2, g2⟩ := fs_cons g1
  obtain ⟨m5, m6, _, _, hc, e3, h3, g3⟩ := fs_cons g2
  obtain ⟨m7, m8, _, _, hd, e4, h4, g4⟩ := fs_cons g3
  obtain ⟨a, rfl, _⟩ := int_of (k := .i64) rfl h1
  obtain ⟨s, rfl, hs⟩ := str_of rfl h2
  obtain ⟨b, rfl, _⟩ := int_of (k := .i64) rfl h3
  obtain ⟨x, rfl, hx⟩ := ex_s _ _ _ (by omega) h4
  have g : _ = [] := g4
  subst g; subst e4; subst e3; subst e2; subst e1
  exact ⟨⟨a, s, b, x⟩, rfl, by simp only; omega, hx⟩
theorem pr_s {n m : Nat} {ds : List D} (hb0 : m ≤ 1048576) (h : typed Try.T n 27 m ds) : ∃ p : Pr, ds = p.cs ∧ Shorts p := by
  obtain ⟨k, m', _, hm, g0⟩ := fields_of (fs := [(0, 9), (1, 3), (2, 3), (3, 22), (4, 22), (5, 23), (6, 24), (7, 25)]) rfl h
  obtain ⟨_, _, _, _, a1, e1, h1, g1⟩ := fs_cons g0
  obtain ⟨_, _, _, _, a2, e2, h2, g2⟩ := fs_cons g1
  obtain ⟨_, _, _, _, a3, e3, h3, g3⟩ := fs_cons g2
  obtain ⟨_, _, _, _, a4, e4, h4, g4⟩ := fs_cons g3
  obtain ⟨_, _, _, _, a5, e5, h5, g5⟩ := fs_cons g4
  obtain ⟨_, _, _, _, a6, e6, h6, g6⟩ := fs_cons g5
  obtain ⟨_, _, _, _, a7, e7, h7, g7⟩ := fs_cons g6
  obtain ⟨_, _, _, _, a8, e8, h8, g8⟩ := fs_cons g7
  obtain ⟨s, rfl, _⟩ := str_of rfl h1
  obtain ⟨a, rfl, _⟩ := int_of (k := .i64) rfl h2
  obtain ⟨b, rfl, _⟩ := int_of (k := .i64) rfl h3
  obtain ⟨l4, rfl, q4⟩ := sl_all (f := Bd.cs) (Q := fun b => b.name.length ≤ 1048576) (e := 42) (b := 1048576) rfl (by omega) h4 (fun j hj m x hm hx => bd_s hm hx)
  obtain ⟨l5, rfl, q5⟩ := sl_all (f := Bd.cs) (Q := fun b => b.name.length ≤ 1048576) (e := 42) (b := 1048576) rfl (by omega) h5 (fun j hj m x hm hx => bd_s hm hx)
  obtain ⟨l6, rfl, q6⟩ := sl_all (f := Ln.cs) (Q := fun b => b.name.length ≤ 1048576) (e := 44) (b := 1048576) rfl (by omega) h6 (fun j hj m x hm hx => ln_s hm hx)
  obtain ⟨l7, rfl, q7⟩ := sl_all (f := Tb.cs) (Q := fun b => b.name.length ≤ 1048576) (e := 52) (b := 1048576) rfl (by omega) h7 (fun j hj m x hm hx => tb_s hm hx)
  obtain ⟨l8, rfl, q8⟩ := sl_all (f := Sm.cs) (Q := fun s => s.name.length ≤ 1048576 ∧ every short s.x = true) (e := 38) (b := 1048576) rfl (by omega) h8 (fun j hj m x hm hx => sm_s hm hx)
  have g : _ = [] := g8
  subst g; subst e8; subst e7; subst e6; subst e5; subst e4; subst e3; subst e2; subst e1
  exact ⟨⟨s, a, b, l4, l5, l6, l7, l8⟩, rfl, q4, q5, q6, q7, q8⟩
/-! A processor is known by its data. -/
theorem map_inj {α β : Type} {f : α → β} (hf : ∀ a b, f a = f b → a = b) : ∀ {l m : List α}, l.map f = m.map f → l = m
  | [], [], _ => rfl
  | [], _ :: _, h => by simp at h
  | _ :: _, [], h => by simp at h
  | a :: l, b :: m, h => by
    simp only [List.map_cons, List.cons.injEq] at h
    rw [hf a b h.1, map_inj hf h.2]
theorem bd_inj (a b : Bd) (h : a.cs = b.cs) : a = b := by
  cases a; cases b; simp only [Bd.cs, List.cons.injEq, D.str.injEq, D.val.injEq, Value.int.injEq, true_and, and_true] at h; simp only [Bd.mk.injEq]; exact h
theorem ln_inj (a b : Ln) (h : a.cs = b.cs) : a = b := by
  cases a; cases b; simp only [Ln.cs, List.cons.injEq, D.str.injEq, D.val.injEq, Value.int.injEq, true_and, and_true] at h; simp only [Ln.mk.injEq]; exact h
theorem int_inj (a b : Int) (h : intC a = intC b) : a = b := by
  simpa only [intC, List.cons.injEq, D.val.injEq, Value.int.injEq, true_and, and_true] using h
theorem tb_inj (a b : Tb) (h : a.cs = b.cs) : a = b := by
  cases a; cases b; simp only [Tb.cs, List.cons.injEq, D.str.injEq, D.sl.injEq, true_and, and_true] at h; simp only [Tb.mk.injEq]; exact ⟨h.1, map_inj int_inj h.2⟩
theorem ex_inj : ∀ a b : Ex, a.cs = b.cs → a = b := by
  intro a
  refine Ex.ind (P := fun a => ∀ b : Ex, a.cs = b.cs → a = b) (fun a ih b h => ?_) a
  cases a with
  | mk k s i m l =>
    cases b with
    | mk k' s' i' m' l' =>
      simp only [Ex.cs, Ex.kind, Ex.name, Ex.index, Ex.n, Ex.l, List.cons.injEq, D.str.injEq, D.val.injEq, Value.int.injEq, D.sl.injEq, true_and, and_true] at h
      obtain ⟨h1, h2, h3, h4, h5⟩ := h
      rw [Ex.css_eq, Ex.css_eq] at h5
      have : l = l' := by
        have key : ∀ (l l' : List Ex), (∀ y ∈ l, ∀ b : Ex, y.cs = b.cs → y = b) → l.map Ex.cs = l'.map Ex.cs → l = l' := by
          intro l
          induction l with
          | nil => intro l' _ h; cases l' with | nil => rfl | cons _ _ => simp at h
          | cons x r ih2 =>
            intro l' hx h
            cases l' with
            | nil => simp at h
            | cons y r' =>
              simp only [List.map_cons, List.cons.injEq] at h
              rw [hx x (by simp) y (by simp only [List.cons.injEq]; exact h.1), ih2 r' (fun z hz => hx z (List.mem_cons_of_mem _ hz)) h.2]
        exact key l l' (fun y hy b hb => ih y hy b hb) h5
      rw [h1, h2, h3, h4, this]
theorem sm_inj (a b : Sm) (h : a.cs = b.cs) : a = b := by
  cases a with
  | mk k s i x =>
    cases b with
    | mk k' s' i' x' =>
      simp only [Sm.cs, List.cons.injEq, D.str.injEq, D.val.injEq, Value.int.injEq, true_and] at h
      obtain ⟨h1, h2, h3, h4⟩ := h
      have : x = x' := ex_inj x x' (by simp only [Ex.cs, List.cons.injEq, D.str.injEq, D.val.injEq, Value.int.injEq, true_and]; exact h4)
      rw [h1, h2, h3, this]
theorem pr_inj (a b : Pr) (h : a.cs = b.cs) : a = b := by
  cases a; cases b
  simp only [Pr.cs, List.cons.injEq, D.str.injEq, D.val.injEq, Value.int.injEq, D.sl.injEq, true_and, and_true] at h
  obtain ⟨h1, h2, h3, h4, h5, h6, h7, h8⟩ := h
  rw [h1, h2, h3, map_inj bd_inj h4, map_inj bd_inj h5, map_inj ln_inj h6, map_inj tb_inj h7, map_inj sm_inj h8]
end
theorem pr_arg_s {n m : Nat} {l : List D} (h : typed Try.T n 27 m l) (hm : m ≤ 1048576) : ∃ p : Pr, asD Try.T 27 l = p.d ∧ p.Small ∧ (∀ s ∈ p.stmts, Ref15.nodes s.x ≤ 1073741824) ∧ (∀ t ∈ p.tables, t.values.length ≤ 1073741824) ∧ Read p 1048576 ∧ Shorts p := by
  letI : GlobInt := ⟨fun _ => 0⟩
  obtain ⟨p, rfl, hr⟩ := pr_of h
  obtain ⟨q, hq, hs⟩ := pr_s hm h
  have := pr_inj p q hq
  subst this
  exact ⟨p, rfl, hr.small hm, hr.node hm, hr.vals hm, ⟨by have := hr.params; omega, by have := hr.states; omega, by have := hr.lines; omega, by have := hr.tables; omega, by have := hr.stmts; omega, by have := hr.nodes; omega, by have := hr.values; omega⟩, hs⟩
end Go.Proofs.Ytgilgdfmohmbdaa
