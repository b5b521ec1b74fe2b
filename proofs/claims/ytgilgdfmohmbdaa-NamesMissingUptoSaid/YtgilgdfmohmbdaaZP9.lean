/- Plain: without its last declaration a processor is resolved exactly if nothing uses it. -/
import Derived.Test.YtgilgdfmohmbdaaZP8
set_option linter.unusedSimpArgs false
set_option linter.unusedVariables false
namespace Go.Fw.Nam
set_option linter.unusedSectionVars false
variable [GlobInt]
open Ref15
/-- The names without one: 'z', which stands for k0, i0. -/
structure Less (l l' : List Pe) (z : Str) (k0 i0 : Int) : Prop where
  lk : ∀ n, lk n l' = if n == z then none else lk n l
  at' : ∃ e, Nam.lk z l = some e ∧ e.kind = k0 ∧ e.index = i0
  one : ∀ n e, Nam.lk n l = some e → e.kind = k0 → e.index = i0 → n = z
  kind : ∀ n e, Nam.lk n l = some e → named e.kind = true
theorem Less.hit {l l' : List Pe} {z : Str} {k0 i0 : Int} (h : Less l l' z k0 i0) {n : Str} {e : En} (he : Nam.lk n l = some e) : (e.kind == k0 && e.index == i0) = (n == z) := by
  rw [Bool.eq_iff_iff]
  simp only [Bool.and_eq_true, beq_iff_eq]
  constructor
  · rintro ⟨a, b⟩; exact h.one n e he a b
  · rintro rfl
    obtain ⟨e', q1, q2, q3⟩ := h.at'
    rw [he] at q1; cases q1
    exact ⟨q2, q3⟩
theorem Less.named {l l' : List Pe} {z : Str} {k0 i0 : Int} (h : Less l l' z k0 i0) : named k0 = true := by
  obtain ⟨e, q1, q2, _⟩ := h.at'
  rw [← q2]; exact h.kind _ _ q1
theorem less_vis {l l' : List Pe} {z : Str} {k0 i0 : Int} (h : Less l l' z k0 i0) (i : Int) (x : Ex) (hv : visB l i x = true) : visB l' i x = !uses k0 i0 (vis l x) := by
  revert hv
  refine Ex.ind (P := fun x => visB l i x = true → visB l' i x = !uses k0 i0 (vis l x)) (fun x ih hv => ?_) x
  rw [visB_eq, Bool.and_eq_true] at hv
  obtain ⟨h1, h2⟩ := hv
  rw [visB_eq, vis_eq, uses_eq]
  have hL : visBL l' i x.l = !usesL k0 i0 (visL l x.l) := by
    generalize x.l = m at ih h2
    induction m with
    | nil => rfl
    | cons y r ih2 =>
      simp only [visBL, Bool.and_eq_true] at h2
      simp only [visBL, visL, usesL, Bool.not_or]
      rw [ih y (by simp) h2.1, ih2 (fun w hw => ih w (List.mem_cons_of_mem _ hw)) h2.2]
  have hN : vok l' i x.kind x.name = !(vkind l x.kind x.name == k0 && vidx l x.kind x.name == i0) := by
    simp only [vok, arity_eq] at h1
    simp only [vok, vkind, vidx, arity_eq]
    cases hn : named x.kind with
    | false =>
      simp only [Bool.not_false, Bool.true_or, Bool.false_eq_true, if_false]
      have : (x.kind == k0) = false := by
        cases hh : (x.kind == k0) with
        | false => rfl
        | true => rw [show x.kind = k0 by simpa using hh, h.named] at hn; cases hn
      rw [this]; rfl
    | true =>
      rw [hn] at h1
      simp only [Bool.not_true, Bool.false_or, if_true] at h1 ⊢
      cases hl : Nam.lk x.name l with
      | none => rw [hl] at h1; simp at h1
      | some e =>
        rw [hl] at h1
        simp only at h1 ⊢
        rw [h.hit hl, h.lk]
        cases hz : (x.name == z) with
        | true => simp
        | false => simp only [Bool.false_eq_true, if_false, hl, h1]; rfl
  rw [hL, hN, ← Bool.not_or]
  rfl
theorem less_target {l l' : List Pe} {z : Str} {k0 i0 st : Int} (h : Less l l' z k0 i0) (hst : ∀ k, isSP k = true → (k == st) = (kindOf k == k0)) {s : Sm} {e : En} (ht : target l s = some e) (hs : isSP s.kind = true) :
    target l' s = if (s.kind == st && sidx l s == i0) then none else some e := by
  have hi : sidx l s = e.index := by simp only [sidx, hs, ht, if_true]
  simp only [target] at ht ⊢
  cases hl : Nam.lk s.name l with
  | none => rw [hl] at ht; cases ht
  | some e' =>
    rw [hl] at ht
    simp only at ht
    split at ht
    · rename_i hk
      cases ht
      rw [hi, hst s.kind hs, h.lk]
      have hk' : e.kind = kindOf s.kind := by simpa using hk
      have : (kindOf s.kind == k0 && e.index == i0) = (s.name == z) := by rw [← hk']; exact h.hit hl
      rw [this]
      cases hz : (s.name == z) with
      | true => simp
      | false => simp only [Bool.false_eq_true, if_false, hl, hk, if_true]
    · cases ht
theorem less_run {l l' : List Pe} {z : Str} {k0 i0 st : Int} (h : Less l l' z k0 i0) (hst : ∀ k, isSP k = true → (k == st) = (kindOf k == k0)) (hno : isSP st = true ∨ (st = 0)) :
    ∀ (r : List Sm) (i : Nat) (d : List (Int × Int)) (o : Bool) (t : List Sm), (∀ s ∈ r, s.kind ≠ 0) → runS l r i d o = .ok t →
      (if (r.map (outS l)).any (use1 k0 i0 st) then runS l' r i d o = .error 150 else ∃ t', runS l' r i d o = .ok t')
  | [], i, d, o, t, _, hr => by
    simp only [runS] at hr ⊢
    cases o with
    | true => simp
    | false => simp at hr
  | s :: r, i, d, o, t, hk0, hr => by
    simp only [runS] at hr ⊢
    split at hr
    · cases hr
    · rename_i h0
      have h0 : stopS l s i d o = 0 := by simpa using h0
      obtain ⟨a, b, c⟩ := stop_at h0
      cases hr2 : runS l r (i + 1) (doneS l s d) (s.kind == 4) with
      | error e => rw [hr2] at hr; cases hr
      | ok t' =>
        have ih := less_run h hst hno r (i + 1) (doneS l s d) (s.kind == 4) t' (fun u hu => hk0 u (List.mem_cons_of_mem _ hu)) hr2
        have hv := less_vis h i s.x a
        have hU : use1 k0 i0 st (outS l s) = (uses k0 i0 (vis l s.x) || (s.kind == st && sidx l s == i0)) := rfl
        simp only [List.map_cons, List.any_cons, hU]
        cases hu : uses k0 i0 (vis l s.x) with
        | true =>
          rw [hu] at hv
          have : stopS l' s i d o = 150 := stop_vis (by rw [hv]; rfl)
          simp [this]
        | false =>
          rw [hu] at hv
          simp only [Bool.not_false] at hv
          cases hs : isSP s.kind with
          | true =>
            obtain ⟨e, ht⟩ := c hs
            have ht' := less_target h hst ht hs
            cases hx : (s.kind == st && sidx l s == i0) with
            | true =>
              rw [hx] at ht'
              have : stopS l' s i d o = 150 := by simp [stopS, hv, hs, ht']
              simp [this]
            | false =>
              rw [hx] at ht'
              simp only [Bool.false_eq_true, if_false] at ht'
              have e1 : stopS l' s i d o = stopS l s i d o := by simp [stopS, hv, a, hs, ht, ht']
              have e2 : doneS l' s d = doneS l s d := by simp [doneS, hs, ht, ht']
              rw [e1, h0, e2]
              simp only [bne_self_eq_false, Bool.false_eq_true, if_false, Bool.or_self, Bool.false_or]
              split at ih
              · rename_i hh; rw [if_pos hh, ih]
              · rename_i hh; obtain ⟨t2, ih⟩ := ih; rw [if_neg hh, ih]; exact ⟨_, rfl⟩
          | false =>
            have hx : (s.kind == st && sidx l s == i0) = false := by
              have : (s.kind == st) = false := by
                cases hh : (s.kind == st) with
                | false => rfl
                | true =>
                  have e := (show s.kind = st by simpa using hh)
                  rcases hno with hn | hn
                  · rw [e, hn] at hs; cases hs
                  · exact absurd (e.trans hn) (hk0 s (by simp))
              rw [this]; rfl
            have e1 : stopS l' s i d o = stopS l s i d o := by simp only [stopS, hv, a, hs, Bool.false_eq_true, if_false]
            have e2 : doneS l' s d = doneS l s d := by simp only [doneS, hs, Bool.false_eq_true, if_false]
            rw [e1, h0, e2, hx]
            simp only [bne_self_eq_false, Bool.false_eq_true, if_false, Bool.or_self, Bool.false_or]
            split at ih
            · rename_i hh; rw [if_pos hh, ih]
            · rename_i hh; obtain ⟨t2, ih⟩ := ih; rw [if_neg hh, ih]; exact ⟨_, rfl⟩
/-- What is left of a processor. -/
theorem less_miss {p q : Pr} {z : Str} {k0 i0 st : Int} (he : (resolveC p).2 = 0) (h : Less (decl p) (decl q) z k0 i0) (hst : ∀ k, isSP k = true → (k == st) = (kindOf k == k0)) (hno : isSP st = true ∨ (st = 0))
    (hs : q.stmts = p.stmts) (h1 : limited q = true) (h2 : (q.name :: fsts (decl q)).all nmOk = true) (h3 : uniqB (fsts (decl q)) = true) (h4 : ranged q = true) : missB q (usedM k0 i0 st (resolveC p).1.stmts) = false := by
  obtain ⟨g1, g2, g3, g4, g5, g6, e⟩ := resolved_form he
  have hF : formed q = true := by rw [formed, hs]; exact g1
  have hk0 : ∀ s ∈ p.stmts, s.kind ≠ 0 := fun s hm h0 => by
    have := List.all_eq_true.1 g1 s hm
    simp only [stmt1, Bool.and_eq_true, decide_eq_true_eq] at this
    omega
  have hr := less_run h hst hno p.stmts 0 [] false _ hk0 g6
  have hq : (resolveC q).2 = if (p.stmts.map (outS (decl p))).any (use1 k0 i0 st) then 150 else 0 := by
    unfold resolveC
    rw [hF, h1, h2, h3, h4, hs]
    simp only [Bool.not_true, Bool.false_eq_true, if_false]
    split at hr
    · rename_i hh; rw [if_pos hh, hr]; rfl
    · rename_i hh; obtain ⟨t, hr⟩ := hr; rw [if_neg hh, hr]; rfl
  rw [e]
  simp only [missB, usedM, hq]
  cases (p.stmts.map (outS (decl p))).any (use1 k0 i0 st) <;> simp

/-! Lists without their last. -/
theorem take_last {α : Type} {l : List α} (hl : l.length ≤ 67108864) (h : decide (lastI l.length ≥ 0) = true) : ∃ l0 b, l = l0 ++ [b] ∧ l.take (lastI l.length).toNat = l0 ∧ lastI l.length = (l0.length : Int) := by
  have hn : lastI l.length = (l.length : Int) - 1 := by unfold lastI; rw [wrap_ok (by omega) (by omega)]
  rw [hn] at h ⊢
  simp only [decide_eq_true_eq] at h
  have hne : l ≠ [] := fun e => by rw [e] at h; simp at h
  refine ⟨l.dropLast, l.getLast hne, (List.dropLast_concat_getLast hne).symm, ?_, ?_⟩
  · rw [List.dropLast_eq_take]; congr 1; omega
  · rw [List.length_dropLast]; omega
theorem find_snoc {n z : Str} {l : List Str} (h : (n == z) = false) : find (l ++ [z]) n = find l n := by
  have : ∀ (l : List Str) (i : Int), findFrom n (l ++ [z]) i = findFrom n l i := by
    intro l
    induction l with
    | nil =>
      intro i
      have : (z == n) = false := by
        cases hh : (z == n) with
        | false => rfl
        | true => rw [show z = n by simpa using hh] at h; simp at h
      simp [findFrom, this]
    | cons x r ih => intro i; simp only [List.cons_append, findFrom, ih]
  exact this l 0
theorem find_last {z : Str} {l : List Str} (h : z ∉ l) : find (l ++ [z]) z = (l.length : Int) := by
  have : ∀ (l : List Str) (i : Int), z ∉ l → findFrom z (l ++ [z]) i = i + l.length := by
    intro l
    induction l with
    | nil => intro i _; simp [findFrom]
    | cons x r ih =>
      intro i h
      simp only [List.mem_cons, not_or] at h
      have : (x == z) = false := by
        cases hh : (x == z) with
        | false => rfl
        | true => exact absurd (show x = z by simpa using hh).symm h.1
      simp only [List.cons_append, findFrom, this, Bool.false_eq_true, if_false, ih (i + 1) h.2, List.length_cons]
      omega
  have := this l 0 h
  simpa [find] using this
end Go.Fw.Nam
