/- Package lex in plain words: what stands before an error has tokens; an error remains. -/
import Derived.Test.YtanmpkhhmjfbnaaDoorZLD15
set_option linter.unusedSimpArgs false
set_option linter.unusedVariables false
namespace Go.Fw.Lx
set_option linter.unusedSectionVars false
variable [GlobInt]
theorem tw_take' {p : UInt8 → Bool} : ∀ (l : Str) (m : Nat), (l.takeWhile p).length ≤ m → (l.take m).takeWhile p = l.takeWhile p
  | [], m, _ => by simp
  | x :: r, 0, h => by
    rw [List.takeWhile_cons] at h ⊢
    split at h
    · simp at h
    · rename_i hp; rw [if_neg hp]; rfl
  | x :: r, m + 1, h => by
    rw [List.take_succ_cons, List.takeWhile_cons, List.takeWhile_cons]
    rw [List.takeWhile_cons] at h
    split
    · rename_i hp
      rw [if_pos hp] at h
      rw [tw_take' r m (by simpa using h)]
    · rfl
theorem hp_two {s : Str} (h : Lib.hasPrefix s [47, 47] = true) : ∃ r, s = 47 :: 47 :: r := by
  match s, h with
  | x :: y :: r, h =>
    simp only [Lib.hasPrefix, List.isPrefixOf, Bool.and_eq_true, beq_iff_eq] at h
    obtain ⟨rfl, rfl, _⟩ := h
    exact ⟨r, rfl⟩
  | [x], h => simp [Lib.hasPrefix, List.isPrefixOf] at h
  | [], h => simp [Lib.hasPrefix, List.isPrefixOf] at h
theorem hp_skip {s : Str} (h : Lib.hasPrefix s [47, 47] = true) : pS s = .skip (cmt s) ∧ 2 ≤ cmt s := by
  obtain ⟨r, rfl⟩ := hp_two h
  constructor
  · unfold pS pStep
    rw [show (47 :: 47 :: r : Str).getD 0 0 = 47 from rfl, cls47]
    simp only [signSt]
    rw [if_neg (by decide), if_pos h]
  · rw [cmt_tw, List.takeWhile_cons, if_pos (by decide), List.takeWhile_cons, if_pos (by decide)]
    simp only [List.length_cons]; omega
theorem hp_take {s : Str} {m : Nat} (h : Lib.hasPrefix (s.take m) [47, 47] = true) : Lib.hasPrefix s [47, 47] = true := by
  obtain ⟨r, hr⟩ := hp_two h
  match s, m, hr with
  | [], m, hr => simp at hr
  | x :: s, 0, hr => simp at hr
  | [x], m + 1, hr => simp at hr
  | x :: y :: s, 1, hr => simp at hr
  | x :: y :: s, m + 2, hr =>
    simp only [List.take_succ_cons, List.cons.injEq] at hr
    obtain ⟨rfl, rfl, _⟩ := hr
    simp [Lib.hasPrefix, List.isPrefixOf]
/-- A step that ends ahead of a place does not look beyond it. -/
theorem take_step {s : Str} {m : Nat} (hs : s ≠ []) (hm : 1 ≤ m) (h : (∃ k, pS s = .skip k ∧ k ≤ m) ∨ ∃ k t, pS s = .tok k t ∧ k ≤ m) : pS (s.take m) = pS s := by
  have g : (s.take m).getD 0 0 = s.getD 0 0 := by
    match s, m, hs, hm with
    | x :: r, m + 1, _, _ => rfl
  have t1 : (s.take m).take 1 = s.take 1 := by rw [List.take_take, Nat.min_eq_left hm]
  by_cases hq : Lib.hasPrefix s [47, 47] = true
  · obtain ⟨h1, h2⟩ := hp_skip hq
    have hk : cmt s ≤ m := by
      rcases h with ⟨k, h, hk⟩ | ⟨k, t, h, hk⟩
      · rw [h1] at h; cases h; exact hk
      · rw [h1] at h; cases h
    have hq2 : Lib.hasPrefix (s.take m) [47, 47] = true := by
      obtain ⟨r, rfl⟩ := hp_two hq
      obtain ⟨m, rfl⟩ : ∃ m', m = m' + 2 := ⟨m - 2, by omega⟩
      simp [Lib.hasPrefix, List.isPrefixOf]
    rw [(hp_skip hq2).1, h1]
    congr 1
    rw [cmt_tw] at hk ⊢
    rw [cmt_tw, tw_take' _ _ hk]
  · have hq0 : Lib.hasPrefix s [47, 47] = false := by simpa using hq
    have hq2 : Lib.hasPrefix (s.take m) [47, 47] = false := by
      cases hx : Lib.hasPrefix (s.take m) [47, 47] with
      | false => rfl
      | true => exact absurd (hp_take hx) hq
    unfold pS at h ⊢
    rw [g]
    split
    · rfl
    · rename_i hn
      rw [if_neg hn] at h
      unfold pStep at h ⊢
      rw [g]
      split
      · rename_i hc; rw [hc] at hn; exact absurd rfl hn
      · rename_i hc
        rw [hc] at h
        have hl : (tw [2, 3, 5] s).length ≤ m := by
          rcases h with ⟨k, h, hk⟩ | ⟨k, t, h, hk⟩
          · simp only [nameSt] at h; split at h <;> cases h
          · simp only [nameSt] at h; split at h
            · simp only [St.tok.injEq] at h; omega
            · cases h
        rw [show tw [2, 3, 5] (s.take m) = tw [2, 3, 5] s from tw_take' _ _ hl]
      · rename_i hc
        rw [hc] at h
        have hl : (tw [3] s).length ≤ m := by
          rcases h with ⟨k, h, hk⟩ | ⟨k, t, h, hk⟩
          · simp only [numSt] at h; split at h
            · split at h
              · split at h <;> cases h
              · cases h
            · cases h
          · simp only [numSt] at h; split at h
            · split at h
              · split at h
                · simp only [St.tok.injEq] at h; omega
                · cases h
              · cases h
            · cases h
        rw [show tw [3] (s.take m) = tw [3] s from tw_take' _ _ hl]
      · unfold signSt
        rw [hq0, hq2, t1, if_neg Bool.false_ne_true, if_neg Bool.false_ne_true]
      · rfl
theorem cmt_in {s b : Str} (h : cmt s < s.length) : cmt (s ++ b) = cmt s := by
  rw [cmt_tw] at h ⊢
  rw [cmt_tw]
  congr 1
  induction s with
  | nil => simp at h
  | cons x r ih =>
    rw [List.cons_append, List.takeWhile_cons, List.takeWhile_cons]
    rw [List.takeWhile_cons] at h
    split
    · rename_i hp
      rw [if_pos hp] at h
      rw [ih (by simpa using h)]
    · rfl
theorem lex_wrong (more : Str) : ∀ (n : Nat) (s : Str) (a e : Nat), s.length ≤ n → lexS s a = .error e → a ≤ e ∧ (∃ x, lexS (s.take (e - a)) a = .ok x) ∧ lexS (s ++ 32 :: more) a = .error e ∧ s.drop (e - a) ≠ [] ∧ pS (s.drop (e - a)) = .bad
  | _, [], a, e, _, h => by
    have h : (Except.ok [] : Except Nat (List Tk)) = Except.error e := h
    cases h
  | 0, c :: r, a, e, h, _ => by simp at h
  | n + 1, c :: r, a, e, h, he => by
    have hs : c :: r ≠ [] := by simp
    have hs2 : c :: r ++ 32 :: more ≠ [] := by simp
    generalize hsr : c :: r = s at hs hs2 he h
    cases hk : pS s with
    | skip k =>
      have h1 := (pS_pos hs).1 k hk
      have h2 := skip_len hs hk
      rw [lexS_skip hs hk] at he
      obtain ⟨i1, ⟨x, i2⟩, i3, i4, i5⟩ := lex_wrong more n (s.drop k) (a + k) e (by rw [List.length_drop]; omega) he
      have hlt : k < s.length := by
        rcases Nat.lt_or_ge k s.length with h | h
        · exact h
        · rw [List.drop_eq_nil_of_le h] at he
          have he : (Except.ok [] : Except Nat (List Tk)) = Except.error e := he
          cases he
      have e1 : (s.drop k).take (e - (a + k)) = (s.take (e - a)).drop k := by
        rw [List.drop_take, show e - a - k = e - (a + k) by omega]
      have e2 : (s.drop k).drop (e - (a + k)) = s.drop (e - a) := by
        rw [List.drop_drop, show k + (e - (a + k)) = e - a by omega]
      rw [e1] at i2
      rw [e2] at i4 i5
      have hne : s.take (e - a) ≠ [] := by
        intro h0
        have := congrArg List.length h0
        rw [List.length_take, List.length_nil] at this
        omega
      have hst : pS (s ++ 32 :: more) = .skip k := by
        rw [app_step hs cls32 (fun hp => ?_)]
        · exact hk
        · rw [(hp_skip hp).1] at hk
          cases hk
          exact cmt_in hlt
      refine ⟨by omega, ⟨x, ?_⟩, ?_, i4, i5⟩
      · rw [lexS_skip hne ((take_step hs (by omega) (.inl ⟨k, hk, by omega⟩)).trans hk)]; exact i2
      · rw [lexS_skip hs2 hst, List.drop_append_of_le_length h2]; exact i3
    | tok k t =>
      have h1 := (pS_pos hs).2 k t hk
      have h2 := (tok_S hk).2.2.2
      rw [lexS_tok hs hk] at he
      cases hy : lexS (s.drop k) (a + k) with
      | ok y => rw [hy] at he; cases he
      | error e' =>
        rw [hy] at he
        have : e' = e := by
          have he : (Except.error e' : Except Nat (List Tk)) = .error e := he
          cases he; rfl
        subst this
        obtain ⟨i1, ⟨x, i2⟩, i3, i4, i5⟩ := lex_wrong more n (s.drop k) (a + k) e' (by rw [List.length_drop]; omega) hy
        have e1 : (s.drop k).take (e' - (a + k)) = (s.take (e' - a)).drop k := by
          rw [List.drop_take, show e' - a - k = e' - (a + k) by omega]
        have e2 : (s.drop k).drop (e' - (a + k)) = s.drop (e' - a) := by
          rw [List.drop_drop, show k + (e' - (a + k)) = e' - a by omega]
        rw [e1] at i2
        rw [e2] at i4 i5
        have hne : s.take (e' - a) ≠ [] := by
          intro h0
          have := congrArg List.length h0
          rw [List.length_take, List.length_nil] at this
          have := List.length_pos_iff.2 hs
          omega
        have hst : pS (s ++ 32 :: more) = .tok k t := by
          rw [app_step hs cls32 (fun hp => ?_)]
          · exact hk
          · rw [(hp_skip hp).1] at hk; cases hk
        refine ⟨by omega, ⟨at' t a :: x, ?_⟩, ?_, i4, i5⟩
        · rw [lexS_tok hne ((take_step hs (by omega) (.inr ⟨k, t, hk, by omega⟩)).trans hk), i2]; rfl
        · rw [lexS_tok hs2 hst, List.drop_append_of_le_length h2, i3]; rfl
    | bad =>
      rw [lexS_bad hs hk] at he
      have : a = e := by cases he; rfl
      subst this
      rw [Nat.sub_self, List.take_zero, List.drop_zero]
      refine ⟨Nat.le_refl _, ⟨[], rfl⟩, ?_, hs, hk⟩
      have hst : pS (s ++ 32 :: more) = .bad := by
        rw [app_step hs cls32 (fun hp => ?_)]
        · exact hk
        · rw [(hp_skip hp).1] at hk; cases hk
      exact lexS_bad hs2 hst
theorem wrong_all {s : Str} {e : Nat} (more : Str) (h : lexR pStep s 0 = .error e) : (∃ x, lexR pStep (s.take e) 0 = .ok x) ∧ lexR pStep (s ++ [32] ++ more) 0 = .error e ∧ lexR pStep (s.drop e) 0 = .error 0 := by
  rw [lexR_eq] at h
  obtain ⟨_, ⟨x, h2⟩, h3, h4, h5⟩ := lex_wrong more _ s 0 e (Nat.le_refl _) h
  rw [Nat.sub_zero] at h2 h4 h5
  refine ⟨⟨x, by rw [lexR_eq]; exact h2⟩, ?_, ?_⟩
  · rw [lexR_eq, show s ++ [32] ++ more = s ++ 32 :: more by simp]; exact h3
  · rw [lexR_eq]; exact lexS_bad h4 h5
theorem self_eq (e : Nat) : (((e : Nat) : Int) == ((e : Nat) : Int)) = true := by simp
theorem wrong_no {e n : Nat} (he : e < n) (h : (bif bif (30 : Int) != 30 then true else decide ((e : Int) < 0) then true else decide ((e : Int) ≥ (n : Int))) = true) : False := by
  simp at h; omega
end Go.Fw.Lx
