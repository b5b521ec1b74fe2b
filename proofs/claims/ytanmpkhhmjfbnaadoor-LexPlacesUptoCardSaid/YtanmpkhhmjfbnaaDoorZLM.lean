/- Package lex: how long a text of tokens is. -/
import Derived.Test.YtanmpkhhmjfbnaaDoorZLA
set_option linter.unusedSimpArgs false
set_option linter.unusedVariables false
namespace Go.Fw.Lx
set_option linter.unusedSectionVars false
variable [GlobInt]
/-- The number of a token is one of the machine's. -/
def InI (t : Tk) : Prop := -9223372036854775808 ≤ t.n ∧ t.n ≤ 9223372036854775807
theorem dec_short : ∀ (k n : Nat), n < 10 ^ (k + 1) → (Lib.decDigits n).length ≤ k + 1
  | 0, n, h => by
    rw [Lib.decDigits, dif_pos (by omega)]; simp
  | k + 1, n, h => by
    rw [Lib.decDigits]
    split
    · simp
    · have := dec_short k (n / 10) (by rw [Nat.pow_succ] at h; omega)
      rw [List.length_append, List.length_cons, List.length_nil]; omega
theorem itoa_short {n : Int} (h0 : -9223372036854775808 ≤ n) (h1 : n ≤ 9223372036854775807) : (Lib.itoa n).length ≤ 21 := by
  rw [Lib.itoa]
  split
  · have := dec_short 19 n.natAbs (by show n.natAbs < 100000000000000000000; omega)
    simp only [List.length_cons]; omega
  · have := dec_short 19 n.toNat (by show n.toNat < 100000000000000000000; omega)
    omega
theorem word_short {t : Tk} (h : InI t) : (word t).length ≤ t.text.length + 21 := by
  rw [word]
  split
  · have := itoa_short h.1 h.2; omega
  · omega
theorem join_short : ∀ {l : List Tk}, (∀ t ∈ l, InI t) → (Lib.join (l.map word) [32]).length ≤ lens l + 22 * l.length
  | [], _ => by simp [Lib.join_nil]
  | [x], h => by
    have := word_short (h x (by simp))
    simp only [List.map_cons, List.map_nil, Lib.join_one, lens, List.sum_cons, List.sum_nil, List.length_cons, List.length_nil]; omega
  | x :: y :: r, h => by
    have h1 := word_short (h x (by simp))
    have h2 := join_short (l := y :: r) (fun t ht => h t (List.mem_cons_of_mem _ ht))
    have e : Lib.join ((x :: y :: r).map word) [32] = word x ++ ([32] ++ Lib.join ((y :: r).map word) [32]) := by
      simp only [List.map_cons, Lib.join_cons, Lib.joinTail, List.map_cons, List.flatten_cons, List.append_assoc]
    rw [e]
    simp only [lens, List.map_cons, List.sum_cons, List.length_append, List.length_cons, List.length_nil] at h2 ⊢
    omega
/-- What is asked of tokens that are read. -/
structure Rd (l : List Tk) : Prop where
  len : l.length ≤ 1048576
  lens : lens l ≤ 1048576
  ini : ∀ t ∈ l, InI t
theorem Rd.join {l : List Tk} (h : Rd l) : (Lib.join (l.map word) [32]).length ≤ 140737488355328 := by
  have := join_short h.ini
  have := h.len
  have := h.lens
  omega
theorem textR_eq (l : List Tk) : textR l = textM l := by
  rw [textR, textM, show validR = valid from funext valid_eq]
end Go.Fw.Lx
namespace Go.Fw.Lx
set_option linter.unusedSectionVars false
variable [GlobInt]
def pS (s : Str) : St := if cls (s.getD 0 0) == 1 then .skip 1 else pStep s
theorem pos_S : Pos pS := by
  intro c r
  have := pos_p c r
  constructor
  · intro k hk
    unfold pS at hk
    split at hk
    · simp only [St.skip.injEq] at hk; omega
    · exact this.1 k hk
  · intro k t hk
    unfold pS at hk
    split at hk
    · cases hk
    · exact this.2 k t hk
abbrev lexS (s : Str) (a : Nat) : Except Nat (List Tk) := lexR pS s a
theorem lexS_skip {s : Str} {a k : Nat} (hs : s ≠ []) (h : pS s = .skip k) : lexS s a = lexS (s.drop k) (a + k) := by
  rw [lexS, lexR_cons pos_S hs, h]
theorem lexS_tok {s : Str} {a k : Nat} {t : Tk} (hs : s ≠ []) (h : pS s = .tok k t) : lexS s a = consE (at' t a) (lexS (s.drop k) (a + k)) := by
  rw [lexS, lexR_cons pos_S hs, h]
  change _ = consE (at' t a) (lexR pS (s.drop k) (a + k))
  simp only
  cases lexR pS (s.drop k) (a + k) <;> rfl
theorem lexS_bad {s : Str} {a : Nat} (hs : s ≠ []) (h : pS s = .bad) : lexS s a = .error a := by
  rw [lexS, lexR_cons pos_S hs, h]
theorem space_first {c : UInt8} {r : Str} {a : Nat} (hc : cls c = 1) : lexR pStep (c :: r) a = lexR pStep r (a + 1) := by
  have hd : (List.replicate a (0 : UInt8) ++ c :: r).drop a = c :: r := by
    rw [List.drop_append_of_le_length (by simp)]; simp
  have hd1 : (List.replicate a (0 : UInt8) ++ c :: r).drop (a + 1) = r := by
    rw [← List.drop_drop, hd]; rfl
  have hg : (List.replicate a (0 : UInt8) ++ c :: r).getD a 0 = c := by
    rw [List.getD_eq_getElem?_getD, List.getElem?_append_right (by simp)]; simp
  have := space_one (src := List.replicate a 0 ++ c :: r) (a := a) (by simp) (by rw [hg]; exact hc)
  rw [hd, hd1] at this
  exact this
theorem pS_pos {s : Str} (hs : s ≠ []) : (∀ k, pS s = .skip k → 1 ≤ k) ∧ ∀ k t, pS s = .tok k t → 1 ≤ k := by
  cases s with
  | nil => exact absurd rfl hs
  | cons c r => exact pos_S c r
theorem lexR_S : ∀ (n : Nat) (s : Str) (a : Nat), s.length ≤ n → lexR pStep s a = lexS s a
  | _, [], a, _ => rfl
  | 0, c :: r, a, h => by simp at h
  | n + 1, c :: r, a, h => by
    simp only [List.length_cons] at h
    have e : (c :: r).getD 0 0 = c := rfl
    by_cases hc : cls c = 1
    · rw [space_first hc, lexS_skip (by simp) (show pS (c :: r) = .skip 1 by unfold pS; rw [e, hc]; rfl)]
      exact lexR_S n r (a + 1) (by omega)
    · have hp : pS (c :: r) = pStep (c :: r) := by
        unfold pS
        rw [e, if_neg (by simpa using hc)]
      cases hk : pStep (c :: r) with
      | skip k =>
        have := (pos_p c r).1 k hk
        rw [lexR_cons pos_p (by simp), hk, lexS_skip (by simp) (hp.trans hk)]
        exact lexR_S n _ _ (by simp only [List.length_drop, List.length_cons]; omega)
      | tok k t =>
        have := (pos_p c r).2 k t hk
        rw [lexR_cons pos_p (by simp), hk, lexS_tok (by simp) (hp.trans hk)]
        simp only
        rw [lexR_S n _ _ (by simp only [List.length_drop, List.length_cons]; omega)]
        cases lexS ((c :: r).drop k) (a + k) <;> rfl
      | bad => rw [lexR_cons pos_p (by simp), hk, lexS_bad (by simp) (hp.trans hk)]
theorem lexR_eq (s : Str) (a : Nat) : lexR pStep s a = lexS s a := lexR_S _ s a (Nat.le_refl _)

/-! What a step takes. -/
theorem tw_take (ks : List Int) (s : Str) : s.take (tw ks s).length = tw ks s := (List.prefix_iff_eq_take.1 (List.takeWhile_prefix _)).symm
theorem tw_len (ks : List Int) (s : Str) : (tw ks s).length ≤ s.length := (List.takeWhile_prefix _).length_le
theorem tok_facts {s : Str} {k : Nat} {t : Tk} (h : pStep s = .tok k t) : valid t = true ∧ word t = s.take k ∧ t.pos = 0 ∧ k ≤ s.length := by
  unfold pStep at h
  split at h
  · cases h
  · unfold nameSt at h
    split at h
    · rename_i hv
      simp only [St.tok.injEq] at h
      obtain ⟨rfl, rfl⟩ := h
      exact ⟨hv, by rw [tw_take]; rfl, rfl, tw_len _ _⟩
    · cases h
  · unfold numSt at h
    split at h
    · rename_i v hv
      split at h
      · rename_i hi
        split at h
        · rename_i hw
          simp only [St.tok.injEq] at h
          obtain ⟨rfl, rfl⟩ := h
          exact ⟨hw, by rw [tw_take]; exact eq_of_beq hi, rfl, tw_len _ _⟩
        · cases h
      · cases h
    · cases h
  · rename_i hc
    unfold signSt at h
    split at h
    · cases h
    · split at h
      · rename_i hv
        simp only [St.tok.injEq] at h
        obtain ⟨rfl, rfl⟩ := h
        refine ⟨hv, rfl, rfl, ?_⟩
        cases s with
        | nil => simp [cls, signs] at hc; revert hc; decide
        | cons c r => simp
      · cases h
  · cases h
theorem tok_S {s : Str} {k : Nat} {t : Tk} (h : pS s = .tok k t) : valid t = true ∧ word t = s.take k ∧ t.pos = 0 ∧ k ≤ s.length := by
  unfold pS at h
  split at h
  · cases h
  · exact tok_facts h
theorem cmt_le (s : Str) : cmt s ≤ s.length := by rw [cmt_tw]; exact (List.takeWhile_prefix _).length_le
theorem skip_S {s : Str} {k : Nat} (hs : s ≠ []) (h : pS s = .skip k) : k = 1 ∧ cls (s.getD 0 0) = 1 ∨ Lib.hasPrefix s [47, 47] = true ∧ k = cmt s ∧ cls (s.getD 0 0) = 4 := by
  unfold pS at h
  split at h
  · rename_i hc
    simp only [St.skip.injEq] at h
    exact .inl ⟨h.symm, by simpa using hc⟩
  · rename_i hn
    unfold pStep at h
    split at h
    · rename_i hc; rw [hc] at hn; exact absurd rfl hn
    · unfold nameSt at h; split at h <;> cases h
    · unfold numSt at h; split at h
      · split at h
        · split at h <;> cases h
        · cases h
      · cases h
    · rename_i hc
      unfold signSt at h; split at h
      · rename_i hp
        simp only [St.skip.injEq] at h
        exact .inr ⟨hp, h.symm, hc⟩
      · split at h <;> cases h
    · cases h
theorem skip_len {s : Str} {k : Nat} (hs : s ≠ []) (h : pS s = .skip k) : k ≤ s.length := by
  rcases skip_S hs h with h | h
  · have := List.length_pos_iff.2 hs; omega
  · rw [h.2.1]; exact cmt_le s
end Go.Fw.Lx
namespace Go.Fw.Lx
set_option linter.unusedSectionVars false
variable [GlobInt]
theorem tw_app {ks : List Int} {c : UInt8} {b : Str} (hc : has ks (cls c) = false) : ∀ s : Str, tw ks (s ++ c :: b) = tw ks s
  | [] => by simp [tw, List.takeWhile_cons, hc]
  | x :: r => by
    have := tw_app (b := b) hc r
    simp only [tw, List.cons_append, List.takeWhile_cons] at this ⊢
    rw [this]
theorem tw_nil {ks : List Int} : tw ks [] = [] := rfl
theorem cls_ne47 {c : UInt8} (h : cls c = 1) : c ≠ 47 := by
  rintro rfl; rw [cls47] at h; cases h
theorem hp_app {s b : Str} {c : UInt8} (hs : s ≠ []) (hc : c ≠ 47) : Lib.hasPrefix (s ++ c :: b) [47, 47] = Lib.hasPrefix s [47, 47] := by
  match s, hs with
  | [x], _ =>
    have : (47 == c) = false := by simpa using fun h => hc h.symm
    simp [Lib.hasPrefix, List.isPrefixOf, this]
  | x :: y :: r, _ => simp [Lib.hasPrefix, List.isPrefixOf]
theorem has_sp {c : UInt8} (h : cls c = 1) : has [2, 3, 5] (cls c) = false ∧ has [3] (cls c) = false := by
  rw [h, has3, has1]; exact ⟨rfl, rfl⟩
theorem app_step {s b : Str} {c : UInt8} (hs : s ≠ []) (hc : cls c = 1) (hm : Lib.hasPrefix s [47, 47] = true → cmt (s ++ c :: b) = cmt s) : pS (s ++ c :: b) = pS s := by
  have g : (s ++ c :: b).getD 0 0 = s.getD 0 0 := by
    cases s with
    | nil => exact absurd rfl hs
    | cons x r => rfl
  have t1 : (s ++ c :: b).take 1 = s.take 1 := by
    cases s with
    | nil => exact absurd rfl hs
    | cons x r => rfl
  unfold pS
  rw [g]
  split
  · rfl
  · rename_i hn
    unfold pStep
    rw [g]
    split
    · rename_i h; rw [h] at hn; exact absurd rfl hn
    · rw [tw_app (has_sp hc).1]
    · rw [tw_app (has_sp hc).2]
    · unfold signSt
      rw [hp_app hs (cls_ne47 hc), t1]
      split
      · rename_i hp; rw [hm hp]
      · rfl
    · rfl
theorem cmt_nl (s b : Str) : cmt (s ++ 10 :: b) = cmt s := by
  rw [cmt_tw, cmt_tw]
  congr 1
  induction s with
  | nil => rfl
  | cons x r ih => simp only [List.cons_append, List.takeWhile_cons, ih]
theorem cls10 : cls 10 = 1 := by decide
theorem cls32 : cls 32 = 1 := by decide
theorem step_nl {s b : Str} (hs : s ≠ []) : pS (s ++ 10 :: b) = pS s := app_step hs cls10 fun _ => cmt_nl s b
theorem skip_sp {c : UInt8} {r : Str} {a : Nat} (hc : cls c = 1) : lexS (c :: r) a = lexS r (a + 1) := by
  rw [lexS_skip (k := 1) (by simp) (by unfold pS; rw [show (c :: r).getD 0 0 = c from rfl, hc]; rfl)]; rfl

/-! Two sources with a line feed between them. -/
def after (r : Except Nat (List Tk)) (x : List Tk → Except Nat (List Tk)) : Except Nat (List Tk) := match r with
  | .ok l => x l
  | .error e => .error e
theorem consE_fin (t : Tk) (x : List Tk) (r : Except Nat (List Tk)) : consE t (fin x r) = fin (t :: x) r := by cases r <;> rfl
theorem lex_joined (b : Str) : ∀ (n : Nat) (s : Str) (a : Nat), s.length ≤ n → lexS (s ++ 10 :: b) a = after (lexS s a) fun x => fin x (lexS b (a + s.length + 1))
  | _, [], a, _ => by
    show lexS (10 :: b) a = fin [] (lexS b (a + 0 + 1))
    rw [skip_sp cls10, fin_nil]
  | 0, c :: r, a, h => by simp at h
  | n + 1, c :: r, a, h => by
    have hs : c :: r ≠ [] := by simp
    have hs2 : c :: r ++ 10 :: b ≠ [] := by simp
    have hst := step_nl (b := b) hs
    cases hk : pS (c :: r) with
    | skip k =>
      have h1 := (pos_S c r).1 k hk
      have h2 := skip_len hs hk
      rw [lexS_skip hs2 (hst.trans hk), lexS_skip hs hk, List.drop_append_of_le_length h2, lex_joined b n _ _ (by simp only [List.length_drop, List.length_cons] at h ⊢; omega)]
      rw [List.length_drop, show a + k + ((c :: r).length - k) + 1 = a + (c :: r).length + 1 by omega]
    | tok k t =>
      have h1 := (pos_S c r).2 k t hk
      have h2 := (tok_S hk).2.2.2
      rw [lexS_tok hs2 (hst.trans hk), lexS_tok hs hk, List.drop_append_of_le_length h2, lex_joined b n _ _ (by simp only [List.length_drop, List.length_cons] at h ⊢; omega)]
      rw [List.length_drop, show a + k + ((c :: r).length - k) + 1 = a + (c :: r).length + 1 by omega]
      cases lexS ((c :: r).drop k) (a + k) with
      | ok x => exact consE_fin _ _ _
      | error e => rfl
    | bad => rw [lexS_bad hs2 (hst.trans hk), lexS_bad hs hk]; rfl

/-! Places. -/
def shift (p : Nat) : Except Nat (List Tk) → Except Nat (List Tk)
  | .ok l => .ok (l.map fun t => { t with pos := t.pos + (p : Nat) })
  | .error e => .error (e + p)
theorem shift_cons (p : Nat) (t : Tk) (a : Nat) (r : Except Nat (List Tk)) : shift p (consE (at' t a) r) = consE (at' t (a + p)) (shift p r) := by
  cases r with
  | ok l => simp [shift, consE, at']
  | error e => rfl
theorem lexS_shift (p : Nat) : ∀ (n : Nat) (s : Str) (a : Nat), s.length ≤ n → lexS s (a + p) = shift p (lexS s a)
  | _, [], a, _ => rfl
  | 0, c :: r, a, h => by simp at h
  | n + 1, c :: r, a, h => by
    have hs : c :: r ≠ [] := by simp
    cases hk : pS (c :: r) with
    | skip k =>
      have h1 := (pos_S c r).1 k hk
      rw [lexS_skip hs hk, lexS_skip hs hk, show a + p + k = a + k + p by omega]
      exact lexS_shift p n _ _ (by simp only [List.length_drop, List.length_cons] at h ⊢; omega)
    | tok k t =>
      have h1 := (pos_S c r).2 k t hk
      rw [lexS_tok hs hk, lexS_tok hs hk, show a + p + k = a + k + p by omega, lexS_shift p n _ _ (by simp only [List.length_drop, List.length_cons] at h ⊢; omega), shift_cons]
    | bad => rw [lexS_bad hs hk, lexS_bad hs hk]; rfl
theorem lexS_at (s : Str) (p : Nat) : lexS s p = shift p (lexS s 0) := by
  have := lexS_shift p s.length s 0 (Nat.le_refl _)
  rw [Nat.zero_add] at this; exact this
end Go.Fw.Lx
namespace Go.Fw.Lx
set_option linter.unusedSectionVars false
variable [GlobInt]
theorem dig_char (k : Nat) (h : k < 10) : 48 ≤ (UInt8.ofNat (48 + k)).toNat ∧ (UInt8.ofNat (48 + k)).toNat ≤ 57 ∧ (UInt8.ofNat (48 + k)).toNat - 48 = k := by
  have : (UInt8.ofNat (48 + k)).toNat = 48 + k := by
    rw [UInt8.toNat_ofNat']; omega
  omega
theorem dec_dig (u : Nat) : Dig (Lib.decDigits u) ∧ dv 0 (Lib.decDigits u) = u ∧ Lib.decDigits u ≠ [] := by
  induction u using Nat.strongRecOn with
  | ind u ih =>
    rw [Lib.decDigits]
    split
    · rename_i h
      obtain ⟨h1, h2, h3⟩ := dig_char u h
      refine ⟨fun c hc => ?_, ?_, by simp⟩
      · simp only [List.mem_singleton] at hc; subst hc; exact ⟨h1, h2⟩
      · show 10 * 0 + ((UInt8.ofNat (48 + u)).toNat - 48) = u
        omega
    · rename_i h
      obtain ⟨i1, i2, i3⟩ := ih (u / 10) (by omega)
      obtain ⟨h1, h2, h3⟩ := dig_char (u % 10) (by omega)
      refine ⟨fun c hc => ?_, ?_, by simp⟩
      · rcases List.mem_append.1 hc with hc | hc
        · exact i1 c hc
        · simp only [List.mem_singleton] at hc; subst hc; exact ⟨h1, h2⟩
      · rw [dv_snoc, i2, h3]; omega
theorem fig_cls {c : UInt8} (h : 48 ≤ c.toNat ∧ c.toNat ≤ 57) : cls c = 3 := by
  have := cls_figure (c := c)
  rw [show Ref03.figure c = true by simp only [Ref03.figure, Bool.and_eq_true, decide_eq_true_eq]; omega] at this
  simpa using this.symm
theorem tw_all {ks : List Int} : ∀ {s : Str}, (∀ c ∈ s, has ks (cls c) = true) → tw ks s = s
  | [], _ => rfl
  | x :: r, h => by
    have := tw_all (ks := ks) (s := r) (fun c hc => h c (List.mem_cons_of_mem _ hc))
    simp only [tw, List.takeWhile_cons] at this ⊢
    rw [h x (by simp), if_pos rfl, this]
theorem getD_mem {s : Str} (h : s ≠ []) : s.getD 0 0 ∈ s := by
  cases s with
  | nil => exact absurd rfl h
  | cons x r => simp
theorem word_step {t : Tk} (h : valid t = true) : word t ≠ [] ∧ cls ((word t).getD 0 0) ≠ 1 ∧ Lib.hasPrefix (word t) [47, 47] = false ∧ pS (word t) = .tok (word t).length (at' t 0) := by
  obtain ⟨kind, text, n, pos⟩ := t
  have hv := h
  unfold valid at h
  simp only at h
  split at h
  · rename_i hk
    have hk : kind = 1 := by simpa using hk
    subst hk
    simp only [Bool.and_eq_true, beq_iff_eq] at h
    obtain ⟨hl, rfl⟩ := h
    have hw : word ⟨1, text, 0, pos⟩ = text := rfl
    rw [hw]
    have hl2 := hl
    simp only [lname, Bool.and_eq_true, Bool.not_eq_true', Bool.or_eq_false_iff, beq_eq_false_iff_ne, bne_eq_false_iff_eq, List.all_eq_true] at hl2
    obtain ⟨⟨⟨hne, _⟩, hc⟩, hall⟩ := hl2
    have hno : Lib.hasPrefix text [47, 47] = false := by
      cases text with
      | nil => exact absurd rfl hne
      | cons x r =>
        have hx : x ≠ 47 := by rintro rfl; rw [show (47 :: r : Str).getD 0 0 = 47 from rfl, cls47] at hc; cases hc
        have : (47 == x) = false := by simpa using fun h => hx h.symm
        simp [Lib.hasPrefix, List.isPrefixOf, this]
    refine ⟨hne, by rw [hc]; decide, hno, ?_⟩
    have htw : tw [2, 3, 5] text = text := tw_all fun c hcm => by
      have := hall c hcm
      rw [has3]
      simp only [clsOk, Bool.not_eq_true'] at this
      cases h2 : cls c == 2 <;> cases h3 : cls c == 3 <;> cases h5 : cls c == 5 <;> simp_all
    unfold pS pStep
    rw [hc]
    simp only [htw, nameSt]
    rw [if_neg (by decide), if_pos (by simp [valid, hl])]
    rfl
  · split at h
    · rename_i _ hk
      have hk : kind = 2 := by simpa using hk
      subst hk
      simp only [Bool.and_eq_true, beq_iff_eq, decide_eq_true_eq] at h
      obtain ⟨⟨rfl, h0⟩, h1⟩ := h
      have hw : word ⟨2, [], n, pos⟩ = Lib.decDigits n.toNat := by
        show Lib.itoa n = _
        rw [Lib.itoa, if_neg (by omega)]
      obtain ⟨hd, hv2, hne⟩ := dec_dig n.toNat
      rw [hw]
      have hc : cls ((Lib.decDigits n.toNat).getD 0 0) = 3 := fig_cls (hd _ (getD_mem hne))
      have hno : Lib.hasPrefix (Lib.decDigits n.toNat) [47, 47] = false := by
        cases hq : Lib.decDigits n.toNat with
        | nil => exact absurd hq hne
        | cons x r =>
          have hx : x ≠ 47 := by rintro rfl; rw [hq] at hc; rw [show (47 :: r : Str).getD 0 0 = 47 from rfl, cls47] at hc; cases hc
          have : (47 == x) = false := by simpa using fun h => hx h.symm
          simp [Lib.hasPrefix, List.isPrefixOf, this]
      refine ⟨hne, by rw [hc]; decide, hno, ?_⟩
      have htw : tw [3] (Lib.decDigits n.toNat) = Lib.decDigits n.toNat := tw_all fun c hcm => by rw [has1, fig_cls (hd c hcm)]; rfl
      have ha := atoi_eq hd hne
      rw [hv2, if_pos (by omega)] at ha
      have hn : (n.toNat : Int) = n := by omega
      rw [hn] at ha
      have hi : (Lib.itoa n == Lib.decDigits n.toNat) = true := by
        rw [show Lib.itoa n = Lib.decDigits n.toNat from hw]; simp
      unfold pS pStep
      rw [hc]
      simp only [htw, numSt, ha, hi]
      rw [if_neg (by decide), if_pos trivial, if_pos (by simp [valid]; omega)]
      rfl
    · split at h
      · rename_i _ _ hk
        have hk : kind = 3 := by simpa using hk
        subst hk
        simp only [Bool.and_eq_true, beq_iff_eq] at h
        obtain ⟨⟨hl, hc⟩, rfl⟩ := h
        have hw : word ⟨3, text, 0, pos⟩ = text := rfl
        rw [hw]
        match text, hl with
        | [x], _ =>
          have hc : cls x = 4 := hc
          refine ⟨by simp, by show cls x ≠ 1; rw [hc]; decide, by simp [Lib.hasPrefix, List.isPrefixOf], ?_⟩
          unfold pS pStep
          rw [show ([x] : Str).getD 0 0 = x from rfl, hc]
          simp only [signSt]
          rw [if_neg (by decide), if_neg (by simp [Lib.hasPrefix, List.isPrefixOf])]
          rw [show ([x] : Str).take 1 = [x] from rfl, if_pos (valid_sign hc)]
          rfl
        | [], hl => simp at hl
        | _ :: _ :: _, hl => simp at hl; omega
      · cases h
/-- A word, and a space behind it. -/
theorem word_app {t : Tk} (h : valid t = true) {r : Str} (hr : r = [] ∨ ∃ c b, r = c :: b ∧ cls c = 1) : pS (word t ++ r) = .tok (word t).length (at' t 0) := by
  obtain ⟨h1, h2, h3, h4⟩ := word_step h
  rcases hr with rfl | ⟨c, b, rfl, hc⟩
  · rw [List.append_nil]; exact h4
  · rw [app_step h1 hc (fun hp => by rw [h3] at hp; cases hp)]; exact h4

/-! What stands between words. -/
def Gap (g : Str) : Prop := ∀ r a, lexS (g ++ r) a = lexS r (a + g.length)
theorem gap_nil : Gap [] := fun r a => rfl
theorem gap_app {g h : Str} (hg : Gap g) (hh : Gap h) : Gap (g ++ h) := fun r a => by
  rw [List.append_assoc, hg, hh, List.length_append, Nat.add_assoc]
theorem gap_sp {c : UInt8} (h : cls c = 1) : Gap [c] := fun r a => skip_sp h
theorem gap_cmt {w : Str} (h : ∀ c ∈ w, c ≠ 10) : Gap (47 :: 47 :: w ++ [10]) := fun r a => by
  have e : 47 :: 47 :: w ++ [10] ++ r = (47 :: 47 :: w) ++ 10 :: r := by simp
  have hs : (47 :: 47 :: w : Str) ≠ [] := by simp
  have hp : Lib.hasPrefix (47 :: 47 :: w) [47, 47] = true := by simp [Lib.hasPrefix, List.isPrefixOf]
  have hc : cmt (47 :: 47 :: w) = (47 :: 47 :: w).length := by
    rw [cmt_tw]
    congr 1
    have : ∀ s : Str, (∀ c ∈ s, c ≠ 10) → s.takeWhile notNl = s := by
      intro s hs
      induction s with
      | nil => rfl
      | cons x r ih =>
        have hx : notNl x = true := by
          have := hs x (by simp)
          simp only [notNl, Bool.not_eq_true', beq_eq_false_iff_ne]
          intro h; apply this
          exact UInt8.toNat_inj.1 (by show x.toNat = 10; omega)
        rw [List.takeWhile_cons, hx, if_pos rfl, ih (fun c hc => hs c (List.mem_cons_of_mem _ hc))]
    refine this _ fun c hcm => ?_
    simp only [List.mem_cons] at hcm
    rcases hcm with rfl | rfl | hcm
    · decide
    · decide
    · exact h c hcm
  have hst : pS (47 :: 47 :: w) = .skip (47 :: 47 :: w).length := by
    unfold pS pStep
    rw [show (47 :: 47 :: w : Str).getD 0 0 = 47 from rfl, cls47]
    simp only [signSt]
    rw [if_neg (by decide), if_pos hp, hc]
  rw [e, lexS_skip (by simp) ((step_nl hs).trans hst), List.drop_left, skip_sp cls10]
  simp only [List.length_append, List.length_cons, List.length_nil]
  rfl

/-! Words with gaps. -/
def ren : List (Tk × Str) → Str
  | [] => []
  | (t, g) :: l => word t ++ (g ++ ren l)
def place : Nat → List (Tk × Str) → List Tk
  | _, [] => []
  | a, (t, g) :: l => at' t a :: place (a + (word t).length + g.length) l
def RenOk : List (Tk × Str) → Prop
  | [] => True
  | (t, g) :: l => valid t = true ∧ Gap g ∧ (g = [] ∧ l = [] ∨ ∃ c r, g = c :: r ∧ cls c = 1) ∧ RenOk l
theorem lex_ren : ∀ (l : List (Tk × Str)) (a : Nat), RenOk l → lexS (ren l) a = .ok (place a l)
  | [], a, _ => rfl
  | (t, g) :: l, a, ⟨hv, hg, hh, ho⟩ => by
    have hne := (word_step hv).1
    have hr : g ++ ren l = [] ∨ ∃ c b, g ++ ren l = c :: b ∧ cls c = 1 := by
      rcases hh with ⟨rfl, rfl⟩ | ⟨c, r, rfl, hc⟩
      · exact .inl rfl
      · exact .inr ⟨c, r ++ ren l, rfl, hc⟩
    show lexS (word t ++ (g ++ ren l)) a = _
    rw [lexS_tok (by simp [hne]) (word_app hv hr), List.drop_left, hg, lex_ren l _ ho]
    rfl
theorem same_place : ∀ (l : List (Tk × Str)) (a : Nat), (place a l).length = l.length ∧ ((l.map Prod.fst).zip (place a l)).all (fun q => sameT q.1 q.2) = true
  | [], a => ⟨rfl, rfl⟩
  | (t, g) :: l, a => by
    obtain ⟨h1, h2⟩ := same_place l (a + (word t).length + g.length)
    refine ⟨by simp [place, h1], ?_⟩
    simp only [List.map_cons, place, List.zip_cons_cons, List.all_cons, h2, Bool.and_true]
    simp [sameT, at']
theorem same_ren (l : List (Tk × Str)) (a : Nat) : sameM (l.map Prod.fst) (place a l) = true := by
  obtain ⟨h1, h2⟩ := same_place l a
  rw [sameM, if_neg (by simp [h1])]
  exact h2
/-- What Text writes. -/
def pairs : List Tk → List (Tk × Str)
  | [] => []
  | [x] => [(x, [])]
  | x :: y :: r => (x, [32]) :: pairs (y :: r)
theorem pairs_fst : ∀ l : List Tk, (pairs l).map Prod.fst = l
  | [] => rfl
  | [x] => rfl
  | x :: y :: r => by
    have := pairs_fst (y :: r)
    simp only [pairs, List.map_cons, this]
theorem pairs_ren : ∀ l : List Tk, ren (pairs l) = Lib.join (l.map word) [32]
  | [] => rfl
  | [x] => by simp [pairs, ren, Lib.join_one]
  | x :: y :: r => by
    have := pairs_ren (y :: r)
    have e : Lib.join ((x :: y :: r).map word) [32] = word x ++ ([32] ++ Lib.join ((y :: r).map word) [32]) := by
      simp only [List.map_cons, Lib.join_cons, Lib.joinTail, List.map_cons, List.flatten_cons, List.append_assoc]
    rw [e, ← this]; rfl
theorem pairs_ok : ∀ l : List Tk, l.all valid = true → RenOk (pairs l)
  | [], _ => trivial
  | [x], h => ⟨by simpa using h, gap_nil, .inl ⟨rfl, rfl⟩, trivial⟩
  | x :: y :: r, h => by
    simp only [List.all_cons, Bool.and_eq_true] at h
    exact ⟨h.1, gap_sp cls32, .inr ⟨32, [], rfl, cls32⟩, pairs_ok (y :: r) (by simp only [List.all_cons, Bool.and_eq_true]; exact h.2)⟩
theorem back_ok {l : List Tk} (h : l.all valid = true) : ∃ m, lexR pStep (Lib.join (l.map word) [32]) 0 = .ok m ∧ sameM l m = true := by
  refine ⟨place 0 (pairs l), ?_, ?_⟩
  · rw [lexR_eq, ← pairs_ren]; exact lex_ren _ _ (pairs_ok l h)
  · have := same_ren (pairs l) 0
    rw [pairs_fst] at this; exact this
end Go.Fw.Lx
namespace Go.Fw.Lx
set_option linter.unusedSectionVars false
variable [GlobInt]
def wsum (l : List Tk) : Nat := (l.map fun t => (word t).length).sum
theorem lex_valid : ∀ (n : Nat) (s : Str) (a : Nat) (x : List Tk), s.length ≤ n → lexS s a = .ok x → x.all valid = true ∧ wsum x ≤ s.length ∧ x.length ≤ s.length
  | _, [], a, x, _, h => by
    have : x = [] := by
      have h : Except.ok [] = Except.ok x := h
      simpa using h.symm
    subst this; exact ⟨rfl, Nat.le_refl _, Nat.le_refl _⟩
  | 0, c :: r, a, x, h, _ => by simp at h
  | n + 1, c :: r, a, x, h, hx => by
    have hs : c :: r ≠ [] := by simp
    cases hk : pS (c :: r) with
    | skip k =>
      have h1 := (pos_S c r).1 k hk
      have h2 := skip_len hs hk
      rw [lexS_skip hs hk] at hx
      have := lex_valid n _ _ x (by simp only [List.length_drop, List.length_cons] at h ⊢; omega) hx
      rw [List.length_drop] at this
      exact ⟨this.1, by omega, by omega⟩
    | tok k t =>
      have h1 := (pos_S c r).2 k t hk
      obtain ⟨hv, hw, _, h2⟩ := tok_S hk
      rw [lexS_tok hs hk] at hx
      cases hy : lexS ((c :: r).drop k) (a + k) with
      | error e => rw [hy] at hx; cases hx
      | ok y =>
        rw [hy] at hx
        have hx : at' t a :: y = x := by simpa [consE] using hx
        subst hx
        have := lex_valid n _ _ y (by simp only [List.length_drop, List.length_cons] at h ⊢; omega) hy
        rw [List.length_drop] at this
        have hl : (word (at' t a)).length = k := by
          show (word t).length = k
          rw [hw, List.length_take]; omega
        refine ⟨by rw [List.all_cons, this.1, Bool.and_true]; exact hv, ?_, ?_⟩
        · simp only [wsum, List.map_cons, List.sum_cons] at this ⊢; omega
        · simp only [List.length_cons] at *; omega
    | bad => rw [lexS_bad hs hk] at hx; cases hx
theorem valid_facts {t : Tk} (h : valid t = true) : t.text.length ≤ (word t).length ∧ InI t := by
  obtain ⟨kind, text, n, pos⟩ := t
  unfold valid at h
  simp only at h
  split at h
  · rename_i hk
    have hk : kind = 1 := by simpa using hk
    subst hk
    simp only [Bool.and_eq_true, beq_iff_eq] at h
    obtain ⟨_, rfl⟩ := h
    exact ⟨Nat.le_refl _, by show _ ≤ (0 : Int); decide, by show (0 : Int) ≤ _; decide⟩
  · split at h
    · simp only [Bool.and_eq_true, beq_iff_eq, decide_eq_true_eq] at h
      obtain ⟨⟨rfl, h0⟩, h1⟩ := h
      exact ⟨Nat.zero_le _, by show _ ≤ n; omega, by show n ≤ _; omega⟩
    · rename_i hk2
      split at h
      · simp only [Bool.and_eq_true, beq_iff_eq] at h
        obtain ⟨_, rfl⟩ := h
        refine ⟨?_, by show _ ≤ (0 : Int); decide, by show (0 : Int) ≤ _; decide⟩
        rw [word]
        simp only
        rw [if_neg hk2]; exact Nat.le_refl _
      · cases h
theorem lens_le : ∀ {l : List Tk}, l.all valid = true → lens l ≤ wsum l
  | [], _ => Nat.le_refl _
  | x :: r, h => by
    simp only [List.all_cons, Bool.and_eq_true] at h
    have h1 := (valid_facts h.1).1
    have h2 := lens_le h.2
    simp only [lens, wsum, List.map_cons, List.sum_cons] at h2 ⊢
    omega
theorem join_w : ∀ l : List Tk, (Lib.join (l.map word) [32]).length ≤ wsum l + l.length
  | [] => by simp [Lib.join_nil]
  | [x] => by simp [Lib.join_one, wsum]
  | x :: y :: r => by
    have h2 := join_w (y :: r)
    have e : Lib.join ((x :: y :: r).map word) [32] = word x ++ ([32] ++ Lib.join ((y :: r).map word) [32]) := by
      simp only [List.map_cons, Lib.join_cons, Lib.joinTail, List.map_cons, List.flatten_cons, List.append_assoc]
    rw [e]
    simp only [wsum, List.map_cons, List.sum_cons, List.length_append, List.length_cons, List.length_nil] at h2 ⊢
    omega
theorem rd_of {s : Str} {x : List Tk} (hs : s.length ≤ 65536) (h : lexR pStep s 0 = .ok x) : Rd x ∧ x.all valid = true ∧ (Lib.join (x.map word) [32]).length ≤ 2 * s.length := by
  rw [lexR_eq] at h
  obtain ⟨h1, h2, h3⟩ := lex_valid _ s 0 x (Nat.le_refl _) h
  have h4 := lens_le h1
  have h5 := join_w x
  exact ⟨⟨by omega, by omega, fun t ht => (valid_facts (List.all_eq_true.1 h1 t ht)).2⟩, h1, by omega⟩
theorem text_ok {l : List Tk} (h : l.all valid = true) : textM l = .tuple [.str (Lib.join (l.map word) [32]), .i 0] := by
  rw [textM, h]; rfl
theorem text_no {l : List Tk} (h : l.all valid = false) : textM l = .tuple [.str [], .i 30] := by
  rw [textM, h]; rfl
theorem few_is2 {l : List Tk} (h : fewM l = true) : l.length ≤ 200 ∧ lens l ≤ 2000 := by
  simp only [fewM, Bool.and_eq_true, decide_eq_true_eq] at h
  omega
theorem few_join {l : List Tk} (h : Rd l) (hf : fewM l = true) : decide (((Lib.join (l.map word) [32]).length : Int) > 65536) = false := by
  have := few_is2 hf
  have := join_short h.ini
  exact decide_eq_false (by omega)
theorem nb {n : Nat} {k : Int} (h : (n : Int) ≤ k) : decide ((n : Int) > k) = false := decide_eq_false (by omega)
/-- A name is one token. -/
theorem name_one {s : Str} (h : lname s = true) : lexR pStep s 0 = .ok [⟨1, s, 0, 0⟩] := by
  have hv : valid ⟨1, s, 0, 0⟩ = true := by simp [valid, h]
  have := lex_ren [(⟨1, s, 0, 0⟩, [])] 0 ⟨hv, gap_nil, .inl ⟨rfl, rfl⟩, trivial⟩
  rw [lexR_eq]
  have e : ren [((⟨1, s, 0, 0⟩ : Tk), ([] : Str))] = s := by simp [ren, word]
  rw [e] at this; exact this
end Go.Fw.Lx
namespace Go.Fw.Lx
set_option linter.unusedSectionVars false
variable [GlobInt]
theorem guard_no {p g : Bool} {A B : AV → Prop} (h1 : p = true) (hg : g = false) (h3 : B (.data (.b false))) : p = true ∧ ∃ v, (g = true → A v) ∧ B v :=
  ⟨h1, ⟨.data (.b false), ⟨fun h => Bool.noConfusion (hg.symm.trans h), h3⟩⟩⟩
theorem two_ne {t u : Tk} {r : List Tk} : (((t :: u :: r).length : Int) == 1) = false := by
  simp only [List.length_cons, beq_eq_false_iff_ne, ne_eq]; omega
end Go.Fw.Lx
