/- Package ranges in plain words: the laws Narrow and Sat: what is resolved stays resolved. -/
import Derived.Test.YtjgponkgifopaaaGreatDoorZFZ
import Derived.Test.YtjgponkgifopaaaGreatDoorZLL
set_option linter.unusedSimpArgs false
set_option linter.unusedVariables false
namespace Go.Fw.Rg
open Go.Fw Go.Fw.Ref15
set_option linter.unusedSectionVars false
variable [GlobInt]
structure SameN (q p : Pr) : Prop where
  par : bounds q.params = bounds p.params
  sta : q.states = p.states
  lin : q.lines = p.lines
  tab : q.tables = p.tables
theorem value_same {q p : Pr} {b : Nat} (h : SameN q p) (hb : q.stmts.take b = p.stmts.take b) (nm : Str) : value q nm b = value p nm b := by
  have e : given q nm b = given p nm b := by simp only [given, hb]
  rw [value, value, e, h.par, h.sta]
theorem exIndex_same {q p : Pr} (h : SameN q p) (x : Ex) : exIndex q x = exIndex p x := by simp only [exIndex, Ref15.tables, Ref15.lines, h.lin, h.tab]
theorem resolved_same {q p : Pr} {b : Nat} (h : SameN q p) (hb : q.stmts.take b = p.stmts.take b) : ∀ x, resolved q b x = resolved p b x := by
  refine Ex.ind fun x ih => ?_
  have hL : ∀ l : List Ex, (∀ y ∈ l, y ∈ x.l) → resolvedL q b l = resolvedL p b l := by
    intro l
    induction l with
    | nil => intro _; rfl
    | cons y r ihr =>
      intro hl
      rw [resolvedL, resolvedL, ih y (hl y (by simp)), ihr fun z hz => hl z (by simp [hz])]
  rw [resolved_eq, resolved_eq, value_same h hb, exIndex_same h, hL x.l fun _ h => h]
theorem again_same {q p : Pr} {i : Nat} (hb : q.stmts.take i = p.stmts.take i) (s : Sm) : again q i s = again p i s := by simp only [again, hb]
theorem smIndex_same {q p : Pr} (h : SameN q p) (s : Sm) : smIndex q s = smIndex p s := by simp only [smIndex, Ref15.lines, h.lin, h.sta]
theorem resolveL_same {q p : Pr} (h : SameN q p) (hs : q.stmts = p.stmts) : ∀ (r : List Sm) (i : Nat) (out : Bool), resolveL q r i out = resolveL p r i out
  | [], i, out => by rw [resolveL, resolveL]
  | s :: r, i, out => by
    rw [resolveL, resolveL, resolved_same h (by rw [hs]), smIndex_same h, again_same (q := q) (p := p) (by rw [hs]), resolveL_same h hs r]
theorem resolveL_make {p : Pr} {s t : Sm} {r l : List Sm} {i : Nat} {out : Bool} (h1 : (resolved p i s.x).2 = true) (h2 : 0 ≤ smIndex p s) (h3 : again p i s = false) (h4 : resolveL p r (i + 1) (s.kind == 4) = .ok l) (h5 : t = ⟨s.kind, s.name, smIndex p s, (resolved p i s.x).1⟩) : resolveL p (s :: r) i out = .ok (t :: l) := by
  rw [resolveL, h1, h3, h4, h5]
  rw [if_neg (by decide), if_neg (by simp only [decide_eq_true_eq]; omega), if_neg (by decide)]
def lastM (p : Pr) (init : List Sm) (x : Ex) : Pr := { p with stmts := init ++ [⟨4, [], 0, x⟩] }
theorem lastM_sameN (p : Pr) (init : List Sm) (x : Ex) : SameN (lastM p init x) p := ⟨rfl, rfl, rfl, rfl⟩
theorem take_last {init : List Sm} (s t : Sm) {i : Nat} (h : i ≤ init.length) : (init ++ [s]).take i = (init ++ [t]).take i := by
  rw [List.take_append_of_le_length h, List.take_append_of_le_length h]
theorem out_form {p : Pr} {init : List Sm} {s : Sm} (hp : p.stmts = init ++ [s]) (hk : (s.kind == 4) = true) (h : Res p) : s = ⟨4, [], 0, s.x⟩ ∧ resolved p init.length s.x = (s.x, true) := by
  have hk : s.kind = 4 := by simpa using hk
  have hf : stmtOk s = true := List.all_eq_true.1 h.fo s (by rw [hp]; simp)
  have hn : s.name = [] := by
    simp only [stmtOk, hk, Bool.not_eq_true', Bool.or_eq_false_iff] at hf
    simpa using hf.1.2
  have key : ∀ (r : List Sm) (i : Nat) (out : Bool) (l : List Sm), resolveL p (r ++ [s]) i out = .ok l → l = r ++ [s] → i + r.length = init.length → s.index = 0 ∧ resolved p init.length s.x = (s.x, true) := by
    intro r
    induction r with
    | nil =>
      intro i out l h1 h2 h3
      obtain ⟨g1, g2, _, t, g3, g4⟩ := resolveL_cons h1
      subst h2
      simp only [List.nil_append, List.cons.injEq] at g4
      have e1 : smIndex p s = s.index := congrArg Sm.index g4.1.symm
      have e2 : (resolved p i s.x).1 = s.x := congrArg Sm.x g4.1.symm
      have h3 : i = init.length := by simpa using h3
      subst h3
      refine ⟨?_, Prod.ext e2 g1⟩
      rw [← e1, smIndex, hk]; rfl
    | cons y r ih =>
      intro i out l h1 h2 h3
      obtain ⟨_, _, _, t, g3, g4⟩ := resolveL_cons h1
      subst h2
      simp only [List.cons_append, List.cons.injEq] at g4
      exact ih (i + 1) _ t g3 g4.2.symm (by simp only [List.length_cons] at h3; omega)
  have hr := h.ru
  rw [hp] at hr
  obtain ⟨h1, h2⟩ := key init 0 false _ hr rfl (by simp)
  refine ⟨?_, h2⟩
  obtain ⟨a, b, c, d⟩ := s
  simp only [Sm.kind, Sm.name, Sm.index] at hk hn h1
  subst hk hn h1; rfl
theorem run_last {p : Pr} {init : List Sm} {s : Sm} {x : Ex} (hp : p.stmts = init ++ [s]) (hs : s = ⟨4, [], 0, s.x⟩) (hx : resolved (lastM p init x) init.length x = (x, true)) : ∀ (r : List Sm) (i : Nat) (out out' : Bool), i + r.length = init.length → resolveL p (r ++ [s]) i out = .ok (r ++ [s]) → resolveL (lastM p init x) (r ++ [⟨4, [], 0, x⟩]) i out' = .ok (r ++ [⟨4, [], 0, x⟩])
  | [], i, out, out', hi, h => by
    obtain ⟨_, _, g3, _, _, _⟩ := resolveL_cons h
    have hi : i = init.length := by simpa using hi
    subst hi
    refine resolveL_make (by simp only; rw [hx]) (by simp [smIndex]) ?_ (by rw [resolveL]; rfl) (by simp only; rw [hx]; rfl)
    rw [hs] at g3
    rw [← g3]
    simp only [again, lastM, hp]
    rw [take_last s ⟨4, [], 0, x⟩ (Nat.le_refl _)]
  | y :: r, i, out, out', hi, h => by
    obtain ⟨g1, g2, g3, t, g4, g5⟩ := resolveL_cons h
    simp only [List.cons_append, List.cons.injEq] at g5
    obtain ⟨g5, rfl⟩ := g5
    simp only [List.length_cons] at hi
    have ht : (lastM p init x).stmts.take i = p.stmts.take i := by
      simp only [lastM, hp]; exact take_last _ _ (by omega)
    refine resolveL_make (by rw [resolved_same (lastM_sameN p init x) ht]; exact g1) (by rw [smIndex_same (lastM_sameN p init x)]; exact g2) (by rw [again_same ht]; exact g3) (run_last hp hs hx r (i + 1) _ _ (by omega) g4) ?_
    rw [resolved_same (lastM_sameN p init x) ht, smIndex_same (lastM_sameN p init x)]; exact g5
theorem lets_last (init : List Sm) (s : Sm) (hk : (s.kind == 4) = true) (x : Ex) : lets (init ++ [s]) = lets (init ++ [⟨4, [], 0, x⟩]) := by
  have hk : s.kind = 4 := by simpa using hk
  simp [lets, List.filter_append, List.filter_cons, hk]
theorem res_zero {p : Pr} {init : List Sm} {s : Sm} (hp : p.stmts = init ++ [s]) (hk : (s.kind == 4) = true) (h : Res p) : Res (lastM p init (numM 0)) := by
  obtain ⟨hs, _⟩ := out_form hp hk h
  have hlen : (lastM p init (numM 0)).stmts.length = p.stmts.length := by simp [lastM, hp]
  have hdec : Declared (lastM p init (numM 0)) = Declared p := by
    simp only [Declared, Ref15.lines, Ref15.tables, hp]
    rw [lets_last init s hk (numM 0)]; rfl
  refine ⟨?_, ?_, h.nm, ?_, ?_, ?_, ?_⟩
  · have := h.fo
    simp only [Formed, hp, List.all_append, Bool.and_eq_true] at this
    simp only [Formed, lastM, List.all_append, Bool.and_eq_true]
    exact ⟨this.1, by decide⟩
  · have := h.li
    rw [limited_eq] at this ⊢
    simp only [Bool.and_eq_true] at this ⊢
    obtain ⟨a, b, c, d, e⟩ := this
    refine ⟨?_, b, c, ?_, e⟩
    · rw [← a]; simp only [few, hlen]; rfl
    · simp only [hp, List.all_append, Bool.and_eq_true] at d
      simp only [lastM, List.all_append, Bool.and_eq_true]
      exact ⟨d.1, by decide⟩
  · rw [hdec]; exact h.dn
  · rw [hdec]; exact h.un
  · have := h.ra
    rw [ranged_eq] at this ⊢
    simp only [Bool.and_eq_true] at this ⊢
    obtain ⟨a, b, c, d, e⟩ := this
    refine ⟨a, b, c, d, ?_⟩
    simp only [smsOk, hp, List.all_append, Bool.and_eq_true] at e
    simp only [smsOk, lastM, List.all_append, Bool.and_eq_true]
    exact ⟨e.1, by decide⟩
  · have hr := h.ru
    rw [hp] at hr
    exact run_last hp hs (by rw [resolved_eq]; rfl) init 0 false false (by simp) hr
theorem res_nar {q p : Pr} (hn : SameN q p) (hq : q.name = p.name ∧ q.latency = p.latency ∧ q.tail = p.tail ∧ q.stmts = p.stmts) (hb : bdsOk q.params = true) (h : Res p) : Res q := by
  obtain ⟨e1, e2, e3, e4⟩ := hq
  have hpl : q.params.length = p.params.length := by
    have := congrArg List.length hn.par
    simpa [bounds] using this
  have hdec : Declared q = Declared p := by simp only [Declared, hn.par, hn.sta, Ref15.lines, Ref15.tables, hn.lin, hn.tab, e4]
  refine ⟨?_, ?_, by rw [e1]; exact h.nm, by rw [hdec]; exact h.dn, by rw [hdec]; exact h.un, ?_, ?_⟩
  · have := h.fo; simp only [Formed, e4] at this ⊢; exact this
  · have := h.li
    rw [limited_eq] at this ⊢
    simp only [few, memOk, hpl, hn.sta, hn.lin, hn.tab, e4, e2, e3] at this ⊢
    exact this
  · have := h.ra
    rw [ranged_eq] at this ⊢
    simp only [hn.sta, hn.lin, hn.tab, e4, Bool.and_eq_true] at this ⊢
    exact ⟨hb, this.2⟩
  · rw [resolveL_same hn e4, e4]; exact h.ru
end Go.Fw.Rg
namespace Go.Fw.Rg
open Go.Fw Go.Fw.Ref15
set_option linter.unusedSectionVars false
variable [GlobInt]
theorem findM_decl {q p : Pr} (h1 : q.params = p.params) (h2 : q.states = p.states) (h3 : q.lines = p.lines) (h4 : q.tables = p.tables) (F : List Sp) : ∀ x, findM q F x = findM p F x := by
  refine Ex.ind fun x ih => ?_
  have hL : ∀ l : List Ex, (∀ y ∈ l, y ∈ x.l) → findL q F l = findL p F l := by
    intro l
    induction l with
    | nil => intro _; rfl
    | cons y r ihr =>
      intro hl
      rw [findL, findL, ih y (hl y (by simp)), ihr fun z hz => hl z (by simp [hz])]
  have hO : ∀ (k i m : Int) (l : List Sp), opM q F k i m l = opM p F k i m l := by
    intro k i m l
    simp only [opM, paramAt, stateAt, lineAt, tableAt, h1, h2, h3, h4]
  rw [findM_eq, findM_eq, hL x.l fun _ h => h]
  cases findL p F x.l with
  | error e => rfl
  | ok s => exact hO _ _ _ _
theorem findM_found {p : Pr} {F G : List Sp} {n : Nat} (h : ∀ i : Nat, i < n → F.getD i (0, 0) = G.getD i (0, 0)) : ∀ x, wfX p n x = true → findM p F x = findM p G x := by
  refine Ex.ind fun x ih hw => ?_
  obtain ⟨g1, g2, g3⟩ := wfX_parts hw
  have hL : ∀ l : List Ex, (∀ y ∈ l, y ∈ x.l) → findL p F l = findL p G l := by
    intro l
    induction l with
    | nil => intro _; rfl
    | cons y r ihr =>
      intro hl
      rw [findL, findL, ih y (hl y (by simp)) (wfL_mem g3 y (hl y (by simp))), ihr fun z hz => hl z (by simp [hz])]
  rw [findM_eq, findM_eq, hL x.l fun _ h => h]
  cases findL p G x.l with
  | error e => rfl
  | ok s =>
    show opM p F _ _ _ _ = opM p G _ _ _ _
    by_cases hk : x.kind = 5
    · have := own_k5 g2 (by rw [hk]; rfl)
      rw [hk]
      simp only [opM]
      rw [h x.index.toNat (by omega)]
    · have hk : (x.kind == 5) = false := by simpa using hk
      simp only [opM, hk]
      rfl
theorem within_decl {q p : Pr} (h2 : q.states = p.states) (h3 : q.lines = p.lines) (s : Sm) (f : Sp) : within q s f = within p s f := by
  simp only [within, boundsM, stateAt, lineAt, h2, h3]
theorem stmtsM_decl {q p : Pr} (h1 : q.params = p.params) (h2 : q.states = p.states) (h3 : q.lines = p.lines) (h4 : q.tables = p.tables) : ∀ (r : List Sm) (F : List Sp), stmtsM q r F = stmtsM p r F
  | [], F => by rw [stmtsM, stmtsM]
  | s :: r, F => by
    rw [stmtsM, stmtsM, findM_decl h1 h2 h3 h4]
    cases findM p F s.x with
    | error e => rfl
    | ok f =>
      simp only
      rw [within_decl h2 h3, stmtsM_decl h1 h2 h3 h4 r]
theorem stmtsM_app {p : Pr} (s : Sm) : ∀ (r : List Sm) (F : List Sp), stmtsM p (r ++ [s]) F = match stmtsM p r F with | .error e => .error e | .ok G => stmtsM p [s] G
  | [], F => by rw [List.nil_append]; conv => rhs; rw [stmtsM]
  | t :: r, F => by
    rw [List.cons_append, stmtsM, stmtsM]
    cases findM p F t.x with
    | error e => rfl
    | ok f =>
      simp only
      cases within p t f with
      | false => rfl
      | true => simp only [if_true]; exact stmtsM_app s r _
theorem stm_one {p : Pr} {F : List Sp} {s : Sm} {f : Sp} (h : findM p F s.x = .ok f) (hw : within p s f = true) : stmtsM p [s] F = .ok (F ++ [f]) := by
  rw [stmtsM, h]; simp only [hw, if_true]; rw [stmtsM]
theorem stm_oneE {p : Pr} {F : List Sp} {s : Sm} {e : Int} (h : findM p F s.x = .error e) : stmtsM p [s] F = .error e := by rw [stmtsM, h]
theorem given_kind {s : Str} : ∀ (l : List Sm) (i : Int), 0 ≤ i → 0 ≤ givenFrom s l i → i ≤ givenFrom s l i ∧ ((l.getD (givenFrom s l i - i).toNat Sm.none).kind == 1) = true
  | [], i, _, h => by simp [givenFrom] at h
  | x :: r, i, hi, h => by
    simp only [givenFrom] at h ⊢
    split
    · rename_i hq
      simp only [Bool.and_eq_true] at hq
      refine ⟨Int.le_refl _, ?_⟩
      rw [show (i - i).toNat = 0 by omega]; exact hq.1
    · rename_i hq
      rw [if_neg hq] at h
      obtain ⟨a, b⟩ := given_kind r (i + 1) (by omega) h
      refine ⟨by omega, ?_⟩
      rw [show (givenFrom s r (i + 1) - i).toNat = (givenFrom s r (i + 1) - (i + 1)).toNat + 1 by omega]; exact b
theorem own_of {p : Pr} {init : List Sm} {y x : Ex} (hp : p.stmts.take init.length = init) (hx : resolved p init.length x = (x, true)) (hw : wfX p init.length x = true) : own16 (lastM p init y) x = true := by
  obtain ⟨g1, g2, g3⟩ := wfX_parts hw
  by_cases h5 : x.kind = 5
  · have h0 := own_k5 g2 (by rw [h5]; rfl)
    rw [resolved_eq, if_pos (by rw [h5]; rfl), value] at hx
    simp only at hx
    have hg : given p x.name init.length = x.index := by
      split at hx
      · split at hx
        · exact congrArg (fun q => q.1.index) hx
        · have this : (4 : Int) = x.kind := congrArg (fun q => q.1.kind) hx
          rw [h5] at this; exact absurd this (by decide)
      · have this : (3 : Int) = x.kind := congrArg (fun q => q.1.kind) hx
        rw [h5] at this; exact absurd this (by decide)
    rw [given, hp] at hg
    have hkk := (given_kind init 0 (Int.le_refl _) (by rw [hg]; exact h0.1)).2
    rw [hg, Int.sub_zero] at hkk
    have hst : (lastM p init y).stmts.getD x.index.toNat Sm.none = init.getD x.index.toNat Sm.none := by
      simp only [lastM, List.getD_eq_getElem?_getD]
      rw [List.getElem?_append_left (by omega)]
    rw [h5] at g1
    rw [own16, h5, hst, hkk]
    have hlen : (lastM p init y).stmts.length = init.length + 1 := by simp [lastM]
    rw [hlen]
    have g1 : (x.l.length : Int) = 0 := g1
    rw [g1]
    rw [if_neg (by decide), if_neg (by decide), if_neg (by decide), if_neg (by decide), if_neg (by decide), if_neg (by decide), if_neg (by decide), if_pos (by decide)]
    rw [decide_eq_true (show x.index ≥ 0 from h0.1), decide_eq_true (by omega)]; rfl
  · rcases kinds g2 with r | r | r | r | r | r | r | r | r | r | r | r | r | r | r | r | r | r <;> first
      | exact absurd r h5
      | (rw [r] at g1 g2
         simp [ownW] at g2
         simp [own16, r, parts16, Ref15.parts, lastM, Bool.cond_false_right] at g1 ⊢
         try simp only [decide_eq_true_eq]
         first | omega | exact ⟨g1, by omega⟩ | exact ⟨g1, by omega, decide_eq_true (by omega)⟩)
theorem cnt_of {p : Pr} {init : List Sm} {y : Ex} (hp : p.stmts.take init.length = init) : ∀ x : Ex, ∀ most : Int, resolved p init.length x = (x, true) → wfX p init.length x = true → (Ref15.nodes x : Int) ≤ most → countM (lastM p init y) x most = Ref15.nodes x := by
  refine Ex.ind fun x ih most hx hw hn => ?_
  have hN := Ref15.nodes_eq x
  rw [countM_eq, own_of hp hx hw, decide_eq_false (by omega)]
  rw [if_neg (by decide)]
  obtain ⟨g1, g2, g3⟩ := wfX_parts hw
  have hr : ∀ z ∈ x.l, resolved p init.length z = (z, true) := by
    intro z hz
    rw [resolved_eq] at hx
    by_cases hN : (named x.kind && x.kind != 8 && x.kind != 9) = true
    · exfalso
      have : Ref15.parts x.kind = 0 := by
        simp only [named, Bool.and_eq_true, bne_iff_ne] at hN
        rcases kinds g2 with h | h | h | h | h | h | h | h | h | h | h | h | h | h | h | h | h | h <;> rw [h] at hN ⊢ <;> first | rfl | (exfalso; simp at hN; done)
      rw [this] at g1
      have : x.l.length = 0 := by omega
      rw [List.length_eq_zero_iff] at this; rw [this] at hz; simp at hz
    · rw [if_neg hN] at hx
      have e1 : (resolvedL p init.length x.l).1 = x.l := congrArg (fun q => q.1.l) hx
      have e3 : (decide (exIndex p x ≥ 0) && (resolvedL p init.length x.l).2) = true := congrArg Prod.snd hx
      simp only [Bool.and_eq_true] at e3
      exact resolvedL_mem (Prod.ext e1 e3.2) z hz
  have hL : ∀ (l : List Ex), (∀ z ∈ l, z ∈ x.l) → ∀ n : Int, 1 ≤ n → n + Ref15.nodesL l ≤ most → countL (lastM p init y) l most n = n + Ref15.nodesL l := by
    intro l
    induction l with
    | nil => intro _ n _ _; rw [countL]; simp [Ref15.nodesL]
    | cons z r ihr =>
      intro hl n h1 h2
      simp only [Ref15.nodesL] at h2 ⊢
      have hz := ih z (hl z (by simp)) (most - n) (hr z (hl z (by simp))) (wfL_mem g3 z (hl z (by simp))) (by omega)
      rw [countL, hz, if_neg (by omega), ihr (fun w hw => hl w (by simp [hw])) _ (by omega) (by omega)]
      omega
  rw [hL x.l (fun _ h => h) 1 (Int.le_refl _) (by omega)]
  omega
theorem fits_last {p : Pr} {init : List Sm} {s : Sm} {y : Ex} (hp : p.stmts = init ++ [s]) (hk : (s.kind == 4) = true) (h : Res p) : fitsB (lastM p init y) s.x = true ∧ wfX p init.length s.x = true := by
  obtain ⟨_, hr⟩ := out_form hp hk h
  have hw : wfX p init.length s.x = true := by
    refine wf_ex h.tb _ _ ?_ ?_ hr
    · have hf : stmtOk s = true := List.all_eq_true.1 h.fo s (by rw [hp]; simp)
      simp only [stmtOk, Bool.not_eq_true', Bool.or_eq_false_iff, Bool.not_eq_false'] at hf
      exact hf.2
    · have := h.ra
      rw [ranged_eq] at this
      simp only [Bool.and_eq_true, smsOk] at this
      exact List.all_eq_true.1 this.2.2.2.2 s (by rw [hp]; simp)
  have hn : (Ref15.nodes s.x : Int) ≤ 512 := by
    have := h.li
    rw [limited_eq] at this
    simp only [Bool.and_eq_true] at this
    have := List.all_eq_true.1 this.2.2.2.1 s (by rw [hp]; simp)
    simp only [exprOk, Bool.not_eq_true', decide_eq_false_iff_not] at this
    omega
  refine ⟨?_, hw⟩
  have hc := cnt_of (y := y) (p := p) (init := init) (by rw [hp]; simp) s.x 512 hr hw hn
  rw [← fitsB_count, hc]
  have := Ref15.nodes_eq s.x
  exact decide_eq_true (by omega)
abbrev noneM (p : Pr) (init : List Sm) : Pr := lastM p init (numM 0)
abbrev satM (p : Pr) (init : List Sm) (s : Sm) : Pr := lastM p init (applyM 10 [s.x])
theorem clip_rng (a : Int) : -2147483648 ≤ clipM a ∧ clipM a ≤ 2147483647 := by simp only [clipM]; (repeat' split) <;> omega
theorem win_out {p : Pr} {x : Ex} {f : Sp} (h1 : -2147483648 ≤ f.1) (h2 : f.2 ≤ 2147483647) : within p ⟨4, [], 0, x⟩ f = true := by
  rw [within, bnd4 rfl rfl rfl, decide_eq_true (show f.1 ≥ -2147483648 by omega), decide_eq_true h2]; rfl
theorem find_num (p : Pr) (F : List Sp) (n : Int) : findM p F (numM n) = .ok (n, n) := by rw [findM_eq]; rfl
theorem find_sat {p : Pr} {F : List Sp} {x : Ex} : findM p F (applyM 10 [x]) = match findM p F x with | .error e => .error e | .ok t => .ok (clipM t.1, clipM t.2) := by
  rw [findM_eq]
  show (match findL p F [x] with | Except.error e => Except.error e | Except.ok s => opM p F 10 0 0 s) = _
  rw [findL]
  cases findM p F x with
  | error e => rfl
  | ok t => simp only; rw [findL]; rfl
theorem last_run (p : Pr) (init : List Sm) (x : Ex) : stmtsM (lastM p init x) (lastM p init x).stmts [] = match stmtsM p init [] with | .error e => .error e | .ok F => stmtsM p [⟨4, [], 0, x⟩] F := by
  rw [stmtsM_decl (q := lastM p init x) (p := p) rfl rfl rfl rfl]
  exact stmtsM_app _ _ _
theorem none_bad {p : Pr} {init : List Sm} {s : Sm} (hN : Res (noneM p init)) (hQ : Res (satM p init s)) (h : (boundsR (noneM p init)).2 ≠ 0) : (boundsR (noneM p init)).2 = (boundsR (satM p init s)).2 := by
  have h1 := last_run p init (numM 0)
  have h2 := last_run p init (applyM 10 [s.x])
  cases hB : stmtsM p init [] with
  | error e =>
    rw [hB] at h1 h2
    rw [boundsR_bad (res_resE hN) h1, boundsR_bad (res_resE hQ) h2]
  | ok F =>
    rw [hB] at h1
    exfalso; apply h
    rw [boundsR_ok (res_resE hN) (h1.trans (stm_one (find_num p F 0) (win_out (by decide) (by decide))))]
theorem none_ok {p : Pr} {init : List Sm} {s : Sm} (hp : p.stmts = init ++ [s]) (hk : (s.kind == 4) = true) (hP : Res p) (hN : Res (noneM p init)) (h : (boundsR (noneM p init)).2 = 0) : ∃ F, stmtsM p init [] = .ok F ∧ F.length = init.length ∧ intervalR (noneM p init) s.x = findM p F s.x := by
  have h1 := last_run p init (numM 0)
  cases hB : stmtsM p init [] with
  | error e =>
    rw [hB] at h1
    rw [boundsR_bad (res_resE hN) h1] at h
    have := stm_ne init [] e hB
    simp only at h; omega
  | ok F =>
    rw [hB] at h1
    have h2 := h1.trans (stm_one (find_num p F 0) (win_out (by decide) (by decide)))
    have h3 := boundsR_ok (res_resE hN) h2
    have hl : F.length = init.length := by
      have := (bok_of (res_resE hN) h2).len
      simp [lastM] at this; omega
    obtain ⟨f1, f2⟩ := fits_last (y := numM 0) hp hk hP
    refine ⟨F, rfl, hl, ?_⟩
    rw [intR_go h f1, h3]
    rw [findM_decl (q := noneM p init) (p := p) rfl rfl rfl rfl]
    refine findM_found (n := init.length) (fun i hi => ?_) s.x f2
    simp only [List.getD_eq_getElem?_getD]
    rw [List.getElem?_append_left (by omega)]
theorem sat_bad {p : Pr} {init : List Sm} {s : Sm} {f : Int} (hp : p.stmts = init ++ [s]) (hk : (s.kind == 4) = true) (hP : Res p) (hN : Res (noneM p init)) (hQ : Res (satM p init s)) (h : (boundsR (noneM p init)).2 = 0) (he : intervalR (noneM p init) s.x = .error f) : (boundsR (satM p init s)).2 = f ∧ (boundsR p).2 = f := by
  obtain ⟨F, hB, hl, hi⟩ := none_ok hp hk hP hN h
  rw [hi] at he
  constructor
  · have h2 := last_run p init (applyM 10 [s.x])
    rw [hB] at h2
    rw [boundsR_bad (res_resE hQ) (h2.trans (stm_oneE (by simp only; rw [find_sat, he])))]
  · have h2 : stmtsM p p.stmts [] = .error f := by
      rw [hp, stmtsM_app, hB]; exact stm_oneE he
    rw [boundsR_bad (res_resE hP) h2]
theorem sat_ok {p : Pr} {init : List Sm} {s : Sm} {t : Sp} (hp : p.stmts = init ++ [s]) (hk : (s.kind == 4) = true) (hP : Res p) (hN : Res (noneM p init)) (hQ : Res (satM p init s)) (h : (boundsR (noneM p init)).2 = 0) (he : intervalR (noneM p init) s.x = .ok t) : ∃ F, F.length = init.length ∧ boundsR (satM p init s) = (F ++ [(clipM t.1, clipM t.2)], 0) := by
  obtain ⟨F, hB, hl, hi⟩ := none_ok hp hk hP hN h
  rw [hi] at he
  refine ⟨F, hl, ?_⟩
  have h2 := last_run p init (applyM 10 [s.x])
  rw [hB] at h2
  have c1 := clip_rng t.1
  have c2 := clip_rng t.2
  exact boundsR_ok (res_resE hQ) (h2.trans (stm_one (f := (clipM t.1, clipM t.2)) (by simp only; rw [find_sat, he]) (win_out c1.1 c2.2)))
theorem stm_sub {q p : Pr} (hR : Rng p) (hN : Nar q p) : ∀ (r : List Sm) (i : Nat) (F G H : List Sp), wfSL p i r = true → F.length = i → G.length = i → SubL G F → stmtsM p r F = .ok H → ∃ H', stmtsM q r G = .ok H' ∧ SubL H' H ∧ H'.length = H.length
  | [], i, F, G, H, _, h1, h2, h3, h => by rw [stmtsM] at h; cases h; exact ⟨G, by rw [stmtsM], h3, by omega⟩
  | s :: r, i, F, G, H, hw, h1, h2, h3, h => by
    rw [stmtsM] at h
    cases hf : findM p F s.x with
    | error e => rw [hf] at h; cases h
    | ok f =>
      rw [hf] at h
      simp only at h
      split at h
      · rename_i hwi
        obtain ⟨f', e1, e2⟩ := findM_sub hR hN h3 s.x f (by rw [h1]; exact wfSL_x hw) hf
        have hwi' : within q s f' = true := by
          rw [within_decl hN.sta hN.lin]
          rw [within, Bool.and_eq_true, decide_eq_true_eq, decide_eq_true_eq] at hwi ⊢
          obtain ⟨a, b, c⟩ := e2
          omega
        obtain ⟨H', e3, e4⟩ := stm_sub hR hN r (i + 1) (F ++ [f]) (G ++ [f']) H (wfSL_next hw) (by simp [h1]) (by simp [h2]) (subL_snoc (by omega) h3 e2) h
        exact ⟨H', by rw [stmtsM, e1]; simp only [hwi', if_true]; exact e3, e4⟩
      · cases h
theorem nar_ok {q p : Pr} (hq : Res q) (hp : Res p) (hN : Nar q p) (hs : q.stmts = p.stmts) (h : (boundsR p).2 = 0) : (boundsR q).2 = 0 ∧ SubL (boundsR q).1 (boundsR p).1 ∧ (boundsR q).1.length = (boundsR p).1.length := by
  obtain ⟨hb, _⟩ := boundsR_zero h
  obtain ⟨H', e1, e2, e3⟩ := stm_sub hp.rng hN p.stmts 0 [] [] (boundsR p).1 hp.wf rfl rfl subL_nil hb.run
  have := boundsR_ok (res_resE hq) (by rw [hs]; exact e1)
  rw [this]
  exact ⟨rfl, e2, e3⟩
end Go.Fw.Rg
namespace Go.Fw.Rg
open Go.Fw Go.Fw.Ref15
set_option linter.unusedSectionVars false
variable [GlobInt]
def cutLo (b : Bd) (c : Nat) : Int := b.lo + (b.hi - b.lo) * ((c % 16 : Nat) : Int) / 32
def cutHi (b : Bd) (c : Nat) : Int := b.hi - (b.hi - b.lo) * ((c / 16 : Nat) : Int) / 32
def narB (b : Bd) (c : Nat) : Bd := ⟨b.name, cutLo b c, cutHi b c⟩
def atN (p : Pr) (a : Nat) : Nat := a % p.params.length
abbrev parN (p : Pr) (a : Nat) : Bd := p.params.getD (atN p a) Bd.none
def narP (p : Pr) (a c : Nat) : Pr := { p with params := p.params.set (atN p a) (narB (parN p a) c) }
theorem div32 {n k : Int} (h0 : 0 ≤ n) (hn : n ≤ 4294967295) (h1 : 0 ≤ k) (h2 : k ≤ 15) : 0 ≤ n * k ∧ n * k ≤ 64424509425 ∧ (n * k).tdiv 32 = n * k / 32 ∧ 0 ≤ n * k / 32 ∧ 2 * (n * k / 32) ≤ n := by
  have a := Int.mul_nonneg h0 h1
  have b : n * k ≤ n * 15 := Int.mul_le_mul_of_nonneg_left h2 h0
  refine ⟨a, by omega, Int.tdiv_eq_ediv_of_nonneg a, by omega, by omega⟩
theorem cut_rng {b : Bd} {c : Nat} (h : -2147483648 ≤ b.lo ∧ b.lo ≤ b.hi ∧ b.hi ≤ 2147483647) (hc : c ≤ 255) : b.lo ≤ cutLo b c ∧ cutLo b c ≤ cutHi b c ∧ cutHi b c ≤ b.hi := by
  have h1 := div32 (n := b.hi - b.lo) (k := ((c % 16 : Nat) : Int)) (by omega) (by omega) (by omega) (by omega)
  have h2 := div32 (n := b.hi - b.lo) (k := ((c / 16 : Nat) : Int)) (by omega) (by omega) (by omega) (by omega)
  simp only [cutLo, cutHi]; omega
def roomW (b : Bd) : Int := IntKind.i64.wrap (b.hi - b.lo)
def loW (b : Bd) (c : Nat) : Int := IntKind.i64.wrap (b.lo + IntKind.i64.wrap ((IntKind.i64.wrap (roomW b * IntKind.i64.wrap (((c : Nat) : Int).tmod 16))).tdiv 32))
def hiW (b : Bd) (c : Nat) : Int := IntKind.i64.wrap (b.hi - IntKind.i64.wrap ((IntKind.i64.wrap (roomW b * IntKind.i64.wrap (IntKind.u8.wrap (((c : Nat) : Int).tdiv 16)))).tdiv 32))
theorem u8_wrap {n : Int} (h0 : 0 ≤ n) (h : n ≤ 255) : IntKind.u8.wrap n = n := by
  simp only [IntKind.wrap, IntKind.bits, IntKind.signed]
  simp; omega
theorem cut_walk {b : Bd} {c : Nat} (h : -2147483648 ≤ b.lo ∧ b.lo ≤ b.hi ∧ b.hi ≤ 2147483647) (hc : c ≤ 255) : loW b c = cutLo b c ∧ hiW b c = cutHi b c := by
  have h1 := div32 (n := b.hi - b.lo) (k := ((c % 16 : Nat) : Int)) (by omega) (by omega) (by omega) (by omega)
  have h2 := div32 (n := b.hi - b.lo) (k := ((c / 16 : Nat) : Int)) (by omega) (by omega) (by omega) (by omega)
  have e1 : ((c : Nat) : Int).tmod 16 = ((c % 16 : Nat) : Int) := by rw [Int.tmod_eq_emod_of_nonneg (by omega)]; rfl
  have e2 : ((c : Nat) : Int).tdiv 16 = ((c / 16 : Nat) : Int) := by rw [Int.tdiv_eq_ediv_of_nonneg (by omega)]; rfl
  have r := cut_rng h hc
  simp only [cutLo, cutHi] at r
  rw [loW, hiW, roomW, e1, e2, u8_wrap (by omega) (by omega)]
  rw [wrap_ok (n := b.hi - b.lo) (by omega) (by omega), wrap_ok (n := ((c % 16 : Nat) : Int)) (by omega) (by omega), wrap_ok (n := ((c / 16 : Nat) : Int)) (by omega) (by omega)]
  rw [wrap_ok (n := (b.hi - b.lo) * ((c % 16 : Nat) : Int)) (by omega) (by omega), wrap_ok (n := (b.hi - b.lo) * ((c / 16 : Nat) : Int)) (by omega) (by omega), h1.2.2.1, h2.2.2.1]
  rw [wrap_ok (n := (b.hi - b.lo) * ((c % 16 : Nat) : Int) / 32) (by omega) (by omega), wrap_ok (n := (b.hi - b.lo) * ((c / 16 : Nat) : Int) / 32) (by omega) (by omega)]
  rw [wrap_ok (by omega) (by omega), wrap_ok (by omega) (by omega)]
  exact ⟨rfl, rfl⟩
theorem at_lt {p : Pr} {a : Nat} (h : p.params ≠ []) : atN p a < p.params.length := Nat.mod_lt _ (List.length_pos_iff.2 h)
theorem at_walk {p : Pr} {a : Nat} (hl : p.params.length ≤ 67108864) (ha : a ≤ 255) : (IntKind.i64.wrap ((a : Nat) : Int)).tmod (((0 + (p.params.map Bd.cs).length : Nat) : Int)) = ((atN p a : Nat) : Int) := by
  rw [wrap_ok (by omega) (by omega), Nat.zero_add, List.length_map, Int.tmod_eq_emod_of_nonneg (by omega)]; rfl
theorem par_mem {p : Pr} {a : Nat} (h : p.params ≠ []) : parN p a ∈ p.params := by
  rw [parN, List.getD_eq_getElem?_getD, List.getElem?_eq_getElem (at_lt h)]; exact List.getElem_mem (at_lt h)
theorem nar_sameN {p : Pr} {a c : Nat} (h : p.params ≠ []) : SameN (narP p a c) p := by
  refine ⟨?_, rfl, rfl, rfl⟩
  simp only [bounds, narP, List.map_set]
  apply List.ext_getElem?
  intro i
  rw [List.getElem?_set]
  split
  · rename_i e
    subst e
    have hl := at_lt (a := a) h
    simp only [List.length_map, hl, if_true, List.getElem?_map, narB, parN]
    rw [List.getD_eq_getElem?_getD, List.getElem?_eq_getElem hl]; rfl
  · rfl
theorem nar_res {p : Pr} {a c : Nat} (hc : c ≤ 255) (h : p.params ≠ []) (hR : Res p) : Res (narP p a c) := by
  refine res_nar (nar_sameN h) ⟨rfl, rfl, rfl, rfl⟩ ?_ hR
  simp only [bdsOk, narP, List.all_eq_true]
  intro b hb
  rcases List.mem_or_eq_of_mem_set hb with q | rfl
  · have := hR.rng.par b q
    simp only [between, Bool.and_eq_true, decide_eq_true_eq]; omega
  · have q := hR.rng.par _ (par_mem (a := a) h)
    have r := cut_rng q hc
    show between (cutLo (parN p a) c) (cutHi (parN p a) c) = true
    simp only [between, Bool.and_eq_true, decide_eq_true_eq]; omega
theorem nar_nar {p : Pr} {a c : Nat} (hc : c ≤ 255) (h : p.params ≠ []) (hR : Res p) : Nar (narP p a c) p := by
  refine ⟨fun i => ?_, rfl, rfl, rfl⟩
  simp only [narP, List.getD_eq_getElem?_getD]
  rw [List.getElem?_set]
  split
  · rename_i e
    subst e
    have q := hR.rng.par _ (par_mem (a := a) h)
    have r := cut_rng q hc
    simp only [at_lt h, if_true, Option.getD_some, narB]
    have e : p.params[atN p a]?.getD Bd.none = parN p a := by rw [parN, List.getD_eq_getElem?_getD]
    rw [e]; exact r
  · rename_i e
    cases hb : p.params[i]? with
    | none => exact ⟨Int.le_refl _, Int.le_refl _, Int.le_refl _⟩
    | some b => have := hR.rng.par b (List.mem_of_getElem? hb); exact ⟨Int.le_refl _, this.2.1, Int.le_refl _⟩
theorem nar_good {p : Pr} {a c : Nat} (g : GoodP p) : GoodP (narP p a c) := ⟨⟨by simpa [narP] using g.sm.params, g.sm.states, g.sm.lines, g.sm.tables, g.sm.stmts⟩, g.hn, g.hT⟩
theorem nar_idx {p : Pr} {a : Nat} (h : p.params ≠ []) : (p.params.map Bd.cs)[0 + ((atN p a : Nat) : Int).toNat]? = some (Bd.cs (parN p a)) := by
  have hl := at_lt (a := a) h
  have e : 0 + ((atN p a : Nat) : Int).toNat = atN p a := by omega
  rw [e, List.getElem?_map, parN, List.getD_eq_getElem?_getD, List.getElem?_eq_getElem hl]; rfl
theorem nar_idx2 {p : Pr} {a : Nat} {y : List D} (h : p.params ≠ []) : ((p.params.map Bd.cs).set (0 + ((atN p a : Nat) : Int).toNat) y)[0 + ((atN p a : Nat) : Int).toNat]? = some y := by
  have hl := at_lt (a := a) h
  have e : 0 + ((atN p a : Nat) : Int).toNat = atN p a := by omega
  rw [e]; simp [hl]
theorem nar_fin {p : Pr} {a c : Nat} {y z : List D} (h : p.params ≠ []) (hc : c ≤ 255) (hR : Res p) (hz : z = [.str (parN p a).name, .i (loW (parN p a) c), .i (hiW (parN p a) c)]) : 0 + (p.params.map Bd.cs).length ≤ (((p.params.map Bd.cs).set (0 + ((atN p a : Nat) : Int).toNat) y).set (0 + ((atN p a : Nat) : Int).toNat) z).length ∧ (narP p a c).params.map Bd.cs = ((((p.params.map Bd.cs).set (0 + ((atN p a : Nat) : Int).toNat) y).set (0 + ((atN p a : Nat) : Int).toNat) z).drop 0).take (0 + (p.params.map Bd.cs).length) := by
  have e : 0 + ((atN p a : Nat) : Int).toNat = atN p a := by omega
  obtain ⟨e1, e2⟩ := cut_walk (hR.rng.par _ (par_mem (a := a) h)) hc
  rw [e, List.set_set, hz, e1, e2]
  refine ⟨by simp, ?_⟩
  rw [List.drop_zero, Nat.zero_add, List.take_of_length_le (by simp), narP]
  simp only [List.map_set]; rfl
theorem nar_few {a : Bool} {e : Int} {n : Nat} (h : (bif (bif a then true else e != 0) then true else (n : Int) == 0) = false) : e = 0 ∧ n ≠ 0 := by
  cases a
  · simp only [cond_false] at h
    cases he : e != 0
    · rw [he] at h; simp at he h; exact ⟨he, by omega⟩
    · rw [he] at h; exact Bool.noConfusion h
  · exact Bool.noConfusion h
theorem nar_no {m n : Int} (hmn : m = n) (h : (bif (bif (0 : Int) != 0 then true else (0 : Int) != 0) then true else m != n) = true) : False := by
  subst hmn; simp at h
theorem nar_in {F G : List Sp} {i : Nat} (h : SubL G F) (hc : (bif decide ((G.getD ((i : Int)).toNat (0, 0)).1 < (F.getD ((i : Int)).toNat (0, 0)).1) then true else decide ((G.getD ((i : Int)).toNat (0, 0)).2 > (F.getD ((i : Int)).toNat (0, 0)).2)) = true) : False := by
  have := h ((i : Int)).toNat
  simp only [Incl] at this
  simp only [bif_or, Bool.or_eq_true, decide_eq_true_eq] at hc; omega
end Go.Fw.Rg
namespace Go.Fw.Rg
open Go.Fw Go.Fw.Ref15
set_option linter.unusedSectionVars false
variable [GlobInt]
theorem nodes_esz' : ∀ x : Ex, Ref15.nodes x ≤ esz x := by
  refine Ex.ind fun x ih => ?_
  have hL : ∀ l : List Ex, (∀ y ∈ l, y ∈ x.l) → Ref15.nodesL l ≤ eszL l := by
    intro l
    induction l with
    | nil => intro _; exact Nat.zero_le _
    | cons y r ihr =>
      intro hl
      have := ih y (hl y (by simp))
      have := ihr fun z hz => hl z (by simp [hz])
      simp only [Ref15.nodesL, eszL]; omega
  have := hL x.l fun _ h => h
  rw [Ref15.nodes_eq, esz_eq]; omega
abbrev lastW (p : Pr) : Int := IntKind.i64.wrap (((p.stmts.map Sm.cs).length : Int) - 1)
abbrev rawD (p : Pr) (x : Ex) : D := .agg [.str p.name, .i p.latency, .i p.tail, .sl 3 (p.params.map Bd.cs), .sl 3 (p.states.map Bd.cs), .sl 4 (p.lines.map Ln.cs), .sl 2 (p.tables.map Tb.cs), .sl 8 (cut none (some (lastW p)) (p.stmts.map Sm.cs) ++ [Sm.cs ⟨4, [], 0, x⟩])]
theorem lastW_eq {p : Pr} {init : List Sm} {s : Sm} (hp : p.stmts = init ++ [s]) (hl : p.stmts.length ≤ 67108864) : lastW p = ((init.length : Nat) : Int) := by
  rw [lastW, List.length_map, wrap_ok (by rw [hp]; simp) (by omega), hp]; simp
theorem rawD_eq {p : Pr} {init : List Sm} {s : Sm} {x : Ex} (hp : p.stmts = init ++ [s]) (hl : p.stmts.length ≤ 67108864) : (lastM p init x).d = rawD p x := by
  rw [rawD, lastW_eq hp hl, hp]
  have : cut none (some ((init.length : Nat) : Int)) ((init ++ [s]).map Sm.cs) = init.map Sm.cs := by simp [cut]
  rw [this]
  show D.agg [_, _, _, _, _, _, _, .sl 8 ((init ++ [(⟨4, [], 0, x⟩ : Sm)]).map Sm.cs)] = _
  rw [List.map_append]; rfl
theorem last_idx {p : Pr} {init : List Sm} {s : Sm} (hp : p.stmts = init ++ [s]) (hl : p.stmts.length ≤ 67108864) : 0 ≤ lastW p ∧ (p.stmts.map Sm.cs)[(lastW p).toNat]? = some (Sm.cs s) := by
  rw [lastW_eq hp hl, hp]; exact ⟨Int.natCast_nonneg _, by simp⟩
theorem last_idxF {p : Pr} {init : List Sm} {s : Sm} {F : List Sp} {t : Sp} (hp : p.stmts = init ++ [s]) (hl : p.stmts.length ≤ 67108864) (hF : F.length = init.length) : 0 ≤ lastW p ∧ ((F ++ [t]).map Sp.cs)[(lastW p).toNat]? = some (Sp.cs t) := by
  rw [lastW_eq hp hl, ← hF]; exact ⟨Int.natCast_nonneg _, by simp⟩
theorem last_cut {p : Pr} {init : List Sm} {s : Sm} (hp : p.stmts = init ++ [s]) (hl : p.stmts.length ≤ 67108864) : 0 ≤ lastW p ∧ lastW p ≤ ((p.stmts.map Sm.cs).length : Int) := by
  rw [lastW_eq hp hl, hp]; simp; omega
theorem last_len {p : Pr} {init : List Sm} {s : Sm} {F : List Sp} {t : Sp} (hp : p.stmts = init ++ [s]) (hl : p.stmts.length ≤ 67108864) (hF : F.length = init.length) : (((F ++ [t]).map Sp.cs).length : Int) = IntKind.i64.wrap (lastW p + 1) := by
  have : init.length + 1 = p.stmts.length := by rw [hp]; simp
  rw [lastW_eq hp hl, wrap_ok (by omega) (by omega), List.length_map, List.length_append, hF]; simp
theorem last_good {p : Pr} {init : List Sm} {s : Sm} {x : Ex} (hp : p.stmts = init ++ [s]) (g : GoodP p) (hx : Ref15.nodes x ≤ 1073741824) : GoodP (lastM p init x) := by
  refine ⟨⟨g.sm.params, g.sm.states, g.sm.lines, g.sm.tables, ?_⟩, fun t ht => ?_, g.hT⟩
  · have := g.sm.stmts; rw [hp] at this; simpa [lastM] using this
  · simp only [lastM, List.mem_append, List.mem_singleton] at ht
    rcases ht with ht | rfl
    · exact g.hn t (by rw [hp]; simp [ht])
    · exact hx
theorem sat_nodes {p : Pr} {init : List Sm} {s : Sm} (hp : p.stmts = init ++ [s]) (H : FewH p) : Ref15.nodes (applyM 10 [s.x]) ≤ 1073741824 := by
  have h1 := nodes_esz' s.x
  have h2 := (H.stm s (by rw [hp]; simp)).2
  rw [Ref15.nodes_eq]
  show 1 + Ref15.nodesL [s.x] ≤ _
  simp only [Ref15.nodesL]; omega
theorem self2 (a b : Int) : (bif a == a then b == b else false) = true := by simp
theorem fin3 {n m : Int} {c : List D} (h : n = m) (hc : sameL c c = true) : (bif (bif (0 : Int) == 0 then n == m else false) then sameL c c else false) = true := by rw [h, hc]; simp
theorem sat_kind {a b c : Bool} (h : (bif (bif a then true else b) then true else !c) = false) : c = true := by
  cases a <;> cases b <;> cases c <;> first | rfl | exact absurd h (by decide)
theorem sat_both {a b : Int} (h : (bif a != 0 then true else b != 0) = false) : a = 0 ∧ b = 0 := by
  cases ha : a != 0 <;> rw [ha] at h <;> simp at ha h; exact ⟨ha, h⟩
theorem len_a {p : Pr} {init : List Sm} {s : Sm} (hp : p.stmts = init ++ [s]) (hl : p.stmts.length ≤ 67108864) : (cut none (some (lastW p)) (p.stmts.map Sm.cs)).length ≤ 1073741824 := by
  have := last_cut hp hl
  rw [cut, List.length_take]; simp only [List.length_drop, List.length_map] at this ⊢; omega
theorem nil_skipc (b c : Bool) : (bif (bif b then true else decide (IntKind.i64.wrap (((([] : List Sm).map Sm.cs).length : Int) - 1) < 0)) then true else c) = true := by cases b <;> rfl
theorem nil_want (b : Bool) : wantB (bif b then true else decide (IntKind.i64.wrap (((([] : List Sm).map Sm.cs).length : Int) - 1) < 0)) false = false := by cases b <;> rfl
end Go.Fw.Rg
