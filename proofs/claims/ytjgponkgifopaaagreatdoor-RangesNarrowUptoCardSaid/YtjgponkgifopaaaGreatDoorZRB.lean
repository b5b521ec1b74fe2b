/- Package ranges in plain words: a whole processor. -/
import Derived.Test.YtjgponkgifopaaaGreatDoorZRA
import Derived.Test.YtjgponkgifopaaaGreatDoorZDB
import Derived.Test.YtjgponkgifopaaaGreatDoorZPX
set_option linter.unusedSimpArgs false
set_option linter.unusedVariables false
namespace Go.Fw.Rg
open Go.Fw Go.Fw.Ref15
set_option linter.unusedSectionVars false
variable [GlobInt]
structure GoodP (p : Pr) : Prop where
  sm : p.Small
  hn : ∀ s ∈ p.stmts, Ref15.nodes s.x ≤ 1073741824
  hT : ∀ t ∈ p.tables, t.values.length ≤ 1073741824
theorem GoodP.hl {p : Pr} (g : GoodP p) : p.stmts.length ≤ 1073741824 := by have := g.sm.stmts; omega
def resE (p : Pr) : Int := if (Nam.resolveC p).2 != 0 then (Nam.resolveC p).2 else if samePr p (Nam.resolveC p).1 then 0 else 150
end Go.Fw.Rg
namespace Go.Fw.Rg
open Go.Fw Go.Fw.Ref15
set_option linter.unusedSectionVars false
variable [GlobInt]
theorem find_lt {s : Str} : ∀ {l : List Str} (i : Int), findFrom s l i < i + l.length ∨ findFrom s l i = -1
  | [], i => .inr rfl
  | x :: r, i => by
    simp only [findFrom]
    split
    · left; simp only [List.length_cons]; omega
    · rcases find_lt (s := s) (l := r) (i + 1) with h | h
      · left; simp only [List.length_cons]; omega
      · exact .inr h
theorem find_lt0 {s : Str} {l : List Str} (h : 0 ≤ find l s) : find l s < l.length := by
  rcases find_lt (s := s) (l := l) 0 with q | q
  · simpa [find] using q
  · rw [find] at h; omega
theorem given_lt {s : Str} : ∀ {l : List Sm} (i : Int), givenFrom s l i < i + l.length ∨ givenFrom s l i = -1
  | [], i => .inr rfl
  | x :: r, i => by
    simp only [givenFrom]
    split
    · left; simp only [List.length_cons]; omega
    · rcases given_lt (s := s) (l := r) (i + 1) with h | h
      · left; simp only [List.length_cons]; omega
      · exact .inr h
theorem given_lt0 {p : Pr} {s : Str} {b : Nat} (h : 0 ≤ given p s b) : given p s b < b := by
  rcases given_lt (s := s) (l := p.stmts.take b) 0 with q | q
  · rw [given]; simp only [List.length_take] at q; omega
  · rw [given] at h; omega
theorem formeds_mem : ∀ {l : List Ex}, formeds l = true → ∀ y ∈ l, formed y = true
  | x :: r, h, y, hy => by
    simp only [formeds, Bool.and_eq_true] at h
    rcases List.mem_cons.1 hy with rfl | hy
    · exact h.1
    · exact formeds_mem h.2 y hy
theorem numbersL_mem : ∀ {l : List Ex}, numbersL l = true → ∀ y ∈ l, numbers y = true
  | x :: r, h, y, hy => by
    simp only [numbersL, Bool.and_eq_true] at h
    rcases List.mem_cons.1 hy with rfl | hy
    · exact h.1
    · exact numbersL_mem h.2 y hy
theorem resolvedL_mem {p : Pr} {b : Nat} : ∀ {l : List Ex}, resolvedL p b l = (l, true) → ∀ y ∈ l, resolved p b y = (y, true)
  | x :: r, h, y, hy => by
    simp only [resolvedL, Prod.mk.injEq, List.cons.injEq, Bool.and_eq_true] at h
    rcases List.mem_cons.1 hy with rfl | hy
    · exact Prod.ext h.1.1 h.2.1
    · exact resolvedL_mem (Prod.ext h.1.2 h.2.2) y hy
theorem wfL_of {p : Pr} {n : Nat} : ∀ {l : List Ex}, (∀ y ∈ l, wfX p n y = true) → wfL p n l = true
  | [], _ => rfl
  | x :: r, h => by
    simp only [wfL, Bool.and_eq_true]
    exact ⟨h x (by simp), wfL_of fun y hy => h y (by simp [hy])⟩
theorem parts_kinds {k : Int} (h : 0 ≤ Ref15.parts k) : 1 ≤ k ∧ k ≤ 19 := by
  by_cases hk : 1 ≤ k ∧ k ≤ 19
  · exact hk
  · exfalso
    have h1 : ∀ n : Int, 1 ≤ n → n ≤ 19 → (k == n) = false := fun n a b => by
      simp only [beq_eq_false_iff_ne]; omega
    simp [Ref15.parts, h1] at h
theorem wf_ex {p : Pr} (ht : p.tables.all tableOk = true) (b : Nat) : ∀ x : Ex, formed x = true → numbers x = true → resolved p b x = (x, true) → wfX p b x = true := by
  refine Ex.ind fun x ih hf hn hr => ?_
  rw [formed_eq] at hf
  rw [numbers_eq] at hn
  rw [resolved_eq] at hr
  simp only [Bool.and_eq_true, Bool.not_eq_true', Bool.or_eq_false_iff, bne_eq_false_iff_eq, decide_eq_false_iff_not] at hf hn
  obtain ⟨⟨⟨⟨f1, f2⟩, f3⟩, f4⟩, f5⟩ := hf
  obtain ⟨⟨n1, n2⟩, n3⟩ := hn
  rw [wfX_eq]
  have hk := parts_kinds (k := x.kind) (by rw [← f1]; omega)
  simp only [Bool.and_eq_true, beq_iff_eq]
  refine ⟨⟨f1, ?_⟩, ?_⟩
  · by_cases hN : (named x.kind && x.kind != 8 && x.kind != 9) = true
    · rw [if_pos hN] at hr
      rw [value] at hr
      simp only at hr
      split at hr
      · split at hr
        · have e1 : x.kind = 5 := congrArg (fun q => q.1.kind) hr.symm
          have e2 : given p x.name b = x.index := congrArg (fun q => q.1.index) hr
          have e3 : decide (given p x.name b ≥ 0) = true := congrArg Prod.snd hr
          have e3 := of_decide_eq_true e3
          have e4 := given_lt0 (b := b) e3
          rw [ownW, e1]
          simp only [e2] at e3 e4
          simp only [(by decide : ((5 : Int) == 1) = false), (by decide : ((5 : Int) == 3) = false), (by decide : ((5 : Int) == 4) = false), (by decide : ((5 : Int) == 5) = true), Bool.false_eq_true, if_false, if_true, Bool.and_eq_true, decide_eq_true_eq]
          omega
        · have e1 : x.kind = 4 := congrArg (fun q => q.1.kind) hr.symm
          have e2 : find (bounds p.states) x.name = x.index := congrArg (fun q => q.1.index) hr
          have e3 : decide (find (bounds p.states) x.name ≥ 0) = true := congrArg Prod.snd hr
          have e3 := of_decide_eq_true e3
          have e4 := find_lt0 e3
          rw [ownW, e1]
          rw [e2] at e3 e4; simp only [bounds, List.length_map] at e4
          simp only [(by decide : ((4 : Int) == 1) = false), (by decide : ((4 : Int) == 3) = false), (by decide : ((4 : Int) == 4) = true), Bool.false_eq_true, if_false, if_true, Bool.and_eq_true, decide_eq_true_eq]
          omega
      · have e1 : x.kind = 3 := congrArg (fun q => q.1.kind) hr.symm
        have e2 : find (bounds p.params) x.name = x.index := congrArg (fun q => q.1.index) hr
        have e3 : decide (find (bounds p.params) x.name ≥ 0) = true := congrArg Prod.snd hr
        have e3 := of_decide_eq_true e3
        have e4 := find_lt0 e3
        rw [ownW, e1]
        rw [e2] at e3 e4; simp only [bounds, List.length_map] at e4
        simp only [(by decide : ((3 : Int) == 1) = false), (by decide : ((3 : Int) == 3) = true), Bool.false_eq_true, if_false, if_true, Bool.and_eq_true, decide_eq_true_eq]
        omega
    · rw [if_neg hN] at hr
      have e2 : exIndex p x = x.index := congrArg (fun q => q.1.index) hr
      have e3 : (decide (exIndex p x ≥ 0) && (resolvedL p b x.l).2) = true := congrArg Prod.snd hr
      simp only [Bool.and_eq_true, decide_eq_true_eq] at e3
      have e3 := e3.1
      rw [exIndex] at e2 e3
      rw [ownW]
      rcases Nam.kinds_cases hk with h | h | h | h | h | h | h | h | h | h | h | h | h | h | h | h | h | h | h <;> rw [h] at hN n2 e2 e3 ⊢ <;> first
        | exact absurd (by decide) hN
        | rfl
        | skip
      · simp; omega
      · simp only [(by decide : ((8 : Int) == 9) = false), (by decide : ((8 : Int) == 8) = true), Bool.false_eq_true, if_false, if_true] at e2 e3
        have e4 := find_lt0 e3
        rw [e2] at e3 e4; simp only [Ref15.lines, List.length_map] at e4
        simp; omega
      · simp only [(by decide : ((9 : Int) == 9) = true), if_true] at e2 e3
        have e4 := find_lt0 e3
        rw [e2] at e3 e4; simp only [Ref15.tables, List.length_map] at e4
        have hm : p.tables.getD x.index.toNat Tb.none ∈ p.tables := by
          have : x.index.toNat < p.tables.length := by omega
          rw [List.getD_eq_getElem?_getD, List.getElem?_eq_getElem this]; exact List.getElem_mem this
        have hq := List.all_eq_true.1 ht _ hm
        simp only [tableOk, Bool.not_eq_true', Bool.or_eq_false_iff, decide_eq_false_iff_not] at hq
        have hne : (tableAt p x.index == []) = false := by
          rw [beq_eq_false_iff_ne]; intro h0; rw [tableAt] at h0; rw [h0] at hq; simp at hq
        simp [hne]; omega
      · simp at n2 ⊢; omega
  · refine wfL_of fun y hy => ih y hy (formeds_mem f5 y hy) (numbersL_mem n3 y hy) ?_
    by_cases hN : (named x.kind && x.kind != 8 && x.kind != 9) = true
    · exfalso
      have : Ref15.parts x.kind = 0 := by
        simp only [named, Bool.and_eq_true, bne_iff_ne] at hN
        rcases Nam.kinds_cases hk with h | h | h | h | h | h | h | h | h | h | h | h | h | h | h | h | h | h | h <;> rw [h] at hN ⊢ <;> first | rfl | (exfalso; simp at hN; done)
      rw [this] at f1
      have : x.l.length = 0 := by omega
      rw [List.length_eq_zero_iff] at this; rw [this] at hy; simp at hy
    · rw [if_neg hN] at hr
      have e1 : (resolvedL p b x.l).1 = x.l := congrArg (fun q => q.1.l) hr
      have e3 : (decide (exIndex p x ≥ 0) && (resolvedL p b x.l).2) = true := congrArg Prod.snd hr
      simp only [Bool.and_eq_true] at e3
      exact resolvedL_mem (Prod.ext e1 e3.2) y hy
theorem resolveL_cons {p : Pr} {s : Sm} {r l : List Sm} {i : Nat} {out : Bool} (h : resolveL p (s :: r) i out = .ok l) : (resolved p i s.x).2 = true ∧ 0 ≤ smIndex p s ∧ again p i s = false ∧ ∃ t, resolveL p r (i + 1) (s.kind == 4) = .ok t ∧ l = ⟨s.kind, s.name, smIndex p s, (resolved p i s.x).1⟩ :: t := by
  rw [resolveL] at h
  split at h
  · cases h
  · split at h
    · cases h
    · split at h
      · cases h
      · rename_i h1 h2 h3
        simp only [Bool.not_eq_true', Bool.not_eq_false, decide_eq_true_eq, Int.not_lt, Bool.not_eq_true] at h1 h2 h3
        refine ⟨h1, h2, h3, ?_⟩
        split at h
        · cases h
        · rename_i t ht
          cases h
          exact ⟨t, ht, rfl⟩
theorem wf_stmts {p : Pr} (ht : p.tables.all tableOk = true) : ∀ (r : List Sm) (i : Nat) (out : Bool), r.all stmtOk = true → (r.all fun s => numbers s.x) = true → resolveL p r i out = .ok r → wfSL p i r = true
  | [], _, _, _, _, _ => rfl
  | s :: r, i, out, h1, h2, h3 => by
    simp only [List.all_cons, Bool.and_eq_true] at h1 h2
    obtain ⟨g1, g2, _, t, g3, g4⟩ := resolveL_cons h3
    simp only [List.cons.injEq] at g4
    obtain ⟨g4, rfl⟩ := g4
    have e1 : smIndex p s = s.index := congrArg Sm.index g4.symm
    have e2 : (resolved p i s.x).1 = s.x := congrArg Sm.x g4.symm
    simp only [wfSL, wfS, Bool.and_eq_true]
    have hf : formed s.x = true := by
      have := h1.1
      simp only [stmtOk, Bool.not_eq_true', Bool.or_eq_false_iff, Bool.not_eq_false'] at this
      exact this.2
    refine ⟨⟨wf_ex ht i s.x hf h2.1 (Prod.ext e2 g1), ?_, ?_⟩, wf_stmts ht r (i + 1) _ h1.2 h2.2 g3⟩
    · cases hk : s.kind == 2 with
      | false => rfl
      | true =>
        have : s.kind = 2 := by simpa using hk
        rw [smIndex, this] at e1 g2
        simp only [(by decide : ((2 : Int) == 3) = false), (by decide : ((2 : Int) == 2) = true), Bool.false_eq_true, if_false, if_true] at e1 g2
        have := find_lt0 g2
        rw [e1] at this g2; simp only [bounds, List.length_map] at this
        simp; omega
    · cases hk : s.kind == 3 with
      | false => rfl
      | true =>
        have : s.kind = 3 := by simpa using hk
        rw [smIndex, this] at e1 g2
        simp only [(by decide : ((3 : Int) == 3) = true), if_true] at e1 g2
        have := find_lt0 g2
        rw [e1] at this g2; simp only [Ref15.lines, List.length_map] at this
        simp; omega
theorem btw {lo hi : Int} (h : between lo hi = true) : -2147483648 ≤ lo ∧ lo ≤ hi ∧ hi ≤ 2147483647 := by
  simp only [between, Bool.and_eq_true, decide_eq_true_eq] at h; omega
theorem rng_of {p : Pr} (h : ranged p = true) : Rng p := by
  simp only [ranged, Bool.and_eq_true, List.all_eq_true] at h
  obtain ⟨⟨⟨⟨h1, h2⟩, h3⟩, h4⟩, _⟩ := h
  exact ⟨fun b hb => btw (h1 b hb), fun b hb => btw (h2 b hb), fun b hb => btw (h3 b hb), fun t ht v hv => by have := btw (h4 t ht v hv); omega⟩
structure Res (p : Pr) : Prop where
  fo : Formed p = true
  li : limited p = true
  nm : nameOk p.name = true
  dn : (Declared p).all nameOk = true
  un : uniqueFrom (Declared p) (Declared p) 0 = true
  ra : ranged p = true
  ru : resolveL p p.stmts 0 false = .ok p.stmts
theorem fin_ok {p : Pr} {e : Except Int (List Sm)} (h : Ref15.fin p [] e = (p, 0)) (hne : ∀ n, e = .error n → n ≠ 0) : e = .ok p.stmts := by
  cases e with
  | error n => exact absurd (congrArg Prod.snd h) (hne n rfl)
  | ok l =>
    have := congrArg (fun q => q.1.stmts) h
    simp only [Ref15.fin, List.nil_append] at this
    rw [this]
theorem runL_ne {p : Pr} : ∀ (r : List Sm) (i : Nat) (out : Bool) (n : Int), resolveL p r i out = .error n → n ≠ 0
  | [], i, out, n, h => by
    rw [resolveL] at h
    split at h
    · cases h; decide
    · cases h
  | s :: r, i, out, n, h => by
    rw [resolveL] at h
    split at h
    · cases h; decide
    · split at h
      · cases h; decide
      · split at h
        · cases h; decide
        · split at h
          · rename_i q
            cases h
            exact runL_ne r _ _ _ q
          · cases h
theorem res_iff {p : Pr} : Resolve p = (p, 0) ↔ Res p := by
  constructor
  · intro h
    have h0 := congrArg Prod.snd h
    rw [Resolve] at h h0
    split at h
    · rename_i q; rw [if_pos q] at h0; exfalso; simp at h0
    · rename_i q1; rw [if_neg q1] at h0
      split at h
      · rename_i q; rw [if_pos q] at h0; exfalso; simp at h0
      · rename_i q2; rw [if_neg q2] at h0
        split at h
        · rename_i q; rw [if_pos q] at h0; exfalso; simp at h0
        · rename_i q3; rw [if_neg q3] at h0
          split at h
          · rename_i q; rw [if_pos q] at h0; exfalso; simp at h0
          · rename_i q4; rw [if_neg q4] at h0
            split at h
            · rename_i q; rw [if_pos q] at h0; exfalso; simp at h0
            · rename_i q5; rw [if_neg q5] at h0
              split at h
              · rename_i q; rw [if_pos q] at h0; exfalso; simp at h0
              · rename_i q6
                exact ⟨by simpa using q1, by simpa using q2, by simpa using q3, by simpa using q4, by simpa using q5, by simpa using q6, fin_ok h (runL_ne _ _ _)⟩
  · intro h
    rw [Resolve, h.fo, h.li, h.nm, h.dn, h.un, h.ra, h.ru]
    simp [Ref15.fin]
theorem Res.tb {p : Pr} (h : Res p) : p.tables.all tableOk = true := by
  have := h.li; rw [limited_eq] at this; simp only [Bool.and_eq_true] at this; exact this.2.2.1
theorem Res.rng {p : Pr} (h : Res p) : Rng p := rng_of h.ra
theorem Res.wf {p : Pr} (h : Res p) : wfSL p 0 p.stmts = true := by
  refine wf_stmts h.tb _ _ _ h.fo ?_ h.ru
  have := h.ra; simp only [ranged, Bool.and_eq_true] at this; exact this.2
theorem resE_zero {p : Pr} (h : resE p = 0) : Nam.resolveC p = (p, 0) := by
  rw [resE] at h
  split at h
  · rename_i h1; rw [h] at h1; exact absurd h1 (by decide)
  · rename_i h1
    split at h
    · rename_i h2
      exact Prod.ext ((samePr_iff _ _).1 h2).symm (by simpa using h1)
    · exact absurd h (by decide)
theorem resE_res {p : Pr} (h : resE p = 0) : Res p := res_iff.1 (by rw [← Nam.resolve_same]; exact resE_zero h)
theorem res_resE {p : Pr} (h : Res p) : resE p = 0 := by
  have := res_iff.2 h
  rw [← Nam.resolve_same] at this
  rw [resE, this]
  simp [(samePr_iff p p).2 rfl]
end Go.Fw.Rg
namespace Go.Fw
def lkI (k : Int) : List (Int × Int) → Option Int
  | [] => none
  | (a, v) :: r => if k == a then some v else lkI k r
abbrev iiC (q : Int × Int) : D × D := (.i q.1, .i q.2)
theorem keySame_i (a b : Int) : keySame (.i a) (.i b) = (a == b) := rfl
theorem mget_lkI (k : Int) : ∀ l : List (Int × Int), mget (.i k) (l.map iiC) = (lkI k l).map .i
  | [] => rfl
  | (a, v) :: r => by
    simp only [List.map_cons, iiC, mget, keySame_i, lkI]
    cases k == a with
    | true => rfl
    | false => simp only [Bool.false_eq_true, if_false]; exact mget_lkI k r
theorem opt_lkI [GlobInt] {k : Int} {l : List (Int × Int)} {M : List (D × D)} {f : D → Prop} {g : Prop} (hM : M = l.map iiC) (h1 : ∀ n, lkI k l = some n → f (.i n)) (h2 : lkI k l = none → g) : OptBr (mget (.i k) M) f g := by
  subst hM
  cases hk : lkI k l with
  | none => exact Nam.opt_none (by rw [mget_lkI, hk]; rfl) (h2 hk)
  | some n => exact Nam.opt_some (d := .i n) (by rw [mget_lkI, hk]; rfl) (h1 n hk)
end Go.Fw
namespace Go.Fw.Rg
open Go.Fw Go.Fw.Ref15
set_option linter.unusedSectionVars false
variable [GlobInt]
def needL : List (Int × Int) := [(1, 0), (3, 0), (4, 0), (5, 0), (6, 1), (7, 1), (8, 1), (9, 1), (10, 1), (13, 1), (14, 1), (18, 1), (11, 2), (12, 2), (15, 2), (16, 2), (17, 2), (19, 4)]
def manyL (p : Pr) : List (Int × Int) := [(3, p.params.length), (4, p.states.length), (8, p.lines.length), (9, p.tables.length), (5, p.stmts.length)]
def manyW (p : Pr) : List (Int × Int) := [(3, (p.params.map Bd.cs).length), (4, (p.states.map Bd.cs).length), (8, (p.lines.map Ln.cs).length), (9, (p.tables.map Tb.cs).length), (5, (p.stmts.map Sm.cs).length)]
theorem opt_many {p : Pr} {k : Int} {M : List (D × D)} {f : D → Prop} {g : Prop} (hM : M = (manyW p).map iiC) (h1 : ∀ n, lkI k (manyL p) = some n → f (.i n)) (h2 : lkI k (manyL p) = none → g) : OptBr (mget (.i k) M) f g := by
  have e : manyW p = manyL p := by simp only [manyW, manyL, List.length_map]
  rw [e] at hM
  exact opt_lkI hM h1 h2
theorem many5 {p : Pr} {k m : Int} (h : lkI k (manyL p) = some m) (h5 : (k == 5) = true) : m = p.stmts.length := by
  have : k = 5 := by simpa using h5
  subst this
  exact (Option.some.inj h).symm
theorem many5n {p : Pr} {k : Int} (h : lkI k (manyL p) = none) (h5 : (k == 5) = true) : False := by
  have : k = 5 := by simpa using h5
  subst this
  cases h
theorem css_h {l : List Ex} {n most : Int} {b : Bool} (h : (bif ((Ex.css l).length : Int) != n then true else decide (most < 1)) = b) : (bif (l.length : Int) != n then true else decide (most < 1)) = b := by rw [Ex.css_len] at h; exact h
def inM (i : Int) : Option Int → Bool
  | none => true
  | some m => !(bif decide (i < 0) then true else decide (i ≥ m))
theorem inM_some {i m : Int} {b : Bool} (h : (bif decide (i < 0) then true else decide (i ≥ m)) = b) : inM i (some m) = !b := by rw [inM, h]
def ok0 (p : Pr) (k i m : Int) : Bool := if k == 1 then (bif decide (0 ≤ m) then decide (m ≤ 2147483648) else false) else if k == 18 then (bif decide (1 ≤ m) then decide (m ≤ 2147483648) else false) else if k == 5 then (p.stmts.getD i.toNat Sm.none).kind == 1 else true
mutual
def fitsM (p : Pr) : Ex → Int → Int × Bool
  | .mk k _ i m l, most => match lkI k needL with
    | none => (0, false)
    | some need => if (bif (l.length : Int) != need then true else decide (most < 1)) = true then (0, false) else if inM i (lkI k (manyL p)) = false then (0, false) else fitsL p l most 1 (ok0 p k i m)
def fitsL (p : Pr) : List Ex → Int → Int → Bool → Int × Bool
  | [], _, n, ok => (n, ok)
  | y :: r, most, n, ok => if (!(bif ok then (fitsM p y (most - n)).2 else false)) = true then (0, false) else fitsL p r most (n + (fitsM p y (most - n)).1) (bif ok then (fitsM p y (most - n)).2 else false)
end
theorem fitsM_eq (p : Pr) (x : Ex) (most : Int) : fitsM p x most = match lkI x.kind needL with
    | none => (0, false)
    | some need => if (bif (x.l.length : Int) != need then true else decide (most < 1)) = true then (0, false) else if inM x.index (lkI x.kind (manyL p)) = false then (0, false) else fitsL p x.l most 1 (ok0 p x.kind x.index x.n) := by cases x; rw [fitsM]; rfl
theorem fits_no {p : Pr} {x : Ex} {most : Int} (h : lkI x.kind needL = none) : fitsM p x most = (0, false) := by rw [fitsM_eq, h]
theorem fits_n1 {p : Pr} {x : Ex} {most need : Int} (h : lkI x.kind needL = some need) (h2 : (bif (x.l.length : Int) != need then true else decide (most < 1)) = true) : fitsM p x most = (0, false) := by
  rw [fitsM_eq, h]; simp only [h2, if_true]
theorem fits_n2 {p : Pr} {x : Ex} {most need : Int} (h : lkI x.kind needL = some need) (h2 : (bif (x.l.length : Int) != need then true else decide (most < 1)) = false) (h3 : inM x.index (lkI x.kind (manyL p)) = false) : fitsM p x most = (0, false) := by
  rw [fitsM_eq, h]; simp only [h2, h3, if_true, Bool.false_eq_true, if_false]
theorem fits_go {p : Pr} {x : Ex} {most need : Int} (h : lkI x.kind needL = some need) (h2 : (bif (x.l.length : Int) != need then true else decide (most < 1)) = false) (h3 : inM x.index (lkI x.kind (manyL p)) = true) : fitsM p x most = fitsL p x.l most 1 (ok0 p x.kind x.index x.n) := by
  rw [fitsM_eq, h]; simp only [h2, h3, Bool.false_eq_true, if_false, Bool.true_eq_false]
theorem most_ge {l : List Ex} {nd most : Int} (h : (bif ((Ex.css l).length : Int) != nd then true else decide (most < 1)) = false) : 1 ≤ most := by
  cases hc : ((Ex.css l).length : Int) != nd <;> rw [hc] at h <;> simp at h; omega
theorem fits_start {p : Pr} {x : Ex} {most nd : Int} {o : Option Int} {b : Bool} (hnd : lkI x.kind needL = some nd) (hmd : lkI x.kind (manyL p) = o) (h : (bif ((Ex.css x.l).length : Int) != nd then true else decide (most < 1)) = false) (h2 : inM x.index o = true) (h3 : ok0 p x.kind x.index x.n = b) : fitsM p x most = fitsL p x.l most 1 b := by
  rw [fits_go hnd (css_h h) (by rw [hmd]; exact h2), h3]
theorem fits_out {p : Pr} {x : Ex} {most nd : Int} {o : Option Int} (hnd : lkI x.kind needL = some nd) (hmd : lkI x.kind (manyL p) = o) (h : (bif ((Ex.css x.l).length : Int) != nd then true else decide (most < 1)) = false) (h2 : inM x.index o = false) : fitsM p x most = (0, false) := by
  rw [fits_n2 hnd (css_h h) (by rw [hmd]; exact h2)]
theorem ok0_1 {p : Pr} {k i m : Int} (h : (k == 1) = true) : ok0 p k i m = (bif decide (0 ≤ m) then decide (m ≤ 2147483648) else false) := by simp only [ok0, h, if_true]
theorem ok0_2 {p : Pr} {k i m : Int} (h : (k == 1) = false) (h2 : (k == 18) = true) : ok0 p k i m = (bif decide (1 ≤ m) then decide (m ≤ 2147483648) else false) := by simp only [ok0, h, h2, if_true, Bool.false_eq_true, if_false]
theorem ok0_3 {p : Pr} {k i m : Int} (h : (k == 1) = false) (h2 : (k == 18) = false) (h3 : (k == 5) = true) : ok0 p k i m = ((p.stmts.getD i.toNat Sm.none).kind == 1) := by simp only [ok0, h, h2, h3, if_true, Bool.false_eq_true, if_false]
theorem ok0_4 {p : Pr} {k i m : Int} (h : (k == 1) = false) (h2 : (k == 18) = false) (h3 : (k == 5) = false) : ok0 p k i m = true := by simp only [ok0, h, h2, h3, Bool.false_eq_true, if_false]
theorem idx5 {p : Pr} {k i m : Int} (h : lkI k (manyL p) = some m) (h5 : (k == 5) = true) (h2 : (bif decide (i < 0) then true else decide (i ≥ m)) = false) : 0 ≤ i ∧ i < p.stmts.length := by
  have := many5 h h5
  cases hc : decide (i < 0) <;> rw [hc] at h2 <;> simp at h2 hc; omega
theorem fitsL_no {p : Pr} {y : Ex} {r : List Ex} {most n : Int} {ok : Bool} (h : (!(bif ok then (fitsM p y (most - n)).2 else false)) = true) : fitsL p (y :: r) most n ok = (0, false) := by rw [fitsL, if_pos h]
theorem fitsL_go {p : Pr} {y : Ex} {r : List Ex} {most n : Int} {ok : Bool} (h : (!(bif ok then (fitsM p y (most - n)).2 else false)) = false) : fitsL p (y :: r) most n ok = fitsL p r most (n + (fitsM p y (most - n)).1) (bif ok then (fitsM p y (most - n)).2 else false) := by rw [fitsL, if_neg (by rw [h]; decide)]
theorem bifT {b c : Bool} (h : (!(bif b then c else false)) = false) : b = true ∧ c = true := by cases b <;> cases c <;> first | exact ⟨rfl, rfl⟩ | exact Bool.noConfusion h
theorem fits_rng (p : Pr) : ∀ (x : Ex) (most : Int), most ≤ 512 → 0 ≤ (fitsM p x most).1 ∧ (fitsM p x most).1 ≤ 512 ∧ ((fitsM p x most).2 = true → 1 ≤ (fitsM p x most).1 ∧ (fitsM p x most).1 ≤ most) := by
  refine Ex.ind fun x ih most hm => ?_
  have hL : ∀ (l : List Ex), (∀ y ∈ l, y ∈ x.l) → ∀ (n : Int) (ok : Bool), 1 ≤ n → n ≤ most → 0 ≤ (fitsL p l most n ok).1 ∧ (fitsL p l most n ok).1 ≤ 512 ∧ ((fitsL p l most n ok).2 = true → 1 ≤ (fitsL p l most n ok).1 ∧ (fitsL p l most n ok).1 ≤ most) := by
    intro l
    induction l with
    | nil => intro _ n ok h1 h2; rw [fitsL]; exact ⟨by simp only; omega, by simp only; omega, fun _ => ⟨h1, h2⟩⟩
    | cons y r ihr =>
      intro hl n ok h1 h2
      cases hb : !(bif ok then (fitsM p y (most - n)).2 else false) with
      | true => rw [fitsL_no hb]; exact ⟨Int.le_refl _, by decide, fun h => Bool.noConfusion h⟩
      | false =>
        rw [fitsL_go hb]
        obtain ⟨a, b⟩ := bifT hb
        have := ih y (hl y (by simp)) (most - n) (by omega)
        have h3 := this.2.2 b
        exact ihr (fun z hz => hl z (by simp [hz])) _ _ (by omega) (by omega)
  cases h : lkI x.kind needL with
  | none => rw [fits_no h]; exact ⟨Int.le_refl _, by decide, fun h => Bool.noConfusion h⟩
  | some need =>
    cases h2 : (bif (x.l.length : Int) != need then true else decide (most < 1)) with
    | true => rw [fits_n1 h h2]; exact ⟨Int.le_refl _, by decide, fun h => Bool.noConfusion h⟩
    | false =>
      cases h3 : inM x.index (lkI x.kind (manyL p)) with
      | false => rw [fits_n2 h h2 h3]; exact ⟨Int.le_refl _, by decide, fun h => Bool.noConfusion h⟩
      | true =>
        rw [fits_go h h2 h3]
        have : 1 ≤ most := by
          cases hc : (x.l.length : Int) != need <;> rw [hc] at h2 <;> simp at h2; omega
        exact hL x.l (fun _ h => h) 1 _ (Int.le_refl _) this
def parts16 (k : Int) : Int :=
  if k == 1 || k == 3 || k == 4 || k == 5 then 0
  else if k == 6 || k == 7 || k == 8 || k == 9 || k == 10 || k == 13 || k == 14 || k == 18 then 1
  else if k == 11 || k == 12 || k == 15 || k == 16 || k == 17 then 2
  else if k == 19 then 4 else -1
def own16 (p : Pr) (x : Ex) : Bool :=
  if ((x.l.length : Int) != parts16 x.kind) = true then false
  else if x.kind == 1 then (bif decide (x.n ≥ 0) then decide (x.n ≤ 2147483648) else false)
  else if x.kind == 18 then (bif decide (x.n ≥ 1) then decide (x.n ≤ 2147483648) else false)
  else if x.kind == 3 then (bif decide (x.index ≥ 0) then decide (x.index < p.params.length) else false)
  else if x.kind == 4 then (bif decide (x.index ≥ 0) then decide (x.index < p.states.length) else false)
  else if x.kind == 8 then (bif decide (x.index ≥ 0) then decide (x.index < p.lines.length) else false)
  else if x.kind == 9 then (bif decide (x.index ≥ 0) then decide (x.index < p.tables.length) else false)
  else if x.kind == 5 then (bif (bif decide (x.index ≥ 0) then decide (x.index < p.stmts.length) else false) then (p.stmts.getD x.index.toNat Sm.none).kind == 1 else false)
  else true
mutual
def countM (p : Pr) : Ex → Int → Int
  | .mk k nm i m l, most => if (bif decide (most < 1) then true else !own16 p (.mk k nm i m l)) = true then -1 else countL p l most 1
def countL (p : Pr) : List Ex → Int → Int → Int
  | [], _, n => n
  | y :: r, most, n => if countM p y (most - n) < 0 then -1 else countL p r most (n + countM p y (most - n))
end
theorem countM_eq (p : Pr) (x : Ex) (most : Int) : countM p x most = if (bif decide (most < 1) then true else !own16 p x) = true then -1 else countL p x.l most 1 := by cases x; rw [countM]; rfl
theorem count_rng (p : Pr) : ∀ (x : Ex) (most : Int), countM p x most = -1 ∨ (1 ≤ countM p x most ∧ countM p x most ≤ most) := by
  refine Ex.ind fun x ih most => ?_
  have hL : ∀ (l : List Ex), (∀ y ∈ l, y ∈ x.l) → ∀ (n : Int), 1 ≤ n → n ≤ most → countL p l most n = -1 ∨ (1 ≤ countL p l most n ∧ countL p l most n ≤ most) := by
    intro l
    induction l with
    | nil => intro _ n h1 h2; rw [countL]; exact .inr ⟨h1, h2⟩
    | cons y r ihr =>
      intro hl n h1 h2
      rw [countL]
      have := ih y (hl y (by simp)) (most - n)
      split
      · exact .inl rfl
      · exact ihr (fun z hz => hl z (by simp [hz])) _ (by omega) (by omega)
  rw [countM_eq]
  split
  · exact .inl rfl
  · rename_i h
    refine hL x.l (fun _ h => h) 1 (Int.le_refl _) ?_
    cases hc : decide (most < 1) with
    | true => rw [hc] at h; exact absurd rfl h
    | false => simpa using hc
theorem parts16_lk (k : Int) : lkI k needL = if parts16 k < 0 then none else some (parts16 k) := by
  by_cases hk : 1 ≤ k ∧ k ≤ 19
  · rcases Nam.kinds_cases hk with h | h | h | h | h | h | h | h | h | h | h | h | h | h | h | h | h | h | h <;> subst h <;> rfl
  · have h1 : ∀ n : Int, 1 ≤ n → n ≤ 19 → (k == n) = false := fun n a b => by
      simp only [beq_eq_false_iff_ne]; omega
    simp [parts16, lkI, needL, h1]
theorem own_fits {p : Pr} {x : Ex} {most : Int} (hm : 1 ≤ most) : (∃ n, lkI x.kind needL = some n ∧ (bif (x.l.length : Int) != n then true else decide (most < 1)) = false ∧ inM x.index (lkI x.kind (manyL p)) = true ∧ ok0 p x.kind x.index x.n = true) ↔ own16 p x = true := by
  have hm' : decide (most < 1) = false := by simp; omega
  rw [hm', parts16_lk]
  by_cases hk : 1 ≤ x.kind ∧ x.kind ≤ 19
  · rcases Nam.kinds_cases hk with h | h | h | h | h | h | h | h | h | h | h | h | h | h | h | h | h | h | h <;> rw [own16, h] <;> simp [parts16, inM, manyL, lkI, ok0] <;> (try omega)
  · have h1 : ∀ n : Int, 1 ≤ n → n ≤ 19 → (x.kind == n) = false := fun n a b => by
      simp only [beq_eq_false_iff_ne]; omega
    have : parts16 x.kind = -1 := by simp [parts16, h1]
    rw [own16, this]
    simp <;> omega
theorem count_fits (p : Pr) : ∀ (x : Ex) (most : Int), ((fitsM p x most).2 = true → countM p x most = (fitsM p x most).1) ∧ ((fitsM p x most).2 = false → countM p x most = -1) := by
  refine Ex.ind fun x ih most => ?_
  have hL : ∀ (l : List Ex), (∀ y ∈ l, y ∈ x.l) → ∀ (n : Int), ((fitsL p l most n true).2 = true → countL p l most n = (fitsL p l most n true).1) ∧ ((fitsL p l most n true).2 = false → countL p l most n = -1) := by
    intro l
    induction l with
    | nil => intro _ n; rw [fitsL, countL]; exact ⟨fun _ => rfl, fun h => Bool.noConfusion h⟩
    | cons y r ihr =>
      intro hl n
      have := ih y (hl y (by simp)) (most - n)
      have hr := fits_rng
      rw [countL]
      cases hb : (fitsM p y (most - n)).2 with
      | false =>
        rw [fitsL_no (by rw [hb]; rfl), this.2 hb]
        exact ⟨fun h => Bool.noConfusion h, fun _ => rfl⟩
      | true =>
        rw [fitsL_go (by rw [hb]; rfl), this.1 hb, hb]
        have hc := count_rng p y (most - n)
        rw [this.1 hb] at hc
        split
        · rename_i h; exfalso
          have hq : ∀ z : Ex, ∀ m, (fitsM p z m).2 = true → 1 ≤ (fitsM p z m).1 := by
            refine Ex.ind fun z ihz m hz => ?_
            have hLL : ∀ (l : List Ex), (∀ y ∈ l, y ∈ z.l) → ∀ (n : Int) (ok : Bool), 1 ≤ n → (fitsL p l m n ok).2 = true → 1 ≤ (fitsL p l m n ok).1 := by
              intro l
              induction l with
              | nil => intro _ n ok h1 h2; rw [fitsL]; exact h1
              | cons y r ihr =>
                intro hl n ok h1 h2
                cases hb : !(bif ok then (fitsM p y (m - n)).2 else false) with
                | true => rw [fitsL_no hb] at h2; exact Bool.noConfusion h2
                | false =>
                  rw [fitsL_go hb] at h2 ⊢
                  have := ihz y (hl y (by simp)) (m - n) (bifT hb).2
                  exact ihr (fun z hz => hl z (by simp [hz])) _ _ (by omega) h2
            rw [fitsM_eq] at hz ⊢
            split
            · rename_i hh; rw [hh] at hz; exact Bool.noConfusion hz
            · rename_i hh; rw [hh] at hz
              simp only at hz
              split
              · rename_i h3; rw [if_pos h3] at hz; exact Bool.noConfusion hz
              · rename_i h3; rw [if_neg h3] at hz
                split
                · rename_i h4; rw [if_pos h4] at hz; exact Bool.noConfusion hz
                · rename_i h4; rw [if_neg h4] at hz
                  exact hLL z.l (fun _ h => h) 1 _ (Int.le_refl _) hz
          have := hq y _ hb
          omega
        · exact ihr (fun z hz => hl z (by simp [hz])) _
  rw [countM_eq]
  by_cases hm : most < 1
  · have hf : fitsM p x most = (0, false) := by
      cases h : lkI x.kind needL with
      | none => exact fits_no h
      | some n => exact fits_n1 h (by rw [decide_eq_true hm]; cases ((x.l.length : Int) != n) <;> rfl)
    rw [hf, decide_eq_true hm]
    exact ⟨fun h => Bool.noConfusion h, fun _ => rfl⟩
  · have hm' : 1 ≤ most := by omega
    rw [decide_eq_false hm]
    cases ho : own16 p x with
    | true =>
      obtain ⟨n, h1, h2, h3, h4⟩ := (own_fits hm').2 ho
      rw [fits_go h1 h2 h3, h4]
      exact hL x.l (fun _ h => h) 1
    | false =>
      have hn : ¬ ∃ n, lkI x.kind needL = some n ∧ (bif (x.l.length : Int) != n then true else decide (most < 1)) = false ∧ inM x.index (lkI x.kind (manyL p)) = true ∧ ok0 p x.kind x.index x.n = true := by
        rw [own_fits hm', ho]; exact Bool.noConfusion
      refine ⟨fun h => ?_, fun _ => rfl⟩
      exfalso
      cases h1 : lkI x.kind needL with
      | none => rw [fits_no h1] at h; exact Bool.noConfusion h
      | some n =>
        cases h2 : (bif (x.l.length : Int) != n then true else decide (most < 1)) with
        | true => rw [fits_n1 h1 h2] at h; exact Bool.noConfusion h
        | false =>
          cases h3 : inM x.index (lkI x.kind (manyL p)) with
          | false => rw [fits_n2 h1 h2 h3] at h; exact Bool.noConfusion h
          | true =>
            rw [fits_go h1 h2 h3] at h
            have h4 : ok0 p x.kind x.index x.n = false := by
              cases h4 : ok0 p x.kind x.index x.n with
              | false => rfl
              | true => exact absurd ⟨n, h1, h2, h3, h4⟩ hn
            rw [h4] at h
            cases hl : x.l with
            | nil => rw [hl, fitsL] at h; exact Bool.noConfusion h
            | cons y r => rw [hl, fitsL_no rfl] at h; exact Bool.noConfusion h
theorem fits_wf {p : Pr} (ht : p.tables.all tableOk = true) : ∀ (x : Ex) (most : Int), (fitsM p x most).2 = true → wfX p p.stmts.length x = true := by
  refine Ex.ind fun x ih most h => ?_
  have hm : 1 ≤ most := by
    rcases count_rng p x most with q | q
    · have := (count_fits p x most).1 h
      rw [countM_eq] at q this
      split at q
      · rename_i hq
        cases hc : decide (most < 1) with
        | false => simpa using hc
        | true =>
          have hf : fitsM p x most = (0, false) := by
            cases h : lkI x.kind needL with
            | none => exact fits_no h
            | some n => exact fits_n1 h (by rw [hc]; cases ((x.l.length : Int) != n) <;> rfl)
          rw [hf] at h; exact Bool.noConfusion h
      · rename_i hq
        cases hc : decide (most < 1) with
        | false => simpa using hc
        | true => rw [hc] at hq; exact absurd rfl hq
    · omega
  have ho : own16 p x = true := by
    cases ho : own16 p x with
    | true => rfl
    | false =>
      have h1 := (count_fits p x most).1 h
      have h2 : countM p x most = -1 := by rw [countM_eq, ho]; cases decide (most < 1) <;> rfl
      have := fits_rng p x
      have h3 := count_rng p x most
      exfalso
      cases h1' : lkI x.kind needL with
      | none => rw [fits_no h1'] at h; exact Bool.noConfusion h
      | some n =>
        cases h2' : (bif (x.l.length : Int) != n then true else decide (most < 1)) with
        | true => rw [fits_n1 h1' h2'] at h; exact Bool.noConfusion h
        | false =>
          cases h3' : inM x.index (lkI x.kind (manyL p)) with
          | false => rw [fits_n2 h1' h2' h3'] at h; exact Bool.noConfusion h
          | true =>
            cases h4 : ok0 p x.kind x.index x.n with
            | true => have := (own_fits hm).1 ⟨n, h1', h2', h3', h4⟩; rw [ho] at this; exact Bool.noConfusion this
            | false =>
              rw [fits_go h1' h2' h3', h4] at h
              cases hl : x.l with
              | nil => rw [hl, fitsL] at h; exact Bool.noConfusion h
              | cons y r => rw [hl, fitsL_no rfl] at h; exact Bool.noConfusion h
  obtain ⟨n, h1, h2, h3, h4⟩ := (own_fits hm).2 ho
  rw [fits_go h1 h2 h3, h4] at h
  have hL : ∀ (l : List Ex), (∀ y ∈ l, y ∈ x.l) → ∀ (n : Int) (ok : Bool), (fitsL p l most n ok).2 = true → wfL p p.stmts.length l = true := by
    intro l
    induction l with
    | nil => intro _ n ok _; rfl
    | cons y r ihr =>
      intro hl n ok h
      cases hb : !(bif ok then (fitsM p y (most - n)).2 else false) with
      | true => rw [fitsL_no hb] at h; exact Bool.noConfusion h
      | false =>
        rw [fitsL_go hb] at h
        simp only [wfL, Bool.and_eq_true]
        exact ⟨ih y (hl y (by simp)) _ (bifT hb).2, ihr (fun z hz => hl z (by simp [hz])) _ _ h⟩
  rw [wfX_eq, hL x.l (fun _ h => h) _ _ h, Bool.and_true]
  rw [parts16_lk] at h1
  have hne : ∀ i : Int, 0 ≤ i → i < p.tables.length → (tableAt p i == []) = false := by
    intro i h0 h1
    have hm : p.tables.getD i.toNat Tb.none ∈ p.tables := by
      have : i.toNat < p.tables.length := by omega
      rw [List.getD_eq_getElem?_getD, List.getElem?_eq_getElem this]; exact List.getElem_mem this
    have hq := List.all_eq_true.1 ht _ hm
    simp only [tableOk, Bool.not_eq_true', Bool.or_eq_false_iff, decide_eq_false_iff_not] at hq
    rw [beq_eq_false_iff_ne]; intro h0; rw [tableAt] at h0; rw [h0] at hq; simp at hq
  by_cases hk : 1 ≤ x.kind ∧ x.kind ≤ 19
  · rw [own16] at ho
    rcases Nam.kinds_cases hk with h | h | h | h | h | h | h | h | h | h | h | h | h | h | h | h | h | h | h <;> rw [h] at ho ⊢ <;> simp [parts16, Ref15.parts, ownW] at ho ⊢ <;> first
      | exact ho
      | omega
      | exact ⟨ho.1.1, ho.1.2⟩
      | exact ⟨ho.2.1.1, ho.2.1.2⟩
      | exact ho.2.1
      | exact ⟨ho.2.1, ho.2.2.1⟩
      | exact ⟨ho.1, ho.2.1⟩
      | exact ⟨ho.1, ho.2, beq_eq_false_iff_ne.1 (hne x.index ho.2.1 ho.2.2)⟩
  · have h1' : ∀ n : Int, 1 ≤ n → n ≤ 19 → (x.kind == n) = false := fun n a b => by
      simp only [beq_eq_false_iff_ne]; omega
    have : parts16 x.kind = -1 := by simp [parts16, h1']
    rw [this] at h1; cases h1
end Go.Fw.Rg
namespace Go.Fw.Rg
open Go.Fw Go.Fw.Ref15
set_option linter.unusedSectionVars false
variable [GlobInt]
def rngT : Except Int Sp → D
  | .ok s => .tuple [.i s.1, .i s.2, .i 0]
  | .error e => .tuple [.i 0, .i 0, .i e]
theorem rng_step {A M : DOut → Prop} {V : Prop} {r : Except Int Sp} (hA : A (.ret (rngT r))) (h1 : ∀ s, r = .ok s → M (.ret (.tuple [.i s.1, .i s.2, .i 0]))) (h2 : ∀ e, r = .error e → M (.ret (.tuple [.i 0, .i 0, .i e]))) : (∃ out, A out ∧ M out) ∨ V := by
  refine .inl ⟨_, hA, ?_⟩
  cases r with
  | ok s => exact h1 s rfl
  | error e => exact h2 e rfl
def halfC (a b : Int) : Bool := bif decide (IntKind.i64.wrap (IntKind.i64.wrap (a.tdiv 2) + IntKind.i64.wrap (b.tdiv 2)) > 2305843009213693953) then true else decide (IntKind.i64.wrap (IntKind.i64.wrap (a.tdiv 2) + IntKind.i64.wrap (b.tdiv 2)) < -2305843009213693953)
theorem tdiv2 (a : Int) : -1 ≤ a - 2 * a.tdiv 2 ∧ a - 2 * a.tdiv 2 ≤ 1 := by
  by_cases h : 0 ≤ a
  · rw [Int.tdiv_eq_ediv_of_nonneg h]; omega
  · have e : a.tdiv 2 = -((-a).tdiv 2) := by rw [Int.neg_tdiv]; omega
    rw [e, Int.tdiv_eq_ediv_of_nonneg (by omega)]; omega
theorem half_val {a b : Int} (ha : inW a = true) (hb : inW b = true) : IntKind.i64.wrap (IntKind.i64.wrap (a.tdiv 2) + IntKind.i64.wrap (b.tdiv 2)) = a.tdiv 2 + b.tdiv 2 := by
  have ha := inW_iff.1 ha; have hb := inW_iff.1 hb
  have ta := tdiv2 a; have tb := tdiv2 b
  have h1 : -2305843009213693952 ≤ a.tdiv 2 ∧ a.tdiv 2 ≤ 2305843009213693952 := by omega
  have h2 : -2305843009213693952 ≤ b.tdiv 2 ∧ b.tdiv 2 ≤ 2305843009213693952 := by omega
  rw [wrap_ok (n := a.tdiv 2) (by omega) (by omega), wrap_ok (n := b.tdiv 2) (by omega) (by omega), wrap_ok (by omega) (by omega)]
theorem half_yes {a b : Int} (ha : inW a = true) (hb : inW b = true) (h : halfC a b = true) : inW (a + b) = false := by
  rw [halfC, half_val ha hb, bif_or, Bool.or_eq_true, decide_eq_true_eq, decide_eq_true_eq] at h
  have ha := inW_iff.1 ha; have hb := inW_iff.1 hb
  cases hc : inW (a + b) with
  | false => rfl
  | true => have := inW_iff.1 hc; have ta := tdiv2 a; have tb := tdiv2 b; exfalso; omega
theorem half_no {a b : Int} (ha : inW a = true) (hb : inW b = true) (h : halfC a b = false) : IntKind.i64.wrap (a + b) = a + b := by
  rw [halfC, half_val ha hb, bif_or, Bool.or_eq_false_iff, decide_eq_false_iff_not, decide_eq_false_iff_not] at h
  have ha := inW_iff.1 ha; have hb := inW_iff.1 hb
  have ta := tdiv2 a; have tb := tdiv2 b
  exact wrap_ok (by omega) (by omega)
def sumW (a b : Int) : Int := if halfC a b then 0 else a + b
theorem sum_ref (a b : Int) : (bif decide (a + b ≤ 4611686018427387904) then decide (a + b ≥ -4611686018427387904) else false) = inW (a + b) := by
  rw [bif_and, inW, Bool.and_comm]
theorem two_ref {a b c d : Int} (ha : inW a = true) (hb : inW b = true) (hc : inW c = true) (hd : inW d = true) : rngT (if (inW (a + b) && inW (c + d)) = true then .ok (sumW a b, sumW c d) else .error 160) = rngT (two (a + b) (c + d)) := by
  rw [two]
  cases h1 : inW (a + b) with
  | false => rfl
  | true =>
    cases h2 : inW (c + d) with
    | false => rfl
    | true =>
      have e1 : sumW a b = a + b := by
        rw [sumW]; split
        · rename_i h; rw [half_yes ha hb h] at h1; cases h1
        · rfl
      have e2 : sumW c d = c + d := by
        rw [sumW]; split
        · rename_i h; rw [half_yes hc hd h] at h2; cases h2
        · rfl
      rw [e1, e2]
def mulO (a b : Int) : Bool := decide (mm2 true a (IntKind.i64.wrap (0 - a)) > IntKind.i64.wrap ((4611686018427387904 : Int).tdiv (mm2 true b (IntKind.i64.wrap (0 - b)))))
theorem mulO_eq {a b : Int} (ha : inW a = true) (hb : inW b = true) (h0 : b ≠ 0) : mulO a b = !inW (a * b) := by
  have ha' := inW_iff.1 ha
  have hb' := inW_iff.1 hb
  have hv : 0 < b.natAbs := Int.natAbs_pos.2 h0
  have hq : ((4611686018427387904 : Int).tdiv (b.natAbs : Int)) = ((4611686018427387904 / b.natAbs : Nat) : Int) := by
    rw [Int.tdiv_eq_ediv_of_nonneg (by omega)]; rfl
  have hle : 4611686018427387904 / b.natAbs ≤ 4611686018427387904 := Nat.div_le_self _ _
  have hex : (mm2 true a (IntKind.i64.wrap (0 - a)) ≤ IntKind.i64.wrap ((4611686018427387904 : Int).tdiv (mm2 true b (IntKind.i64.wrap (0 - b))))) ↔ inW (a * b) = true := by
    rw [neg_wrap ha, neg_wrap hb, mm2_abs, mm2_abs, hq, wrap_nat2 hle, Int.ofNat_le, Nat.le_div_iff_mul_le hv, inW_iff, ← Int.natAbs_mul]
    omega
  rw [mulO]
  cases hw : inW (a * b) with
  | true => have := hex.2 hw; exact decide_eq_false (by omega)
  | false =>
    refine decide_eq_true ?_
    have : ¬ (inW (a * b) = true) := by rw [hw]; exact Bool.noConfusion
    rw [← hex] at this; omega
def pv (a b : Int) : Int := if inW (a * b) then a * b else 0
theorem pv_zero {a b : Int} (h : mulZ a b = true) : inW (a * b) = true ∧ pv a b = 0 := by
  have e := mulZ_in h
  rw [pv, e]; exact ⟨rfl, rfl⟩
theorem prod_over {a b : Int} (ha : inW a = true) (hb : inW b = true) (h0 : mulZ a b = false) (h : mulO a b = true) : D.tuple [.i 0, .b false] = D.tuple [.i (pv a b), .b (inW (a * b))] := by
  rw [mulO_eq ha hb (mulZ_no h0)] at h
  have e : inW (a * b) = false := by simpa using h
  simp only [pv, e]; rfl
theorem prod_fine {a b : Int} (ha : inW a = true) (hb : inW b = true) (h0 : mulZ a b = false) (h : mulO a b = false) : D.tuple [.i (IntKind.i64.wrap (a * b)), .b true] = D.tuple [.i (pv a b), .b (inW (a * b))] := by
  rw [mulO_eq ha hb (mulZ_no h0)] at h
  have e : inW (a * b) = true := by simpa using h
  simp only [pv, e, inW_wrap e]; rfl
theorem mm2_abs_ne {b : Int} (hb : inW b = true) (h0 : b ≠ 0) : mm2 true b (IntKind.i64.wrap (0 - b)) ≠ 0 := by
  rw [neg_wrap hb, mm2_abs]; omega
def prs (a b : Sp) : List Int := [a.1 * b.1, a.1 * b.2, a.2 * b.1, a.2 * b.2]
def foldM (t : Bool) : List Int → Int → Int
  | [], m => m
  | v :: r, m => foldM t r (mm2 t m v)
structure PrI (a b : Sp) (n : Nat) (lo hi : Int) : Prop where
  ok : ∀ v ∈ (prs a b).take n, inW v = true
  lo : lo = foldM false ((prs a b).take n) 4611686018427387904
  hi : hi = foldM true ((prs a b).take n) (-4611686018427387904)
theorem prI_start (a b : Sp) : PrI a b 0 4611686018427387904 (-4611686018427387904) := ⟨fun v h => by simp at h, rfl, rfl⟩
theorem foldM_snoc (t : Bool) (v : Int) : ∀ (l : List Int) (m : Int), foldM t (l ++ [v]) m = mm2 t (foldM t l m) v
  | [], m => rfl
  | x :: r, m => by rw [List.cons_append, foldM, foldM, foldM_snoc t v r]
theorem prI_next {a b : Sp} {n : Nat} {lo hi v : Int} (h : PrI a b n lo hi) (hv : (prs a b)[n]? = some v) (hw : inW v = true) : PrI a b (n + 1) (mm2 false lo v) (mm2 true hi v) := by
  have e : (prs a b).take (n + 1) = (prs a b).take n ++ [v] := by rw [List.take_add_one, hv]; rfl
  refine ⟨fun w hw' => ?_, ?_, ?_⟩
  · rw [e] at hw'
    rcases List.mem_append.1 hw' with q | q
    · exact h.ok w q
    · rw [List.mem_singleton.1 q]; exact hw
  · rw [e, foldM_snoc, ← h.lo]
  · rw [e, foldM_snoc, ← h.hi]
theorem prI_end {a b : Sp} {lo hi : Int} (h : PrI a b 4 lo hi) : prodM a b = .ok (lo, hi) := by
  have h1 := h.ok (a.1 * b.1) (by simp [prs])
  have h2 := h.ok (a.1 * b.2) (by simp [prs])
  have h3 := h.ok (a.2 * b.1) (by simp [prs])
  have h4 := h.ok (a.2 * b.2) (by simp [prs])
  rw [prodM, h1, h2, h3, h4, h.lo, h.hi]
  have m1 : mm2 false 4611686018427387904 (a.1 * b.1) = a.1 * b.1 := by
    have := inW_iff.1 h1; simp only [mm2]; split <;> omega
  have m2 : mm2 true (-4611686018427387904) (a.1 * b.1) = a.1 * b.1 := by
    have := inW_iff.1 h1; simp only [mm2]; split <;> omega
  simp [prs, foldM, m1, m2, min4, max4]
theorem prI_bad {a b : Sp} {n : Nat} {v : Int} (hv : (prs a b)[n]? = some v) (hw : inW v = false) : prodM a b = .error 160 := by
  have hm : v ∈ prs a b := List.mem_of_getElem? hv
  rw [prodM]
  have : (inW (a.1 * b.1) && inW (a.1 * b.2) && inW (a.2 * b.1) && inW (a.2 * b.2)) = false := by
    simp only [prs, List.mem_cons, List.not_mem_nil, or_false] at hm
    rcases hm with h | h | h | h <;> subst h <;> rw [hw] <;> simp
  rw [this]; rfl
theorem prI_step {a b : Sp} {n : Nat} {lo hi x y : Int} (h : PrI a b n lo hi) (hv : (prs a b)[n]? = some (x * y)) (hw : (!inW (x * y)) = false) : PrI a b (n + 1) (mm2 false lo (pv x y)) (mm2 true hi (pv x y)) := by
  have hw : inW (x * y) = true := by simpa using hw
  rw [pv, if_pos hw]; exact prI_next h hv hw
theorem prI_out {a b : Sp} (n : Nat) {v : Int} (hv : (prs a b)[n]? = some v) (hw : (!inW v) = true) : D.tuple [.i 0, .i 0, .i 160] = rngT (prodM a b) := by
  rw [prI_bad hv (by simpa using hw)]; rfl
theorem prI_two {a b : Sp} {i k : Nat} {lo hi : Int} (h : PrI a b (2 * i + k) lo hi ∧ k ≤ 2) (hk : decide ((k : Int) < 2) = false) : PrI a b (2 * (i + 1)) lo hi := by
  have : k = 2 := by have := of_decide_eq_false hk; omega
  subst this; exact h.1
theorem prI_fin {a b : Sp} {i : Nat} {lo hi : Int} (h : PrI a b (2 * i) lo hi ∧ i ≤ 2) (hk : decide ((i : Int) < 2) = false) : D.tuple [.i lo, .i hi, .i 0] = rngT (prodM a b) := by
  have : i = 2 := by have := of_decide_eq_false hk; omega
  subst this; rw [prI_end h.1]; rfl
theorem two_cases {i : Nat} (h : decide ((i : Int) < 2) = true) : i = 0 ∨ i = 1 := by
  have := of_decide_eq_true h; omega
theorem wfS_2 {p : Pr} {i : Nat} {s : Sm} (h : wfS p i s = true) (h2 : (s.kind == 2) = true) : 0 ≤ s.index ∧ s.index < p.states.length := by
  simp only [wfS, Bool.and_eq_true, h2, Bool.not_true, Bool.false_or, decide_eq_true_eq] at h; exact h.2.1
theorem wfS_3 {p : Pr} {i : Nat} {s : Sm} (h : wfS p i s = true) (h2 : (s.kind == 3) = true) : 0 ≤ s.index ∧ s.index < p.lines.length := by
  simp only [wfS, Bool.and_eq_true, h2, Bool.not_true, Bool.false_or, decide_eq_true_eq] at h; exact h.2.2
theorem within_all {a b : Int} (ha : inW a = true) (hb : inW b = true) : (decide (a ≥ ((-4611686018427387904, 4611686018427387904) : Sp).1) && decide (b ≤ ((-4611686018427387904, 4611686018427387904) : Sp).2)) = true := by
  have ha := inW_iff.1 ha; have hb := inW_iff.1 hb
  simp; omega
theorem own_k3 {p : Pr} {n : Nat} {k i m : Int} (h : ownW p n k i m = true) (hk : (k == 3) = true) : 0 ≤ i ∧ i < p.params.length := by
  have : k = 3 := by simpa using hk
  subst this
  have h : (decide (0 ≤ i) && decide (i < p.params.length)) = true := h
  simpa using h
theorem own_k4 {p : Pr} {n : Nat} {k i m : Int} (h : ownW p n k i m = true) (hk : (k == 4) = true) : 0 ≤ i ∧ i < p.states.length := by
  have : k = 4 := by simpa using hk
  subst this
  have h : (decide (0 ≤ i) && decide (i < p.states.length)) = true := h
  simpa using h
theorem own_k5 {p : Pr} {n : Nat} {k i m : Int} (h : ownW p n k i m = true) (hk : (k == 5) = true) : 0 ≤ i ∧ i < n := by
  have : k = 5 := by simpa using hk
  subst this
  have h : (decide (0 ≤ i) && decide (i < n)) = true := h
  simpa using h
theorem own_k8 {p : Pr} {n : Nat} {k i m : Int} (h : ownW p n k i m = true) (hk : (k == 8) = true) : 0 ≤ i ∧ i < p.lines.length := by
  have : k = 8 := by simpa using hk
  subst this
  have h : (decide (0 ≤ i) && decide (i < p.lines.length)) = true := h
  simpa using h
theorem own_k9 {p : Pr} {n : Nat} {k i m : Int} (h : ownW p n k i m = true) (hk : (k == 9) = true) : 0 ≤ i ∧ i < p.tables.length ∧ tableAt p i ≠ [] := by
  have : k = 9 := by simpa using hk
  subst this
  have h : (decide (0 ≤ i) && decide (i < p.tables.length) && !(tableAt p i == [])) = true := h
  simp only [Bool.and_eq_true, decide_eq_true_eq, Bool.not_eq_true', beq_eq_false_iff_ne] at h
  exact ⟨h.1.1, h.1.2, h.2⟩
theorem own_k18 {p : Pr} {n : Nat} {k i m : Int} (h : ownW p n k i m = true) (hk : (k == 18) = true) : 1 ≤ m := by
  have : k = 18 := by simpa using hk
  subst this
  have h : (decide (1 ≤ m) && decide (m ≤ 2147483648)) = true := h
  simp only [Bool.and_eq_true, decide_eq_true_eq] at h; exact h.1
theorem one_partx {k : Int} {n : Nat} (c : Int) (h : (n : Int) = Ref15.parts k) (hc : Ref15.parts c = 1) (hk : (k == c) = true) : (0 : Int) < n := by
  have : k = c := by simpa using hk
  subst this; omega
theorem two_partx {k : Int} {n : Nat} (c : Int) (h : (n : Int) = Ref15.parts k) (hc : Ref15.parts c = 2) (hk : (k == c) = true) : (n : Int) = 2 := by
  have : k = c := by simpa using hk
  subst this; omega
theorem if_parts {k : Int} {n : Nat} (h : (n : Int) = Ref15.parts k) (hk : (k == 19) = true) : (n : Int) = 4 := by
  have : k = 19 := by simpa using hk
  subst this; exact h
theorem tab_pos {p : Pr} {n : Nat} {k i m : Int} (h : ownW p n k i m = true) (hk : (k == 9) = true) : 0 < (tableAt p i).length := List.length_pos_iff.2 (own_k9 h hk).2.2
theorem tab_len {p : Pr} {n : Nat} {k i m : Int} (h : ownW p n k i m = true) (hk : (k == 9) = true) (hT : ∀ t ∈ p.tables, t.values.length ≤ 1073741824) : (tableAt p i).length ≤ 9223372036854775807 := by
  have := hT _ (getD_mem' Tb.none (own_k9 h hk).1 (own_k9 h hk).2.1)
  have : (tableAt p i).length ≤ 1073741824 := this
  omega
theorem opM_k {p : Pr} {found l : List Sp} {k i m : Int} (c : Int) (hk : (k == c) = true) : opM p found k i m l = opM p found c i m l := by
  have : k = c := by simpa using hk
  rw [this]
theorem k19 {p : Pr} {n : Nat} {k i m : Int} (h : ownW p n k i m = true) (h1 : (k == 1) = false) (h3 : (k == 3) = false) (h4 : (k == 4) = false) (h5 : (k == 5) = false) (h6 : (k == 6) = false) (h7 : (k == 7) = false) (h8 : (k == 8) = false) (h9 : (k == 9) = false) (h10 : (k == 10) = false) (h11 : (k == 11) = false) (h12 : (k == 12) = false) (h13 : (k == 13) = false) (h14 : (k == 14) = false) (h15 : (k == 15) = false) (h16 : (k == 16) = false) (h17 : (k == 17) = false) (h18 : (k == 18) = false) : (k == 19) = true := by
  rcases kinds h with r | r | r | r | r | r | r | r | r | r | r | r | r | r | r | r | r | r <;> subst r <;> first | rfl | (exact Bool.noConfusion ‹((1 : Int) == 1) = false›) | (exact Bool.noConfusion h3) | (exact Bool.noConfusion h4) | (exact Bool.noConfusion h5) | (exact Bool.noConfusion h6) | (exact Bool.noConfusion h7) | (exact Bool.noConfusion h8) | (exact Bool.noConfusion h9) | (exact Bool.noConfusion h10) | (exact Bool.noConfusion h11) | (exact Bool.noConfusion h12) | (exact Bool.noConfusion h13) | (exact Bool.noConfusion h14) | (exact Bool.noConfusion h15) | (exact Bool.noConfusion h16) | (exact Bool.noConfusion h17) | (exact Bool.noConfusion h18)
theorem ite_err {c : Prop} [Decidable c] {a b : Except Int Sp} {e : Int} {P : Prop} (h : (if c then a else b) = .error e) (ha : a = .error e → P) (hb : b = .error e → P) : P := by
  split at h
  · exact ha h
  · exact hb h
theorem find_ne {p : Pr} {found : List Sp} : ∀ (x : Ex) (e : Int), findM p found x = .error e → e = 160 ∨ e = 161 := by
  have hO : ∀ (k i m : Int) (l : List Sp) (e : Int), opM p found k i m l = .error e → e = 160 ∨ e = 161 := by
    intro k i m l e h
    unfold opM at h
    repeat' (refine ite_err h ?_ ?_ <;> (clear h; intro h))
    all_goals first
      | (cases h; done)
      | (cases h; exact .inl rfl)
      | (cases h; exact .inr rfl)
  refine Ex.ind fun x ih e h => ?_
  have hL : ∀ (l : List Ex), (∀ y ∈ l, y ∈ x.l) → ∀ e, findL p found l = .error e → e = 160 ∨ e = 161 := by
    intro l
    induction l with
    | nil => intro _ e h; rw [findL] at h; cases h
    | cons y r ihr =>
      intro hl e h
      rw [findL] at h
      cases hy : findM p found y with
      | error e' => rw [hy] at h; cases h; exact ih y (hl y (by simp)) _ hy
      | ok s =>
        rw [hy] at h
        simp only at h
        cases hr : findL p found r with
        | error e' => rw [hr] at h; cases h; exact ihr (fun z hz => hl z (by simp [hz])) _ hr
        | ok t => rw [hr] at h; cases h
  rw [findM_eq] at h
  cases hl : findL p found x.l with
  | error e' => rw [hl] at h; cases h; exact hL _ (fun _ h => h) _ hl
  | ok s => rw [hl] at h; exact hO _ _ _ _ _ h
theorem find_ne0 {p : Pr} {found : List Sp} {x : Ex} {e : Int} (h : findM p found x = .error e) : (e != 0) = true := by
  rcases find_ne x e h with r | r <;> subst r <;> rfl
end Go.Fw.Rg
namespace Go.Fw.Rg
open Go.Fw Go.Fw.Ref15
set_option linter.unusedSectionVars false
variable [GlobInt]
def boundsR (p : Pr) : List Sp × Int := if (resE p != 0) = true then ([], resE p) else match stmtsM p p.stmts [] with
  | .ok F => (F, 0)
  | .error e => ([], e)
def boundsT : Except Int (List Sp) → D
  | .ok F => .tuple [.sl 2 (F.map Sp.cs), .i 0]
  | .error e => .tuple [.sl 2 [], .i e]
def boundsD (p : Pr) : D := .tuple [.sl 2 ((boundsR p).1.map Sp.cs), .i (boundsR p).2]
def fitsB (p : Pr) (x : Ex) : Bool := (fitsM p x 512).2
def intervalR (p : Pr) (x : Ex) : Except Int Sp := if ((boundsR p).2 != 0) = true then .error (boundsR p).2 else if fitsB p x then findM p (boundsR p).1 x else .error 150
theorem boundsD_no {p : Pr} (h : (resE p != 0) = true) : boundsD p = .tuple [.sl 2 [], .i (resE p)] := by rw [boundsD, boundsR, if_pos h]; rfl
theorem boundsD_go {p : Pr} (h : resE p = 0) : boundsD p = boundsT (stmtsM p p.stmts []) := by
  have h : ¬ ((resE p != 0) = true) := by rw [h]; decide
  rw [boundsD, boundsR, if_neg h]
  cases stmtsM p p.stmts [] <;> rfl
theorem boundsR_ok {p : Pr} {F : List Sp} (h : resE p = 0) (h2 : stmtsM p p.stmts [] = .ok F) : boundsR p = (F, 0) := by
  have h : ¬ ((resE p != 0) = true) := by rw [h]; decide
  rw [boundsR, if_neg h, h2]
theorem boundsR_bad {p : Pr} {e : Int} (h : resE p = 0) (h2 : stmtsM p p.stmts [] = .error e) : boundsR p = ([], e) := by
  have h : ¬ ((resE p != 0) = true) := by rw [h]; decide
  rw [boundsR, if_neg h, h2]
theorem boundsR_no {p : Pr} (h : (resE p != 0) = true) : boundsR p = ([], resE p) := by rw [boundsR, if_pos h]
theorem stm_ne {p : Pr} : ∀ (r : List Sm) (fs : List Sp) (e : Int), stmtsM p r fs = .error e → e = 160 ∨ e = 161
  | [], fs, e, h => by rw [stmtsM] at h; cases h
  | s :: r, fs, e, h => by
    rw [stmtsM] at h
    cases hf : findM p fs s.x with
    | error e' => rw [hf] at h; cases h; exact find_ne _ _ hf
    | ok f =>
      rw [hf] at h
      simp only at h
      split at h
      · exact stm_ne r _ e h
      · cases h; exact .inr rfl
theorem stm_ne0 {p : Pr} {e : Int} (h : stmtsM p p.stmts [] = .error e) : (e != 0) = true := by
  rcases stm_ne _ _ _ h with r | r <;> subst r <;> rfl
structure BOk (p : Pr) (F : List Sp) : Prop where
  res : Res p
  run : stmtsM p p.stmts [] = .ok F
  len : F.length = p.stmts.length
  ins : InS F
theorem stm_len {p : Pr} (hR : Rng p) : ∀ (r : List Sm) (i : Nat) (fs F : List Sp), wfSL p i r = true → fs.length = i → InS fs → stmtsM p r fs = .ok F → F.length = i + r.length ∧ InS F
  | [], i, fs, F, _, hl, hi, h => by rw [stmtsM] at h; cases h; exact ⟨by simp [hl], hi⟩
  | s :: r, i, fs, F, hw, hl, hi, h => by
    rw [stmtsM] at h
    cases hf : findM p fs s.x with
    | error e' => rw [hf] at h; cases h
    | ok f =>
      rw [hf] at h
      simp only at h
      split at h
      · have hq := findM_in hR hi _ _ (by rw [hl]; exact wfSL_x hw) hf
        have := stm_len hR r (i + 1) (fs ++ [f]) F (wfSL_next hw) (by simp [hl]) (inS_snoc hi hq) h
        exact ⟨by simp only [List.length_cons]; omega, this.2⟩
      · cases h
theorem bok_of {p : Pr} {F : List Sp} (h : resE p = 0) (h2 : stmtsM p p.stmts [] = .ok F) : BOk p F := by
  have hr := resE_res h
  have := stm_len hr.rng p.stmts 0 [] F hr.wf rfl (fun s hs => by simp at hs) h2
  exact ⟨hr, h2, by simpa using this.1, this.2⟩
theorem boundsR_zero {p : Pr} (h : (boundsR p).2 = 0) : BOk p (boundsR p).1 ∧ resE p = 0 := by
  cases hz : resE p != 0 with
  | true => rw [boundsR_no hz] at h; have h : resE p = 0 := h; rw [h] at hz; exact absurd hz (by decide)
  | false =>
    have hz : resE p = 0 := by simpa using hz
    cases hs : stmtsM p p.stmts [] with
    | error e => rw [boundsR_bad hz hs] at h; have h : e = 0 := h; have := stm_ne0 hs; rw [h] at this; exact absurd this (by decide)
    | ok F => rw [boundsR_ok hz hs]; exact ⟨bok_of hz hs, hz⟩
theorem fitsB_count (p : Pr) (x : Ex) : decide (countM p x 512 > 0) = fitsB p x := by
  have h := count_fits p x 512
  have hr := fits_rng p x 512 (by decide)
  cases hb : fitsB p x with
  | true => have hb' : (fitsM p x 512).2 = true := hb; rw [h.1 hb']; have := hr.2.2 hb'; exact decide_eq_true (by omega)
  | false => have hb' : (fitsM p x 512).2 = false := hb; rw [h.2 hb']; rfl
theorem bok_wf {p : Pr} {F : List Sp} {x : Ex} (h : BOk p F) (hx : fitsB p x = true) : wfX p F.length x = true := by
  rw [h.len]; exact fits_wf h.res.tb x 512 hx
theorem intR_no {p : Pr} {x : Ex} (h : ((boundsR p).2 != 0) = true) : intervalR p x = .error (boundsR p).2 := by rw [intervalR, if_pos h]
theorem intR_name {p : Pr} {x : Ex} (h : (boundsR p).2 = 0) (hx : fitsB p x = false) : intervalR p x = .error 150 := by
  rw [intervalR, if_neg (by rw [h]; decide), hx]; rfl
theorem intR_go {p : Pr} {x : Ex} (h : (boundsR p).2 = 0) (hx : fitsB p x = true) : intervalR p x = findM p (boundsR p).1 x := by
  rw [intervalR, if_neg (by rw [h]; decide), hx]; rfl
theorem bif_t {a b : Bool} (h : (bif a then b else false) = true) : a = true ∧ b = true := by cases a <;> cases b <;> first | exact ⟨rfl, rfl⟩ | exact Bool.noConfusion h
theorem bif_le {a : Bool} {n m : Int} (h : (bif a then decide (n ≤ m) else false) = true) : n ≤ m := of_decide_eq_true (bif_t h).2
theorem nil_bif {i n : Nat} {b : Bool} (hd : ¬ i < n) (h : (bif decide ((i : Int) < (n : Int)) then b else false) = true) : False := hd (by have := of_decide_eq_true (bif_t h).1; omega)
theorem drop_ge {α : Type} {l : List α} {i : Nat} (h : l.drop i = []) : ¬ i < l.length := by
  have := List.drop_eq_nil_iff.1 h; omega
theorem css_ge {l : List Ex} {i : Nat} (h : l.drop i = []) : ¬ i < (Ex.css l).length := by rw [Ex.css_len]; exact drop_ge h
theorem bif_no {i n : Nat} {a m : Int} (hl : i < n) (h : (bif decide ((i : Int) < (n : Int)) then decide (a ≤ m) else false) = false) : ¬ a ≤ m := by
  rw [decide_eq_true (show (i : Int) < (n : Int) by omega)] at h; exact of_decide_eq_false h
theorem not_t {b : Bool} (h : (!b) = true) : b = false := by cases b <;> first | rfl | exact Bool.noConfusion h
theorem not_f {b : Bool} (h : (!b) = false) : b = true := by cases b <;> first | rfl | exact Bool.noConfusion h
theorem stmF_ok' {p : Pr} : ∀ (r : List Sm) (fs F : List Sp), stmtsM p r fs = .ok F → stmtsF p r fs = F
  | [], fs, F, h => by rw [stmtsM] at h; cases h; rfl
  | s :: r, fs, F, h => by
    rw [stmtsM] at h
    rw [stmtsF]
    cases hf : findM p fs s.x with
    | error e' => rw [hf] at h; cases h
    | ok f =>
      rw [hf] at h
      simp only at h ⊢
      split at h
      · rename_i hw; rw [if_pos hw]; exact stmF_ok' r _ F h
      · cases h
theorem stmF_ok {p : Pr} {F : List Sp} (h : stmtsM p p.stmts [] = .ok F) : stmtsF p p.stmts [] = F := stmF_ok' _ _ _ h
theorem boundsR_nil {p : Pr} (h : ((boundsR p).2 != 0) = true) : (boundsR p).1 = [] := by
  cases hz : resE p != 0 with
  | true => rw [boundsR_no hz]
  | false =>
    have hz : resE p = 0 := by simpa using hz
    cases hs : stmtsM p p.stmts [] with
    | error e => rw [boundsR_bad hz hs]
    | ok F => rw [boundsR_ok hz hs] at h; exact Bool.noConfusion (show false = true from h)
theorem samePr_comm (a b : Pr) : samePr a b = samePr b a := by
  rw [Bool.eq_iff_iff, samePr_iff, samePr_iff]; exact eq_comm
theorem stI_s {p : Pr} {R : Except Int (List Sp)} {FF : List Sp} {i : Nat} {s : Sm} {r : List Sm} {fs : List Sp} (h : StI p R FF i (s :: r) fs) : wfS p i s = true := by
  have := h.wf; simp only [wfSL, Bool.and_eq_true] at this; exact this.1
mutual
def esz : Ex → Nat
  | .mk _ nm _ _ l => 1 + nm.length + eszL l
def eszL : List Ex → Nat
  | [] => 0
  | x :: r => esz x + eszL r
end
theorem esz_eq (x : Ex) : esz x = 1 + x.name.length + eszL x.l := by cases x; rw [esz]; rfl
mutual
def sizeM : Ex → Int → Int
  | .mk _ nm _ _ l, most => sizeL l most (1 + nm.length)
def sizeL : List Ex → Int → Int → Int
  | [], _, n => n
  | y :: r, most, n => if n ≤ most then sizeL r most (n + sizeM y (most - n)) else n
end
theorem sizeM_eq (x : Ex) (most : Int) : sizeM x most = sizeL x.l most (1 + x.name.length) := by cases x; rw [sizeM]; rfl
theorem sizeM_rng : ∀ (x : Ex) (most : Int), 1 ≤ sizeM x most ∧ sizeM x most ≤ esz x := by
  refine Ex.ind fun x ih most => ?_
  have hL : ∀ (l : List Ex), (∀ y ∈ l, y ∈ x.l) → ∀ n : Int, 1 ≤ n → 1 ≤ sizeL l most n ∧ sizeL l most n ≤ n + eszL l := by
    intro l
    induction l with
    | nil => intro _ n h; rw [sizeL]; simp only [eszL]; omega
    | cons y r ihr =>
      intro hl n h
      rw [sizeL]
      have h1 := ih y (hl y (by simp)) (most - n)
      simp only [eszL]
      split
      · have := ihr (fun z hz => hl z (by simp [hz])) (n + sizeM y (most - n)) (by omega); omega
      · omega
  rw [sizeM_eq, esz_eq]
  have := hL x.l (fun _ h => h) (1 + x.name.length) (by omega)
  omega
theorem esz_mem : ∀ {l : List Ex} {y : Ex}, y ∈ l → esz y ≤ eszL l
  | x :: r, y, h => by
    simp only [eszL]
    rcases List.mem_cons.1 h with rfl | h
    · omega
    · have := esz_mem h; omega
def fewT : List Tb → Int → Int
  | [], n => n
  | t :: r, n => fewT r (n + t.values.length + t.name.length)
def fewB : List Bd → Int → Int
  | [], n => n
  | t :: r, n => fewB r (n + t.name.length)
def fewN : List Ln → Int → Int
  | [], n => n
  | t :: r, n => fewN r (n + t.name.length)
def fewS : List Sm → Int → Int
  | [], n => n
  | s :: r, n => if n ≤ 1500 then fewS r (n + s.name.length + sizeM s.x 400) else n
def few0 (p : Pr) : Int := p.name.length + p.params.length + p.states.length + p.lines.length + p.tables.length + p.stmts.length
def fewP (p : Pr) : Bool := if decide (few0 p > 200) = true then false else decide (fewS p.stmts (fewN p.lines (fewB p.states (fewB p.params (fewT p.tables (few0 p))))) ≤ 1500)
end Go.Fw.Rg
namespace Go.Fw.Rg
open Go.Fw Go.Fw.Ref15
set_option linter.unusedSectionVars false
variable [GlobInt]
structure FewH (p : Pr) : Prop where
  nm : p.name.length ≤ 1073741824
  par : ∀ b ∈ p.params, b.name.length ≤ 1073741824
  sta : ∀ b ∈ p.states, b.name.length ≤ 1073741824
  lin : ∀ b ∈ p.lines, b.name.length ≤ 1073741824
  tab : ∀ t ∈ p.tables, t.name.length ≤ 1073741824 ∧ t.values.length ≤ 1073741824
  stm : ∀ s ∈ p.stmts, s.name.length ≤ 1073741824 ∧ esz s.x ≤ 1048576
theorem wrap_add1 {n : Int} {a : Nat} (h0 : 0 ≤ n) (h : n + a ≤ 9223372036854775807) : IntKind.i64.wrap (n + (a : Int)) = n + a := wrap_ok (by omega) (by omega)
theorem wrap_add2 {n : Int} {a b : Nat} (h0 : 0 ≤ n) (h : n + a + b ≤ 9223372036854775807) : IntKind.i64.wrap (IntKind.i64.wrap (n + (a : Int)) + (b : Int)) = n + a + b := by
  rw [wrap_add1 h0 (by omega), wrap_add1 (by omega) h]
theorem wrap_add3 {n b : Int} {a : Nat} (h0 : 0 ≤ n) (hb : 0 ≤ b) (h : n + a + b ≤ 9223372036854775807) : IntKind.i64.wrap (IntKind.i64.wrap (n + (a : Int)) + b) = n + a + b := by
  rw [wrap_add1 h0 (by omega), wrap_ok (by omega) (by omega)]
theorem wrap_few {a b c d e f : Nat} (h : a + b + c + d + e + f ≤ 8796093022208) : IntKind.i64.wrap (IntKind.i64.wrap (IntKind.i64.wrap (IntKind.i64.wrap (IntKind.i64.wrap ((a : Int) + (b : Int)) + (c : Int)) + (d : Int)) + (e : Int)) + (f : Int)) = (a : Int) + b + c + d + e + f := by
  rw [wrap_add1 (n := (a : Int)) (by omega) (by omega), wrap_add1 (n := (a : Int) + b) (by omega) (by omega), wrap_add1 (n := (a : Int) + b + c) (by omega) (by omega), wrap_add1 (n := (a : Int) + b + c + d) (by omega) (by omega), wrap_add1 (n := (a : Int) + b + c + d + e) (by omega) (by omega)]
theorem few_no {p : Pr} (h : decide (few0 p > 200) = true) : fewP p = false := by rw [fewP, if_pos h]
theorem few_go {p : Pr} (h : decide (few0 p > 200) = false) : fewP p = decide (fewS p.stmts (fewN p.lines (fewB p.states (fewB p.params (fewT p.tables (few0 p))))) ≤ 1500) := by rw [fewP, if_neg (by rw [h]; decide)]
theorem few0_len (p : Pr) : (((p.name.length : Int) + (p.params.map Bd.cs).length + (p.states.map Bd.cs).length + (p.lines.map Ln.cs).length + (p.tables.map Tb.cs).length + (p.stmts.map Sm.cs).length)) = few0 p := by simp only [List.length_map, few0]
def numM (n : Int) : Ex := ⟨1, [], 0, n, []⟩
def applyM (k : Int) (l : List Ex) : Ex := ⟨k, [], 0, 0, l⟩
def procM (a b : Sp) (set : Bool) (y x : Ex) : Pr := ⟨[113], 2, -1, [⟨[112], a.1, a.2⟩], [⟨[115], b.1, b.2⟩], [], [], if set then [⟨2, [115], 0, y⟩, ⟨4, [], 0, x⟩] else [⟨4, [], 0, x⟩]⟩
abbrev pE : Ex := ⟨3, [112], 0, 0, []⟩
abbrev sE : Ex := ⟨4, [115], 0, 0, []⟩
abbrev bothS : Sp := (-3, 5)
abbrev digS : Sp := (0, 9)
abbrev inE : Ex := applyM 6 [numM 0]
abbrev oneP : Pr := procM bothS digS false (numM 0) (numM 5)
abbrev nextE : Ex := applyM 15 [sE, numM 1]
abbrev wideX : Ex := applyM 17 [applyM 17 [pE, numM 2147483648], numM 2147483648]
theorem good_at {p : Pr} (h : p.params.length ≤ 4 ∧ p.states.length ≤ 4 ∧ p.lines.length ≤ 4 ∧ p.tables.length ≤ 4 ∧ p.stmts.length ≤ 4 ∧ (p.stmts.all fun s => Nat.ble (Ref15.nodes s.x) 100) = true ∧ (p.tables.all fun t => Nat.ble t.values.length 100) = true) : GoodP p := by
  obtain ⟨h1, h2, h3, h4, h5, h6, h7⟩ := h
  refine ⟨⟨by omega, by omega, by omega, by omega, by omega⟩, fun s hs => ?_, fun t ht => ?_⟩
  · have := Nat.le_of_ble_eq_true (List.all_eq_true.1 h6 s hs); omega
  · have := Nat.le_of_ble_eq_true (List.all_eq_true.1 h7 t ht); omega
end Go.Fw.Rg
namespace Go.Fw.Rg
open Go.Fw Go.Fw.Ref15
set_option linter.unusedSectionVars false
variable [GlobInt]
theorem sameL_refl (s : Sp) : sameL (Sp.cs s) (Sp.cs s) = true := by simp [sameL, sameS]
end Go.Fw.Rg
namespace Go.Fw.Rg
open Go.Fw Go.Fw.Ref15
set_option linter.unusedSectionVars false
variable [GlobInt]
def Incl (s' s : Sp) : Prop := s.1 ≤ s'.1 ∧ s'.1 ≤ s'.2 ∧ s'.2 ≤ s.2
def SubL (l' l : List Sp) : Prop := ∀ i : Nat, Incl (l'.getD i (0, 0)) (l.getD i (0, 0))
theorem incl_refl {s : Sp} (h : s.1 ≤ s.2) : Incl s s := ⟨Int.le_refl _, h, Int.le_refl _⟩
theorem subL_nil : SubL [] [] := fun i => by simp [Incl]
theorem subL_cons {a b : Sp} {l m : List Sp} (h : Incl a b) (h2 : SubL l m) : SubL (a :: l) (b :: m) := fun i => by
  cases i with
  | zero => exact h
  | succ i => simpa using h2 i
theorem subL_snoc {a b : Sp} : ∀ {l m : List Sp}, l.length = m.length → SubL l m → Incl a b → SubL (l ++ [a]) (m ++ [b])
  | [], [], _, _, h => subL_cons h subL_nil
  | x :: l, y :: m, hl, h, hi => by
    have h0 : Incl x y := h 0
    exact subL_cons h0 (subL_snoc (by simpa using hl) (fun i => by simpa using h (i + 1)) hi)
theorem mul_between {a b x y : Int} (h1 : a ≤ x) (h2 : x ≤ b) : (a * y ≤ x * y ∧ x * y ≤ b * y) ∨ (b * y ≤ x * y ∧ x * y ≤ a * y) := by
  by_cases hy : 0 ≤ y
  · exact .inl ⟨Int.mul_le_mul_of_nonneg_right h1 hy, Int.mul_le_mul_of_nonneg_right h2 hy⟩
  · exact .inr ⟨Int.mul_le_mul_of_nonpos_right h2 (by omega), Int.mul_le_mul_of_nonpos_right h1 (by omega)⟩
theorem prod_in {a1 a2 b1 b2 x y L H : Int} (h1 : a1 ≤ x) (h2 : x ≤ a2) (h3 : b1 ≤ y) (h4 : y ≤ b2) (c1 : L ≤ a1 * b1 ∧ a1 * b1 ≤ H) (c2 : L ≤ a1 * b2 ∧ a1 * b2 ≤ H) (c3 : L ≤ a2 * b1 ∧ a2 * b1 ≤ H) (c4 : L ≤ a2 * b2 ∧ a2 * b2 ≤ H) : L ≤ x * y ∧ x * y ≤ H := by
  have e1 : L ≤ x * b1 ∧ x * b1 ≤ H := by
    rcases mul_between (y := b1) h1 h2 with h | h <;> omega
  have e2 : L ≤ x * b2 ∧ x * b2 ≤ H := by
    rcases mul_between (y := b2) h1 h2 with h | h <;> omega
  rcases mul_between (y := x) h3 h4 with h | h <;> rw [Int.mul_comm b1, Int.mul_comm b2, Int.mul_comm y] at h <;> omega
theorem min4_le (a b c d : Int) : min4 a b c d ≤ a ∧ min4 a b c d ≤ b ∧ min4 a b c d ≤ c ∧ min4 a b c d ≤ d := by
  simp only [min4, mm2]; (repeat' split) <;> omega
theorem max4_ge (a b c d : Int) : a ≤ max4 a b c d ∧ b ≤ max4 a b c d ∧ c ≤ max4 a b c d ∧ d ≤ max4 a b c d := by
  simp only [max4, mm2]; (repeat' split) <;> omega
theorem min4_glb {a b c d L : Int} (h1 : L ≤ a) (h2 : L ≤ b) (h3 : L ≤ c) (h4 : L ≤ d) : L ≤ min4 a b c d := by
  simp only [min4, mm2]; (repeat' split) <;> omega
theorem max4_lub {a b c d H : Int} (h1 : a ≤ H) (h2 : b ≤ H) (h3 : c ≤ H) (h4 : d ≤ H) : max4 a b c d ≤ H := by
  simp only [max4, mm2]; (repeat' split) <;> omega
theorem prod_sub {a b a' b' s : Sp} (h : prodM a b = .ok s) (ha : Incl a' a) (hb : Incl b' b) : ∃ s', prodM a' b' = .ok s' ∧ Incl s' s := by
  obtain ⟨rfl, w1, w2, w3, w4⟩ := prod_res h
  obtain ⟨n1, n2, n3, n4⟩ := min4_le (a.1 * b.1) (a.1 * b.2) (a.2 * b.1) (a.2 * b.2)
  obtain ⟨m1, m2, m3, m4⟩ := max4_ge (a.1 * b.1) (a.1 * b.2) (a.2 * b.1) (a.2 * b.2)
  obtain ⟨p1, p2, p3⟩ := ha
  obtain ⟨q1, q2, q3⟩ := hb
  have hin : ∀ x y : Int, a.1 ≤ x → x ≤ a.2 → b.1 ≤ y → y ≤ b.2 → min4 (a.1 * b.1) (a.1 * b.2) (a.2 * b.1) (a.2 * b.2) ≤ x * y ∧ x * y ≤ max4 (a.1 * b.1) (a.1 * b.2) (a.2 * b.1) (a.2 * b.2) := fun x y g1 g2 g3 g4 => prod_in g1 g2 g3 g4 ⟨n1, m1⟩ ⟨n2, m2⟩ ⟨n3, m3⟩ ⟨n4, m4⟩
  have k1 := hin a'.1 b'.1 (by omega) (by omega) (by omega) (by omega)
  have k2 := hin a'.1 b'.2 (by omega) (by omega) (by omega) (by omega)
  have k3 := hin a'.2 b'.1 (by omega) (by omega) (by omega) (by omega)
  have k4 := hin a'.2 b'.2 (by omega) (by omega) (by omega) (by omega)
  have lo : -4611686018427387904 ≤ min4 (a.1 * b.1) (a.1 * b.2) (a.2 * b.1) (a.2 * b.2) := by
    have := inW_iff.1 w1; have := inW_iff.1 w2; have := inW_iff.1 w3; have := inW_iff.1 w4
    exact min4_glb (by omega) (by omega) (by omega) (by omega)
  have hi : max4 (a.1 * b.1) (a.1 * b.2) (a.2 * b.1) (a.2 * b.2) ≤ 4611686018427387904 := by
    have := inW_iff.1 w1; have := inW_iff.1 w2; have := inW_iff.1 w3; have := inW_iff.1 w4
    exact max4_lub (by omega) (by omega) (by omega) (by omega)
  refine ⟨(min4 (a'.1 * b'.1) (a'.1 * b'.2) (a'.2 * b'.1) (a'.2 * b'.2), max4 (a'.1 * b'.1) (a'.1 * b'.2) (a'.2 * b'.1) (a'.2 * b'.2)), ?_, ?_, ?_, ?_⟩
  · rw [prodM, inW_iff.2 (show _ ≤ a'.1 * b'.1 ∧ _ by omega), inW_iff.2 (show _ ≤ a'.1 * b'.2 ∧ _ by omega), inW_iff.2 (show _ ≤ a'.2 * b'.1 ∧ _ by omega), inW_iff.2 (show _ ≤ a'.2 * b'.2 ∧ _ by omega)]; rfl
  · exact min4_glb k1.1 k2.1 k3.1 k4.1
  · exact Int.le_trans (min4_le _ _ _ _).1 (max4_ge _ _ _ _).1
  · exact max4_lub k1.2 k2.2 k3.2 k4.2
theorem two_sub {a b c d a' b' c' d' : Int} {s : Sp} (h : two (a + b) (c + d) = .ok s) (h1 : a ≤ a') (h2 : b ≤ b') (h3 : c' ≤ c) (h4 : d' ≤ d) (h5 : a' + b' ≤ c' + d') : ∃ s', two (a' + b') (c' + d') = .ok s' ∧ Incl s' s := by
  obtain ⟨rfl, w1, w2⟩ := two_res h
  have w1 := inW_iff.1 w1; have w2 := inW_iff.1 w2
  refine ⟨(a' + b', c' + d'), ?_, by simp only; omega, by simp only; omega, by simp only; omega⟩
  rw [two, inW_iff.2 (show _ ≤ a' + b' ∧ _ by omega), inW_iff.2 (show _ ≤ c' + d' ∧ _ by omega)]; rfl
theorem clip_mono {a b : Int} (h : a ≤ b) : clipM a ≤ clipM b := by
  simp only [clipM]; (repeat' split) <;> omega
theorem mm2_mono {t : Bool} {a b a' b' : Int} (h1 : a ≤ a') (h2 : b ≤ b') : mm2 t a b ≤ mm2 t a' b' := by
  cases t <;> simp only [mm2] <;> (repeat' split) <;> omega
theorem abs_sub {a a' : Sp} (h : Incl a' a) : Incl (absM a') (absM a) := by
  obtain ⟨h1, h2, h3⟩ := h
  simp only [absM, mm2]
  (repeat' split) <;> simp only [Incl] <;> omega
structure Nar (p' p : Pr) : Prop where
  par : ∀ i : Nat, (p.params.getD i Bd.none).lo ≤ (p'.params.getD i Bd.none).lo ∧ (p'.params.getD i Bd.none).lo ≤ (p'.params.getD i Bd.none).hi ∧ (p'.params.getD i Bd.none).hi ≤ (p.params.getD i Bd.none).hi
  sta : p'.states = p.states
  lin : p'.lines = p.lines
  tab : p'.tables = p.tables
theorem nar_refl {p : Pr} (hR : Rng p) : Nar p p := by
  refine ⟨fun i => ?_, rfl, rfl, rfl⟩
  rw [List.getD_eq_getElem?_getD]
  cases h : p.params[i]? with
  | none => exact ⟨Int.le_refl _, Int.le_refl _, Int.le_refl _⟩
  | some b => have := hR.par b (List.mem_of_getElem? h); exact ⟨Int.le_refl _, this.2.1, Int.le_refl _⟩
theorem minmax (m : Int) (l : List Int) : minL m l ≤ maxL m l := Int.le_trans (minL_le l m).1 (maxL_le l m).1
theorem opM_sub {p p' : Pr} {found found' l l' : List Sp} {k i m : Int} {s : Sp} {n : Nat} (hR : Rng p) (hp : Nar p' p) (hF : SubL found' found) (hl : SubL l' l) (hw : ownW p n k i m = true) (h : opM p found k i m l = .ok s) : ∃ s', opM p' found' k i m l' = .ok s' ∧ Incl s' s := by
  have h0 := hl 0; have h1 := hl 1; have h2 := hl 2; have h3 := hl 3
  rcases kinds hw with r | r | r | r | r | r | r | r | r | r | r | r | r | r | r | r | r | r <;> subst r
  · cases (show (Except.ok (m, m) : Except Int Sp) = .ok s from h); exact ⟨_, rfl, incl_refl (Int.le_refl _)⟩
  · cases (show (Except.ok ((paramAt p i).lo, (paramAt p i).hi) : Except Int Sp) = .ok s from h); exact ⟨_, rfl, hp.par i.toNat⟩
  · cases (show (Except.ok ((stateAt p i).lo, (stateAt p i).hi) : Except Int Sp) = .ok s from h)
    refine ⟨((stateAt p i).lo, (stateAt p i).hi), ?_, incl_refl ?_⟩
    · show (Except.ok ((stateAt p' i).lo, (stateAt p' i).hi) : Except Int Sp) = _
      rw [stateAt, hp.sta]
    · have hq := own_k4 hw rfl
      exact (hR.sta _ (getD_mem' Bd.none hq.1 hq.2)).2.1
  · cases (show (Except.ok (found.getD i.toNat (0, 0)) : Except Int Sp) = .ok s from h); exact ⟨_, rfl, hF i.toNat⟩
  · have h : aheadM (l.getD 0 (0, 0)) = .ok s := h
    have hs := ahead_res h
    refine ⟨s, ?_, by subst hs; exact incl_refl (by decide)⟩
    show aheadM (l'.getD 0 (0, 0)) = .ok s
    subst hs
    rw [aheadM] at h ⊢
    split at h
    · cases h
    · rename_i hq
      simp only [Bool.or_eq_true, decide_eq_true_eq, not_or] at hq
      obtain ⟨g1, g2, g3⟩ := h0
      rw [if_neg]
      simp only [Bool.or_eq_true, decide_eq_true_eq, not_or]; omega
  · have h : aheadM (l.getD 0 (0, 0)) = .ok s := h
    have hs := ahead_res h
    refine ⟨s, ?_, by subst hs; exact incl_refl (by decide)⟩
    show aheadM (l'.getD 0 (0, 0)) = .ok s
    subst hs
    rw [aheadM] at h ⊢
    split at h
    · cases h
    · rename_i hq
      simp only [Bool.or_eq_true, decide_eq_true_eq, not_or] at hq
      obtain ⟨g1, g2, g3⟩ := h0
      rw [if_neg]
      simp only [Bool.or_eq_true, decide_eq_true_eq, not_or]; omega
  · cases (show (Except.ok (mm2 false (lineAt p i).lo 0, mm2 true (lineAt p i).hi 0) : Except Int Sp) = .ok s from h)
    refine ⟨(mm2 false (lineAt p i).lo 0, mm2 true (lineAt p i).hi 0), ?_, incl_refl ?_⟩
    · show (Except.ok (mm2 false (lineAt p' i).lo 0, mm2 true (lineAt p' i).hi 0) : Except Int Sp) = _
      rw [lineAt, hp.lin]
    · simp only [mm2]; (repeat' split) <;> omega
  · cases (show (Except.ok (minL ((tableAt p i).getD 0 0) (tableAt p i), maxL ((tableAt p i).getD 0 0) (tableAt p i)) : Except Int Sp) = .ok s from h)
    refine ⟨(minL ((tableAt p i).getD 0 0) (tableAt p i), maxL ((tableAt p i).getD 0 0) (tableAt p i)), ?_, incl_refl (minmax _ _)⟩
    show (Except.ok (minL ((tableAt p' i).getD 0 0) (tableAt p' i), maxL ((tableAt p' i).getD 0 0) (tableAt p' i)) : Except Int Sp) = _
    rw [tableAt, hp.tab]
  · cases (show (Except.ok (clipM (l.getD 0 (0, 0)).1, clipM (l.getD 0 (0, 0)).2) : Except Int Sp) = .ok s from h)
    exact ⟨_, rfl, clip_mono h0.1, clip_mono h0.2.1, clip_mono h0.2.2⟩
  · cases (show (Except.ok (mm2 false (l.getD 0 (0, 0)).1 (l.getD 1 (0, 0)).1, mm2 false (l.getD 0 (0, 0)).2 (l.getD 1 (0, 0)).2) : Except Int Sp) = .ok s from h)
    exact ⟨_, rfl, mm2_mono (t := false) h0.1 h1.1, mm2_mono (t := false) h0.2.1 h1.2.1, mm2_mono (t := false) h0.2.2 h1.2.2⟩
  · cases (show (Except.ok (mm2 true (l.getD 0 (0, 0)).1 (l.getD 1 (0, 0)).1, mm2 true (l.getD 0 (0, 0)).2 (l.getD 1 (0, 0)).2) : Except Int Sp) = .ok s from h)
    exact ⟨_, rfl, mm2_mono (t := true) h0.1 h1.1, mm2_mono (t := true) h0.2.1 h1.2.1, mm2_mono (t := true) h0.2.2 h1.2.2⟩
  · cases (show (Except.ok (absM (l.getD 0 (0, 0))) : Except Int Sp) = .ok s from h)
    exact ⟨_, rfl, abs_sub h0⟩
  · cases (show (Except.ok (-(l.getD 0 (0, 0)).2, -(l.getD 0 (0, 0)).1) : Except Int Sp) = .ok s from h)
    obtain ⟨g1, g2, g3⟩ := h0
    exact ⟨_, rfl, by simp only [Incl]; omega⟩
  · obtain ⟨g1, g2, g3⟩ := h0; obtain ⟨k1, k2, k3⟩ := h1
    exact two_sub (show two ((l.getD 0 (0, 0)).1 + (l.getD 1 (0, 0)).1) ((l.getD 0 (0, 0)).2 + (l.getD 1 (0, 0)).2) = .ok s from h) g1 k1 g3 k3 (by omega)
  · obtain ⟨g1, g2, g3⟩ := h0; obtain ⟨k1, k2, k3⟩ := h1
    exact two_sub (show two ((l.getD 0 (0, 0)).1 + -(l.getD 1 (0, 0)).2) ((l.getD 0 (0, 0)).2 + -(l.getD 1 (0, 0)).1) = .ok s from h) g1 (by omega) g3 (by omega) (by omega)
  · exact prod_sub (show prodM (l.getD 0 (0, 0)) (l.getD 1 (0, 0)) = .ok s from h) h0 h1
  · cases (show (Except.ok (floorM (l.getD 0 (0, 0)).1 m, floorM (l.getD 0 (0, 0)).2 m) : Except Int Sp) = .ok s from h)
    have hm := own_k18 hw rfl
    obtain ⟨g1, g2, g3⟩ := h0
    exact ⟨_, rfl, Int.ediv_le_ediv (by omega) g1, Int.ediv_le_ediv (by omega) g2, Int.ediv_le_ediv (by omega) g3⟩
  · cases (show (Except.ok (mm2 false (l.getD 2 (0, 0)).1 (l.getD 3 (0, 0)).1, mm2 true (l.getD 2 (0, 0)).2 (l.getD 3 (0, 0)).2) : Except Int Sp) = .ok s from h)
    obtain ⟨g1, g2, g3⟩ := h2
    refine ⟨_, rfl, mm2_mono (t := false) g1 h3.1, ?_, mm2_mono (t := true) g3 h3.2.2⟩
    simp only [mm2]; (repeat' split) <;> omega
mutual
theorem findM_sub {p p' : Pr} {found found' : List Sp} (hR : Rng p) (hp : Nar p' p) (hF : SubL found' found) : ∀ (x : Ex) (s : Sp), wfX p found.length x = true → findM p found x = .ok s → ∃ s', findM p' found' x = .ok s' ∧ Incl s' s
  | .mk k nm i m l, s, hw, h => by
    obtain ⟨_, g2, g3⟩ := wfX_parts hw
    rw [findM_eq] at h
    rw [findM_eq]
    simp only [Ex.l, Ex.kind, Ex.index, Ex.n] at h g2 g3 ⊢
    cases hl : findL p found l with
    | error e => rw [hl] at h; cases h
    | ok t =>
      rw [hl] at h
      obtain ⟨t', ht, hs⟩ := findL_sub hR hp hF l t g3 hl
      rw [ht]
      exact opM_sub hR hp hF hs g2 h
theorem findL_sub {p p' : Pr} {found found' : List Sp} (hR : Rng p) (hp : Nar p' p) (hF : SubL found' found) : ∀ (l : List Ex) (t : List Sp), wfL p found.length l = true → findL p found l = .ok t → ∃ t', findL p' found' l = .ok t' ∧ SubL t' t
  | [], t, _, h => by rw [findL] at h; cases h; exact ⟨[], rfl, subL_nil⟩
  | x :: r, t, hw, h => by
    simp only [wfL, Bool.and_eq_true] at hw
    rw [findL] at h
    cases hx : findM p found x with
    | error e => rw [hx] at h; cases h
    | ok s =>
      rw [hx] at h
      simp only at h
      cases hr : findL p found r with
      | error e => rw [hr] at h; cases h
      | ok u =>
        rw [hr] at h
        cases h
        obtain ⟨s', hs, hi⟩ := findM_sub hR hp hF x s hw.1 hx
        obtain ⟨u', hu, hj⟩ := findL_sub hR hp hF r u hw.2 hr
        exact ⟨s' :: u', by rw [findL, hs, hu], subL_cons hi hj⟩
end
theorem findM_ord {p : Pr} {found : List Sp} (hR : Rng p) (hF : SubL found found) {x : Ex} {s : Sp} (hw : wfX p found.length x = true) (h : findM p found x = .ok s) : s.1 ≤ s.2 := by
  obtain ⟨s', hs, hi⟩ := findM_sub hR (nar_refl hR) hF x s hw h
  rw [h] at hs; cases hs; exact hi.2.1
end Go.Fw.Rg
namespace Go.Fw.Rg
open Go.Fw Go.Fw.Ref15
set_option linter.unusedSectionVars false
variable [GlobInt]
def wminC (lo hi : Int) : Int := mm2 false (IntKind.i64.wrap (hi - lo)) 1099511627776
def withV (cl : List Nat) (n : Nat) (lo hi : Int) : Int :=
  if cl.length ≤ n ∨ hi ≤ lo then lo
  else if cl.getD n 0 % 4 = 0 then lo
  else if cl.getD n 0 % 4 = 1 then hi
  else lo + ((cl.getD n 0 : Nat) : Int).tmod (wminC lo hi)
def withN (cl : List Nat) (n : Nat) (lo hi : Int) : Nat := if cl.length ≤ n ∨ hi ≤ lo then n else n + 1
theorem tmod_rng {k m : Int} (h : 0 ≤ k) : 0 ≤ k.tmod m ∧ k.tmod m ≤ k ∧ (0 < m → k.tmod m < m) := by
  rw [Int.tmod_eq_emod_of_nonneg h]
  have h1 : k % m ≤ k := by
    obtain ⟨n, rfl⟩ := Int.eq_ofNat_of_zero_le h
    rcases Int.natAbs_eq m with hm | hm
    · rw [hm, ← Int.natCast_emod]; have := Nat.mod_le n m.natAbs; omega
    · rw [hm, Int.emod_neg, ← Int.natCast_emod]; have := Nat.mod_le n m.natAbs; omega
  refine ⟨?_, h1, fun hm => Int.emod_lt_of_pos k hm⟩
  by_cases hm : m = 0
  · subst hm; rw [Int.emod_zero]; exact h
  · exact Int.emod_nonneg k hm
theorem with_step {lo hi : Int} {k : Nat} (h1 : inW lo = true) (h2 : inW hi = true) (h : lo < hi) (hk : k < 4294967296) : 0 ≤ (k : Int).tmod (wminC lo hi) ∧ lo + (k : Int).tmod (wminC lo hi) ≤ hi := by
  have h1 := inW_iff.1 h1; have h2 := inW_iff.1 h2
  have hr := tmod_rng (k := (k : Int)) (m := wminC lo hi) (by omega)
  refine ⟨hr.1, ?_⟩
  by_cases hd : hi - lo ≤ 9223372036854775807
  · have e : IntKind.i64.wrap (hi - lo) = hi - lo := wrap_ok (by omega) (by omega)
    have hm : 0 < wminC lo hi ∧ wminC lo hi ≤ hi - lo := by
      rw [wminC, e]; simp only [mm2]; split <;> omega
    have := hr.2.2 hm.1
    omega
  · have := hr.2.1; omega
theorem with_in {cl : List Nat} {n : Nat} {lo hi : Int} (hc : ∀ k ∈ cl, k < 4294967296) (h1 : inW lo = true) (h2 : inW hi = true) (h : lo ≤ hi) : lo ≤ withV cl n lo hi ∧ withV cl n lo hi ≤ hi := by
  rw [withV]
  split
  · exact ⟨Int.le_refl _, h⟩
  · rename_i hq
    have hn : n < cl.length := by omega
    have hk : cl.getD n 0 < 4294967296 := by
      rw [List.getD_eq_getElem?_getD, List.getElem?_eq_getElem hn]; exact hc _ (List.getElem_mem hn)
    split
    · exact ⟨Int.le_refl _, h⟩
    · split
      · exact ⟨h, Int.le_refl _⟩
      · have := with_step h1 h2 (by omega) hk; omega
def clampI (n v : Int) : Int := mm2 true 0 (mm2 false v (n - 1))
def tapV (v w : Int) : Int := if w == 5 then 0 else v
def opV (p : Pr) (found : List Sp) (cl : List Nat) (k i m : Int) (l : List Int) (n : Nat) : Int × Nat :=
  if k == 1 then (m, n)
  else if k == 3 then (withV cl n (paramAt p i).lo (paramAt p i).hi, withN cl n (paramAt p i).lo (paramAt p i).hi)
  else if k == 4 then (withV cl n (stateAt p i).lo (stateAt p i).hi, withN cl n (stateAt p i).lo (stateAt p i).hi)
  else if k == 5 then (withV cl n (found.getD i.toNat (0, 0)).1 (found.getD i.toNat (0, 0)).2, withN cl n (found.getD i.toNat (0, 0)).1 (found.getD i.toNat (0, 0)).2)
  else if k == 6 || k == 7 then (withV cl n (-2147483648) 2147483647, withN cl n (-2147483648) 2147483647)
  else if k == 8 then (tapV (withV cl n (lineAt p i).lo (lineAt p i).hi) (withV cl (withN cl n (lineAt p i).lo (lineAt p i).hi) 0 5), withN cl (withN cl n (lineAt p i).lo (lineAt p i).hi) 0 5)
  else if k == 9 then ((tableAt p i).getD (clampI (tableAt p i).length (l.getD 0 0)).toNat 0, n)
  else if k == 10 then (clipM (l.getD 0 0), n)
  else if k == 11 then (mm2 false (l.getD 0 0) (l.getD 1 0), n)
  else if k == 12 then (mm2 true (l.getD 0 0) (l.getD 1 0), n)
  else if k == 13 then (mm2 true (l.getD 0 0) (-(l.getD 0 0)), n)
  else if k == 14 then (-(l.getD 0 0), n)
  else if k == 15 then (l.getD 0 0 + l.getD 1 0, n)
  else if k == 16 then (l.getD 0 0 - l.getD 1 0, n)
  else if k == 17 then (l.getD 0 0 * l.getD 1 0, n)
  else if k == 18 then (floorM (l.getD 0 0) m, n)
  else (if l.getD 0 0 < l.getD 1 0 then l.getD 2 0 else l.getD 3 0, n)
mutual
def valM (p : Pr) (found : List Sp) (cl : List Nat) : Ex → Nat → Int × Nat
  | .mk k _ i m l, n => opV p found cl k i m (valL p found cl l n).1 (valL p found cl l n).2
def valL (p : Pr) (found : List Sp) (cl : List Nat) : List Ex → Nat → List Int × Nat
  | [], n => ([], n)
  | x :: r, n => ((valM p found cl x n).1 :: (valL p found cl r (valM p found cl x n).2).1, (valL p found cl r (valM p found cl x n).2).2)
end
theorem valM_eq (p : Pr) (found : List Sp) (cl : List Nat) (x : Ex) (n : Nat) : valM p found cl x n = opV p found cl x.kind x.index x.n (valL p found cl x.l n).1 (valL p found cl x.l n).2 := by cases x; rw [valM]; rfl
def InV (vs : List Int) (l : List Sp) : Prop := ∀ i : Nat, (l.getD i (0, 0)).1 ≤ vs.getD i 0 ∧ vs.getD i 0 ≤ (l.getD i (0, 0)).2
theorem inV_nil : InV [] [] := fun i => by simp
theorem inV_cons {v : Int} {s : Sp} {vs : List Int} {l : List Sp} (h : s.1 ≤ v ∧ v ≤ s.2) (h2 : InV vs l) : InV (v :: vs) (s :: l) := fun i => by
  cases i with
  | zero => exact h
  | succ i => simpa using h2 i
theorem inV_sub {vs : List Int} {l : List Sp} (h : InV vs l) : SubL (vs.map fun v => (v, v)) l := fun i => by
  have := h i
  have e : (vs.map fun v => ((v, v) : Sp)).getD i (0, 0) = (vs.getD i 0, vs.getD i 0) := by
    rw [List.getD_eq_getElem?_getD, List.getElem?_map, List.getD_eq_getElem?_getD]
    cases vs[i]? <;> rfl
  rw [e]
  exact ⟨this.1, Int.le_refl _, this.2⟩
theorem minL_mem {l : List Int} {m v : Int} (h : v ∈ l) : minL m l ≤ v := (minL_le l m).2.1 v h
theorem maxL_mem {l : List Int} {m v : Int} (h : v ∈ l) : v ≤ maxL m l := (maxL_le l m).2.1 v h
structure FOk (found : List Sp) : Prop where
  ins : InS found
  ord : ∀ s ∈ found, s.1 ≤ s.2
theorem FOk.sub {found : List Sp} (h : FOk found) : SubL found found := fun i => by
  rw [List.getD_eq_getElem?_getD]
  cases hq : found[i]? with
  | none => exact ⟨Int.le_refl _, Int.le_refl _, Int.le_refl _⟩
  | some s => exact incl_refl (h.ord s (List.mem_of_getElem? hq))
theorem opV_in {p : Pr} {found l : List Sp} {cl : List Nat} {vs : List Int} {k i m : Int} {s : Sp} {n : Nat} (hR : Rng p) (hF : FOk found) (hc : ∀ k ∈ cl, k < 4294967296) (hv : InV vs l) (hw : ownW p found.length k i m = true) (h : opM p found k i m l = .ok s) : s.1 ≤ (opV p found cl k i m vs n).1 ∧ (opV p found cl k i m vs n).1 ≤ s.2 := by
  have hpt := opM_sub (k := k) hR (nar_refl hR) hF.sub (inV_sub hv) hw h
  have g0 : (vs.map fun v => ((v, v) : Sp)).getD 0 (0, 0) = (vs.getD 0 0, vs.getD 0 0) := by cases vs <;> rfl
  have g1 : (vs.map fun v => ((v, v) : Sp)).getD 1 (0, 0) = (vs.getD 1 0, vs.getD 1 0) := by
    cases vs with
    | nil => rfl
    | cons a r => cases r <;> rfl
  obtain ⟨s', hs, i1, _, i2⟩ := hpt
  have v2 := hv 2; have v3 := hv 3
  rcases kinds hw with r | r | r | r | r | r | r | r | r | r | r | r | r | r | r | r | r | r <;> subst r
  · cases (show (Except.ok (m, m) : Except Int Sp) = .ok s from h); exact ⟨Int.le_refl _, Int.le_refl _⟩
  · cases (show (Except.ok ((paramAt p i).lo, (paramAt p i).hi) : Except Int Sp) = .ok s from h)
    have hq := own_k3 hw rfl
    have : -2147483648 ≤ (paramAt p i).lo ∧ (paramAt p i).lo ≤ (paramAt p i).hi ∧ (paramAt p i).hi ≤ 2147483647 := hR.par _ (getD_mem' Bd.none hq.1 hq.2)
    exact with_in (lo := (paramAt p i).lo) (hi := (paramAt p i).hi) hc (small_in (by omega) (by omega)) (small_in (by omega) (by omega)) this.2.1
  · cases (show (Except.ok ((stateAt p i).lo, (stateAt p i).hi) : Except Int Sp) = .ok s from h)
    have hq := own_k4 hw rfl
    have : -2147483648 ≤ (stateAt p i).lo ∧ (stateAt p i).lo ≤ (stateAt p i).hi ∧ (stateAt p i).hi ≤ 2147483647 := hR.sta _ (getD_mem' Bd.none hq.1 hq.2)
    exact with_in (lo := (stateAt p i).lo) (hi := (stateAt p i).hi) hc (small_in (by omega) (by omega)) (small_in (by omega) (by omega)) this.2.1
  · cases (show (Except.ok (found.getD i.toNat (0, 0)) : Except Int Sp) = .ok s from h)
    have hq := own_k5 hw rfl
    have hm := getD_mem' (l := found) ((0, 0) : Sp) hq.1 (by omega)
    exact with_in hc (hF.ins _ hm).1 (hF.ins _ hm).2 (hF.ord _ hm)
  · have hs := ahead_res (show aheadM (l.getD 0 (0, 0)) = .ok s from h)
    subst hs
    exact with_in (lo := -2147483648) (hi := 2147483647) hc (by decide) (by decide) (by decide)
  · have hs := ahead_res (show aheadM (l.getD 0 (0, 0)) = .ok s from h)
    subst hs
    exact with_in (lo := -2147483648) (hi := 2147483647) hc (by decide) (by decide) (by decide)
  · cases (show (Except.ok (mm2 false (lineAt p i).lo 0, mm2 true (lineAt p i).hi 0) : Except Int Sp) = .ok s from h)
    have hq := own_k8 hw rfl
    have : -2147483648 ≤ (lineAt p i).lo ∧ (lineAt p i).lo ≤ (lineAt p i).hi ∧ (lineAt p i).hi ≤ 2147483647 := hR.lin _ (getD_mem' Ln.none hq.1 hq.2)
    have hw := with_in (n := n) (lo := (lineAt p i).lo) (hi := (lineAt p i).hi) hc (small_in (by omega) (by omega)) (small_in (by omega) (by omega)) this.2.1
    show mm2 false (lineAt p i).lo 0 ≤ tapV (withV cl n (lineAt p i).lo (lineAt p i).hi) _ ∧ tapV (withV cl n (lineAt p i).lo (lineAt p i).hi) _ ≤ mm2 true (lineAt p i).hi 0
    simp only [tapV, mm2]
    (repeat' split) <;> omega
  · cases (show (Except.ok (minL ((tableAt p i).getD 0 0) (tableAt p i), maxL ((tableAt p i).getD 0 0) (tableAt p i)) : Except Int Sp) = .ok s from h)
    have hne := tab_pos hw rfl
    have hm : (tableAt p i).getD (clampI (tableAt p i).length (vs.getD 0 0)).toNat 0 ∈ tableAt p i := by
      have : (clampI (tableAt p i).length (vs.getD 0 0)).toNat < (tableAt p i).length := by
        simp only [clampI, mm2]; (repeat' split) <;> omega
      rw [List.getD_eq_getElem?_getD, List.getElem?_eq_getElem this]; exact List.getElem_mem this
    exact ⟨minL_mem hm, maxL_mem hm⟩
  · have e : (Except.ok (clipM ((vs.map fun v => ((v, v) : Sp)).getD 0 (0, 0)).1, clipM ((vs.map fun v => ((v, v) : Sp)).getD 0 (0, 0)).2) : Except Int Sp) = .ok s' := hs
    rw [g0] at e; cases e; exact ⟨i1, i2⟩
  · have e : (Except.ok (mm2 false ((vs.map fun v => ((v, v) : Sp)).getD 0 (0, 0)).1 ((vs.map fun v => ((v, v) : Sp)).getD 1 (0, 0)).1, mm2 false ((vs.map fun v => ((v, v) : Sp)).getD 0 (0, 0)).2 ((vs.map fun v => ((v, v) : Sp)).getD 1 (0, 0)).2) : Except Int Sp) = .ok s' := hs
    rw [g0, g1] at e; cases e; exact ⟨i1, i2⟩
  · have e : (Except.ok (mm2 true ((vs.map fun v => ((v, v) : Sp)).getD 0 (0, 0)).1 ((vs.map fun v => ((v, v) : Sp)).getD 1 (0, 0)).1, mm2 true ((vs.map fun v => ((v, v) : Sp)).getD 0 (0, 0)).2 ((vs.map fun v => ((v, v) : Sp)).getD 1 (0, 0)).2) : Except Int Sp) = .ok s' := hs
    rw [g0, g1] at e; cases e; exact ⟨i1, i2⟩
  · have e : (Except.ok (absM ((vs.map fun v => ((v, v) : Sp)).getD 0 (0, 0))) : Except Int Sp) = .ok s' := hs
    rw [g0] at e; cases e
    show s.1 ≤ mm2 true (vs.getD 0 0) (-(vs.getD 0 0)) ∧ mm2 true (vs.getD 0 0) (-(vs.getD 0 0)) ≤ s.2
    revert i1 i2
    simp only [absM, mm2]
    (repeat' split) <;> simp only <;> omega
  · have e : (Except.ok (-((vs.map fun v => ((v, v) : Sp)).getD 0 (0, 0)).2, -((vs.map fun v => ((v, v) : Sp)).getD 0 (0, 0)).1) : Except Int Sp) = .ok s' := hs
    rw [g0] at e; cases e; exact ⟨i1, i2⟩
  · have e : two (((vs.map fun v => ((v, v) : Sp)).getD 0 (0, 0)).1 + ((vs.map fun v => ((v, v) : Sp)).getD 1 (0, 0)).1) (((vs.map fun v => ((v, v) : Sp)).getD 0 (0, 0)).2 + ((vs.map fun v => ((v, v) : Sp)).getD 1 (0, 0)).2) = .ok s' := hs
    rw [g0, g1] at e
    obtain ⟨rfl, _⟩ := two_res e; exact ⟨i1, i2⟩
  · have e : two (((vs.map fun v => ((v, v) : Sp)).getD 0 (0, 0)).1 + -((vs.map fun v => ((v, v) : Sp)).getD 1 (0, 0)).2) (((vs.map fun v => ((v, v) : Sp)).getD 0 (0, 0)).2 + -((vs.map fun v => ((v, v) : Sp)).getD 1 (0, 0)).1) = .ok s' := hs
    rw [g0, g1] at e
    obtain ⟨rfl, _⟩ := two_res e
    show s.1 ≤ vs.getD 0 0 - vs.getD 1 0 ∧ vs.getD 0 0 - vs.getD 1 0 ≤ s.2
    simp only at i1 i2; omega
  · have e : prodM ((vs.map fun v => ((v, v) : Sp)).getD 0 (0, 0)) ((vs.map fun v => ((v, v) : Sp)).getD 1 (0, 0)) = .ok s' := hs
    rw [g0, g1] at e
    obtain ⟨rfl, _⟩ := prod_res e
    have m1 : min4 (vs.getD 0 0 * vs.getD 1 0) (vs.getD 0 0 * vs.getD 1 0) (vs.getD 0 0 * vs.getD 1 0) (vs.getD 0 0 * vs.getD 1 0) = vs.getD 0 0 * vs.getD 1 0 := by simp [min4, mm2]
    have m2 : max4 (vs.getD 0 0 * vs.getD 1 0) (vs.getD 0 0 * vs.getD 1 0) (vs.getD 0 0 * vs.getD 1 0) (vs.getD 0 0 * vs.getD 1 0) = vs.getD 0 0 * vs.getD 1 0 := by simp [max4, mm2]
    simp only [m1, m2] at i1 i2
    exact ⟨i1, i2⟩
  · have e : (Except.ok (floorM ((vs.map fun v => ((v, v) : Sp)).getD 0 (0, 0)).1 m, floorM ((vs.map fun v => ((v, v) : Sp)).getD 0 (0, 0)).2 m) : Except Int Sp) = .ok s' := hs
    rw [g0] at e; cases e; exact ⟨i1, i2⟩
  · cases (show (Except.ok (mm2 false (l.getD 2 (0, 0)).1 (l.getD 3 (0, 0)).1, mm2 true (l.getD 2 (0, 0)).2 (l.getD 3 (0, 0)).2) : Except Int Sp) = .ok s from h)
    show mm2 false (l.getD 2 (0, 0)).1 (l.getD 3 (0, 0)).1 ≤ (if vs.getD 0 0 < vs.getD 1 0 then vs.getD 2 0 else vs.getD 3 0) ∧ (if vs.getD 0 0 < vs.getD 1 0 then vs.getD 2 0 else vs.getD 3 0) ≤ mm2 true (l.getD 2 (0, 0)).2 (l.getD 3 (0, 0)).2
    simp only [mm2]
    (repeat' split) <;> omega
mutual
theorem valM_in {p : Pr} {found : List Sp} {cl : List Nat} (hR : Rng p) (hF : FOk found) (hc : ∀ k ∈ cl, k < 4294967296) : ∀ (x : Ex) (s : Sp) (n : Nat), wfX p found.length x = true → findM p found x = .ok s → s.1 ≤ (valM p found cl x n).1 ∧ (valM p found cl x n).1 ≤ s.2
  | .mk k nm i m l, s, n, hw, h => by
    obtain ⟨_, g2, g3⟩ := wfX_parts hw
    rw [findM_eq] at h
    rw [valM_eq]
    simp only [Ex.l, Ex.kind, Ex.index, Ex.n] at h g2 g3 ⊢
    cases hl : findL p found l with
    | error e => rw [hl] at h; cases h
    | ok t =>
      rw [hl] at h
      exact opV_in hR hF hc (valL_in hR hF hc l t n g3 hl) g2 h
theorem valL_in {p : Pr} {found : List Sp} {cl : List Nat} (hR : Rng p) (hF : FOk found) (hc : ∀ k ∈ cl, k < 4294967296) : ∀ (l : List Ex) (t : List Sp) (n : Nat), wfL p found.length l = true → findL p found l = .ok t → InV (valL p found cl l n).1 t
  | [], t, n, _, h => by rw [findL] at h; cases h; exact inV_nil
  | x :: r, t, n, hw, h => by
    simp only [wfL, Bool.and_eq_true] at hw
    rw [findL] at h
    cases hx : findM p found x with
    | error e => rw [hx] at h; cases h
    | ok s =>
      rw [hx] at h
      simp only at h
      cases hr : findL p found r with
      | error e => rw [hr] at h; cases h
      | ok u =>
        rw [hr] at h
        cases h
        rw [valL]
        exact inV_cons (valM_in hR hF hc x s n hw.1 hx) (valL_in hR hF hc r u _ hw.2 hr)
end
theorem withV_0 {cl : List Nat} {n : Nat} {lo hi : Int} (h : n < cl.length ∧ lo < hi) (h0 : cl.getD n 0 % 4 = 0) : withV cl n lo hi = lo := by rw [withV, if_neg (by omega), if_pos h0]
theorem withV_1 {cl : List Nat} {n : Nat} {lo hi : Int} (h : n < cl.length ∧ lo < hi) (h1 : cl.getD n 0 % 4 = 1) : withV cl n lo hi = hi := by rw [withV, if_neg (by omega), if_neg (by omega), if_pos h1]
end Go.Fw.Rg
