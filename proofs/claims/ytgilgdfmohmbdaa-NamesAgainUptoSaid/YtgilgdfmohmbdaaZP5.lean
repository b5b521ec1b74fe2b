/- Plain: a second declaration is refused. -/
import Derived.Test.YtgilgdfmohmbdaaZP12
import Derived.Test.YtgilgdfmohmbdaaZD10
set_option linter.unusedSimpArgs false
set_option linter.unusedVariables false
namespace Go.Fw.Nam
set_option linter.unusedSectionVars false
variable [GlobInt]
open Ref15
/-- What it says that a processor is resolved. -/
structure Fine (p : Pr) : Prop where
  formed : Ref15.Formed p = true
  limited : Ref15.limited p = true
  name : nameOk p.name = true
  names : (Declared p).all nameOk = true
  uniq : (Declared p).Nodup
  ranged : Ref15.ranged p = true
  run : Ref15.fin p [] (resolveL p p.stmts 0 false) = resolveC p
theorem fine_of {p : Pr} (h : (resolveC p).2 = 0) : Fine p := by
  rw [resolve_same] at h
  unfold Ref15.Resolve at h
  split at h
  · simp at h
  split at h
  · simp at h
  split at h
  · simp at h
  split at h
  · simp at h
  split at h
  · simp at h
  split at h
  · simp at h
  rename_i h1 h2 h3 h4 h5 h6
  simp only [Bool.not_eq_true', Bool.not_eq_false] at h1 h2 h3 h4 h5 h6
  refine ⟨h1, h2, h3, h4, uniqB_iff.1 (by rw [← unique_same]; exact h5), h6, ?_⟩
  rw [resolve_same]
  unfold Ref15.Resolve
  simp only [h1, h2, h3, h4, h5, h6, Bool.not_true, Bool.false_eq_true, if_false]
theorem resolve_limit {q : Pr} (h1 : Ref15.Formed q = true) (h2 : Ref15.limited q = false) : (resolveC q).2 = 2 := by
  rw [resolve_same]
  unfold Ref15.Resolve
  simp only [h1, h2, Bool.not_true, Bool.not_false, Bool.false_eq_true, if_false, if_true]
theorem resolve_twice {q : Pr} (h1 : Ref15.Formed q = true) (h2 : Ref15.limited q = true) (h3 : nameOk q.name = true) (h4 : (Declared q).all nameOk = true) (h5 : ¬ (Declared q).Nodup) : (resolveC q).2 = 151 := by
  rw [resolve_same]
  unfold Ref15.Resolve
  have h6 : uniqueFrom (Declared q) (Declared q) 0 = false := by
    rw [unique_same]
    cases h : uniqB (Declared q) with
    | false => rfl
    | true => exact absurd (uniqB_iff.1 h) h5
  simp only [h1, h2, h3, h4, h6, Bool.not_true, Bool.not_false, Bool.false_eq_true, if_false, if_true]
/-- With one declaration more, of a name that stands there. -/
theorem twice_of {p q : Pr} (hp : Fine p) (n : Str) (hn : n ∈ Declared p) (m : Nat) (hs : q.stmts = p.stmts) (hN : q.name = p.name) (hd : (Declared q).Perm (n :: Declared p))
    (hl : Ref15.limited q = decide (m ≤ 16)) : twiceM (resolveC q).2 (m : Int) = true := by
  have hF : Ref15.Formed q = true := by rw [Formed, hs]; exact hp.formed
  unfold twiceM
  by_cases hm : (m : Int) > 16
  · have : ¬ (m ≤ 16) := by omega
    rw [decide_eq_false this] at hl
    rw [resolve_limit hF hl]
    simp [hm]
  · have : m ≤ 16 := by omega
    rw [decide_eq_true this] at hl
    have hnd : ¬ (Declared q).Nodup := fun h => by
      have := hd.nodup_iff.1 h
      rw [List.nodup_cons] at this
      exact this.1 hn
    have hnm : (Declared q).all nameOk = true := by
      rw [List.all_eq_true]
      intro s hs
      rcases List.mem_cons.1 (hd.mem_iff.1 hs) with rfl | h
      · exact List.all_eq_true.1 hp.names _ hn
      · exact List.all_eq_true.1 hp.names _ h
    rw [resolve_twice hF hl (by rw [hN]; exact hp.name) hnm hnd]
    simp [hm]
theorem name_in {p : Pr} {k : Int} (h0 : 0 ≤ k) (h1 : k ≤ 255) (hl : ¬ (((Declared p).map strC).length : Int) = 0) : nameAt p k ∈ Declared p := by
  obtain ⟨a, b⟩ := name_idx h0 h1 hl
  have := List.mem_of_getElem? b
  simp only [List.mem_map] at this
  obtain ⟨s, hs, he⟩ := this
  simp only [strC, List.cons.injEq, D.str.injEq, and_true] at he
  rw [← he]; exact hs
theorem lawTwice_true {p : Pr} {k : Int} (h0 : 0 ≤ k) (h1 : k ≤ 255) : lawTwice p k = true := by
  by_cases hF : (!Few p) = true
  · exact lawTwice_no hF
  have hF : (!Few p) = false := by simpa using hF
  by_cases h : (bif (resolveC p).2 != 0 then true else (((Declared p).map strC).length : Int) == 0) = true
  · exact lawTwice_tt hF h
  have h : (bif (resolveC p).2 != 0 then true else (((Declared p).map strC).length : Int) == 0) = false := by simpa using h
  rw [lawTwice_eq hF h]
  rw [Bool.cond_true_left, Bool.or_eq_false_iff] at h
  have hp := fine_of (show (resolveC p).2 = 0 by simpa [bne] using h.1)
  have hn : nameAt p k ∈ Declared p := name_in h0 h1 (by simpa using h.2)
  generalize nameAt p k = n at hn
  have hl := hp.limited
  rw [limited_eq] at hl
  simp only [Bool.and_eq_true] at hl
  obtain ⟨l1, l2, l3, l4, l5⟩ := hl
  simp only [few, Bool.not_eq_true', Bool.or_eq_false_iff, decide_eq_false_iff_not] at l1
  obtain ⟨⟨⟨⟨a1, a2⟩, a3⟩, a4⟩, a5⟩ := l1
  have m5 : ∀ q : Pr, q.latency = p.latency → q.tail = p.tail → memOk q = true := fun q e1 e2 => by simp only [memOk, e1, e2]; exact l5
  have tP : twiceM (resolveC (addP p n)).2 (addP p n).params.length = true := by
    refine twice_of hp n hn _ rfl rfl ?_ ?_
    · have e : Declared (addP p n) = bounds p.params ++ n :: (bounds p.states ++ (lines p ++ (tables p ++ lets p.stmts))) := by simp [Declared, addP, bounds, lines, tables]
      have e2 : Declared p = bounds p.params ++ (bounds p.states ++ (lines p ++ (tables p ++ lets p.stmts))) := by simp [Declared]
      rw [e, e2]; exact List.perm_middle
    · rw [limited_eq, m5 (addP p n) rfl rfl, show (addP p n).lines.all lineOk = true from l2, show (addP p n).tables.all tableOk = true from l3, show (addP p n).stmts.all exprOk = true from l4]
      rw [Bool.eq_iff_iff]
      simp only [Bool.and_true, few, Bool.not_eq_true', Bool.or_eq_false_iff, decide_eq_false_iff_not, decide_eq_true_eq]
      simp only [addP]
      omega
  have tS : twiceM (resolveC (addS p n)).2 (addS p n).states.length = true := by
    refine twice_of hp n hn _ rfl rfl ?_ ?_
    · have e : Declared (addS p n) = (bounds p.params ++ bounds p.states) ++ n :: (lines p ++ (tables p ++ lets p.stmts)) := by simp [Declared, addS, bounds, lines, tables]
      have e2 : Declared p = (bounds p.params ++ bounds p.states) ++ (lines p ++ (tables p ++ lets p.stmts)) := by simp [Declared]
      rw [e, e2]; exact List.perm_middle
    · rw [limited_eq, m5 (addS p n) rfl rfl, show (addS p n).lines.all lineOk = true from l2, show (addS p n).tables.all tableOk = true from l3, show (addS p n).stmts.all exprOk = true from l4]
      rw [Bool.eq_iff_iff]
      simp only [Bool.and_true, few, Bool.not_eq_true', Bool.or_eq_false_iff, decide_eq_false_iff_not, decide_eq_true_eq]
      simp only [addS]
      omega
  have tL : twiceM (resolveC (addL p n)).2 (addL p n).lines.length = true := by
    refine twice_of hp n hn _ rfl rfl ?_ ?_
    · have e : Declared (addL p n) = (bounds p.params ++ (bounds p.states ++ lines p)) ++ n :: (tables p ++ lets p.stmts) := by simp [Declared, addL, bounds, lines, tables]
      have e2 : Declared p = (bounds p.params ++ (bounds p.states ++ lines p)) ++ (tables p ++ lets p.stmts) := by simp [Declared]
      rw [e, e2]; exact List.perm_middle
    · have l2' : (addL p n).lines.all lineOk = true := by simp only [addL, List.all_append, l2]; rfl
      rw [limited_eq, m5 (addL p n) rfl rfl, l2', show (addL p n).tables.all tableOk = true from l3, show (addL p n).stmts.all exprOk = true from l4]
      rw [Bool.eq_iff_iff]
      simp only [Bool.and_true, few, Bool.not_eq_true', Bool.or_eq_false_iff, decide_eq_false_iff_not, decide_eq_true_eq]
      simp only [addL]
      omega
  have tT : twiceM (resolveC (addT p n)).2 (addT p n).tables.length = true := by
    refine twice_of hp n hn _ rfl rfl ?_ ?_
    · have e : Declared (addT p n) = (bounds p.params ++ (bounds p.states ++ (lines p ++ tables p))) ++ n :: lets p.stmts := by simp [Declared, addT, bounds, lines, tables]
      have e2 : Declared p = (bounds p.params ++ (bounds p.states ++ (lines p ++ tables p))) ++ lets p.stmts := by simp [Declared]
      rw [e, e2]; exact List.perm_middle
    · have l3' : (addT p n).tables.all tableOk = true := by simp only [addT, List.all_append, l3]; rfl
      rw [limited_eq, m5 (addT p n) rfl rfl, show (addT p n).lines.all lineOk = true from l2, l3', show (addT p n).stmts.all exprOk = true from l4]
      rw [Bool.eq_iff_iff]
      simp only [Bool.and_true, few, Bool.not_eq_true', Bool.or_eq_false_iff, decide_eq_false_iff_not, decide_eq_true_eq]
      simp only [addT]
      omega
  rw [tP, tS, tL, tT]; rfl
end Go.Fw.Nam
