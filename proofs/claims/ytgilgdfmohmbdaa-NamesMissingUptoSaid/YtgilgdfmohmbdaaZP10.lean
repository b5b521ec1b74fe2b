/- Plain: NamesMissing, each list without its last. -/
import Derived.Test.YtgilgdfmohmbdaaZP9
set_option linter.unusedSimpArgs false
set_option linter.unusedVariables false
namespace Go.Fw.Nam
set_option linter.unusedSectionVars false
variable [GlobInt]
open Ref15
theorem lk_out {n : Str} : ∀ {l : List Pe}, n ∉ fsts l → lk n l = none
  | [], _ => rfl
  | x :: r, h => by
    simp only [fsts, List.map_cons, List.mem_cons, not_or] at h
    have : (n == x.1) = false := by
      cases hh : (n == x.1) with
      | false => rfl
      | true => exact absurd (show n = x.1 by simpa using hh) h.1
    simp only [lk, this, Bool.false_eq_true, if_false]
    exact lk_out h.2
theorem lk_mid {A B : List Pe} {z : Str} {e : En} (hA : z ∉ fsts A) (hB : z ∉ fsts B) (n : Str) : lk n (A ++ B) = if n == z then none else lk n (A ++ (z, e) :: B) := by
  cases hn : (n == z) with
  | true =>
    have : n = z := by simpa using hn
    subst this
    rw [lk_app, lk_out hA, lk_out hB]; rfl
  | false => rw [if_neg (by simp), lk_app, lk_app]; simp only [lk, hn, Bool.false_eq_true, if_false]
theorem lk_mid_at {A B : List Pe} {z : Str} {e : En} (hA : z ∉ fsts A) : lk z (A ++ (z, e) :: B) = some e := by
  rw [lk_app, lk_out hA]; simp [lk]
theorem decN_snoc (k : Int) (z : Str) : ∀ (l : List Str) (i : Nat), decN k (l ++ [z]) i = decN k l i ++ [(z, ⟨k, ((i + l.length : Nat) : Int), 0⟩)]
  | [], i => by simp [decN]
  | x :: r, i => by
    simp only [List.cons_append, decN, decN_snoc k z r (i + 1), List.length_cons]
    rw [show i + 1 + r.length = i + (r.length + 1) by omega]
theorem lk_inj {p : Pr} (hu : (Declared p).Nodup) {n z : Str} {e e' : En} (h : lk n (decl p) = some e) (h' : lk z (decl p) = some e') (hk : e.kind = e'.kind) (hi : e.index = e'.index) (h5 : e'.kind ≠ 5) : n = z := by
  rcases at_cases hu n with ⟨a, a0, ha, hl⟩ | ⟨a, a0, ha, hl⟩ | ⟨a, a0, ha, hl⟩ | ⟨a, a0, ha, hl⟩ | ⟨a, a0, ha, hl⟩ | ⟨ha, hl⟩ <;> rw [hl] at h <;> cases h <;>
  rcases at_cases hu z with ⟨b, b0, hb, hm⟩ | ⟨b, b0, hb, hm⟩ | ⟨b, b0, hb, hm⟩ | ⟨b, b0, hb, hm⟩ | ⟨b, b0, hb, hm⟩ | ⟨hb, hm⟩ <;> rw [hm] at h' <;> cases h' <;>
  first
  | (simp at hk; done)
  | (exact absurd rfl h5)
  | (have hi : a = b := hi
     subst hi
     first
     | exact find_inj 0 (by omega) (ha.ha.trans hb.ha.symm) (by rw [show findFrom n (bounds p.params) 0 = a from ha.ha]; exact a0)
     | exact find_inj 0 (by omega) (ha.hb.trans hb.hb.symm) (by rw [show findFrom n (bounds p.states) 0 = a from ha.hb]; exact a0)
     | exact find_inj 0 (by omega) (ha.hc.trans hb.hc.symm) (by rw [show findFrom n (lines p) 0 = a from ha.hc]; exact a0)
     | exact find_inj 0 (by omega) (ha.hd.trans hb.hd.symm) (by rw [show findFrom n (tables p) 0 = a from ha.hd]; exact a0))
theorem less_mid {p q : Pr} (hu : (Declared p).Nodup) {A B : List Pe} {z : Str} {k0 i0 : Int} (hp : decl p = A ++ (z, ⟨k0, i0, 0⟩) :: B) (hq : decl q = A ++ B) (h5 : k0 ≠ 5) : Less (decl p) (decl q) z k0 i0 := by
  have hn : (fsts (A ++ (z, (⟨k0, i0, 0⟩ : En)) :: B)).Nodup := by rw [← hp, fsts_decl]; exact hu
  simp only [fsts, List.map_append, List.map_cons, List.nodup_append, List.nodup_cons] at hn
  obtain ⟨n1, ⟨n2, n3⟩, n4⟩ := hn
  have hA : z ∉ fsts A := fun h => n4 z h z (by simp) rfl
  have hz : lk z (decl p) = some ⟨k0, i0, 0⟩ := by rw [hp]; exact lk_mid_at hA
  refine ⟨fun n => ?_, ⟨_, hz, rfl, rfl⟩, fun n e h h1 h2 => lk_inj hu h hz h1 h2 h5, fun n e h => lk_kind h⟩
  rw [hp, hq]
  exact lk_mid hA n2 n
/-- What the shorter processor keeps. -/
structure Kept (p q : Pr) : Prop where
  stmts : q.stmts = p.stmts
  name : q.name = p.name
  lat : q.latency = p.latency
  tail : q.tail = p.tail
  params : ∃ m, q.params = p.params.take m
  states : ∃ m, q.states = p.states.take m
  lines : ∃ m, q.lines = p.lines.take m
  tables : ∃ m, q.tables = p.tables.take m
theorem all_take {α : Type} {f : α → Bool} {l : List α} (m : Nat) (h : l.all f = true) : (l.take m).all f = true := by
  rw [List.all_eq_true] at h ⊢
  exact fun x hx => h x (List.mem_of_mem_take hx)
theorem kept_limited {p q : Pr} (k : Kept p q) (h : limited p = true) : limited q = true := by
  obtain ⟨k1, k2, k3, k4, ⟨a, k5⟩, ⟨b, k6⟩, ⟨c, k7⟩, ⟨d, k8⟩⟩ := k
  simp only [limited, head1, most, Bool.and_eq_true, decide_eq_true_eq, mm2_le] at h ⊢
  rw [k1, k3, k4, k5, k6, k7, k8]
  simp only [List.length_take]
  obtain ⟨⟨⟨⟨⟨⟨⟨⟨⟨h1, h2⟩, h3⟩, h4⟩, h5⟩, h6⟩, h7⟩, h8⟩, h9⟩, h10, h11, h12⟩ := h
  exact ⟨⟨⟨⟨⟨⟨⟨⟨⟨by omega, by omega⟩, by omega⟩, by omega⟩, h5⟩, h6⟩, h7⟩, h8⟩, h9⟩, all_take _ h10, all_take _ h11, h12⟩
theorem kept_ranged {p q : Pr} (k : Kept p q) (h : ranged p = true) : ranged q = true := by
  obtain ⟨k1, k2, k3, k4, ⟨a, k5⟩, ⟨b, k6⟩, ⟨c, k7⟩, ⟨d, k8⟩⟩ := k
  simp only [ranged, allB, Bool.and_eq_true, List.flatten_cons, List.flatten_nil, List.append_nil, List.all_append, List.all_map] at h ⊢
  rw [k1, k5, k6, k7, k8]
  obtain ⟨⟨⟨h1, h2⟩, h3⟩, h4, h5⟩ := h
  exact ⟨⟨⟨all_take _ h1, all_take _ h2⟩, all_take _ h3⟩, all_take _ h4, h5⟩
theorem miss_of {p q : Pr} (he : (resolveC p).2 = 0) (k : Kept p q) {A B : List Pe} {z : Str} {k0 i0 st : Int} (hp : decl p = A ++ (z, ⟨k0, i0, 0⟩) :: B) (hq : decl q = A ++ B) (h5 : k0 ≠ 5)
    (hst : ∀ k, isSP k = true → (k == st) = (kindOf k == k0)) (hno : isSP st = true ∨ (st = 0)) : missB q (usedM k0 i0 st (resolveC p).1.stmts) = false := by
  obtain ⟨g1, g2, g3, g4, g5, g6, e⟩ := resolved_form he
  have hu : (Declared p).Nodup := by rw [← fsts_decl]; exact uniqB_iff.1 g4
  have hs : fsts (decl q) = fsts A ++ fsts B := by rw [hq]; simp [fsts]
  have hs' : fsts (decl p) = fsts A ++ z :: fsts B := by rw [hp]; simp [fsts]
  refine less_miss he (less_mid hu hp hq h5) hst hno k.stmts (kept_limited k g2) ?_ ?_ (kept_ranged k g5)
  · rw [hs', List.all_cons, List.all_append, List.all_cons] at g3
    rw [hs, k.name, List.all_cons, List.all_append]
    simp only [Bool.and_eq_true] at g3 ⊢
    exact ⟨g3.1, g3.2.1, g3.2.2.2⟩
  · rw [uniqB_iff, hs'] at g4
    rw [uniqB_iff, hs]
    simp only [List.nodup_append, List.nodup_cons] at g4 ⊢
    exact ⟨g4.1, g4.2.1.2, fun a ha b hb => g4.2.2 a ha b (List.mem_cons_of_mem _ hb)⟩
theorem take_all {α : Type} (l : List α) : ∃ m, l = l.take m := ⟨l.length, by simp⟩
theorem sp_kind {k : Int} (h : isSP k = true) : k = 2 ∨ k = 3 := by
  simp only [isSP, Bool.or_eq_true, beq_iff_eq] at h
  exact h
theorem missing_p {p : Pr} (hp : p.Small) (he : (resolveC p).2 = 0) (h : decide (lastI (p.params.map Bd.cs).length ≥ 0) = true) : missB (dropP p) (usedM 3 (lastI (p.params.map Bd.cs).length) 0 (resolveC p).1.stmts) = false := by
  have hl := hp.params
  rw [List.length_map] at h
  obtain ⟨l0, b, e1, e2, e3⟩ := take_last (by omega) h
  rw [List.length_map, e3]
  refine miss_of (p := p) (q := dropP p) (k0 := 3) (i0 := (l0.length : Int)) (st := 0) he ⟨rfl, rfl, rfl, rfl, ⟨_, rfl⟩, take_all _, take_all _, take_all _⟩ (A := decN 3 (bounds l0) 0) (z := b.name) (B := decN 4 (bounds p.states) 0 ++ decN 8 (lines p) 0 ++ decN 9 (tables p) 0 ++ decS p.stmts 0) ?_ ?_ (by decide) ?_ (.inr rfl)
  · simp only [decl, T4, T3, T2, T1, e1, bounds, List.map_append, List.map_cons, List.map_nil, decN_snoc, List.length_map, Nat.zero_add, List.append_assoc, List.cons_append, List.nil_append]
  · simp only [decl, T4, T3, T2, T1, dropP, List.length_map, e2, lines, tables, List.append_assoc]
  · intro k hk; rcases sp_kind hk with rfl | rfl <;> rfl
theorem missing_s {p : Pr} (hp : p.Small) (he : (resolveC p).2 = 0) (h : decide (lastI (p.states.map Bd.cs).length ≥ 0) = true) : missB (dropS p) (usedM 4 (lastI (p.states.map Bd.cs).length) 2 (resolveC p).1.stmts) = false := by
  have hl := hp.states
  rw [List.length_map] at h
  obtain ⟨l0, b, e1, e2, e3⟩ := take_last (by omega) h
  rw [List.length_map, e3]
  refine miss_of (p := p) (q := dropS p) (k0 := 4) (i0 := (l0.length : Int)) (st := 2) he ⟨rfl, rfl, rfl, rfl, take_all _, ⟨_, rfl⟩, take_all _, take_all _⟩ (A := decN 3 (bounds p.params) 0 ++ decN 4 (bounds l0) 0) (z := b.name) (B := decN 8 (lines p) 0 ++ decN 9 (tables p) 0 ++ decS p.stmts 0) ?_ ?_ (by decide) ?_ (.inl rfl)
  · simp only [decl, T4, T3, T2, T1, e1, bounds, List.map_append, List.map_cons, List.map_nil, decN_snoc, List.length_map, Nat.zero_add, List.append_assoc, List.cons_append, List.nil_append]
  · simp only [decl, T4, T3, T2, T1, dropS, List.length_map, e2, lines, tables, List.append_assoc]
  · intro k hk; rcases sp_kind hk with rfl | rfl <;> rfl
theorem missing_l {p : Pr} (hp : p.Small) (he : (resolveC p).2 = 0) (h : decide (lastI (p.lines.map Ln.cs).length ≥ 0) = true) : missB (dropL p) (usedM 8 (lastI (p.lines.map Ln.cs).length) 3 (resolveC p).1.stmts) = false := by
  have hl := hp.lines
  rw [List.length_map] at h
  obtain ⟨l0, b, e1, e2, e3⟩ := take_last (by omega) h
  rw [List.length_map, e3]
  refine miss_of (p := p) (q := dropL p) (k0 := 8) (i0 := (l0.length : Int)) (st := 3) he ⟨rfl, rfl, rfl, rfl, take_all _, take_all _, ⟨_, rfl⟩, take_all _⟩ (A := decN 3 (bounds p.params) 0 ++ decN 4 (bounds p.states) 0 ++ decN 8 (l0.map (·.name)) 0) (z := b.name) (B := decN 9 (tables p) 0 ++ decS p.stmts 0) ?_ ?_ (by decide) ?_ (.inl rfl)
  · simp only [decl, T4, T3, T2, T1, e1, lines, List.map_append, List.map_cons, List.map_nil, decN_snoc, List.length_map, Nat.zero_add, List.append_assoc, List.cons_append, List.nil_append]
  · simp only [decl, T4, T3, T2, T1, dropL, List.length_map, e2, lines, tables, List.append_assoc]
  · intro k hk; rcases sp_kind hk with rfl | rfl <;> rfl
theorem missing_t {p : Pr} (hp : p.Small) (he : (resolveC p).2 = 0) (h : decide (lastI (p.tables.map Tb.cs).length ≥ 0) = true) : missB (dropT p) (usedM 9 (lastI (p.tables.map Tb.cs).length) 0 (resolveC p).1.stmts) = false := by
  have hl := hp.tables
  rw [List.length_map] at h
  obtain ⟨l0, b, e1, e2, e3⟩ := take_last (by omega) h
  rw [List.length_map, e3]
  refine miss_of (p := p) (q := dropT p) (k0 := 9) (i0 := (l0.length : Int)) (st := 0) he ⟨rfl, rfl, rfl, rfl, take_all _, take_all _, take_all _, ⟨_, rfl⟩⟩ (A := decN 3 (bounds p.params) 0 ++ decN 4 (bounds p.states) 0 ++ decN 8 (lines p) 0 ++ decN 9 (l0.map (·.name)) 0) (z := b.name) (B := decS p.stmts 0) ?_ ?_ (by decide) ?_ (.inr rfl)
  · simp only [decl, T4, T3, T2, T1, e1, tables, List.map_append, List.map_cons, List.map_nil, decN_snoc, List.length_map, Nat.zero_add, List.append_assoc, List.cons_append, List.nil_append]
  · simp only [decl, T4, T3, T2, T1, dropT, List.length_map, e2, lines, tables, List.append_assoc]
  · intro k hk; rcases sp_kind hk with rfl | rfl <;> rfl
end Go.Fw.Nam
