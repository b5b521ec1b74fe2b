/- Plain: what a resolved processor fulfils. -/
import Derived.Test.YtgilgdfmohmbdaaZP6
import Derived.Test.YtgilgdfmohmbdaaZD14
set_option linter.unusedSimpArgs false
set_option linter.unusedVariables false
namespace Go.Fw.Nam
set_option linter.unusedSectionVars false
variable [GlobInt]
open Ref15
theorem stop_at {l : List Pe} {s : Sm} {i : Nat} {d : List (Int × Int)} {o : Bool} (h : stopS l s i d o = 0) : visB l (i : Int) s.x = true ∧ o = false ∧ (isSP s.kind = true → ∃ e, target l s = some e) := by
  have hv := stop_vis0 h
  refine ⟨hv, ?_, ?_⟩
  · cases o with
    | false => rfl
    | true =>
      simp only [stopS, hv, Bool.not_true, Bool.false_eq_true, if_false] at h
      split at h
      · split at h
        · exact absurd h (by decide)
        · simp at h
      · exact absurd h (by decide)
  · intro hs
    simp only [stopS, hv, hs, Bool.not_true, Bool.false_eq_true, if_false, if_true] at h
    cases ht : target l s with
    | some e => exact ⟨e, rfl⟩
    | none => rw [ht] at h; simp at h
theorem run_at {l : List Pe} : ∀ (r : List Sm) (i : Nat) (d : List (Int × Int)) (o : Bool) (t : List Sm), runS l r i d o = .ok t →
    (r = [] → o = true) ∧ (r ≠ [] → o = false) ∧ ∀ (j : Nat) s, r[j]? = some s → visB l ((i + j : Nat) : Int) s.x = true ∧ (isSP s.kind = true → ∃ e, target l s = some e) ∧ (s.kind == 4) = decide (j + 1 = r.length)
  | [], i, d, o, t, h => by
    simp only [runS] at h
    cases o with
    | true => exact ⟨fun _ => rfl, fun h => absurd rfl h, by simp⟩
    | false => simp at h
  | s :: r, i, d, o, t, h => by
    simp only [runS] at h
    split at h
    · cases h
    · rename_i h0
      have h0 : stopS l s i d o = 0 := by simpa using h0
      obtain ⟨a, b, c⟩ := stop_at h0
      cases hr : runS l r (i + 1) (doneS l s d) (s.kind == 4) with
      | error e => rw [hr] at h; cases h
      | ok t' =>
        obtain ⟨q1, q2, q3⟩ := run_at r _ _ _ _ hr
        refine ⟨fun h => by simp at h, fun _ => b, ?_⟩
        intro j u hu
        cases j with
        | zero =>
          simp only [List.getElem?_cons_zero, Option.some.injEq] at hu
          subst hu
          refine ⟨by simpa using a, c, ?_⟩
          cases r with
          | nil => rw [q1 rfl]; simp
          | cons y r' => rw [q2 (by simp)]; simp
        | succ j =>
          have := q3 j u (by simpa using hu)
          rw [show i + 1 + j = i + (j + 1) by omega] at this
          refine ⟨this.1, this.2.1, ?_⟩
          rw [this.2.2]
          simp only [List.length_cons]
          congr 1
          simp
theorem bareV_of {k : Int} (hn : named k = true) (ha : arr k = false) : bareV k = true := by
  simp only [named, Bool.or_eq_true, beq_iff_eq] at hn
  simp only [arr, Bool.or_eq_false_iff, beq_eq_false_iff_ne, ne_eq] at ha
  simp only [bareV, Bool.or_eq_true, beq_iff_eq]
  omega
theorem visL_len (l : List Pe) : ∀ m : List Ex, (visL l m).length = m.length
  | [] => rfl
  | x :: r => by simp only [visL, List.length_cons, visL_len l r]
theorem vis_bare {l : List Pe} (hk : ∀ n e, lk n l = some e → named e.kind = true) (i : Int) (x : Ex) (h : visB l i x = true) : bareM (vis l x) x = true := by
  revert h
  refine Ex.ind (P := fun x => visB l i x = true → bareM (vis l x) x = true) (fun x ih h => ?_) x
  rw [visB_eq, Bool.and_eq_true] at h
  obtain ⟨h1, h2⟩ := h
  rw [vis_eq, bareM_eq]
  have hK : (vkind l x.kind x.name != x.kind && !(bareV (vkind l x.kind x.name) && bareV x.kind)) = false := by
    simp only [vok, arity_eq] at h1
    simp only [vkind, arity_eq]
    cases hn : named x.kind with
    | false => simp
    | true =>
      rw [hn] at h1
      simp only [if_true]
      cases hl : lk x.name l with
      | none => rw [hl] at h1; simp at h1
      | some e =>
        rw [hl] at h1
        simp only [Bool.not_true, Bool.false_or, eok, Bool.and_eq_true, Bool.or_eq_true, Bool.not_eq_true', beq_iff_eq] at h1
        rcases h1.2 with e1 | ⟨e1, e2⟩
        · simp only [e1, bne_self_eq_false, Bool.false_and]
        · rw [bareV_of (hk _ _ hl) e1, bareV_of hn e2]; simp
  have hL : bareL (visL l x.l) x.l = true := by
    rw [bareL_zip (visL_len l x.l)]
    generalize x.l = m at ih h2
    induction m with
    | nil => rfl
    | cons y r ih2 =>
      simp only [visBL, Bool.and_eq_true] at h2
      simp only [visL, List.zip_cons_cons, List.all_cons]
      rw [ih y (by simp) h2.1, ih2 (fun z hz => ih z (List.mem_cons_of_mem _ hz)) h2.2]; rfl
  show (if (vkind l x.kind x.name != x.kind && !(bareV (vkind l x.kind x.name) && bareV x.kind)) || x.name != x.name || x.n != x.n || ((visL l x.l).length : Int) != x.l.length then false else bareL (visL l x.l) x.l) = true
  rw [hK, visL_len, hL]
  simp
theorem find_spec {n : Str} : ∀ (l : List Str) (i : Int), 0 ≤ i → i ≤ findFrom n l i → findFrom n l i < i + l.length ∧ l[(findFrom n l i - i).toNat]? = some n
  | [], i, hi, h => by simp [findFrom] at h; omega
  | x :: r, i, hi, h => by
    simp only [findFrom] at h ⊢
    by_cases hx : (x == n) = true
    · rw [if_pos hx]
      have : x = n := by simpa using hx
      subst this
      refine ⟨by simp only [List.length_cons]; omega, by simp⟩
    · rw [if_neg hx] at h ⊢
      have hle : i + 1 ≤ findFrom n r (i + 1) := by
        rcases find_le n r (i + 1) with h1 | h1
        · omega
        · exact h1
      obtain ⟨a, b⟩ := find_spec r (i + 1) (by omega) hle
      refine ⟨by simp only [List.length_cons]; omega, ?_⟩
      rw [show (findFrom n r (i + 1) - i).toNat = (findFrom n r (i + 1) - (i + 1)).toNat + 1 by omega]
      simpa using b
theorem find_at {α : Type} {l : List α} {f : α → Str} {n : Str} {a : Int} (d : α) (h : find (l.map f) n = a) (h0 : 0 ≤ a) : a < (l.length : Int) ∧ f (l.getD a.toNat d) = n := by
  subst h
  obtain ⟨q1, q2⟩ := find_spec (l.map f) 0 (by omega) h0
  rw [show findFrom n (l.map f) 0 = find (l.map f) n from rfl] at q1 q2
  rw [List.length_map] at q1
  refine ⟨by omega, ?_⟩
  rw [Int.sub_zero, List.getElem?_map, Option.map_eq_some_iff] at q2
  obtain ⟨x, hx, he⟩ := q2
  rw [List.getD_eq_getElem?_getD, hx]; exact he
theorem given_spec {n : Str} : ∀ (l : List Sm) (i : Int), 0 ≤ i → i ≤ givenFrom n l i → givenFrom n l i < i + l.length ∧ ∃ s, l[(givenFrom n l i - i).toNat]? = some s ∧ s.kind = 1 ∧ s.name = n
  | [], i, hi, h => by simp [givenFrom] at h; omega
  | x :: r, i, hi, h => by
    simp only [givenFrom] at h ⊢
    by_cases hx : (x.kind == 1 && x.name == n) = true
    · rw [if_pos hx]
      simp only [Bool.and_eq_true, beq_iff_eq] at hx
      exact ⟨by simp only [List.length_cons]; omega, x, by simp, hx.1, hx.2⟩
    · rw [if_neg hx] at h ⊢
      have hle : i + 1 ≤ givenFrom n r (i + 1) := by
        rcases given_le n r (i + 1) with h1 | h1
        · omega
        · exact h1
      obtain ⟨a, s, b, c, e⟩ := given_spec r (i + 1) (by omega) hle
      refine ⟨by simp only [List.length_cons]; omega, s, ?_, c, e⟩
      rw [show (givenFrom n r (i + 1) - i).toNat = (givenFrom n r (i + 1) - (i + 1)).toNat + 1 by omega]
      simpa using b
theorem mean_at {p : Pr} (hu : (Declared p).Nodup) {i : Nat} {k : Int} {n : Str} (h : vok (decl p) i k n = true) : (vkind (decl p) k n == 2) = false ∧ mean1 (xr p) i (vkind (decl p) k n) n (vidx (decl p) k n) = true := by
  simp only [vok, arity_eq] at h
  simp only [vkind, vidx, arity_eq]
  cases hn : named k with
  | false =>
    simp only [Bool.false_eq_true, if_false]
    have : ∀ m : Int, named m = true → (k == m) = false := fun m hm => by
      cases hh : (k == m) with
      | false => rfl
      | true => rw [show k = m by simpa using hh] at hn; rw [hn] at hm; cases hm
    refine ⟨this 2 rfl, ?_⟩
    simp only [mean1, this 3 rfl, this 4 rfl, this 5 rfl, this 8 rfl, this 9 rfl, Bool.false_eq_true, if_false]; rfl
  | true =>
    rw [hn] at h
    simp only [if_true]
    rcases at_cases hu n with ⟨a, h0, hat, hlk⟩ | ⟨a, h0, hat, hlk⟩ | ⟨a, h0, hat, hlk⟩ | ⟨a, h0, hat, hlk⟩ | ⟨a, h0, hat, hlk⟩ | ⟨hat, hlk⟩ <;> rw [hlk] at h ⊢ <;> simp only [] at h ⊢
    · obtain ⟨q1, q2⟩ := find_at bd0 hat.ha h0
      refine ⟨rfl, ?_⟩
      show ((decide (a ≥ 0) && decide (a < ((p.params.map Bd.cs).length : Int))) && (p.params.getD a.toNat bd0).name == n) = true
      rw [q2, List.length_map, decide_eq_true (show a ≥ 0 from h0), decide_eq_true q1]; simp
    · obtain ⟨q1, q2⟩ := find_at bd0 hat.hb h0
      refine ⟨rfl, ?_⟩
      show ((decide (a ≥ 0) && decide (a < ((p.states.map Bd.cs).length : Int))) && (p.states.getD a.toNat bd0).name == n) = true
      rw [q2, List.length_map, decide_eq_true (show a ≥ 0 from h0), decide_eq_true q1]; simp
    · obtain ⟨q1, q2⟩ := find_at ln0 hat.hc h0
      refine ⟨rfl, ?_⟩
      show ((decide (a ≥ 0) && decide (a < ((p.lines.map Ln.cs).length : Int))) && (p.lines.getD a.toNat ln0).name == n) = true
      rw [q2, List.length_map, decide_eq_true (show a ≥ 0 from h0), decide_eq_true q1]; simp
    · obtain ⟨q1, q2⟩ := find_at tb0 hat.hd h0
      refine ⟨rfl, ?_⟩
      show ((decide (a ≥ 0) && decide (a < ((p.tables.map Tb.cs).length : Int))) && (p.tables.getD a.toNat tb0).name == n) = true
      rw [q2, List.length_map, decide_eq_true (show a ≥ 0 from h0), decide_eq_true q1]; simp
    · have hg := hat.hg
      obtain ⟨q1, s, q2, q3, q4⟩ := given_spec p.stmts 0 (by omega) (by rw [hg]; exact h0)
      rw [hg] at q1 q2
      rw [Int.sub_zero] at q2
      simp only [Bool.not_true, Bool.false_or, eok, Bool.and_eq_true, decide_eq_true_eq] at h
      have hi : a < (i : Int) := by omega
      refine ⟨rfl, ?_⟩
      show (((decide (a ≥ 0) && decide (a < (i : Int))) && ((p.stmts.map (outS (decl p))).getD a.toNat sm0).kind == 1) && ((p.stmts.map (outS (decl p))).getD a.toNat sm0).name == n) = true
      have e : (p.stmts.map (outS (decl p))).getD a.toNat sm0 = outS (decl p) s := by
        rw [List.getD_eq_getElem?_getD, List.getElem?_map, q2]; rfl
      rw [e, show (outS (decl p) s).kind = 1 from q3, show (outS (decl p) s).name = n from q4, decide_eq_true (show a ≥ 0 from h0), decide_eq_true hi]; simp
    · simp at h
theorem vis_means {p : Pr} (hu : (Declared p).Nodup) (i : Nat) (x : Ex) (h : visB (decl p) (i : Int) x = true) : meansM (xr p) i (vis (decl p) x) = true := by
  revert h
  refine Ex.ind (P := fun x => visB (decl p) (i : Int) x = true → meansM (xr p) i (vis (decl p) x) = true) (fun x ih h => ?_) x
  rw [visB_eq, Bool.and_eq_true] at h
  obtain ⟨h1, h2⟩ := h
  obtain ⟨a, b⟩ := mean_at hu h1
  rw [vis_eq, meansM_eq]
  have hL : meansL (xr p) i (visL (decl p) x.l) = true := by
    generalize x.l = m at ih h2
    induction m with
    | nil => rfl
    | cons y r ih2 =>
      simp only [visBL, Bool.and_eq_true] at h2
      simp only [visL, meansL]
      rw [ih y (by simp) h2.1, ih2 (fun z hz => ih z (List.mem_cons_of_mem _ hz)) h2.2]; rfl
  show (if vkind (decl p) x.kind x.name == 2 then false else mean1 (xr p) i (vkind (decl p) x.kind x.name) x.name (vidx (decl p) x.kind x.name) && meansL (xr p) i (visL (decl p) x.l)) = true
  rw [a, b, hL]; rfl
theorem facts_of {p : Pr} (he : (resolveC p).2 = 0) : Facts p := by
  obtain ⟨g1, g2, g3, g4, g5, g6, e⟩ := resolved_form he
  have hu : (Declared p).Nodup := by rw [← fsts_decl]; exact uniqB_iff.1 g4
  obtain ⟨r1, r2, r3⟩ := run_at p.stmts 0 [] false _ g6
  have hne : p.stmts ≠ [] := fun h => by have := r1 h; cases this
  have hlen : 0 < p.stmts.length := List.length_pos_iff.2 hne
  have hT : ∀ s ∈ p.stmts, isSP s.kind = true → ∃ e, target (decl p) s = some e ∧ sidx (decl p) s = e.index ∧ e = ⟨kindOf s.kind, smIndex p s, 0⟩ ∧ 0 ≤ smIndex p s := fun s hs hk => by
    obtain ⟨j, hj⟩ := List.mem_iff_getElem?.1 hs
    obtain ⟨e, ht⟩ := (r3 j s hj).2.1 hk
    refine ⟨e, ht, by simp only [sidx, hk, ht, if_true], ?_⟩
    have := target_same hu s hk
    rw [ht] at this
    split at this
    · cases this
    · rename_i h0
      cases this
      exact ⟨rfl, by omega⟩
  refine ⟨?_, ?_, ?_, ?_, ?_, hlen, ?_⟩
  · intro s hs
    obtain ⟨j, hj⟩ := List.mem_iff_getElem?.1 hs
    exact vis_bare (fun n e h => lk_kind h) _ s.x (r3 j s hj).1
  · intro i s hs
    have := (r3 i s hs).1
    rw [Nat.zero_add] at this
    exact vis_means hu i s.x this
  · intro s hs hk
    have hk' : s.kind = 2 := by simpa using hk
    obtain ⟨e, ht, h1, h2, h3⟩ := hT s hs (by rw [hk']; rfl)
    rw [h1, h2]
    have hsm : smIndex p s = find (bounds p.states) s.name := by simp only [smIndex, hk']; rfl
    rw [hsm] at h3 ⊢
    obtain ⟨q1, q2⟩ := find_at (f := fun b : Bd => b.name) bd0 (show find (p.states.map fun b => b.name) s.name = find (bounds p.states) s.name from rfl) h3
    exact ⟨h3, q1, q2⟩
  · intro s hs hk
    have hk' : s.kind = 3 := by simpa using hk
    obtain ⟨e, ht, h1, h2, h3⟩ := hT s hs (by rw [hk']; rfl)
    rw [h1, h2]
    have hsm : smIndex p s = find (lines p) s.name := by simp only [smIndex, hk']; rfl
    rw [hsm] at h3 ⊢
    obtain ⟨q1, q2⟩ := find_at (f := fun b : Ln => b.name) ln0 (show find (p.lines.map fun b => b.name) s.name = find (lines p) s.name from rfl) h3
    exact ⟨h3, q1, q2⟩
  · intro i s hs h2 h3
    have hsp : isSP s.kind = false := by simp only [isSP, h2, h3, Bool.or_self]
    refine ⟨by simp only [sidx, hsp, Bool.false_eq_true, if_false], ?_⟩
    rw [(r3 i s hs).2.2, Bool.eq_iff_iff]
    simp only [decide_eq_true_eq, beq_iff_eq]
    omega
  · have hj : p.stmts[p.stmts.length - 1]? = some (p.stmts[p.stmts.length - 1]'(by omega)) := List.getElem?_eq_getElem (by omega)
    have := (r3 _ _ hj).2.2
    rw [decide_eq_true (by omega)] at this
    rw [show ((p.stmts.length : Int) - 1).toNat = p.stmts.length - 1 by omega, List.getD_eq_getElem?_getD, hj]
    simpa using this
end Go.Fw.Nam
