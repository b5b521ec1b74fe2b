/- Package tails in plain words: the law Bound: greater declarations. -/
import Derived.Test.YtogfjinopifenaaDoorZTA
set_option linter.unusedSectionVars false
set_option linter.unusedSimpArgs false
set_option linter.unusedVariables false
namespace Go.Fw.Tl
open Go.Fw Go.Fw.Ref15 Go.Fw.Rg
variable [af]
def minL (p : Pr) (c : Nat) : Int := mm2 false 4096 (p.latency + c)
theorem Fg (a b : Int) : mm2 false a b = if b < a then b else a := rfl
end Go.Fw.Tl
namespace Go.Fw.Tl
open Go.Fw Go.Fw.Ref15 Go.Fw.Rg
variable [af]
abbrev uS : Str := [117, 110, 104, 101, 97, 114, 100]
abbrev vS : Str := [110, 101, 118, 101, 114]
abbrev QR (k : Int) : Ex := ⟨4, uS, k, 0, []⟩
abbrev inX (n : Int) : Ex := ⟨6, [], 0, 0, [⟨1, [], 0, n, []⟩]⟩
abbrev uSm (k : Int) : Sm := ⟨2, uS, k, QR k⟩
abbrev vSm (k : Int) : Sm := ⟨3, vS, k, inX 0⟩
def unM (p : Pr) (init : List Sm) (last : Sm) (sz : Nat) : Pr := { p with
 states := p.states ++ [⟨uS, -2147483648, 2147483647⟩]
 lines := p.lines ++ [⟨vS, 1 + (sz : Int), -2147483648, 2147483647⟩]
 stmts := init ++ [uSm p.states.length, vSm p.lines.length, last] }
theorem rZ {n z : Str} (h : ¬ n = z) : ∀ (l : List Str) (i : Int), findFrom n (l ++ [z]) i = findFrom n l i
 | [], i => by
  have : (z == n) = false := by simpa using fun e : z = n => h e.symm
  simp [findFrom, this]
 | x :: r, i => by simp only [List.cons_append, findFrom, rZ h r]
theorem jh {n z : Str} : ∀ (l : List Str) (i : Int), 0 ≤ i → 0 ≤ findFrom n l i → findFrom n (l ++ [z]) i = findFrom n l i
 | [], i, _, h => by simp [findFrom] at h
 | x :: r, i, hi, h => by
  simp only [List.cons_append, findFrom] at h ⊢
  split
  ·rfl
  ·rename_i hx
   rw [if_neg hx] at h
   exact jh r (i + 1) (by omega) h
theorem kV {z : Str} : ∀ (l : List Str) (i : Int), z ∉ l → findFrom z (l ++ [z]) i = i + l.length
 | [], i, _ => by simp [findFrom]
 | x :: r, i, h => by
  simp only [List.mem_cons, not_or] at h
  have : (x == z) = false := by simpa using fun e : x = z => h.1 e.symm
  simp only [List.cons_append, findFrom, this, Bool.false_eq_true, if_false]
  rw [kV r (i + 1) h.2]; simp only [List.length_cons]; omega
theorem QS {n : Str} {l : List Str} (h : 0 ≤ find l n) : n ∈ l := by
 by_cases hm : n ∈ l
 ·exact hm
 ·rw [find, Nam.find_neg 0 hm] at h; exact absurd h (by decide)
theorem Us {n : Str} {l : List Sm} (h : 0 ≤ givenFrom n l 0) : n ∈ lets l := by
 by_cases hm : n ∈ lets l
 ·exact hm
 ·rw [Nam.given_neg 0 hm] at h; exact absurd h (by decide)
theorem J8 (l m : List Sm) : lets (l ++ m) = lets l ++ lets m := by simp [lets]
theorem Ut {l m : List Sm} (h : ∀ s ∈ l, s ∈ m) {n : Str} (hn : n ∈ lets l) : n ∈ lets m := by
 simp only [lets, List.mem_map, List.mem_filter] at hn ⊢
 obtain ⟨s, ⟨h1, h2⟩, h3⟩ := hn
 exact ⟨s, ⟨h _ h1, h2⟩, h3⟩
theorem QT {q : Pr} : ∀ (r : List Sm) (i : Nat) (out : Bool), (∀ j s, r[j]? = some s → aX q s = s.index ∧ 0 ≤ s.index ∧ again q (i + j) s = false ∧ resolved q (i + j) s.x = (s.x, true)) → (r = [] → out = true) → (∀ s, r.getLast? = some s → (s.kind == 4) = true) → aF q r i out = .ok r
 | [], i, out, _, h, _ => by rw [aF, h rfl]; rfl
 | s :: r, i, out, h, _, hl => by
  obtain ⟨h1, h2, h3, h4⟩ := h 0 s rfl
  rw [Nat.add_zero] at h3 h4
  refine Ce (by rw [h4]) (by rw [h1]; exact h2) h3 (QT r (i + 1) _ (fun j t hj => ?_) (fun e => ?_) (fun t ht => ?_)) ?_
  ·have := h (j + 1) t (by simpa using hj)
   rwa [show i + (j + 1) = i + 1 + j by omega] at this
  ·subst e; exact hl s rfl
  ·cases r with
   | nil => cases ht
   | cons a r => exact hl t (by rw [List.getLast?_cons_cons]; exact ht)
  ·rw [h1, h4]
structure UnH (p : Pr) (init : List Sm) (last : Sm) (sz : Nat) : Prop where
 st : p.stmts = init ++ [last]
 res : Res p
 sz : sz ≤ 255
variable {p : Pr} {init : List Sm} {last : Sm} {sz : Nat}
theorem J9 {p : Pr} : ∀ (r : List Sm) (i : Nat) (out : Bool) (l : List Sm), aF p r i out = .ok l → ∀ s, r.getLast? = some s → (s.kind == 4) = true
 | [], _, _, _, _, s, h => by cases h
 | t :: r, i, out, l, h, s, hs => by
  rw [aF] at h
  split at h
  ·cases h
  ·split at h
   ·cases h
   ·split at h
    ·cases h
    ·cases hr : aF p r (i + 1) (t.kind == 4) with
     | error e => rw [hr] at h; cases h
     | ok m =>
      cases r with
      | nil =>
       have e : t = s := Option.some.inj hs
       subst e
       rw [aF] at hr
       cases hk : t.kind == 4 with
       | true => rfl
       | false => rw [hk] at hr; cases hr
      | cons a r => exact J9 (a :: r) (i + 1) _ m hr s (by rw [List.getLast?_cons_cons] at hs; exact hs)
theorem UnH.out (h : UnH p init last sz) : (last.kind == 4) = true := by
 have := h.res.ru
 exact J9 _ _ _ _ this last (by rw [h.st]; simp)
theorem UnH.kind (h : UnH p init last sz) : last.kind = 4 := by simpa using h.out
theorem UnH.decl (h : UnH p init last sz) : bu (unM p init last sz) = bounds p.params ++ (bounds p.states ++ [uS]) ++ (Ref15.lines p ++ [vS]) ++ Ref15.tables p ++ lets p.stmts := by
 have e : lets (init ++ [uSm p.states.length, vSm p.lines.length, last]) = lets p.stmts := by
  rw [h.st, J8, J8]
  simp [lets, List.filter_cons, h.kind]
 simp only [bu, unM, bounds, Ref15.lines, Ref15.tables, List.map_append, List.map_cons, List.map_nil, e]
theorem ZW {a b c d e : List Str} {u v : Str} (h : (a ++ (b ++ [u]) ++ (c ++ [v]) ++ d ++ e).Nodup) : u ∉ b ∧ u ∉ e ∧ v ∉ c ∧ ¬ u = v := by
 have h : (a ++ (b ++ ([u] ++ (c ++ ([v] ++ (d ++ e)))))).Nodup := by simpa only [List.append_assoc] using h
 have h1 := (List.nodup_append.1 h).2.1
 have h2 := (List.nodup_append.1 h1)
 have h3 := (List.nodup_append.1 h2.2.1)
 have h4 := (List.nodup_append.1 h3.2.1)
 refine ⟨fun hu => h2.2.2 u hu u (by simp) rfl, fun hu => h3.2.2 u (by simp) u (by simp [hu]) rfl, fun hv => h4.2.2 v hv v (by simp) rfl, fun e => h3.2.2 u (by simp) v (by simp) e⟩
theorem UnH.app (h : UnH p init last sz) {q : Str} {b b' : Nat} (hu : uS ∉ lets p.stmts) (hg : given (unM p init last sz) q b' = given p q b) (hv : (value p q b).2 = true) : value (unM p init last sz) q b' = value p q b := by
 have hgl : 0 ≤ given p q b → q ∈ lets p.stmts := fun hh => Ut (fun s hs => List.mem_of_mem_take hs) (Us hh)
 have e1 : (unM p init last sz).params = p.params := rfl
 have e2 : bounds (unM p init last sz).states = bounds p.states ++ [uS] := by simp [unM, bounds]
 simp only [value] at hv ⊢
 rw [e1, e2, hg]
 by_cases h1 : find (bounds p.params) q < 0
 ·simp only [decide_eq_true h1, if_true] at hv ⊢
  by_cases h2 : find (bounds p.states) q < 0
  ·simp only [decide_eq_true h2, if_true] at hv ⊢
   have hq := hgl (of_decide_eq_true hv)
   have hne : ¬ q = uS := fun e => hu (e ▸ hq)
   have : find (bounds p.states ++ [uS]) q = find (bounds p.states) q := rZ hne _ _
   rw [this]
   simp only [decide_eq_true h2, if_true]
  ·have : find (bounds p.states ++ [uS]) q = find (bounds p.states) q := jh _ _ (Int.le_refl _) (by rw [find] at h2; omega)
   rw [this]
 ·rw [if_neg (by simpa using h1), if_neg (by simpa using h1)]
theorem UnH.rx (h : UnH p init last sz) {b b' : Nat} (hu : uS ∉ lets p.stmts) (hg : ∀ q, given (unM p init last sz) q b' = given p q b) : ∀ x : Ex, (resolved p b x).2 = true → resolved (unM p init last sz) b' x = resolved p b x := by
 refine Ex.ind fun x ih => ?_
 intro hx
 rw [dh] at hx
 rw [dh, dh p]
 by_cases hk : (named x.kind && x.kind != 8 && x.kind != 9) = true
 ·rw [if_pos hk] at hx ⊢
  rw [if_pos hk]; exact h.app hu (hg _) hx
 ·rw [if_neg hk] at hx ⊢
  rw [if_neg hk]
  simp only [Bool.and_eq_true, decide_eq_true_eq] at hx
  obtain ⟨h1, h2⟩ := hx
  have hL : ∀ l : List Ex, (∀ y ∈ l, y ∈ x.l) → (aN p b l).2 = true → aN (unM p init last sz) b' l = aN p b l := by
   intro l
   induction l with
   | nil => intro _ _; rfl
   | cons y r ihr =>
    intro hl h2
    rw [aN] at h2
    simp only [Bool.and_eq_true] at h2
    rw [aN, aN, ih y (hl y (by simp)) h2.1, ihr (fun z hz => hl z (by simp [hz])) h2.2]
  have hi : dN (unM p init last sz) x = dN p x := by
   have e2 : Ref15.lines (unM p init last sz) = Ref15.lines p ++ [vS] := by simp [unM, Ref15.lines]
   have e3 : Ref15.tables (unM p init last sz) = Ref15.tables p := rfl
   simp only [dN] at h1 ⊢
   rw [e2, e3]
   split
   ·rfl
   ·rename_i h9
    rw [if_neg h9] at h1
    split
    ·rename_i h8
     rw [if_pos h8] at h1
     exact jh _ _ (Int.le_refl _) h1
    ·rfl
  rw [hi, hL x.l (fun _ h => h) h2]
theorem UnH.at_ (h : UnH p init last sz) {j : Nat} {s : Sm} (hj : (unM p init last sz).stmts[j]? = some s) : (j < init.length ∧ p.stmts[j]? = some s) ∨ (j = init.length ∧ s = uSm p.states.length) ∨ (j = init.length + 1 ∧ s = vSm p.lines.length) ∨ (j = init.length + 2 ∧ s = last ∧ p.stmts[init.length]? = some s) := by
 have hj : (init ++ [uSm p.states.length, vSm p.lines.length, last])[j]? = some s := hj
 by_cases h1 : j < init.length
 ·rw [List.getElem?_append_left h1] at hj
  exact .inl ⟨h1, by rw [h.st, List.getElem?_append_left h1]; exact hj⟩
 ·rw [List.getElem?_append_right (by omega)] at hj
  obtain ⟨k, hk⟩ : ∃ k, j = init.length + k := ⟨j - init.length, by omega⟩
  subst hk
  rw [Nat.add_sub_cancel_left] at hj
  match k, hj with
  | 0, hj => cases hj; exact .inr (.inl ⟨rfl, rfl⟩)
  | 1, hj => cases hj; exact .inr (.inr (.inl ⟨rfl, rfl⟩))
  | 2, hj => cases hj; exact .inr (.inr (.inr ⟨rfl, rfl, by rw [h.st]; simp⟩))
  | k + 3, hj => simp at hj
theorem UnH.take_lt (h : UnH p init last sz) {j : Nat} (hj : j ≤ init.length) : (unM p init last sz).stmts.take j = p.stmts.take j := by
 show (init ++ [uSm p.states.length, vSm p.lines.length, last]).take j = p.stmts.take j
 rw [h.st, List.take_append_of_le_length hj, List.take_append_of_le_length hj]
theorem mO {n : Str} : ∀ (l m : List Sm) (i : Int), (∀ s ∈ m, (s.kind == 1) = false) → givenFrom n (l ++ m) i = givenFrom n l i
 | [], [], i, _ => rfl
 | [], s :: m, i, h => by
  have := h s (by simp)
  show (if (s.kind == 1 && s.name == n) = true then i else givenFrom n m (i + 1)) = -1
  rw [this, Bool.false_and, if_neg (by decide)]
  exact mO [] m (i + 1) fun t ht => h t (by simp [ht])
 | x :: r, m, i, h => by
  simp only [List.cons_append, givenFrom, mO r m (i + 1) h]
theorem UnH.given_last (h : UnH p init last sz) (q : Str) : given (unM p init last sz) q (init.length + 2) = given p q init.length := by
 show givenFrom q ((init ++ [uSm p.states.length, vSm p.lines.length, last]).take (init.length + 2)) 0 = givenFrom q (p.stmts.take init.length) 0
 have e0 : p.stmts.take init.length = init := by rw [h.st, List.take_left']; rfl
 rw [e0]
 ·have e : (init ++ [uSm p.states.length, vSm p.lines.length, last]).take (init.length + 2) = init ++ [uSm p.states.length, vSm p.lines.length] := by
   rw [List.take_append, List.take_of_length_le (by omega), Nat.add_sub_cancel_left]; rfl
  rw [e]
  exact mO _ _ _ (by intro s hs; simp only [List.mem_cons, List.not_mem_nil, or_false] at hs; rcases hs with rfl | rfl <;> rfl)
theorem UnH.again_new (h : UnH p init last sz) (hu : uS ∉ bounds p.states) (hv : vS ∉ Ref15.lines p) : again (unM p init last sz) init.length (uSm p.states.length) = false ∧ again (unM p init last sz) (init.length + 1) (vSm p.lines.length) = false := by
 have hat := qw p.stmts 0 false h.res.ru
 have hq : ∀ t ∈ init, (t.kind == 4) = false ∧ (t.kind = 2 → ¬ t.name = uS) ∧ (t.kind = 3 → ¬ t.name = vS) := by
  intro t ht
  have hag := (hat init.length last (by rw [h.st]; simp)).2.2
  have htk : p.stmts.take init.length = init := by rw [h.st, List.take_left']; rfl
  rw [Nat.zero_add, again, htk, List.any_eq_false] at hag
  have := hag t ht
  obtain ⟨j, hj, e⟩ := List.mem_iff_getElem.1 ht
  obtain ⟨g1, g2, _⟩ := hat j t (by rw [h.st, List.getElem?_append_left hj, List.getElem?_eq_getElem hj, e])
  refine ⟨?_, fun hk hn => ?_, fun hk hn => ?_⟩
  ·cases hk : t.kind == 4 with
   | false => rfl
   | true => rw [hk] at this; simp at this
  ·rw [← g1, aX, hk] at g2
   rw [if_neg (by decide), if_pos (by decide), hn] at g2
   exact hu (QS g2)
  ·rw [← g1, aX, hk] at g2
   rw [if_pos (by decide), hn] at g2
   exact hv (QS g2)
 have e1 : (unM p init last sz).stmts.take init.length = init := by
  show (init ++ [uSm p.states.length, vSm p.lines.length, last]).take init.length = init
  rw [List.take_left']; rfl
 have e2 : (unM p init last sz).stmts.take (init.length + 1) = init ++ [uSm p.states.length] := by
  show (init ++ [uSm p.states.length, vSm p.lines.length, last]).take (init.length + 1) = _
  rw [List.take_append, List.take_of_length_le (by omega), Nat.add_sub_cancel_left]; rfl
 constructor
 ·rw [again, e1, List.any_eq_false]
  intro t ht
  obtain ⟨a, b, _⟩ := hq t ht
  rw [a]
  simp only [Bool.false_or, Bool.and_eq_true, bne_iff_ne, ne_eq, beq_iff_eq, not_and]
  exact fun hk => b hk.2
 ·rw [again, e2, List.any_eq_false]
  intro t ht
  rcases List.mem_append.1 ht with ht | ht
  ·obtain ⟨a, _, b⟩ := hq t ht
   rw [a]
   simp only [Bool.false_or, Bool.and_eq_true, bne_iff_ne, ne_eq, beq_iff_eq, not_and]
   exact fun hk => b hk.2
  ·simp only [List.mem_cons, List.not_mem_nil, or_false] at ht
   subst ht
   exact fun e => Bool.noConfusion (show false = true from e)
theorem XQ (q : Pr) (b : Nat) (n : Int) : resolved q b (inX n) = (inX n, true) := by
 rfl
theorem UnH.res_q (h : UnH p init last sz) (hf : few (unM p init last sz) = true) (hn : dZ (bu (unM p init last sz)) (bu (unM p init last sz)) 0 = true) : Res (unM p init last sz) := by
 have hd := h.decl
 have hnd := Nam.uniqB_iff.1 ((Nam.unique_same _).symm.trans hn)
 rw [hd] at hnd
 obtain ⟨hu, hul, hv, _⟩ := ZW hnd
 have hat := qw p.stmts 0 false h.res.ru
 have hrn := CJ p.stmts 0 false h.res.ru
 refine ⟨?_, ?_, h.res.nm, ?_, hn, ?_, ?_⟩
 ·have := h.res.fo
  rw [Formed, h.st, List.all_append] at this
  show (init ++ [uSm p.states.length, vSm p.lines.length, last]).all stmtOk = true
  rw [List.all_append]
  simp only [List.all_cons, List.all_nil, Bool.and_true, Bool.and_eq_true] at this ⊢
  exact ⟨this.1, rfl, rfl, this.2⟩
 ·have := h.res.li
  rw [limited_eq] at this ⊢
  simp only [Bool.and_eq_true] at this ⊢
  obtain ⟨_, b', c', d', e'⟩ := this
  refine ⟨hf, ?_, c', ?_, e'⟩
  ·show (p.lines ++ _).all nS = true
   rw [List.all_append, b']
   have := h.sz
   simp only [List.all_cons, List.all_nil, Bool.and_true, Bool.true_and, nS, Bool.not_eq_true', Bool.or_eq_false_iff, decide_eq_false_iff_not]
   omega
  ·rw [h.st, List.all_append] at d'
   show (init ++ [uSm p.states.length, vSm p.lines.length, last]).all uJ = true
   rw [List.all_append]
   simp only [List.all_cons, List.all_nil, Bool.and_true, Bool.and_eq_true] at d' ⊢
   exact ⟨d'.1, rfl, rfl, d'.2⟩
 ·have := h.res.dn
  rw [hd]
  simp only [bu, List.all_append, Bool.and_eq_true] at this ⊢
  obtain ⟨⟨⟨⟨a, b⟩, c⟩, d⟩, e⟩ := this
  exact ⟨⟨⟨⟨a, b, by decide⟩, c, by decide⟩, d⟩, e⟩
 ·have := h.res.ra
  rw [ranged_eq] at this ⊢
  simp only [Bool.and_eq_true] at this ⊢
  obtain ⟨a, b, c, d, e⟩ := this
  refine ⟨a, ?_, ?_, d, ?_⟩
  ·show (p.states ++ _).all _ = true
   rw [List.all_append, Bool.and_eq_true]; exact ⟨b, by decide⟩
  ·show (p.lines ++ _).all _ = true
   rw [List.all_append, Bool.and_eq_true]; exact ⟨c, rfl⟩
  ·rw [O8, h.st, List.all_append] at e
   show (init ++ [uSm p.states.length, vSm p.lines.length, last]).all _ = true
   rw [List.all_append]
   simp only [List.all_cons, List.all_nil, Bool.and_true, Bool.and_eq_true] at e ⊢
   exact ⟨e.1, rfl, rfl, e.2⟩
 ·have hss : ∀ (s : Sm), aX p s = s.index → 0 ≤ s.index → aX (unM p init last sz) s = s.index := by
   intro s h1 h2
   rw [← h1] at h2
   rw [← h1]
   have e1 : bounds (unM p init last sz).states = bounds p.states ++ [uS] := by simp [unM, bounds]
   have e2 : Ref15.lines (unM p init last sz) = Ref15.lines p ++ [vS] := by simp [unM, Ref15.lines]
   simp only [aX] at h2 ⊢
   rw [e1, e2]
   split
   ·rename_i h3; rw [if_pos h3] at h2; exact jh _ _ (Int.le_refl _) h2
   ·rename_i h3; rw [if_neg h3] at h2
    split
    ·rename_i h4; rw [if_pos h4] at h2; exact jh _ _ (Int.le_refl _) h2
    ·rfl
  obtain ⟨ag1, ag2⟩ := h.again_new hu hv
  refine QT _ 0 false (fun j s hj => ?_) (fun e => ?_) (fun s hs => ?_)
  ·rw [Nat.zero_add]
   rcases h.at_ hj with ⟨h1, h2⟩ | ⟨h1, h2⟩ | ⟨h1, h2⟩ | ⟨h1, h2, h3⟩
   ·obtain ⟨a, b, c⟩ := hat j s h2
    have d := hrn j s h2
    rw [Nat.zero_add] at c d
    have et := h.take_lt (j := j) (by omega)
    refine ⟨hss s a b, b, ?_, ?_⟩
    ·rw [again, et]; exact c
    ·rw [h.rx hul (fun q => by rw [given, given, et]) s.x (by rw [d]), d]
   ·subst h1; subst h2
    refine ⟨?_, Int.natCast_nonneg _, ag1, ?_⟩
    ·show find (bounds (p.states ++ [⟨uS, _, _⟩])) uS = _
     rw [bounds, List.map_append]
     have := kV (z := uS) (bounds p.states) 0 hu
     rw [Int.zero_add, bounds, List.length_map] at this
     exact this
    ·show resolved _ _ (QR _) = (QR _, true)
     rw [dh, if_pos (by rfl)]
     show value (unM p init last sz) uS init.length = _
     simp only [value]
     have hpar : find (bounds (unM p init last sz).params) uS < 0 := by
      have : uS ∉ bounds p.params := fun hm => by
       have h' : (bounds p.params ++ ((bounds p.states ++ [uS]) ++ (Ref15.lines p ++ [vS]) ++ Ref15.tables p ++ lets p.stmts)).Nodup := by simpa only [List.append_assoc] using hnd
       exact (List.nodup_append.1 h').2.2 uS hm uS (by simp) rfl
      show findFrom uS (bounds p.params) 0 < 0
      rw [Nam.find_neg 0 this]; decide
     have hst : find (bounds (unM p init last sz).states) uS = p.states.length := by
      show find (bounds (p.states ++ [⟨uS, _, _⟩])) uS = _
      rw [bounds, List.map_append]
      have := kV (z := uS) (bounds p.states) 0 hu
      rw [Int.zero_add, bounds, List.length_map] at this
      exact this
     rw [if_pos (decide_eq_true hpar), hst, if_neg (by simp only [decide_eq_true_eq]; omega), decide_eq_true (Int.natCast_nonneg _)]
   ·subst h1; subst h2
    refine ⟨?_, Int.natCast_nonneg _, ag2, XQ _ _ _⟩
    show find (Ref15.lines (unM p init last sz)) vS = _
    have e2 : Ref15.lines (unM p init last sz) = Ref15.lines p ++ [vS] := by simp [unM, Ref15.lines]
    rw [e2]
    have := kV (z := vS) (Ref15.lines p) 0 hv
    rw [Int.zero_add, Ref15.lines, List.length_map] at this
    exact this
   ·subst h1
    obtain ⟨a, b, c⟩ := hat _ s h3
    have d := hrn _ s h3
    rw [Nat.zero_add] at c d
    refine ⟨hss s a b, b, ?_, ?_⟩
    ·have htk : p.stmts.take init.length = init := by rw [h.st, List.take_left']; rfl
     rw [again, htk] at c
     have e1 : (unM p init last sz).stmts.take (init.length + 2) = init ++ [uSm p.states.length, vSm p.lines.length] := by
      show (init ++ [uSm p.states.length, vSm p.lines.length, last]).take (init.length + 2) = _
      rw [List.take_append, List.take_of_length_le (by omega), Nat.add_sub_cancel_left]; rfl
     rw [again, e1, List.any_append, c, h2, h.kind]
     simp [h.kind]
    ·rw [h.rx hul (fun q => h.given_last q) s.x (by rw [d]), d]
  ·simp [unM] at e
  ·have : (init ++ [uSm p.states.length, vSm p.lines.length, last]).getLast? = some s := hs
   rw [List.getLast?_append] at this
   simp at this
   subst this; exact h.out
end Go.Fw.Tl
namespace Go.Fw.Tl
open Go.Fw Go.Fw.Ref15 Go.Fw.Rg
variable [af] {F : List Sp} {i i' : Nat}
variable {p : Pr} {init : List Sm} {last : Sm} {sz : Nat}
theorem jc {α : Type} {l m : List α} {i : Nat} {d : α} (h : i < l.length) : (l ++ m).getD i d = l.getD i d := by
 rw [List.getD_eq_getElem?_getD, List.getD_eq_getElem?_getD, List.getElem?_append_left h]
theorem Ko {α : Type} {l : List α} {a d : α} : (l ++ [a]).getD l.length d = a := by
 rw [List.getD_eq_getElem?_getD, List.getElem?_append_right (Nat.le_refl _), Nat.sub_self]; rfl
theorem CQ {n : Nat} : ∀ x : Ex, wfX p n x = true → bJ (unM p init last sz) F x = bJ p F x := by
 refine Ex.ind fun x ih => ?_
 intro hw
 obtain ⟨g1, g2, g3⟩ := bY hw
 have hL : ∀ l : List Ex, (∀ z ∈ l, z ∈ x.l) → bD (unM p init last sz) F l = bD p F l := by
  intro l
  induction l with
  | nil => intro _; rfl
  | cons z r ihr =>
   intro hl
   rw [bD, bD, ih z (hl z (by simp)) (lw g3 z (hl z (by simp))), ihr fun w hw => hl w (by simp [hw])]
 rw [dF, dF, hL x.l fun _ h => h]
 cases bD p F x.l with
 | error e => rfl
 | ok l =>
  simp only
  by_cases h4 : (x.kind == 4) = true
  ·have h0 := Qe g2 h4
   rw [MI 4 h4, MI (p := p) 4 h4]
   have : aT (unM p init last sz) x.index = aT p x.index := jc (by omega)
   simp only [opM]
   rw [this]; rfl
  ·by_cases h8 : (x.kind == 8) = true
   ·have h0 := Vm g2 h8
    rw [MI 8 h8, MI (p := p) 8 h8]
    have : aU (unM p init last sz) x.index = aU p x.index := jc (by omega)
    simp only [opM]
    rw [this]; rfl
   ·have h4 : (x.kind == 4) = false := by simpa using h4
    have h8 : (x.kind == 8) = false := by simpa using h8
    simp only [opM, h4, h8, Bool.false_eq_true, if_false]
    rfl
theorem Fj {i : Nat} {s : Sm} (h : wfS p i s = true) (f : Sp) : within (unM p init last sz) s f = within p s f := by
 simp only [wfS, Bool.and_eq_true] at h
 have e : dI (unM p init last sz) s = dI p s := by
  simp only [dI]
  split
  ·rename_i h2
   have := h.2.1
   rw [h2] at this
   simp only [Bool.not_true, Bool.false_or, Bool.and_eq_true, decide_eq_true_eq] at this
   have : aT (unM p init last sz) s.index = aT p s.index := jc (by omega)
   rw [this]
  ·split
   ·rename_i h3
    have := h.2.2
    rw [h3] at this
    simp only [Bool.not_true, Bool.false_or, Bool.and_eq_true, decide_eq_true_eq] at this
    have : aU (unM p init last sz) s.index = aU p s.index := jc (by omega)
    rw [this]
   ·rfl
 rw [within, within, e]
theorem Fp {p : Pr} : ∀ (a b : List Sm) (fs F : List Sp), stmtsM p (a ++ b) fs = .ok F → ∃ G, stmtsM p a fs = .ok G ∧ G.length = fs.length + a.length ∧ stmtsM p b G = .ok F
 | [], b, fs, F, h => ⟨fs, rfl, rfl, h⟩
 | s :: r, b, fs, F, h => by
  rw [List.cons_append, stmtsM] at h
  cases hf : bJ p fs s.x with
  | error e => rw [hf] at h; cases h
  | ok f =>
   rw [hf] at h
   simp only at h
   split at h
   ·rename_i hw
    obtain ⟨G, h1, h2, h3⟩ := Fp r b (fs ++ [f]) F h
    refine ⟨G, by rw [stmtsM, hf]; simp only; rw [if_pos hw]; exact h1, ?_, h3⟩
    simp only [List.length_append, List.length_cons, List.length_nil] at h2 ⊢; omega
   ·cases h
theorem VL : ∀ (r : List Sm) (i : Nat) (fs G : List Sp) (t : List Sm), mX p i r = true → stmtsM p r fs = .ok G → stmtsM (unM p init last sz) (r ++ t) fs = stmtsM (unM p init last sz) t G
 | [], i, fs, G, t, _, h => by rw [stmtsM] at h; cases h; rfl
 | s :: r, i, fs, G, t, hw, h => by
  have hws : wfS p i s = true := by simp only [mX, Bool.and_eq_true] at hw; exact hw.1
  rw [List.cons_append, stmtsM]
  rw [stmtsM] at h
  rw [CQ s.x (EH hw)]
  cases hf : bJ p fs s.x with
  | error e => rw [hf] at h; cases h
  | ok f =>
   rw [hf] at h
   simp only at h ⊢
   rw [Fj hws]
   split at h
   ·rename_i hi
    rw [if_pos hi]; exact VL r (i + 1) _ G t (lN hw) h
   ·cases h
theorem Kq {p : Pr} : ∀ (a b : List Sm) (i : Nat), mX p i (a ++ b) = true → mX p i a = true ∧ mX p (i + a.length) b = true
 | [], b, i, h => ⟨rfl, h⟩
 | s :: r, b, i, h => by
  simp only [List.cons_append, mX, Bool.and_eq_true] at h ⊢
  obtain ⟨h1, h2⟩ := Kq r b (i + 1) h.2
  exact ⟨⟨h.1, h1⟩, by rwa [List.length_cons, show i + (r.length + 1) = i + 1 + r.length by omega]⟩
theorem UnH.run (h : UnH p init last sz) (hb : BOk p F) : ∃ G : List Sp, stmtsM (unM p init last sz) (unM p init last sz).stmts [] = .ok G ∧ ∀ j, j < init.length → G.getD j (0, 0) = F.getD j (0, 0) := by
 have hwf := hb.res.wf
 have hrun := hb.run
 rw [h.st] at hwf hrun
 obtain ⟨w1, w2⟩ := Kq init [last] 0 hwf
 obtain ⟨G, h1, h2, h3⟩ := Fp init [last] [] F hrun
 rw [Nat.zero_add] at w2
 have h2 : G.length = init.length := by simpa using h2
 have hl : wfX p init.length last.x = true := EH w2
 have hws : wfS p init.length last = true := by simp only [mX, Bool.and_eq_true] at w2; exact w2.1
 rw [stmtsM] at h3
 cases hf : bJ p G last.x with
 | error e => rw [hf] at h3; cases h3
 | ok f =>
  rw [hf] at h3
  simp only at h3
  split at h3
  ·rename_i hi
   rw [stmtsM] at h3
   cases h3
   have st1 : aT (unM p init last sz) (p.states.length : Int) = ⟨uS, -2147483648, 2147483647⟩ := by
    show (p.states ++ [_]).getD ((p.states.length : Int).toNat) Bd.none = _
    rw [Int.toNat_natCast, Ko]
   have ln1 : aU (unM p init last sz) (p.lines.length : Int) = ⟨vS, 1 + (sz : Int), -2147483648, 2147483647⟩ := by
    show (p.lines ++ [_]).getD ((p.lines.length : Int).toNat) Ln.none = _
    rw [Int.toNat_natCast, Ko]
   have a1 : bJ (unM p init last sz) G (QR p.states.length) = .ok (-2147483648, 2147483647) := by
    rw [dF]
    show opM (unM p init last sz) G 4 (p.states.length : Int) 0 [] = _
    simp only [opM, st1]; rfl
   have a2 : bJ (unM p init last sz) (G ++ [(-2147483648, 2147483647)]) (inX 0) = .ok (-2147483648, 2147483647) := rfl
   refine ⟨G ++ [(-2147483648, 2147483647), (-2147483648, 2147483647), f], ?_, fun j hj => ?_⟩
   ·show stmtsM (unM p init last sz) (init ++ [uSm p.states.length, vSm p.lines.length, last]) [] = _
    rw [VL init 0 [] G _ w1 h1, stmtsM]
    show (match bJ (unM p init last sz) G (QR p.states.length) with | .error e => Except.error e | .ok g => if within (unM p init last sz) (uSm p.states.length) g then stmtsM (unM p init last sz) [vSm p.lines.length, last] (G ++ [g]) else .error 161) = _
    rw [a1]
    simp only
    have b1 : within (unM p init last sz) (uSm p.states.length) (-2147483648, 2147483647) = true := by
     rw [within]
     have : dI (unM p init last sz) (uSm p.states.length) = (-2147483648, 2147483647) := by
      show ((aT (unM p init last sz) (p.states.length : Int)).lo, (aT (unM p init last sz) (p.states.length : Int)).hi) = _
      rw [st1]
     rw [this]; decide
    rw [if_pos b1, stmtsM]
    show (match bJ (unM p init last sz) (G ++ [(-2147483648, 2147483647)]) (inX 0) with | .error e => Except.error e | .ok g => if within (unM p init last sz) (vSm p.lines.length) g then stmtsM (unM p init last sz) [last] (G ++ [(-2147483648, 2147483647)] ++ [g]) else .error 161) = _
    rw [a2]
    simp only
    have b2 : within (unM p init last sz) (vSm p.lines.length) (-2147483648, 2147483647) = true := by
     rw [within]
     have : dI (unM p init last sz) (vSm p.lines.length) = (-2147483648, 2147483647) := by
      show ((aU (unM p init last sz) (p.lines.length : Int)).lo, (aU (unM p init last sz) (p.lines.length : Int)).hi) = _
      rw [ln1]
     rw [this]; decide
    rw [if_pos b2, stmtsM]
    rw [CQ last.x hl, yC (p := p) (n := init.length) (F := G ++ [(-2147483648, 2147483647)] ++ [(-2147483648, 2147483647)]) (G := G) (fun j hj => by rw [List.append_assoc, jc (by omega)]) last.x hl, hf]
    simp only
    rw [Fj hws, if_pos hi, stmtsM]
    simp only [List.append_assoc]; rfl
   ·rw [jc (by omega), jc (by omega)]
  ·cases h3
theorem UnH.bok (h : UnH p init last sz) (hb : BOk p F) (hq : Res (unM p init last sz)) : ∃ G : List Sp, BOk (unM p init last sz) G ∧ ∀ j, j < init.length → G.getD j (0, 0) = F.getD j (0, 0) := by
 obtain ⟨G, h1, h2⟩ := h.run hb
 exact ⟨G, Vp (rV hq) h1, h2⟩
theorem Kr {p : Pr} (h : BOk p F) : (ak p).2 = 0 := by rw [jI (rV h.res) h.run]
theorem UnH.err (h : UnH p init last sz) (hb : (ak p).2 = 0) : few (unM p init last sz) = false ∨ (ak (unM p init last sz)).2 = 151 ∨ Res (unM p init last sz) := by
 cases hf : few (unM p init last sz) with
 | false => exact .inl rfl
 | true =>
  cases hn : dZ (bu (unM p init last sz)) (bu (unM p init last sz)) 0 with
  | true => exact .inr (.inr (h.res_q hf hn))
  | false =>
   refine .inr (.inl ?_)
   have hR : Ref15.Resolve (unM p init last sz) = (Pr.none, 151) := by
    have h1 : Formed (unM p init last sz) = true := by
     have := h.res.fo
     rw [Formed, h.st, List.all_append] at this
     show (init ++ [uSm p.states.length, vSm p.lines.length, last]).all stmtOk = true
     rw [List.all_append]
     simp only [List.all_cons, List.all_nil, Bool.and_true, Bool.and_eq_true] at this ⊢
     exact ⟨this.1, rfl, rfl, this.2⟩
    have h2 : limited (unM p init last sz) = true := by
     have := h.res.li
     rw [limited_eq] at this ⊢
     simp only [Bool.and_eq_true] at this ⊢
     obtain ⟨_, b', c', d', e'⟩ := this
     refine ⟨hf, ?_, c', ?_, e'⟩
     ·show (p.lines ++ _).all nS = true
      rw [List.all_append, b']
      have := h.sz
      simp only [List.all_cons, List.all_nil, Bool.and_true, Bool.true_and, nS, Bool.not_eq_true', Bool.or_eq_false_iff, decide_eq_false_iff_not]
      omega
     ·rw [h.st, List.all_append] at d'
      show (init ++ [uSm p.states.length, vSm p.lines.length, last]).all uJ = true
      rw [List.all_append]
      simp only [List.all_cons, List.all_nil, Bool.and_true, Bool.and_eq_true] at d' ⊢
      exact ⟨d'.1, rfl, rfl, d'.2⟩
    have h3 : lL (unM p init last sz).name = true := h.res.nm
    have h4 : (bu (unM p init last sz)).all lL = true := by
     have := h.res.dn
     rw [h.decl]
     simp only [bu, List.all_append, Bool.and_eq_true] at this ⊢
     obtain ⟨⟨⟨⟨a, b⟩, c⟩, d⟩, e⟩ := this
     exact ⟨⟨⟨⟨a, b, by decide⟩, c, by decide⟩, d⟩, e⟩
    simp only [Ref15.Resolve, h1, h2, h3, h4, hn, Bool.not_true, Bool.not_false, Bool.false_eq_true, if_false, if_true]
   have he : resE (unM p init last sz) = 151 := by
    rw [resE, Nam.resolve_same, hR]; rfl
   rw [lQ (by rw [he]; decide), he]
theorem yE {α β : Type} {f g : β → α → β} : ∀ (l : List α) (n : β), (∀ x ∈ l, ∀ n, f n x = g n x) → l.foldl f n = l.foldl g n
 | [], _, _ => rfl
 | x :: r, n, h => by rw [List.foldl_cons, List.foldl_cons, h x List.mem_cons_self, yE r _ fun y hy => h y (List.mem_cons_of_mem _ hy)]
theorem Fq (h : UnH p init last sz) {i : Nat} (hi : i < init.length) : aV (unM p init last sz) (i : Int) = aV p (i : Int) := by
 rw [aV, aV, Int.toNat_natCast]
 show ((init ++ [uSm p.states.length, vSm p.lines.length, last]).getD i Sm.none).x = _
 rw [h.st, jc hi, jc hi]
theorem oK (h : UnH p init last sz) : aV (unM p init last sz) ((init.length + 2 : Nat) : Int) = last.x ∧ aV p (init.length : Int) = last.x := by
 constructor
 ·exact jF (by show (init ++ [uSm p.states.length, vSm p.lines.length, last])[init.length + 2]? = _; rw [List.getElem?_append_right (by omega), Nat.add_sub_cancel_left]; rfl)
 ·exact jF (by rw [h.st]; simp)
theorem lens (h : UnH p init last sz) : p.stmts.length = init.length + 1 ∧ (unM p init last sz).stmts.length = init.length + 3 := by
 constructor
 ·rw [h.st]; simp
 ·show (init ++ [uSm p.states.length, vSm p.lines.length, last]).length = _; simp
theorem UnH.hi (h : UnH p init last sz) {F G : List Sp} (hb : BOk p F) (hq : BOk (unM p init last sz) G) (hG : ∀ j, j < init.length → G.getD j (0, 0) = F.getD j (0, 0)) (hi : i ≤ init.length) (hi' : i' < (unM p init last sz).stmts.length) (hx : aV (unM p init last sz) (i' : Int) = aV p (i : Int)) {x : Ex} (hm : x ∈ au (aV p i)) (hk : looks x = true) : hiM (unM p init last sz) (x.l.getD 0 Ex.none) = hiM p (x.l.getD 0 Ex.none) := by
 have hlt : i < p.stmts.length := by rw [(lens h).1]; omega
 obtain ⟨hl, s, a1, _, a3, _⟩ := look_ok hb hlt hm hk
 obtain ⟨_, t, b1, _, b3, _⟩ := look_ok hq hi' (by rw [hx]; exact hm) hk
 have hw := yA hb.res hlt hm
 have hz : wfX p i (x.l.getD 0 Ex.none) = true := by
  obtain ⟨y, hy⟩ : ∃ y, x.l = [y] := by
   cases e : x.l with
   | nil => rw [e] at hl; cases hl
   | cons y r => cases r with
    | nil => exact ⟨y, rfl⟩
    | cons z r => rw [e] at hl; simp at hl
  rw [hy]; exact lw (bY hw).2.2 y (by rw [hy]; simp)
 rw [CQ _ hz, yC (p := p) (n := i) (F := G) (G := F) (fun j hj => hG j (by omega)) _ hz, a3] at b3
 cases b3
 rw [hiM, hiM, a1, b1]
theorem XR (p : Pr) (n : Int) (x : Ex) : n ≤ latX p n x := by
 unfold latX; split
 ·exact (qp _ _).1
 ·exact Int.le_refl _
theorem XT (p : Pr) (n : Int) (s : Sm) : n ≤ Dq p n s := by
 unfold Dq
 exact mM (P := fun m => n ≤ m) _ n (Int.le_refl _) fun m hm x _ => Int.le_trans hm (XR p m x)
theorem UnH.lat (h : UnH p init last sz) {F G : List Sp} (hb : BOk p F) (hq : BOk (unM p init last sz) G) (hG : ∀ j, j < init.length → G.getD j (0, 0) = F.getD j (0, 0)) : latM (unM p init last sz) = latM p := by
 obtain ⟨l1, l2⟩ := lens h
 have hS : ∀ (i i' : Nat) (s : Sm), i ≤ init.length → i' < (unM p init last sz).stmts.length → p.stmts[i]? = some s → aV (unM p init last sz) (i' : Int) = aV p (i : Int) → ∀ n, Dq (unM p init last sz) n s = Dq p n s := by
  intro i i' s hi hi' hs hx n
  have e := jF hs
  refine yE _ _ fun x hx2 m => ?_
  rw [latX, latX]
  cases hk : looks x with
  | false => rfl
  | true => rw [h.hi hb hq hG hi hi' hx (by rw [e]; exact hx2) hk]
 show (init ++ [uSm p.states.length, vSm p.lines.length, last]).foldl (Dq (unM p init last sz)) 0 = _
 rw [latM, h.st, List.foldl_append, List.foldl_append]
 have e1 : init.foldl (Dq (unM p init last sz)) 0 = init.foldl (Dq p) 0 := by
  refine yE _ _ fun s hs n => ?_
  obtain ⟨i, hi, e⟩ := List.mem_iff_getElem.1 hs
  exact hS i i s (by omega) (by omega) (by rw [h.st, List.getElem?_append_left hi, List.getElem?_eq_getElem hi, e]) (Fq h hi) n
 rw [e1]
 have h0 : 0 ≤ init.foldl (Dq p) 0 := mM (P := fun m => 0 ≤ m) _ 0 (Int.le_refl _) fun m hm s _ => Int.le_trans hm (XT p m s)
 generalize init.foldl (Dq p) 0 = n at h0
 have e2 : Dq (unM p init last sz) n (uSm p.states.length) = n := rfl
 have e3 : Dq (unM p init last sz) n (vSm p.lines.length) = n := by
  show latX (unM p init last sz) (latX (unM p init last sz) n (inX 0)) ⟨1, [], 0, 0, []⟩ = n
  have hx : aV (unM p init last sz) ((init.length + 1 : Nat) : Int) = inX 0 := jF (s := vSm p.lines.length) (by show (init ++ [uSm p.states.length, vSm p.lines.length, last])[init.length + 1]? = _; rw [List.getElem?_append_right (by omega), Nat.add_sub_cancel_left]; rfl)
  obtain ⟨_, t, b1, _, b3, _⟩ := look_ok (x := inX 0) hq (i := init.length + 1) (by omega) (by rw [hx, iM]; simp) rfl
  have b3 : Except.ok ((0 : Int), (0 : Int)) = Except.ok t := b3
  cases b3
  have hh : hiM (unM p init last sz) ⟨1, [], 0, 0, []⟩ = 0 := by
   rw [hiM]
   have b1 : dm (unM p init last sz) ⟨1, [], 0, 0, []⟩ = .ok (0, 0) := b1
   rw [b1]
  show mm2 true n (hiM (unM p init last sz) ⟨1, [], 0, 0, []⟩) = n
  rw [hh]; unfold mm2; simp only; rw [if_neg (by omega)]
 simp only [List.foldl_cons, List.foldl_nil, e2, e3]
 exact hS init.length (init.length + 2) last (Nat.le_refl _) (by omega) (by rw [h.st]; simp) ((oK h).1.trans (oK h).2.symm) n
theorem CS : ∀ (a b : List Sm) (i : Nat) (S : List (Key × Int)), E5 (a ++ b) i S = E5 b (i + a.length) (E5 a i S)
 | [], b, i, S => rfl
 | s :: r, b, i, S => by
  rw [List.cons_append, E5, E5, CS r b, List.length_cons, show i + 1 + r.length = i + (r.length + 1) by omega]
theorem UnH.sets (h : UnH p init last sz) (k : Key) (hk : k ≠ (2, (p.states.length : Int)) ∧ k ≠ (3, (p.lines.length : Int))) : lkK k (aH (unM p init last sz)) = lkK k (aH p) := by
 have hl : Go.Fw.Tl.sets last.kind = false := by rw [h.kind]; rfl
 show lkK k (E5 (init ++ [uSm p.states.length, vSm p.lines.length, last]) 0 []) = lkK k (E5 p.stmts 0 [])
 rw [h.st, CS, CS]
 simp only [E5, hl, Bool.false_eq_true, if_false, show Go.Fw.Tl.sets 2 = true from rfl, show Go.Fw.Tl.sets 3 = true from rfl, if_true]
 rw [CE, if_neg (fun e => hk.2 (kU.1 e)), CE, if_neg (fun e => hk.1 (kU.1 e))]
theorem VM (h : UnH p init last sz) {k : Key} {b : Int} (hb : lkK k (aH p) = some b) : ∃ j : Nat, b = (j : Int) ∧ j < init.length := by
 obtain ⟨j, s, h1, h2, h3, _⟩ := Ap hb
 refine ⟨j, h2, ?_⟩
 have hj := (List.getElem?_eq_some_iff.1 h1).1
 rw [(lens h).1] at hj
 by_cases e : j = init.length
 ·subst e
  have : s = last := by rw [h.st] at h1; simpa using h1.symm
  rw [this, h.kind] at h3; exact absurd h3 (by decide)
 ·omega
theorem UnH.depx (h : UnH p init last sz) (hi : i ≤ init.length) (hii : i = i' ∨ (i = init.length ∧ i' = init.length + 2)) {x : Ex} (hw : wfX p i x = true) : Cm (unM p init last sz) (aH (unM p init last sz)) i' x = Cm p (aH p) i x ∧ ∀ q, Cm p (aH p) i x = some q → q.1 < init.length := by
 have hg := (bY hw).2.1
 unfold Cm
 by_cases h5 : (x.kind == 5) = true
 ·have := Qg hg h5
  simp only [h5, if_true]
  exact ⟨trivial, fun q e => by cases e; simp only; omega⟩
 ·simp only [h5, Bool.false_eq_true, if_false]
  by_cases h4 : (x.kind == 4) = true
  ·have hs := Qe hg h4
   simp only [h4, if_true]
   rw [h.sets (2, x.index) ⟨fun e => by have := congrArg Prod.snd e; simp only at this; omega, fun e => by have := congrArg Prod.fst e; simp only at this; omega⟩]
   cases hb : lkK (2, x.index) (aH p) with
   | none => exact ⟨rfl, fun q e => by cases e⟩
   | some b =>
    obtain ⟨j, rfl, hj⟩ := VM h hb
    refine ⟨?_, fun q e => by cases e; simp only; omega⟩
    simp only
    rcases hii with rfl | ⟨rfl, rfl⟩
    ·rfl
    ·rw [if_pos (by omega), if_pos (by omega)]
  ·simp only [h4, Bool.false_eq_true, if_false]
   by_cases h8 : (x.kind == 8) = true
   ·have hs := Vm hg h8
    simp only [h8, if_true]
    rw [h.sets (3, x.index) ⟨fun e => by have := congrArg Prod.fst e; simp only at this; omega, fun e => by have := congrArg Prod.snd e; simp only at this; omega⟩]
    have hl : aU (unM p init last sz) x.index = aU p x.index := jc (by omega)
    cases hb : lkK (3, x.index) (aH p) with
    | none => exact ⟨rfl, fun q e => by cases e⟩
    | some b =>
     obtain ⟨j, rfl, hj⟩ := VM h hb
     exact ⟨by simp only [hl], fun q e => by cases e; simp only; omega⟩
   ·simp only [h8, Bool.false_eq_true, if_false]
    exact ⟨trivial, fun q e => by cases e⟩
theorem su {α β : Type} {f g : α → Option β} : ∀ l : List α, (∀ x ∈ l, f x = g x) → l.filterMap f = l.filterMap g
 | [], _ => rfl
 | x :: r, h => by rw [List.filterMap_cons, List.filterMap_cons, h x List.mem_cons_self, su r fun y hy => h y (List.mem_cons_of_mem _ hy)]
theorem UnH.dep (h : UnH p init last sz) (hi : i ≤ init.length) (hii : (i = i' ∧ i < init.length) ∨ (i = init.length ∧ i' = init.length + 2)) : iZ (unM p init last sz) i' = iZ p i ∧ ∀ q ∈ iZ p i, q.1 < init.length := by
 have hlt : i < p.stmts.length := by rw [(lens h).1]; omega
 have hx : aV (unM p init last sz) (i' : Int) = aV p (i : Int) := by
  rcases hii with ⟨rfl, hi⟩ | ⟨rfl, rfl⟩
  ·exact Fq h hi
  ·exact (oK h).1.trans (oK h).2.symm
 have hq : ∀ x ∈ au (aV p (i : Int)), _ := fun x hx => h.depx (i' := i') hi (hii.imp (fun e => e.1) id) (yA h.res hlt hx)
 constructor
 ·rw [iZ, iZ, hx]
  exact su _ fun x hx => (hq x hx).1
 ·intro q hm
  obtain ⟨x, hx, e⟩ := List.mem_filterMap.1 hm
  exact (hq x hx).2 q e
theorem Age.move {dep dep' : Graph} {n : Nat} (h : ∀ k, k < n → dep' k = dep k ∧ ∀ q ∈ dep k, q.1 < n) {k : Nat} {v : Int} (ha : Age dep k v) : k < n → Age dep' k v := by
 induction ha with
 | mk i val ha ih =>
  intro hk
  obtain ⟨e, hq⟩ := h i hk
  rw [← e]
  refine .mk i val fun q hm => ?_
  rw [e] at hm
  exact ih q hm (hq q hm)
theorem Age.top {dep dep' : Graph} {n k k' : Nat} (h : ∀ k, k < n → dep' k = dep k ∧ ∀ q ∈ dep k, q.1 < n) (hk : dep' k' = dep k ∧ ∀ q ∈ dep k, q.1 < n) {v : Int} (ha : Age dep k v) : Age dep' k' v := by
 obtain ⟨val, h1, rfl⟩ := ha.inv
 rw [← hk.1]
 refine .mk k' val fun q hm => ?_
 rw [hk.1] at hm
 exact (h1 q hm).move h (hk.2 q hm)
theorem UnH.mem (h : UnH p init last sz) (hq : Res (unM p init last sz)) : oJ (unM p init last sz) = oJ p := by
 obtain ⟨l1, l2⟩ := lens h
 have a1 : ∀ k, k < init.length → iZ (unM p init last sz) k = iZ p k ∧ ∀ q ∈ iZ p k, q.1 < init.length := fun k hk => h.dep (by omega) (.inl ⟨rfl, hk⟩)
 have a2 := h.dep (i := init.length) (i' := init.length + 2) (Nat.le_refl _) (.inr ⟨rfl, rfl⟩)
 have e1 : p.stmts.length - 1 = init.length := by omega
 have e2 : (unM p init last sz).stmts.length - 1 = init.length + 2 := by omega
 by_cases hv : ∃ v, Age (iZ p) init.length v
 ·obtain ⟨v, hv⟩ := hv
  rw [CB (mJ h.res) (by omega) (by rw [e1]; exact hv), CB (mJ hq) (by omega) (by rw [e2]; exact hv.top a1 a2)]
 ·rw [vZ (mJ h.res) (by omega) (by rw [e1]; exact hv), vZ (mJ hq) (by omega)]
  rw [e2]
  rintro ⟨v, ha⟩
  exact hv ⟨v, ha.top (fun k hk => ⟨(a1 k hk).1.symm, by rw [(a1 k hk).1]; exact (a1 k hk).2⟩) ⟨a2.1.symm, by rw [a2.1]; exact a2.2⟩⟩
end Go.Fw.Tl
namespace Go.Fw.Tl
open Go.Fw Go.Fw.Ref15 Go.Fw.Rg
set_option maxRecDepth 100000
variable [af]
abbrev ZX (n : Int) : Ex := ⟨1, [], 0, n, []⟩
structure uw (q p : Pr) : Prop where
 nm : q.name = p.name
 la : q.latency = p.latency
 ta : q.tail = p.tail
 par : q.params = p.params
 sta : q.states = p.states
 tab : q.tables = p.tables
 stm : q.stmts = p.stmts
 lin : q.lines.length = p.lines.length
 at_ : ∀ i : Nat, (q.lines.getD i Ln.none).lo = (p.lines.getD i Ln.none).lo ∧ (q.lines.getD i Ln.none).hi = (p.lines.getD i Ln.none).hi
 lnm : Ref15.lines q = Ref15.lines p
 lok : L6 q.lines = true
 siz : q.lines.all nS = true
variable {q p : Pr}
theorem uw.value (h : uw q p) (b : Nat) (nm : Str) : value q nm b = value p nm b := by
 have e : given q nm b = given p nm b := by simp only [given, h.stm]
 rw [Ref15.value, Ref15.value, e, h.par, h.sta]
theorem uw.resolved (h : uw q p) (b : Nat) : ∀ x, resolved q b x = resolved p b x := by
 refine Ex.ind fun x ih => ?_
 have hL : ∀ l : List Ex, (∀ y ∈ l, y ∈ x.l) → aN q b l = aN p b l := by
  intro l
  induction l with
  | nil => intro _; rfl
  | cons y r ihr =>
   intro hl
   rw [aN, aN, ih y (hl y (by simp)), ihr fun z hz => hl z (by simp [hz])]
 rw [dh, dh, h.value, hL x.l fun _ h => h]
 have : dN q x = dN p x := by simp only [dN, Ref15.tables, h.lnm, h.tab]
 rw [this]
theorem uw.resL (h : uw q p) : ∀ (r : List Sm) (i : Nat) (out : Bool), aF q r i out = aF p r i out
 | [], i, out => by rw [aF, aF]
 | s :: r, i, out => by
  have e1 : aX q s = aX p s := by simp only [aX, h.lnm, h.sta]
  have e2 : again q i s = again p i s := by simp only [again, h.stm]
  rw [aF, aF, h.resolved, e1, e2, h.resL r]
theorem uw.find (h : uw q p) (F : List Sp) : ∀ x, bJ q F x = bJ p F x := by
 refine Ex.ind fun x ih => ?_
 have hL : ∀ l : List Ex, (∀ z ∈ l, z ∈ x.l) → bD q F l = bD p F l := by
  intro l
  induction l with
  | nil => intro _; rfl
  | cons z r ihr =>
   intro hl
   rw [bD, bD, ih z (hl z (by simp)), ihr fun w hw => hl w (by simp [hw])]
 rw [dF, dF, hL x.l fun _ h => h]
 cases bD p F x.l with
 | error e => rfl
 | ok l =>
  have e8 := h.at_ x.index.toNat
  have e1 : gK q x.index = gK p x.index := by show q.params.getD _ _ = _; rw [h.par]
  have e2 : aT q x.index = aT p x.index := by show q.states.getD _ _ = _; rw [h.sta]
  have e3 : aC q x.index = aC p x.index := by show (q.tables.getD _ _).values = _; rw [h.tab]
  have e4 : (aU q x.index).lo = (aU p x.index).lo := e8.1
  have e5 : (aU q x.index).hi = (aU p x.index).hi := e8.2
  simp only [opM, e1, e2, e3, e4, e5]
theorem uw.stms (h : uw q p) : ∀ (r : List Sm) (F : List Sp), stmtsM q r F = stmtsM p r F
 | [], F => by rw [stmtsM, stmtsM]
 | s :: r, F => by
  have e : ∀ f, within q s f = within p s f := by
   intro f
   have e8 := h.at_ s.index.toNat
   have e2 : aT q s.index = aT p s.index := by show q.states.getD _ _ = _; rw [h.sta]
   have e4 : (aU q s.index).lo = (aU p s.index).lo := e8.1
   have e5 : (aU q s.index).hi = (aU p s.index).hi := e8.2
   have : dI q s = dI p s := by simp only [dI, e2, e4, e5]
   rw [within, within, this]
  rw [stmtsM, stmtsM, h.find]
  cases bJ p F s.x with
  | error e => rfl
  | ok f => simp only [e]; rw [h.stms r]
theorem uw.bnd (h : uw q p) (hz : (ak p).2 = 0) : (ak q).2 = 0 := by
 obtain ⟨h1, h2⟩ := aY hz
 have hr := iL h2
 have hdec : bu q = bu p := by simp only [bu, h.par, h.sta, h.lnm, Ref15.tables, h.tab, h.stm]
 have hR : Res q := by
  refine ⟨?_, ?_, by rw [h.nm]; exact hr.nm, by rw [hdec]; exact hr.dn, by rw [hdec]; exact hr.un, ?_, ?_⟩
  ·have := hr.fo; simp only [Formed, h.stm] at this ⊢; exact this
  ·have := hr.li
   rw [limited_eq] at this ⊢
   simp only [few, memOk, h.par, h.sta, h.lin, h.tab, h.stm, h.la, h.ta, h.siz, Bool.and_eq_true] at this ⊢
   obtain ⟨a, _, c⟩ := this
   exact ⟨a, trivial, c⟩
  ·have := hr.ra
   rw [ranged_eq] at this ⊢
   simp only [h.par, h.sta, h.tab, h.stm, h.lok, Bool.and_eq_true] at this ⊢
   obtain ⟨a, b, _, c⟩ := this
   exact ⟨a, b, trivial, c⟩
  ·rw [h.resL, h.stm]; exact hr.ru
 have h3 : stmtsM q q.stmts [] = .ok (ak p).1 := by rw [h.stms, h.stm]; exact h1.run
 rw [jI (rV hR) h3]
end Go.Fw.Tl
namespace Go.Fw.Tl
open Go.Fw Go.Fw.Ref15 Go.Fw.Rg
variable [af]
mutual
def ndM : Ex → Int → Int → Int
 | .mk _ _ _ _ l, d, most => if (bif d == 0 then decide ((l.length : Int) > 0) else false) = true then most + 1 else mm2 false (ndL l d most 1) (most + 1)
def ndL : List Ex → Int → Int → Int → Int
 | [], _, _, n => n
 | y :: r, d, most, n => if n ≤ most then ndL r d most (n + ndM y (d - 1) most) else n
end
theorem QW (x : Ex) (d most : Int) : ndM x d most = if (bif d == 0 then decide ((x.l.length : Int) > 0) else false) = true then most + 1 else mm2 false (ndL x.l d most 1) (most + 1) := by cases x; rw [ndM]; rfl
theorem ZZ {most : Int} (hm : 0 ≤ most) : ∀ (x : Ex) (d : Int), 1 ≤ ndM x d most ∧ ndM x d most ≤ most + 1 := by
 refine Ex.ind fun x ih d => ?_
 have hL : ∀ l : List Ex, (∀ y ∈ l, y ∈ x.l) → ∀ n, 1 ≤ n → 1 ≤ ndL l d most n := by
  intro l
  induction l with
  | nil => intro _ n h; rw [ndL]; exact h
  | cons y r ihr =>
   intro hl n h
   rw [ndL]
   split
   ·have := (ih y (hl y (by simp)) (d - 1)).1
    exact ihr (fun z hz => hl z (by simp [hz])) _ (by omega)
   ·exact h
 rw [QW]
 split
 ·omega
 ·have := hL x.l (fun _ h => h) 1 (Int.le_refl _)
  rw [Fg]; split <;> omega
def z0u (p : Pr) : Bool := bif (bif (bif (bif decide ((p.stmts.length : Int) > 14) then true else decide ((p.params.length : Int) > 18)) then true else decide ((p.states.length : Int) > 18)) then true else decide ((p.lines.length : Int) > 18)) then true else decide ((p.tables.length : Int) > 18)
def y8 (s : Sm) : Bool := !decide (ndM s.x 12 40 > 40)
def yG (t : Tb) : Bool := !decide ((t.values.length : Int) > 40)
def FB (p : Pr) : Bool := if z0u p = true then false else if p.stmts.all y8 then p.tables.all yG else false
abbrev Z4 : Int := -2147483648
abbrev Z5 : Int := 2147483647
abbrev sX : Ex := ⟨4, [115], 0, 0, []⟩
abbrev z2x (l : List Ex) : Ex := ⟨10, [], 0, 0, [⟨15, [], 0, 0, l⟩]⟩
abbrev YJ (nm : Str) (i n : Int) : Ex := ⟨8, nm, i, 0, [⟨1, [], 0, n, []⟩]⟩
abbrev outS (x : Ex) : Sm := ⟨4, [], 0, x⟩
def VO (l : List Sm) : Pr := ⟨[112], 0, -1, [], [⟨[115], Z4, Z5⟩], [⟨[100], 3, Z4, Z5⟩], [], l⟩
end Go.Fw.Tl
namespace Go.Fw.Tl
open Go.Fw Go.Fw.Ref15 Go.Fw.Rg
variable [af] {p : Pr}
def QX (p : Pr) (n : Int) (x : Ex) (j : Nat) : Int := ((au x).take j).foldl (latX p) n
theorem UC (p : Pr) (n : Int) (s : Sm) : QX p n s.x (au s.x).length = Dq p n s := by rw [QX, List.take_length]; rfl
theorem FC {n : Int} {x : Ex} {j : Nat} (hj : j < (au x).length) : QX p n x (j + 1) = latX p (QX p n x j) ((au x).getD j Ex.none) := by
 rw [QX, List.take_add_one, List.getElem?_eq_getElem hj, List.foldl_append, List.getD_eq_getElem?_getD, List.getElem?_eq_getElem hj]; rfl
theorem Z7 {n : Int} {x : Ex} {j : Nat} (hj : j < (au x).length) (hk : looks ((au x).getD j Ex.none) = false) : QX p n x (j + 1) = QX p n x j := by
 rw [FC hj, latX, hk]; rfl
theorem XV {F : List Sp} (h : BOk p F) (g : dA p) {i : Nat} {s : Sm} {r : List Sm} (hd : p.stmts.drop i = s :: r) {n : Int} {j : Nat} (hj : j < (au s.x).length) (hk : looks ((au s.x).getD j Ex.none) = true) :
  ∃ z t, ((au s.x).getD j Ex.none).l = [z] ∧ dm p z = .ok t ∧ Ref15.nodes z ≤ 1073741824 ∧ QX p n s.x (j + 1) = mm2 true (QX p n s.x j) t.2 := by
 have hi : i < p.stmts.length := by
  have := congrArg List.length hd
  simp only [List.length_drop, List.length_cons] at this; omega
 have hs : p.stmts[i]? = some s := by
  have := congrArg (fun l => l[0]?) hd
  simpa using this
 have hx : aV p (i : Int) = s.x := jF hs
 have hm : (au s.x).getD j Ex.none ∈ au s.x := by
  rw [List.getD_eq_getElem?_getD, List.getElem?_eq_getElem hj]; exact List.getElem_mem hj
 obtain ⟨hl, t, h1, _⟩ := look_ok h hi (by rw [hx]; exact hm) hk
 rw [FC hj]
 generalize (au s.x).getD j Ex.none = y at *
 obtain ⟨z, hz⟩ : ∃ z, y.l = [z] := by
  cases e : y.l with
  | nil => rw [e] at hl; cases hl
  | cons a q => cases q with
   | nil => exact ⟨a, rfl⟩
   | cons b q => rw [e] at hl; simp at hl
 have e1 : y.l.getD 0 Ex.none = z := by rw [hz]; rfl
 rw [e1] at h1
 refine ⟨z, t, hz, h1, ?_, ?_⟩
 ·have a1 := yB s.x y hm
  have a2 := g.hn s (List.mem_of_getElem? hs)
  have a3 : Ref15.nodes z ≤ Ref15.nodes y := by
   rw [Ref15.nodes_eq y, hz]; simp [Ref15.nodesL]
  omega
 ·rw [latX, hk, e1, hiM, h1]; rfl
theorem UD {y z : Ex} (h : y.l = [z]) : 0 ≤ (0 : Int) ∧ (Ex.css y.l)[(0 : Int).toNat]? = some (Ex.cs z) := by
 rw [h, Ex.css_eq]; exact ⟨Int.le_refl _, rfl⟩
theorem QY (g : GOk p) (hn : 0 < p.stmts.length) : (∃ v s', oI p (aH p) (p.stmts.length + 1) ⟨[], []⟩ ((p.stmts.length : Int) - 1) = .ok v s') ∨ (∃ t, oI p (aH p) (p.stmts.length + 1) ⟨[], []⟩ ((p.stmts.length : Int) - 1) = .pan t) := by
 have hc : ((p.stmts.length : Int) - 1) = ((p.stmts.length - 1 : Nat) : Int) := by omega
 rcases JR g (p.stmts.length + 1) ⟨[], []⟩ (p.stmts.length - 1) (by omega) ⟨fun k v h => by simp [lkA] at h⟩ (fun o h => by simp [fE, lkA] at h) (by
  have := List.countP_le_length (p := fun k => !fE ⟨[], []⟩ (k : Nat)) (l := List.range p.stmts.length)
  rw [List.length_range] at this
  exact Nat.lt_succ_of_le this) with ⟨w, s', e1, _⟩ | ⟨⟨t, e1⟩, _⟩
 ·rw [hc]; exact .inl ⟨w, s', e1⟩
 ·rw [hc]; exact .inr ⟨t, e1⟩
theorem z1t (p : Pr) : (iO p).2 = (ak p).2 := by
 unfold iO; split
 ·rfl
 ·rename_i h; have h : (ak p).2 = 0 := by simpa using h
  rw [h]
theorem z1u (p : Pr) : (lD p).2 = (ak p).2 := by
 unfold lD; split
 ·rfl
 ·rename_i h; have h : (ak p).2 = 0 := by simpa using h
  rw [h]
theorem XW (h : (ak p).2 = 0) : iO p = (latM p, 0) := by rw [iO, h]; rfl
theorem XX (h : (ak p).2 = 0) : lD p = (oJ p, 0) := by rw [lD, h]; rfl
end Go.Fw.Tl
namespace Go.Fw.Tl
open Go.Fw Go.Fw.Ref15 Go.Fw.Rg
variable [af]
def unB (e a b c : Int) : Bool := bif e == e then (bif (bif (bif decide (a > 16) then true else decide (b > 16)) then true else decide (c > 64)) then true else e == 151) else false
theorem Z9 {q : Pr} (h : few q = false) (h1 : q.params.length ≤ 16) (h2 : q.tables.length ≤ 16) : 16 < q.states.length ∨ 16 < q.lines.length ∨ 64 < q.stmts.length := by
 unfold few at h
 by_cases c1 : 16 < q.states.length
 ·exact .inl c1
 ·by_cases c2 : 16 < q.lines.length
  ·exact .inr (.inl c2)
  ·by_cases c3 : 64 < q.stmts.length
   ·exact .inr (.inr c3)
   ·rw [decide_eq_false (show ¬ (q.params.length : Int) > 16 by omega), decide_eq_false (show ¬ (q.states.length : Int) > 16 by omega), decide_eq_false (show ¬ (q.lines.length : Int) > 16 by omega), decide_eq_false (show ¬ (q.tables.length : Int) > 16 by omega), decide_eq_false (show ¬ (q.stmts.length : Int) > 64 by omega)] at h
    exact Bool.noConfusion h
theorem z0a {p : Pr} {init : List Sm} {last : Sm} {sz : Nat} (h : UnH p init last sz) (hb : (ak p).2 = 0) (hq : (ak (unM p init last sz)).2 ≠ 0) : unB (ak (unM p init last sz)).2 ((unM p init last sz).states.length : Nat) ((unM p init last sz).lines.length : Nat) ((unM p init last sz).stmts.length : Nat) = true := by
 have hl := XF h.res
 unfold unB
 rw [beq_self_eq_true, cond_true]
 rcases h.err hb with e | e | e
 ·rcases Z9 e hl.1.1 hl.1.2.2.2.1 with c | c | c
  ·rw [decide_eq_true (show (((unM p init last sz).states.length : Nat) : Int) > 16 by omega)]; rfl
  ·rw [decide_eq_true (show (((unM p init last sz).lines.length : Nat) : Int) > 16 by omega)]
   cases decide (((unM p init last sz).states.length : Int) > 16) <;> rfl
  ·rw [decide_eq_true (show (((unM p init last sz).stmts.length : Nat) : Int) > 64 by omega)]
   cases decide (((unM p init last sz).states.length : Int) > 16) <;> cases decide (((unM p init last sz).lines.length : Int) > 16) <;> rfl
 ·rw [e]
  cases decide (((unM p init last sz).states.length : Int) > 16) <;> cases decide (((unM p init last sz).lines.length : Int) > 16) <;> cases decide (((unM p init last sz).stmts.length : Int) > 64) <;> rfl
 ·have := (aY hb).1
  obtain ⟨G, hG, _⟩ := h.bok this e
  exact absurd (Kr hG) hq
theorem z1v {p : Pr} {init : List Sm} {last : Sm} {sz : Nat} (h : UnH p init last sz) (hb : (ak p).2 = 0) (hq : (ak (unM p init last sz)).2 = 0) : latM (unM p init last sz) = latM p ∧ oJ (unM p init last sz) = oJ p := by
 have hr := iL (aY hq).2
 obtain ⟨G, hG, h2⟩ := h.bok (aY hb).1 hr
 exact ⟨h.lat (aY hb).1 hG h2, h.mem hr⟩
end Go.Fw.Tl
namespace Go.Fw.Tl
open Go.Fw Go.Fw.Ref15 Go.Fw.Rg
variable [af] {init : List Sm} {p : Pr} {s : Sm}
abbrev y9 (p : Pr) : Int := IntKind.i64.wrap (((p.stmts.map Sm.cs).length : Int) - 1)
abbrev z0v (p : Pr) (last : Sm) (sz : Nat) : D := .agg [.str p.name, .i p.latency, .i p.tail, .sl 3 (p.params.map Bd.cs), .sl 3 (p.states.map Bd.cs ++ [[.str uS, .i (-2147483648), .i 2147483647]]), .sl 4 (p.lines.map Ln.cs ++ [[.str vS, .i (IntKind.i64.wrap (1 + IntKind.i64.wrap (sz : Int))), .i (-2147483648), .i 2147483647]]), .sl 2 (p.tables.map Tb.cs), .sl 8 (cut none (some (y9 p)) (p.stmts.map Sm.cs) ++ [[.i 2, .str uS, .i ((p.states.map Bd.cs).length : Nat), .i 4, .str uS, .i ((p.states.map Bd.cs).length : Nat), .i 0, .sl 5 []], [.i 3, .str vS, .i ((p.lines.map Ln.cs).length : Nat), .i 6, .str [], .i 0, .i 0, .sl 5 [[.i 1, .str [], .i 0, .i 0, .sl 5 []]]], Sm.cs last])]
theorem ww (hp : p.stmts = init ++ [s]) (hl : p.stmts.length ≤ 67108864) : y9 p = ((init.length : Nat) : Int) := by
 rw [y9, List.length_map, bC (by rw [hp]; simp) (by omega), hp]; simp
theorem X4 {sz : Nat} (hp : p.stmts = init ++ [s]) (hl : p.stmts.length ≤ 67108864) (hz : sz ≤ 255) : (unM p init s sz).d = z0v p s sz := by
 rw [z0v, ww hp hl, hp]
 have : cut none (some ((init.length : Nat) : Int)) ((init ++ [s]).map Sm.cs) = init.map Sm.cs := by simp [cut]
 rw [this, bC (n := (sz : Int)) (by omega) (by omega), bC (n := 1 + (sz : Int)) (by omega) (by omega), List.length_map, List.length_map]
 show D.agg [_, _, _, _, .sl 3 ((p.states ++ [(⟨uS, -2147483648, 2147483647⟩ : Bd)]).map Bd.cs), .sl 4 ((p.lines ++ [(⟨vS, 1 + (sz : Int), -2147483648, 2147483647⟩ : Ln)]).map Ln.cs), _, .sl 8 ((init ++ [uSm p.states.length, vSm p.lines.length, s]).map Sm.cs)] = _
 rw [List.map_append, List.map_append, List.map_append]; rfl
theorem QZ (hp : p.stmts = init ++ [s]) (hl : p.stmts.length ≤ 67108864) : 0 ≤ y9 p ∧ (p.stmts.map Sm.cs)[(y9 p).toNat]? = some (Sm.cs s) := by
 rw [ww hp hl, hp]; exact ⟨Int.natCast_nonneg _, by simp⟩
theorem yH (hp : p.stmts = init ++ [s]) (hl : p.stmts.length ≤ 67108864) : 0 ≤ y9 p ∧ y9 p ≤ ((p.stmts.map Sm.cs).length : Int) := by
 rw [ww hp hl, hp]; simp; omega
theorem z0b (hp : p.stmts = init ++ [s]) (hl : p.stmts.length ≤ 67108864) : (cut none (some (y9 p)) (p.stmts.map Sm.cs)).length ≤ 67108864 := by
 have := yH hp hl
 rw [cut, List.length_take]; simp only [List.length_drop, List.length_map] at this ⊢; omega
theorem z1w (h0 : p.stmts = []) (h : (bif !FB p then true else (((p.stmts.map Sm.cs).length : Nat) : Int) == 0) = false) : False := by
 rw [h0] at h
 cases hf : FB p <;> rw [hf] at h <;> exact Bool.noConfusion h
theorem Kv {sz : Nat} : ((unM p init s sz).states.length : Nat) = p.states.length + 1 ∧ ((unM p init s sz).lines.length : Nat) = p.lines.length + 1 ∧ ((unM p init s sz).stmts.length : Nat) = init.length + 3 := by
 refine ⟨?_, ?_, ?_⟩ <;> simp [unM]
theorem X5 {sz : Nat} (hp : p.stmts = init ++ [s]) (hs : p.states.length ≤ 16 ∧ p.lines.length ≤ 16 ∧ p.stmts.length ≤ 64) (g : dA p) : dA (unM p init s sz) := by
 have hl := Kv (p := p) (init := init) (s := s) (sz := sz)
 have hl2 : p.stmts.length = init.length + 1 := by rw [hp]; simp
 refine ⟨⟨g.sm.params, by omega, by omega, g.sm.tables, by omega⟩, fun t ht => ?_, g.hT⟩
 have ht : t ∈ init ++ [uSm p.states.length, vSm p.lines.length, s] := ht
 rcases List.mem_append.1 ht with ht | ht
 ·exact g.hn t (by rw [hp]; simp [ht])
 ·simp only [List.mem_cons, List.not_mem_nil, or_false] at ht
  rcases ht with rfl | rfl | rfl
  ·show (1 : Nat) ≤ _; decide
  ·show (2 : Nat) ≤ _; decide
  ·exact g.hn t (by rw [hp]; simp)
end Go.Fw.Tl
