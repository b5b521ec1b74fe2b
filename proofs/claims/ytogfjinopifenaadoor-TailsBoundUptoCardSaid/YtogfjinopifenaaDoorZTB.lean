/- Package tails in plain words: the law Bound: greater declarations. -/
import Derived.Test.YtogfjinopifenaaDoorZTA
set_option linter.unusedSectionVars false
set_option linter.unusedSimpArgs false
set_option linter.unusedVariables false
namespace Go.Fw.Tl
open Go.Fw Go.Fw.Ref15 Go.Fw.Rg
variable [GlobInt] {p : Pr} {a b : Int}
def tlM (p : Pr) (a b : Int) : Pr := { p with latency := a, tail := b }
theorem Dw (p : Pr) (a b : Int) : xZ (tlM p a b) p := ⟨rfl, rfl, rfl, rfl⟩
theorem Ji (h : Res p) (ha : 0 ≤ a ∧ a ≤ 4096) (hb : -1 ≤ b ∧ b ≤ 1048576) : Res (tlM p a b) := by
 refine ⟨h.fo, ?_, h.nm, h.dn, h.un, h.ra, ?_⟩
 ·have := h.li
  rw [limited_eq] at this ⊢
  simp only [Bool.and_eq_true] at this ⊢
  obtain ⟨a', b', c', d', e'⟩ := this
  refine ⟨a', b', c', d', ?_⟩
  show (decide (a ≥ 0) && decide (a ≤ 4096) && decide (b ≥ -1) && decide (b ≤ 1048576)) = true
  simp only [Bool.and_eq_true, decide_eq_true_eq]; omega
 ·rw [jV (Dw p a b) rfl]; exact h.ru
theorem A7 (h : (ai p).2 = 0) (ha : 0 ≤ a ∧ a ≤ 4096) (hb : -1 ≤ b ∧ b ≤ 1048576) : ai (tlM p a b) = ai p := by
 obtain ⟨h1, h2⟩ := aO h
 have h3 : stmtsM (tlM p a b) (tlM p a b).stmts [] = .ok (ai p).1 := by
  rw [mJ (q := tlM p a b) (p := p) rfl rfl rfl rfl]; exact h1.run
 rw [fD (jS (Ji (dO h2) ha hb)) h3]
 exact Prod.ext rfl h.symm
theorem Dx (p : Pr) (a b : Int) (x : Ex) : mD (tlM p a b) x = mD p x := by kernel_rfl
theorem Jj (h : (ai p).2 = 0) (ha : 0 ≤ a ∧ a ≤ 4096) (hb : -1 ≤ b ∧ b ≤ 1048576) (x : Ex) : bn (tlM p a b) x = bn p x := by
 rw [bn, bn, A7 h ha hb, Dx, oC (q := tlM p a b) (p := p) rfl rfl rfl rfl]
theorem qA {α β : Type} {f g : β → α → β} (h : ∀ n x, f n x = g n x) : ∀ (l : List α) (n : β), l.foldl f n = l.foldl g n
 | [], _ => rfl
 | x :: r, n => by rw [List.foldl_cons, List.foldl_cons, h, qA h r]
theorem ES (h : (ai p).2 = 0) (ha : 0 ≤ a ∧ a ≤ 4096) (hb : -1 ≤ b ∧ b ≤ 1048576) : latM (tlM p a b) = latM p := by
 show p.stmts.foldl (qU (tlM p a b)) 0 = p.stmts.foldl (qU p) 0
 refine qA (fun n s => ?_) _ _
 refine qA (fun n x => ?_) _ _
 rw [latX, latX, hiM, hiM, Jj h ha hb]
theorem ET (p : Pr) (a b : Int) : ji (tlM p a b) = ji p := by kernel_rfl
def minL (p : Pr) (c : Nat) : Int := mm2 false 4096 (p.latency + c)
def minT (p : Pr) (d : Nat) : Int := if decide (p.tail ≥ 0) = true then mm2 false 1048576 (p.tail + d) else p.tail
theorem lL (h : (ai p).2 = 0) : dF p = 0 ↔ latM p ≤ p.latency ∧ (p.tail = -1 ∨ (ji p ≠ -1 ∧ ji p ≤ p.tail)) := by
 rw [dF, h]
 simp only [bne_self_eq_false, Bool.false_eq_true, if_false]
 split
 ·rename_i h1
  simp only [show ¬ (170 : Int) = 0 by decide, false_iff]; omega
 ·rename_i h1
  split
  ·rename_i h2
   simp only [Bool.and_eq_true, bne_iff_ne, ne_eq, Bool.or_eq_true, beq_iff_eq, decide_eq_true_eq] at h2
   simp only [show ¬ (171 : Int) = 0 by decide, false_iff]; omega
  ·rename_i h2
   simp only [Bool.and_eq_true, bne_iff_ne, ne_eq, Bool.or_eq_true, beq_iff_eq, decide_eq_true_eq] at h2
   simp only [true_iff]; omega
theorem Dy (h : (ai p).2 ≠ 0) : dF p = (ai p).2 := by
 rw [dF, if_pos (by simpa using h)]
theorem yt (h : dF p = 0) : (ai p).2 = 0 := by
 by_cases h0 : (ai p).2 = 0
 ·exact h0
 ·rw [Dy h0] at h; exact h
theorem sQ (a b : Int) : mm2 false a b = if b < a then b else a := rfl
theorem xk (h : dF p = 0) (c d : Nat) : dF (tlM p (minL p c) (minT p d)) = 0 := by
 have h0 := yt h
 have hr := dO (aO h0).2
 have hl := Gs hr
 have hi := ED (aO h0).1
 have ha : 0 ≤ minL p c ∧ minL p c ≤ 4096 := by rw [minL, sQ]; split <;> omega
 have hb : -1 ≤ minT p d ∧ minT p d ≤ 1048576 := by
  rw [minT]; split
  ·rename_i q; rw [sQ]; have := of_decide_eq_true q; split <;> omega
  ·omega
 have h2 := (lL h0).1 h
 refine (lL (by rw [A7 h0 ha hb]; exact h0)).2 ?_
 rw [ES h0 ha hb, ET]
 refine ⟨?_, ?_⟩
 ·show latM p ≤ minL p c
  rw [minL, sQ]; split <;> omega
 ·show minT p d = -1 ∨ (ji p ≠ -1 ∧ ji p ≤ minT p d)
  rw [minT]; split
  ·rename_i q; have := of_decide_eq_true q; rw [sQ]; split <;> omega
  ·rename_i q; rcases h2.2 with e | e
   ·exact .inl e
   ·exact .inr e
def jC : List Ln → Int → Int
 | [], n => n
 | l :: r, n => jC r (n + l.size)
def qB (p : Pr) : Int := jC p.lines p.states.length
theorem mW : ∀ (l : List Ln) (n : Int), jC l n = n + jC l 0
 | [], n => by simp [jC]
 | x :: r, n => by rw [jC, jC, mW r (n + x.size), mW r (0 + x.size)]; omega
theorem oN (x : Ln) : ∀ (l : List Ln) (n : Int), jC (l ++ [x]) n = jC l n + x.size
 | [], n => rfl
 | y :: r, n => by rw [List.cons_append, jC, jC, oN x r]
theorem sumW_snoc (wt : Nat → Int) (k : Nat) : ∀ l : List Nat, sumW wt (l ++ [k]) = sumW wt l + wt k
 | [] => by simp [sumW]
 | j :: r => by rw [List.cons_append, bu, bu, sumW_snoc wt k r]; omega
theorem sS (p : Pr) : ∀ k, k ≤ p.lines.length → (∀ l ∈ p.lines, 1 ≤ l.size) → sumW (lsz p) (List.range k) = jC (p.lines.take k) 0
 | 0, _, _ => rfl
 | k + 1, hk, h => by
  obtain ⟨l, hl⟩ := iM (l := p.lines) (i := k) (by omega)
  have hz := h l (List.mem_of_getElem? hl)
  rw [List.range_succ, sumW_snoc, sS p k (by omega) h]
  have e : p.lines.take (k + 1) = p.lines.take k ++ [l] := by rw [List.take_add_one, hl]; rfl
  rw [e, oN, lsz, getD_of hl]
  unfold mm2; simp only; split <;> omega
theorem GI (h : Res p) : (p.states.length : Int) + sumW (lsz p) (List.range p.lines.length) = qB p := by
 rw [sS p _ (Nat.le_refl _) (fun l hl => ((Gs h).2.1 l hl).1), List.take_length, qB, mW p.lines (p.states.length : Int)]
theorem Jk (h : Res p) : -1 ≤ ji p ∧ ji p ≤ qB p := by
 have hm := GI h
 have h0 : 0 ≤ sumW (lsz p) (List.range p.lines.length) := by
  have : ∀ l : List Nat, 0 ≤ sumW (lsz p) l := by
   intro l
   induction l with
   | nil => exact Int.le_refl _
   | cons k r ih => have := kL p k; rw [bu]; omega
  exact this _
 by_cases hv : ∃ v, Age (dW p) (p.stmts.length - 1) v
 ·obtain ⟨v, hv⟩ := hv
  rw [qp (iO h) (uY h) hv]
  have := hv.nonneg
  have := EC h hv
  omega
 ·rw [lJ (iO h) (uY h) hv]; omega
end Go.Fw.Tl
namespace Go.Fw.Tl
open Go.Fw Go.Fw.Ref15 Go.Fw.Rg
variable [GlobInt]
abbrev uS : Str := [117, 110, 104, 101, 97, 114, 100]
abbrev vS : Str := [110, 101, 118, 101, 114]
abbrev A8 (k : Int) : Ex := ⟨4, uS, k, 0, []⟩
abbrev inX (n : Int) : Ex := ⟨6, [], 0, 0, [⟨1, [], 0, n, []⟩]⟩
abbrev uSm (k : Int) : Sm := ⟨2, uS, k, A8 k⟩
abbrev vSm (k : Int) : Sm := ⟨3, vS, k, inX 0⟩
def unM (p : Pr) (init : List Sm) (last : Sm) (sz : Nat) : Pr := { p with
 states := p.states ++ [⟨uS, -2147483648, 2147483647⟩]
 lines := p.lines ++ [⟨vS, 1 + (sz : Int), -2147483648, 2147483647⟩]
 stmts := init ++ [uSm p.states.length, vSm p.lines.length, last] }
theorem jW {n z : Str} (h : ¬ n = z) : ∀ (l : List Str) (i : Int), findFrom n (l ++ [z]) i = findFrom n l i
 | [], i => by
  have : (z == n) = false := by simpa using fun e : z = n => h e.symm
  simp [findFrom, this]
 | x :: r, i => by simp only [List.cons_append, findFrom, jW h r]
theorem eu {n z : Str} : ∀ (l : List Str) (i : Int), 0 ≤ i → 0 ≤ findFrom n l i → findFrom n (l ++ [z]) i = findFrom n l i
 | [], i, _, h => by simp [findFrom] at h
 | x :: r, i, hi, h => by
  simp only [List.cons_append, findFrom] at h ⊢
  split
  ·rfl
  ·rename_i hx
   rw [if_neg hx] at h
   exact eu r (i + 1) (by omega) h
theorem Dz {n : Str} {l : List Sm} (h : 0 ≤ givenFrom n l 0) : n ∈ lets l := by
 by_cases hm : n ∈ lets l
 ·exact hm
 ·rw [Nam.given_neg 0 hm] at h; exact absurd h (by decide)
theorem xm (l m : List Sm) : lets (l ++ m) = lets l ++ lets m := by simp [lets]
theorem DC {l m : List Sm} (h : ∀ s ∈ l, s ∈ m) {n : Str} (hn : n ∈ lets l) : n ∈ lets m := by
 simp only [lets, List.mem_map, List.mem_filter] at hn ⊢
 obtain ⟨s, ⟨h1, h2⟩, h3⟩ := hn
 exact ⟨s, ⟨h _ h1, h2⟩, h3⟩
structure UnH (p : Pr) (init : List Sm) (last : Sm) (sz : Nat) : Prop where
 st : p.stmts = init ++ [last]
 res : Res p
 sz : sz ≤ 255
variable {p : Pr} {init : List Sm} {last : Sm} {sz : Nat}
theorem xn {p : Pr} : ∀ (r : List Sm) (i : Nat) (out : Bool) (l : List Sm), ay p r i out = .ok l → ∀ s, r.getLast? = some s → (s.kind == 4) = true
 | [], _, _, _, _, s, h => by cases h
 | t :: r, i, out, l, h, s, hs => by
  rw [ay] at h
  split at h
  ·cases h
  ·split at h
   ·cases h
   ·split at h
    ·cases h
    ·cases hr : ay p r (i + 1) (t.kind == 4) with
     | error e => rw [hr] at h; cases h
     | ok m =>
      cases r with
      | nil =>
       have e : t = s := Option.some.inj hs
       subst e
       rw [ay] at hr
       cases hk : t.kind == 4 with
       | true => rfl
       | false => rw [hk] at hr; cases hr
      | cons a r => exact xn (a :: r) (i + 1) _ m hr s (by rw [List.getLast?_cons_cons] at hs; exact hs)
theorem UnH.out (h : UnH p init last sz) : (last.kind == 4) = true := by
 have := h.res.ru
 exact xn _ _ _ _ this last (by rw [h.st]; simp)
theorem UnH.kind (h : UnH p init last sz) : last.kind = 4 := by simpa using h.out
theorem UnH.decl (h : UnH p init last sz) : aQ (unM p init last sz) = bounds p.params ++ (bounds p.states ++ [uS]) ++ (Ref15.lines p ++ [vS]) ++ Ref15.tables p ++ lets p.stmts := by
 have e : lets (init ++ [uSm p.states.length, vSm p.lines.length, last]) = lets p.stmts := by
  rw [h.st, xm, xm]
  simp [lets, List.filter_cons, h.kind]
 simp only [aQ, unM, bounds, Ref15.lines, Ref15.tables, List.map_append, List.map_cons, List.map_nil, e]
theorem UnH.app (h : UnH p init last sz) {q : Str} {b b' : Nat} (hu : uS ∉ lets p.stmts) (hg : given (unM p init last sz) q b' = given p q b) (hv : (value p q b).2 = true) : value (unM p init last sz) q b' = value p q b := by
 have hgl : 0 ≤ given p q b → q ∈ lets p.stmts := fun hh => DC (fun s hs => List.mem_of_mem_take hs) (Dz hh)
 have e1 : (unM p init last sz).params = p.params := rfl
 have e2 : bounds (unM p init last sz).states = bounds p.states ++ [uS] := by simp [unM, bounds]
 simp only [value] at hv ⊢
 rw [e1, e2, hg]
 by_cases h1 : find (bounds p.params) q < 0
 ·simp only [decide_eq_true h1, if_true] at hv ⊢
  by_cases h2 : find (bounds p.states) q < 0
  ·simp only [decide_eq_true h2, if_true] at hv ⊢
   have hq := hgl (of_decide_eq_true hv)
   have hne : ¬ q = uS := fun e => hu (e ▸ hq)
   have : find (bounds p.states ++ [uS]) q = find (bounds p.states) q := jW hne _ _
   rw [this]
   simp only [decide_eq_true h2, if_true]
  ·have : find (bounds p.states ++ [uS]) q = find (bounds p.states) q := eu _ _ (Int.le_refl _) (by rw [find] at h2; omega)
   rw [this]
 ·rw [if_neg (by simpa using h1), if_neg (by simpa using h1)]
theorem UnH.at_ (h : UnH p init last sz) {j : Nat} {s : Sm} (hj : (unM p init last sz).stmts[j]? = some s) : (j < init.length ∧ p.stmts[j]? = some s) ∨ (j = init.length ∧ s = uSm p.states.length) ∨ (j = init.length + 1 ∧ s = vSm p.lines.length) ∨ (j = init.length + 2 ∧ s = last ∧ p.stmts[init.length]? = some s) := by
 have hj : (init ++ [uSm p.states.length, vSm p.lines.length, last])[j]? = some s := hj
 by_cases h1 : j < init.length
 ·rw [List.getElem?_append_left h1] at hj
  exact .inl ⟨h1, by rw [h.st, List.getElem?_append_left h1]; exact hj⟩
 ·rw [List.getElem?_append_right (by omega)] at hj
  obtain ⟨k, hk⟩ : ∃ k, j = init.length + k := ⟨j - init.length, by omega⟩
  subst hk
  rw [Nat.add_sub_cancel_left] at hj
  match k, hj with
  | 0, hj => cases hj; exact .inr (.inl ⟨rfl, rfl⟩)
  | 1, hj => cases hj; exact .inr (.inr (.inl ⟨rfl, rfl⟩))
  | 2, hj => cases hj; exact .inr (.inr (.inr ⟨rfl, rfl, by rw [h.st]; simp⟩))
  | k + 3, hj => simp at hj
end Go.Fw.Tl
namespace Go.Fw.Tl
open Go.Fw Go.Fw.Ref15 Go.Fw.Rg
variable [GlobInt] {F : List Sp} {i i' : Nat}
variable {p : Pr} {init : List Sm} {last : Sm} {sz : Nat}
theorem dY {α : Type} {l m : List α} {i : Nat} {d : α} (h : i < l.length) : (l ++ m).getD i d = l.getD i d := by
 rw [List.getD_eq_getElem?_getD, List.getD_eq_getElem?_getD, List.getElem?_append_left h]
theorem xq {α : Type} {l : List α} {a d : α} : (l ++ [a]).getD l.length d = a := by
 rw [List.getD_eq_getElem?_getD, List.getElem?_append_right (Nat.le_refl _), Nat.sub_self]; rfl
theorem qC {n : Nat} : ∀ x : Ex, wfX p n x = true → aV (unM p init last sz) F x = aV p F x := by
 refine Ex.ind fun x ih => ?_
 intro hw
 obtain ⟨g1, g2, g3⟩ := aZ hw
 have hL : ∀ l : List Ex, (∀ z ∈ l, z ∈ x.l) → aT (unM p init last sz) F l = aT p F l := by
  intro l
  induction l with
  | nil => intro _; rfl
  | cons z r ihr =>
   intro hl
   rw [aT, aT, ih z (hl z (by simp)) (ig g3 z (hl z (by simp))), ihr fun w hw => hl w (by simp [hw])]
 rw [bF, bF, hL x.l fun _ h => h]
 cases aT p F x.l with
 | error e => rfl
 | ok l =>
  simp only
  by_cases h4 : (x.kind == 4) = true
  ·have h0 := zU g2 h4
   rw [xY 4 h4, xY (p := p) 4 h4]
   have : aH (unM p init last sz) x.index = aH p x.index := dY (by omega)
   simp only [opM]
   rw [this]; rfl
  ·by_cases h8 : (x.kind == 8) = true
   ·have h0 := Et g2 h8
    rw [xY 8 h8, xY (p := p) 8 h8]
    have : aI (unM p init last sz) x.index = aI p x.index := dY (by omega)
    simp only [opM]
    rw [this]; rfl
   ·have h4 : (x.kind == 4) = false := by simpa using h4
    have h8 : (x.kind == 8) = false := by simpa using h8
    simp only [opM, h4, h8, Bool.false_eq_true, if_false]
    rfl
theorem sU {i : Nat} {s : Sm} (h : wfS p i s = true) (f : Sp) : within (unM p init last sz) s f = within p s f := by
 simp only [wfS, Bool.and_eq_true] at h
 have e : bG (unM p init last sz) s = bG p s := by
  simp only [bG]
  split
  ·rename_i h2
   have := h.2.1
   rw [h2] at this
   simp only [Bool.not_true, Bool.false_or, Bool.and_eq_true, decide_eq_true_eq] at this
   have : aH (unM p init last sz) s.index = aH p s.index := dY (by omega)
   rw [this]
  ·split
   ·rename_i h3
    have := h.2.2
    rw [h3] at this
    simp only [Bool.not_true, Bool.false_or, Bool.and_eq_true, decide_eq_true_eq] at this
    have : aI (unM p init last sz) s.index = aI p s.index := dY (by omega)
    rw [this]
   ·rfl
 rw [within, within, e]
theorem sV {p : Pr} : ∀ (a b : List Sm) (fs F : List Sp), stmtsM p (a ++ b) fs = .ok F → ∃ G, stmtsM p a fs = .ok G ∧ G.length = fs.length + a.length ∧ stmtsM p b G = .ok F
 | [], b, fs, F, h => ⟨fs, rfl, rfl, h⟩
 | s :: r, b, fs, F, h => by
  rw [List.cons_append, stmtsM] at h
  cases hf : aV p fs s.x with
  | error e => rw [hf] at h; cases h
  | ok f =>
   rw [hf] at h
   simp only at h
   split at h
   ·rename_i hw
    obtain ⟨G, h1, h2, h3⟩ := sV r b (fs ++ [f]) F h
    refine ⟨G, by rw [stmtsM, hf]; simp only; rw [if_pos hw]; exact h1, ?_, h3⟩
    simp only [List.length_append, List.length_cons, List.length_nil] at h2 ⊢; omega
   ·cases h
theorem EU : ∀ (r : List Sm) (i : Nat) (fs G : List Sp) (t : List Sm), iT p i r = true → stmtsM p r fs = .ok G → stmtsM (unM p init last sz) (r ++ t) fs = stmtsM (unM p init last sz) t G
 | [], i, fs, G, t, _, h => by rw [stmtsM] at h; cases h; rfl
 | s :: r, i, fs, G, t, hw, h => by
  have hws : wfS p i s = true := by simp only [iT, Bool.and_eq_true] at hw; exact hw.1
  rw [List.cons_append, stmtsM]
  rw [stmtsM] at h
  rw [qC s.x (rF hw)]
  cases hf : aV p fs s.x with
  | error e => rw [hf] at h; cases h
  | ok f =>
   rw [hf] at h
   simp only at h ⊢
   rw [sU hws]
   split at h
   ·rename_i hi
    rw [if_pos hi]; exact EU r (i + 1) _ G t (iE hw) h
   ·cases h
theorem xu {p : Pr} : ∀ (a b : List Sm) (i : Nat), iT p i (a ++ b) = true → iT p i a = true ∧ iT p (i + a.length) b = true
 | [], b, i, h => ⟨rfl, h⟩
 | s :: r, b, i, h => by
  simp only [List.cons_append, iT, Bool.and_eq_true] at h ⊢
  obtain ⟨h1, h2⟩ := xu r b (i + 1) h.2
  exact ⟨⟨h.1, h1⟩, by rwa [List.length_cons, show i + (r.length + 1) = i + 1 + r.length by omega]⟩
theorem UnH.run (h : UnH p init last sz) (hb : BOk p F) : ∃ G : List Sp, stmtsM (unM p init last sz) (unM p init last sz).stmts [] = .ok G ∧ ∀ j, j < init.length → G.getD j (0, 0) = F.getD j (0, 0) := by
 have hwf := hb.res.wf
 have hrun := hb.run
 rw [h.st] at hwf hrun
 obtain ⟨w1, w2⟩ := xu init [last] 0 hwf
 obtain ⟨G, h1, h2, h3⟩ := sV init [last] [] F hrun
 rw [Nat.zero_add] at w2
 have h2 : G.length = init.length := by simpa using h2
 have hl : wfX p init.length last.x = true := rF w2
 have hws : wfS p init.length last = true := by simp only [iT, Bool.and_eq_true] at w2; exact w2.1
 rw [stmtsM] at h3
 cases hf : aV p G last.x with
 | error e => rw [hf] at h3; cases h3
 | ok f =>
  rw [hf] at h3
  simp only at h3
  split at h3
  ·rename_i hi
   rw [stmtsM] at h3
   cases h3
   have st1 : aH (unM p init last sz) (p.states.length : Int) = ⟨uS, -2147483648, 2147483647⟩ := by
    show (p.states ++ [_]).getD ((p.states.length : Int).toNat) Bd.none = _
    rw [Int.toNat_natCast, xq]
   have ln1 : aI (unM p init last sz) (p.lines.length : Int) = ⟨vS, 1 + (sz : Int), -2147483648, 2147483647⟩ := by
    show (p.lines ++ [_]).getD ((p.lines.length : Int).toNat) Ln.none = _
    rw [Int.toNat_natCast, xq]
   have a1 : aV (unM p init last sz) G (A8 p.states.length) = .ok (-2147483648, 2147483647) := by
    rw [bF]
    show opM (unM p init last sz) G 4 (p.states.length : Int) 0 [] = _
    simp only [opM, st1]; rfl
   have a2 : aV (unM p init last sz) (G ++ [(-2147483648, 2147483647)]) (inX 0) = .ok (-2147483648, 2147483647) := rfl
   refine ⟨G ++ [(-2147483648, 2147483647), (-2147483648, 2147483647), f], ?_, fun j hj => ?_⟩
   ·show stmtsM (unM p init last sz) (init ++ [uSm p.states.length, vSm p.lines.length, last]) [] = _
    rw [EU init 0 [] G _ w1 h1, stmtsM]
    show (match aV (unM p init last sz) G (A8 p.states.length) with | .error e => Except.error e | .ok g => if within (unM p init last sz) (uSm p.states.length) g then stmtsM (unM p init last sz) [vSm p.lines.length, last] (G ++ [g]) else .error 161) = _
    rw [a1]
    simp only
    have b1 : within (unM p init last sz) (uSm p.states.length) (-2147483648, 2147483647) = true := by
     rw [within]
     have : bG (unM p init last sz) (uSm p.states.length) = (-2147483648, 2147483647) := by
      show ((aH (unM p init last sz) (p.states.length : Int)).lo, (aH (unM p init last sz) (p.states.length : Int)).hi) = _
      rw [st1]
     rw [this]; decide
    rw [if_pos b1, stmtsM]
    show (match aV (unM p init last sz) (G ++ [(-2147483648, 2147483647)]) (inX 0) with | .error e => Except.error e | .ok g => if within (unM p init last sz) (vSm p.lines.length) g then stmtsM (unM p init last sz) [last] (G ++ [(-2147483648, 2147483647)] ++ [g]) else .error 161) = _
    rw [a2]
    simp only
    have b2 : within (unM p init last sz) (vSm p.lines.length) (-2147483648, 2147483647) = true := by
     rw [within]
     have : bG (unM p init last sz) (vSm p.lines.length) = (-2147483648, 2147483647) := by
      show ((aI (unM p init last sz) (p.lines.length : Int)).lo, (aI (unM p init last sz) (p.lines.length : Int)).hi) = _
      rw [ln1]
     rw [this]; decide
    rw [if_pos b2, stmtsM]
    rw [qC last.x hl, mV (p := p) (n := init.length) (F := G ++ [(-2147483648, 2147483647)] ++ [(-2147483648, 2147483647)]) (G := G) (fun j hj => by rw [List.append_assoc, dY (by omega)]) last.x hl, hf]
    simp only
    rw [sU hws, if_pos hi, stmtsM]
    simp only [List.append_assoc]; rfl
   ·rw [dY (by omega), dY (by omega)]
  ·cases h3
theorem xw {p : Pr} (h : BOk p F) : (ai p).2 = 0 := by rw [fD (jS h.res) h.run]
theorem mX {α β : Type} {f g : β → α → β} : ∀ (l : List α) (n : β), (∀ x ∈ l, ∀ n, f n x = g n x) → l.foldl f n = l.foldl g n
 | [], _, _ => rfl
 | x :: r, n, h => by rw [List.foldl_cons, List.foldl_cons, h x List.mem_cons_self, mX r _ fun y hy => h y (List.mem_cons_of_mem _ hy)]
theorem sZ (h : UnH p init last sz) {i : Nat} (hi : i < init.length) : aJ (unM p init last sz) (i : Int) = aJ p (i : Int) := by
 rw [aJ, aJ, Int.toNat_natCast]
 show ((init ++ [uSm p.states.length, vSm p.lines.length, last]).getD i Sm.none).x = _
 rw [h.st, dY hi, dY hi]
theorem jk (h : UnH p init last sz) : aJ (unM p init last sz) ((init.length + 2 : Nat) : Int) = last.x ∧ aJ p (init.length : Int) = last.x := by
 constructor
 ·exact fA (by show (init ++ [uSm p.states.length, vSm p.lines.length, last])[init.length + 2]? = _; rw [List.getElem?_append_right (by omega), Nat.add_sub_cancel_left]; rfl)
 ·exact fA (by rw [h.st]; simp)
theorem lens (h : UnH p init last sz) : p.stmts.length = init.length + 1 ∧ (unM p init last sz).stmts.length = init.length + 3 := by
 constructor
 ·rw [h.st]; simp
 ·show (init ++ [uSm p.states.length, vSm p.lines.length, last]).length = _; simp
theorem UnH.hi (h : UnH p init last sz) {F G : List Sp} (hb : BOk p F) (hq : BOk (unM p init last sz) G) (hG : ∀ j, j < init.length → G.getD j (0, 0) = F.getD j (0, 0)) (hi : i ≤ init.length) (hi' : i' < (unM p init last sz).stmts.length) (hx : aJ (unM p init last sz) (i' : Int) = aJ p (i : Int)) {x : Ex} (hm : x ∈ aj (aJ p i)) (hk : looks x = true) : hiM (unM p init last sz) (x.l.getD 0 Ex.none) = hiM p (x.l.getD 0 Ex.none) := by
 have hlt : i < p.stmts.length := by rw [(lens h).1]; omega
 obtain ⟨hl, s, a1, _, a3, _⟩ := look_ok hb hlt hm hk
 obtain ⟨_, t, b1, _, b3, _⟩ := look_ok hq hi' (by rw [hx]; exact hm) hk
 have hw := mP hb.res hlt hm
 have hz : wfX p i (x.l.getD 0 Ex.none) = true := by
  obtain ⟨y, hy⟩ : ∃ y, x.l = [y] := by
   cases e : x.l with
   | nil => rw [e] at hl; cases hl
   | cons y r => cases r with
    | nil => exact ⟨y, rfl⟩
    | cons z r => rw [e] at hl; simp at hl
  rw [hy]; exact ig (aZ hw).2.2 y (by rw [hy]; simp)
 rw [qC _ hz, mV (p := p) (n := i) (F := G) (G := F) (fun j hj => hG j (by omega)) _ hz, a3] at b3
 cases b3
 rw [hiM, hiM, a1, b1]
theorem GL (p : Pr) (n : Int) (x : Ex) : n ≤ latX p n x := by
 unfold latX; split
 ·exact (jA _ _).1
 ·exact Int.le_refl _
theorem GM (p : Pr) (n : Int) (s : Sm) : n ≤ qU p n s := by
 unfold qU
 exact iP (P := fun m => n ≤ m) _ n (Int.le_refl _) fun m hm x _ => Int.le_trans hm (GL p m x)
theorem UnH.lat (h : UnH p init last sz) {F G : List Sp} (hb : BOk p F) (hq : BOk (unM p init last sz) G) (hG : ∀ j, j < init.length → G.getD j (0, 0) = F.getD j (0, 0)) : latM (unM p init last sz) = latM p := by
 obtain ⟨l1, l2⟩ := lens h
 have hS : ∀ (i i' : Nat) (s : Sm), i ≤ init.length → i' < (unM p init last sz).stmts.length → p.stmts[i]? = some s → aJ (unM p init last sz) (i' : Int) = aJ p (i : Int) → ∀ n, qU (unM p init last sz) n s = qU p n s := by
  intro i i' s hi hi' hs hx n
  have e := fA hs
  refine mX _ _ fun x hx2 m => ?_
  rw [latX, latX]
  cases hk : looks x with
  | false => rfl
  | true => rw [h.hi hb hq hG hi hi' hx (by rw [e]; exact hx2) hk]
 show (init ++ [uSm p.states.length, vSm p.lines.length, last]).foldl (qU (unM p init last sz)) 0 = _
 rw [latM, h.st, List.foldl_append, List.foldl_append]
 have e1 : init.foldl (qU (unM p init last sz)) 0 = init.foldl (qU p) 0 := by
  refine mX _ _ fun s hs n => ?_
  obtain ⟨i, hi, e⟩ := List.mem_iff_getElem.1 hs
  exact hS i i s (by omega) (by omega) (by rw [h.st, List.getElem?_append_left hi, List.getElem?_eq_getElem hi, e]) (sZ h hi) n
 rw [e1]
 have h0 : 0 ≤ init.foldl (qU p) 0 := iP (P := fun m => 0 ≤ m) _ 0 (Int.le_refl _) fun m hm s _ => Int.le_trans hm (GM p m s)
 generalize init.foldl (qU p) 0 = n at h0
 have e2 : qU (unM p init last sz) n (uSm p.states.length) = n := rfl
 have e3 : qU (unM p init last sz) n (vSm p.lines.length) = n := by
  show latX (unM p init last sz) (latX (unM p init last sz) n (inX 0)) ⟨1, [], 0, 0, []⟩ = n
  have hx : aJ (unM p init last sz) ((init.length + 1 : Nat) : Int) = inX 0 := fA (s := vSm p.lines.length) (by show (init ++ [uSm p.states.length, vSm p.lines.length, last])[init.length + 1]? = _; rw [List.getElem?_append_right (by omega), Nat.add_sub_cancel_left]; rfl)
  obtain ⟨_, t, b1, _, b3, _⟩ := look_ok (x := inX 0) hq (i := init.length + 1) (by omega) (by rw [hx, dP]; simp) rfl
  have b3 : Except.ok ((0 : Int), (0 : Int)) = Except.ok t := b3
  cases b3
  have hh : hiM (unM p init last sz) ⟨1, [], 0, 0, []⟩ = 0 := by
   rw [hiM]
   have b1 : bn (unM p init last sz) ⟨1, [], 0, 0, []⟩ = .ok (0, 0) := b1
   rw [b1]
  show mm2 true n (hiM (unM p init last sz) ⟨1, [], 0, 0, []⟩) = n
  rw [hh]; unfold mm2; simp only; rw [if_neg (by omega)]
 simp only [List.foldl_cons, List.foldl_nil, e2, e3]
 exact hS init.length (init.length + 2) last (Nat.le_refl _) (by omega) (by rw [h.st]; simp) ((jk h).1.trans (jk h).2.symm) n
theorem qE : ∀ (a b : List Sm) (i : Nat) (S : List (Key × Int)), sH (a ++ b) i S = sH b (i + a.length) (sH a i S)
 | [], b, i, S => rfl
 | s :: r, b, i, S => by
  rw [List.cons_append, sH, sH, qE r b, List.length_cons, show i + 1 + r.length = i + (r.length + 1) by omega]
theorem UnH.sets (h : UnH p init last sz) (k : Key) (hk : k ≠ (2, (p.states.length : Int)) ∧ k ≠ (3, (p.lines.length : Int))) : lkK k (aA (unM p init last sz)) = lkK k (aA p) := by
 have hl : Go.Fw.Tl.sets last.kind = false := by rw [h.kind]; rfl
 show lkK k (sH (init ++ [uSm p.states.length, vSm p.lines.length, last]) 0 []) = lkK k (sH p.stmts 0 [])
 rw [h.st, qE, qE]
 simp only [sH, hl, Bool.false_eq_true, if_false, show Go.Fw.Tl.sets 2 = true from rfl, show Go.Fw.Tl.sets 3 = true from rfl, if_true]
 rw [qw, if_neg (fun e => hk.2 (gU.1 e)), qw, if_neg (fun e => hk.1 (gU.1 e))]
theorem EW (h : UnH p init last sz) {k : Key} {b : Int} (hb : lkK k (aA p) = some b) : ∃ j : Nat, b = (j : Int) ∧ j < init.length := by
 obtain ⟨j, s, h1, h2, h3, _⟩ := oJ hb
 refine ⟨j, h2, ?_⟩
 have hj := (List.getElem?_eq_some_iff.1 h1).1
 rw [(lens h).1] at hj
 by_cases e : j = init.length
 ·subst e
  have : s = last := by rw [h.st] at h1; simpa using h1.symm
  rw [this, h.kind] at h3; exact absurd h3 (by decide)
 ·omega
theorem UnH.depx (h : UnH p init last sz) (hi : i ≤ init.length) (hii : i = i' ∨ (i = init.length ∧ i' = init.length + 2)) {x : Ex} (hw : wfX p i x = true) : qo (unM p init last sz) (aA (unM p init last sz)) i' x = qo p (aA p) i x ∧ ∀ q, qo p (aA p) i x = some q → q.1 < init.length := by
 have hg := (aZ hw).2.1
 unfold qo
 by_cases h5 : (x.kind == 5) = true
 ·have := zV hg h5
  simp only [h5, if_true]
  exact ⟨trivial, fun q e => by cases e; simp only; omega⟩
 ·simp only [h5, Bool.false_eq_true, if_false]
  by_cases h4 : (x.kind == 4) = true
  ·have hs := zU hg h4
   simp only [h4, if_true]
   rw [h.sets (2, x.index) ⟨fun e => by have := congrArg Prod.snd e; simp only at this; omega, fun e => by have := congrArg Prod.fst e; simp only at this; omega⟩]
   cases hb : lkK (2, x.index) (aA p) with
   | none => exact ⟨rfl, fun q e => by cases e⟩
   | some b =>
    obtain ⟨j, rfl, hj⟩ := EW h hb
    refine ⟨?_, fun q e => by cases e; simp only; omega⟩
    simp only
    rcases hii with rfl | ⟨rfl, rfl⟩
    ·rfl
    ·rw [if_pos (by omega), if_pos (by omega)]
  ·simp only [h4, Bool.false_eq_true, if_false]
   by_cases h8 : (x.kind == 8) = true
   ·have hs := Et hg h8
    simp only [h8, if_true]
    rw [h.sets (3, x.index) ⟨fun e => by have := congrArg Prod.fst e; simp only at this; omega, fun e => by have := congrArg Prod.snd e; simp only at this; omega⟩]
    have hl : aI (unM p init last sz) x.index = aI p x.index := dY (by omega)
    cases hb : lkK (3, x.index) (aA p) with
    | none => exact ⟨rfl, fun q e => by cases e⟩
    | some b =>
     obtain ⟨j, rfl, hj⟩ := EW h hb
     exact ⟨by simp only [hl], fun q e => by cases e; simp only; omega⟩
   ·simp only [h8, Bool.false_eq_true, if_false]
    exact ⟨trivial, fun q e => by cases e⟩
theorem jX {α β : Type} {f g : α → Option β} : ∀ l : List α, (∀ x ∈ l, f x = g x) → l.filterMap f = l.filterMap g
 | [], _ => rfl
 | x :: r, h => by rw [List.filterMap_cons, List.filterMap_cons, h x List.mem_cons_self, jX r fun y hy => h y (List.mem_cons_of_mem _ hy)]
theorem UnH.dep (h : UnH p init last sz) (hi : i ≤ init.length) (hii : (i = i' ∧ i < init.length) ∨ (i = init.length ∧ i' = init.length + 2)) : dW (unM p init last sz) i' = dW p i ∧ ∀ q ∈ dW p i, q.1 < init.length := by
 have hlt : i < p.stmts.length := by rw [(lens h).1]; omega
 have hx : aJ (unM p init last sz) (i' : Int) = aJ p (i : Int) := by
  rcases hii with ⟨rfl, hi⟩ | ⟨rfl, rfl⟩
  ·exact sZ h hi
  ·exact (jk h).1.trans (jk h).2.symm
 have hq : ∀ x ∈ aj (aJ p (i : Int)), _ := fun x hx => h.depx (i' := i') hi (hii.imp (fun e => e.1) id) (mP h.res hlt hx)
 constructor
 ·rw [dW, dW, hx]
  exact jX _ fun x hx => (hq x hx).1
 ·intro q hm
  obtain ⟨x, hx, e⟩ := List.mem_filterMap.1 hm
  exact (hq x hx).2 q e
theorem Age.move {dep dep' : Graph} {n : Nat} (h : ∀ k, k < n → dep' k = dep k ∧ ∀ q ∈ dep k, q.1 < n) {k : Nat} {v : Int} (ha : Age dep k v) : k < n → Age dep' k v := by
 induction ha with
 | mk i val ha ih =>
  intro hk
  obtain ⟨e, hq⟩ := h i hk
  rw [← e]
  refine .mk i val fun q hm => ?_
  rw [e] at hm
  exact ih q hm (hq q hm)
theorem Age.top {dep dep' : Graph} {n k k' : Nat} (h : ∀ k, k < n → dep' k = dep k ∧ ∀ q ∈ dep k, q.1 < n) (hk : dep' k' = dep k ∧ ∀ q ∈ dep k, q.1 < n) {v : Int} (ha : Age dep k v) : Age dep' k' v := by
 obtain ⟨val, h1, rfl⟩ := ha.inv
 rw [← hk.1]
 refine .mk k' val fun q hm => ?_
 rw [hk.1] at hm
 exact (h1 q hm).move h (hk.2 q hm)
theorem UnH.mem (h : UnH p init last sz) (hq : Res (unM p init last sz)) : ji (unM p init last sz) = ji p := by
 obtain ⟨l1, l2⟩ := lens h
 have a1 : ∀ k, k < init.length → dW (unM p init last sz) k = dW p k ∧ ∀ q ∈ dW p k, q.1 < init.length := fun k hk => h.dep (by omega) (.inl ⟨rfl, hk⟩)
 have a2 := h.dep (i := init.length) (i' := init.length + 2) (Nat.le_refl _) (.inr ⟨rfl, rfl⟩)
 have e1 : p.stmts.length - 1 = init.length := by omega
 have e2 : (unM p init last sz).stmts.length - 1 = init.length + 2 := by omega
 by_cases hv : ∃ v, Age (dW p) init.length v
 ·obtain ⟨v, hv⟩ := hv
  rw [qp (iO h.res) (by omega) (by rw [e1]; exact hv), qp (iO hq) (by omega) (by rw [e2]; exact hv.top a1 a2)]
 ·rw [lJ (iO h.res) (by omega) (by rw [e1]; exact hv), lJ (iO hq) (by omega)]
  rw [e2]
  rintro ⟨v, ha⟩
  exact hv ⟨v, ha.top (fun k hk => ⟨(a1 k hk).1.symm, by rw [(a1 k hk).1]; exact (a1 k hk).2⟩) ⟨a2.1.symm, by rw [a2.1]; exact a2.2⟩⟩
end Go.Fw.Tl
namespace Go.Fw.Tl
open Go.Fw Go.Fw.Ref15 Go.Fw.Rg
set_option maxRecDepth 100000
variable [GlobInt]
abbrev Jm (n : Int) : Ex := ⟨1, [], 0, n, []⟩
structure kN (q p : Pr) : Prop where
 nm : q.name = p.name
 la : q.latency = p.latency
 ta : q.tail = p.tail
 par : q.params = p.params
 sta : q.states = p.states
 tab : q.tables = p.tables
 stm : q.stmts = p.stmts
 lin : q.lines.length = p.lines.length
 at_ : ∀ i : Nat, (q.lines.getD i Ln.none).lo = (p.lines.getD i Ln.none).lo ∧ (q.lines.getD i Ln.none).hi = (p.lines.getD i Ln.none).hi
 lnm : Ref15.lines q = Ref15.lines p
 lok : xK q.lines = true
 siz : q.lines.all iV = true
variable {q p : Pr}
theorem kN.value (h : kN q p) (b : Nat) (nm : Str) : value q nm b = value p nm b := by
 have e : given q nm b = given p nm b := by simp only [given, h.stm]
 rw [Ref15.value, Ref15.value, e, h.par, h.sta]
theorem kN.resolved (h : kN q p) (b : Nat) : ∀ x, resolved q b x = resolved p b x := by
 refine Ex.ind fun x ih => ?_
 have hL : ∀ l : List Ex, (∀ y ∈ l, y ∈ x.l) → aC q b l = aC p b l := by
  intro l
  induction l with
  | nil => intro _; rfl
  | cons y r ihr =>
   intro hl
   rw [aC, aC, ih y (hl y (by simp)), ihr fun z hz => hl z (by simp [hz])]
 rw [bi, bi, h.value, hL x.l fun _ h => h]
 have : bH q x = bH p x := by simp only [bH, Ref15.tables, h.lnm, h.tab]
 rw [this]
theorem kN.resL (h : kN q p) : ∀ (r : List Sm) (i : Nat) (out : Bool), ay q r i out = ay p r i out
 | [], i, out => by rw [ay, ay]
 | s :: r, i, out => by
  have e1 : aN q s = aN p s := by simp only [aN, h.lnm, h.sta]
  have e2 : again q i s = again p i s := by simp only [again, h.stm]
  rw [ay, ay, h.resolved, e1, e2, h.resL r]
theorem kN.find (h : kN q p) (F : List Sp) : ∀ x, aV q F x = aV p F x := by
 refine Ex.ind fun x ih => ?_
 have hL : ∀ l : List Ex, (∀ z ∈ l, z ∈ x.l) → aT q F l = aT p F l := by
  intro l
  induction l with
  | nil => intro _; rfl
  | cons z r ihr =>
   intro hl
   rw [aT, aT, ih z (hl z (by simp)), ihr fun w hw => hl w (by simp [hw])]
 rw [bF, bF, hL x.l fun _ h => h]
 cases aT p F x.l with
 | error e => rfl
 | ok l =>
  have e8 := h.at_ x.index.toNat
  have e1 : dD q x.index = dD p x.index := by show q.params.getD _ _ = _; rw [h.par]
  have e2 : aH q x.index = aH p x.index := by show q.states.getD _ _ = _; rw [h.sta]
  have e3 : ax q x.index = ax p x.index := by show (q.tables.getD _ _).values = _; rw [h.tab]
  have e4 : (aI q x.index).lo = (aI p x.index).lo := e8.1
  have e5 : (aI q x.index).hi = (aI p x.index).hi := e8.2
  simp only [opM, e1, e2, e3, e4, e5]
theorem kN.stms (h : kN q p) : ∀ (r : List Sm) (F : List Sp), stmtsM q r F = stmtsM p r F
 | [], F => by rw [stmtsM, stmtsM]
 | s :: r, F => by
  have e : ∀ f, within q s f = within p s f := by
   intro f
   have e8 := h.at_ s.index.toNat
   have e2 : aH q s.index = aH p s.index := by show q.states.getD _ _ = _; rw [h.sta]
   have e4 : (aI q s.index).lo = (aI p s.index).lo := e8.1
   have e5 : (aI q s.index).hi = (aI p s.index).hi := e8.2
   have : bG q s = bG p s := by simp only [bG, e2, e4, e5]
   rw [within, within, this]
  rw [stmtsM, stmtsM, h.find]
  cases aV p F s.x with
  | error e => rfl
  | ok f => simp only [e]; rw [h.stms r]
theorem kN.bnd (h : kN q p) (hz : (ai p).2 = 0) : (ai q).2 = 0 := by
 obtain ⟨h1, h2⟩ := aO hz
 have hr := dO h2
 have hdec : aQ q = aQ p := by simp only [aQ, h.par, h.sta, h.lnm, Ref15.tables, h.tab, h.stm]
 have hR : Res q := by
  refine ⟨?_, ?_, by rw [h.nm]; exact hr.nm, by rw [hdec]; exact hr.dn, by rw [hdec]; exact hr.un, ?_, ?_⟩
  ·have := hr.fo; simp only [Formed, h.stm] at this ⊢; exact this
  ·have := hr.li
   rw [limited_eq] at this ⊢
   simp only [few, memOk, h.par, h.sta, h.lin, h.tab, h.stm, h.la, h.ta, h.siz, Bool.and_eq_true] at this ⊢
   obtain ⟨a, _, c⟩ := this
   exact ⟨a, trivial, c⟩
  ·have := hr.ra
   rw [ranged_eq] at this ⊢
   simp only [h.par, h.sta, h.tab, h.stm, h.lok, Bool.and_eq_true] at this ⊢
   obtain ⟨a, b, _, c⟩ := this
   exact ⟨a, b, trivial, c⟩
  ·rw [h.resL, h.stm]; exact hr.ru
 have h3 : stmtsM q q.stmts [] = .ok (ai p).1 := by rw [h.stms, h.stm]; exact h1.run
 rw [fD (jS hR) h3]
end Go.Fw.Tl
namespace Go.Fw.Tl
open Go.Fw Go.Fw.Ref15 Go.Fw.Rg
variable [GlobInt]
mutual
def ndM : Ex → Int → Int → Int
 | .mk _ _ _ _ l, d, most => if (bif d == 0 then decide ((l.length : Int) > 0) else false) = true then most + 1 else mm2 false (ndL l d most 1) (most + 1)
def ndL : List Ex → Int → Int → Int → Int
 | [], _, _, n => n
 | y :: r, d, most, n => if n ≤ most then ndL r d most (n + ndM y (d - 1) most) else n
end
theorem Bg (x : Ex) (d most : Int) : ndM x d most = if (bif d == 0 then decide ((x.l.length : Int) > 0) else false) = true then most + 1 else mm2 false (ndL x.l d most 1) (most + 1) := by cases x; rw [ndM]; rfl
theorem Jo {most : Int} (hm : 0 ≤ most) : ∀ (x : Ex) (d : Int), 1 ≤ ndM x d most ∧ ndM x d most ≤ most + 1 := by
 refine Ex.ind fun x ih d => ?_
 have hL : ∀ l : List Ex, (∀ y ∈ l, y ∈ x.l) → ∀ n, 1 ≤ n → 1 ≤ ndL l d most n := by
  intro l
  induction l with
  | nil => intro _ n h; rw [ndL]; exact h
  | cons y r ihr =>
   intro hl n h
   rw [ndL]
   split
   ·have := (ih y (hl y (by simp)) (d - 1)).1
    exact ihr (fun z hz => hl z (by simp [hz])) _ (by omega)
   ·exact h
 rw [Bg]
 split
 ·omega
 ·have := hL x.l (fun _ h => h) 1 (Int.le_refl _)
  rw [sQ]; split <;> omega
def JM (p : Pr) : Bool := bif (bif (bif (bif decide ((p.stmts.length : Int) > 14) then true else decide ((p.params.length : Int) > 18)) then true else decide ((p.states.length : Int) > 18)) then true else decide ((p.lines.length : Int) > 18)) then true else decide ((p.tables.length : Int) > 18)
def nK (s : Sm) : Bool := !decide (ndM s.x 12 40 > 40)
def mZ (t : Tb) : Bool := !decide ((t.values.length : Int) > 40)
def tC (p : Pr) : Bool := if JM p = true then false else if p.stmts.all nK then p.tables.all mZ else false
abbrev Jp : Int := -2147483648
abbrev Jq : Int := 2147483647
abbrev sX : Ex := ⟨4, [115], 0, 0, []⟩
abbrev Lj (l : List Ex) : Ex := ⟨10, [], 0, 0, [⟨15, [], 0, 0, l⟩]⟩
abbrev Io (nm : Str) (i n : Int) : Ex := ⟨8, nm, i, 0, [⟨1, [], 0, n, []⟩]⟩
abbrev outS (x : Ex) : Sm := ⟨4, [], 0, x⟩
def EY (l : List Sm) : Pr := ⟨[112], 0, -1, [], [⟨[115], Jp, Jq⟩], [⟨[100], 3, Jp, Jq⟩], [], l⟩
end Go.Fw.Tl
namespace Go.Fw.Tl
open Go.Fw Go.Fw.Ref15 Go.Fw.Rg
variable [GlobInt] {p : Pr}
def Bh (p : Pr) (n : Int) (x : Ex) (j : Nat) : Int := ((aj x).take j).foldl (latX p) n
theorem DR (p : Pr) (n : Int) (s : Sm) : Bh p n s.x (aj s.x).length = qU p n s := by rw [Bh, List.take_length]; rfl
theorem tH {n : Int} {x : Ex} {j : Nat} (hj : j < (aj x).length) : Bh p n x (j + 1) = latX p (Bh p n x j) ((aj x).getD j Ex.none) := by
 rw [Bh, List.take_add_one, List.getElem?_eq_getElem hj, List.foldl_append, List.getD_eq_getElem?_getD, List.getElem?_eq_getElem hj]; rfl
theorem Jr {n : Int} {x : Ex} {j : Nat} (hj : j < (aj x).length) (hk : looks ((aj x).getD j Ex.none) = false) : Bh p n x (j + 1) = Bh p n x j := by
 rw [tH hj, latX, hk]; rfl
theorem GR {F : List Sp} (h : BOk p F) (g : bz p) {i : Nat} {s : Sm} {r : List Sm} (hd : p.stmts.drop i = s :: r) {n : Int} {j : Nat} (hj : j < (aj s.x).length) (hk : looks ((aj s.x).getD j Ex.none) = true) :
  ∃ z t, ((aj s.x).getD j Ex.none).l = [z] ∧ bn p z = .ok t ∧ Ref15.nodes z ≤ 1073741824 ∧ Bh p n s.x (j + 1) = mm2 true (Bh p n s.x j) t.2 := by
 have hi : i < p.stmts.length := by
  have := congrArg List.length hd
  simp only [List.length_drop, List.length_cons] at this; omega
 have hs : p.stmts[i]? = some s := by
  have := congrArg (fun l => l[0]?) hd
  simpa using this
 have hx : aJ p (i : Int) = s.x := fA hs
 have hm : (aj s.x).getD j Ex.none ∈ aj s.x := by
  rw [List.getD_eq_getElem?_getD, List.getElem?_eq_getElem hj]; exact List.getElem_mem hj
 obtain ⟨hl, t, h1, _⟩ := look_ok h hi (by rw [hx]; exact hm) hk
 rw [tH hj]
 generalize (aj s.x).getD j Ex.none = y at *
 obtain ⟨z, hz⟩ : ∃ z, y.l = [z] := by
  cases e : y.l with
  | nil => rw [e] at hl; cases hl
  | cons a q => cases q with
   | nil => exact ⟨a, rfl⟩
   | cons b q => rw [e] at hl; simp at hl
 have e1 : y.l.getD 0 Ex.none = z := by rw [hz]; rfl
 rw [e1] at h1
 refine ⟨z, t, hz, h1, ?_, ?_⟩
 ·have a1 := mQ s.x y hm
  have a2 := g.hn s (List.mem_of_getElem? hs)
  have a3 : Ref15.nodes z ≤ Ref15.nodes y := by
   rw [Ref15.nodes_eq y, hz]; simp [Ref15.nodesL]
  omega
 ·rw [latX, hk, e1, hiM, h1]; rfl
theorem DT {y z : Ex} (h : y.l = [z]) : 0 ≤ (0 : Int) ∧ (Ex.css y.l)[(0 : Int).toNat]? = some (Ex.cs z) := by
 rw [h, Ex.css_eq]; exact ⟨Int.le_refl _, rfl⟩
theorem Bi (g : GOk p) (hn : 0 < p.stmts.length) : (∃ v s', jh p (aA p) (p.stmts.length + 1) ⟨[], []⟩ ((p.stmts.length : Int) - 1) = .ok v s') ∨ (∃ t, jh p (aA p) (p.stmts.length + 1) ⟨[], []⟩ ((p.stmts.length : Int) - 1) = .pan t) := by
 have hc : ((p.stmts.length : Int) - 1) = ((p.stmts.length - 1 : Nat) : Int) := by omega
 rcases wQ g (p.stmts.length + 1) ⟨[], []⟩ (p.stmts.length - 1) (by omega) ⟨fun k v h => by simp [lkA] at h⟩ (fun o h => by simp [bY, lkA] at h) (by
  have := List.countP_le_length (p := fun k => !bY ⟨[], []⟩ (k : Nat)) (l := List.range p.stmts.length)
  rw [List.length_range] at this
  exact Nat.lt_succ_of_le this) with ⟨w, s', e1, _⟩ | ⟨⟨t, e1⟩, _⟩
 ·rw [hc]; exact .inl ⟨w, s', e1⟩
 ·rw [hc]; exact .inr ⟨t, e1⟩
theorem GU (h : (ai p).2 = 0) : dQ p = (latM p, 0) := by rw [dQ, h]; rfl
theorem GV (h : (ai p).2 = 0) : iq p = (ji p, 0) := by rw [iq, h]; rfl
end Go.Fw.Tl
namespace Go.Fw.Tl
open Go.Fw Go.Fw.Ref15 Go.Fw.Rg
variable [GlobInt]
theorem G5 (e : Int) : (bif (bif e == e then (0 : Int) == 0 else false) then (0 : Int) == 0 else false) = true := by simp
theorem Js {n m k : Int} (hn : 0 ≤ n ∧ n ≤ 4096) (hm : -1 ≤ m ∧ m ≤ k) (h : (bif (bif (bif decide (n < 0) then true else decide (n > 4096)) then true else decide (m < -1)) then true else decide (m > k)) = true) : False := by
 rw [decide_eq_false (show ¬ n < 0 by omega), decide_eq_false (show ¬ n > 4096 by omega), decide_eq_false (show ¬ m < -1 by omega), decide_eq_false (show ¬ m > k by omega)] at h
 exact Bool.noConfusion h
theorem xy (a : Nat) (h : a ≤ 65535) : IntKind.i64.wrap (a : Int) = a := aS (by omega) (by omega)
end Go.Fw.Tl
namespace Go.Fw.Tl
open Go.Fw Go.Fw.Ref15 Go.Fw.Rg
variable [GlobInt]
end Go.Fw.Tl
