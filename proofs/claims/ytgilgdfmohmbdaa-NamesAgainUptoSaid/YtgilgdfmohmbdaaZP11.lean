/- Plain: what is resolved is resolved again to itself. -/
import Derived.Test.YtgilgdfmohmbdaaZP8
import Derived.Test.YtgilgdfmohmbdaaZD15
set_option linter.unusedSimpArgs false
set_option linter.unusedVariables false
namespace Go.Fw.Nam
set_option linter.unusedSectionVars false
variable [GlobInt]
open Ref15
theorem indexed_eq (j : Int) (x : Ex) : indexed j x = .mk x.kind x.name j x.n (indexedL j x.l) := by cases x; rw [indexed]; rfl
/-- The same but for indices. -/
structure Alike (x y : Ex) : Prop where
  vis : ∀ l, vis l x = vis l y
  visB : ∀ l i, visB l i x = visB l i y
  formed : every formed1 x = every formed1 y
  ranged : every ranged2 x = every ranged2 y
  nodes : Ref15.nodes x = Ref15.nodes y
theorem alike_indexed (j : Int) (x : Ex) : Alike (indexed j x) x := by
  refine Ex.ind (P := fun x => Alike (indexed j x) x) (fun x ih => ?_) x
  have hf : formed1 (indexed j x) = formed1 x := by
    rw [indexed_eq]; cases x; simp only [formed1, Ex.l, Ex.kind, Ex.name, Ex.n, indexedL_len]; rfl
  have hr : ranged2 (indexed j x) = ranged2 x := by rw [indexed_eq]; cases x; rfl
  have hk : (indexed j x).kind = x.kind := by rw [indexed_eq]; rfl
  have hn : (indexed j x).name = x.name := by rw [indexed_eq]; rfl
  have hm : (indexed j x).n = x.n := by rw [indexed_eq]; rfl
  have hl : (indexed j x).l = indexedL j x.l := by rw [indexed_eq]; rfl
  have key : (∀ l, visL l (indexedL j x.l) = visL l x.l) ∧ (∀ l i, visBL l i (indexedL j x.l) = visBL l i x.l) ∧ everyL formed1 (indexedL j x.l) = everyL formed1 x.l ∧ everyL ranged2 (indexedL j x.l) = everyL ranged2 x.l ∧ nodesL (indexedL j x.l) = nodesL x.l := by
    clear hf hr hk hn hm hl
    generalize x.l = m at ih
    induction m with
    | nil => exact ⟨fun _ => rfl, fun _ _ => rfl, rfl, rfl, rfl⟩
    | cons y r ih2 =>
      have a := ih y (by simp)
      obtain ⟨b1, b2, b3, b4, b5⟩ := ih2 (fun z hz => ih z (List.mem_cons_of_mem _ hz))
      exact ⟨fun l => by simp only [indexedL, visL, a.vis, b1], fun l i => by simp only [indexedL, visBL, a.visB, b2], by simp only [indexedL, everyL, a.formed, b3], by simp only [indexedL, everyL, a.ranged, b4], by simp only [indexedL, nodesL, a.nodes, b5]⟩
  obtain ⟨k1, k2, k3, k4, k5⟩ := key
  exact ⟨fun l => by rw [vis_eq, vis_eq, hk, hn, hm, hl, k1], fun l i => by rw [visB_eq, visB_eq, hk, hn, hl, k2], by rw [every_eq, every_eq, hf, hl, k3], by rw [every_eq, every_eq, hr, hl, k4], by rw [nodes_eq, nodes_eq, hl, k5]⟩
theorem named_arity {k k' : Int} (h : named k = true) (h' : named k' = true) (ha : arr k = arr k') : parts k = parts k' := by
  simp only [named, Bool.or_eq_true, beq_iff_eq] at h h'
  have e1 : parts k = if arr k then 1 else 0 := by rcases h with ((((h | h) | h) | h) | h) | h <;> subst h <;> rfl
  have e2 : parts k' = if arr k' then 1 else 0 := by rcases h' with ((((h | h) | h) | h) | h) | h <;> subst h <;> rfl
  rw [e1, e2, ha]
theorem vok_again {l : List Pe} (hk : ∀ n e, lk n l = some e → named e.kind = true) {i k : Int} {n : Str} (h : vok l i k n = true) :
    vok l i (vkind l k n) n = true ∧ vkind l (vkind l k n) n = vkind l k n ∧ vidx l (vkind l k n) n = vidx l k n ∧ parts (vkind l k n) = parts k ∧ named (vkind l k n) = named k ∧ (named k = false → vkind l k n = k) := by
  simp only [vok, arity_eq] at h
  cases hn : named k with
  | false => simp only [vok, vkind, vidx, arity_eq, hn, Bool.false_eq_true, if_false, Bool.not_false, Bool.true_or, implies_true, and_self]
  | true =>
    rw [hn] at h
    cases hl : lk n l with
    | none => rw [hl] at h; simp at h
    | some e =>
      rw [hl] at h
      simp only [Bool.not_true, Bool.false_or, eok, Bool.and_eq_true, Bool.or_eq_true, Bool.not_eq_true', beq_iff_eq] at h
      have he := hk _ _ hl
      have hp : arr e.kind = arr k := by rcases h.2 with h | ⟨a, b⟩ <;> first | rw [h] | rw [a, b]
      have hv : vkind l k n = e.kind := by simp only [vkind, arity_eq, hn, hl, if_true]
      refine ⟨?_, ?_, ?_, ?_, ?_, fun h => by simp at h⟩
      · rw [hv]; simp only [vok, arity_eq, he, hl, eok, h.1, Bool.not_true, Bool.false_or, Bool.true_and, beq_self_eq_true, Bool.true_or]
      · rw [hv]; simp only [vkind, arity_eq, he, hl, if_true]
      · rw [hv]; simp only [vidx, arity_eq, he, hn, hl, if_true]
      · rw [hv]; exact named_arity he hn hp
      · rw [hv]; exact he
/-- What is to be resolved again. -/
structure Again (l : List Pe) (i : Int) (x y : Ex) : Prop where
  vis : Nam.vis l x = Nam.vis l y
  visB : Nam.visB l i x = true
  formed : every formed1 x = every formed1 y
  ranged : every ranged2 x = every ranged2 y
  nodes : Ref15.nodes x = Ref15.nodes y
theorem again_vis {l : List Pe} (hk : ∀ n e, lk n l = some e → named e.kind = true) (i : Int) (x : Ex) (h : visB l i x = true) : Again l i (vis l x) x := by
  revert h
  refine Ex.ind (P := fun x => visB l i x = true → Again l i (vis l x) x) (fun x ih h => ?_) x
  rw [visB_eq, Bool.and_eq_true] at h
  obtain ⟨h1, h2⟩ := h
  obtain ⟨v1, v2, v3, v4, v5, v6⟩ := vok_again hk h1
  have xk : (vis l x).kind = vkind l x.kind x.name := by rw [vis_eq]; rfl
  have xn : (vis l x).name = x.name := by rw [vis_eq]; rfl
  have xm : (vis l x).n = x.n := by rw [vis_eq]; rfl
  have xl : (vis l x).l = visL l x.l := by rw [vis_eq]; rfl
  have key : visL l (visL l x.l) = visL l x.l ∧ visBL l i (visL l x.l) = true ∧ everyL formed1 (visL l x.l) = everyL formed1 x.l ∧ everyL ranged2 (visL l x.l) = everyL ranged2 x.l ∧ nodesL (visL l x.l) = nodesL x.l := by
    clear xk xn xm xl v1 v2 v3 v4 v5 v6 h1
    generalize x.l = m at ih h2
    induction m with
    | nil => exact ⟨rfl, visBL_nil, rfl, rfl, rfl⟩
    | cons y r ih2 =>
      simp only [visBL, Bool.and_eq_true] at h2
      have a := ih y (by simp) h2.1
      obtain ⟨b1, b2, b3, b4, b5⟩ := ih2 (fun z hz => ih z (List.mem_cons_of_mem _ hz)) h2.2
      exact ⟨by simp only [visL, a.vis, b1], by simp only [visL, visBL, a.visB, b2]; rfl, by simp only [visL, everyL, a.formed, b3], by simp only [visL, everyL, a.ranged, b4], by simp only [visL, nodesL, a.nodes, b5]⟩
  obtain ⟨k1, k2, k3, k4, k5⟩ := key
  have hf : formed1 (vis l x) = formed1 x := by
    simp only [formed1, xk, xn, xm, xl, visL_len, arity_eq, v4, v5]
    cases hn : named x.kind with
    | false => rw [v6 hn]
    | true =>
      have hv : named (vkind l x.kind x.name) = true := v5.trans hn
      have n1 : (vkind l x.kind x.name == 1) = false ∧ (vkind l x.kind x.name == 18) = false := by
        simp only [named, Bool.or_eq_true, beq_iff_eq] at hv; constructor <;> (rw [beq_eq_false_iff_ne]; omega)
      have n2 : (x.kind == 1) = false ∧ (x.kind == 18) = false := by
        simp only [named, Bool.or_eq_true, beq_iff_eq] at hn; constructor <;> (rw [beq_eq_false_iff_ne]; omega)
      rw [n1.1, n1.2, n2.1, n2.2]
  have hr : ranged2 (vis l x) = ranged2 x := by
    simp only [ranged2, xk, xm]
    cases hn : named x.kind with
    | false => rw [v6 hn]
    | true =>
      have hv : named (vkind l x.kind x.name) = true := v5.trans hn
      have n1 : (vkind l x.kind x.name != 18) = true := by
        simp only [named, Bool.or_eq_true, beq_iff_eq] at hv; rw [bne_iff_ne]; omega
      have n2 : (x.kind != 18) = true := by
        simp only [named, Bool.or_eq_true, beq_iff_eq] at hn; rw [bne_iff_ne]; omega
      rw [n1, n2]
  refine ⟨?_, ?_, ?_, ?_, ?_⟩
  · rw [vis_eq l (vis l x), xk, xn, xm, xl, v2, v3, k1]; exact (vis_eq l x).symm
  · rw [visB_eq, xk, xn, xl, v1, k2]; rfl
  · rw [every_eq, every_eq, hf, xl, k3]
  · rw [every_eq, every_eq, hr, xl, k4]
  · rw [nodes_eq, nodes_eq, xl, k5]
theorem again_indexed {l : List Pe} (hk : ∀ n e, lk n l = some e → named e.kind = true) (i j : Int) (x : Ex) (h : visB l i x = true) : Again l i (indexed j (vis l x)) x := by
  have a := alike_indexed j (vis l x)
  have b := again_vis hk i x h
  exact ⟨(a.vis l).trans b.vis, (a.visB l i).trans b.visB, a.formed.trans b.formed, a.ranged.trans b.ranged, a.nodes.trans b.nodes⟩
/-- Statements turned so that they are resolved again. -/
def TurnOk (l : List Pe) (g : Sm → Sm) : Prop := ∀ s, (g s).kind = s.kind ∧ (g s).name = s.name ∧ ∀ i, visB l i s.x = true → Again l i (g s).x s.x
theorem target_g {l : List Pe} {g : Sm → Sm} (hg : TurnOk l g) (s : Sm) : target l (g s) = target l s := by
  simp only [target, (hg s).1, (hg s).2.1]
theorem stop_g {l : List Pe} {g : Sm → Sm} (hg : TurnOk l g) {s : Sm} {i : Nat} {d : List (Int × Int)} {o : Bool} (h : stopS l s i d o = 0) : stopS l (g s) i d o = 0 := by
  have hv := stop_vis0 h
  have hw := ((hg s).2.2 _ hv).visB
  rw [← h]
  simp only [stopS, hv, hw, (hg s).1, target_g hg]
theorem run_g {l : List Pe} {g : Sm → Sm} (hg : TurnOk l g) : ∀ (r : List Sm) (i : Nat) (d : List (Int × Int)) (o : Bool) (t : List Sm), runS l r i d o = .ok t → runS l (r.map g) i d o = .ok t
  | [], i, d, o, t, h => h
  | s :: r, i, d, o, t, h => by
    simp only [runS, List.map_cons] at h ⊢
    split at h
    · cases h
    · rename_i h0
      have h0 : stopS l s i d o = 0 := by simpa using h0
      have hd : doneS l (g s) d = doneS l s d := by simp only [doneS, (hg s).1, target_g hg]
      have ho : outS l (g s) = outS l s := by simp only [outS, sidx, (hg s).1, (hg s).2.1, target_g hg, ((hg s).2.2 _ (stop_vis0 h0)).vis]
      rw [stop_g hg h0, hd, (hg s).1, ho]
      cases hr : runS l r (i + 1) (doneS l s d) (s.kind == 4) with
      | error e => rw [hr] at h; cases h
      | ok t' =>
        rw [hr] at h; cases h
        rw [run_g hg r _ _ _ _ hr]; rfl
theorem all_g {α : Type} {f h : α → Bool} : ∀ {l : List α}, (∀ x ∈ l, f x = h x) → l.all f = l.all h
  | [], _ => rfl
  | x :: r, e => by simp only [List.all_cons]; rw [e x (by simp), all_g (fun y hy => e y (List.mem_cons_of_mem _ hy))]
theorem decS_g {g : Sm → Sm} (hg : ∀ s, (g s).kind = s.kind ∧ (g s).name = s.name) : ∀ (l : List Sm) (i : Nat), decS (l.map g) i = decS l i
  | [], _ => rfl
  | s :: r, i => by simp only [List.map_cons, decS, (hg s).1, (hg s).2, decS_g hg r (i + 1)]
theorem again_resolve {p : Pr} (h : (resolveC p).2 = 0) (g : Sm → Sm) (hg : TurnOk (decl p) g) : resolveC { p with stmts := p.stmts.map g } = ((resolveC p).1, 0) := by
  obtain ⟨g1, g2, g3, g4, g5, g6, e⟩ := resolved_form h
  have hv : ∀ s ∈ p.stmts, ∃ i, visB (decl p) i s.x = true := by
    intro s hs
    obtain ⟨j, hj⟩ := List.mem_iff_getElem?.1 hs
    exact ⟨_, ((run_at _ _ _ _ _ g6).2.2 j s hj).1⟩
  have hd : decl { p with stmts := p.stmts.map g } = decl p := by
    show T4 p ++ decS (p.stmts.map g) 0 = _
    rw [decS_g (fun s => ⟨(hg s).1, (hg s).2.1⟩)]; rfl
  have f1 : formed { p with stmts := p.stmts.map g } = true := by
    rw [← g1]
    simp only [formed, List.all_map]
    refine all_g fun s hs => ?_
    obtain ⟨i, hi⟩ := hv s hs
    show (stmt1 (g s) && every formed1 (g s).x) = _
    rw [((hg s).2.2 i hi).formed]
    simp only [stmt1, (hg s).1, (hg s).2.1]
  have f2 : limited { p with stmts := p.stmts.map g } = true := by
    rw [← g2]
    have h1 : head1 { p with stmts := p.stmts.map g } = head1 p := by simp only [head1, most, List.length_map]; rfl
    have h2 : (p.stmts.map g).all sm1 = p.stmts.all sm1 := by
      rw [List.all_map]
      refine all_g fun s hs => ?_
      obtain ⟨i, hi⟩ := hv s hs
      simp only [Function.comp, sm1, ((hg s).2.2 i hi).nodes]
    simp only [limited, h1, h2]
  have f3 : ranged { p with stmts := p.stmts.map g } = true := by
    rw [← g5]
    have h2 : (p.stmts.map g).all sm2 = p.stmts.all sm2 := by
      rw [List.all_map]
      refine all_g fun s hs => ?_
      obtain ⟨i, hi⟩ := hv s hs
      simp only [Function.comp, sm2, ((hg s).2.2 i hi).ranged]
    have h3 : allB { p with stmts := p.stmts.map g } = allB p := rfl
    simp only [ranged, h2, h3]
  have r1 := run_g hg p.stmts 0 [] false _ g6
  rw [e]
  unfold resolveC
  rw [hd, f1, f2, f3, g4]
  rw [show ({ p with stmts := p.stmts.map g } : Pr).name = p.name from rfl, g3]
  simp only [Bool.not_true, Bool.false_eq_true, if_false]
  rw [r1]; rfl
theorem turn_vis {p : Pr} : TurnOk (decl p) (outS (decl p)) := fun s => ⟨rfl, rfl, fun i hi => again_vis (fun n e he => lk_kind he) i s.x hi⟩
theorem turn_index {p : Pr} (j : Int) : TurnOk (decl p) (fun s => indexS j (outS (decl p) s)) := fun s => ⟨rfl, rfl, fun i hi => again_indexed (fun n e he => lk_kind he) i j s.x hi⟩
theorem again1 {p : Pr} (h : (resolveC p).2 = 0) : resolveC (xr p) = (xr p, 0) := by
  have := again_resolve h _ turn_vis
  rw [(resolved_form h).2.2.2.2.2.2] at this
  exact this
theorem again2 {p : Pr} (h : (resolveC p).2 = 0) (j : Int) : resolveC (againP j (xr p)) = (xr p, 0) := by
  have := again_resolve h _ (turn_index j)
  rw [(resolved_form h).2.2.2.2.2.2] at this
  refine Eq.trans ?_ this
  congr 1
  simp only [againP, xr, List.map_map]; rfl
theorem nodes_vis {p : Pr} (h : (resolveC p).2 = 0) {s : Sm} (hs : s ∈ p.stmts) : Ref15.nodes (vis (decl p) s.x) = Ref15.nodes s.x := by
  obtain ⟨g1, g2, g3, g4, g5, g6, e⟩ := resolved_form h
  obtain ⟨j, hj⟩ := List.mem_iff_getElem?.1 hs
  have hv := ((run_at _ _ _ _ _ g6).2.2 j s hj).1
  exact (again_vis (fun n e he => lk_kind he) _ s.x hv).nodes
end Go.Fw.Nam
