/- Runs of the machine, in plain words: what a step does not depend on. -/
import Derived.Test.YtcfpghieofhfkaaZMA
set_option linter.unusedSimpArgs false
set_option linter.unusedVariables false
namespace Go.Fw.Mac
set_option linter.unusedSectionVars false
open Go.Fw
structure SimP (p q : PS) : Prop where
  n : p.n = q.n
  row : p.row.take p.n = q.row.take q.n
  regs : p.regs = q.regs
  values : p.values = q.values
  pushed : p.pushed = q.pushed
theorem take_get {a b : List Int} {n i : Nat} (h : a.take n = b.take n) (hi : i < n) : a.getD i 0 = b.getD i 0 := by
  have h1 := congrArg (fun l => l.getD i 0) h
  simpa [List.getD_eq_getElem?_getD, List.getElem?_take, hi] using h1
theorem take_sub {a b : List Int} {n k : Nat} (h : a.take n = b.take n) (hk : k ≤ n) : a.take k = b.take k := by
  have h1 := congrArg (List.take k) h
  rwa [List.take_take, List.take_take, Nat.min_eq_left hk] at h1
theorem take_push {a b : List Int} {n k : Nat} {v : Int} (h : a.take n = b.take n) (hk : k ≤ n) : (a.take k ++ [v]).take (k + 1) = (b.take k ++ [v]).take (k + 1) := by rw [take_sub h hk]
section
variable {c : Cd} {par inn sid : List Int} {lines : List (List Int)} {F F' : PS}
theorem sim_next {r : List (Int × Int)} {x : Int × Int} {p q : PS} (E : EnvOk c par inn sid lines) (h : StepI c par inn sid lines F (x :: r) p) (s : SimP p q) :
    SimP (oneP c par inn sid lines p x) (oneP c par inn sid lines q x) ∧ ((p.out = q.out ∨ x.1 = 22) → (oneP c par inn sid lines p x).out = (oneP c par inn sid lines q x).out) := by
  obtain ⟨op, a⟩ := x
  obtain ⟨ver, row, n, regs, values, pu, out⟩ := p
  obtain ⟨ver', row', n', regs', values', pu', out'⟩ := q
  obtain ⟨s1, s2, s3, s4, s5⟩ := s
  simp only at s1 s2 s3 s4 s5
  subst s1 s3 s4 s5
  have g : ∀ i, i < n → row.getD i 0 = row'.getD i 0 := fun i hi => take_get s2 hi
  rcases mstep_ops E h with ⟨rfl, ⟨m, hm, -, -⟩⟩ | ⟨rfl, ⟨m, hm, -, -⟩, -⟩ | ⟨rfl, ⟨m, hm, -, -⟩, -⟩ | ⟨rfl, ⟨m, hm, -, -⟩, -⟩ | ⟨rfl, ⟨m, hm, -, -⟩, -⟩ | ⟨rfl, ⟨m, hm, -, -⟩, -⟩ | ⟨rfl, ⟨m, hm, -, -⟩, -⟩ | ⟨rfl, ⟨m, hm, -, -⟩, -⟩ | ⟨rfl, ⟨m, hm, -, -⟩, -⟩ | ⟨rfl, ⟨m, hm, -, -⟩, -⟩ | ⟨rfl, ⟨m, hm, -, -⟩, -⟩ | ⟨rfl, ⟨m, hm, -, -⟩⟩ | ⟨rfl, ⟨m, hm, -, -⟩⟩ | ⟨rfl, ⟨m, hm, -, -⟩⟩ | ⟨rfl, ⟨m, hm, -, -⟩⟩ | ⟨rfl, ⟨m, hm, -, -⟩⟩ | ⟨rfl, ⟨m, hm, -, -⟩⟩ | ⟨rfl, ⟨m, hm, -, -⟩⟩ | ⟨rfl, ⟨m, hm, -, -⟩⟩ | ⟨rfl, ⟨m, hm, -, -⟩, -⟩ | ⟨rfl, ⟨m, hm, -, -⟩⟩ | ⟨rfl, ⟨m, hm, -, -⟩⟩
  all_goals first
    | (simp only [oneP, Int.reduceBEq, cond_false, cond_true]; exact ⟨⟨rfl, take_push s2 (by omega), rfl, rfl, rfl⟩, fun h => h.elim id (fun h => absurd h (by decide))⟩)
    | (simp only [oneP, Int.reduceBEq, cond_false, cond_true, g (n - 1) (by omega)]; exact ⟨⟨rfl, take_push s2 (by omega), rfl, rfl, rfl⟩, fun h => h.elim id (fun h => absurd h (by decide))⟩)
    | (simp only [oneP, Int.reduceBEq, cond_false, cond_true, g (n - 1) (by omega), g (n - 2) (by omega)]; exact ⟨⟨rfl, take_push s2 (by omega), rfl, rfl, rfl⟩, fun h => h.elim id (fun h => absurd h (by decide))⟩)
    | (simp only [oneP, Int.reduceBEq, cond_false, cond_true, g (n - 1) (by omega), g (n - 2) (by omega), g (n - 3) (by omega), g (n - 4) (by omega)]; exact ⟨⟨rfl, take_push s2 (by omega), rfl, rfl, rfl⟩, fun h => h.elim id (fun h => absurd h (by decide))⟩)
    | (simp only [oneP, Int.reduceBEq, cond_false, cond_true, g (n - 1) (by omega)]; exact ⟨⟨rfl, take_sub s2 (show n - 1 ≤ n by omega), rfl, rfl, rfl⟩, fun h => h.elim id (fun h => absurd h (by decide))⟩)
    | (simp only [oneP, Int.reduceBEq, cond_false, cond_true, g (n - 1) (by omega)]; exact ⟨⟨rfl, take_sub s2 (show n - 1 ≤ n by omega), rfl, rfl, rfl⟩, fun _ => trivial⟩)
theorem sim_fold (E : EnvOk c par inn sid lines) : ∀ (r : List (Int × Int)) (p q : PS), StepI c par inn sid lines F r p → StepI c par inn sid lines F' r q → SimP p q → SimP F F' ∧ ((p.out = q.out ∨ ∃ x ∈ r, x.1 = 22) → F.out = F'.out)
  | [], p, q, h, h', s => by rw [mstep_end h, mstep_end h']; exact ⟨s, fun h => h.elim id (by simp)⟩
  | x :: r, p, q, h, h', s => by
    have n := sim_next E h s
    have ih := sim_fold E r _ _ (mstep_next E h) (mstep_next E h') n.1
    refine ⟨ih.1, fun hh => ih.2 ?_⟩
    rcases hh with hh | ⟨y, hy, h22⟩
    · exact .inl (n.2 (.inl hh))
    · rcases List.mem_cons.1 hy with rfl | hy
      · exact .inl (n.2 (.inr h22))
      · exact .inr ⟨y, hy, h22⟩
theorem stepI_fin (E : EnvOk c par inn sid lines) : ∀ (r : List (Int × Int)) (p : PS), StepI c par inn sid lines F r p → StepI c par inn sid lines F [] F
  | [], p, h => by have e := mstep_end h; subst e; exact h
  | x :: r, p, h => stepI_fin E r _ (mstep_next E h)
end
theorem has22 {c : Cd} : ∀ (r : List (Int × Int)) (n o : Int) (pk : List Bool), chkP c r n o pk = true → o ≠ 1 → ∃ x ∈ r, x.1 = 22
  | [], n, o, pk, h, ho => by
    have e : (o != 1) = true := by simpa using ho
    rw [chkP, e] at h
    cases hn : (n != 0) <;> rw [hn] at h <;> exact absurd h (by decide)
  | x :: r, n, o, pk, h, ho => by
    have hb := chkP_ref h
    rw [chkP, hb] at h
    simp only [cond_false] at h
    cases h2 : (x.1 == 22) with
    | true => exact ⟨x, by simp, by simpa using h2⟩
    | false =>
      rw [h2] at h
      simp only [cond_false] at h
      have : ∃ y ∈ r, y.1 = 22 := by
        cases h7 : (x.1 == 7) with
        | true =>
          rw [h7] at h
          cases hp : pk.getD x.2.toNat false with
          | true => rw [hp] at h; simp at h
          | false => rw [hp] at h; simp only [cond_true, cond_false] at h; exact has22 r _ _ _ h ho
        | false => rw [h7] at h; exact has22 r _ _ _ h ho
      obtain ⟨y, hy, e⟩ := this
      exact ⟨y, by simp [hy], e⟩
theorem stepI_start {c : Cd} {par inn sid : List Int} {lines : List (List Int)} {ver : Nat} {row values : List Int} {k : Nat} {out : Int} (hchk : chkP c c.instrs 0 0 (List.replicate c.lines.length false) = true) (hr : (k : Int) = c.regs) (hv : values.length = c.states.length) :
    StepI c par inn sid lines (c.instrs.foldl (oneP c par inn sid lines) ⟨ver, row, 0, List.replicate k 0, values, [], out⟩) c.instrs ⟨ver, row, 0, List.replicate k 0, values, [], out⟩ :=
  ⟨rfl, ⟨0, _, hchk, by simp, by simp⟩, Nat.zero_le _, Nat.zero_le _, by simpa using hr, hv, by simp, by simp⟩
def onceP (c : Cd) (par inn sid : List Int) (s : Sta) : PS := c.instrs.foldl (oneP c par inn sid s.lines) ⟨0, [], 0, List.replicate c.regs.toNat 0, s.values, [], 0⟩
def onceM (c : Cd) (par inn sid : List Int) (s : Sta) : Int × Sta := ((onceP c par inn sid s).out, ⟨(onceP c par inn sid s).values, (onceP c par inn sid s).pushed.foldl updLn s.lines⟩)
theorem once_any {c : Cd} {par inn sid : List Int} {s : Sta} {ver : Nat} {row : List Int} {k : Nat} {out : Int} (E : EnvOk c par inn sid s.lines) (hchk : chkP c c.instrs 0 0 (List.replicate c.lines.length false) = true) (hr : (k : Int) = c.regs) (hv : s.values.length = c.states.length) :
    (c.instrs.foldl (oneP c par inn sid s.lines) ⟨ver, row, 0, List.replicate k 0, s.values, [], out⟩).out = (onceM c par inn sid s).1 ∧
    (c.instrs.foldl (oneP c par inn sid s.lines) ⟨ver, row, 0, List.replicate k 0, s.values, [], out⟩).values = (onceM c par inn sid s).2.values ∧
    (c.instrs.foldl (oneP c par inn sid s.lines) ⟨ver, row, 0, List.replicate k 0, s.values, [], out⟩).pushed = (onceP c par inn sid s).pushed := by
  have ek : c.regs.toNat = k := by omega
  have h1 := stepI_start (par := par) (inn := inn) (sid := sid) (lines := s.lines) (ver := ver) (row := row) (out := out) hchk hr hv
  have h2 := stepI_start (par := par) (inn := inn) (sid := sid) (lines := s.lines) (ver := 0) (row := []) (out := 0) hchk hr hv
  have h := sim_fold E _ _ _ h1 h2 ⟨rfl, by simp, rfl, rfl, rfl⟩
  have h3 := h.2 (.inr (has22 _ _ _ _ hchk (by decide)))
  simp only [onceM, onceP, ek]
  exact ⟨h3, h.1.values, h.1.pushed⟩
end Go.Fw.Mac
namespace Go.Fw.Mac
set_option linter.unusedSectionVars false
open Go.Fw
def Bn (v : Int) : Prop := -4611686018427387904 ≤ v ∧ v ≤ 4611686018427387904
theorem heldM_in {v lo hi : Int} (h : lo ≤ hi) : lo ≤ heldM v lo hi ∧ heldM v lo hi ≤ hi := by
  unfold heldM mm2; simp only; split <;> split <;> omega
theorem heldM_id {v lo hi : Int} (h1 : lo ≤ v) (h2 : v ≤ hi) : heldM v lo hi = v := by
  unfold heldM mm2; simp only; split <;> split <;> omega
theorem heldM_idem {v lo hi : Int} (h : lo ≤ hi) : heldM (heldM v lo hi) lo hi = heldM v lo hi := heldM_id (heldM_in h).1 (heldM_in h).2
theorem clM_bn (v : Int) : Bn (clM v) := heldM_in (by decide)
theorem clipM_in (v : Int) : -2147483648 ≤ clipM v ∧ clipM v ≤ 2147483647 := by
  unfold clipM
  by_cases h1 : v < -2147483648
  · simp [h1]
  · by_cases h2 : v > 2147483647
    · simp [h1, h2]
    · simp only [h1, h2, decide_false, cond_false]; omega
theorem clipM_fix {v : Int} : clipM v = v ↔ -2147483648 ≤ v ∧ v ≤ 2147483647 := by
  refine ⟨fun e => e ▸ clipM_in v, fun h => ?_⟩
  unfold clipM
  rw [decide_eq_false (by omega), decide_eq_false (by omega)]; rfl
structure BdOk (lo hi : Int) : Prop where
  l : -2147483648 ≤ lo
  le : lo ≤ hi
  h : hi ≤ 2147483647
theorem wrong_no {lo hi : Int} (h : wrongM lo hi = false) : BdOk lo hi := by
  unfold wrongM at h
  cases h1 : decide (lo < -2147483648) <;> cases h2 : decide (lo > hi) <;> rw [h1, h2] at h <;> simp only [cond_true, cond_false] at h <;> first | exact absurd h (by decide) | skip
  have h1 := of_decide_eq_false h1; have h2 := of_decide_eq_false h2; have h := of_decide_eq_false h
  exact ⟨by omega, by omega, by omega⟩
theorem anyB_no : ∀ {l : List Bd}, anyB l = false → ∀ b ∈ l, BdOk b.lo b.hi
  | [], _ => by simp
  | x :: r, h => by
    rw [anyB] at h
    cases hw : wrongM x.lo x.hi with
    | true => rw [hw] at h; simp at h
    | false =>
      rw [hw] at h
      intro b hb
      rcases List.mem_cons.1 hb with rfl | hb
      · exact wrong_no hw
      · exact anyB_no h b hb
theorem anyL_no : ∀ {l : List Ln}, anyL l = false → ∀ x ∈ l, BdOk x.lo x.hi ∧ 1 ≤ x.size ∧ x.size ≤ 65536
  | [], _ => by simp
  | x :: r, h => by
    rw [anyL] at h
    cases hw : badL x with
    | true => rw [hw] at h; simp at h
    | false =>
      rw [hw] at h
      intro b hb
      rcases List.mem_cons.1 hb with rfl | hb
      · unfold badL at hw
        cases h1 : wrongM b.lo b.hi <;> cases h2 : decide (b.size < 1) <;> rw [h1, h2] at hw <;> simp only [cond_true, cond_false] at hw <;> first | exact absurd hw (by decide) | skip
        have h2 := of_decide_eq_false h2; have hw := of_decide_eq_false hw
        exact ⟨wrong_no h1, by omega, by omega⟩
      · exact anyL_no h b hb
theorem anyT_no : ∀ {l : List (List Int)}, anyT l = false → ∀ t ∈ l, 1 ≤ t.length ∧ t.length ≤ 1024
  | [], _ => by simp
  | x :: r, h => by
    rw [anyT] at h
    cases hw : badT x with
    | true => rw [hw] at h; simp at h
    | false =>
      rw [hw] at h
      intro b hb
      rcases List.mem_cons.1 hb with rfl | hb
      · unfold badT at hw
        cases h1 : decide ((b.length : Int) < 1) <;> cases h2 : decide ((b.length : Int) > 1024) <;> rw [h1, h2] at hw <;> simp only [cond_true, cond_false] at hw <;> first | exact absurd hw (by decide) | skip
        have h1 := of_decide_eq_false h1; have h2 := of_decide_eq_false h2
        omega
      · exact anyT_no h b hb
theorem mostF_ge : ∀ (l : List Int) (i n k : Int), n ≤ (mostF l i n k).1 ∧ ∀ x ∈ l, x ≤ (mostF l i n k).1
  | [], i, n, k => by simp [mostF]
  | x :: r, i, n, k => by
    rw [mostF]
    cases h : decide (x > n) with
    | true =>
      have h := of_decide_eq_true h
      have ih := mostF_ge r (i + 1) x i
      simp only [cond_true]
      refine ⟨by omega, fun y hy => ?_⟩
      rcases List.mem_cons.1 hy with rfl | hy
      · exact ih.1
      · exact ih.2 y hy
    | false =>
      have h := of_decide_eq_false h
      have ih := mostF_ge r (i + 1) n k
      simp only [cond_false]
      refine ⟨ih.1, fun y hy => ?_⟩
      rcases List.mem_cons.1 hy with rfl | hy
      · omega
      · exact ih.2 y hy
structure CdOk (c : Cd) : Prop where
  sm : c.Sm
  lat : 0 ≤ c.latency ∧ c.latency ≤ 4096
  regs : 0 ≤ c.regs ∧ c.regs ≤ 65536
  nI : c.instrs.length ≤ 65536
  nP : c.params.length ≤ 16
  nS : c.states.length ≤ 16
  nL : c.lines.length ≤ 16
  nT : c.tables.length ≤ 16
  params : ∀ b ∈ c.params, BdOk b.lo b.hi
  states : ∀ b ∈ c.states, BdOk b.lo b.hi
  lines : ∀ x ∈ c.lines, BdOk x.lo x.hi ∧ 1 ≤ x.size ∧ x.size ≤ 65536
  tables : ∀ t ∈ c.tables, 1 ≤ t.length ∧ t.length ≤ 1024
  chk : chkP c c.instrs 0 0 (List.replicate c.lines.length false) = true
theorem and_two {a b : Bool} (h : (bif a then b else false) = true) : a = true ∧ b = true := by cases a <;> cases b <;> simp_all
theorem cdOk {c : Cd} (g : c.Sm) (h : checkP c = true) : CdOk c := by
  unfold checkP at h
  cases hd : decP c with
  | false => rw [hd] at h; simp at h
  | true =>
    rw [hd] at h
    simp only [Bool.not_true, cond_false] at h
    unfold decP at hd
    cases h1 : anyB [c.params, c.states].flatten <;> rw [h1] at hd <;> simp only [cond_true, cond_false] at hd
    rotate_left
    · exact absurd hd (by decide)
    cases h2 : anyL c.lines <;> rw [h2] at hd <;> simp only [cond_true, cond_false] at hd
    rotate_left
    · exact absurd hd (by decide)
    cases h3 : anyT c.tables <;> rw [h3] at hd <;> simp only [cond_true, cond_false] at hd
    rotate_left
    · exact absurd hd (by decide)
    unfold finP at hd
    obtain ⟨hd, e8⟩ := and_two hd
    obtain ⟨hd, e7⟩ := and_two hd
    obtain ⟨hd, e6⟩ := and_two hd
    obtain ⟨hd, e5⟩ := and_two hd
    obtain ⟨hd, e4⟩ := and_two hd
    obtain ⟨hd, e3⟩ := and_two hd
    obtain ⟨e1, e2⟩ := and_two hd
    have e1 := of_decide_eq_true e1; have e2 := of_decide_eq_true e2; have e3 := of_decide_eq_true e3
    have e6 := of_decide_eq_true e6; have e7 := of_decide_eq_true e7; have e8 := of_decide_eq_true e8
    have hm := (mostF_ge [(c.params.length : Int), (c.states.length : Int), (c.lines.length : Int), (c.tables.length : Int)] 0 0 0).2
    have hb := anyB_no h1
    refine ⟨g, ⟨e2, e3⟩, ⟨e6, e7⟩, by omega, ?_, ?_, ?_, ?_, fun b hb' => hb b (by simp [hb']), fun b hb' => hb b (by simp [hb']), anyL_no h2, anyT_no h3, h⟩
    · have := hm c.params.length (by simp); omega
    · have := hm c.states.length (by simp); omega
    · have := hm c.lines.length (by simp); omega
    · have := hm c.tables.length (by simp); omega
theorem getD_mem {α : Type} [Inhabited α] {l : List α} {i : Nat} {d : α} (h : i < l.length) : l.getD i d ∈ l := by
  simp [List.getD_eq_getElem?_getD, List.getElem?_eq_getElem h]
theorem firstL_at (x : Ln) : ∀ (l : List Int) (i : Int), 0 ≤ i → (firstL x l i ≥ 0 ∨ ∀ v ∈ l, badV x v = false) ∧ ((∀ v ∈ l, badV x v = false) → firstL x l i = -1)
  | [], i, _ => by simp [firstL]
  | v :: r, i, h => by
    rw [firstL]
    have ih := firstL_at x r (i + 1) (by omega)
    cases hb : badV x v with
    | true => simp only [cond_true]; exact ⟨.inl h, fun hh => by have := hh v (by simp); rw [hb] at this; exact absurd this (by decide)⟩
    | false =>
      simp only [cond_false]
      refine ⟨ih.1.imp id fun h w hw => ?_, fun hh => ih.2 fun w hw => hh w (by simp [hw])⟩
      rcases List.mem_cons.1 hw with rfl | hw
      · exact hb
      · exact h w hw
theorem badLn_iff {l : List Int} {x : Ln} : badLn l x = false ↔ (l.length : Int) = x.size ∧ ∀ v ∈ l, badV x v = false := by
  unfold badLn
  have h := firstL_at x l 0 (Int.le_refl _)
  cases h1 : ((l.length : Int) != x.size) with
  | true =>
    simp only [cond_true]
    have : (l.length : Int) ≠ x.size := by simpa using h1
    exact ⟨fun h => absurd h (by decide), fun h => absurd h.1 this⟩
  | false =>
    have : (l.length : Int) = x.size := by simpa using h1
    simp only [cond_false]
    refine ⟨fun hh => ⟨this, (h.1.resolve_left fun h2 => ?_)⟩, fun hh => ?_⟩
    · exact absurd h2 (of_decide_eq_false hh)
    · rw [h.2 hh.2]; decide
theorem ctlZ_iff : ∀ {l : List Int} {m : List Bd}, l.length = m.length → (ctlZ (l.zip m) = true ↔ ∀ i, i < m.length → heldM (l.getD i 0) (m.getD i default).lo (m.getD i default).hi = l.getD i 0)
  | [], [], _ => by simp [ctlZ]
  | [], _ :: _, h => by simp at h
  | _ :: _, [], h => by simp at h
  | x :: l, b :: m, h => by
    have ih := @ctlZ_iff l m (by simpa using h)
    rw [List.zip_cons_cons, ctlZ]
    cases hb : (x != heldM x b.lo b.hi) with
    | true =>
      simp only [cond_true]
      refine ⟨fun h => absurd h (by decide), fun h => ?_⟩
      have h0 := h 0 (by simp)
      simp only [List.getD_cons_zero] at h0
      rw [h0] at hb; simp at hb
    | false =>
      simp only [cond_false]
      have hb : x = heldM x b.lo b.hi := by simpa using hb
      rw [ih]
      refine ⟨fun h i hi => ?_, fun h i hi => ?_⟩
      · cases i with
        | zero => simpa using hb.symm
        | succ i => simpa using h i (by simpa using hi)
      · simpa using h (i + 1) (by simpa using hi)
theorem linZ_iff : ∀ {l : List (List Int)} {m : List Ln}, l.length = m.length → (linZ (l.zip m) = true ↔ ∀ i, i < m.length → badLn (l.getD i []) (m.getD i default) = false)
  | [], [], _ => by simp [linZ]
  | [], _ :: _, h => by simp at h
  | _ :: _, [], h => by simp at h
  | x :: l, b :: m, h => by
    have ih := @linZ_iff l m (by simpa using h)
    rw [List.zip_cons_cons, linZ]
    cases hb : badLn x b with
    | true =>
      simp only [cond_true]
      refine ⟨fun h => absurd h (by decide), fun h => ?_⟩
      have h0 := h 0 (by simp)
      simp only [List.getD_cons_zero] at h0
      rw [h0] at hb; simp at hb
    | false =>
      simp only [cond_false]
      rw [ih]
      refine ⟨fun h i hi => ?_, fun h i hi => ?_⟩
      · cases i with
        | zero => simpa using hb
        | succ i => simpa using h i (by simpa using hi)
      · simpa using h (i + 1) (by simpa using hi)
structure LsOk (c : Cd) (L : List (List Int)) : Prop where
  l : L.length = c.lines.length
  line : ∀ i, i < c.lines.length → ((L.getD i []).length : Int) = (c.lines.getD i default).size ∧ ∀ v ∈ L.getD i [], badV (c.lines.getD i default) v = false
structure VsOk (c : Cd) (V : List Int) : Prop where
  v : V.length = c.states.length
  val : ∀ i, i < c.states.length → heldM (V.getD i 0) (c.states.getD i default).lo (c.states.getD i default).hi = V.getD i 0
structure StOk (c : Cd) (s : Sta) : Prop where
  vs : VsOk c s.values
  ls : LsOk c s.lines
theorem stOk_iff {c : Cd} {s : Sta} : stateM c s = true ↔ StOk c s := by
  unfold stateM
  cases h : (bif (s.values.length : Int) != (c.states.length : Int) then true else (s.lines.length : Int) != (c.lines.length : Int)) with
  | true =>
    simp only [cond_true]
    refine ⟨fun h => absurd h (by decide), fun hh => ?_⟩
    rw [hh.vs.v, hh.ls.l] at h; simp at h
  | false =>
    obtain ⟨e1, e2⟩ := len_ne2 h
    have q1 := ctlZ_iff e1
    have q2 := linZ_iff e2
    simp only [cond_false]
    cases h1 : ctlZ (s.values.zip c.states) with
    | false =>
      simp only [Bool.not_false, cond_true]
      exact ⟨fun h => absurd h (by decide), fun hh => by rw [q1.2 hh.vs.val] at h1; exact absurd h1 (by decide)⟩
    | true =>
      simp only [Bool.not_true, cond_false]
      rw [q2]
      exact ⟨fun h => ⟨⟨e1, q1.1 h1⟩, e2, fun i hi => badLn_iff.1 (h i hi)⟩, fun h i hi => badLn_iff.2 (h.ls.line i hi)⟩
structure InvP (c : Cd) (p : PS) : Prop where
  row : ∀ v ∈ p.row.take p.n, Bn v
  regs : ∀ v ∈ p.regs, Bn v
  vals : VsOk c p.values
  pu : ∀ kv ∈ p.pushed, heldM kv.2 (c.lines.getD kv.1.toNat default).lo (c.lines.getD kv.1.toNat default).hi = kv.2
  out : clipM p.out = p.out
theorem row_push {row : List Int} {n k : Nat} {v : Int} (h : ∀ v ∈ row.take n, Bn v) (hk : k ≤ n) : ∀ w ∈ (row.take k ++ [clM v]).take (k + 1), Bn w := by
  intro w hw
  rcases List.mem_append.1 (List.mem_of_mem_take hw) with hw | hw
  · exact h w ((List.take_prefix_take_left (l := row) hk).sublist.mem hw)
  · rw [List.mem_singleton.1 hw]; exact clM_bn v
theorem row_pop {row : List Int} {n k : Nat} (h : ∀ v ∈ row.take n, Bn v) (hk : k ≤ n) : ∀ w ∈ row.take k, Bn w := fun w hw => h w ((List.take_prefix_take_left (l := row) hk).sublist.mem hw)
theorem row_top {row : List Int} {n k : Nat} (h : ∀ v ∈ row.take n, Bn v) (hk : k < n) (hr : n ≤ row.length) : Bn (row.getD k 0) := by
  refine h _ ?_
  have hk' : k < (row.take n).length := by rw [List.length_take]; omega
  have := List.getElem_mem hk'
  rw [List.getElem_take] at this
  rw [List.getD_eq_getElem?_getD, List.getElem?_eq_getElem (by omega)]; exact this
theorem putI_mem {k v : Int} : ∀ {l : List (Int × Int)} {kv : Int × Int}, kv ∈ putI k v l → kv = (k, v) ∨ kv ∈ l
  | [], kv, h => by simp only [putI, List.mem_singleton] at h; exact .inl h
  | (a, w) :: r, kv, h => by
    rw [putI] at h
    cases e : (k == a) <;> rw [e] at h <;> simp only [List.mem_cons] at h ⊢
    · rcases h with h | h
      · exact .inr (.inl h)
      · exact (putI_mem h).imp id .inr
    · rcases h with h | h
      · exact .inl h
      · exact .inr (.inr h)
section
variable {c : Cd} {par inn sid : List Int} {lines : List (List Int)} {F : PS}
theorem inv_next {r : List (Int × Int)} {x : Int × Int} {p : PS} (cd : CdOk c) (E : EnvOk c par inn sid lines) (h : StepI c par inn sid lines F (x :: r) p) (s : InvP c p) : InvP c (oneP c par inn sid lines p x) := by
  obtain ⟨op, a⟩ := x
  obtain ⟨ver, row, n, regs, values, pu, out⟩ := p
  obtain ⟨s1, s2, s3, s4, s5⟩ := s
  simp only at s1 s2 s3 s4 s5
  have hr : n ≤ row.length := h.row
  rcases mstep_ops E h with ⟨rfl, ⟨m, hm, -, -⟩⟩ | ⟨rfl, ⟨m, hm, -, -⟩, -⟩ | ⟨rfl, ⟨m, hm, -, -⟩, -⟩ | ⟨rfl, ⟨m, hm, -, -⟩, -⟩ | ⟨rfl, ⟨m, hm, -, -⟩, -⟩ | ⟨rfl, ⟨m, hm, -, -⟩, h0, -, h1⟩ | ⟨rfl, ⟨m, hm, -, -⟩, h0, h1⟩ | ⟨rfl, ⟨m, hm, -, -⟩, -⟩ | ⟨rfl, ⟨m, hm, -, -⟩, -⟩ | ⟨rfl, ⟨m, hm, -, -⟩, -⟩ | ⟨rfl, ⟨m, hm, -, -⟩, -⟩ | ⟨rfl, ⟨m, hm, -, -⟩⟩ | ⟨rfl, ⟨m, hm, -, -⟩⟩ | ⟨rfl, ⟨m, hm, -, -⟩⟩ | ⟨rfl, ⟨m, hm, -, -⟩⟩ | ⟨rfl, ⟨m, hm, -, -⟩⟩ | ⟨rfl, ⟨m, hm, -, -⟩⟩ | ⟨rfl, ⟨m, hm, -, -⟩⟩ | ⟨rfl, ⟨m, hm, -, -⟩⟩ | ⟨rfl, ⟨m, hm, -, -⟩, -⟩ | ⟨rfl, ⟨m, hm, -, -⟩⟩ | ⟨rfl, ⟨m, hm, -, -⟩⟩
  · simp only [oneP, Int.reduceBEq, cond_false, cond_true]
    exact ⟨row_push s1 (by omega), s2, s3, s4, s5⟩
  · simp only [oneP, Int.reduceBEq, cond_false, cond_true]
    exact ⟨row_push s1 (by omega), s2, s3, s4, s5⟩
  · simp only [oneP, Int.reduceBEq, cond_false, cond_true]
    exact ⟨row_push s1 (by omega), s2, s3, s4, s5⟩
  · simp only [oneP, Int.reduceBEq, cond_false, cond_true]
    exact ⟨row_push s1 (by omega), s2, s3, s4, s5⟩
  · simp only [oneP, Int.reduceBEq, cond_false, cond_true]
    refine ⟨row_pop s1 (show n - 1 ≤ n by omega), fun v hv => ?_, s3, s4, s5⟩
    rcases List.mem_or_eq_of_mem_set hv with hv | rfl
    · exact s2 v hv
    · exact row_top s1 (by omega) hr
  · simp only [oneP, Int.reduceBEq, cond_false, cond_true]
    refine ⟨row_pop s1 (show n - 1 ≤ n by omega), s2, ⟨by simpa using s3.v, fun i hi => ?_⟩, s4, s5⟩
    by_cases e : i = a.toNat
    · subst e
      have hlt : a.toNat < values.length := by rw [s3.v]; omega
      simp only [List.getD_eq_getElem?_getD, List.getElem?_set_self hlt, Option.getD_some]
      refine heldM_idem ?_
      have := (cd.states _ (getD_mem (d := default) hi)).le
      simpa only [List.getD_eq_getElem?_getD] using this
    · have hq := s3.val i hi
      simp only [List.getD_eq_getElem?_getD] at hq ⊢
      rw [List.getElem?_set_ne (fun e' => e e'.symm)]; exact hq
  · simp only [oneP, Int.reduceBEq, cond_false, cond_true]
    refine ⟨row_pop s1 (show n - 1 ≤ n by omega), s2, s3, fun kv hkv => ?_, s5⟩
    rcases putI_mem hkv with rfl | hkv
    · exact heldM_idem (cd.lines _ (getD_mem (by omega))).1.le
    · exact s4 kv hkv
  · simp only [oneP, Int.reduceBEq, cond_false, cond_true]
    exact ⟨row_push s1 (by omega), s2, s3, s4, s5⟩
  · simp only [oneP, Int.reduceBEq, cond_false, cond_true]
    exact ⟨row_push s1 (by omega), s2, s3, s4, s5⟩
  · simp only [oneP, Int.reduceBEq, cond_false, cond_true]
    exact ⟨row_push s1 (by omega), s2, s3, s4, s5⟩
  · simp only [oneP, Int.reduceBEq, cond_false, cond_true]
    exact ⟨row_push s1 (by omega), s2, s3, s4, s5⟩
  · simp only [oneP, Int.reduceBEq, cond_false, cond_true]
    exact ⟨row_push s1 (by omega), s2, s3, s4, s5⟩
  · simp only [oneP, Int.reduceBEq, cond_false, cond_true]
    exact ⟨row_push s1 (by omega), s2, s3, s4, s5⟩
  · simp only [oneP, Int.reduceBEq, cond_false, cond_true]
    exact ⟨row_push s1 (by omega), s2, s3, s4, s5⟩
  · simp only [oneP, Int.reduceBEq, cond_false, cond_true]
    exact ⟨row_push s1 (by omega), s2, s3, s4, s5⟩
  · simp only [oneP, Int.reduceBEq, cond_false, cond_true]
    exact ⟨row_push s1 (by omega), s2, s3, s4, s5⟩
  · simp only [oneP, Int.reduceBEq, cond_false, cond_true]
    exact ⟨row_push s1 (by omega), s2, s3, s4, s5⟩
  · simp only [oneP, Int.reduceBEq, cond_false, cond_true]
    exact ⟨row_push s1 (by omega), s2, s3, s4, s5⟩
  · simp only [oneP, Int.reduceBEq, cond_false, cond_true]
    exact ⟨row_push s1 (by omega), s2, s3, s4, s5⟩
  · simp only [oneP, Int.reduceBEq, cond_false, cond_true]
    exact ⟨row_push s1 (by omega), s2, s3, s4, s5⟩
  · simp only [oneP, Int.reduceBEq, cond_false, cond_true]
    exact ⟨row_push s1 (by omega), s2, s3, s4, s5⟩
  · simp only [oneP, Int.reduceBEq, cond_false, cond_true]
    exact ⟨row_pop s1 (show n - 1 ≤ n by omega), s2, s3, s4, clipM_fix.2 (clipM_in _)⟩
theorem inv_fold (cd : CdOk c) (E : EnvOk c par inn sid lines) : ∀ (r : List (Int × Int)) (p : PS), StepI c par inn sid lines F r p → InvP c p → InvP c F
  | [], p, h, s => by rw [mstep_end h]; exact s
  | x :: r, p, h, s => inv_fold cd E r _ (mstep_next E h) (inv_next cd E h s)
theorem stepI_n0 {p : PS} (h : StepI c par inn sid lines F [] p) : p.n = 0 := by
  obtain ⟨o, pk, hc, -, -⟩ := h.chk
  rw [chkP] at hc
  cases hn : ((p.n : Int) != 0) with
  | true => rw [hn] at hc; exact absurd hc (by simp)
  | false => have : (p.n : Int) = 0 := by simpa using hn
             omega
end
theorem upd_ok {c : Cd} (cd : CdOk c) {L : List (List Int)} {kv : Int × Int} (h : LsOk c L) (h0 : 0 ≤ kv.1 ∧ kv.1 < c.lines.length) (hv : heldM kv.2 (c.lines.getD kv.1.toNat default).lo (c.lines.getD kv.1.toNat default).hi = kv.2) : LsOk c (updLn L kv) := by
  refine ⟨by rw [updLn_len]; exact h.l, fun i hi => ?_⟩
  by_cases e : i = kv.1.toNat
  · subst e
    have hlt : kv.1.toNat < L.length := by rw [h.l]; exact hi
    have hq := h.line _ hi
    have hsz := (cd.lines _ (getD_mem (d := default) hi)).2
    have e : (updLn L kv).getD kv.1.toNat [] = kv.2 :: (L.getD kv.1.toNat []).dropLast := by
      simp only [updLn]
      rw [List.getD_eq_getElem?_getD, List.getElem?_set_self hlt]; rfl
    rw [e]
    refine ⟨by rw [List.length_cons, List.length_dropLast]; omega, fun v hv' => ?_⟩
    rcases List.mem_cons.1 hv' with rfl | hv'
    · unfold badV; rw [hv]; cases kv.2 != 0 <;> simp
    · exact hq.2 v (List.dropLast_sublist _ |>.mem hv')
  · rw [updLn_get e]; exact h.line i hi
theorem updF_ok {c : Cd} (cd : CdOk c) : ∀ (l : List (Int × Int)) (L : List (List Int)), LsOk c L → (∀ kv ∈ l, (0 ≤ kv.1 ∧ kv.1 < c.lines.length) ∧ heldM kv.2 (c.lines.getD kv.1.toNat default).lo (c.lines.getD kv.1.toNat default).hi = kv.2) → LsOk c (l.foldl updLn L)
  | [], L, h, _ => h
  | kv :: l, L, h, hh => updF_ok cd l _ (upd_ok cd h (hh kv (by simp)).1 (hh kv (by simp)).2) fun x hx => hh x (by simp [hx])
theorem env_of {c : Cd} (cd : CdOk c) {par inn sid : List Int} {L : List (List Int)} (hp : par.length = c.params.length) (hi : c.latency < inn.length) (hs : c.latency < sid.length) (hL : LsOk c L) : EnvOk c par inn sid L :=
  ⟨hp, hi, hs, cd.lat.1, hL.l, fun i hi => (hL.line i hi).1, fun i hi => (cd.lines _ (getD_mem hi)).2, fun i hi => cd.tables _ (getD_mem hi), cd.regs, cd.sm⟩
def mNext (c : Cd) (par inn sid : List Int) (m : PS × List (List Int)) : PS × List (List Int) :=
  let F := c.instrs.foldl (oneP c par inn sid m.2) ⟨m.1.ver, m.1.row, 0, List.replicate m.1.regs.length 0, m.1.values, [], m.1.out⟩
  (F, F.pushed.foldl updLn m.2)
def mAt (c : Cd) (ps : List (List Int)) (inn sid : List Int) (s : Sta) : Nat → PS × List (List Int)
  | 0 => (⟨0, [], 0, List.replicate c.regs.toNat 0, s.values, [], 0⟩, s.lines)
  | i + 1 => mNext c (ps.getD i []) (inn.drop i) (sid.drop i) (mAt c ps inn sid s i)
def stAt (c : Cd) (ps : List (List Int)) (inn sid : List Int) (s : Sta) : Nat → Sta
  | 0 => s
  | i + 1 => (onceM c (ps.getD i []) (inn.drop i) (sid.drop i) (stAt c ps inn sid s i)).2
def outAt (c : Cd) (ps : List (List Int)) (inn sid : List Int) (s : Sta) (i : Nat) : Int := (onceM c (ps.getD i []) (inn.drop i) (sid.drop i) (stAt c ps inn sid s i)).1
structure MOk (c : Cd) (m : PS × List (List Int)) : Prop where
  st : StOk c ⟨m.1.values, m.2⟩
  regs : (m.1.regs.length : Int) = c.regs
  n : m.1.n = 0
theorem once_next {c : Cd} (cd : CdOk c) {par inn sid : List Int} {m : PS × List (List Int)} (hm : MOk c m) (E : EnvOk c par inn sid m.2) (ho : clipM m.1.out = m.1.out) :
    MOk c (mNext c par inn sid m) ∧ (⟨(mNext c par inn sid m).1.values, (mNext c par inn sid m).2⟩ : Sta) = (onceM c par inn sid ⟨m.1.values, m.2⟩).2 ∧ (mNext c par inn sid m).1.out = (onceM c par inn sid ⟨m.1.values, m.2⟩).1 ∧ clipM (mNext c par inn sid m).1.out = (mNext c par inn sid m).1.out := by
  have hv : m.1.values.length = c.states.length := hm.st.vs.v
  have h1 := stepI_start (par := par) (inn := inn) (sid := sid) (lines := m.2) (ver := m.1.ver) (row := m.1.row) (out := m.1.out) cd.chk hm.regs hv
  have hI : InvP c ⟨m.1.ver, m.1.row, 0, List.replicate m.1.regs.length 0, m.1.values, [], m.1.out⟩ := by
    refine ⟨by simp, fun v hv => ?_, hm.st.vs, by simp, ho⟩
    rw [(List.mem_replicate.1 hv).2]; exact ⟨by decide, by decide⟩
  have hF := inv_fold cd E _ _ h1 hI
  have hE := stepI_fin E _ _ h1
  have hq := once_any (s := ⟨m.1.values, m.2⟩) (ver := m.1.ver) (row := m.1.row) (out := m.1.out) E cd.chk hm.regs hv
  refine ⟨⟨⟨hF.vals, updF_ok cd _ _ hm.st.ls fun kv hkv => ⟨hE.rng kv hkv, hF.pu kv hkv⟩⟩, hE.regs, stepI_n0 hE⟩, ?_, hq.1, hF.out⟩
  simp only [mNext]
  rw [hq.2.1, hq.2.2]; rfl
section
variable {c : Cd} {ps : List (List Int)} {inn sid : List Int} {s : Sta} {n : Nat}
structure RunOk (c : Cd) (ps : List (List Int)) (inn sid : List Int) (s : Sta) (n : Nat) : Prop where
  cd : CdOk c
  st : StOk c s
  ps : ∀ i, i < n → (ps.getD i []).length = c.params.length
  inn : (inn.length : Int) = n + c.latency
  sid : (sid.length : Int) = n + c.latency
theorem mAt_env (R : RunOk c ps inn sid s n) {i : Nat} (h : i < n) {L : List (List Int)} (hL : LsOk c L) : EnvOk c (ps.getD i []) (inn.drop i) (sid.drop i) L :=
  env_of R.cd (R.ps i h) (by have := R.inn; rw [List.length_drop]; omega) (by have := R.sid; rw [List.length_drop]; omega) hL
theorem mAt_ok (R : RunOk c ps inn sid s n) : ∀ i, i ≤ n → MOk c (mAt c ps inn sid s i) ∧ (⟨(mAt c ps inn sid s i).1.values, (mAt c ps inn sid s i).2⟩ : Sta) = stAt c ps inn sid s i ∧ clipM (mAt c ps inn sid s i).1.out = (mAt c ps inn sid s i).1.out
  | 0, _ => ⟨⟨R.st, by have := R.cd.regs; simp only [mAt, List.length_replicate]; omega, rfl⟩, rfl, show clipM 0 = 0 by decide⟩
  | i + 1, h => by
    obtain ⟨h1, h2, h3⟩ := mAt_ok R i (by omega)
    have q := once_next R.cd h1 (mAt_env R (show i < n by omega) h1.st.ls) h3
    refine ⟨q.1, q.2.1.trans ?_, q.2.2.2⟩
    first | (rw [h2]; done) | (rw [h2]; rfl)
theorem mAt_out (R : RunOk c ps inn sid s n) {i : Nat} (h : i < n) : (mAt c ps inn sid s (i + 1)).1.out = outAt c ps inn sid s i := by
  obtain ⟨h1, h2, h3⟩ := mAt_ok R i (by omega)
  have q := once_next R.cd h1 (mAt_env R h h1.st.ls) h3
  refine q.2.2.1.trans ?_
  rw [h2]; rfl
theorem stAt_ok (R : RunOk c ps inn sid s n) {i : Nat} (h : i ≤ n) : StOk c (stAt c ps inn sid s i) := by
  obtain ⟨h1, h2, h3⟩ := mAt_ok R i h
  rw [← h2]; exact h1.st
theorem outAt_ok (R : RunOk c ps inn sid s n) {i : Nat} (h : i < n) : clipM (outAt c ps inn sid s i) = outAt c ps inn sid s i := by
  rw [← mAt_out R h]; exact (mAt_ok R (i + 1) (by omega)).2.2
end
end Go.Fw.Mac
namespace Go.Fw
set_option linter.unusedSectionVars false
variable [GlobInt]
theorem BrI.ff_of {c : Bool} {p q : Prop} (h : c = false) (hq : q) : BrI c p q := by subst h; exact BrI.ff hq
end Go.Fw
namespace Go.Fw.Mac
set_option linter.unusedSectionVars false
open Go.Fw
variable [GlobInt]
def lastP (ps : List (List Int)) : Nat → List Int
  | 0 => []
  | i + 1 => ps.getD i []
def lastI (l : List Int) : Nat → List Int
  | 0 => []
  | i + 1 => l.drop i
theorem drop_getD {ps : List (List Int)} {i : Nat} {x : List Int} {r : List (List Int)} (h : ps.drop i = x :: r) : ps.getD i [] = x := by
  rw [List.getD_eq_getElem?_getD, drop_get h]; rfl
section
variable {c : Cd} {ps : List (List Int)} {inn sid : List Int} {s : Sta} {i k : Nat} {x : List Int} {r : List (List Int)}
theorem steps_lt (h : ps.drop i = x :: r) (hk : k = i) : k < ps.length := hk ▸ drop_lt h
theorem steps_end {k : Nat} (h : ps.drop i = []) (hk : k = i ∧ k ≤ ps.length) : k = ps.length := by have := drop_ge h; omega
theorem steps_E (R : RunOk c ps inn sid s ps.length) (h : ps.drop i = x :: r) (hk : k = i) : EnvOk c x (inn.drop k) (sid.drop k) (mAt c ps inn sid s k).2 := by
  have hl := steps_lt h hk
  have e := drop_getD h
  rw [← hk] at e; rw [← e]
  exact mAt_env R hl (mAt_ok R k (Nat.le_of_lt hl)).1.st.ls
theorem steps_S (R : RunOk c ps inn sid s ps.length) (h : ps.drop i = x :: r) (hk : k = i) :
    StepI c x (inn.drop k) (sid.drop k) (mAt c ps inn sid s k).2 (mAt c ps inn sid s (k + 1)).1 c.instrs ⟨(mAt c ps inn sid s k).1.ver, (mAt c ps inn sid s k).1.row, 0, List.replicate (mAt c ps inn sid s k).1.regs.length 0, (mAt c ps inn sid s k).1.values, [], (mAt c ps inn sid s k).1.out⟩ := by
  have hl := steps_lt h hk
  have e := drop_getD h
  rw [← hk] at e; rw [← e]
  have q := (mAt_ok R k (Nat.le_of_lt hl)).1
  exact stepI_start R.cd.chk q.regs q.st.vs.v
theorem steps_n (R : RunOk c ps inn sid s ps.length) (h : ps.drop i = x :: r) (hk : k = i) : (mAt c ps inn sid s (k + 1)).1.n = 0 := (mAt_ok R (k + 1) (steps_lt h hk)).1.n
theorem ints_drop {l : List Int} {i k : Nat} (h : k = i) : D.sl 1 (cut (some (i : Int)) none (l.map intC)) = ints (l.drop k) := by subst h; show D.sl 1 ((l.map intC).drop (k : Int).toNat) = _; rw [Int.toNat_natCast, ← List.map_drop]
theorem last_p (h : ps.drop i = x :: r) (hk : k = i) : AV.data (ints x) = AV.data (ints (lastP ps (k + 1))) := by subst hk; rw [lastP, drop_getD h]
theorem last_i {l : List Int} (h : k = i) : AV.data (D.sl 1 (cut (some (i : Int)) none (l.map intC))) = AV.data (ints (lastI l (k + 1))) := congrArg AV.data (ints_drop h)
end
end Go.Fw.Mac
namespace Go.Fw.Mac
set_option linter.unusedSectionVars false
open Go.Fw
end Go.Fw.Mac
namespace Go.Fw.Mac
set_option linter.unusedSectionVars false
open Go.Fw
end Go.Fw.Mac
namespace Go.Fw.Mac
set_option linter.unusedSectionVars false
open Go.Fw
theorem op_cases (op : Int) : (op = 1 ∨ op = 2 ∨ op = 3 ∨ op = 4 ∨ op = 5 ∨ op = 6 ∨ op = 7 ∨ op = 8 ∨ op = 9 ∨ op = 10 ∨ op = 11 ∨ op = 12 ∨ op = 13 ∨ op = 14 ∨ op = 15 ∨ op = 16 ∨ op = 17 ∨ op = 18 ∨ op = 19 ∨ op = 20 ∨ op = 21 ∨ op = 22) ∨ (∀ k : Int, 1 ≤ k → k ≤ 22 → (op == k) = false) := by
  by_cases h : 1 ≤ op ∧ op ≤ 22
  · left; omega
  · right; intro k h1 h2
    have : op ≠ k := by omega
    simpa using this
theorem ref_gen (t ps lo hi a n : Int) (ht : 0 ≤ t) : refP (t, ps, lo, hi) a n = (bif (bif (bif !true then true else !(bif decide (a ≥ lo) then decide (a ≤ hi) else false)) then true else decide (n < t)) then true else decide (W (W (n - t) + ps) > 64)) := by
  unfold refP
  simp only
  rw [decide_eq_false (show ¬ t < 0 by omega)]
  by_cases h1 : a < lo <;> by_cases h2 : a > hi
  · rw [decide_eq_true h1, decide_eq_true h2, decide_eq_false (show ¬ a ≥ lo by omega)]; simp
  · rw [decide_eq_true h1, decide_eq_false h2, decide_eq_false (show ¬ a ≥ lo by omega)]; simp
  · rw [decide_eq_false h1, decide_eq_true h2, decide_eq_true (show a ≥ lo by omega), decide_eq_false (show ¬ a ≤ hi by omega)]; simp
  · rw [decide_eq_false h1, decide_eq_false h2, decide_eq_true (show a ≥ lo by omega), decide_eq_true (show a ≤ hi by omega)]; simp
def refR2 (c : Cd) (x : Int × Int) (n : Int) : Bool := bif refR c x n then true else decide (W (W (n - (takesR x.1).1) + (takesR x.1).2.1) > 64)
theorem ref_one {c : Cd} {op a n t ps lo hi : Int} (e1 : effP c op = (t, ps, lo, hi)) (e2 : takesR op = (t, ps, true)) (e3 : bndsR c op = (lo, hi)) (ht : 0 ≤ t) : refP (effP c op) a n = refR2 c (op, a) n := by
  unfold refR2 refR operR
  rw [e1, e2, e3]
  exact ref_gen t ps lo hi a n ht
theorem ref_eq (c : Cd) (op a n : Int) : refP (effP c op) a n = refR2 c (op, a) n := by
  rcases op_cases op with (rfl | rfl | rfl | rfl | rfl | rfl | rfl | rfl | rfl | rfl | rfl | rfl | rfl | rfl | rfl | rfl | rfl | rfl | rfl | rfl | rfl | rfl) | h
  iterate 22 exact ref_one rfl rfl rfl (by decide)
  have e1 : effP c op = (-1, 0, 0, 0) := by
    unfold effP
    simp only [h 1 (by decide) (by decide), h 2 (by decide) (by decide), h 3 (by decide) (by decide), h 4 (by decide) (by decide), h 5 (by decide) (by decide), h 6 (by decide) (by decide), h 7 (by decide) (by decide), h 8 (by decide) (by decide), h 9 (by decide) (by decide), h 10 (by decide) (by decide), h 11 (by decide) (by decide), h 12 (by decide) (by decide), h 13 (by decide) (by decide), h 14 (by decide) (by decide), h 15 (by decide) (by decide), h 16 (by decide) (by decide), h 17 (by decide) (by decide), h 18 (by decide) (by decide), h 19 (by decide) (by decide), h 20 (by decide) (by decide), h 21 (by decide) (by decide), h 22 (by decide) (by decide), cond_false]
  have e2 : takesR op = (0, 0, false) := by
    unfold takesR
    simp only [h 1 (by decide) (by decide), h 2 (by decide) (by decide), h 3 (by decide) (by decide), h 4 (by decide) (by decide), h 5 (by decide) (by decide), h 6 (by decide) (by decide), h 7 (by decide) (by decide), h 8 (by decide) (by decide), h 9 (by decide) (by decide), h 10 (by decide) (by decide), h 11 (by decide) (by decide), h 12 (by decide) (by decide), h 13 (by decide) (by decide), h 14 (by decide) (by decide), h 15 (by decide) (by decide), h 16 (by decide) (by decide), h 17 (by decide) (by decide), h 18 (by decide) (by decide), h 19 (by decide) (by decide), h 20 (by decide) (by decide), h 21 (by decide) (by decide), h 22 (by decide) (by decide), cond_false]
  unfold refR2 refR refP
  rw [e1, e2]
  simp
theorem eff_takes {c : Cd} {op a n : Int} (hb : refP (effP c op) a n = false) : (effP c op).1 = (takesR op).1 ∧ (effP c op).2.1 = (takesR op).2.1 ∧ 0 ≤ (takesR op).1 ∧ (takesR op).1 ≤ 4 ∧ 0 ≤ (takesR op).2.1 ∧ (takesR op).2.1 ≤ 1 := by
  rcases ops_of hb with rfl | rfl | rfl | rfl | rfl | rfl | rfl | rfl | rfl | rfl | rfl | rfl | rfl | rfl | rfl | rfl | rfl | rfl | rfl | rfl | rfl | rfl
  all_goals exact ⟨rfl, rfl, by decide, by decide, by decide, by decide⟩
theorem refR2_no {c : Cd} {x : Int × Int} {n : Int} (h : refR2 c x n = false) : refR c x n = false ∧ decide (W (W (n - (takesR x.1).1) + (takesR x.1).2.1) > 64) = false := by
  unfold refR2 at h
  cases h1 : refR c x n with
  | true => rw [h1] at h; simp at h
  | false => rw [h1] at h; exact ⟨rfl, h⟩
theorem refR2_yes {c : Cd} {x : Int × Int} {n : Int} {b : Bool} (h : refR2 c x n = true) : (bif refR c x n then false else bif decide (W (W (n - (takesR x.1).1) + (takesR x.1).2.1) > 64) then false else b) = false := by
  unfold refR2 at h
  cases h1 : refR c x n with
  | true => rfl
  | false => rw [h1] at h; simp only [cond_false] at h ⊢; rw [h]; rfl
theorem chk_eq (c : Cd) : ∀ (r : List (Int × Int)) (n o : Int) (pu : List Bool), 0 ≤ n → n ≤ 64 → chkP c r n o pu = chkR c r n o pu
  | [], _, _, _, _, _ => rfl
  | x :: r, n, o, pu, h0, h1 => by
    have hr := ref_eq c x.1 x.2 n
    rw [chkP, chkR]
    cases hb : refP (effP c x.1) x.2 n with
    | true =>
      rw [hb] at hr
      rw [refR2_yes hr.symm]; rfl
    | false =>
      rw [hb] at hr
      obtain ⟨q1, q2⟩ := refR2_no hr.symm
      obtain ⟨t1, t2, t3, t4, t5, t6⟩ := eff_takes hb
      have hi := ref_in hb
      rw [t1, t2] at hi
      rw [q1, q2, t1, t2]
      simp only [cond_false]
      have q3 := of_decide_eq_false q2
      have e1 : W ((takesR x.1).2.1 - (takesR x.1).1) = (takesR x.1).2.1 - (takesR x.1).1 := W_ok (by omega) (by omega)
      have e2 : W (n - (takesR x.1).1) = n - (takesR x.1).1 := W_ok (by omega) (by omega)
      have e3 : W (n - (takesR x.1).1 + (takesR x.1).2.1) = n - (takesR x.1).1 + (takesR x.1).2.1 := W_ok (by omega) (by omega)
      rw [e2] at q3 ⊢
      rw [e3] at q3
      have e4 : n + ((takesR x.1).2.1 - (takesR x.1).1) = n - (takesR x.1).1 + (takesR x.1).2.1 := by omega
      rw [e1, e4]
      rw [e3]
      have ih := fun o pu => chk_eq c r (n - (takesR x.1).1 + (takesR x.1).2.1) o pu (by omega) (by omega)
      rw [ih, ih, ih]
      cases h2 : (x.1 == 22) with
      | true =>
        have e : x.1 = 22 := by simpa using h2
        rw [e]; rfl
      | false => rfl
theorem not_betw (lo hi : Int) : (!(betwR lo hi)) = wrongM lo hi := by
  unfold betwR wrongM
  by_cases h1 : lo < -2147483648 <;> by_cases h2 : lo > hi <;> by_cases h3 : hi > 2147483647
  all_goals (first | rw [decide_eq_true h1, decide_eq_false (show ¬ lo ≥ -2147483648 by omega)] | rw [decide_eq_false h1, decide_eq_true (show lo ≥ -2147483648 by omega)])
  all_goals (first | rw [decide_eq_true h2, decide_eq_false (show ¬ lo ≤ hi by omega)] | rw [decide_eq_false h2, decide_eq_true (show lo ≤ hi by omega)])
  all_goals (first | rw [decide_eq_true h3, decide_eq_false (show ¬ hi ≤ 2147483647 by omega)] | rw [decide_eq_false h3, decide_eq_true (show hi ≤ 2147483647 by omega)])
  all_goals rfl
theorem allB_eq : ∀ l : List Bd, allB l = !(anyB l)
  | [] => rfl
  | b :: r => by rw [allB, anyB, not_betw, allB_eq r]; cases wrongM b.lo b.hi <;> rfl
theorem okL_eq (x : Ln) : okL x = !(badL x) := by unfold okL badL; rw [not_betw]
theorem allL_eq : ∀ l : List Ln, allL l = !(anyL l)
  | [] => rfl
  | x :: r => by rw [allL, anyL, okL_eq, allL_eq r]; cases badL x <;> rfl
theorem firstW_at : ∀ (l : List Int) (i : Int), 0 ≤ i → decide (firstW l i ≥ 0) = !(allN l)
  | [], i, _ => by rw [firstW, allN]; rfl
  | x :: r, i, h => by
    rw [firstW, allN, not_betw]
    cases wrongM x x with
    | true => simp only [cond_true]; rw [decide_eq_true h]; rfl
    | false => simp only [cond_false]; exact firstW_at r (i + 1) (by omega)
theorem badT_eq (t : List Int) : badT t = !(bif okTl t then allN t else false) := by
  unfold badT okTl
  rw [firstW_at t 0 (Int.le_refl _)]
  cases (bif decide ((t.length : Int) < 1) then true else decide ((t.length : Int) > 1024)) <;> rfl
theorem allT_eq : ∀ l : List (List Int), allT l = !(anyT l)
  | [] => rfl
  | t :: r => by
    rw [allT, anyT, badT_eq, allT_eq r]
    cases okTl t <;> cases allN t <;> rfl
theorem anyB_app : ∀ l m : List Bd, anyB (l ++ m) = (bif anyB l then true else anyB m)
  | [], m => rfl
  | b :: r, m => by
    rw [List.cons_append, anyB, anyB, anyB_app r m]
    cases wrongM b.lo b.hi <;> rfl
theorem mostF_le : ∀ (l : List Int) (i n k m : Int), (mostF l i n k).1 ≤ m ↔ n ≤ m ∧ ∀ x ∈ l, x ≤ m
  | [], i, n, k, m => by simp [mostF]
  | x :: r, i, n, k, m => by
    rw [mostF]
    by_cases h : x > n
    · rw [decide_eq_true h]; simp only [cond_true]
      rw [mostF_le r, List.forall_mem_cons]
      constructor
      · intro q; exact ⟨by omega, q⟩
      · intro q; exact q.2
    · rw [decide_eq_false h]; simp only [cond_false]
      rw [mostF_le r, List.forall_mem_cons]
      constructor
      · intro q; exact ⟨q.1, by omega, q.2⟩
      · intro q; exact ⟨q.1, q.2.2⟩
theorem dec_eq (c : Cd) : decP c = decR c := by
  have hp : ∀ {a b : Bool}, (a = true ↔ b = true) → a = b := fun {a b} h => by cases a <;> cases b <;> simp_all
  apply hp
  have e0 : [c.params, c.states].flatten = c.params ++ c.states := by simp
  have b1 : ∀ {a b : Bool}, (bif a then b else false) = true ↔ a = true ∧ b = true := fun {a b} => by cases a <;> cases b <;> simp
  have b2 : ∀ {a b : Bool}, (bif a then true else b) = false ↔ a = false ∧ b = false := fun {a b} => by cases a <;> cases b <;> simp
  have b3 : ∀ {a b : Bool}, (bif a then false else b) = true ↔ a = false ∧ b = true := fun {a b} => by cases a <;> cases b <;> simp
  have hm := mostF_le [(c.params.length : Int), (c.states.length : Int), (c.lines.length : Int), (c.tables.length : Int)] 0 0 0 16
  unfold decP decR headR finP finR boundsR
  rw [e0, anyB_app, allB_eq, allB_eq, allL_eq, allT_eq]
  simp only [b1, b2, b3, Bool.not_not, Bool.not_eq_false', Bool.not_eq_true', decide_eq_true_eq, decide_eq_false_iff_not, hm, List.forall_mem_cons, List.not_mem_nil, false_implies, implies_true, and_true]
  constructor
  · rintro ⟨⟨h1, h2⟩, h3, h4, ⟨⟨⟨⟨⟨⟨⟨h5, h6, h7, h8, h9⟩, h10⟩, h11⟩, h12⟩, h13⟩, h14⟩, h15⟩, h16⟩
    refine ⟨⟨⟨⟨⟨⟨⟨⟨by omega, by omega⟩, by omega⟩, by omega⟩, h1, by omega⟩, h2, by omega⟩, by omega⟩, by omega⟩, h3, h4, ⟨by omega, by omega⟩, by omega⟩
  · rintro ⟨⟨⟨⟨⟨⟨⟨⟨h1, h2⟩, h3⟩, h4⟩, h5, h6⟩, h7, h8⟩, h9⟩, h10⟩, h11, h12, ⟨h13, h14⟩, h15⟩
    refine ⟨⟨h5, h7⟩, h11, h12, ⟨⟨⟨⟨⟨⟨⟨by omega, by omega, by omega, by omega, by omega⟩, by omega⟩, by omega⟩, by omega⟩, by omega⟩, by omega⟩, by omega⟩, by omega⟩
theorem check_eq (c : Cd) : checkR c = checkP c := by
  unfold checkR checkP
  rw [dec_eq c, chk_eq c _ _ _ _ (by decide) (by decide)]
end Go.Fw.Mac
namespace Go.Fw.Mac
set_option linter.unusedSectionVars false
open Go.Fw
abbrev argsBad (c : Cd) (np : Int) (inn sid : List Int) (n fuel : Int) : Bool :=
  bif (bif (bif (bif (bif (bif decide (n < 0) then true else decide (n > 65536)) then true else decide (fuel < 0)) then true else decide (fuel > 16777216)) then true else np != n) then true else !(samplesM c inn n)) then true else !(samplesM c sid n)
def runM (c : Cd) (s : Sta) (ps : List (List Int)) (inn sid : List Int) (n fuel : Int) : List Int × Sta × Int × Int :=
  bif !(checkP c) then ([], ⟨[], []⟩, 0, 200) else
  bif argsBad c (ps.length : Int) inn sid n fuel then ([], ⟨[], []⟩, 0, 1) else
  bif decide (firstC c ps 0 ≥ 0) then ([], ⟨[], []⟩, 0, 1) else
  bif !(stateM c s) then ([], ⟨[], []⟩, 0, 180) else
  bif decide (W (fuel - W (n * (c.instrs.length : Int))) < 0) then ([], ⟨[], []⟩, 0, 201) else
  ((List.range ps.length).map (outAt c ps inn sid s), stAt c ps inn sid s ps.length, W (fuel - W (n * (c.instrs.length : Int))), 0)
abbrev runD (r : List Int × Sta × Int × Int) : D := .tuple [ints r.1, r.2.1.d, .i r.2.2.1, .i r.2.2.2]
def stepM (c : Cd) (par inn sid : List Int) (s : Sta) : Int × Sta × Int :=
  bif (runM c s [par] inn sid 1 16777216).2.2.2 != 0 then (0, (runM c s [par] inn sid 1 16777216).2.1, (runM c s [par] inn sid 1 16777216).2.2.2) else
  ((runM c s [par] inn sid 1 16777216).1.getD 0 0, (runM c s [par] inn sid 1 16777216).2.1, 0)
abbrev stepD (r : Int × Sta × Int) : D := .tuple [.i r.1, r.2.1.d, .i r.2.2]
theorem firstS_iff : ∀ (l : List Int) (i : Int), 0 ≤ i → (decide (firstS l i ≥ 0) = false ↔ ∀ v ∈ l, clipM v = v)
  | [], i, _ => by rw [firstS]; simp
  | x :: r, i, h => by
    rw [firstS, List.forall_mem_cons, ← firstS_iff r (i + 1) (by omega)]
    cases hb : (x != clipM x) with
    | true =>
      have : clipM x ≠ x := fun e => by rw [e] at hb; simp at hb
      simp only [cond_true]
      exact ⟨fun q => absurd h (of_decide_eq_false q), fun q => absurd q.1 this⟩
    | false =>
      have : clipM x = x := by simpa using (by simpa using hb : x = clipM x).symm
      simp only [cond_false]
      exact ⟨fun q => ⟨this, q⟩, fun q => q.2⟩
theorem firstC_iff (c : Cd) : ∀ (l : List (List Int)) (i : Int), 0 ≤ i → (decide (firstC c l i ≥ 0) = false ↔ ∀ v ∈ l, controlsM c v = true)
  | [], i, _ => by rw [firstC]; simp
  | x :: r, i, h => by
    rw [firstC, List.forall_mem_cons, ← firstC_iff c r (i + 1) (by omega)]
    cases hb : controlsM c x with
    | false =>
      simp only [Bool.not_false, cond_true]
      exact ⟨fun q => absurd h (of_decide_eq_false q), fun q => absurd q.1 (by decide)⟩
    | true =>
      simp only [Bool.not_true, cond_false]
      exact ⟨fun q => ⟨trivial, q⟩, fun q => q.2⟩
theorem samplesM_iff {c : Cd} {l : List Int} {n : Int} (h : 0 ≤ c.latency ∧ c.latency ≤ 4096) (hn : 0 ≤ n ∧ n ≤ 65536) : samplesM c l n = true ↔ (l.length : Int) = n + c.latency ∧ ∀ v ∈ l, clipM v = v := by
  unfold samplesM
  rw [W_ok (n := n + c.latency) (by omega) (by omega)]
  by_cases e : (l.length : Int) = n + c.latency
  · rw [show ((l.length : Int) == n + c.latency) = true by simpa using e]
    simp only [cond_true, e, true_and]
    rw [← firstS_iff l 0 (Int.le_refl _)]
    cases decide (firstS l 0 ≥ 0) <;> simp
  · rw [show ((l.length : Int) == n + c.latency) = false by simpa using e]
    simp only [cond_false, e, false_and]
    simp
structure ArgsOk (c : Cd) (np : Nat) (inn sid : List Int) (n fuel : Int) : Prop where
  hn : 0 ≤ n ∧ n ≤ 65536
  hf : 0 ≤ fuel ∧ fuel ≤ 16777216
  hnp : (np : Int) = n
  hinn : (inn.length : Int) = n + c.latency
  innC : ∀ v ∈ inn, clipM v = v
  hsid : (sid.length : Int) = n + c.latency
  sidC : ∀ v ∈ sid, clipM v = v
theorem or_no {a b : Bool} : (bif a then true else b) = false ↔ a = false ∧ b = false := by cases a <;> cases b <;> simp
theorem args_iff {c : Cd} {np : Nat} {inn sid : List Int} {n fuel : Int} (h : 0 ≤ c.latency ∧ c.latency ≤ 4096) : argsBad c (np : Int) inn sid n fuel = false ↔ ArgsOk c np inn sid n fuel := by
  unfold argsBad
  rw [or_no, or_no, or_no, or_no, or_no, or_no]
  constructor
  · rintro ⟨⟨⟨⟨⟨⟨h1, h2⟩, h3⟩, h4⟩, h5⟩, h6⟩, h7⟩
    have h1 := of_decide_eq_false h1; have h2 := of_decide_eq_false h2; have h3 := of_decide_eq_false h3; have h4 := of_decide_eq_false h4
    have h5 : (np : Int) = n := by simpa using h5
    have h6 := (samplesM_iff (n := n) h ⟨by omega, by omega⟩).1 (by simpa using h6)
    have h7 := (samplesM_iff (n := n) h ⟨by omega, by omega⟩).1 (by simpa using h7)
    exact ⟨⟨by omega, by omega⟩, ⟨by omega, by omega⟩, h5, h6.1, h6.2, h7.1, h7.2⟩
  · rintro ⟨h1, h2, h3, h4, h5, h6, h7⟩
    refine ⟨⟨⟨⟨⟨⟨decide_eq_false (by omega), decide_eq_false (by omega)⟩, decide_eq_false (by omega)⟩, decide_eq_false (by omega)⟩, by simpa using h3⟩, ?_⟩, ?_⟩
    · rw [(samplesM_iff h h1).2 ⟨h4, h5⟩]; rfl
    · rw [(samplesM_iff h h1).2 ⟨h6, h7⟩]; rfl
structure RunGood (c : Cd) (s : Sta) (ps : List (List Int)) (inn sid : List Int) (n fuel : Int) : Prop where
  chk : checkP c = true
  args : ArgsOk c ps.length inn sid n fuel
  ctl : ∀ l ∈ ps, controlsM c l = true
  st : stateM c s = true
  enough : n * (c.instrs.length : Int) ≤ fuel
section
variable {c : Cd} {s : Sta} {ps : List (List Int)} {inn sid : List Int} {n fuel : Int}
theorem fuel_W (h : CdOk c) (hn : 0 ≤ n ∧ n ≤ 65536) (hf : 0 ≤ fuel ∧ fuel ≤ 16777216) : W (fuel - W (n * (c.instrs.length : Int))) = fuel - n * (c.instrs.length : Int) ∧ 0 ≤ n * (c.instrs.length : Int) := by
  have h1 := h.nI
  have h2 : 0 ≤ n * (c.instrs.length : Int) := Int.mul_nonneg hn.1 (by omega)
  have h3 : n * (c.instrs.length : Int) ≤ 65536 * 65536 := Int.mul_le_mul hn.2 (by omega) (by omega) (by omega)
  refine ⟨?_, h2⟩
  rw [W_ok (n := n * (c.instrs.length : Int)) (by omega) (by omega), W_ok (by omega) (by omega)]
theorem run_good (g : c.Sm) (h : RunGood c s ps inn sid n fuel) : runM c s ps inn sid n fuel = ((List.range ps.length).map (outAt c ps inn sid s), stAt c ps inn sid s ps.length, fuel - n * (c.instrs.length : Int), 0) := by
  have cd := cdOk g h.chk
  have hf := fuel_W cd h.args.hn h.args.hf
  have he := h.enough
  unfold runM
  rw [h.chk, (args_iff cd.lat).2 h.args, (firstC_iff c ps 0 (Int.le_refl _)).2 h.ctl, h.st, hf.1, decide_eq_false (by omega)]
  rfl
theorem run_cases (g : c.Sm) : RunGood c s ps inn sid n fuel ∨ ((runM c s ps inn sid n fuel).1 = [] ∧ (runM c s ps inn sid n fuel).2.1 = ⟨[], []⟩ ∧ (runM c s ps inn sid n fuel).2.2.1 = 0 ∧ (runM c s ps inn sid n fuel).2.2.2 ≠ 0 ∧
    ((runM c s ps inn sid n fuel).2.2.2 = 201 → 0 ≤ fuel ∧ fuel < n * (c.instrs.length : Int) ∧ n = ps.length)) := by
  unfold runM
  cases h1 : checkP c with
  | false => right; simp
  | true =>
    have cd := cdOk g h1
    simp only [Bool.not_true, cond_false]
    cases h2 : argsBad c (ps.length : Int) inn sid n fuel with
    | true => right; simp
    | false =>
      have ha := (args_iff cd.lat).1 h2
      simp only [cond_false]
      cases h3 : decide (firstC c ps 0 ≥ 0) with
      | true => right; simp
      | false =>
        simp only [cond_false]
        cases h4 : stateM c s with
        | false => right; simp
        | true =>
          have hf := fuel_W cd ha.hn ha.hf
          simp only [Bool.not_true, cond_false]
          rw [hf.1]
          by_cases h5 : fuel - n * (c.instrs.length : Int) < 0
          · right
            rw [decide_eq_true h5]
            refine ⟨rfl, rfl, rfl, (show (201 : Int) ≠ 0 by decide), fun _ => ⟨ha.hf.1, by omega, ha.hnp.symm⟩⟩
          · left
            exact ⟨h1, ha, (firstC_iff c ps 0 (Int.le_refl _)).1 h3, h4, by omega⟩
theorem run_zero (g : c.Sm) (h : (runM c s ps inn sid n fuel).2.2.2 = 0) : RunGood c s ps inn sid n fuel := by
  rcases run_cases (s := s) (ps := ps) (inn := inn) (sid := sid) (n := n) (fuel := fuel) g with h1 | h1
  · exact h1
  · exact absurd h h1.2.2.2.1
theorem ctl_len {l : List Int} (h : controlsM c l = true) : l.length = c.params.length := by
  unfold controlsM at h
  cases hb : ((l.length : Int) != (c.params.length : Int)) with
  | true => rw [hb] at h; simp at h
  | false => exact len_ne hb
theorem run_ok (g : c.Sm) (h : RunGood c s ps inn sid n fuel) : RunOk c ps inn sid s ps.length := by
  refine ⟨cdOk g h.chk, stOk_iff.1 h.st, fun i hi => ?_, by rw [h.args.hnp]; exact h.args.hinn, by rw [h.args.hnp]; exact h.args.hsid⟩
  exact ctl_len (h.ctl _ (by rw [List.getD_eq_getElem?_getD, List.getElem?_eq_getElem hi]; exact List.getElem_mem hi))
theorem run_len (h : RunGood c s ps inn sid n fuel) : ps.length ≤ 65536 := by have := h.args.hn; have := h.args.hnp; omega
theorem run_mk (g : c.Sm) (h1 : (okE (checkP c) != 0) = false) (h2 : argsBad c (((ps.map lnC).length : Nat) : Int) inn sid n fuel = false) (h3 : decide (firstC c ps 0 ≥ 0) = false) (h4 : (!(stateM c s)) = false)
    (h5 : decide (W (fuel - W (n * (((c.instrs.map insC).length : Nat) : Int))) < 0) = false) : RunGood c s ps inn sid n fuel := by
  have e1 := okE_yes h1
  have cd := cdOk g e1
  rw [List.length_map] at h2 h5
  have ha := (args_iff cd.lat).1 h2
  have hf := fuel_W cd ha.hn ha.hf
  rw [hf.1] at h5
  have h5 := of_decide_eq_false h5
  exact ⟨e1, ha, (firstC_iff c ps 0 (Int.le_refl _)).1 h3, by simpa using h4, by omega⟩
theorem run_e1 (h1 : (okE (checkP c) != 0) = true) : D.tuple [ints [], .agg [ints [], .sl 1 []], .i 0, .i (okE (checkP c))] = runD (runM c s ps inn sid n fuel) := by
  unfold runM; rw [okE_no h1]; rfl
theorem run_e2 (h1 : (okE (checkP c) != 0) = false) (h2 : argsBad c (((ps.map lnC).length : Nat) : Int) inn sid n fuel = true) : D.tuple [ints [], .agg [ints [], .sl 1 []], .i 0, .i 1] = runD (runM c s ps inn sid n fuel) := by
  rw [List.length_map] at h2; unfold runM; rw [okE_yes h1, h2]; rfl
theorem run_e3 (h1 : (okE (checkP c) != 0) = false) (h2 : argsBad c (((ps.map lnC).length : Nat) : Int) inn sid n fuel = false) (h3 : decide (firstC c ps 0 ≥ 0) = true) : D.tuple [ints [], .agg [ints [], .sl 1 []], .i 0, .i 1] = runD (runM c s ps inn sid n fuel) := by
  rw [List.length_map] at h2; unfold runM; rw [okE_yes h1, h2, h3]; rfl
theorem run_e4 (h1 : (okE (checkP c) != 0) = false) (h2 : argsBad c (((ps.map lnC).length : Nat) : Int) inn sid n fuel = false) (h3 : decide (firstC c ps 0 ≥ 0) = false) (h4 : (!(stateM c s)) = true) : D.tuple [ints [], .agg [ints [], .sl 1 []], .i 0, .i 180] = runD (runM c s ps inn sid n fuel) := by
  rw [List.length_map] at h2; unfold runM; rw [okE_yes h1, h2, h3, h4]; rfl
theorem run_e5 (h1 : (okE (checkP c) != 0) = false) (h2 : argsBad c (((ps.map lnC).length : Nat) : Int) inn sid n fuel = false) (h3 : decide (firstC c ps 0 ≥ 0) = false) (h4 : (!(stateM c s)) = false) (h5 : decide (W (fuel - W (n * (((c.instrs.map insC).length : Nat) : Int))) < 0) = true) : D.tuple [ints [], .agg [ints [], .sl 1 []], .i 0, .i 201] = runD (runM c s ps inn sid n fuel) := by
  rw [List.length_map] at h2 h5; unfold runM; rw [okE_yes h1, h2, h3, h4, h5]; rfl
theorem take_full {l : List (List D)} {n : Nat} (h : l.length = n) : l = (l.drop 0).take n := by subst h; simp
theorem arr_guard {v s : Nat} {a b : List (List D)} (h : a = b) : Block.arr v s a = Block.arr v s b := by rw [h]
theorem rnd_l {i : Nat} {f : Nat → Int} : (((List.range i).map f).map intC).take i ++ [[D.i (f i)]] = ((List.range (i + 1)).map f).map intC := by
  rw [List.take_of_length_le (by simp), List.range_succ]; simp
theorem run_res (g : c.Sm) (h : RunGood c s ps inn sid n fuel) : D.tuple [ints ((List.range ps.length).map (fun i => (mAt c ps inn sid s (i + 1)).1.out)), .agg [ints (mAt c ps inn sid s ps.length).1.values, .sl 1 ((mAt c ps inn sid s ps.length).2.map lnC)], .i (W (fuel - W (n * (((c.instrs.map insC).length : Nat) : Int)))), .i 0] = runD (runM c s ps inn sid n fuel) := by
  have R := run_ok g h
  have hf := fuel_W R.cd h.args.hn h.args.hf
  have e1 : (List.range ps.length).map (fun i => (mAt c ps inn sid s (i + 1)).1.out) = (List.range ps.length).map (outAt c ps inn sid s) := List.map_congr_left fun i hi => mAt_out R (List.mem_range.1 hi)
  have e2 := (mAt_ok R ps.length (Nat.le_refl _)).2.1
  rw [List.length_map, hf.1, run_good g h, e1, ← e2]
theorem rnd_sz {i n : Nat} (hi : i < n) (hn : n ≤ 65536) : (i + 1) * 8 ≤ 140737488355328 := by omega
theorem step_bad {par : List Int} (h : ((runM c s [par] inn sid 1 16777216).2.2.2 != 0) = true) : D.tuple [.i 0, (runM c s [par] inn sid 1 16777216).2.1.d, .i (runM c s [par] inn sid 1 16777216).2.2.2] = stepD (stepM c par inn sid s) := by
  unfold stepM; rw [h]; rfl
theorem step_good {par : List Int} (h : ((runM c s [par] inn sid 1 16777216).2.2.2 != 0) = false) : D.tuple [.i ((runM c s [par] inn sid 1 16777216).1.getD 0 0), (runM c s [par] inn sid 1 16777216).2.1.d, .i 0] = stepD (stepM c par inn sid s) := by
  unfold stepM; rw [h]; rfl
theorem step_at {par : List Int} (g : c.Sm) (h : ((runM c s [par] inn sid 1 16777216).2.2.2 != 0) = false) : 0 ≤ (0 : Int) ∧ ((runM c s [par] inn sid 1 16777216).1.map intC)[(0 : Int).toNat]? = some (intC ((runM c s [par] inn sid 1 16777216).1.getD 0 0)) := by
  have hz := run_zero (s := s) (ps := [par]) (inn := inn) (sid := sid) (n := 1) (fuel := 16777216) g (by simpa using h)
  rw [run_good g hz]
  exact ⟨by decide, rfl⟩
end
end Go.Fw.Mac
namespace Go.Fw.Mac
set_option linter.unusedSectionVars false
open Go.Fw
def EqI (c : Cd) (a b : List Int) : Prop := ∀ i : Nat, (i : Int) ≤ c.latency → a.getD i 0 = b.getD i 0
section
variable {c : Cd} {par inn sid inn' sid' : List Int}
theorem oneP_eq {lines : List (List Int)} (hl : 0 ≤ c.latency) (h1 : EqI c inn inn') (h2 : EqI c sid sid') (p : PS) (x : Int × Int) : oneP c par inn sid lines p x = oneP c par inn' sid' lines p x := by
  have e1 : ∀ y, inn.getD (heldM y 0 c.latency).toNat 0 = inn'.getD (heldM y 0 c.latency).toNat 0 := fun y => h1 _ (by have := held_in (y := y) hl; omega)
  have e2 : ∀ y, sid.getD (heldM y 0 c.latency).toNat 0 = sid'.getD (heldM y 0 c.latency).toNat 0 := fun y => h2 _ (by have := held_in (y := y) hl; omega)
  simp only [oneP, e1, e2]
theorem onceM_eq {s : Sta} (hl : 0 ≤ c.latency) (h1 : EqI c inn inn') (h2 : EqI c sid sid') : onceM c par inn sid s = onceM c par inn' sid' s := by
  have e : oneP c par inn sid s.lines = oneP c par inn' sid' s.lines := by funext p x; exact oneP_eq hl h1 h2 p x
  simp only [onceM, onceP, e]
end
section
variable {c : Cd} {ps ps' : List (List Int)} {inn sid inn' sid' : List Int} {s : Sta}
theorem stAt_eq (hl : 0 ≤ c.latency) {n : Nat} (hp : ∀ i, i < n → ps.getD i [] = ps'.getD i []) (h1 : ∀ i, i < n → EqI c (inn.drop i) (inn'.drop i)) (h2 : ∀ i, i < n → EqI c (sid.drop i) (sid'.drop i)) : ∀ i, i ≤ n → stAt c ps inn sid s i = stAt c ps' inn' sid' s i
  | 0, _ => rfl
  | i + 1, h => by
    have ih := stAt_eq hl hp h1 h2 i (by omega)
    simp only [stAt]
    rw [ih, hp i (by omega), onceM_eq hl (h1 i (by omega)) (h2 i (by omega))]
theorem outAt_eq (hl : 0 ≤ c.latency) {n : Nat} (hp : ∀ i, i < n → ps.getD i [] = ps'.getD i []) (h1 : ∀ i, i < n → EqI c (inn.drop i) (inn'.drop i)) (h2 : ∀ i, i < n → EqI c (sid.drop i) (sid'.drop i)) (i : Nat) (h : i < n) : outAt c ps inn sid s i = outAt c ps' inn' sid' s i := by
  simp only [outAt]
  rw [stAt_eq hl hp h1 h2 i (by omega), hp i h, onceM_eq hl (h1 i h) (h2 i h)]
theorem getD_dr {α : Type} (l : List α) (k i : Nat) (d : α) : (l.drop k).getD i d = l.getD (k + i) d := by
  simp [List.getD_eq_getElem?_getD, List.getElem?_drop]
theorem getD_tk {α : Type} (l : List α) {k i : Nat} (d : α) (h : i < k) : (l.take k).getD i d = l.getD i d := by
  simp [List.getD_eq_getElem?_getD, List.getElem?_take, h]
theorem stAt_add (k : Nat) : ∀ i, stAt c (ps.drop k) (inn.drop k) (sid.drop k) (stAt c ps inn sid s k) i = stAt c ps inn sid s (k + i)
  | 0 => rfl
  | i + 1 => by
    rw [← Nat.add_assoc]
    simp only [stAt]
    rw [stAt_add k i, getD_dr, List.drop_drop, List.drop_drop]
theorem outAt_add (k i : Nat) : outAt c (ps.drop k) (inn.drop k) (sid.drop k) (stAt c ps inn sid s k) i = outAt c ps inn sid s (k + i) := by
  simp only [outAt]
  rw [stAt_add k i, getD_dr, List.drop_drop, List.drop_drop]
theorem eqI_take {k i m : Nat} (hk : i < k) (hm : (m : Int) = k + c.latency) (hl : 0 ≤ c.latency) : EqI c ((inn.take m).drop i) (inn.drop i) := by
  intro j hj
  rw [getD_dr, getD_dr, getD_tk _ _ (by omega)]
end
section
variable {c : Cd} {s : Sta} {ps : List (List Int)} {inn sid : List Int} {n fuel : Int}
theorem good_first (g : c.Sm) (h : RunGood c s ps inn sid n fuel) {k m : Nat} (hk : k ≤ ps.length) (hm : (m : Int) = k + c.latency) : RunGood c s (ps.take k) (inn.take m) (sid.take m) k fuel := by
  have hl := (cdOk g h.chk).lat
  have hn := h.args.hn; have hp := h.args.hnp; have h1 := h.args.hinn; have h2 := h.args.hsid; have he := h.enough
  refine ⟨h.chk, ⟨⟨by omega, by omega⟩, h.args.hf, by rw [List.length_take]; omega, by rw [List.length_take]; omega, fun v hv => h.args.innC v (List.mem_of_mem_take hv), by rw [List.length_take]; omega, fun v hv => h.args.sidC v (List.mem_of_mem_take hv)⟩, fun l hl => h.ctl l (List.mem_of_mem_take hl), h.st, ?_⟩
  have : (k : Int) * (c.instrs.length : Int) ≤ n * (c.instrs.length : Int) := Int.mul_le_mul_of_nonneg_right (by omega) (by omega)
  omega
theorem good_second (g : c.Sm) (h : RunGood c s ps inn sid n fuel) {k : Nat} (hk : k ≤ ps.length) : RunGood c (stAt c ps inn sid s k) (ps.drop k) (inn.drop k) (sid.drop k) (n - k) (fuel - k * (c.instrs.length : Int)) := by
  have hl := (cdOk g h.chk).lat
  have hn := h.args.hn; have hp := h.args.hnp; have h1 := h.args.hinn; have h2 := h.args.hsid; have he := h.enough; have hf := h.args.hf
  have q1 : (k : Int) * (c.instrs.length : Int) ≤ n * (c.instrs.length : Int) := Int.mul_le_mul_of_nonneg_right (by omega) (by omega)
  have q0 : 0 ≤ (k : Int) * (c.instrs.length : Int) := Int.mul_nonneg (by omega) (by omega)
  refine ⟨h.chk, ⟨⟨by omega, by omega⟩, ⟨by omega, by omega⟩, by rw [List.length_drop]; omega, by rw [List.length_drop]; omega, fun v hv => h.args.innC v (List.mem_of_mem_drop hv), by rw [List.length_drop]; omega, fun v hv => h.args.sidC v (List.mem_of_mem_drop hv)⟩, fun l hl => h.ctl l (List.mem_of_mem_drop hl), stOk_iff.2 (stAt_ok (run_ok g h) hk), ?_⟩
  rw [Int.sub_mul]; omega
theorem first_out (g : c.Sm) (h : RunGood c s ps inn sid n fuel) {k m : Nat} (hk : k ≤ ps.length) (hm : (m : Int) = k + c.latency) :
    (∀ i, i ≤ k → stAt c (ps.take k) (inn.take m) (sid.take m) s i = stAt c ps inn sid s i) ∧ ∀ i, i < k → outAt c (ps.take k) (inn.take m) (sid.take m) s i = outAt c ps inn sid s i := by
  have hl := (cdOk g h.chk).lat.1
  have e0 : ∀ i, i < k → (ps.take k).getD i [] = ps.getD i [] := fun i hi => getD_tk _ _ hi
  have e1 : ∀ i, i < k → EqI c ((inn.take m).drop i) (inn.drop i) := fun i hi => eqI_take hi hm hl
  have e2 : ∀ i, i < k → EqI c ((sid.take m).drop i) (sid.drop i) := fun i hi => eqI_take hi hm hl
  exact ⟨stAt_eq hl e0 e1 e2, outAt_eq hl e0 e1 e2⟩
theorem run_blocks (g : c.Sm) (h : RunGood c s ps inn sid n fuel) {k m : Nat} (hk : k ≤ ps.length) (hm : (m : Int) = k + c.latency) :
    runM c s (ps.take k) (inn.take m) (sid.take m) k fuel = ((List.range k).map (outAt c ps inn sid s), stAt c ps inn sid s k, fuel - k * (c.instrs.length : Int), 0) ∧
    runM c (stAt c ps inn sid s k) (ps.drop k) (inn.drop k) (sid.drop k) (n - k) (fuel - k * (c.instrs.length : Int)) = ((List.range (ps.length - k)).map (fun i => outAt c ps inn sid s (k + i)), stAt c ps inn sid s ps.length, fuel - n * (c.instrs.length : Int), 0) := by
  have f := first_out g h hk hm
  constructor
  · rw [run_good g (good_first g h hk hm)]
    rw [List.length_take, Nat.min_eq_left hk, f.1 k (Nat.le_refl _)]
    congr 1
    exact List.map_congr_left fun i hi => f.2 i (List.mem_range.1 hi)
  · rw [run_good g (good_second g h hk)]
    rw [List.length_drop, stAt_add, Nat.add_sub_cancel' hk]
    congr 1
    · exact List.map_congr_left fun i _ => outAt_add k i
    · congr 2
      rw [Int.sub_mul]; omega
theorem range_parts {α : Type} (f : Nat → α) {k n : Nat} (h : k ≤ n) : (List.range n).map f = (List.range k).map f ++ (List.range (n - k)).map (fun i => f (k + i)) := by
  have : n = k + (n - k) := by omega
  rw [this, List.range_add, List.map_append, List.map_map, Nat.add_sub_cancel_left]
  rfl
theorem good_one (g : c.Sm) (h : RunGood c s ps inn sid n fuel) {i m : Nat} (hi : i < ps.length) (hm : (m : Int) = c.latency + 1) : RunGood c (stAt c ps inn sid s i) [ps.getD i []] ((inn.drop i).take m) ((sid.drop i).take m) 1 16777216 := by
  have cd := cdOk g h.chk
  have hl := cd.lat; have hI := cd.nI
  have hn := h.args.hn; have hp := h.args.hnp; have h1 := h.args.hinn; have h2 := h.args.hsid
  refine ⟨h.chk, ⟨by decide, by decide, rfl, by rw [List.length_take, List.length_drop]; omega, fun v hv => h.args.innC v (List.mem_of_mem_drop (List.mem_of_mem_take hv)), by rw [List.length_take, List.length_drop]; omega, fun v hv => h.args.sidC v (List.mem_of_mem_drop (List.mem_of_mem_take hv))⟩, ?_, stOk_iff.2 (stAt_ok (run_ok g h) (by omega)), by omega⟩
  intro l hl
  rw [List.mem_singleton.1 hl]
  exact h.ctl _ (by rw [List.getD_eq_getElem?_getD, List.getElem?_eq_getElem hi]; exact List.getElem_mem hi)
theorem step_one (g : c.Sm) (h : RunGood c s ps inn sid n fuel) {i m : Nat} (hi : i < ps.length) (hm : (m : Int) = c.latency + 1) :
    stepM c (ps.getD i []) ((inn.drop i).take m) ((sid.drop i).take m) (stAt c ps inn sid s i) = (outAt c ps inn sid s i, stAt c ps inn sid s (i + 1), 0) := by
  have hl := (cdOk g h.chk).lat.1
  have hr := run_good g (good_one g h hi hm)
  have e1 : EqI c ((inn.drop i).take m) (inn.drop i) := eqI_take (k := 1) (i := 0) (by omega) (by omega) hl
  have e2 : EqI c ((sid.drop i).take m) (sid.drop i) := eqI_take (k := 1) (i := 0) (by omega) (by omega) hl
  have e3 : onceM c (ps.getD i []) ((inn.drop i).take m) ((sid.drop i).take m) (stAt c ps inn sid s i) = onceM c (ps.getD i []) (inn.drop i) (sid.drop i) (stAt c ps inn sid s i) := onceM_eq hl e1 e2
  unfold stepM
  rw [hr]
  show ((onceM c (ps.getD i []) ((inn.drop i).take m) ((sid.drop i).take m) (stAt c ps inn sid s i)).1, (onceM c (ps.getD i []) ((inn.drop i).take m) ((sid.drop i).take m) (stAt c ps inn sid s i)).2, (0 : Int)) = _
  rw [e3]; rfl
end
end Go.Fw.Mac
namespace Go.Fw.Mac
set_option linter.unusedSectionVars false
open Go.Fw
section
variable {c : Cd} {par inn sid : List Int} {lines : List (List Int)} {F : PS} {v w : Int}
end
end Go.Fw.Mac
