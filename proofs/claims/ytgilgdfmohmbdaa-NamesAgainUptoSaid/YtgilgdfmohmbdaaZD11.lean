/- The law functions of names, as plain functions: other names. -/
import Derived.Test.YtgilgdfmohmbdaaZD
set_option linter.unusedSimpArgs false
set_option linter.unusedVariables false
namespace Go.Fw.Nam
set_option linter.unusedSectionVars false
variable [GlobInt]
open Ref15
def qS (s : Str) : Str := [113] ++ s
def qBd (b : Bd) : Bd := ⟨qS b.name, b.lo, b.hi⟩
def qLn (b : Ln) : Ln := ⟨qS b.name, b.size, b.lo, b.hi⟩
def qTb (b : Tb) : Tb := ⟨qS b.name, b.values⟩
mutual
def renamed : Ex → Ex
  | .mk k n i m l => .mk k (if named k then qS n else n) i m (renamedL l)
def renamedL : List Ex → List Ex
  | [] => []
  | x :: r => renamed x :: renamedL r
end
theorem renamed_eq (x : Ex) : renamed x = .mk x.kind (if named x.kind then qS x.name else x.name) x.index x.n (renamedL x.l) := by cases x; rw [renamed]; rfl
def qSm (s : Sm) : Sm := ⟨s.kind, if s.kind != 4 then qS s.name else s.name, s.index, renamed s.x⟩
def prefixed (p : Pr) : Pr := ⟨p.name, p.latency, p.tail, p.params.map qBd, p.states.map qBd, p.lines.map qLn, p.tables.map qTb, p.stmts.map qSm⟩
def short (x : Ex) : Bool := decide (x.name.length ≤ 1048576)
/-- Names of which none is long. -/
structure Shorts (p : Pr) : Prop where
  params : ∀ b ∈ p.params, b.name.length ≤ 1048576
  states : ∀ b ∈ p.states, b.name.length ≤ 1048576
  lines : ∀ b ∈ p.lines, b.name.length ≤ 1048576
  tables : ∀ b ∈ p.tables, b.name.length ≤ 1048576
  stmts : ∀ s ∈ p.stmts, s.name.length ≤ 1048576 ∧ every short s.x = true
theorem add_ok {n : Nat} (h : n ≤ 1048576) : ((({ data := #[113] } : ByteArray).data.toList.length + n : Nat) : Int) ≤ IntKind.i64.max := by
  simp [IntKind.max, IntKind.signed, IntKind.bits]; omega
theorem renamed_nodes (x : Ex) : nodes (renamed x) = nodes x := by
  refine Ex.ind (P := fun x => nodes (renamed x) = nodes x) (fun x ih => ?_) x
  rw [renamed_eq, nodes_eq, nodes_eq]
  show 1 + nodesL (renamedL x.l) = 1 + nodesL x.l
  congr 1
  generalize x.l = l at ih
  induction l with
  | nil => rfl
  | cons y r ih2 =>
    simp only [renamedL, nodesL]
    rw [ih y (by simp), ih2 (fun z hz => ih z (List.mem_cons_of_mem _ hz))]
theorem prefixed_small {p : Pr} (h : p.Small) : (prefixed p).Small := by
  obtain ⟨h1, h2, h3, h4, h5⟩ := h
  exact ⟨by simpa [prefixed] using h1, by simpa [prefixed] using h2, by simpa [prefixed] using h3, by simpa [prefixed] using h4, by simpa [prefixed] using h5⟩
theorem prefixed_nodes {p : Pr} (h : ∀ s ∈ p.stmts, nodes s.x ≤ 1073741824) : ∀ s ∈ (prefixed p).stmts, nodes s.x ≤ 1073741824 := by
  intro s hs
  simp only [prefixed, List.mem_map] at hs
  obtain ⟨t, ht, rfl⟩ := hs
  simp only [qSm, renamed_nodes]
  exact h t ht

/-! What names.Resolve hands back. -/
theorem run_ok {l : List Pe} : ∀ {r : List Sm} {i : Nat} {d : List (Int × Int)} {o : Bool} {t : List Sm}, runS l r i d o = .ok t → t = r.map (outS l)
  | [], i, d, o, t, h => by
    simp only [runS] at h
    split at h
    · cases h; rfl
    · cases h
  | s :: r, i, d, o, t, h => by
    simp only [runS] at h
    split at h
    · cases h
    · cases hr : runS l r (i + 1) (doneS l s d) (s.kind == 4) with
      | error e => rw [hr] at h; cases h
      | ok t' => rw [hr] at h; cases h; rw [run_ok hr]; rfl
theorem resolved_form {p : Pr} (h : (resolveC p).2 = 0) : formed p = true ∧ limited p = true ∧ (p.name :: fsts (decl p)).all nmOk = true ∧ uniqB (fsts (decl p)) = true ∧ ranged p = true ∧ runS (decl p) p.stmts 0 [] false = .ok (p.stmts.map (outS (decl p))) ∧ (resolveC p).1 = { p with stmts := p.stmts.map (outS (decl p)) } := by
  unfold resolveC at h ⊢
  split at h
  · simp at h
  split at h
  · simp at h
  split at h
  · simp at h
  split at h
  · simp at h
  split at h
  · simp at h
  rename_i h1 h2 h3 h4 h5
  have g1 : formed p = true := by simpa using h1
  have g2 : limited p = true := by simpa using h2
  have g3 : (p.name :: fsts (decl p)).all nmOk = true := by
    cases hh : (p.name :: fsts (decl p)).all nmOk with
    | true => rfl
    | false => rw [hh] at h3; exact absurd rfl h3
  have g4 : uniqB (fsts (decl p)) = true := by simpa using h4
  have g5 : ranged p = true := by simpa using h5
  cases hr : runS (decl p) p.stmts 0 [] false with
  | error e =>
    exfalso
    rw [hr] at h
    simp only [Ref15.fin] at h
    -- an error is no 0
    have : ∀ {r : List Sm} {i : Nat} {d : List (Int × Int)} {o : Bool} {e : Int}, runS (decl p) r i d o = .error e → e ≠ 0 := by
      intro r
      induction r with
      | nil => intro i d o e h; simp only [runS] at h; split at h <;> cases h; decide
      | cons s r ih =>
        intro i d o e h
        simp only [runS] at h
        split at h
        · rename_i hs; cases h; simpa using hs
        · cases hr : runS (decl p) r (i + 1) (doneS (decl p) s d) (s.kind == 4) with
          | error e' => rw [hr] at h; cases h; exact ih hr
          | ok t' => rw [hr] at h; cases h
    exact this hr h
  | ok t =>
    have := run_ok hr
    subst this
    refine ⟨g1, g2, g3, g4, g5, rfl, ?_⟩
    simp only [g1, g2, g3, g4, g5, Bool.not_true, Bool.false_eq_true, if_false, hr]
    rfl
theorem vis_nodes (l : List Pe) (x : Ex) : nodes (vis l x) = nodes x := by
  refine Ex.ind (P := fun x => nodes (vis l x) = nodes x) (fun x ih => ?_) x
  rw [vis_eq, nodes_eq, nodes_eq]
  show 1 + nodesL (visL l x.l) = 1 + nodesL x.l
  congr 1
  generalize x.l = m at ih
  induction m with
  | nil => rfl
  | cons y r ih2 =>
    simp only [visL, nodesL]
    rw [ih y (by simp), ih2 (fun z hz => ih z (List.mem_cons_of_mem _ hz))]
theorem vis_short (l : List Pe) (x : Ex) : every short (vis l x) = every short x := by
  refine Ex.ind (P := fun x => every short (vis l x) = every short x) (fun x ih => ?_) x
  rw [vis_eq, every_eq, every_eq]
  show (short x && everyL short (visL l x.l)) = (short x && everyL short x.l)
  congr 1
  generalize x.l = m at ih
  induction m with
  | nil => rfl
  | cons y r ih2 =>
    simp only [visL, everyL]
    rw [ih y (by simp), ih2 (fun z hz => ih z (List.mem_cons_of_mem _ hz))]
/-- What is known of the result: its sizes. -/
theorem res_small {p : Pr} (h : (resolveC p).2 = 0) (hp : p.Small) : (resolveC p).1.Small := by
  obtain ⟨_, _, _, _, _, _, e⟩ := resolved_form h
  rw [e]
  obtain ⟨h1, h2, h3, h4, h5⟩ := hp
  exact ⟨h1, h2, h3, h4, by simpa using h5⟩
theorem res_nodes {p : Pr} (h : (resolveC p).2 = 0) (hn : ∀ s ∈ p.stmts, nodes s.x ≤ 1073741824) : ∀ s ∈ (resolveC p).1.stmts, nodes s.x ≤ 1073741824 := by
  obtain ⟨_, _, _, _, _, _, e⟩ := resolved_form h
  rw [e]
  intro s hs
  simp only [List.mem_map] at hs
  obtain ⟨t, ht, rfl⟩ := hs
  simp only [outS, vis_nodes]
  exact hn t ht
theorem res_shorts {p : Pr} (h : (resolveC p).2 = 0) (hs : Shorts p) : Shorts (resolveC p).1 := by
  obtain ⟨_, _, _, _, _, _, e⟩ := resolved_form h
  rw [e]
  refine ⟨hs.params, hs.states, hs.lines, hs.tables, ?_⟩
  intro s hm
  simp only [List.mem_map] at hm
  obtain ⟨t, ht, rfl⟩ := hm
  simp only [outS, vis_short]
  exact hs.stmts t ht
def lawRenamed (p : Pr) : Bool :=
  if !Few p then true
  else if (resolveC p).2 != 0 then true
  else if (Declared p).any (fun s => decide ((s.length : Int) ≥ 32)) then true
  else (resolveC (prefixed p)).2 == 0 && Same (prefixed (resolveC p).1) (resolveC (prefixed p)).1
theorem ne_of {x : Int} (h : (x != 0) = false) : x = 0 := by simpa [bne] using h
theorem lr_no {p : Pr} (hF : (!Few p) = true) : lawRenamed p = true := by simp only [lawRenamed, hF, if_true]
theorem lr_err {p : Pr} (hF : (!Few p) = false) (h : ((resolveC p).2 != 0) = true) : lawRenamed p = true := by simp only [lawRenamed, hF, h, if_true, Bool.false_eq_true, if_false]
theorem lr_eq {p : Pr} (hF : (!Few p) = false) (h : ((resolveC p).2 != 0) = false) : lawRenamed p = if (Declared p).any (fun s => decide ((s.length : Int) ≥ 32)) then true
  else (resolveC (prefixed p)).2 == 0 && Same (prefixed (resolveC p).1) (resolveC (prefixed p)).1 := by simp only [lawRenamed, hF, h, Bool.false_eq_true, if_false]
end Go.Fw.Nam
