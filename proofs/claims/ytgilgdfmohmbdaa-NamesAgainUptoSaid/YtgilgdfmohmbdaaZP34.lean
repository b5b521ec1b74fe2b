/- The bridge of the seat of names: processors out of what is read; package variables; equality. -/
import Derived.Test.YtgilgdfmohmbdaaZK7
import Derived.Test.YtgilgdfmohmbdaaZK6
import Derived.Test.YtgilgdfmohmbdaaZD
set_option linter.unusedSimpArgs false
set_option linter.unusedVariables false
namespace Go.Proofs.Ytgilgdfmohmbdaa
open Go.Fw Go.Fw.Ref15
set_option linter.unusedSectionVars false
set_option maxRecDepth 10000
section
variable [GlobInt]

/-! Lists. -/
theorem list_of {T : Tbl} {α : Type} {f : α → List D} {w : α → Nat} {n : Nat} {e : TypeId} (h : ∀ m x, typed T n e m x → ∃ y, x = f y ∧ w y ≤ m) : ∀ (es : List (List D)) (m : Nat), typedEs (typed T n e) es m → ∃ ys : List α, es = ys.map f ∧ (ys.map w).sum ≤ m ∧ ys.length ≤ m
  | [], _, _ => ⟨[], rfl, by simp, by simp⟩
  | x :: r, m, hm => by
    obtain ⟨m1, m2, h1, h2, h3⟩ := hm
    obtain ⟨y, rfl, hw⟩ := h m1 x h2
    obtain ⟨ys, rfl, hs, hl⟩ := list_of h r m2 h3
    have := typed_pos h2
    exact ⟨y :: ys, rfl, by simp only [List.map_cons, List.sum_cons]; omega, by simp only [List.length_cons]; omega⟩
theorem sl_of {T : Tbl} {α : Type} {f : α → List D} {w : α → Nat} {n m : Nat} {t e : TypeId} {ds : List D} (ht : (T.at t).ty = .slice e) (hm : typed T n t m ds) (h : ∀ k, k < n → ∀ m x, typed T k e m x → ∃ y, x = f y ∧ w y ≤ m) :
    ∃ ys : List α, ds = [.sl (T.at e).size (ys.map f)] ∧ (ys.map w).sum + 1 ≤ m ∧ ys.length + 1 ≤ m := by
  cases n with
  | zero => exact hm.elim
  | succ n =>
    simp only [typed, ht] at hm
    obtain ⟨m', es, h1, rfl, h2⟩ := hm
    obtain ⟨ys, rfl, hs, hl⟩ := list_of (h n (Nat.lt_succ_self n)) es m' h2
    exact ⟨ys, rfl, by omega, by omega⟩
theorem int_of {T : Tbl} {n m : Nat} {t : TypeId} {k : IntKind} {ds : List D} (ht : (T.at t).ty = .int k) (hm : typed T n t m ds) : ∃ v : Int, ds = [.val (.int k v)] ∧ k.min ≤ v ∧ v ≤ k.max := by
  cases n with
  | zero => exact hm.elim
  | succ n =>
    simp only [typed, ht] at hm
    obtain ⟨_, v, rfl, h⟩ := hm
    exact ⟨v, rfl, h⟩
theorem str_of {T : Tbl} {n m : Nat} {t : TypeId} {ds : List D} (ht : (T.at t).ty = .str) (hm : typed T n t m ds) : ∃ s : List UInt8, ds = [.str s] ∧ s.length + 1 ≤ m := by
  cases n with
  | zero => exact hm.elim
  | succ n =>
    simp only [typed, ht] at hm
    exact hm
theorem fields_of {T : Tbl} {n m : Nat} {t : TypeId} {fs : List (Nat × TypeId)} {ds : List D} (ht : (T.at t).ty = .struct fs) (hm : typed T n t m ds) : ∃ k m', n = k + 1 ∧ m' + 1 ≤ m ∧ typedFs (typed T k) fs m' ds := by
  cases n with
  | zero => exact hm.elim
  | succ n =>
    simp only [typed, ht] at hm
    obtain ⟨m', h1, h2⟩ := hm
    exact ⟨n, m', rfl, h1, h2⟩
theorem fs_cons {p : TypeId → Nat → List D → Prop} {o : Nat} {t : TypeId} {r : List (Nat × TypeId)} {m : Nat} {ds : List D} (h : typedFs p ((o, t) :: r) m ds) : ∃ m1 m2 d1 d2, m1 + m2 ≤ m ∧ ds = d1 ++ d2 ∧ p t m1 d1 ∧ typedFs p r m2 d2 := h

/-! The types. -/
theorem vals_of {n m : Nat} {ds : List D} (h : typed Try.T n 50 m ds) : ∃ l : List Int, ds = [ints l] ∧ l.length + 1 ≤ m := by
  obtain ⟨ys, h1, _, h2⟩ := sl_of (f := intC) (w := fun _ => 0) (e := 3) rfl h (fun k _ m x hx => by
    obtain ⟨v, rfl, _⟩ := int_of (k := .i64) rfl hx
    exact ⟨v, rfl, Nat.zero_le _⟩)
  exact ⟨ys, h1, h2⟩
theorem bd_of {n m : Nat} {ds : List D} (h : typed Try.T n 42 m ds) : ∃ b : Bd, ds = b.cs ∧ 0 ≤ m := by
  obtain ⟨k, m', _, _, g0⟩ := fields_of (fs := [(0, 9), (1, 3), (2, 3)]) rfl h
  obtain ⟨_, _, _, _, _, e1, h1, g1⟩ := fs_cons g0
  obtain ⟨_, _, _, _, _, e2, h2, g2⟩ := fs_cons g1
  obtain ⟨_, _, _, _, _, e3, h3, g3⟩ := fs_cons g2
  obtain ⟨s, rfl, _⟩ := str_of rfl h1
  obtain ⟨a, rfl, _⟩ := int_of (k := .i64) rfl h2
  obtain ⟨b, rfl, _⟩ := int_of (k := .i64) rfl h3
  have g : _ = [] := g3
  subst g
  subst e3
  subst e2
  subst e1
  exact ⟨⟨s, a, b⟩, rfl, Nat.zero_le _⟩
theorem ln_of {n m : Nat} {ds : List D} (h : typed Try.T n 44 m ds) : ∃ b : Ln, ds = b.cs ∧ 0 ≤ m := by
  obtain ⟨k, m', _, _, g0⟩ := fields_of (fs := [(0, 9), (1, 3), (2, 3), (3, 3)]) rfl h
  obtain ⟨_, _, _, _, _, e1, h1, g1⟩ := fs_cons g0
  obtain ⟨_, _, _, _, _, e2, h2, g2⟩ := fs_cons g1
  obtain ⟨_, _, _, _, _, e3, h3, g3⟩ := fs_cons g2
  obtain ⟨_, _, _, _, _, e4, h4, g4⟩ := fs_cons g3
  obtain ⟨s, rfl, _⟩ := str_of rfl h1
  obtain ⟨a, rfl, _⟩ := int_of (k := .i64) rfl h2
  obtain ⟨b, rfl, _⟩ := int_of (k := .i64) rfl h3
  obtain ⟨c, rfl, _⟩ := int_of (k := .i64) rfl h4
  have g : _ = [] := g4
  subst g
  subst e4
  subst e3
  subst e2
  subst e1
  exact ⟨⟨s, a, b, c⟩, rfl, Nat.zero_le _⟩
theorem tb_of {n m : Nat} {ds : List D} (h : typed Try.T n 52 m ds) : ∃ b : Tb, ds = b.cs ∧ b.values.length ≤ m := by
  obtain ⟨k, m', _, hm, g0⟩ := fields_of (fs := [(0, 9), (1, 50)]) rfl h
  obtain ⟨m1, m2, _, _, ha, e1, h1, g1⟩ := fs_cons g0
  obtain ⟨m3, m4, _, _, hb, e2, h2, g2⟩ := fs_cons g1
  obtain ⟨s, rfl, _⟩ := str_of rfl h1
  obtain ⟨l, rfl, hl⟩ := vals_of h2
  have g : _ = [] := g2
  subst g
  subst e2
  subst e1
  exact ⟨⟨s, l⟩, rfl, by simp only; omega⟩
theorem nodesL_sum : ∀ l : List Ex, nodesL l = (l.map nodes).sum
  | [] => rfl
  | x :: r => by simp only [nodesL, List.map_cons, List.sum_cons, nodesL_sum r]
theorem ex_of : ∀ (n m : Nat) (ds : List D), typed Try.T n 36 m ds → ∃ x : Ex, ds = x.cs ∧ nodes x ≤ m := by
  intro n
  induction n using Nat.strongRecOn with
  | ind n ih =>
    intro m ds h
    obtain ⟨k, m', hk, hm, g0⟩ := fields_of (fs := [(0, 3), (1, 9), (2, 3), (3, 3), (4, 34)]) rfl h
    obtain ⟨m1, m2, _, _, ha, e1, h1, g1⟩ := fs_cons g0
    obtain ⟨m3, m4, _, _, hb, e2, h2, g2⟩ := fs_cons g1
    obtain ⟨m5, m6, _, _, hc, e3, h3, g3⟩ := fs_cons g2
    obtain ⟨m7, m8, _, _, hd, e4, h4, g4⟩ := fs_cons g3
    obtain ⟨m9, m0, _, _, he, e5, h5, g5⟩ := fs_cons g4
    obtain ⟨a, rfl, _⟩ := int_of (k := .i64) rfl h1
    obtain ⟨s, rfl, _⟩ := str_of rfl h2
    obtain ⟨b, rfl, _⟩ := int_of (k := .i64) rfl h3
    obtain ⟨c, rfl, _⟩ := int_of (k := .i64) rfl h4
    obtain ⟨l, rfl, hs, _⟩ := sl_of (f := Ex.cs) (w := nodes) (e := 36) rfl h5 (fun j hj m x hx => ih j (by omega) m x hx)
    have g : _ = [] := g5
    subst g
    subst e5
    subst e4
    subst e3
    subst e2
    subst e1
    refine ⟨.mk a s b c l, ?_, ?_⟩
    · show _ = [D.i a, D.str s, D.i b, D.i c, D.sl 5 (Ex.css l)]
      rw [Ex.css_eq]; rfl
    · rw [nodes_eq, nodesL_sum]; simp only [Ex.l]; omega
theorem sm_of {n m : Nat} {ds : List D} (h : typed Try.T n 38 m ds) : ∃ s : Sm, ds = s.cs ∧ nodes s.x ≤ m := by
  obtain ⟨k, m', _, hm, g0⟩ := fields_of (fs := [(0, 3), (1, 9), (2, 3), (3, 36)]) rfl h
  obtain ⟨m1, m2, _, _, ha, e1, h1, g1⟩ := fs_cons g0
  obtain ⟨m3, m4, _, _, hb, e2, h2, g2⟩ := fs_cons g1
  obtain ⟨m5, m6, _, _, hc, e3, h3, g3⟩ := fs_cons g2
  obtain ⟨m7, m8, _, _, hd, e4, h4, g4⟩ := fs_cons g3
  obtain ⟨a, rfl, _⟩ := int_of (k := .i64) rfl h1
  obtain ⟨s, rfl, _⟩ := str_of rfl h2
  obtain ⟨b, rfl, _⟩ := int_of (k := .i64) rfl h3
  obtain ⟨x, rfl, hx⟩ := ex_of _ _ _ h4
  have g : _ = [] := g4
  subst g
  subst e4
  subst e3
  subst e2
  subst e1
  exact ⟨⟨a, s, b, x⟩, rfl, by simp only; omega⟩
/-- What is known of a processor that is read. -/
structure Read (p : Pr) (m : Nat) : Prop where
  params : p.params.length ≤ m
  states : p.states.length ≤ m
  lines : p.lines.length ≤ m
  tables : p.tables.length ≤ m
  stmts : p.stmts.length ≤ m
  nodes : (p.stmts.map fun s => nodes s.x).sum ≤ m
  values : (p.tables.map fun t => t.values.length).sum ≤ m
theorem sum_le {α : Type} {w : α → Nat} : ∀ {l : List α} {x : α}, x ∈ l → w x ≤ (l.map w).sum
  | [], _, h => by simp at h
  | y :: r, x, h => by
    simp only [List.map_cons, List.sum_cons]
    rcases List.mem_cons.1 h with rfl | h
    · omega
    · have := sum_le (w := w) h; omega
theorem pr_of {n m : Nat} {ds : List D} (h : typed Try.T n 27 m ds) : ∃ p : Pr, ds = p.cs ∧ Read p m := by
  obtain ⟨k, m', _, hm, g0⟩ := fields_of (fs := [(0, 9), (1, 3), (2, 3), (3, 22), (4, 22), (5, 23), (6, 24), (7, 25)]) rfl h
  obtain ⟨_, _, _, _, _, e1, h1, g1⟩ := fs_cons g0
  obtain ⟨_, _, _, _, _, e2, h2, g2⟩ := fs_cons g1
  obtain ⟨_, _, _, _, _, e3, h3, g3⟩ := fs_cons g2
  obtain ⟨_, _, _, _, _, e4, h4, g4⟩ := fs_cons g3
  obtain ⟨_, _, _, _, _, e5, h5, g5⟩ := fs_cons g4
  obtain ⟨_, _, _, _, _, e6, h6, g6⟩ := fs_cons g5
  obtain ⟨_, _, _, _, _, e7, h7, g7⟩ := fs_cons g6
  obtain ⟨_, _, _, _, _, e8, h8, g8⟩ := fs_cons g7
  obtain ⟨s, rfl, _⟩ := str_of rfl h1
  obtain ⟨a, rfl, _⟩ := int_of (k := .i64) rfl h2
  obtain ⟨b, rfl, _⟩ := int_of (k := .i64) rfl h3
  obtain ⟨l4, rfl, _, q4⟩ := sl_of (f := Bd.cs) (w := fun _ => 0) (e := 42) rfl h4 (fun j hj m x hx => bd_of hx)
  obtain ⟨l5, rfl, _, q5⟩ := sl_of (f := Bd.cs) (w := fun _ => 0) (e := 42) rfl h5 (fun j hj m x hx => bd_of hx)
  obtain ⟨l6, rfl, _, q6⟩ := sl_of (f := Ln.cs) (w := fun _ => 0) (e := 44) rfl h6 (fun j hj m x hx => ln_of hx)
  obtain ⟨l7, rfl, r7, q7⟩ := sl_of (f := Tb.cs) (w := fun t => t.values.length) (e := 52) rfl h7 (fun j hj m x hx => tb_of hx)
  obtain ⟨l8, rfl, r8, q8⟩ := sl_of (f := Sm.cs) (w := fun s => nodes s.x) (e := 38) rfl h8 (fun j hj m x hx => sm_of hx)
  have g : _ = [] := g8
  subst g
  subst e8
  subst e7
  subst e6
  subst e5
  subst e4
  subst e3
  subst e2
  subst e1
  exact ⟨⟨s, a, b, l4, l5, l6, l7, l8⟩, rfl, by simp only; omega, by simp only; omega, by simp only; omega, by simp only; omega, by simp only; omega, by simp only; omega, by simp only; omega⟩
theorem Read.small {p : Pr} {m : Nat} (h : Read p m) (hm : m ≤ 1048576) : p.Small := by
  obtain ⟨h1, h2, h3, h4, h5, _, _⟩ := h
  exact ⟨by omega, by omega, by omega, by omega, by omega⟩
theorem Read.node {p : Pr} {m : Nat} (h : Read p m) (hm : m ≤ 1048576) : ∀ s ∈ p.stmts, Ref15.nodes s.x ≤ 1073741824 := fun s hs => by
  have := sum_le (w := fun s : Sm => Ref15.nodes s.x) hs
  have := h.nodes; omega
theorem Read.vals {p : Pr} {m : Nat} (h : Read p m) (hm : m ≤ 1048576) : ∀ t ∈ p.tables, t.values.length ≤ 1073741824 := fun t ht => by
  have := sum_le (w := fun t : Tb => t.values.length) ht
  have := h.values; omega

end
/-! Package variables. -/
theorem glob_ok {W : World} (h : W.ShapedOpen Try.prog) : ∃ I : GlobInt, @GlobW I W := by
  obtain ⟨cs, hh, hs, hr⟩ := h.1 0 #[.int .i64 0] 3 (of_decide_eq_true (by kernel_rfl)) (by kernel_rfl)
  have hs : cs.size = 1 := hs
  obtain ⟨ts, hts, _, hall⟩ := hr (by kernel_rfl)
  have hc : Try.prog.cellTypes Try.prog.depth 3 = some [3] := by kernel_rfl
  rw [hc] at hts
  cases hts
  have h1 : 0 < cs.size := by omega
  obtain ⟨u, hu', hok⟩ := hall 0 cs[0] (by simp [h1])
  have : u = 3 := by simpa using hu'.symm
  subst this
  have hcell : W.cell? ⟨0, 0, none⟩ = some cs[0] := by simp [World.cell?, hh, h1]
  have hu : Try.prog.underlying 3 = some (.int .i64) := by kernel_rfl
  unfold Cell.ok at hok
  rw [hu] at hok
  have hv : ∃ m, cs[0] = .int .i64 m := by
    cases hv : cs[0] <;> rw [hv] at hok <;> simp at hok
    case int k' n => exact ⟨n, by rw [hok.1]⟩
  obtain ⟨m, hm⟩ := hv
  refine ⟨⟨fun _ => m⟩, @GlobW.mk ⟨fun _ => m⟩ W ?_⟩
  intro g cs' hg
  simp only [gcells] at hg
  split at hg
  · rename_i hb
    have : g = 0 := Nat.eq_of_beq_eq_true hb
    subst this
    simp only [Option.some.injEq] at hg
    subst hg
    have hcs : cs = #[.int .i64 m] := by
      rw [← hm]
      exact Array.ext (by simp [hs]) fun i h1 h2 => by
        have : i = 0 := by omega
        subst this; simp
    refine ⟨⟨_, _, by rw [hh, hcs]⟩, ?_⟩
    intro j v hj
    cases j with
    | zero =>
      simp only [List.getElem?_cons_zero, Option.some.injEq] at hj
      subst hj
      rfl
    | succ j => simp at hj
  · simp at hg

section
variable [GlobInt]
/-! Equality. -/
theorem sameExpr_refl (x : Ex) : SameExpr x x = true := by
  refine Ex.ind (P := fun x => SameExpr x x = true) (fun x ih => ?_) x
  rw [SameExpr_eq, sameL_zip rfl]
  simp only [bne_self_eq_false, Bool.or_self, Bool.false_eq_true, if_false, List.all_eq_true]
  intro q hq
  obtain ⟨y, z⟩ := q
  have h := List.of_mem_zip hq
  have e : y = z := by
    have : ∀ (l : List Ex) (y z : Ex), (y, z) ∈ l.zip l → y = z := by
      intro l
      induction l with
      | nil => intro y z h; simp at h
      | cons a r ih2 =>
        intro y z h
        simp only [List.zip_cons_cons, List.mem_cons, Prod.mk.injEq] at h
        rcases h with ⟨rfl, rfl⟩ | h
        · rfl
        · exact ih2 y z h
    exact this _ _ _ hq
  subst e
  exact ih y h.1
theorem zip_refl {α : Type} {f : α × α → Bool} (h : ∀ x, f (x, x) = true) : ∀ l : List α, (l.zip l).all f = true
  | [] => rfl
  | x :: r => by simp only [List.zip_cons_cons, List.all_cons, h, zip_refl h r, Bool.and_self]
theorem bd_refl (b : Bd) : bdSame (b, b) = true := by simp [bdSame, Go.Fw.sameL, sameS]
theorem ln_refl (b : Ln) : lnSame (b, b) = true := by simp [lnSame, Go.Fw.sameL, sameS]
theorem tb_refl (b : Tb) : tbSame (b, b) = true := by
  simp only [tbSame, bne_self_eq_false, Bool.or_self, Bool.not_false, Bool.true_and]
  exact zip_refl (fun x => by simp) _
theorem sameBounds_refl (l : List Bd) : sameBounds l l = true := by
  simp only [sameBounds, bne_self_eq_false, Bool.not_false, Bool.true_and]
  exact zip_refl bd_refl l
theorem decls_refl (p : Pr) : SameDecls p p = true := by
  simp only [SameDecls, heads, bne_self_eq_false, sameBounds_refl, Bool.not_true, Bool.or_self, Bool.not_false, Bool.true_and]
  rw [zip_refl ln_refl, zip_refl tb_refl]; rfl
theorem same_refl (p : Pr) : Same p p = true := by
  simp only [Same, decls_refl, bne_self_eq_false, Bool.not_true, Bool.or_self, Bool.not_false, Bool.true_and]
  exact zip_refl (fun s => by simp [smSame, sameExpr_refl]) _
end
end Go.Proofs.Ytgilgdfmohmbdaa
namespace Go.Proofs.Ytgilgdfmohmbdaa
open Go.Fw Go.Fw.Ref15
set_option linter.unusedSectionVars false
set_option maxRecDepth 10000
variable {H : Type}
theorem bulk_app (l r : List (DataW H)) : Rows.uptoBulkAll (l ++ r) = Rows.uptoBulkAll l + Rows.uptoBulkAll r := by
  induction l with
  | nil => simp [Rows.uptoBulkAll]
  | cons x l ih => simp only [List.cons_append, Rows.uptoBulkAll, ih]; omega
theorem bulk_le {ds gs : List (DataW H)} (hk : Rows.uptoSmall H (ds ++ gs) = true) : Rows.uptoBulkAll ds ≤ 1048576 := by
  have h : Rows.uptoBulkAll (ds ++ gs) ≤ 1048576 := of_decide_eq_true hk
  rw [bulk_app] at h
  omega
theorem pr_arg {n m : Nat} {l : List D} (h : typed Try.T n 27 m l) (hm : m ≤ 1048576) : ∃ p : Pr, asD Try.T 27 l = p.d ∧ p.Small ∧ (∀ s ∈ p.stmts, Ref15.nodes s.x ≤ 1073741824) ∧ (∀ t ∈ p.tables, t.values.length ≤ 1073741824) ∧ Read p 1048576 := by
  letI : GlobInt := ⟨fun _ => 0⟩
  obtain ⟨p, rfl, hr⟩ := pr_of h
  exact ⟨p, rfl, hr.small hm, hr.node hm, hr.vals hm, ⟨by have := hr.params; omega, by have := hr.states; omega, by have := hr.lines; omega, by have := hr.tables; omega, by have := hr.stmts; omega, by have := hr.nodes; omega, by have := hr.values; omega⟩⟩
theorem arg1 {t : TypeId} {ds : List (DataW H)} {xs : List D} (h : typedArgs Try.T [t] ds xs) : ∃ d, ds = [d] ∧ ∃ n l, typed Try.T n t (Rows.uptoBulk d) l ∧ xs = [asD Try.T t l] := by
  match ds, xs, h with
  | [d], [x], h =>
    obtain ⟨⟨n, l, h1, rfl⟩, _⟩ := h
    exact ⟨d, rfl, n, l, h1, rfl⟩
  | [], [], h => exact h.elim
  | [], _ :: _, h => exact h.elim
  | _ :: _, [], h => exact h.elim
  | [_], _ :: _ :: _, h => exact h.2.elim
  | _ :: _ :: _, [_], h => exact h.2.elim
  | _ :: _ :: _, _ :: _ :: _, h => exact h.2.elim
theorem arg2 {t u : TypeId} {ds : List (DataW H)} {xs : List D} (h : typedArgs Try.T [t, u] ds xs) : ∃ d e, ds = [d, e] ∧ ∃ n l m k, typed Try.T n t (Rows.uptoBulk d) l ∧ typed Try.T m u (Rows.uptoBulk e) k ∧ xs = [asD Try.T t l, asD Try.T u k] := by
  match ds, xs, h with
  | [], [], h => exact h.elim
  | [], _ :: _, h => exact h.elim
  | _ :: _, [], h => exact h.elim
  | d :: ds, x :: xs, h =>
    obtain ⟨⟨n, l, h1, rfl⟩, h⟩ := h
    obtain ⟨e, rfl, m, k, h2, rfl⟩ := arg1 h
    exact ⟨d, e, rfl, n, l, m, k, h1, h2, rfl⟩
theorem own : ownKnob Try.prog.godebug = none := by kernel_rfl
theorem laid : laidOutB Try.prog = true := by kernel_rfl
def seatS : List Nat := [3, 5, 9, 22, 23, 24, 25, 27, 34, 36, 38, 42, 44, 50, 52]
theorem closedS : closedT Try.T seatS seatS = true := by kernel_rfl
theorem tok' : TblOk Try.prog Try.T := @tok ⟨fun _ => 0⟩
/-- The processor with nothing in it. -/
def zeroPr : Value := .agg #[.string .empty, .int .i64 0, .int .i64 0, .slice none 0 0, .slice none 0 0, .slice none 0 0, .slice none 0 0, .slice none 0 0]
def zeroD {H : Type} : DataW H := .agg [.lit (.string []), .lit (.int .i64 0), .lit (.int .i64 0), .nil, .nil, .nil, .nil, .nil]
end Go.Proofs.Ytgilgdfmohmbdaa
