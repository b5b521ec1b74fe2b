/- Plain: other names change no index. -/
import Derived.Test.YtgilgdfmohmbdaaZP5
import Derived.Test.YtgilgdfmohmbdaaZD11
import Derived.Test.YtgilgdfmohmbdaaZP34
set_option linter.unusedSimpArgs false
set_option linter.unusedVariables false
namespace Go.Fw.Nam
set_option linter.unusedSectionVars false
variable [GlobInt]
open Ref15
def qPe (x : Pe) : Pe := (qS x.1, x.2)
theorem qS_beq (a b : Str) : (qS a == qS b) = (a == b) := by
  rw [Bool.eq_iff_iff]; simp [qS]
theorem words_q (s : Str) : (words.any fun w => w == qS s) = false := by
  rw [List.any_eq_false]
  intro w hw
  have : ∀ w ∈ words, w.head? ≠ some 113 := by decide
  have := this w hw
  intro h
  have e : w = qS s := by simpa using h
  rw [e] at this
  exact this rfl
theorem nmOk_q {s : Str} (h : nmOk s = true) (hl : s.length < 32) : nmOk (qS s) = true := by
  rw [nmOk_eq] at h ⊢
  simp only [nameOk, Bool.not_eq_true', Bool.or_eq_false_iff, Bool.not_eq_false'] at h ⊢
  obtain ⟨h1, _⟩ := h
  refine ⟨?_, ?_⟩
  · simp only [Ref03.name, Bool.and_eq_true] at h1 ⊢
    refine ⟨?_, ?_⟩
    · have e1 : ¬ (((qS s).length : Int) < 1) := by simp only [qS, List.length_append, List.length_cons, List.length_nil]; omega
      have e2 : ¬ (((qS s).length : Int) > 32) := by simp only [qS, List.length_append, List.length_cons, List.length_nil]; omega
      have e3 : Ref03.letter ((qS s).getD 0 0) = true := by simp only [qS, List.cons_append, List.nil_append, List.getD_cons_zero]; decide
      rw [e3]; simp only [e1, e2, decide_false]; rfl
    · simp only [qS, List.cons_append, List.nil_append, List.all_cons, h1.2, Bool.and_true]; decide
  · have : decide (find words (qS s) ≥ 0) = _ := find_ge (qS s) words 0 (by omega)
    rw [this, words_q]
theorem decN_q (k : Int) : ∀ (l : List Str) (i : Nat), decN k (l.map qS) i = (decN k l i).map qPe
  | [], _ => rfl
  | s :: r, i => by simp only [List.map_cons, decN, decN_q k r (i + 1)]; rfl
theorem decS_q : ∀ (l : List Sm) (i : Nat), decS (l.map qSm) i = (decS l i).map qPe
  | [], _ => rfl
  | s :: r, i => by
    simp only [List.map_cons, decS, decS_q r (i + 1)]
    by_cases h : s.kind = 1
    · have h4 : (s.kind != 4) = true := by rw [h]; rfl
      simp only [qSm, h, beq_self_eq_true, if_true]
      rw [h] at h4
      simp only [h4, if_true, List.map_cons]; rfl
    · have h1 : (s.kind == 1) = false := by simpa using h
      simp only [qSm, h1, Bool.false_eq_true, if_false]
theorem bounds_q (l : List Bd) : bounds (l.map qBd) = (bounds l).map qS := by simp [bounds, qBd]
theorem decl_q (p : Pr) : decl (prefixed p) = (decl p).map qPe := by
  have h1 : lines (prefixed p) = (lines p).map qS := by simp [lines, prefixed, qLn]
  have h2 : tables (prefixed p) = (tables p).map qS := by simp [tables, prefixed, qTb]
  simp only [decl, T4, T3, T2, T1, List.map_append, h1, h2]
  simp only [prefixed, bounds_q, decN_q, decS_q]
theorem fsts_q (l : List Pe) : fsts (l.map qPe) = (fsts l).map qS := by simp [fsts, qPe]
theorem lk_q (n : Str) : ∀ l : List Pe, lk (qS n) (l.map qPe) = lk n l
  | [] => rfl
  | x :: r => by
    simp only [List.map_cons, lk, lk_q n r, qPe, qS_beq]
theorem hasS_q (s : Str) : ∀ l : List Str, hasS (qS s) (l.map qS) = hasS s l
  | [] => rfl
  | x :: r => by simp only [List.map_cons, hasS, qS_beq, hasS_q s r]
theorem uniqB_q : ∀ l : List Str, uniqB (l.map qS) = uniqB l
  | [] => rfl
  | x :: r => by simp only [List.map_cons, uniqB, hasS_q, uniqB_q r]
theorem lk_kind {p : Pr} {n : Str} {e : En} (h : lk n (decl p) = some e) : named e.kind = true := by
  rw [lk_decl] at h
  split at h
  · cases h; rfl
  split at h
  · cases h; rfl
  split at h
  · cases h; rfl
  split at h
  · cases h; rfl
  split at h
  · cases h; rfl
  · cases h
theorem renamedL_len : ∀ l : List Ex, (renamedL l).length = l.length
  | [] => rfl
  | x :: r => by simp only [renamedL, List.length_cons, renamedL_len r]
theorem vok_q (l : List Pe) (i k : Int) (n : Str) : vok (l.map qPe) i k (if named k then qS n else n) = vok l i k n := by
  simp only [vok, arity_eq]
  cases h : named k with
  | true => simp only [if_true, lk_q]
  | false => simp
theorem visB_q (l : List Pe) (i : Int) (x : Ex) : visB (l.map qPe) i (renamed x) = visB l i x := by
  refine Ex.ind (P := fun x => visB (l.map qPe) i (renamed x) = visB l i x) (fun x ih => ?_) x
  rw [renamed_eq, visB_eq, visB_eq]
  show (vok (l.map qPe) i x.kind (if named x.kind then qS x.name else x.name) && visBL (l.map qPe) i (renamedL x.l)) = _
  rw [vok_q]
  congr 1
  generalize x.l = m at ih
  induction m with
  | nil => rfl
  | cons y r ih2 =>
    simp only [renamedL, visBL]
    rw [ih y (by simp), ih2 (fun z hz => ih z (List.mem_cons_of_mem _ hz))]
theorem vis_q {l : List Pe} (hk : ∀ n e, lk n l = some e → named e.kind = true) (i : Int) (x : Ex) (h : visB l i x = true) : vis (l.map qPe) (renamed x) = renamed (vis l x) := by
  revert h
  refine Ex.ind (P := fun x => visB l i x = true → vis (l.map qPe) (renamed x) = renamed (vis l x)) (fun x ih h => ?_) x
  rw [visB_eq, Bool.and_eq_true] at h
  obtain ⟨h1, h2⟩ := h
  have hL : visL (l.map qPe) (renamedL x.l) = renamedL (visL l x.l) := by
    generalize x.l = m at ih h2
    induction m with
    | nil => rfl
    | cons y r ih2 =>
      simp only [visBL, Bool.and_eq_true] at h2
      simp only [renamedL, visL]
      rw [ih y (by simp) h2.1, ih2 (fun z hz => ih z (List.mem_cons_of_mem _ hz)) h2.2]
  rw [renamed_eq x, vis_eq, renamed_eq (vis l x)]
  show Ex.mk (vkind (l.map qPe) x.kind (if named x.kind then qS x.name else x.name)) (if named x.kind then qS x.name else x.name) (vidx (l.map qPe) x.kind (if named x.kind then qS x.name else x.name)) x.n (visL (l.map qPe) (renamedL x.l)) = _
  rw [hL, vis_eq]
  show _ = Ex.mk (vkind l x.kind x.name) (if named (vkind l x.kind x.name) then qS x.name else x.name) (vidx l x.kind x.name) x.n (renamedL (visL l x.l))
  simp only [vok, arity_eq] at h1
  simp only [vkind, vidx, arity_eq]
  cases hn : named x.kind with
  | true =>
    rw [hn] at h1
    simp only [if_true, lk_q]
    cases hl : lk x.name l with
    | none => rw [hl] at h1; simp at h1
    | some e => simp only [hk _ _ hl, if_true]
  | false => simp only [Bool.false_eq_true, if_false, hn]
theorem target_q (l : List Pe) (s : Sm) (hs : isSP s.kind = true) : target (l.map qPe) (qSm s) = target l s := by
  have h4 : (s.kind != 4) = true := by
    simp only [isSP, Bool.or_eq_true, beq_iff_eq] at hs
    rcases hs with h | h <;> rw [h] <;> rfl
  simp only [target, qSm, h4, if_true, lk_q]
theorem stop_q (l : List Pe) (s : Sm) (i : Nat) (d : List (Int × Int)) (o : Bool) : stopS (l.map qPe) (qSm s) i d o = stopS l s i d o := by
  have hx : (qSm s).x = renamed s.x := rfl
  have hk : (qSm s).kind = s.kind := rfl
  simp only [stopS, hx, hk, visB_q]
  cases hs : isSP s.kind with
  | true => simp only [target_q l s hs]
  | false => simp only [Bool.false_eq_true, if_false]
theorem done_q (l : List Pe) (s : Sm) (d : List (Int × Int)) : doneS (l.map qPe) (qSm s) d = doneS l s d := by
  have hk : (qSm s).kind = s.kind := rfl
  simp only [doneS, hk]
  cases hs : isSP s.kind with
  | true => simp only [target_q l s hs]
  | false => simp only [Bool.false_eq_true, if_false]
theorem stop_vis0 {l : List Pe} {s : Sm} {i : Nat} {d : List (Int × Int)} {o : Bool} (h : stopS l s i d o = 0) : visB l (i : Int) s.x = true := by
  cases hv : visB l (i : Int) s.x with
  | true => rfl
  | false => rw [stop_vis hv] at h; exact absurd h (by decide)
theorem out_q {l : List Pe} (hk : ∀ n e, lk n l = some e → named e.kind = true) {s : Sm} {i : Nat} (h : visB l (i : Int) s.x = true) : outS (l.map qPe) (qSm s) = qSm (outS l s) := by
  have hs : sidx (l.map qPe) (qSm s) = sidx l s := by
    have hk : (qSm s).kind = s.kind := rfl
    simp only [sidx, hk]
    cases hs : isSP s.kind with
    | true => simp only [target_q l s hs]
    | false => simp only [Bool.false_eq_true, if_false]
  have hv := vis_q hk i s.x h
  show Sm.mk s.kind (if s.kind != 4 then qS s.name else s.name) (sidx (l.map qPe) (qSm s)) (vis (l.map qPe) (renamed s.x)) = Sm.mk s.kind (if s.kind != 4 then qS s.name else s.name) (sidx l s) (renamed (vis l s.x))
  rw [hs, hv]
theorem run_q {l : List Pe} (hk : ∀ n e, lk n l = some e → named e.kind = true) : ∀ (r : List Sm) (i : Nat) (d : List (Int × Int)) (o : Bool) (t : List Sm), runS l r i d o = .ok t → runS (l.map qPe) (r.map qSm) i d o = .ok (t.map qSm)
  | [], i, d, o, t, h => by
    simp only [runS, List.map_nil] at h ⊢
    cases o with
    | true => simp only [if_true] at h ⊢; cases h; rfl
    | false => simp at h
  | s :: r, i, d, o, t, h => by
    simp only [runS, List.map_cons] at h ⊢
    rw [stop_q, done_q]
    have hk4 : (qSm s).kind = s.kind := rfl
    rw [hk4]
    split at h
    · cases h
    · rename_i h0
      rw [if_neg h0]
      have h0 : stopS l s i d o = 0 := by simpa using h0
      cases hr : runS l r (i + 1) (doneS l s d) (s.kind == 4) with
      | error e => rw [hr] at h; cases h
      | ok t' =>
        rw [hr] at h; cases h
        rw [run_q hk r _ _ _ _ hr, out_q hk (stop_vis0 h0)]
        rfl
theorem formed1_q (x : Ex) : every formed1 (renamed x) = every formed1 x := by
  refine Ex.ind (P := fun x => every formed1 (renamed x) = every formed1 x) (fun x ih => ?_) x
  rw [renamed_eq, every_eq, every_eq]
  have e : formed1 (.mk x.kind (if named x.kind then qS x.name else x.name) x.index x.n (renamedL x.l)) = formed1 x := by
    simp only [formed1, Ex.l, Ex.kind, Ex.name, Ex.n, renamedL_len, arity_eq]
    cases x with
    | mk k n i m l =>
      by_cases hk : named k = true
      · simp only [hk, if_true, Bool.true_or]; rfl
      · simp only [hk, Bool.false_eq_true, if_false]; rfl
  rw [e]
  show (formed1 x && everyL formed1 (renamedL x.l)) = _
  congr 1
  generalize x.l = m at ih
  induction m with
  | nil => rfl
  | cons y r ih2 =>
    simp only [renamedL, everyL]
    rw [ih y (by simp), ih2 (fun z hz => ih z (List.mem_cons_of_mem _ hz))]
theorem ranged2_q (x : Ex) : every ranged2 (renamed x) = every ranged2 x := by
  refine Ex.ind (P := fun x => every ranged2 (renamed x) = every ranged2 x) (fun x ih => ?_) x
  rw [renamed_eq, every_eq, every_eq]
  have e : ranged2 (.mk x.kind (if named x.kind then qS x.name else x.name) x.index x.n (renamedL x.l)) = ranged2 x := by
    cases x; rfl
  rw [e]
  show (ranged2 x && everyL ranged2 (renamedL x.l)) = _
  congr 1
  generalize x.l = m at ih
  induction m with
  | nil => rfl
  | cons y r ih2 =>
    simp only [renamedL, everyL]
    rw [ih y (by simp), ih2 (fun z hz => ih z (List.mem_cons_of_mem _ hz))]
theorem formed_q (p : Pr) : formed (prefixed p) = formed p := by
  simp only [formed, prefixed, List.all_map]
  congr 1; funext s
  have e : stmt1 (qSm s) = stmt1 s := by
    show (decide (s.kind ≥ 1) && decide (s.kind ≤ 4) && (s.kind != 4 || (if s.kind != 4 then qS s.name else s.name) == [])) = (decide (s.kind ≥ 1) && decide (s.kind ≤ 4) && (s.kind != 4 || s.name == []))
    by_cases h : (s.kind != 4) = true
    · rw [h]; rfl
    · rw [if_neg h]
  show (stmt1 (qSm s) && every formed1 (renamed s.x)) = _
  rw [e, formed1_q]
theorem limited_q (p : Pr) : limited (prefixed p) = limited p := by
  have h1 : head1 (prefixed p) = head1 p := by simp only [head1, most, prefixed, List.length_map]; rfl
  have h2 : (prefixed p).lines.all ln1 = p.lines.all ln1 := by simp only [prefixed, List.all_map]; rfl
  have h3 : (prefixed p).tables.all tb1 = p.tables.all tb1 := by simp only [prefixed, List.all_map]; rfl
  have h4 : (prefixed p).stmts.all sm1 = p.stmts.all sm1 := by
    simp only [prefixed, List.all_map]
    congr 1; funext s
    show sm1 (qSm s) = sm1 s
    simp only [sm1, qSm, renamed_nodes]
  simp only [limited, h1, h2, h3, h4]
theorem ranged_q (p : Pr) : ranged (prefixed p) = ranged p := by
  have h1 : (allB (prefixed p)).all bd1 = (allB p).all bd1 := by
    simp only [allB, prefixed, List.flatten_cons, List.flatten_nil, List.append_nil, List.all_append, List.all_map]; rfl
  have h2 : (prefixed p).tables.all tb2 = p.tables.all tb2 := by simp only [prefixed, List.all_map]; rfl
  have h3 : (prefixed p).stmts.all sm2 = p.stmts.all sm2 := by
    simp only [prefixed, List.all_map]
    congr 1; funext s
    show sm2 (qSm s) = sm2 s
    simp only [sm2, qSm, ranged2_q]
  simp only [ranged, h1, h2, h3]
theorem prefixed_resolve {p : Pr} (h : (resolveC p).2 = 0) (hl : ∀ s ∈ Declared p, s.length < 32) : resolveC (prefixed p) = (prefixed (resolveC p).1, 0) := by
  obtain ⟨g1, g2, g3, g4, g5, g6, e⟩ := resolved_form h
  rw [e]
  have n1 : ((prefixed p).name :: fsts (decl (prefixed p))).all nmOk = true := by
    rw [decl_q, fsts_q]
    simp only [List.all_cons, Bool.and_eq_true] at g3 ⊢
    refine ⟨g3.1, ?_⟩
    rw [List.all_map, List.all_eq_true]
    intro s hs
    exact nmOk_q (List.all_eq_true.1 g3.2 s hs) (hl s (by rw [← fsts_decl]; exact hs))
  have u1 : uniqB (fsts (decl (prefixed p))) = true := by rw [decl_q, fsts_q, uniqB_q]; exact g4
  have r1 := run_q (fun n e he => lk_kind he) p.stmts 0 [] false _ g6
  unfold resolveC
  rw [formed_q, limited_q, ranged_q, n1, u1, g1, g2, g5]
  simp only [Bool.not_true, Bool.false_eq_true, if_false]
  rw [show (prefixed p).stmts = p.stmts.map qSm from rfl, decl_q, r1]
  rfl
theorem lawRenamed_true (p : Pr) : lawRenamed p = true := by
  by_cases hF : (!Few p) = true
  · exact lr_no hF
  have hF : (!Few p) = false := by simpa using hF
  by_cases h : ((resolveC p).2 != 0) = true
  · exact lr_err hF h
  have h : ((resolveC p).2 != 0) = false := by simpa using h
  rw [lr_eq hF h]
  split
  · rfl
  · rename_i hl
    have hl' : ∀ s ∈ Declared p, s.length < 32 := fun s hs => by
      have := hl
      simp only [List.any_eq_true, not_exists, not_and, decide_eq_true_eq] at this
      have := this s hs
      omega
    rw [prefixed_resolve (ne_of h) hl']
    simp only [beq_self_eq_true, Bool.true_and]
    exact Go.Proofs.Ytgilgdfmohmbdaa.same_refl _
end Go.Fw.Nam
