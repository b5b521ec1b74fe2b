/- Contracts: the laws of ranges: RangesSat. -/
import Derived.Test.YtjgponkgifopaaaGreatDoorZXF
import Derived.Test.YtjgponkgifopaaaGreatDoorZFY
set_option linter.unusedSimpArgs false
set_option linter.unusedVariables false
namespace Go.Proofs.YtjgponkgifopaaaGreatDoor
open Go.Fw Go.Fw.Rg Go.Fw.Nam
set_option maxRecDepth 100000
set_option linter.unusedSectionVars false
variable [GlobInt]
theorem guard_no {p g : Bool} {A B : AV → Prop} (h1 : p = true) (hg : g = false) (h3 : B (.data (.b false))) : p = true ∧ ∃ v, (g = true → A v) ∧ B v :=
  ⟨h1, _, fun h => by rw [hg] at h; exact Bool.noConfusion h, h3⟩
theorem lapply_one (k : Int) (x : Ex) : PCall Tryz.prog 20 [.i k, .sl 5 [[.i x.kind, .str x.name, .i x.index, .i x.n, .sl 5 (Ex.css x.l)]]] (.ret (applyM k [x]).d) := by
  obtain ⟨a, b, c, d, e⟩ := x
  exact lapply_call k [.mk a b c d e]
set_option maxHeartbeats 2000000 in
theorem sat_nil (p : Pr) (g : GoodP p) (H : FewH p) (hn : p.stmts = []) : PCall Tryz.prog 8 [p.d] (.ret (.b true)) := by
  obtain ⟨nm, la, ta, ps, ss, ls, ts, st⟩ := p
  simp only at hn
  subst hn
  refine pcall_of_wc tok hmix ⟨[], []⟩ Tryz.func8 rfl (by kernel_rfl) (by kernel_rfl) (by kernel_rfl) fun hf => ?_
  clear hf
  repeat' ((try (conv => whnf)) <;> first
    | (exact Bool.noConfusion (show false = true from h))
    | (exact Bool.noConfusion (show true = false from (nil_skipc _ _).symm.trans h))
    | ((with_reducible refine guard_no ?_ ?_ ?_); exact rfl; (exact nil_want _))
    | with_reducible refine BrI.intro (fun h => ?_) (fun h => ?_)
    | ((with_reducible refine call_step ?_ ?_ ?_); rotate_left; (first | exact rsane_call | exact rfew_call _ (by assumption) (by assumption) | exact lapply_call _ _ | exact rresolved_call _ (by assumption) | exact check_any _ _ _ (by assumption) | exact rcheck_call _ (by assumption) | exact lnum_call _ | exact int_no1 _ _ _ (by assumption) (by assumption) | exact int_no2 _ _ _ _ (by assumption) (by assumption) | exact int_name _ _ _ (by assumption) (by assumption) | exact int_ok _ _ _ _ (by assumption) (by assumption) (by assumption) | exact int_bad _ _ _ _ (by assumption) (by assumption) (by assumption) | exact bounds_no _ _ _ (by assumption) (by assumption) | exact bounds_ok _ _ (by assumption) | exact rclip_call _ | exact rsane_call | exact rfew_call _ g.sm H | fail))
    | ((with_reducible refine ret_step ?_); refine ⟨[], rfl, ?_, trivial⟩; conv => whnf)
    | fail)
  all_goals first
    | skip
set_option maxHeartbeats 2000000 in
theorem sat_skip (p : Pr) (init : List Sm) (s : Sm) (g : GoodP p) (H : FewH p) (hp : p.stmts = init ++ [s]) (he : (bif (bif !(fewP p) then true else decide (lastW p < 0)) then true else s.kind != 4) = true) : PCall Tryz.prog 8 [p.d] (.ret (.b true)) := by
  refine pcall_of_wc tok hmix ⟨[], []⟩ Tryz.func8 rfl (by kernel_rfl) (by kernel_rfl) (by kernel_rfl) fun hf => ?_
  have hpl := g.sm.stmts
  clear hf
  repeat' ((try (conv => whnf)) <;> first
    | (exact Bool.noConfusion (show false = true from h))
    | (exact Bool.noConfusion (show true = false from he.symm.trans h))
    | with_reducible refine BrI.intro (fun h => ?_) (fun h => ?_)
    | ((with_reducible refine idx_step ?_ ?_ ?_ ?_ ?_); exact rfl; exact rfl; rotate_left; exact last_idx hp hpl)
    | ((with_reducible refine call_step ?_ ?_ ?_); rotate_left; (first | exact rsane_call | exact rfew_call _ (by assumption) (by assumption) | exact lapply_call _ _ | exact rresolved_call _ (by assumption) | exact check_any _ _ _ (by assumption) | exact rcheck_call _ (by assumption) | exact lnum_call _ | exact int_no1 _ _ _ (by assumption) (by assumption) | exact int_no2 _ _ _ _ (by assumption) (by assumption) | exact int_name _ _ _ (by assumption) (by assumption) | exact int_ok _ _ _ _ (by assumption) (by assumption) (by assumption) | exact int_bad _ _ _ _ (by assumption) (by assumption) (by assumption) | exact bounds_no _ _ _ (by assumption) (by assumption) | exact bounds_ok _ _ (by assumption) | exact rclip_call _ | exact rsane_call | exact rfew_call p g.sm H | fail))
    | ((with_reducible refine guard_step ?_ ?_ (fun hg => ?_) ?_); exact rfl)
    | ((with_reducible refine val_step ?_ ?_); with_reducible exact rfl; with_reducible exact rfl)
    | ((with_reducible refine ret_step ?_); refine ⟨[], rfl, ?_, trivial⟩; conv => whnf)
    | fail)
  all_goals first
    | skip
set_option maxHeartbeats 4000000 in
theorem sat_unres (p : Pr) (init : List Sm) (s : Sm) (n2 n4 : Int) (g : GoodP p) (H : FewH p) (hp : p.stmts = init ++ [s]) (he : (bif (bif !(fewP p) then true else decide (lastW p < 0)) then true else s.kind != 4) = false) (r2 : PCall Tryz.prog 21 [rawD p (applyM 10 [s.x])] (.ret (.i n2))) (hr : (bif resE p != 0 then true else n2 != 0) = true) (c1 : PCall Tryz.prog 13 [p.d] (.ret (.i (boundsR p).2))) (c3 : PCall Tryz.prog 13 [rawD p (applyM 10 [s.x])] (.ret (.i n4))) (c4 : PCall Tryz.prog 17 [rawD p (applyM 10 [s.x])] (.ret (.i n4))) : PCall Tryz.prog 8 [p.d] (.ret (.b true)) := by
  refine pcall_of_wc tok hmix ⟨[], []⟩ Tryz.func8 rfl (by kernel_rfl) (by kernel_rfl) (by kernel_rfl) fun hf => ?_
  have hpl := g.sm.stmts
  clear hf
  repeat' ((try (conv => whnf)) <;> first
    | (exact Bool.noConfusion (show false = true from h))
    | (exact Bool.noConfusion (show true = false from h.symm.trans he))
    | (exact Bool.noConfusion (show true = false from hr.symm.trans h))
    | with_reducible refine BrI.intro (fun h => ?_) (fun h => ?_)
    | ((with_reducible refine idx_step ?_ ?_ ?_ ?_ ?_); exact rfl; exact rfl; rotate_left; exact last_idx hp hpl)
    | ((with_reducible refine call_step ?_ ?_ ?_); rotate_left; (first | exact rsane_call | exact rfew_call _ (by assumption) (by assumption) | exact lapply_call _ _ | exact rresolved_call _ (by assumption) | exact check_any _ _ _ (by assumption) | exact rcheck_call _ (by assumption) | exact lnum_call _ | exact int_no1 _ _ _ (by assumption) (by assumption) | exact int_no2 _ _ _ _ (by assumption) (by assumption) | exact int_name _ _ _ (by assumption) (by assumption) | exact int_ok _ _ _ _ (by assumption) (by assumption) (by assumption) | exact int_bad _ _ _ _ (by assumption) (by assumption) (by assumption) | exact bounds_no _ _ _ (by assumption) (by assumption) | exact bounds_ok _ _ (by assumption) | exact rclip_call _ | exact rsane_call | exact rfew_call p g.sm H | exact r2 | exact c1 | exact c3 | exact c4 | exact lapply_one 10 s.x | fail))
    | (with_reducible refine ChooseI.l _ ?_)
    | ((with_reducible refine len_step ?_ ?_); exact rfl)
    | ((with_reducible refine app_step' ?_ ?_ ?_ ?_ ?_ ?_ ?_); exact rfl; exact rfl; exact rfl; exact rfl)
    | ((with_reducible refine guard_step ?_ ?_ (fun hg => ?_) ?_); exact rfl)
    | ((with_reducible refine val_step ?_ ?_); with_reducible exact rfl; with_reducible exact rfl)
    | ((with_reducible refine chk_step ?_ ?_); kernel_rfl)
    | ((with_reducible refine ret_step ?_); refine ⟨[], rfl, ?_, trivial⟩; conv => whnf)
    | (with_reducible refine And.intro ?_ ?_)
    | exact ble_le rfl
    | fail)
  all_goals first
    | (rfl)
    | ((exact (last_cut hp hpl).1))
    | ((exact (last_cut hp hpl).2))
    | ((exact congrArg D.b (self2 _ _)))
    | ((exact len_a hp hpl))
    | skip
set_option maxHeartbeats 4000000 in
theorem sat_none (p : Pr) (init : List Sm) (s : Sm) (n2 n4 : Int) (g : GoodP p) (H : FewH p) (hp : p.stmts = init ++ [s]) (he : (bif (bif !(fewP p) then true else decide (lastW p < 0)) then true else s.kind != 4) = false) (r2 : PCall Tryz.prog 21 [rawD p (applyM 10 [s.x])] (.ret (.i n2))) (hr : (bif resE p != 0 then true else n2 != 0) = false) (c5 : PCall Tryz.prog 13 [rawD p (numM 0)] (.ret (.i n4))) (h4 : (n4 != 0) = true) (c3 : PCall Tryz.prog 13 [rawD p (applyM 10 [s.x])] (.ret (.i n4))) : PCall Tryz.prog 8 [p.d] (.ret (.b true)) := by
  refine pcall_of_wc tok hmix ⟨[], []⟩ Tryz.func8 rfl (by kernel_rfl) (by kernel_rfl) (by kernel_rfl) fun hf => ?_
  have hpl := g.sm.stmts
  clear hf
  repeat' ((try (conv => whnf)) <;> first
    | (exact Bool.noConfusion (show false = true from h))
    | (exact Bool.noConfusion (show true = false from h.symm.trans he))
    | (exact Bool.noConfusion (show true = false from h.symm.trans hr))
    | (exact Bool.noConfusion (show true = false from h4.symm.trans h))
    | with_reducible refine BrI.intro (fun h => ?_) (fun h => ?_)
    | ((with_reducible refine idx_step ?_ ?_ ?_ ?_ ?_); exact rfl; exact rfl; rotate_left; exact last_idx hp hpl)
    | ((with_reducible refine call_step ?_ ?_ ?_); rotate_left; (first | exact rsane_call | exact rfew_call _ (by assumption) (by assumption) | exact lapply_call _ _ | exact rresolved_call _ (by assumption) | exact check_any _ _ _ (by assumption) | exact rcheck_call _ (by assumption) | exact lnum_call _ | exact int_no1 _ _ _ (by assumption) (by assumption) | exact int_no2 _ _ _ _ (by assumption) (by assumption) | exact int_name _ _ _ (by assumption) (by assumption) | exact int_ok _ _ _ _ (by assumption) (by assumption) (by assumption) | exact int_bad _ _ _ _ (by assumption) (by assumption) (by assumption) | exact bounds_no _ _ _ (by assumption) (by assumption) | exact bounds_ok _ _ (by assumption) | exact rclip_call _ | exact rsane_call | exact rfew_call p g.sm H | exact r2 | exact lapply_one 10 s.x | exact lnum_call 0 | exact c5 | exact c3 | fail))
    | (with_reducible refine ChooseI.l _ ?_)
    | ((with_reducible refine len_step ?_ ?_); exact rfl)
    | ((with_reducible refine app_step' ?_ ?_ ?_ ?_ ?_ ?_ ?_); exact rfl; exact rfl; exact rfl; exact rfl)
    | ((with_reducible refine guard_step ?_ ?_ (fun hg => ?_) ?_); exact rfl)
    | ((with_reducible refine val_step ?_ ?_); with_reducible exact rfl; with_reducible exact rfl)
    | ((with_reducible refine chk_step ?_ ?_); kernel_rfl)
    | ((with_reducible refine ret_step ?_); refine ⟨[], rfl, ?_, trivial⟩; conv => whnf)
    | (with_reducible refine And.intro ?_ ?_)
    | exact ble_le rfl
    | fail)
  all_goals first
    | (rfl)
    | ((exact (last_cut hp hpl).1))
    | ((exact (last_cut hp hpl).2))
    | ((exact len_a hp hpl))
    | ((exact congrArg D.b (beq_self_eq_true _)))
    | skip
set_option maxHeartbeats 4000000 in
theorem sat_err (p : Pr) (init : List Sm) (s : Sm) (n2 e : Int) (g : GoodP p) (H : FewH p) (hp : p.stmts = init ++ [s]) (he : (bif (bif !(fewP p) then true else decide (lastW p < 0)) then true else s.kind != 4) = false) (r2 : PCall Tryz.prog 21 [rawD p (applyM 10 [s.x])] (.ret (.i n2))) (hr : (bif resE p != 0 then true else n2 != 0) = false) (c5 : PCall Tryz.prog 13 [rawD p (numM 0)] (.ret (.i 0))) (i1 : PCall Tryz.prog 15 [rawD p (numM 0), s.x.d] (.ret (.tuple [.i 0, .i 0, .i e]))) (h4 : (e != 0) = true) (c3 : PCall Tryz.prog 13 [rawD p (applyM 10 [s.x])] (.ret (.i e))) (c1 : PCall Tryz.prog 13 [p.d] (.ret (.i e))) : PCall Tryz.prog 8 [p.d] (.ret (.b true)) := by
  refine pcall_of_wc tok hmix ⟨[], []⟩ Tryz.func8 rfl (by kernel_rfl) (by kernel_rfl) (by kernel_rfl) fun hf => ?_
  have hpl := g.sm.stmts
  clear hf
  repeat' ((try (conv => whnf)) <;> first
    | (exact Bool.noConfusion (show false = true from h))
    | (exact Bool.noConfusion (show true = false from h.symm.trans he))
    | (exact Bool.noConfusion (show true = false from h.symm.trans hr))
    | (exact Bool.noConfusion (show true = false from h4.symm.trans h))
    | with_reducible refine BrI.intro (fun h => ?_) (fun h => ?_)
    | ((with_reducible refine idx_step ?_ ?_ ?_ ?_ ?_); exact rfl; exact rfl; rotate_left; exact last_idx hp hpl)
    | ((with_reducible refine call_step ?_ ?_ ?_); rotate_left; (first | exact rsane_call | exact rfew_call _ (by assumption) (by assumption) | exact lapply_call _ _ | exact rresolved_call _ (by assumption) | exact check_any _ _ _ (by assumption) | exact rcheck_call _ (by assumption) | exact lnum_call _ | exact int_no1 _ _ _ (by assumption) (by assumption) | exact int_no2 _ _ _ _ (by assumption) (by assumption) | exact int_name _ _ _ (by assumption) (by assumption) | exact int_ok _ _ _ _ (by assumption) (by assumption) (by assumption) | exact int_bad _ _ _ _ (by assumption) (by assumption) (by assumption) | exact bounds_no _ _ _ (by assumption) (by assumption) | exact bounds_ok _ _ (by assumption) | exact rclip_call _ | exact rsane_call | exact rfew_call p g.sm H | exact r2 | exact lapply_one 10 s.x | exact lnum_call 0 | exact c5 | exact i1 | exact c3 | exact c1 | fail))
    | (with_reducible refine ChooseI.l _ ?_)
    | ((with_reducible refine len_step ?_ ?_); exact rfl)
    | ((with_reducible refine app_step' ?_ ?_ ?_ ?_ ?_ ?_ ?_); exact rfl; exact rfl; exact rfl; exact rfl)
    | ((with_reducible refine guard_step ?_ ?_ (fun hg => ?_) ?_); exact rfl)
    | ((with_reducible refine val_step ?_ ?_); with_reducible exact rfl; with_reducible exact rfl)
    | ((with_reducible refine chk_step ?_ ?_); kernel_rfl)
    | ((with_reducible refine ret_step ?_); refine ⟨[], rfl, ?_, trivial⟩; conv => whnf)
    | (with_reducible refine And.intro ?_ ?_)
    | exact ble_le rfl
    | fail)
  all_goals first
    | (rfl)
    | ((exact (last_cut hp hpl).1))
    | ((exact (last_cut hp hpl).2))
    | ((exact len_a hp hpl))
    | ((exact congrArg D.b (self2 _ _)))
    | skip
set_option maxHeartbeats 4000000 in
theorem sat_fin (p : Pr) (init : List Sm) (s : Sm) (n2 : Int) (t : Sp) (F : List Sp) (g : GoodP p) (H : FewH p) (hp : p.stmts = init ++ [s]) (he : (bif (bif !(fewP p) then true else decide (lastW p < 0)) then true else s.kind != 4) = false) (r2 : PCall Tryz.prog 21 [rawD p (applyM 10 [s.x])] (.ret (.i n2))) (hr : (bif resE p != 0 then true else n2 != 0) = false) (hF : F.length = init.length) (c5 : PCall Tryz.prog 13 [rawD p (numM 0)] (.ret (.i 0))) (i1 : PCall Tryz.prog 15 [rawD p (numM 0), s.x.d] (.ret (.tuple [.i t.1, .i t.2, .i 0]))) (b1 : PCall Tryz.prog 11 [rawD p (applyM 10 [s.x])] (.ret (.tuple [.sl 2 ((F ++ [(clipM t.1, clipM t.2)]).map Sp.cs), .i 0]))) : PCall Tryz.prog 8 [p.d] (.ret (.b true)) := by
  refine pcall_of_wc tok hmix ⟨[], []⟩ Tryz.func8 rfl (by kernel_rfl) (by kernel_rfl) (by kernel_rfl) fun hf => ?_
  have hpl := g.sm.stmts
  clear hf
  repeat' ((try (conv => whnf)) <;> first
    | (exact Bool.noConfusion (show false = true from h))
    | (exact Bool.noConfusion (show true = false from h.symm.trans he))
    | (exact Bool.noConfusion (show true = false from h.symm.trans hr))
    | with_reducible refine BrI.intro (fun h => ?_) (fun h => ?_)
    | ((with_reducible refine idx_step ?_ ?_ ?_ ?_ ?_); exact rfl; exact rfl; rotate_left; exact last_idx hp hpl)
    | ((with_reducible refine idx_step ?_ ?_ ?_ ?_ ?_); exact rfl; exact rfl; rotate_left; exact last_idxF hp hpl hF)
    | ((with_reducible refine call_step ?_ ?_ ?_); rotate_left; (first | exact rsane_call | exact rfew_call _ (by assumption) (by assumption) | exact lapply_call _ _ | exact rresolved_call _ (by assumption) | exact check_any _ _ _ (by assumption) | exact rcheck_call _ (by assumption) | exact lnum_call _ | exact int_no1 _ _ _ (by assumption) (by assumption) | exact int_no2 _ _ _ _ (by assumption) (by assumption) | exact int_name _ _ _ (by assumption) (by assumption) | exact int_ok _ _ _ _ (by assumption) (by assumption) (by assumption) | exact int_bad _ _ _ _ (by assumption) (by assumption) (by assumption) | exact bounds_no _ _ _ (by assumption) (by assumption) | exact bounds_ok _ _ (by assumption) | exact rclip_call _ | exact rsane_call | exact rfew_call p g.sm H | exact r2 | exact lapply_one 10 s.x | exact lnum_call 0 | exact c5 | exact i1 | exact b1 | exact rclip_call t.1 | exact rclip_call t.2 | fail))
    | (with_reducible refine ChooseI.l _ ?_)
    | ((with_reducible refine kok_step ?_ ?_ ?_); exact rfl; exact rfl)
    | ((with_reducible refine len_step ?_ ?_); exact rfl)
    | ((with_reducible refine app_step' ?_ ?_ ?_ ?_ ?_ ?_ ?_); exact rfl; exact rfl; exact rfl; exact rfl)
    | ((with_reducible refine guard_step ?_ ?_ (fun hg => ?_) ?_); exact rfl)
    | ((with_reducible refine val_step ?_ ?_); with_reducible exact rfl; with_reducible exact rfl)
    | ((with_reducible refine chk_step ?_ ?_); kernel_rfl)
    | ((with_reducible refine ret_step ?_); refine ⟨[], rfl, ?_, trivial⟩; conv => whnf)
    | (with_reducible refine And.intro ?_ ?_)
    | exact ble_le rfl
    | fail)
  all_goals first
    | (rfl)
    | ((exact (last_cut hp hpl).1))
    | ((exact (last_cut hp hpl).2))
    | ((exact len_a hp hpl))
    | ((exact congrArg D.b (fin3 (last_len hp hpl hF) (sameL_refl _))))
    | skip
theorem sat_law (p : Pr) (g : GoodP p) (H : FewH p) : PCall Tryz.prog 8 [p.d] (.ret (.b true)) := by
  rcases List.eq_nil_or_concat p.stmts with hn | ⟨init, s, hp⟩
  · exact sat_nil p g H hn
  rw [List.concat_eq_append] at hp
  cases he : (bif (bif !(fewP p) then true else decide (lastW p < 0)) then true else s.kind != 4) with
  | true => exact sat_skip p init s g H hp he
  | false =>
    have hk : (s.kind == 4) = true := sat_kind he
    have hl := g.sm.stmts
    have gq : GoodP (satM p init s) := last_good hp g (sat_nodes hp H)
    have gn : GoodP (noneM p init) := last_good hp g (by decide)
    have eq : (satM p init s).d = rawD p (applyM 10 [s.x]) := rawD_eq hp hl
    have en : (noneM p init).d = rawD p (numM 0) := rawD_eq hp hl
    have r2 := rresolved_call (satM p init s) gq
    have c1 := gcheck_call p g
    have c3 := gcheck_call (satM p init s) gq
    have c4 := rcheck_call (satM p init s) gq
    rw [eq] at r2 c3 c4
    cases hr : (bif resE p != 0 then true else resE (satM p init s) != 0) with
    | true => exact sat_unres p init s _ _ g H hp he r2 hr c1 c3 c4
    | false =>
      obtain ⟨e1, e2⟩ := sat_both hr
      have hP := resE_res e1
      have hQ := resE_res e2
      have hN := res_zero hp hk hP
      have c5 := gcheck_call (noneM p init) gn
      rw [en] at c5
      cases h0 : (boundsR (noneM p init)).2 != 0 with
      | true =>
        rw [← none_bad hN hQ (by simpa using h0)] at c3
        exact sat_none p init s _ _ g H hp he r2 hr c5 h0 c3
      | false =>
        have h0 : (boundsR (noneM p init)).2 = 0 := by simpa using h0
        rw [h0] at c5
        have i1 := ginterval_call (noneM p init) s.x gn (Nat.le_trans (nodes_esz' s.x) (by have := (H.stm s (by rw [hp]; simp)).2; omega))
        rw [en] at i1
        cases hi : intervalR (noneM p init) s.x with
        | error e =>
          rw [hi] at i1
          obtain ⟨f1, f2⟩ := sat_bad hp hk hP hN hQ h0 hi
          rw [f1] at c3
          rw [f2] at c1
          exact sat_err p init s _ e g H hp he r2 hr c5 i1 (intR_ne hi) c3 c1
        | ok t =>
          rw [hi] at i1
          obtain ⟨F, f1, f2⟩ := sat_ok hp hk hP hN hQ h0 hi
          have b1 := gbounds_call (satM p init s) gq
          rw [boundsD, f2, eq] at b1
          exact sat_fin p init s _ t F g H hp he r2 hr f1 c5 i1 b1
end Go.Proofs.YtjgponkgifopaaaGreatDoor
