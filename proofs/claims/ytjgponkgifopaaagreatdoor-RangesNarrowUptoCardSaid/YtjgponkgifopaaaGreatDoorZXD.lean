/- Contracts: the reference of ranges: numbers, intervals, what fits. -/
import Derived.Test.YtjgponkgifopaaaGreatDoorZXC
import Derived.Test.YtjgponkgifopaaaGreatDoorZRB
set_option linter.unusedSimpArgs false
set_option linter.unusedVariables false
namespace Go.Proofs.YtjgponkgifopaaaGreatDoor
open Go.Fw Go.Fw.Rg Go.Fw.Nam
set_option maxRecDepth 10000
set_option linter.unusedSectionVars false
variable [GlobInt]
set_option maxHeartbeats 400000 in
theorem sum_call (a b c : Int) (hc : c = b) (ha : inW a = true) (hb : inW b = true) : PCall Tryz.prog 42 [.i a, .i c] (.ret (.tuple [.i (sumW a b), .b (inW (a + b))])) := by
  subst hc
  refine pcall_of_wc tok hmix ⟨[], []⟩ Tryz.func42 rfl (by kernel_rfl) (by kernel_rfl) (by kernel_rfl) fun hf => ?_
  clear hf
  repeat' ((try (conv => whnf)) <;> first
    | with_reducible refine BrI.intro (fun h => ?_) (fun h => ?_)
    | ((with_reducible refine ret_step ?_); refine ⟨[], rfl, ?_, trivial⟩; conv => whnf)
    | (with_reducible refine And.intro ?_ ?_)
    | fail)
  all_goals first
    | (decide)
    | ((rw [half_yes ha hb h, sumW, if_pos (show halfC a c = true from h)]))
    | ((have e := half_no ha hb h; have e2 := sum_ref a c; rw [e, e2, sumW, if_neg (by rw [show halfC a c = false from h]; decide)]))
    | skip
set_option maxHeartbeats 400000 in
theorem interval_call (a b : Int) (f g : Bool)  : PCall Tryz.prog 43 [.i a, .b f, .i b, .b g] (.ret (rngT (if (f && g) = true then .ok (a, b) else .error 160))) := by
  refine pcall_of_wc tok hmix ⟨[], []⟩ Tryz.func43 rfl (by kernel_rfl) (by kernel_rfl) (by kernel_rfl) fun hf => ?_
  clear hf
  repeat' ((try (conv => whnf)) <;> first
    | with_reducible refine BrI.intro (fun h => ?_) (fun h => ?_)
    | ((with_reducible refine ret_step ?_); refine ⟨[], rfl, ?_, trivial⟩; conv => whnf)
    | fail)
  all_goals first
    | ((cases f <;> cases g <;> first | rfl | exact Bool.noConfusion h))
    | skip
set_option maxHeartbeats 400000 in
theorem product_call (a b : Int) (ha : inW a = true) (hb : inW b = true) : PCall Tryz.prog 78 [.i a, .i b] (.ret (.tuple [.i (pv a b), .b (inW (a * b))])) := by
  refine pcall_of_wc tok hmix ⟨[], []⟩ Tryz.func78 rfl (by kernel_rfl) (by kernel_rfl) (by kernel_rfl) fun hf => ?_
  clear hf
  repeat' ((try (conv => whnf)) <;> first
    | with_reducible refine BrI.intro (fun h => ?_) (fun h => ?_)
    | ((with_reducible refine ret_step ?_); refine ⟨[], rfl, ?_, trivial⟩; conv => whnf)
    | (with_reducible refine And.intro ?_ ?_)
    | fail)
  all_goals first
    | ((exact mm2_abs_ne hb (mulZ_no (a := a) h)))
    | ((rw [(pv_zero h).1, (pv_zero h).2]))
    | ((exact prod_over ha hb ‹_› h))
    | ((exact prod_fine ha hb ‹_› h))
    | skip
set_option maxHeartbeats 8000000 in
theorem products_call (a b : Sp) (ha : inW a.1 = true ∧ inW a.2 = true) (hb : inW b.1 = true ∧ inW b.2 = true) : PCall Tryz.prog 44 [.agg [.i a.1, .i a.2], .agg [.i b.1, .i b.2]] (.ret (rngT (prodM a b))) := by
  refine pcall_of_wc tok hmix ⟨[], []⟩ Tryz.func44 rfl (by kernel_rfl) (by kernel_rfl) (by kernel_rfl) fun hf => ?_
  clear hf
  repeat' ((try (conv => whnf)) <;> first
    | ((have hz : ¬ ((k : Int) < 2) := of_decide_eq_false h); with_reducible refine whileL_next (i + 1, lo, hi) ?_ ?_ ?_)
    | ((have hz : (!inW _) = false := h); with_reducible refine whileL_next (k + 1, ?_, ?_) ?_ ?_ ?_)
    | (rcases two_cases h with hq | hq <;> clear h)
    | (rw [‹i = 0›])
    | (rw [‹i = 1›])
    | (rw [‹k = 0›])
    | (rw [‹k = 1›])
    | with_reducible exact trivial
    | with_reducible refine BrI.intro (fun h => ?_) (fun h => ?_)
    | ((with_reducible refine LoopAt.mk 0 ?_); refine ⟨whileL (fun (q : (Nat) × (Int) × (Int)) => match q with | (i, lo, hi) => [(9, .data (.val (.int .i64 (i : Nat)))), (7, .data (.val (.int .i64 lo))), (8, .data (.val (.int .i64 hi)))]) (fun (q : (Nat) × (Int) × (Int)) => match q with | (i, lo, hi) => []) [2, 3] (fun (q : (Nat) × (Int) × (Int)) => match q with | (i, lo, hi) => PrI a b (2 * i) lo hi ∧ i ≤ 2) (fun (q : (Nat) × (Int) × (Int)) => match q with | (i, lo, hi) => 2 - i), ?_⟩; with_reducible refine whileL_rule ((0), (4611686018427387904), ((-4611686018427387904))) ?_ ?_ (fun ⟨i, lo, hi⟩ hI0 => ?_))
    | ((with_reducible refine LoopAt.mk 2 ?_); refine ⟨whileL (fun (q : (Nat) × (Int) × (Int)) => match q with | (k, lo, hi) => [(10, .data (.val (.int .i64 (k : Nat)))), (7, .data (.val (.int .i64 lo))), (8, .data (.val (.int .i64 hi)))]) (fun (q : (Nat) × (Int) × (Int)) => match q with | (k, lo, hi) => []) [2, 3, 9] (fun (q : (Nat) × (Int) × (Int)) => match q with | (k, lo, hi) => PrI a b (2 * i + k) lo hi ∧ k ≤ 2) (fun (q : (Nat) × (Int) × (Int)) => match q with | (k, lo, hi) => 2 - k), ?_⟩; with_reducible refine whileL_rule ((0), (lo), (hi)) ?_ ?_ (fun ⟨k, lo, hi⟩ hI2 => ?_))
    | ((with_reducible refine call_step ?_ ?_ ?_); rotate_left; (first | exact product_call _ _ (by assumption) (by assumption) | exact product_call a.1 b.1 ha.1 hb.1 | exact product_call a.1 b.2 ha.1 hb.2 | exact product_call a.2 b.1 ha.2 hb.1 | exact product_call a.2 b.2 ha.2 hb.2 | fail))
    | ((with_reducible refine chk_step ?_ ?_); kernel_rfl)
    | ((with_reducible refine ret_step ?_); refine ⟨[], rfl, ?_, trivial⟩; conv => whnf)
    | (with_reducible refine And.intro ?_ ?_)
    | exact @rfl AV _
    | exact ble_le rfl
    | fail)
  all_goals first
    | (rfl)
    | (decide)
    | ((exact prI_start a b))
    | ((first | (subst ‹i = 0›; exact hI0.1) | (subst ‹i = 1›; exact hI0.1)))
    | ((first | (subst ‹i = 0›; subst ‹k = 0›; exact prI_step (n := 0) hI2.1 rfl h) | (subst ‹i = 0›; subst ‹k = 1›; exact prI_step (n := 1) hI2.1 rfl h) | (subst ‹i = 1›; subst ‹k = 0›; exact prI_step (n := 2) hI2.1 rfl h) | (subst ‹i = 1›; subst ‹k = 1›; exact prI_step (n := 3) hI2.1 rfl h)))
    | ((first | (subst ‹i = 0›; subst ‹k = 0›; exact prI_out 0 rfl h) | (subst ‹i = 0›; subst ‹k = 1›; exact prI_out 1 rfl h) | (subst ‹i = 1›; subst ‹k = 0›; exact prI_out 2 rfl h) | (subst ‹i = 1›; subst ‹k = 1›; exact prI_out 3 rfl h)))
    | ((first | (subst ‹i = 0›; exact prI_two (i := 0) hI2 h) | (subst ‹i = 1›; exact prI_two (i := 1) hI2 h)))
    | ((exact prI_fin hI0 h))
    | skip
set_option maxHeartbeats 400000 in
theorem pair_call (l : List Int) (h0 : 0 < l.length) (hlen : l.length ≤ 9223372036854775807) : PCall Tryz.prog 41 [ints l] (.ret (rngT (.ok (minL (l.getD 0 0) l, maxL (l.getD 0 0) l)))) := by
  refine pcall_of_wc tok hmix ⟨[], []⟩ Tryz.func41 rfl (by kernel_rfl) (by kernel_rfl) (by kernel_rfl) fun hf => ?_
  clear hf
  repeat' ((try (conv => whnf)) <;> first
    | with_reducible exact trivial
    | with_reducible exact idx_next hd0 ‹_›
    | with_reducible refine br_nil hd0 ?_
    | with_reducible refine br_cons hd0 ?_
    | ((with_reducible refine idx_int (f := intC) (n := 0) (0 : Int) ?_ ?_ ?_ ?_ ?_); exact rfl; exact rfl; exact Int.le_refl _; exact Int.ofNat_lt.2 h0)
    | ((with_reducible refine LoopAt.mk 0 ?_); refine ⟨rangeL (l) 7 (fun (q : (Int) × (Int)) => match q with | (lo, hi) => [(5, .data (.val (.int .i64 lo))), (6, .data (.val (.int .i64 hi)))]) (fun (q : (Int) × (Int)) => match q with | (lo, hi) => []) [0] (fun i0 r0 q => match q with | (lo, hi) => minL (l.getD 0 0) l = minL lo r0 ∧ maxL (l.getD 0 0) l = maxL hi r0), ?_⟩; with_reducible refine rangeL_rule (?_, ?_) ?_ ?_ (fun i0 ⟨lo, hi⟩ hd0 hI0 => ?_) (fun i0 x0 r0 ⟨lo, hi⟩ hd0 hl0 hI0 => ?_))
    | (with_reducible refine rangeL_next hd0 (?_, ?_) ?_ ?_)
    | ((with_reducible refine idx_step ?_ ?_ ?_ ?_ ?_); exact rfl; exact rfl; rotate_left; (first | with_reducible exact idx_get ‹_› | with_reducible exact idx_drop hd0 | with_reducible exact idx_take hd0 | with_reducible exact idx_zip1 hd0 | with_reducible exact idx_zip2 hd0 | with_reducible exact idx_zip1e hd0 | with_reducible exact idx_zip2e hd0 | with_reducible exact idx_drop_e hd0 | fail))
    | ((with_reducible refine ret_step ?_); refine ⟨[], rfl, ?_, trivial⟩; conv => whnf)
    | (with_reducible refine And.intro ?_ ?_)
    | exact @rfl AV _
    | fail)
  all_goals first
    | (rfl)
    | ((exact hI0.1))
    | ((exact hI0.2))
    | ((rw [hI0.1, hI0.2]; rfl))
    | skip
end Go.Proofs.YtjgponkgifopaaaGreatDoor
namespace Go.Proofs.YtjgponkgifopaaaGreatDoor
open Go.Fw Go.Fw.Rg Go.Fw.Nam
set_option maxRecDepth 10000
set_option linter.unusedSectionVars false
variable [GlobInt]
set_option maxHeartbeats 400000 in
theorem rwithin_call (p : Pr) (s : Sm) (f : Sp) (i : Nat) (hw : wfS p i s = true) (hf1 : inW f.1 = true) (hf2 : inW f.2 = true) : PCall Tryz.prog 28 [p.d, s.d, .i f.1, .i f.2] (.ret (.b (within p s f))) := by
  refine pcall_of_wc tok hmix ⟨[], []⟩ Tryz.func28 rfl (by kernel_rfl) (by kernel_rfl) (by kernel_rfl) fun hf => ?_
  clear hf
  repeat' ((try (conv => whnf)) <;> first
    | with_reducible refine BrI.intro (fun h => ?_) (fun h => ?_)
    | ((with_reducible refine idx_int Rg.Bd.none ?_ ?_ (wfS_2 hw ‹_›).1 (wfS_2 hw ‹_›).2 ?_); exact rfl; exact rfl)
    | ((with_reducible refine idx_int Rg.Ln.none ?_ ?_ (wfS_3 hw ‹_›).1 (wfS_3 hw ‹_›).2 ?_); exact rfl; exact rfl)
    | ((with_reducible refine guard_step ?_ ?_ (fun hg => ?_) ?_); exact rfl)
    | ((with_reducible refine val_step ?_ ?_); with_reducible exact rfl; with_reducible exact rfl)
    | ((with_reducible refine ret_step ?_); refine ⟨[], rfl, ?_, trivial⟩; conv => whnf)
    | fail)
  all_goals first
    | ((refine congrArg D.b ?_; rw [within, bnd2 ‹_›]; exact bif_and _ _))
    | ((refine congrArg D.b ?_; rw [within, bnd3 ‹_› ‹_›]; exact bif_and _ _))
    | ((refine congrArg D.b ?_; rw [within, bnd4 ‹_› ‹_› ‹_›]; exact bif_and _ _))
    | ((refine congrArg D.b ?_; rw [within, bnd0 ‹_› ‹_› ‹_›]; exact (within_all hf1 hf2).symm))
    | skip
end Go.Proofs.YtjgponkgifopaaaGreatDoor
