/- Contracts: the reference of ranges: the interval of an expression. -/
import Derived.Test.YtjgponkgifopaaaGreatDoorZXD
set_option linter.unusedSimpArgs false
set_option linter.unusedVariables false
namespace Go.Proofs.YtjgponkgifopaaaGreatDoor
open Go.Fw Go.Fw.Rg Go.Fw.Nam
set_option maxRecDepth 10000
set_option linter.unusedSectionVars false
variable [GlobInt]
set_option maxHeartbeats 8000000 in
theorem range_call (x : Ex) (p : Pr) (found : List Sp) (hR : Rng p) (hF : InS found) (hT : ∀ t ∈ p.tables, t.values.length ≤ 1073741824) (hx : Ref15.nodes x ≤ 1073741824) (hw : wfX p found.length x = true) : PCall Tryz.prog 27 [p.d, .sl 2 (found.map Sp.cs), x.d] (.ret (rngT (findM p found x))) := by
  revert x; refine Ex.ind fun x ih hx hw => ?_
  refine pcall_of_wc tok hmix ⟨[], []⟩ Tryz.func27 rfl (by kernel_rfl) (by kernel_rfl) (by kernel_rfl) fun hf => ?_
  have hN := Ref15.nodes_eq x
  have hL := Ref15.len_nodes x.l
  have hlen : x.l.length ≤ 9223372036854775807 := by omega
  obtain ⟨g1, g2, g3⟩ := wfX_parts hw
  clear hf
  repeat' ((try (conv => whnf)) <;> first
    | (with_reducible refine rng_step (ih x0 (drop_mem hd0) (by have := nodes_mem (drop_mem hd0); omega) (wfL_mem g3 _ (drop_mem hd0))) (fun s1 q1 => ?_) (fun e1 q1 => ?_))
    | (exact Bool.noConfusion (show true = false from (find_ne0 q1).symm.trans h))
    | (exact Bool.noConfusion (show false = true from h))
    | with_reducible exact trivial
    | with_reducible exact idx_next hd0 ‹_›
    | with_reducible refine BrI.tt ?_
    | with_reducible refine br_nil_e hd0 ?_
    | with_reducible refine br_cons_e hd0 ?_
    | with_reducible refine BrI.intro (fun h => ?_) (fun h => ?_)
    | ((with_reducible refine idx_int Rg.Bd.none ?_ ?_ (own_k3 g2 ‹(x.kind == 3) = true›).1 (own_k3 g2 ‹(x.kind == 3) = true›).2 ?_); exact rfl; exact rfl)
    | ((with_reducible refine idx_int Rg.Bd.none ?_ ?_ (own_k4 g2 ‹(x.kind == 4) = true›).1 (own_k4 g2 ‹(x.kind == 4) = true›).2 ?_); exact rfl; exact rfl)
    | ((with_reducible refine idx_int ((0, 0) : Sp) ?_ ?_ (own_k5 g2 ‹(x.kind == 5) = true›).1 (own_k5 g2 ‹(x.kind == 5) = true›).2 ?_); exact rfl; exact rfl)
    | ((with_reducible refine idx_int Rg.Ln.none ?_ ?_ (own_k8 g2 ‹(x.kind == 8) = true›).1 (own_k8 g2 ‹(x.kind == 8) = true›).2 ?_); exact rfl; exact rfl)
    | ((with_reducible refine idx_int Rg.Tb.none ?_ ?_ (own_k9 g2 ‹(x.kind == 9) = true›).1 (own_k9 g2 ‹(x.kind == 9) = true›).2.1 ?_); exact rfl; exact rfl)
    | ((with_reducible refine idx_int (f := Sp.cs) (n := 0) ((0, 0) : Sp) ?_ ?_ ?_ ?_ ?_); exact rfl; exact rfl; decide; rotate_left)
    | ((with_reducible refine idx_int (f := Sp.cs) (n := 1) ((0, 0) : Sp) ?_ ?_ ?_ ?_ ?_); exact rfl; exact rfl; decide; rotate_left)
    | ((with_reducible refine idx_int (f := Sp.cs) (n := 2) ((0, 0) : Sp) ?_ ?_ ?_ ?_ ?_); exact rfl; exact rfl; decide; rotate_left)
    | ((with_reducible refine idx_int (f := Sp.cs) (n := 3) ((0, 0) : Sp) ?_ ?_ ?_ ?_ ?_); exact rfl; exact rfl; decide; rotate_left)
    | (with_reducible refine rng_step (pair_call (tableAt p x.index) ?_ ?_) (fun s2 q2 => ?_) (fun e2 q2 => ?_))
    | (with_reducible refine rng_step (products_call (sl.getD (Int.toNat 0) (0, 0)) (sl.getD (Int.toNat 1) (0, 0)) (getD_in (findL_in hR hF g3 (find_end hI0.1).2) (Int.toNat 0)) (getD_in (findL_in hR hF g3 (find_end hI0.1).2) (Int.toNat 1))) (fun s2 q2 => ?_) (fun e2 q2 => ?_))
    | (with_reducible refine rng_step (interval_call _ _ _ _) (fun s2 q2 => ?_) (fun e2 q2 => ?_))
    | ((with_reducible refine LoopAt.mk 0 ?_); refine ⟨rangeL (x.l) 10 (fun (sl : (List Sp)) => [(9, .gs 900009 2 (sl.map Sp.cs))]) (fun (sl : (List Sp)) => [(900009, .tok 2 (sl.map Sp.cs).length)]) [1, 3, 5] (fun i0 r0 sl => pre sl (findL p found r0) = findL p found x.l ∧ sl.length = i0), ?_⟩; with_reducible refine rangeL_rule [] ?_ ?_ (fun i0 (sl : (List Sp)) hd0 hI0 => ?_) (fun i0 x0 r0 (sl : (List Sp)) hd0 hl0 hI0 => ?_))
    | (with_reducible refine rangeL_next hd0 (sl ++ [s1]) ?_ ?_)
    | ((with_reducible refine call_step ?_ ?_ ?_); rotate_left; (first | exact pair_call _ (by assumption) (by assumption) | exact rclip_call _ | exact interval_call _ _ _ _ | exact products_call _ _ (by assumption) (by assumption) | exact rfloor_call _ _ (by assumption) (by assumption) | exact sum_call (sl.getD 0 (0, 0)).1 (sl.getD 1 (0, 0)).1 _ rfl (getD_in (findL_in hR hF g3 (find_end hI0.1).2) 0).1 (getD_in (findL_in hR hF g3 (find_end hI0.1).2) 1).1 | exact sum_call (sl.getD 0 (0, 0)).1 (-(sl.getD 1 (0, 0)).2) _ (neg_wrap (getD_in (findL_in hR hF g3 (find_end hI0.1).2) 1).2) (getD_in (findL_in hR hF g3 (find_end hI0.1).2) 0).1 (neg_in (getD_in (findL_in hR hF g3 (find_end hI0.1).2) 1).2) | exact rfloor_call (sl.getD 0 (0, 0)).1 x.n (getD_in (findL_in hR hF g3 (find_end hI0.1).2) 0).1 (own_k18 g2 ‹(x.kind == 18) = true›) | exact sum_call (sl.getD 0 (0, 0)).2 (sl.getD 1 (0, 0)).2 _ rfl (getD_in (findL_in hR hF g3 (find_end hI0.1).2) 0).2 (getD_in (findL_in hR hF g3 (find_end hI0.1).2) 1).2 | exact sum_call (sl.getD 0 (0, 0)).2 (-(sl.getD 1 (0, 0)).1) _ (neg_wrap (getD_in (findL_in hR hF g3 (find_end hI0.1).2) 1).1) (getD_in (findL_in hR hF g3 (find_end hI0.1).2) 0).2 (neg_in (getD_in (findL_in hR hF g3 (find_end hI0.1).2) 1).1) | exact rfloor_call (sl.getD 0 (0, 0)).2 x.n (getD_in (findL_in hR hF g3 (find_end hI0.1).2) 0).2 (own_k18 g2 ‹(x.kind == 18) = true›) | exact rclip_call _ | fail))
    | (with_reducible refine ChooseI.l _ ?_)
    | ((with_reducible refine nilgs_step ?_ ?_ ?_ ?_ ?_ ?_) <;> exact rfl)
    | ((with_reducible refine tok0_step ?_ ?_ ?_ ?_) <;> exact rfl)
    | ((with_reducible refine idx_step ?_ ?_ ?_ ?_ ?_); exact rfl; exact rfl; rotate_left; (first | with_reducible exact idx_get ‹_› | with_reducible exact idx_drop hd0 | with_reducible exact idx_take hd0 | with_reducible exact idx_zip1 hd0 | with_reducible exact idx_zip2 hd0 | with_reducible exact idx_zip1e hd0 | with_reducible exact idx_zip2e hd0 | with_reducible exact idx_drop_e hd0 | fail))
    | ((with_reducible refine len_step ?_ ?_); exact rfl)
    | ((with_reducible refine app_step' ?_ ?_ ?_ ?_ ?_ ?_ ?_); exact rfl; exact rfl; exact rfl; exact rfl)
    | ((with_reducible refine guard_step ?_ ?_ (fun hg => ?_) ?_); exact rfl)
    | ((with_reducible refine val_step ?_ ?_); with_reducible exact rfl; with_reducible exact rfl)
    | ((with_reducible refine chk_step ?_ ?_); kernel_rfl)
    | ((with_reducible refine ret_step ?_); refine ⟨[], rfl, ?_, trivial⟩; conv => whnf)
    | (with_reducible refine And.intro ?_ ?_)
    | ((with_reducible refine gs_eq ?_ ?_ ?_); exact rfl; exact rfl; (first | with_reducible exact map_app | with_reducible exact map_app3 | with_reducible exact map_app4 | exact map_snoc | exact rfl | skip))
    | ((with_reducible refine tok_eq ?_ ?_); exact rfl; (first | with_reducible exact map_app | with_reducible exact map_app3 | with_reducible exact map_app4 | exact map_snoc | exact rfl | skip))
    | exact @rfl AV _
    | exact ble_le rfl
    | fail)
  all_goals first
    | (rfl)
    | ((exact pre_nil _))
    | ((exact find_next hI0.1 q1))
    | ((rw [List.length_append, hI0.2]; rfl))
    | ((rw [List.length_map]; omega))
    | (decide)
    | ((exact tab_pos g2 ‹(x.kind == 9) = true›))
    | ((exact tab_len g2 ‹(x.kind == 9) = true› hT))
    | ((rw [findL_len (find_end hI0.1).2]; first | exact one_partx 6 g1 rfl ‹(x.kind == 6) = true› | exact one_partx 7 g1 rfl ‹(x.kind == 7) = true› | exact one_partx 8 g1 rfl ‹(x.kind == 8) = true› | exact one_partx 9 g1 rfl ‹(x.kind == 9) = true› | exact one_partx 10 g1 rfl ‹(x.kind == 10) = true› | exact one_partx 13 g1 rfl ‹(x.kind == 13) = true› | exact one_partx 14 g1 rfl ‹(x.kind == 14) = true› | exact one_partx 18 g1 rfl ‹(x.kind == 18) = true›))
    | ((rw [findL_len (find_end hI0.1).2]; first | (have e := two_partx 11 g1 rfl ‹(x.kind == 11) = true›; omega) | (have e := two_partx 12 g1 rfl ‹(x.kind == 12) = true›; omega) | (have e := two_partx 15 g1 rfl ‹(x.kind == 15) = true›; omega) | (have e := two_partx 16 g1 rfl ‹(x.kind == 16) = true›; omega) | (have e := two_partx 17 g1 rfl ‹(x.kind == 17) = true›; omega)))
    | ((rw [findL_len (find_end hI0.1).2]; have e := if_parts g1 (k19 g2 ‹_› ‹_› ‹_› ‹_› ‹_› ‹_› ‹_› ‹_› ‹_› ‹_› ‹_› ‹_› ‹_› ‹_› ‹_› ‹_› ‹_›); omega))
    | ((rw [(find_end hI0.1).1, opM_k 1 ‹(x.kind == 1) = true›]; rfl))
    | ((rw [(find_end hI0.1).1, opM_k 3 ‹(x.kind == 3) = true›]; rfl))
    | ((rw [(find_end hI0.1).1, opM_k 4 ‹(x.kind == 4) = true›]; rfl))
    | ((rw [(find_end hI0.1).1, opM_k 5 ‹(x.kind == 5) = true›]; rfl))
    | ((rw [(find_end hI0.1).1, opM_k 8 ‹(x.kind == 8) = true›]; rfl))
    | ((rw [(find_end hI0.1).1, opM_k 10 ‹(x.kind == 10) = true›]; rfl))
    | ((rw [(find_end hI0.1).1, opM_k 11 ‹(x.kind == 11) = true›]; rfl))
    | ((rw [(find_end hI0.1).1, opM_k 12 ‹(x.kind == 12) = true›]; rfl))
    | ((rw [(find_end hI0.1).1, opM_k 18 ‹(x.kind == 18) = true›]; rfl))
    | ((rw [(find_end hI0.1).1, opM_k 19 (k19 g2 ‹_› ‹_› ‹_› ‹_› ‹_› ‹_› ‹_› ‹_› ‹_› ‹_› ‹_› ‹_› ‹_› ‹_› ‹_› ‹_› ‹_›)]; rfl))
    | ((have h2 := (bif_or _ _).symm.trans h; rw [(find_end hI0.1).1, opM_k 6 ‹(x.kind == 6) = true›]; show _ = rngT (aheadM (sl.getD (Int.toNat 0) (0, 0))); rw [aheadM, if_pos h2]; rfl))
    | ((have h2 := (bif_or _ _).symm.trans h; rw [(find_end hI0.1).1, opM_k 6 ‹(x.kind == 6) = true›]; show _ = rngT (aheadM (sl.getD (Int.toNat 0) (0, 0))); rw [aheadM, if_neg (by rw [h2]; decide)]; rfl))
    | ((have h2 := (bif_or _ _).symm.trans h; rw [(find_end hI0.1).1, opM_k 7 ‹(x.kind == 7) = true›]; show _ = rngT (aheadM (sl.getD (Int.toNat 0) (0, 0))); rw [aheadM, if_pos h2]; rfl))
    | ((have h2 := (bif_or _ _).symm.trans h; rw [(find_end hI0.1).1, opM_k 7 ‹(x.kind == 7) = true›]; show _ = rngT (aheadM (sl.getD (Int.toNat 0) (0, 0))); rw [aheadM, if_neg (by rw [h2]; decide)]; rfl))
    | ((rw [(find_end hI0.1).1, opM_k 9 ‹(x.kind == 9) = true›]; exact congrArg rngT q2.symm))
    | ((rw [(find_end hI0.1).1, opM_k 17 ‹(x.kind == 17) = true›]; exact congrArg rngT q2.symm))
    | ((rw [(find_end hI0.1).1, opM_k 15 ‹(x.kind == 15) = true›]; exact (congrArg rngT q2).symm.trans (two_ref (getD_in (findL_in hR hF g3 (find_end hI0.1).2) (Int.toNat 0)).1 (getD_in (findL_in hR hF g3 (find_end hI0.1).2) (Int.toNat 1)).1 (getD_in (findL_in hR hF g3 (find_end hI0.1).2) (Int.toNat 0)).2 (getD_in (findL_in hR hF g3 (find_end hI0.1).2) (Int.toNat 1)).2)))
    | ((rw [(find_end hI0.1).1, opM_k 16 ‹(x.kind == 16) = true›]; exact (congrArg rngT q2).symm.trans (two_ref (getD_in (findL_in hR hF g3 (find_end hI0.1).2) (Int.toNat 0)).1 (neg_in (getD_in (findL_in hR hF g3 (find_end hI0.1).2) (Int.toNat 1)).2) (getD_in (findL_in hR hF g3 (find_end hI0.1).2) (Int.toNat 0)).2 (neg_in (getD_in (findL_in hR hF g3 (find_end hI0.1).2) (Int.toNat 1)).1))))
    | ((rw [(find_end hI0.1).1, opM_k 13 ‹(x.kind == 13) = true›]; show _ = rngT (.ok (absM (sl.getD (Int.toNat 0) (0, 0)))); rw [absM, if_pos (of_decide_eq_true h)]; rfl))
    | ((rw [(find_end hI0.1).1, opM_k 13 ‹(x.kind == 13) = true›]; show _ = rngT (.ok (absM (sl.getD (Int.toNat 0) (0, 0)))); rw [absM, if_neg (of_decide_eq_false ‹decide ((sl.getD (Int.toNat 0) (0, 0)).1 ≥ 0) = false›), if_pos (of_decide_eq_true h), neg_wrap (getD_in (findL_in hR hF g3 (find_end hI0.1).2) (Int.toNat 0)).1, neg_wrap (getD_in (findL_in hR hF g3 (find_end hI0.1).2) (Int.toNat 0)).2]; rfl))
    | ((rw [(find_end hI0.1).1, opM_k 13 ‹(x.kind == 13) = true›]; show _ = rngT (.ok (absM (sl.getD (Int.toNat 0) (0, 0)))); rw [absM, if_neg (of_decide_eq_false ‹decide ((sl.getD (Int.toNat 0) (0, 0)).1 ≥ 0) = false›), if_neg (of_decide_eq_false h), neg_wrap (getD_in (findL_in hR hF g3 (find_end hI0.1).2) (Int.toNat 0)).1]; rfl))
    | ((rw [(find_end hI0.1).1, opM_k 14 ‹(x.kind == 14) = true›]; rw [neg_wrap (getD_in (findL_in hR hF g3 (find_end hI0.1).2) (Int.toNat 0)).1, neg_wrap (getD_in (findL_in hR hF g3 (find_end hI0.1).2) (Int.toNat 0)).2]; rfl))
    | ((rw [find_bad hI0.1 q1]; rfl))
    | skip
end Go.Proofs.YtjgponkgifopaaaGreatDoor
