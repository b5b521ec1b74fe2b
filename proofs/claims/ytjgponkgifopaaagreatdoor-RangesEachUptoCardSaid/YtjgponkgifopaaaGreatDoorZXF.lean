/- Contracts: the laws of ranges: chosen values. -/
import Derived.Test.YtjgponkgifopaaaGreatDoorZRS15
import Derived.Test.YtjgponkgifopaaaGreatDoorZFZ
set_option linter.unusedSimpArgs false
set_option linter.unusedVariables false
namespace Go.Proofs.YtjgponkgifopaaaGreatDoor
open Go.Fw Go.Fw.Rg Go.Fw.Nam
set_option maxRecDepth 10000
set_option linter.unusedSectionVars false
variable [GlobInt]
set_option maxHeartbeats 400000 in
theorem withC_call (cl : List Nat) (n : Nat) (lo hi : Int) (hc : ∀ k ∈ cl, k < 4294967296) (hl : cl.length ≤ 1073741824) (h1 : inW lo = true) (h2 : inW hi = true) : LCall Tryz.prog 34 [.ptr 1000000 0, .data (.i lo), .data (.i hi)] [(1000000, .cells [.data (.sl 1 (cl.map u32C)), .data (.i ((n : Nat) : Int))])] (.ret (.data (.i (withV cl n lo hi)))) [(1000000, .cells [.data (.sl 1 (cl.map u32C)), .data (.i ((withN cl n lo hi : Nat) : Int))])] := by
  refine lcall_of_wc tok hmix ⟨[], []⟩ Tryz.func34 rfl (by kernel_rfl) (by kernel_rfl) (by kernel_rfl) fun hf => ?_
  clear hf
  repeat' ((try (conv => whnf)) <;> first
    | with_reducible exact trivial
    | with_reducible refine BrI.intro (fun h => ?_) (fun h => ?_)
    | ((with_reducible refine idx_int (f := u32C) (0 : Nat) ?_ ?_ ?_ ?_ ?_); exact rfl; exact rfl; exact Int.natCast_nonneg n; exact Int.ofNat_lt.2 (wgo h).1)
    | ((with_reducible refine ret_step ?_); refine fin_step' [] rfl ?_ ?_)
    | ((with_reducible refine chk_step ?_ ?_); kernel_rfl)
    | (with_reducible refine And.intro ?_ ?_)
    | fail)
  all_goals first
    | (decide)
    | ((exact wmin_ne h1 h2 (wgo ‹_›).2))
    | ((exact congrArg D.i (wnx hl (wgo ‹_›))))
    | ((exact congrArg D.i (w0 (wgo ‹_›) h)))
    | ((exact congrArg D.i (w1 (wgo ‹_›) h)))
    | ((exact congrArg D.i (wlast hc h1 h2 (wgo ‹_›) ‹_› h)))
    | ((exact congrArg D.i (wstop h).1.symm))
    | ((exact congrArg (fun z : Nat => D.i (z : Int)) (wstop h).2.symm))
    | skip
set_option maxHeartbeats 16000000 in
theorem lvalue_call (x : Ex) (p : Pr) (found : List Sp) (cl : List Nat) (n : Nat) (hv : VOk p found cl x) (hx : Ref15.nodes x ≤ 1073741824) (hT : ∀ t ∈ p.tables, t.values.length ≤ 1073741824) (hl : cl.length ≤ 1073741824) : LCall Tryz.prog 19 [.data p.d, .data (.sl 2 (found.map Sp.cs)), .data x.d, .ptr 1000000 0] [(1000000, .cells [.data (.sl 1 (cl.map u32C)), .data (.i ((n : Nat) : Int))])] (.ret (.data (.tuple [.i (valM p found cl x n).1, .b true]))) [(1000000, .cells [.data (.sl 1 (cl.map u32C)), .data (.i (((valM p found cl x n).2 : Nat) : Int))])] := by
  revert hv hx; revert n; revert x; refine Ex.ind fun x ih n hv hx => ?_
  refine lcall_of_wc tok hmix ⟨[], []⟩ Tryz.func19 rfl (by kernel_rfl) (by kernel_rfl) (by kernel_rfl) fun hf => ?_
  have hN := Ref15.nodes_eq x
  have hL := Ref15.len_nodes x.l
  have hlen : x.l.length ≤ 9223372036854775807 := by omega
  obtain ⟨g1, g2, g3⟩ := wfX_parts hv.wf
  clear hf
  repeat' ((try (conv => whnf)) <;> first
    | (exact Bool.noConfusion (show false = true from h))
    | (exact (let_no g2 ‹(x.kind == 5) = true› h).elim)
    | (exact (VEnd.ahead_no hv (vend_of hv hI0.1) (.inl ‹(x.kind == 6) = true›) h).elim)
    | (exact (VEnd.ahead_no hv (vend_of hv hI0.1) (.inr ‹(x.kind == 7) = true›) h).elim)
    | (exact (VEnd.mul_no hv (vend_of hv hI0.1) ‹(x.kind == 17) = true› h).elim)
    | with_reducible exact trivial
    | with_reducible exact idx_next hd0 ‹_›
    | with_reducible refine BrI.tt ?_
    | with_reducible refine br_nil_e hd0 ?_
    | with_reducible refine br_cons_e hd0 ?_
    | with_reducible refine BrI.intro (fun h => ?_) (fun h => ?_)
    | ((with_reducible refine idx_int Rg.Bd.none ?_ ?_ (own_k3 g2 ‹(x.kind == 3) = true›).1 (own_k3 g2 ‹(x.kind == 3) = true›).2 ?_); exact rfl; exact rfl)
    | ((with_reducible refine idx_int Rg.Bd.none ?_ ?_ (own_k4 g2 ‹(x.kind == 4) = true›).1 (own_k4 g2 ‹(x.kind == 4) = true›).2 ?_); exact rfl; exact rfl)
    | ((with_reducible refine idx_int ((0, 0) : Sp) ?_ ?_ (own_k5 g2 ‹(x.kind == 5) = true›).1 (own_k5 g2 ‹(x.kind == 5) = true›).2 ?_); exact rfl; exact rfl)
    | ((with_reducible refine idx_int Rg.Ln.none ?_ ?_ (own_k8 g2 ‹(x.kind == 8) = true›).1 (own_k8 g2 ‹(x.kind == 8) = true›).2 ?_); exact rfl; exact rfl)
    | ((with_reducible refine idx_int Rg.Tb.none ?_ ?_ (own_k9 g2 ‹(x.kind == 9) = true›).1 (own_k9 g2 ‹(x.kind == 9) = true›).2.1 ?_); exact rfl; exact rfl)
    | ((with_reducible refine idx_int (f := intC) (n := 0) (0 : Int) ?_ ?_ ?_ ?_ ?_); exact rfl; exact rfl; decide; rotate_left)
    | ((with_reducible refine idx_int (f := intC) (n := 1) (0 : Int) ?_ ?_ ?_ ?_ ?_); exact rfl; exact rfl; decide; rotate_left)
    | ((with_reducible refine idx_int (f := intC) (n := 2) (0 : Int) ?_ ?_ ?_ ?_ ?_); exact rfl; exact rfl; decide; rotate_left)
    | ((with_reducible refine idx_int (f := intC) (n := 3) (0 : Int) ?_ ?_ ?_ ?_ ?_); exact rfl; exact rfl; decide; rotate_left)
    | (rw [clamp_ok (tab_pos g2 ‹(x.kind == 9) = true›) (tab_len g2 ‹(x.kind == 9) = true› hT)])
    | ((with_reducible refine idx_int (f := intC) (0 : Int) ?_ ?_ (clamp_lt (tab_pos g2 ‹(x.kind == 9) = true›)).1 (clamp_lt (tab_pos g2 ‹(x.kind == 9) = true›)).2 ?_); exact rfl; exact rfl)
    | ((with_reducible refine LoopAt.mk 0 ?_); refine ⟨rangeL (x.l) 19 (fun (q : (List Int) × (Nat)) => match q with | (vs, m) => [(10, .gs 900010 1 (vs.map intC))]) (fun (q : (List Int) × (Nat)) => match q with | (vs, m) => [(1000000, .cells [.data (.sl 1 (cl.map u32C)), .data (.i ((m : Nat) : Int))]), (900010, .tok 1 (vs.map intC).length)]) [1, 3, 4, 6, 17, 18] (fun i0 r0 q => match q with | (vs, m) => preV vs (valL p found cl r0 m) = valL p found cl x.l n ∧ vs.length = i0), ?_⟩; with_reducible refine rangeL_rule ([], (n)) ?_ ?_ (fun i0 ⟨vs, m⟩ hd0 hI0 => ?_) (fun i0 x0 r0 ⟨vs, m⟩ hd0 hl0 hI0 => ?_))
    | (with_reducible refine rangeL_next hd0 ((vs ++ [(valM p found cl x0 m).1]), ((valM p found cl x0 m).2)) ?_ ?_)
    | ((with_reducible refine call_step ?_ ?_ ?_); rotate_left; (first | exact rclip_call _ | exact rfloor_call _ _ (by assumption) (by assumption) | exact rclip_call _ | exact rfloor_call (vs.getD 0 0) x.n ((vend_of hv hI0.1).inW hv 0) (own_k18 g2 ‹(x.kind == 18) = true›) | fail))
    | ((first | with_reducible refine lent_step [(1000000, 1000000)] (ih x0 (drop_mem hd0) m (hv.part (drop_mem hd0)) (by have := nodes_mem (drop_mem hd0); omega)) ?_ ?_ ?_ ?_ | with_reducible refine lent_step' [(1000000, 1000000)] (ih x0 (drop_mem hd0) m (hv.part (drop_mem hd0)) (by have := nodes_mem (drop_mem hd0); omega)) ?_ ?_ ?_ ?_ | fail); rotate_left 0; exact rfl; (first | exact trivial | exact ⟨rfl, trivial⟩ | exact ⟨rfl, rfl, trivial⟩ | exact ⟨rfl, rfl, rfl, trivial⟩ | exact ⟨rfl, rfl, rfl, rfl, trivial⟩ | exact ⟨rfl, rfl, rfl, rfl, rfl, trivial⟩ | exact ⟨rfl, rfl, rfl, rfl, rfl, rfl, trivial⟩); exact rfl)
    | ((first | with_reducible refine lent_step [(1000000, 1000000)] (withC_call cl m (paramAt p x.index).lo (paramAt p x.index).hi hv.cho hl (par_in hv.rng g2 ‹(x.kind == 3) = true›).1 (par_in hv.rng g2 ‹(x.kind == 3) = true›).2) ?_ ?_ ?_ ?_ | with_reducible refine lent_step' [(1000000, 1000000)] (withC_call cl m (paramAt p x.index).lo (paramAt p x.index).hi hv.cho hl (par_in hv.rng g2 ‹(x.kind == 3) = true›).1 (par_in hv.rng g2 ‹(x.kind == 3) = true›).2) ?_ ?_ ?_ ?_ | fail); rotate_left 0; exact rfl; (first | exact trivial | exact ⟨rfl, trivial⟩ | exact ⟨rfl, rfl, trivial⟩ | exact ⟨rfl, rfl, rfl, trivial⟩ | exact ⟨rfl, rfl, rfl, rfl, trivial⟩ | exact ⟨rfl, rfl, rfl, rfl, rfl, trivial⟩ | exact ⟨rfl, rfl, rfl, rfl, rfl, rfl, trivial⟩); exact rfl)
    | ((first | with_reducible refine lent_step [(1000000, 1000000)] (withC_call cl m (stateAt p x.index).lo (stateAt p x.index).hi hv.cho hl (sta_in hv.rng g2 ‹(x.kind == 4) = true›).1 (sta_in hv.rng g2 ‹(x.kind == 4) = true›).2) ?_ ?_ ?_ ?_ | with_reducible refine lent_step' [(1000000, 1000000)] (withC_call cl m (stateAt p x.index).lo (stateAt p x.index).hi hv.cho hl (sta_in hv.rng g2 ‹(x.kind == 4) = true›).1 (sta_in hv.rng g2 ‹(x.kind == 4) = true›).2) ?_ ?_ ?_ ?_ | fail); rotate_left 0; exact rfl; (first | exact trivial | exact ⟨rfl, trivial⟩ | exact ⟨rfl, rfl, trivial⟩ | exact ⟨rfl, rfl, rfl, trivial⟩ | exact ⟨rfl, rfl, rfl, rfl, trivial⟩ | exact ⟨rfl, rfl, rfl, rfl, rfl, trivial⟩ | exact ⟨rfl, rfl, rfl, rfl, rfl, rfl, trivial⟩); exact rfl)
    | ((first | with_reducible refine lent_step [(1000000, 1000000)] (withC_call cl m (found.getD x.index.toNat (0, 0)).1 (found.getD x.index.toNat (0, 0)).2 hv.cho hl (fnd_in hv.fok g2 ‹(x.kind == 5) = true›).1 (fnd_in hv.fok g2 ‹(x.kind == 5) = true›).2) ?_ ?_ ?_ ?_ | with_reducible refine lent_step' [(1000000, 1000000)] (withC_call cl m (found.getD x.index.toNat (0, 0)).1 (found.getD x.index.toNat (0, 0)).2 hv.cho hl (fnd_in hv.fok g2 ‹(x.kind == 5) = true›).1 (fnd_in hv.fok g2 ‹(x.kind == 5) = true›).2) ?_ ?_ ?_ ?_ | fail); rotate_left 0; exact rfl; (first | exact trivial | exact ⟨rfl, trivial⟩ | exact ⟨rfl, rfl, trivial⟩ | exact ⟨rfl, rfl, rfl, trivial⟩ | exact ⟨rfl, rfl, rfl, rfl, trivial⟩ | exact ⟨rfl, rfl, rfl, rfl, rfl, trivial⟩ | exact ⟨rfl, rfl, rfl, rfl, rfl, rfl, trivial⟩); exact rfl)
    | ((first | with_reducible refine lent_step [(1000000, 1000000)] (withC_call cl m (-2147483648) 2147483647 hv.cho hl rfl rfl) ?_ ?_ ?_ ?_ | with_reducible refine lent_step' [(1000000, 1000000)] (withC_call cl m (-2147483648) 2147483647 hv.cho hl rfl rfl) ?_ ?_ ?_ ?_ | fail); rotate_left 0; exact rfl; (first | exact trivial | exact ⟨rfl, trivial⟩ | exact ⟨rfl, rfl, trivial⟩ | exact ⟨rfl, rfl, rfl, trivial⟩ | exact ⟨rfl, rfl, rfl, rfl, trivial⟩ | exact ⟨rfl, rfl, rfl, rfl, rfl, trivial⟩ | exact ⟨rfl, rfl, rfl, rfl, rfl, rfl, trivial⟩); exact rfl)
    | ((first | with_reducible refine lent_step [(1000000, 1000000)] (withC_call cl m (lineAt p x.index).lo (lineAt p x.index).hi hv.cho hl (lin_in hv.rng g2 ‹(x.kind == 8) = true›).1 (lin_in hv.rng g2 ‹(x.kind == 8) = true›).2) ?_ ?_ ?_ ?_ | with_reducible refine lent_step' [(1000000, 1000000)] (withC_call cl m (lineAt p x.index).lo (lineAt p x.index).hi hv.cho hl (lin_in hv.rng g2 ‹(x.kind == 8) = true›).1 (lin_in hv.rng g2 ‹(x.kind == 8) = true›).2) ?_ ?_ ?_ ?_ | fail); rotate_left 0; exact rfl; (first | exact trivial | exact ⟨rfl, trivial⟩ | exact ⟨rfl, rfl, trivial⟩ | exact ⟨rfl, rfl, rfl, trivial⟩ | exact ⟨rfl, rfl, rfl, rfl, trivial⟩ | exact ⟨rfl, rfl, rfl, rfl, rfl, trivial⟩ | exact ⟨rfl, rfl, rfl, rfl, rfl, rfl, trivial⟩); exact rfl)
    | ((first | with_reducible refine lent_step [(1000000, 1000000)] (withC_call cl (withN cl m (lineAt p x.index).lo (lineAt p x.index).hi) 0 5 hv.cho hl rfl rfl) ?_ ?_ ?_ ?_ | with_reducible refine lent_step' [(1000000, 1000000)] (withC_call cl (withN cl m (lineAt p x.index).lo (lineAt p x.index).hi) 0 5 hv.cho hl rfl rfl) ?_ ?_ ?_ ?_ | fail); rotate_left 0; exact rfl; (first | exact trivial | exact ⟨rfl, trivial⟩ | exact ⟨rfl, rfl, trivial⟩ | exact ⟨rfl, rfl, rfl, trivial⟩ | exact ⟨rfl, rfl, rfl, rfl, trivial⟩ | exact ⟨rfl, rfl, rfl, rfl, rfl, trivial⟩ | exact ⟨rfl, rfl, rfl, rfl, rfl, rfl, trivial⟩); exact rfl)
    | ((with_reducible refine ret_step ?_); refine fin_step' [] rfl ?_ ?_)
    | (with_reducible refine ChooseI.l _ ?_)
    | ((with_reducible refine nilgs_step ?_ ?_ ?_ ?_ ?_ ?_) <;> exact rfl)
    | ((with_reducible refine tok0_step ?_ ?_ ?_ ?_) <;> exact rfl)
    | ((with_reducible refine idx_step ?_ ?_ ?_ ?_ ?_); exact rfl; exact rfl; rotate_left; (first | with_reducible exact idx_get ‹_› | with_reducible exact idx_drop hd0 | with_reducible exact idx_take hd0 | with_reducible exact idx_zip1 hd0 | with_reducible exact idx_zip2 hd0 | with_reducible exact idx_zip1e hd0 | with_reducible exact idx_zip2e hd0 | with_reducible exact idx_drop_e hd0 | fail))
    | ((with_reducible refine len_step ?_ ?_); exact rfl)
    | ((with_reducible refine app_step' ?_ ?_ ?_ ?_ ?_ ?_ ?_); exact rfl; exact rfl; exact rfl; exact rfl)
    | ((with_reducible refine guard_step ?_ ?_ (fun hg => ?_) ?_); exact rfl)
    | ((with_reducible refine val_step ?_ ?_); with_reducible exact rfl; with_reducible exact rfl)
    | ((with_reducible refine chk_step ?_ ?_); kernel_rfl)
    | (with_reducible refine And.intro ?_ ?_)
    | ((with_reducible refine gs_eq ?_ ?_ ?_); exact rfl; exact rfl; (first | with_reducible exact map_app | with_reducible exact map_app3 | with_reducible exact map_app4 | exact map_snoc | exact rfl | skip))
    | ((with_reducible refine tok_eq ?_ ?_); exact rfl; (first | with_reducible exact map_app | with_reducible exact map_app3 | with_reducible exact map_app4 | exact map_snoc | exact rfl | skip))
    | exact @rfl AV _
    | exact ble_le rfl
    | fail)
  all_goals first
    | (rfl)
    | (decide)
    | ((exact preV_next.symm.trans hI0.1))
    | ((rw [List.length_append, hI0.2]; rfl))
    | ((rw [List.length_map]; omega))
    | ((rw [(vend_of hv hI0.1).len]; first | exact one_partx 6 g1 rfl ‹(x.kind == 6) = true› | exact one_partx 7 g1 rfl ‹(x.kind == 7) = true› | exact one_partx 9 g1 rfl ‹(x.kind == 9) = true› | exact one_partx 10 g1 rfl ‹(x.kind == 10) = true› | exact one_partx 13 g1 rfl ‹(x.kind == 13) = true› | exact one_partx 14 g1 rfl ‹(x.kind == 14) = true› | exact one_partx 18 g1 rfl ‹(x.kind == 18) = true›))
    | ((rw [(vend_of hv hI0.1).len]; first | (have e := two_partx 11 g1 rfl ‹(x.kind == 11) = true›; omega) | (have e := two_partx 12 g1 rfl ‹(x.kind == 12) = true›; omega) | (have e := two_partx 15 g1 rfl ‹(x.kind == 15) = true›; omega) | (have e := two_partx 16 g1 rfl ‹(x.kind == 16) = true›; omega) | (have e := two_partx 17 g1 rfl ‹(x.kind == 17) = true›; omega)))
    | ((rw [(vend_of hv hI0.1).len]; have e := if_parts g1 (k19 g2 ‹_› ‹_› ‹_› ‹_› ‹_› ‹_› ‹_› ‹_› ‹_› ‹_› ‹_› ‹_› ‹_› ‹_› ‹_› ‹_› ‹_›); omega))
    | ((exact mm2_abs_ne ((vend_of hv hI0.1).inW hv 0) (ne_of hg)))
    | ((exact val_fin (hv.inW n) (congrArg Prod.fst ((vend_of hv hI0.1).eq.trans (opV_k 1 ‹(x.kind == 1) = true›))).symm))
    | ((exact val_fin (hv.inW n) (congrArg Prod.fst ((vend_of hv hI0.1).eq.trans (opV_k 3 ‹(x.kind == 3) = true›))).symm))
    | ((exact val_fin (hv.inW n) (congrArg Prod.fst ((vend_of hv hI0.1).eq.trans (opV_k 4 ‹(x.kind == 4) = true›))).symm))
    | ((exact val_fin (hv.inW n) (congrArg Prod.fst ((vend_of hv hI0.1).eq.trans (opV_k 5 ‹(x.kind == 5) = true›))).symm))
    | ((exact val_fin (hv.inW n) (congrArg Prod.fst ((vend_of hv hI0.1).eq.trans (opV_k 6 ‹(x.kind == 6) = true›))).symm))
    | ((exact val_fin (hv.inW n) (congrArg Prod.fst ((vend_of hv hI0.1).eq.trans (opV_k 7 ‹(x.kind == 7) = true›))).symm))
    | ((exact val_fin (hv.inW n) (congrArg Prod.fst ((vend_of hv hI0.1).eq.trans (opV_k 9 ‹(x.kind == 9) = true›))).symm))
    | ((exact val_fin (hv.inW n) (congrArg Prod.fst ((vend_of hv hI0.1).eq.trans (opV_k 10 ‹(x.kind == 10) = true›))).symm))
    | ((exact val_fin (hv.inW n) (congrArg Prod.fst ((vend_of hv hI0.1).eq.trans (opV_k 11 ‹(x.kind == 11) = true›))).symm))
    | ((exact val_fin (hv.inW n) (congrArg Prod.fst ((vend_of hv hI0.1).eq.trans (opV_k 12 ‹(x.kind == 12) = true›))).symm))
    | ((exact val_fin (hv.inW n) (congrArg Prod.fst ((vend_of hv hI0.1).eq.trans (opV_k 18 ‹(x.kind == 18) = true›))).symm))
    | ((exact val_fin (hv.inW n) ((tap_t h).trans (congrArg Prod.fst ((vend_of hv hI0.1).eq.trans (opV_k 8 ‹(x.kind == 8) = true›))).symm)))
    | ((exact val_fin (hv.inW n) ((tap_f h).trans (congrArg Prod.fst ((vend_of hv hI0.1).eq.trans (opV_k 8 ‹(x.kind == 8) = true›))).symm)))
    | ((exact val_fin (hv.inW n) ((lt_t h).trans (congrArg Prod.fst ((vend_of hv hI0.1).eq.trans (opV_k 19 (k19 g2 ‹_› ‹_› ‹_› ‹_› ‹_› ‹_› ‹_› ‹_› ‹_› ‹_› ‹_› ‹_› ‹_› ‹_› ‹_› ‹_› ‹_›)))).symm)))
    | ((exact val_fin (hv.inW n) ((lt_f h).trans (congrArg Prod.fst ((vend_of hv hI0.1).eq.trans (opV_k 19 (k19 g2 ‹_› ‹_› ‹_› ‹_› ‹_› ‹_› ‹_› ‹_› ‹_› ‹_› ‹_› ‹_› ‹_› ‹_› ‹_› ‹_› ‹_›)))).symm)))
    | ((exact val_fin (hv.inW n) ((congrArg (mm2 true (vs.getD 0 0)) (neg_wrap ((vend_of hv hI0.1).inW hv 0))).trans (congrArg Prod.fst ((vend_of hv hI0.1).eq.trans (opV_k 13 ‹(x.kind == 13) = true›))).symm)))
    | ((exact val_fin (hv.inW n) ((neg_wrap ((vend_of hv hI0.1).inW hv 0)).trans (congrArg Prod.fst ((vend_of hv hI0.1).eq.trans (opV_k 14 ‹(x.kind == 14) = true›))).symm)))
    | ((exact val_fin (hv.inW n) ((inW_wrap ((vend_of hv hI0.1).res (v := vs.getD 0 0 + vs.getD 1 0) hv 15 ‹(x.kind == 15) = true› rfl)).trans (congrArg Prod.fst ((vend_of hv hI0.1).eq.trans (opV_k 15 ‹(x.kind == 15) = true›))).symm)))
    | ((exact val_fin (hv.inW n) ((inW_wrap ((vend_of hv hI0.1).res (v := vs.getD 0 0 - vs.getD 1 0) hv 16 ‹(x.kind == 16) = true› rfl)).trans (congrArg Prod.fst ((vend_of hv hI0.1).eq.trans (opV_k 16 ‹(x.kind == 16) = true›))).symm)))
    | ((exact val_fin (hv.inW n) ((inW_wrap ((vend_of hv hI0.1).res (v := vs.getD 0 0 * vs.getD 1 0) hv 17 ‹(x.kind == 17) = true› rfl)).trans (congrArg Prod.fst ((vend_of hv hI0.1).eq.trans (opV_k 17 ‹(x.kind == 17) = true›))).symm)))
    | ((exact congrArg (fun z : Nat => D.i (z : Int)) (congrArg Prod.snd ((vend_of hv hI0.1).eq.trans (opV_k 1 ‹(x.kind == 1) = true›))).symm))
    | ((exact congrArg (fun z : Nat => D.i (z : Int)) (congrArg Prod.snd ((vend_of hv hI0.1).eq.trans (opV_k 3 ‹(x.kind == 3) = true›))).symm))
    | ((exact congrArg (fun z : Nat => D.i (z : Int)) (congrArg Prod.snd ((vend_of hv hI0.1).eq.trans (opV_k 4 ‹(x.kind == 4) = true›))).symm))
    | ((exact congrArg (fun z : Nat => D.i (z : Int)) (congrArg Prod.snd ((vend_of hv hI0.1).eq.trans (opV_k 5 ‹(x.kind == 5) = true›))).symm))
    | ((exact congrArg (fun z : Nat => D.i (z : Int)) (congrArg Prod.snd ((vend_of hv hI0.1).eq.trans (opV_k 6 ‹(x.kind == 6) = true›))).symm))
    | ((exact congrArg (fun z : Nat => D.i (z : Int)) (congrArg Prod.snd ((vend_of hv hI0.1).eq.trans (opV_k 7 ‹(x.kind == 7) = true›))).symm))
    | ((exact congrArg (fun z : Nat => D.i (z : Int)) (congrArg Prod.snd ((vend_of hv hI0.1).eq.trans (opV_k 8 ‹(x.kind == 8) = true›))).symm))
    | ((exact congrArg (fun z : Nat => D.i (z : Int)) (congrArg Prod.snd ((vend_of hv hI0.1).eq.trans (opV_k 9 ‹(x.kind == 9) = true›))).symm))
    | ((exact congrArg (fun z : Nat => D.i (z : Int)) (congrArg Prod.snd ((vend_of hv hI0.1).eq.trans (opV_k 10 ‹(x.kind == 10) = true›))).symm))
    | ((exact congrArg (fun z : Nat => D.i (z : Int)) (congrArg Prod.snd ((vend_of hv hI0.1).eq.trans (opV_k 11 ‹(x.kind == 11) = true›))).symm))
    | ((exact congrArg (fun z : Nat => D.i (z : Int)) (congrArg Prod.snd ((vend_of hv hI0.1).eq.trans (opV_k 12 ‹(x.kind == 12) = true›))).symm))
    | ((exact congrArg (fun z : Nat => D.i (z : Int)) (congrArg Prod.snd ((vend_of hv hI0.1).eq.trans (opV_k 13 ‹(x.kind == 13) = true›))).symm))
    | ((exact congrArg (fun z : Nat => D.i (z : Int)) (congrArg Prod.snd ((vend_of hv hI0.1).eq.trans (opV_k 14 ‹(x.kind == 14) = true›))).symm))
    | ((exact congrArg (fun z : Nat => D.i (z : Int)) (congrArg Prod.snd ((vend_of hv hI0.1).eq.trans (opV_k 15 ‹(x.kind == 15) = true›))).symm))
    | ((exact congrArg (fun z : Nat => D.i (z : Int)) (congrArg Prod.snd ((vend_of hv hI0.1).eq.trans (opV_k 16 ‹(x.kind == 16) = true›))).symm))
    | ((exact congrArg (fun z : Nat => D.i (z : Int)) (congrArg Prod.snd ((vend_of hv hI0.1).eq.trans (opV_k 17 ‹(x.kind == 17) = true›))).symm))
    | ((exact congrArg (fun z : Nat => D.i (z : Int)) (congrArg Prod.snd ((vend_of hv hI0.1).eq.trans (opV_k 18 ‹(x.kind == 18) = true›))).symm))
    | ((exact congrArg (fun z : Nat => D.i (z : Int)) (congrArg Prod.snd ((vend_of hv hI0.1).eq.trans (opV_k 19 (k19 g2 ‹_› ‹_› ‹_› ‹_› ‹_› ‹_› ‹_› ‹_› ‹_› ‹_› ‹_› ‹_› ‹_› ‹_› ‹_› ‹_› ‹_›)))).symm))
    | skip
end Go.Proofs.YtjgponkgifopaaaGreatDoor
namespace Go.Proofs.YtjgponkgifopaaaGreatDoor
open Go.Fw Go.Fw.Rg Go.Fw.Nam
set_option maxRecDepth 10000
set_option linter.unusedSectionVars false
variable [GlobInt]
set_option maxHeartbeats 2000000 in
theorem sound_err (p : Pr) (x : Ex) (cl : List Nat) (e : Int) (g : GoodP p) (H : FewH p) (hx : esz x ≤ 1073741824) (he : (e != 0) = true) (h1 : PCall Tryz.prog 15 [p.d, x.d] (.ret (.tuple [.i 0, .i 0, .i e]))) : PCall Tryz.prog 5 [p.d, x.d, .sl 1 (cl.map u32C)] (.ret (.b true)) := by
  refine pcall_of_wc tok hmix ⟨[], []⟩ Tryz.func5 rfl (by kernel_rfl) (by kernel_rfl) (by kernel_rfl) fun hf => ?_
  clear hf
  repeat' ((try (conv => whnf)) <;> first
    | (exact Bool.noConfusion (show false = true from h))
    | (exact Bool.noConfusion (show true = false from he.symm.trans h))
    | with_reducible refine BrI.intro (fun h => ?_) (fun h => ?_)
    | ((with_reducible refine call_step ?_ ?_ ?_); rotate_left; (first | exact rsane_call | exact rfew_call _ (by assumption) (by assumption) | exact fewex_call _ (by assumption) | exact int_no1 _ _ _ (by assumption) (by assumption) | exact int_no2 _ _ _ _ (by assumption) (by assumption) | exact int_name _ _ _ (by assumption) (by assumption) | exact int_ok _ _ _ _ (by assumption) (by assumption) (by assumption) | exact int_bad _ _ _ _ (by assumption) (by assumption) (by assumption) | exact bounds_no _ _ _ (by assumption) (by assumption) | exact bounds_ok _ _ (by assumption) | exact rcheck_call _ (by assumption) | exact rfits_call _ _ | exact rsane_call | exact rfew_call p g.sm H | exact fewex_call x hx | exact h1 | fail))
    | ((with_reducible refine guard_step ?_ ?_ (fun hg => ?_) ?_); exact rfl)
    | ((with_reducible refine val_step ?_ ?_); with_reducible exact rfl; with_reducible exact rfl)
    | ((with_reducible refine ret_step ?_); refine ⟨[], rfl, ?_, trivial⟩; conv => whnf)
    | fail)
  all_goals first
    | (rfl)
    | skip
set_option maxHeartbeats 4000000 in
theorem sound_ok (p : Pr) (x : Ex) (cl : List Nat) (F : List Sp) (s : Sp) (g : GoodP p) (H : FewH p) (hx : esz x ≤ 1073741824) (hn : Ref15.nodes x ≤ 1073741824) (hc : ∀ k ∈ cl, k < 4294967296) (hl : cl.length ≤ 1073741824) (hb : BOk p F) (hv : VOk p F cl x) (hs : findM p F x = .ok s) (hft : decide (countM p x 512 > 0) = true) (h1 : PCall Tryz.prog 15 [p.d, x.d] (.ret (.tuple [.i s.1, .i s.2, .i 0]))) (h2 : PCall Tryz.prog 11 [p.d] (.ret (.tuple [.sl 2 (F.map Sp.cs), .i 0]))) (hz : (boundsR p).2 = 0) : PCall Tryz.prog 5 [p.d, x.d, .sl 1 (cl.map u32C)] (.ret (.b true)) := by
  refine pcall_of_wc tok hmix ⟨[], []⟩ Tryz.func5 rfl (by kernel_rfl) (by kernel_rfl) (by kernel_rfl) fun hf => ?_
  have hlen : F.length ≤ 9223372036854775807 := by have := hb.len; have := g.sm.stmts; omega
  clear hf
  repeat' ((try (conv => whnf)) <;> first
    | (exact Bool.noConfusion (show false = true from h))
    | (exact (sound_no hz hft (lens_eq hb) h).elim)
    | (exact (let_bad hb.fok (drop_mem hd0) h).elim)
    | with_reducible exact trivial
    | with_reducible exact idx_next hd0 ‹_›
    | with_reducible refine br_nil hd0 ?_
    | with_reducible refine br_cons hd0 ?_
    | with_reducible refine BrI.intro (fun h => ?_) (fun h => ?_)
    | ((with_reducible refine LoopAt.mk 0 ?_); refine ⟨rangeL (F) 74 (fun (_ : Unit) => []) (fun (_ : Unit) => []) [2, 3, 4, 7, 8, 10, 72, 73] (fun i0 r0 _ => True), ?_⟩; with_reducible refine rangeL_rule () ?_ ?_ (fun i0 (_ : Unit) hd0 hI0 => ?_) (fun i0 x0 r0 (_ : Unit) hd0 hl0 hI0 => ?_))
    | (with_reducible refine rangeL_next hd0 () ?_ ?_)
    | ((with_reducible refine call_step ?_ ?_ ?_); rotate_left; (first | exact rsane_call | exact rfew_call _ (by assumption) (by assumption) | exact fewex_call _ (by assumption) | exact int_no1 _ _ _ (by assumption) (by assumption) | exact int_no2 _ _ _ _ (by assumption) (by assumption) | exact int_name _ _ _ (by assumption) (by assumption) | exact int_ok _ _ _ _ (by assumption) (by assumption) (by assumption) | exact int_bad _ _ _ _ (by assumption) (by assumption) (by assumption) | exact bounds_no _ _ _ (by assumption) (by assumption) | exact bounds_ok _ _ (by assumption) | exact rcheck_call _ (by assumption) | exact rfits_call _ _ | exact rsane_call | exact rfew_call p g.sm H | exact fewex_call x hx | exact h1 | exact h2 | fail))
    | ((first | with_reducible refine lent_step [(1000000, 100)] (lvalue_call x p F cl 0 hv hn g.hT hl) ?_ ?_ ?_ ?_ | with_reducible refine lent_step' [(1000000, 100)] (lvalue_call x p F cl 0 hv hn g.hT hl) ?_ ?_ ?_ ?_ | fail); rotate_left 0; exact rfl; (first | exact trivial | exact ⟨rfl, trivial⟩ | exact ⟨rfl, rfl, trivial⟩ | exact ⟨rfl, rfl, rfl, trivial⟩ | exact ⟨rfl, rfl, rfl, rfl, trivial⟩ | exact ⟨rfl, rfl, rfl, rfl, rfl, trivial⟩ | exact ⟨rfl, rfl, rfl, rfl, rfl, rfl, trivial⟩); exact rfl)
    | ((with_reducible refine idx_step ?_ ?_ ?_ ?_ ?_); exact rfl; exact rfl; rotate_left; (first | with_reducible exact idx_get ‹_› | with_reducible exact idx_drop hd0 | with_reducible exact idx_take hd0 | with_reducible exact idx_zip1 hd0 | with_reducible exact idx_zip2 hd0 | with_reducible exact idx_zip1e hd0 | with_reducible exact idx_zip2e hd0 | with_reducible exact idx_drop_e hd0 | fail))
    | ((with_reducible refine len_step ?_ ?_); exact rfl)
    | ((with_reducible refine guard_step ?_ ?_ (fun hg => ?_) ?_); exact rfl)
    | ((with_reducible refine val_step ?_ ?_); with_reducible exact rfl; with_reducible exact rfl)
    | ((with_reducible refine ret_step ?_); refine ⟨[], rfl, ?_, trivial⟩; conv => whnf)
    | (with_reducible refine And.intro ?_ ?_)
    | exact @rfl AV _
    | fail)
  all_goals first
    | (rfl)
    | (decide)
    | ((exact congrArg D.b (val_btw (valM_in hv.rng hv.fok hc x s 0 hv.wf hs))))
    | skip
theorem sound_law (p : Pr) (x : Ex) (cl : List Nat) (g : GoodP p) (H : FewH p) (hx : esz x ≤ 1073741824) (hn : Ref15.nodes x ≤ 1073741824) (hc : ∀ k ∈ cl, k < 4294967296) (hl : cl.length ≤ 1073741824) : PCall Tryz.prog 5 [p.d, x.d, .sl 1 (cl.map u32C)] (.ret (.b true)) := by
  have h1 := ginterval_call p x g hn
  cases hr : intervalR p x with
  | error e => rw [hr] at h1; exact sound_err p x cl e g H hx (intR_ne hr) h1
  | ok s =>
    rw [hr] at h1
    obtain ⟨hz, hf, hs⟩ := intR_ok hr
    have hb := (boundsR_zero hz).1
    have h2 := gbounds_call p g
    rw [boundsD, hz] at h2
    exact sound_ok p x cl _ s g H hx hn hc hl hb (bok_vok hb hc hf hs) hs ((fitsB_count p x).trans hf) h1 h2 hz
theorem lvalue_cut (x : Ex) (p : Pr) (F : List Sp) (i : Nat) (cl : List Nat) (n : Nat) (hv : VOk p (F.take i) cl x) (hx : Ref15.nodes x ≤ 1073741824) (hT : ∀ t ∈ p.tables, t.values.length ≤ 1073741824) (hl : cl.length ≤ 1073741824) : LCall Tryz.prog 19 [.data p.d, .data (.sl 2 (cut none (some (i : Int)) (F.map Sp.cs))), .data x.d, .ptr 1000000 0] [(1000000, .cells [.data (.sl 1 (cl.map u32C)), .data (.i ((n : Nat) : Int))])] (.ret (.data (.tuple [.i (valM p (F.take i) cl x n).1, .b true]))) [(1000000, .cells [.data (.sl 1 (cl.map u32C)), .data (.i (((valM p (F.take i) cl x n).2 : Nat) : Int))])] := by
  rw [cut_take]; exact lvalue_call x p _ cl n hv hx hT hl
set_option maxHeartbeats 2000000 in
theorem each_err (p : Pr) (cl : List Nat) (g : GoodP p) (H : FewH p) (he : ((boundsR p).2 != 0) = true) : PCall Tryz.prog 6 [p.d, .sl 1 (cl.map u32C)] (.ret (.b true)) := by
  refine pcall_of_wc tok hmix ⟨[], []⟩ Tryz.func6 rfl (by kernel_rfl) (by kernel_rfl) (by kernel_rfl) fun hf => ?_
  clear hf
  repeat' ((try (conv => whnf)) <;> first
    | (exact Bool.noConfusion (show false = true from h))
    | (exact (each_e he h).elim)
    | with_reducible refine BrI.intro (fun h => ?_) (fun h => ?_)
    | ((with_reducible refine call_step ?_ ?_ ?_); rotate_left; (first | exact rsane_call | exact rfew_call _ (by assumption) (by assumption) | exact rcheck_call _ (by assumption) | exact bounds_no _ _ _ (by assumption) (by assumption) | exact bounds_ok _ _ (by assumption) | exact rsane_call | exact rfew_call p g.sm H | fail))
    | ((with_reducible refine guard_step ?_ ?_ (fun hg => ?_) ?_); exact rfl)
    | ((with_reducible refine val_step ?_ ?_); with_reducible exact rfl; with_reducible exact rfl)
    | ((with_reducible refine ret_step ?_); refine ⟨[], rfl, ?_, trivial⟩; conv => whnf)
    | fail)
  all_goals first
    | skip
set_option maxHeartbeats 8000000 in
theorem each_ok (p : Pr) (cl : List Nat) (F : List Sp) (g : GoodP p) (H : FewH p) (hc : ∀ k ∈ cl, k < 4294967296) (hl : cl.length ≤ 1073741824) (hb : BOk p F) (h2 : PCall Tryz.prog 11 [p.d] (.ret (.tuple [.sl 2 (F.map Sp.cs), .i 0]))) (hz : (boundsR p).2 = 0) : PCall Tryz.prog 6 [p.d, .sl 1 (cl.map u32C)] (.ret (.b true)) := by
  refine pcall_of_wc tok hmix ⟨[], []⟩ Tryz.func6 rfl (by kernel_rfl) (by kernel_rfl) (by kernel_rfl) fun hf => ?_
  have hlen : p.stmts.length ≤ 9223372036854775807 := by have := g.sm.stmts; omega
  clear hf
  repeat' ((try (conv => whnf)) <;> first
    | (exact Bool.noConfusion (show false = true from h))
    | (exact (each_no (lens_eq hb) h).elim)
    | (exact (let_bad hb.fok (st_at hb hd0).mem h).elim)
    | (exact (val_no ((st_at hb hd0).val hb hc 0) h).elim)
    | (exact (win_2 (st_at hb hd0).win ‹_› h).elim)
    | (exact (win_3 (st_at hb hd0).win ‹_› ‹_› h).elim)
    | (exact (win_4 (st_at hb hd0).win ‹_› ‹_› ‹_› h).elim)
    | with_reducible exact trivial
    | with_reducible exact idx_next hd0 ‹_›
    | with_reducible refine br_nil hd0 ?_
    | with_reducible refine br_cons hd0 ?_
    | with_reducible refine BrI.intro (fun h => ?_) (fun h => ?_)
    | ((with_reducible refine idx_int ((0, 0) : Sp) ?_ ?_ (Int.natCast_nonneg i0) (Int.ofNat_lt.2 (st_at hb hd0).lt) ?_); exact rfl; exact rfl)
    | ((with_reducible refine idx_int Rg.Bd.none ?_ ?_ (wfS_2 (st_at hb hd0).wf ‹_›).1 (wfS_2 (st_at hb hd0).wf ‹_›).2 ?_); exact rfl; exact rfl)
    | ((with_reducible refine idx_int Rg.Ln.none ?_ ?_ (wfS_3 (st_at hb hd0).wf ‹_›).1 (wfS_3 (st_at hb hd0).wf ‹_›).2 ?_); exact rfl; exact rfl)
    | ((with_reducible refine LoopAt.mk 0 ?_); refine ⟨rangeL (p.stmts) 44 (fun (_ : Unit) => []) (fun (_ : Unit) => []) [1, 2, 5, 42, 43] (fun i0 r0 _ => True), ?_⟩; with_reducible refine rangeL_rule () ?_ ?_ (fun i0 (_ : Unit) hd0 hI0 => ?_) (fun i0 x0 r0 (_ : Unit) hd0 hl0 hI0 => ?_))
    | (with_reducible refine rangeL_next hd0 () ?_ ?_)
    | ((with_reducible refine call_step ?_ ?_ ?_); rotate_left; (first | exact rsane_call | exact rfew_call _ (by assumption) (by assumption) | exact rcheck_call _ (by assumption) | exact bounds_no _ _ _ (by assumption) (by assumption) | exact bounds_ok _ _ (by assumption) | exact rsane_call | exact rfew_call p g.sm H | exact h2 | fail))
    | ((first | with_reducible refine lent_step [(1000000, 85)] (lvalue_cut x0.x p F i0 cl 0 ((st_at hb hd0).vok hb hc) (g.hn _ (drop_mem hd0)) g.hT hl) ?_ ?_ ?_ ?_ | with_reducible refine lent_step' [(1000000, 85)] (lvalue_cut x0.x p F i0 cl 0 ((st_at hb hd0).vok hb hc) (g.hn _ (drop_mem hd0)) g.hT hl) ?_ ?_ ?_ ?_ | fail); rotate_left 0; exact rfl; (first | exact trivial | exact ⟨rfl, trivial⟩ | exact ⟨rfl, rfl, trivial⟩ | exact ⟨rfl, rfl, rfl, trivial⟩ | exact ⟨rfl, rfl, rfl, rfl, trivial⟩ | exact ⟨rfl, rfl, rfl, rfl, rfl, trivial⟩ | exact ⟨rfl, rfl, rfl, rfl, rfl, rfl, trivial⟩); exact rfl)
    | ((with_reducible refine idx_step ?_ ?_ ?_ ?_ ?_); exact rfl; exact rfl; rotate_left; (first | with_reducible exact idx_get ‹_› | with_reducible exact idx_drop hd0 | with_reducible exact idx_take hd0 | with_reducible exact idx_zip1 hd0 | with_reducible exact idx_zip2 hd0 | with_reducible exact idx_zip1e hd0 | with_reducible exact idx_zip2e hd0 | with_reducible exact idx_drop_e hd0 | fail))
    | ((with_reducible refine len_step ?_ ?_); exact rfl)
    | ((with_reducible refine guard_step ?_ ?_ (fun hg => ?_) ?_); exact rfl)
    | ((with_reducible refine val_step ?_ ?_); with_reducible exact rfl; with_reducible exact rfl)
    | ((with_reducible refine chk_step ?_ ?_); kernel_rfl)
    | ((with_reducible refine ret_step ?_); refine ⟨[], rfl, ?_, trivial⟩; conv => whnf)
    | (with_reducible refine And.intro ?_ ?_)
    | exact @rfl AV _
    | fail)
  all_goals first
    | (rfl)
    | (decide)
    | ((exact Int.natCast_nonneg i0))
    | ((rw [List.length_map]; have := (st_at hb hd0).lt; omega))
    | skip
theorem each_law (p : Pr) (cl : List Nat) (g : GoodP p) (H : FewH p) (hc : ∀ k ∈ cl, k < 4294967296) (hl : cl.length ≤ 1073741824) : PCall Tryz.prog 6 [p.d, .sl 1 (cl.map u32C)] (.ret (.b true)) := by
  cases he : (boundsR p).2 != 0 with
  | true => exact each_err p cl g H he
  | false =>
    have hz : (boundsR p).2 = 0 := by simpa using he
    have h2 := gbounds_call p g
    rw [boundsD, hz] at h2
    exact each_ok p cl _ g H hc hl (boundsR_zero hz).1 h2 hz
end Go.Proofs.YtjgponkgifopaaaGreatDoor
