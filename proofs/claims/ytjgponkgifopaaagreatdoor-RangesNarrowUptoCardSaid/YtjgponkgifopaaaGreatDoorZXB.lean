/- Contracts: package ranges: statements; work that may end with an error. -/
import Derived.Test.YtjgponkgifopaaaGreatDoorZXA
import Derived.Test.YtjgponkgifopaaaGreatDoorZRA
set_option linter.unusedSimpArgs false
set_option linter.unusedVariables false
namespace Go.Proofs.YtjgponkgifopaaaGreatDoor
open Go.Fw Go.Fw.Rg
set_option maxRecDepth 10000
set_option linter.unusedSectionVars false
variable [GlobInt]
set_option maxHeartbeats 2000000 in
theorem statements_ok (p : Pr) (FF : List Sp) (R : Except Int (List Sp)) (hR : Rng p) (hT : ∀ t ∈ p.tables, t.values.length ≤ 1073741824) (hn : ∀ s ∈ p.stmts, Ref15.nodes s.x ≤ 1073741824) (hl : p.stmts.length ≤ 1073741824) (hw : wfSL p 0 p.stmts = true) (hS : stmtsM p p.stmts [] = R) (hF : stmtsF p p.stmts [] = FF) (hRR : R = .ok FF) : LCall Tryz.prog 40 [.ptr 1000000 0] [(1000000, .cells [.data (.str p.name), .data (.i p.latency), .data (.i p.tail), .data (.sl 3 (p.params.map Bd.cs)), .data (.sl 3 (p.states.map Bd.cs)), .data (.sl 4 (p.lines.map Ln.cs)), .data (.sl 2 (p.tables.map Tb.cs)), .data (.sl 8 (p.stmts.map Sm.cs)), .nilsl 2])] (.ret (.data (.tuple []))) [(1000000, .cells [.data (.str p.name), .data (.i p.latency), .data (.i p.tail), .data (.sl 3 (p.params.map Bd.cs)), .data (.sl 3 (p.states.map Bd.cs)), .data (.sl 4 (p.lines.map Ln.cs)), .data (.sl 2 (p.tables.map Tb.cs)), .data (.sl 8 (p.stmts.map Sm.cs)), .gs 1000001 2 (FF.map Sp.cs)]), (1000001, .tok 2 (FF.map Sp.cs).length)] := by
  refine lcall_of_wc tok hmix ⟨[], []⟩ Tryz.func40 rfl (by kernel_rfl) (by kernel_rfl) (by kernel_rfl) fun hf => ?_
  have hlen : p.stmts.length ≤ 9223372036854775807 := by omega
  clear hf
  repeat' ((try (conv => whnf)) <;> first
    | (with_reducible exact (ok_ne (hRR.symm.trans (stI_bad1 hI0 q1).1)).elim)
    | (with_reducible exact (ok_ne (hRR.symm.trans (stI_bad2 hI0 q1 (hull_no (B := ((stateAt p x0.index).lo, (stateAt p x0.index).hi)) (bnd2 ‹_›) h)).1)).elim)
    | (with_reducible exact (ok_ne (hRR.symm.trans (stI_bad2 hI0 q1 (hull_no (B := ((lineAt p x0.index).lo, (lineAt p x0.index).hi)) (bnd3 ‹_› ‹_›) h)).1)).elim)
    | (with_reducible exact (ok_ne (hRR.symm.trans (stI_bad2 hI0 q1 (hull_no (B := (-2147483648, 2147483647)) (bnd4 ‹_› ‹_› ‹_›) h)).1)).elim)
    | (with_reducible exact (ok_ne (hRR.symm.trans (stI_bad2 hI0 q1 (hull_no (B := (-4611686018427387904, 4611686018427387904)) (bnd0 ‹_› ‹_› ‹_›) h)).1)).elim)
    | (with_reducible (have hq := (stI_end hI0).2); subst hq)
    | (with_reducible refine exc_stepR (gfind_call x0.x p fs hR hI0.ins hT (hn _ (drop_mem hd0)) (stI_find hI0)) (fun s1 q1 => ?_) (fun e1 q1 => ?_))
    | with_reducible exact trivial
    | with_reducible exact idx_next hd0 ‹_›
    | with_reducible refine br_nil hd0 ?_
    | with_reducible refine br_cons hd0 ?_
    | with_reducible refine BrI.intro (fun h => ?_) (fun h => ?_)
    | ((with_reducible refine flat_step ?_ ?_); exact rfl)
    | ((with_reducible refine kok_step ?_ ?_ ?_); exact rfl; exact rfl)
    | ((with_reducible refine idx_int Rg.Bd.none ?_ ?_ (wfSL_2 hI0.wf h).1 (wfSL_2 hI0.wf h).2 ?_); exact rfl; exact rfl)
    | ((with_reducible refine idx_int Rg.Ln.none ?_ ?_ (wfSL_3 hI0.wf h).1 (wfSL_3 hI0.wf h).2 ?_); exact rfl; exact rfl)
    | ((with_reducible refine LoopAt.mk 0 ?_); refine ⟨rangeL (p.stmts) 13 (fun (fs : (List Sp)) => []) (fun (fs : (List Sp)) => [(1000000, .cells [.data (.str p.name), .data (.i p.latency), .data (.i p.tail), .data (.sl 3 (p.params.map Bd.cs)), .data (.sl 3 (p.states.map Bd.cs)), .data (.sl 4 (p.lines.map Ln.cs)), .data (.sl 2 (p.tables.map Tb.cs)), .data (.sl 8 (p.stmts.map Sm.cs)), .gs 900007 2 (fs.map Sp.cs)]), (900007, .tok 2 (fs.map Sp.cs).length)]) [0, 11, 12] (fun i0 r0 fs => StI p R FF i0 r0 fs), ?_⟩; with_reducible refine rangeL_rule ([]) ?_ ?_ (fun i0 (fs : (List Sp)) hd0 hI0 => ?_) (fun i0 x0 r0 (fs : (List Sp)) hd0 hl0 hI0 => ?_))
    | (with_reducible refine rangeL_next hd0 (fs ++ [s1]) ?_ ?_)
    | ((with_reducible refine ret_step ?_); refine fin_step' [(1000000, 1000000), (1000001, 900007)] rfl ?_ ?_)
    | (with_reducible refine ChooseI.l _ ?_)
    | ((with_reducible refine nilgs_step ?_ ?_ ?_ ?_ ?_ ?_) <;> exact rfl)
    | ((with_reducible refine tok0_step ?_ ?_ ?_ ?_) <;> exact rfl)
    | ((with_reducible refine idx_step ?_ ?_ ?_ ?_ ?_); exact rfl; exact rfl; rotate_left; (first | with_reducible exact idx_get ‹_› | with_reducible exact idx_drop hd0 | with_reducible exact idx_take hd0 | with_reducible exact idx_zip1 hd0 | with_reducible exact idx_zip2 hd0 | with_reducible exact idx_zip1e hd0 | with_reducible exact idx_zip2e hd0 | with_reducible exact idx_drop_e hd0 | fail))
    | ((with_reducible refine len_step ?_ ?_); exact rfl)
    | ((with_reducible refine app_step' ?_ ?_ ?_ ?_ ?_ ?_ ?_); exact rfl; exact rfl; exact rfl; exact rfl)
    | ((with_reducible refine chk_step ?_ ?_); kernel_rfl)
    | (with_reducible refine And.intro ?_ ?_)
    | ((with_reducible refine gs_eq ?_ ?_ ?_); exact rfl; exact rfl; (first | with_reducible exact map_app | with_reducible exact map_app3 | with_reducible exact map_app4 | exact map_snoc | exact rfl | skip))
    | ((with_reducible refine tok_eq ?_ ?_); exact rfl; (first | with_reducible exact map_app | with_reducible exact map_app3 | with_reducible exact map_app4 | exact map_snoc | exact rfl | skip))
    | ((with_reducible refine ren_guard ?_); refine gs_ren ?_ ?_ ?_; exact rfl; exact rfl; (first | exact rfl | skip))
    | exact @rfl AV _
    | exact ble_le rfl
    | fail)
  all_goals first
    | (decide)
    | ((exact stI_start hS hF hw))
    | ((with_reducible exact stI_next hR hI0 q1 (hull_yes (B := ((stateAt p x0.index).lo, (stateAt p x0.index).hi)) (bnd2 ‹_›) h)))
    | ((with_reducible exact stI_next hR hI0 q1 (hull_yes (B := ((lineAt p x0.index).lo, (lineAt p x0.index).hi)) (bnd3 ‹_› ‹_›) h)))
    | ((with_reducible exact stI_next hR hI0 q1 (hull_yes (B := (-2147483648, 2147483647)) (bnd4 ‹_› ‹_› ‹_›) h)))
    | ((with_reducible exact stI_next hR hI0 q1 (hull_yes (B := (-4611686018427387904, 4611686018427387904)) (bnd0 ‹_› ‹_› ‹_›) h)))
    | ((rw [List.length_map, hI0.len]; have := drop_lt hd0; omega))
    | skip
set_option maxHeartbeats 2000000 in
theorem statements_bad (p : Pr) (FF : List Sp) (R : Except Int (List Sp)) (e : Int) (hR : Rng p) (hT : ∀ t ∈ p.tables, t.values.length ≤ 1073741824) (hn : ∀ s ∈ p.stmts, Ref15.nodes s.x ≤ 1073741824) (hl : p.stmts.length ≤ 1073741824) (hw : wfSL p 0 p.stmts = true) (hS : stmtsM p p.stmts [] = R) (hF : stmtsF p p.stmts [] = FF) (hRR : R = .error e) : LCall Tryz.prog 40 [.ptr 1000000 0] [(1000000, .cells [.data (.str p.name), .data (.i p.latency), .data (.i p.tail), .data (.sl 3 (p.params.map Bd.cs)), .data (.sl 3 (p.states.map Bd.cs)), .data (.sl 4 (p.lines.map Ln.cs)), .data (.sl 2 (p.tables.map Tb.cs)), .data (.sl 8 (p.stmts.map Sm.cs)), .nilsl 2])] (.pan (.data (.iface 31 (.i e)))) [(1000000, .cells [.data (.str p.name), .data (.i p.latency), .data (.i p.tail), .data (.sl 3 (p.params.map Bd.cs)), .data (.sl 3 (p.states.map Bd.cs)), .data (.sl 4 (p.lines.map Ln.cs)), .data (.sl 2 (p.tables.map Tb.cs)), .data (.sl 8 (p.stmts.map Sm.cs)), .gs 1000001 2 (FF.map Sp.cs)]), (1000001, .tok 2 (FF.map Sp.cs).length)] := by
  refine lcall_of_wc tok hmix ⟨[], []⟩ Tryz.func40 rfl (by kernel_rfl) (by kernel_rfl) (by kernel_rfl) fun hf => ?_
  have hlen : p.stmts.length ≤ 9223372036854775807 := by omega
  clear hf
  repeat' ((try (conv => whnf)) <;> first
    | (with_reducible (have hq := er_eq (hRR.symm.trans (stI_bad1 hI0 q1).1)); (have hq2 := (stI_bad1 hI0 q1).2); subst hq; subst hq2)
    | (with_reducible (have hq := er_eq (hRR.symm.trans (stI_bad2 hI0 q1 (hull_no (B := ((stateAt p x0.index).lo, (stateAt p x0.index).hi)) (bnd2 ‹_›) h)).1)); (have hq2 := (stI_bad2 hI0 q1 (hull_no (B := ((stateAt p x0.index).lo, (stateAt p x0.index).hi)) (bnd2 ‹_›) h)).2); subst hq; subst hq2)
    | (with_reducible (have hq := er_eq (hRR.symm.trans (stI_bad2 hI0 q1 (hull_no (B := ((lineAt p x0.index).lo, (lineAt p x0.index).hi)) (bnd3 ‹_› ‹_›) h)).1)); (have hq2 := (stI_bad2 hI0 q1 (hull_no (B := ((lineAt p x0.index).lo, (lineAt p x0.index).hi)) (bnd3 ‹_› ‹_›) h)).2); subst hq; subst hq2)
    | (with_reducible (have hq := er_eq (hRR.symm.trans (stI_bad2 hI0 q1 (hull_no (B := (-2147483648, 2147483647)) (bnd4 ‹_› ‹_› ‹_›) h)).1)); (have hq2 := (stI_bad2 hI0 q1 (hull_no (B := (-2147483648, 2147483647)) (bnd4 ‹_› ‹_› ‹_›) h)).2); subst hq; subst hq2)
    | (with_reducible (have hq := er_eq (hRR.symm.trans (stI_bad2 hI0 q1 (hull_no (B := (-4611686018427387904, 4611686018427387904)) (bnd0 ‹_› ‹_› ‹_›) h)).1)); (have hq2 := (stI_bad2 hI0 q1 (hull_no (B := (-4611686018427387904, 4611686018427387904)) (bnd0 ‹_› ‹_› ‹_›) h)).2); subst hq; subst hq2)
    | (with_reducible exact (ok_ne ((stI_end hI0).1.symm.trans hRR)).elim)
    | (with_reducible refine exc_stepR (gfind_call x0.x p fs hR hI0.ins hT (hn _ (drop_mem hd0)) (stI_find hI0)) (fun s1 q1 => ?_) (fun e1 q1 => ?_))
    | with_reducible exact trivial
    | with_reducible exact idx_next hd0 ‹_›
    | with_reducible refine br_cons hd0 ?_
    | with_reducible refine BrI.intro (fun h => ?_) (fun h => ?_)
    | ((with_reducible refine flat_step ?_ ?_); exact rfl)
    | ((with_reducible refine kok_step ?_ ?_ ?_); exact rfl; exact rfl)
    | ((with_reducible refine idx_int Rg.Bd.none ?_ ?_ (wfSL_2 hI0.wf h).1 (wfSL_2 hI0.wf h).2 ?_); exact rfl; exact rfl)
    | ((with_reducible refine idx_int Rg.Ln.none ?_ ?_ (wfSL_3 hI0.wf h).1 (wfSL_3 hI0.wf h).2 ?_); exact rfl; exact rfl)
    | ((with_reducible refine LoopAt.mk 0 ?_); refine ⟨rangeL (p.stmts) 13 (fun (fs : (List Sp)) => []) (fun (fs : (List Sp)) => [(1000000, .cells [.data (.str p.name), .data (.i p.latency), .data (.i p.tail), .data (.sl 3 (p.params.map Bd.cs)), .data (.sl 3 (p.states.map Bd.cs)), .data (.sl 4 (p.lines.map Ln.cs)), .data (.sl 2 (p.tables.map Tb.cs)), .data (.sl 8 (p.stmts.map Sm.cs)), .gs 900007 2 (fs.map Sp.cs)]), (900007, .tok 2 (fs.map Sp.cs).length)]) [0, 11, 12] (fun i0 r0 fs => StI p R FF i0 r0 fs), ?_⟩; with_reducible refine rangeL_rule ([]) ?_ ?_ (fun i0 (fs : (List Sp)) hd0 hI0 => ?_) (fun i0 x0 r0 (fs : (List Sp)) hd0 hl0 hI0 => ?_))
    | (with_reducible refine rangeL_next hd0 (fs ++ [s1]) ?_ ?_)
    | ((with_reducible refine pan_stepA ?_); refine fin_step' [(1000000, 1000000), (1000001, 900007)] rfl ?_ ?_)
    | (with_reducible refine ChooseI.l _ ?_)
    | ((with_reducible refine nilgs_step ?_ ?_ ?_ ?_ ?_ ?_) <;> exact rfl)
    | ((with_reducible refine tok0_step ?_ ?_ ?_ ?_) <;> exact rfl)
    | ((with_reducible refine idx_step ?_ ?_ ?_ ?_ ?_); exact rfl; exact rfl; rotate_left; (first | with_reducible exact idx_get ‹_› | with_reducible exact idx_drop hd0 | with_reducible exact idx_take hd0 | with_reducible exact idx_zip1 hd0 | with_reducible exact idx_zip2 hd0 | with_reducible exact idx_zip1e hd0 | with_reducible exact idx_zip2e hd0 | with_reducible exact idx_drop_e hd0 | fail))
    | ((with_reducible refine len_step ?_ ?_); exact rfl)
    | ((with_reducible refine app_step' ?_ ?_ ?_ ?_ ?_ ?_ ?_); exact rfl; exact rfl; exact rfl; exact rfl)
    | ((with_reducible refine chk_step ?_ ?_); kernel_rfl)
    | (with_reducible refine And.intro ?_ ?_)
    | ((with_reducible refine gs_eq ?_ ?_ ?_); exact rfl; exact rfl; (first | with_reducible exact map_app | with_reducible exact map_app3 | with_reducible exact map_app4 | exact map_snoc | exact rfl | skip))
    | ((with_reducible refine tok_eq ?_ ?_); exact rfl; (first | with_reducible exact map_app | with_reducible exact map_app3 | with_reducible exact map_app4 | exact map_snoc | exact rfl | skip))
    | ((with_reducible refine ren_guard ?_); refine gs_ren ?_ ?_ ?_; exact rfl; exact rfl; (first | exact rfl | skip))
    | exact @rfl AV _
    | exact ble_le rfl
    | fail)
  all_goals first
    | (decide)
    | ((exact stI_start hS hF hw))
    | ((with_reducible exact stI_next hR hI0 q1 (hull_yes (B := ((stateAt p x0.index).lo, (stateAt p x0.index).hi)) (bnd2 ‹_›) h)))
    | ((with_reducible exact stI_next hR hI0 q1 (hull_yes (B := ((lineAt p x0.index).lo, (lineAt p x0.index).hi)) (bnd3 ‹_› ‹_›) h)))
    | ((with_reducible exact stI_next hR hI0 q1 (hull_yes (B := (-2147483648, 2147483647)) (bnd4 ‹_› ‹_› ‹_›) h)))
    | ((with_reducible exact stI_next hR hI0 q1 (hull_yes (B := (-4611686018427387904, 4611686018427387904)) (bnd0 ‹_› ‹_› ‹_›) h)))
    | ((rw [List.length_map, hI0.len]; have := drop_lt hd0; omega))
    | skip
end Go.Proofs.YtjgponkgifopaaaGreatDoor
namespace Go.Proofs.YtjgponkgifopaaaGreatDoor
open Go.Fw Go.Fw.Rg
set_option maxRecDepth 10000
set_option linter.unusedSectionVars false
variable [GlobInt]
theorem work1_pan (c : AV) (v : Int) : DCall Tryz.prog 45 [.ptr 1000000 0] (some (.iface 31 (.i v))) [(1000000, .cells [.ptr 1000001 0]), (1000001, .cells [c])]
    [(1000000, .cells [.ptr 1000001 0]), (1000001, .cells [.data (.i v)])] := by
  refine dcall_of_vc tok hmix Tryz.func45 rfl (by kernel_rfl) (by kernel_rfl) (by kernel_rfl) ?_
  repeat' ((try (conv => whnf)) <;> first
    | with_reducible exact trivial
    | (refine ⟨([] : List (Nat × Nat)), ?_⟩)
    | (refine ⟨by kernel_rfl, ?_⟩)
    | (refine ⟨rfl, ?_⟩)
    | (refine ⟨?_, ?_⟩)
    | fail)
theorem work1_ok (d : D) : DCall Tryz.prog 45 [.ptr 1000000 0] none [(1000000, .cells [.ptr 1000001 0]), (1000001, .cells [.data d])]
    [(1000000, .cells [.ptr 1000001 0]), (1000001, .cells [.data d])] := by
  refine dcall_of_vc tok hmix Tryz.func45 rfl (by kernel_rfl) (by kernel_rfl) (by kernel_rfl) ?_
  repeat' ((try (conv => whnf)) <;> first
    | with_reducible exact trivial
    | (refine ⟨([] : List (Nat × Nat)), ?_⟩)
    | (refine ⟨by kernel_rfl, ?_⟩)
    | (refine ⟨rfl, ?_⟩)
    | (refine ⟨?_, ?_⟩)
    | fail)
set_option maxHeartbeats 400000 in
theorem work_ok (p : Pr) (FF : List Sp) (hR : Rng p) (hT : ∀ t ∈ p.tables, t.values.length ≤ 1073741824) (hn : ∀ s ∈ p.stmts, Ref15.nodes s.x ≤ 1073741824) (hl : p.stmts.length ≤ 1073741824) (hw : wfSL p 0 p.stmts = true) (hS : stmtsM p p.stmts [] = .ok FF) (hF : stmtsF p p.stmts [] = FF) : LCall Tryz.prog 30 [.ptr 1000000 0, .bnd 40 [.ptr 1000001 0]] [(1000000, .cells [.data (.i 0)]), (1000001, .cells [.data (.str p.name), .data (.i p.latency), .data (.i p.tail), .data (.sl 3 (p.params.map Bd.cs)), .data (.sl 3 (p.states.map Bd.cs)), .data (.sl 4 (p.lines.map Ln.cs)), .data (.sl 2 (p.tables.map Tb.cs)), .data (.sl 8 (p.stmts.map Sm.cs)), .nilsl 2])] (.ret (.data (.tuple []))) [(1000000, .cells [.data (.i 0)]), (1000001, .cells [.data (.str p.name), .data (.i p.latency), .data (.i p.tail), .data (.sl 3 (p.params.map Bd.cs)), .data (.sl 3 (p.states.map Bd.cs)), .data (.sl 4 (p.lines.map Ln.cs)), .data (.sl 2 (p.tables.map Tb.cs)), .data (.sl 8 (p.stmts.map Sm.cs)), .gs 1000002 2 (FF.map Sp.cs)]), (1000002, .tok 2 (FF.map Sp.cs).length)] := by
  refine lcall_of_wc tok hmix ⟨[], []⟩ Tryz.func30 rfl (by kernel_rfl) (by kernel_rfl) (by kernel_rfl) fun hf => ?_
  clear hf
  repeat' ((try (conv => whnf)) <;> first
    | with_reducible exact trivial
    | ((refine ⟨_, _, _, [(1000000, 2), (1000001, 1000000)], work1_ok (.i 0), rfl, ⟨rfl, rfl, trivial⟩, ?_, ?_⟩); kernel_rfl)
    | (refine ⟨([(1000000, 1000000), (1000001, 1000001), (1000002, 800002)] : List (Nat × Nat)), rfl, ?_, ?_⟩)
    | ((first | with_reducible refine lent_step [(1000000, 1000001), (1000001, 800002)] (statements_ok p FF _ hR hT hn hl hw hS hF rfl) ?_ ?_ ?_ ?_ | with_reducible refine lent_step' [(1000000, 1000001), (1000001, 800002)] (statements_ok p FF _ hR hT hn hl hw hS hF rfl) ?_ ?_ ?_ ?_ | fail); rotate_left 0; exact rfl; (first | exact trivial | exact ⟨rfl, trivial⟩ | exact ⟨rfl, rfl, trivial⟩ | exact ⟨rfl, rfl, rfl, trivial⟩ | exact ⟨rfl, rfl, rfl, rfl, trivial⟩ | exact ⟨rfl, rfl, rfl, rfl, rfl, trivial⟩ | exact ⟨rfl, rfl, rfl, rfl, rfl, rfl, trivial⟩); exact rfl)
    | (with_reducible refine And.intro ?_ ?_)
    | ((with_reducible refine ren_guard ?_); refine gs_ren ?_ ?_ ?_; exact rfl; exact rfl; (first | exact rfl | skip))
    | fail)
  all_goals first
    | skip
set_option maxHeartbeats 400000 in
theorem work_bad (p : Pr) (FF : List Sp) (e : Int) (hR : Rng p) (hT : ∀ t ∈ p.tables, t.values.length ≤ 1073741824) (hn : ∀ s ∈ p.stmts, Ref15.nodes s.x ≤ 1073741824) (hl : p.stmts.length ≤ 1073741824) (hw : wfSL p 0 p.stmts = true) (hS : stmtsM p p.stmts [] = .error e) (hF : stmtsF p p.stmts [] = FF) : LCall Tryz.prog 30 [.ptr 1000000 0, .bnd 40 [.ptr 1000001 0]] [(1000000, .cells [.data (.i 0)]), (1000001, .cells [.data (.str p.name), .data (.i p.latency), .data (.i p.tail), .data (.sl 3 (p.params.map Bd.cs)), .data (.sl 3 (p.states.map Bd.cs)), .data (.sl 4 (p.lines.map Ln.cs)), .data (.sl 2 (p.tables.map Tb.cs)), .data (.sl 8 (p.stmts.map Sm.cs)), .nilsl 2])] (.ret (.data (.tuple []))) [(1000000, .cells [.data (.i e)]), (1000001, .cells [.data (.str p.name), .data (.i p.latency), .data (.i p.tail), .data (.sl 3 (p.params.map Bd.cs)), .data (.sl 3 (p.states.map Bd.cs)), .data (.sl 4 (p.lines.map Ln.cs)), .data (.sl 2 (p.tables.map Tb.cs)), .data (.sl 8 (p.stmts.map Sm.cs)), .gs 1000002 2 (FF.map Sp.cs)]), (1000002, .tok 2 (FF.map Sp.cs).length)] := by
  refine lcall_of_wc tok hmix ⟨[], []⟩ Tryz.func30 rfl (by kernel_rfl) (by kernel_rfl) (by kernel_rfl) fun hf => ?_
  clear hf
  repeat' ((try (conv => whnf)) <;> first
    | with_reducible exact trivial
    | ((refine ⟨_, _, _, [(1000000, 2), (1000001, 1000000)], work1_pan (.data (.i 0)) e, rfl, ⟨rfl, rfl, trivial⟩, ?_, ?_⟩); kernel_rfl)
    | (refine ⟨([(1000000, 1000000), (1000001, 1000001), (1000002, 800002)] : List (Nat × Nat)), rfl, ?_, ?_⟩)
    | ((first | with_reducible refine lent_step [(1000000, 1000001), (1000001, 800002)] (statements_bad p FF _ e hR hT hn hl hw hS hF rfl) ?_ ?_ ?_ ?_ | with_reducible refine lent_step' [(1000000, 1000001), (1000001, 800002)] (statements_bad p FF _ e hR hT hn hl hw hS hF rfl) ?_ ?_ ?_ ?_ | fail); rotate_left 0; exact rfl; (first | exact trivial | exact ⟨rfl, trivial⟩ | exact ⟨rfl, rfl, trivial⟩ | exact ⟨rfl, rfl, rfl, trivial⟩ | exact ⟨rfl, rfl, rfl, rfl, trivial⟩ | exact ⟨rfl, rfl, rfl, rfl, rfl, trivial⟩ | exact ⟨rfl, rfl, rfl, rfl, rfl, rfl, trivial⟩); exact rfl)
    | (with_reducible refine And.intro ?_ ?_)
    | ((with_reducible refine ren_guard ?_); refine gs_ren ?_ ?_ ?_; exact rfl; exact rfl; (first | exact rfl | skip))
    | exact @rfl Block _
    | fail)
  all_goals first
    | skip
end Go.Proofs.YtjgponkgifopaaaGreatDoor
