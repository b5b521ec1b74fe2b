/- Contracts: package ranges: statements; work that may end with an error. -/
import Derived.Test.YtogfjinopifenaaDoorZXA
set_option linter.unusedSectionVars false
set_option linter.unusedSimpArgs false
set_option linter.unusedVariables false
set_option maxHeartbeats 2000000
namespace Go.Proofs.YtogfjinopifenaaDoor
open Go.Fw Go.Fw.Rg
set_option maxRecDepth 10000
variable [GlobInt]
theorem qI (p : Pr) (FF : List Sp) (R : Except Int (List Sp)) (hR : Rng p) (hT : ∀ t ∈ p.tables, t.values.length ≤ 1073741824) (hn : ∀ s ∈ p.stmts, Ref15.nodes s.x ≤ 1073741824) (hl : p.stmts.length ≤ 1073741824) (hw : iT p 0 p.stmts = true) (hS : stmtsM p p.stmts [] = R) (hF : dm p p.stmts [] = FF) (hRR : R = .ok FF) : LCall Tryd.prog 64 [.ptr 1000000 0] [(1000000, .cells [.data (.str p.name), .data (.i p.latency), .data (.i p.tail), .data (.sl 3 (p.params.map Bd.cs)), .data (.sl 3 (p.states.map Bd.cs)), .data (.sl 4 (p.lines.map Ln.cs)), .data (.sl 2 (p.tables.map Tb.cs)), .data (.sl 8 (p.stmts.map Sm.cs)), .nilsl 2])] (.ret (.data (.tuple []))) [(1000000, .cells [.data (.str p.name), .data (.i p.latency), .data (.i p.tail), .data (.sl 3 (p.params.map Bd.cs)), .data (.sl 3 (p.states.map Bd.cs)), .data (.sl 4 (p.lines.map Ln.cs)), .data (.sl 2 (p.tables.map Tb.cs)), .data (.sl 8 (p.stmts.map Sm.cs)), .gs 1000001 2 (FF.map Sp.cs)]), (1000001, .tok 2 (FF.map Sp.cs).length)] := by
 refine lcall_of_wc tok hmix ⟨[], []⟩ Tryd.func64 rfl (by kernel_rfl) (by kernel_rfl) (by kernel_rfl) fun hf => ?_
 have hlen : p.stmts.length ≤ 9223372036854775807 := by omega
 clear hf
 repeat' ((try (conv => whnf)) <;> first
  | (with_reducible exact (rJ (hRR.symm.trans (pG hI0 q1).1)).elim)
  | (with_reducible exact (rJ (hRR.symm.trans (dC hI0 q1 (eP (B := ((aH p x0.index).lo, (aH p x0.index).hi)) (IC ‹_›) h)).1)).elim)
  | (with_reducible exact (rJ (hRR.symm.trans (dC hI0 q1 (eP (B := ((aI p x0.index).lo, (aI p x0.index).hi)) (IE ‹_› ‹_›) h)).1)).elim)
  | (with_reducible exact (rJ (hRR.symm.trans (dC hI0 q1 (eP (B := (-2147483648, 2147483647)) (IG ‹_› ‹_› ‹_›) h)).1)).elim)
  | (with_reducible exact (rJ (hRR.symm.trans (dC hI0 q1 (eP (B := (-4611686018427387904, 4611686018427387904)) (II ‹_› ‹_› ‹_›) h)).1)).elim)
  | (with_reducible (have hq := (zy hI0).2); subst hq)
  | (with_reducible refine rG (kP x0.x p fs hR hI0.ins hT (hn _ (aY hd0)) (pF hI0)) (fun s1 q1 => ?_) (fun e1 q1 => ?_))
  | with_reducible exact trivial
  | with_reducible exact ak hd0 ‹_›
  | with_reducible refine aX hd0 ?_
  | with_reducible refine aP hd0 ?_
  | with_reducible refine BrI.intro (fun h => ?_) (fun h => ?_)
  | ((with_reducible refine qY ?_ ?_); exact rfl)
  | ((with_reducible refine lu ?_ ?_ ?_); exact rfl; exact rfl)
  | ((with_reducible refine fM Rg.Bd.none ?_ ?_ (ww hI0.wf h).1 (ww hI0.wf h).2 ?_); exact rfl; exact rfl)
  | ((with_reducible refine fM Rg.Ln.none ?_ ?_ (wz hI0.wf h).1 (wz hI0.wf h).2 ?_); exact rfl; exact rfl)
  | ((with_reducible refine LoopAt.mk 0 ?_); refine ⟨aF (p.stmts) 13 (fun (fs : (List Sp)) => []) (fun (fs : (List Sp)) => [(1000000, .cells [.data (.str p.name), .data (.i p.latency), .data (.i p.tail), .data (.sl 3 (p.params.map Bd.cs)), .data (.sl 3 (p.states.map Bd.cs)), .data (.sl 4 (p.lines.map Ln.cs)), .data (.sl 2 (p.tables.map Tb.cs)), .data (.sl 8 (p.stmts.map Sm.cs)), .gs 900007 2 (fs.map Sp.cs)]), (900007, .tok 2 (fs.map Sp.cs).length)]) [0, 11, 12] (fun i0 r0 fs => StI p R FF i0 r0 fs), ?_⟩; with_reducible refine ae ([]) ?_ ?_ (fun i0 (fs : (List Sp)) hd0 hI0 => ?_) (fun i0 x0 r0 (fs : (List Sp)) hd0 hl0 hI0 => ?_))
  | (with_reducible refine af hd0 (fs ++ [s1]) ?_ ?_)
  | ((with_reducible refine ag ?_); refine fin_step' [(1000000, 1000000), (1000001, 900007)] rfl ?_ ?_)
  | (with_reducible refine ChooseI.l _ ?_)
  | ((with_reducible refine bQ ?_ ?_ ?_ ?_ ?_ ?_) <;> exact rfl)
  | ((with_reducible refine dw ?_ ?_ ?_ ?_) <;> exact rfl)
  | ((with_reducible refine aB ?_ ?_ ?_ ?_ ?_); exact rfl; exact rfl; rotate_left; (with_reducible exact az hd0))
  | ((with_reducible refine aK ?_ ?_); exact rfl)
  | ((with_reducible refine app_step' ?_ ?_ ?_ ?_ ?_ ?_ ?_); exact rfl; exact rfl; exact rfl; exact rfl)
  | ((with_reducible refine au ?_ ?_); kernel_rfl)
  | (with_reducible refine And.intro ?_ ?_)
  | ((with_reducible refine kZ ?_ ?_ ?_); exact rfl; exact rfl; (first | exact dK | skip))
  | ((with_reducible refine jm ?_ ?_); exact rfl; (first | exact dK | skip))
  | ((with_reducible refine iD ?_); refine nY ?_ ?_ ?_; exact rfl; exact rfl; (first | exact rfl | skip))
  | exact @rfl AV _
  | exact gB rfl
  | fail)
 all_goals first
  | (decide)
  | ((exact rH hS hF hw))
  | ((with_reducible exact gK hR hI0 q1 (gJ (B := ((aH p x0.index).lo, (aH p x0.index).hi)) (IC ‹_›) h)))
  | ((with_reducible exact gK hR hI0 q1 (gJ (B := ((aI p x0.index).lo, (aI p x0.index).hi)) (IE ‹_› ‹_›) h)))
  | ((with_reducible exact gK hR hI0 q1 (gJ (B := (-2147483648, 2147483647)) (IG ‹_› ‹_› ‹_›) h)))
  | ((with_reducible exact gK hR hI0 q1 (gJ (B := (-4611686018427387904, 4611686018427387904)) (II ‹_› ‹_› ‹_›) h)))
  | ((rw [List.length_map, hI0.len]; have := iH hd0; omega))
  | skip
theorem nN (p : Pr) (FF : List Sp) (R : Except Int (List Sp)) (e : Int) (hR : Rng p) (hT : ∀ t ∈ p.tables, t.values.length ≤ 1073741824) (hn : ∀ s ∈ p.stmts, Ref15.nodes s.x ≤ 1073741824) (hl : p.stmts.length ≤ 1073741824) (hw : iT p 0 p.stmts = true) (hS : stmtsM p p.stmts [] = R) (hF : dm p p.stmts [] = FF) (hRR : R = .error e) : LCall Tryd.prog 64 [.ptr 1000000 0] [(1000000, .cells [.data (.str p.name), .data (.i p.latency), .data (.i p.tail), .data (.sl 3 (p.params.map Bd.cs)), .data (.sl 3 (p.states.map Bd.cs)), .data (.sl 4 (p.lines.map Ln.cs)), .data (.sl 2 (p.tables.map Tb.cs)), .data (.sl 8 (p.stmts.map Sm.cs)), .nilsl 2])] (.pan (.data (.iface 30 (.i e)))) [(1000000, .cells [.data (.str p.name), .data (.i p.latency), .data (.i p.tail), .data (.sl 3 (p.params.map Bd.cs)), .data (.sl 3 (p.states.map Bd.cs)), .data (.sl 4 (p.lines.map Ln.cs)), .data (.sl 2 (p.tables.map Tb.cs)), .data (.sl 8 (p.stmts.map Sm.cs)), .gs 1000001 2 (FF.map Sp.cs)]), (1000001, .tok 2 (FF.map Sp.cs).length)] := by
 refine lcall_of_wc tok hmix ⟨[], []⟩ Tryd.func64 rfl (by kernel_rfl) (by kernel_rfl) (by kernel_rfl) fun hf => ?_
 have hlen : p.stmts.length ≤ 9223372036854775807 := by omega
 clear hf
 repeat' ((try (conv => whnf)) <;> first
  | (with_reducible (have hq := zA (hRR.symm.trans (pG hI0 q1).1)); (have hq2 := (pG hI0 q1).2); subst hq; subst hq2)
  | (with_reducible (have hq := zA (hRR.symm.trans (dC hI0 q1 (eP (B := ((aH p x0.index).lo, (aH p x0.index).hi)) (IC ‹_›) h)).1)); (have hq2 := (dC hI0 q1 (eP (B := ((aH p x0.index).lo, (aH p x0.index).hi)) (IC ‹_›) h)).2); subst hq; subst hq2)
  | (with_reducible (have hq := zA (hRR.symm.trans (dC hI0 q1 (eP (B := ((aI p x0.index).lo, (aI p x0.index).hi)) (IE ‹_› ‹_›) h)).1)); (have hq2 := (dC hI0 q1 (eP (B := ((aI p x0.index).lo, (aI p x0.index).hi)) (IE ‹_› ‹_›) h)).2); subst hq; subst hq2)
  | (with_reducible (have hq := zA (hRR.symm.trans (dC hI0 q1 (eP (B := (-2147483648, 2147483647)) (IG ‹_› ‹_› ‹_›) h)).1)); (have hq2 := (dC hI0 q1 (eP (B := (-2147483648, 2147483647)) (IG ‹_› ‹_› ‹_›) h)).2); subst hq; subst hq2)
  | (with_reducible (have hq := zA (hRR.symm.trans (dC hI0 q1 (eP (B := (-4611686018427387904, 4611686018427387904)) (II ‹_› ‹_› ‹_›) h)).1)); (have hq2 := (dC hI0 q1 (eP (B := (-4611686018427387904, 4611686018427387904)) (II ‹_› ‹_› ‹_›) h)).2); subst hq; subst hq2)
  | (with_reducible exact (rJ ((zy hI0).1.symm.trans hRR)).elim)
  | (with_reducible refine rG (kP x0.x p fs hR hI0.ins hT (hn _ (aY hd0)) (pF hI0)) (fun s1 q1 => ?_) (fun e1 q1 => ?_))
  | with_reducible exact trivial
  | with_reducible exact ak hd0 ‹_›
  | with_reducible refine aP hd0 ?_
  | with_reducible refine BrI.intro (fun h => ?_) (fun h => ?_)
  | ((with_reducible refine qY ?_ ?_); exact rfl)
  | ((with_reducible refine lu ?_ ?_ ?_); exact rfl; exact rfl)
  | ((with_reducible refine fM Rg.Bd.none ?_ ?_ (ww hI0.wf h).1 (ww hI0.wf h).2 ?_); exact rfl; exact rfl)
  | ((with_reducible refine fM Rg.Ln.none ?_ ?_ (wz hI0.wf h).1 (wz hI0.wf h).2 ?_); exact rfl; exact rfl)
  | ((with_reducible refine LoopAt.mk 0 ?_); refine ⟨aF (p.stmts) 13 (fun (fs : (List Sp)) => []) (fun (fs : (List Sp)) => [(1000000, .cells [.data (.str p.name), .data (.i p.latency), .data (.i p.tail), .data (.sl 3 (p.params.map Bd.cs)), .data (.sl 3 (p.states.map Bd.cs)), .data (.sl 4 (p.lines.map Ln.cs)), .data (.sl 2 (p.tables.map Tb.cs)), .data (.sl 8 (p.stmts.map Sm.cs)), .gs 900007 2 (fs.map Sp.cs)]), (900007, .tok 2 (fs.map Sp.cs).length)]) [0, 11, 12] (fun i0 r0 fs => StI p R FF i0 r0 fs), ?_⟩; with_reducible refine ae ([]) ?_ ?_ (fun i0 (fs : (List Sp)) hd0 hI0 => ?_) (fun i0 x0 r0 (fs : (List Sp)) hd0 hl0 hI0 => ?_))
  | (with_reducible refine af hd0 (fs ++ [s1]) ?_ ?_)
  | ((with_reducible refine dN ?_); refine fin_step' [(1000000, 1000000), (1000001, 900007)] rfl ?_ ?_)
  | (with_reducible refine ChooseI.l _ ?_)
  | ((with_reducible refine bQ ?_ ?_ ?_ ?_ ?_ ?_) <;> exact rfl)
  | ((with_reducible refine dw ?_ ?_ ?_ ?_) <;> exact rfl)
  | ((with_reducible refine aB ?_ ?_ ?_ ?_ ?_); exact rfl; exact rfl; rotate_left; (with_reducible exact az hd0))
  | ((with_reducible refine aK ?_ ?_); exact rfl)
  | ((with_reducible refine app_step' ?_ ?_ ?_ ?_ ?_ ?_ ?_); exact rfl; exact rfl; exact rfl; exact rfl)
  | ((with_reducible refine au ?_ ?_); kernel_rfl)
  | (with_reducible refine And.intro ?_ ?_)
  | ((with_reducible refine kZ ?_ ?_ ?_); exact rfl; exact rfl; (first | exact dK | skip))
  | ((with_reducible refine jm ?_ ?_); exact rfl; (first | exact dK | skip))
  | ((with_reducible refine iD ?_); refine nY ?_ ?_ ?_; exact rfl; exact rfl; (first | exact rfl | skip))
  | exact @rfl AV _
  | exact gB rfl
  | fail)
 all_goals first
  | (decide)
  | ((exact rH hS hF hw))
  | ((with_reducible exact gK hR hI0 q1 (gJ (B := ((aH p x0.index).lo, (aH p x0.index).hi)) (IC ‹_›) h)))
  | ((with_reducible exact gK hR hI0 q1 (gJ (B := ((aI p x0.index).lo, (aI p x0.index).hi)) (IE ‹_› ‹_›) h)))
  | ((with_reducible exact gK hR hI0 q1 (gJ (B := (-2147483648, 2147483647)) (IG ‹_› ‹_› ‹_›) h)))
  | ((with_reducible exact gK hR hI0 q1 (gJ (B := (-4611686018427387904, 4611686018427387904)) (II ‹_› ‹_› ‹_›) h)))
  | ((rw [List.length_map, hI0.len]; have := iH hd0; omega))
  | skip
end Go.Proofs.YtogfjinopifenaaDoor
namespace Go.Proofs.YtogfjinopifenaaDoor
open Go.Fw Go.Fw.Rg
set_option maxRecDepth 10000
variable [GlobInt]
theorem tK (c : AV) (v : Int) : DCall Tryd.prog 69 [.ptr 1000000 0] (some (.iface 30 (.i v))) [(1000000, .cells [.ptr 1000001 0]), (1000001, .cells [c])]
  [(1000000, .cells [.ptr 1000001 0]), (1000001, .cells [.data (.i v)])] := by
 refine dcall_of_vc tok hmix Tryd.func69 rfl (by kernel_rfl) (by kernel_rfl) (by kernel_rfl) ?_
 repeat' ((try (conv => whnf)) <;> first
  | with_reducible exact trivial
  | (refine ⟨([] : List (Nat × Nat)), ?_⟩)
  | (refine ⟨by kernel_rfl, ?_⟩)
  | (refine ⟨rfl, ?_⟩)
  | (refine ⟨?_, ?_⟩)
  | fail)
theorem xB (d : D) : DCall Tryd.prog 69 [.ptr 1000000 0] none [(1000000, .cells [.ptr 1000001 0]), (1000001, .cells [.data d])]
  [(1000000, .cells [.ptr 1000001 0]), (1000001, .cells [.data d])] := by
 refine dcall_of_vc tok hmix Tryd.func69 rfl (by kernel_rfl) (by kernel_rfl) (by kernel_rfl) ?_
 repeat' ((try (conv => whnf)) <;> first
  | with_reducible exact trivial
  | (refine ⟨([] : List (Nat × Nat)), ?_⟩)
  | (refine ⟨by kernel_rfl, ?_⟩)
  | (refine ⟨rfl, ?_⟩)
  | (refine ⟨?_, ?_⟩)
  | fail)
theorem Hf (p : Pr) (FF : List Sp) (hR : Rng p) (hT : ∀ t ∈ p.tables, t.values.length ≤ 1073741824) (hn : ∀ s ∈ p.stmts, Ref15.nodes s.x ≤ 1073741824) (hl : p.stmts.length ≤ 1073741824) (hw : iT p 0 p.stmts = true) (hS : stmtsM p p.stmts [] = .ok FF) (hF : dm p p.stmts [] = FF) : LCall Tryd.prog 60 [.ptr 1000000 0, .bnd 64 [.ptr 1000001 0]] [(1000000, .cells [.data (.i 0)]), (1000001, .cells [.data (.str p.name), .data (.i p.latency), .data (.i p.tail), .data (.sl 3 (p.params.map Bd.cs)), .data (.sl 3 (p.states.map Bd.cs)), .data (.sl 4 (p.lines.map Ln.cs)), .data (.sl 2 (p.tables.map Tb.cs)), .data (.sl 8 (p.stmts.map Sm.cs)), .nilsl 2])] (.ret (.data (.tuple []))) [(1000000, .cells [.data (.i 0)]), (1000001, .cells [.data (.str p.name), .data (.i p.latency), .data (.i p.tail), .data (.sl 3 (p.params.map Bd.cs)), .data (.sl 3 (p.states.map Bd.cs)), .data (.sl 4 (p.lines.map Ln.cs)), .data (.sl 2 (p.tables.map Tb.cs)), .data (.sl 8 (p.stmts.map Sm.cs)), .gs 1000002 2 (FF.map Sp.cs)]), (1000002, .tok 2 (FF.map Sp.cs).length)] := by
 refine lcall_of_wc tok hmix ⟨[], []⟩ Tryd.func60 rfl (by kernel_rfl) (by kernel_rfl) (by kernel_rfl) fun hf => ?_
 clear hf
 repeat' ((try (conv => whnf)) <;> first
  | with_reducible exact trivial
  | ((refine ⟨_, _, _, [(1000000, 2), (1000001, 1000000)], xB (.i 0), rfl, ⟨rfl, rfl, trivial⟩, ?_, ?_⟩); kernel_rfl)
  | (refine ⟨([(1000000, 1000000), (1000001, 1000001), (1000002, 800002)] : List (Nat × Nat)), rfl, ?_, ?_⟩)
  | ((with_reducible refine lent_step' [(1000000, 1000001), (1000001, 800002)] (qI p FF _ hR hT hn hl hw hS hF rfl) ?_ ?_ ?_ ?_); rotate_left 0; exact rfl; (exact ⟨rfl, trivial⟩); exact rfl)
  | (with_reducible refine And.intro ?_ ?_)
  | ((with_reducible refine iD ?_); refine nY ?_ ?_ ?_; exact rfl; exact rfl; (first | exact rfl | skip))
  | fail)
 all_goals first
  | skip
theorem DX (p : Pr) (FF : List Sp) (e : Int) (hR : Rng p) (hT : ∀ t ∈ p.tables, t.values.length ≤ 1073741824) (hn : ∀ s ∈ p.stmts, Ref15.nodes s.x ≤ 1073741824) (hl : p.stmts.length ≤ 1073741824) (hw : iT p 0 p.stmts = true) (hS : stmtsM p p.stmts [] = .error e) (hF : dm p p.stmts [] = FF) : LCall Tryd.prog 60 [.ptr 1000000 0, .bnd 64 [.ptr 1000001 0]] [(1000000, .cells [.data (.i 0)]), (1000001, .cells [.data (.str p.name), .data (.i p.latency), .data (.i p.tail), .data (.sl 3 (p.params.map Bd.cs)), .data (.sl 3 (p.states.map Bd.cs)), .data (.sl 4 (p.lines.map Ln.cs)), .data (.sl 2 (p.tables.map Tb.cs)), .data (.sl 8 (p.stmts.map Sm.cs)), .nilsl 2])] (.ret (.data (.tuple []))) [(1000000, .cells [.data (.i e)]), (1000001, .cells [.data (.str p.name), .data (.i p.latency), .data (.i p.tail), .data (.sl 3 (p.params.map Bd.cs)), .data (.sl 3 (p.states.map Bd.cs)), .data (.sl 4 (p.lines.map Ln.cs)), .data (.sl 2 (p.tables.map Tb.cs)), .data (.sl 8 (p.stmts.map Sm.cs)), .gs 1000002 2 (FF.map Sp.cs)]), (1000002, .tok 2 (FF.map Sp.cs).length)] := by
 refine lcall_of_wc tok hmix ⟨[], []⟩ Tryd.func60 rfl (by kernel_rfl) (by kernel_rfl) (by kernel_rfl) fun hf => ?_
 clear hf
 repeat' ((try (conv => whnf)) <;> first
  | with_reducible exact trivial
  | ((refine ⟨_, _, _, [(1000000, 2), (1000001, 1000000)], tK (.data (.i 0)) e, rfl, ⟨rfl, rfl, trivial⟩, ?_, ?_⟩); kernel_rfl)
  | (refine ⟨([(1000000, 1000000), (1000001, 1000001), (1000002, 800002)] : List (Nat × Nat)), rfl, ?_, ?_⟩)
  | ((with_reducible refine lent_step' [(1000000, 1000001), (1000001, 800002)] (nN p FF _ e hR hT hn hl hw hS hF rfl) ?_ ?_ ?_ ?_); rotate_left 0; exact rfl; (exact ⟨rfl, trivial⟩); exact rfl)
  | (with_reducible refine And.intro ?_ ?_)
  | ((with_reducible refine iD ?_); refine nY ?_ ?_ ?_; exact rfl; exact rfl; (first | exact rfl | skip))
  | exact @rfl Block _
  | fail)
 all_goals first
  | skip
end Go.Proofs.YtogfjinopifenaaDoor
