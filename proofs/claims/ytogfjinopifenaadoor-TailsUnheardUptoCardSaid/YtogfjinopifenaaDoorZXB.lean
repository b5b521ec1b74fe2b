/- Contracts: package ranges: statements; work that may end with an error. -/
import Derived.Test.YtogfjinopifenaaDoorZXA
set_option linter.unusedSectionVars false
set_option linter.unusedSimpArgs false
set_option linter.unusedVariables false
set_option maxHeartbeats 2000000
namespace Go.Proofs.YtogfjinopifenaaDoor
open Go.Fw Go.Fw.Rg
set_option maxRecDepth 10000
variable [af]
theorem CX (p : Pr) (FF : List Sp) (R : Except Int (List Sp)) (hR : Rng p) (hT : ∀ t ∈ p.tables, t.values.length ≤ 1073741824) (hn : ∀ s ∈ p.stmts, Ref15.nodes s.x ≤ 1073741824) (hl : p.stmts.length ≤ 1073741824) (hw : mX p 0 p.stmts = true) (hS : stmtsM p p.stmts [] = R) (hF : gm p p.stmts [] = FF) (hRR : R = .ok FF) : aZ Tryd.prog 64 [.ptr 1000000 0] [(1000000, .cells [.data (.str p.name), .data (.i p.latency), .data (.i p.tail), .data (.sl 3 (p.params.map Bd.cs)), .data (.sl 3 (p.states.map Bd.cs)), .data (.sl 4 (p.lines.map Ln.cs)), .data (.sl 2 (p.tables.map Tb.cs)), .data (.sl 8 (p.stmts.map Sm.cs)), .nilsl 2])] (.ret (.data (.tuple []))) [(1000000, .cells [.data (.str p.name), .data (.i p.latency), .data (.i p.tail), .data (.sl 3 (p.params.map Bd.cs)), .data (.sl 3 (p.states.map Bd.cs)), .data (.sl 4 (p.lines.map Ln.cs)), .data (.sl 2 (p.tables.map Tb.cs)), .data (.sl 8 (p.stmts.map Sm.cs)), .gs 1000001 2 (FF.map Sp.cs)]), (1000001, .tok 2 (FF.map Sp.cs).length)] := by
 refine aB tok hmix ⟨[], []⟩ Tryd.func64 rfl (by kernel_rfl) (by kernel_rfl) (by kernel_rfl) fun hf => ?_
 have hlen : p.stmts.length ≤ 9223372036854775807 := by omega
 clear hf
 repeat' ((try (conv => whnf)) <;> first
  | (with_reducible exact (EK (hRR.symm.trans (BM hI0 q1).1)).elim)
  | (with_reducible exact (EK (hRR.symm.trans (gz hI0 q1 (jo (B := ((aT p x0.index).lo, (aT p x0.index).hi)) (Zm ‹_›) h)).1)).elim)
  | (with_reducible exact (EK (hRR.symm.trans (gz hI0 q1 (jo (B := ((aU p x0.index).lo, (aU p x0.index).hi)) (Zn ‹_› ‹_›) h)).1)).elim)
  | (with_reducible exact (EK (hRR.symm.trans (gz hI0 q1 (jo (B := (-2147483648, 2147483647)) (Zo ‹_› ‹_› ‹_›) h)).1)).elim)
  | (with_reducible exact (EK (hRR.symm.trans (gz hI0 q1 (jo (B := (-4611686018427387904, 4611686018427387904)) (Zp ‹_› ‹_› ‹_›) h)).1)).elim)
  | (with_reducible (have hq := (PR hI0).2); subst hq)
  | (with_reducible refine EI (uy x0.x p fs hR hI0.ins hT (hn _ (bV hd0)) (BL hI0)) (fun s1 q1 => ?_) (fun e1 q1 => ?_))
  | with_reducible exact trivial
  | with_reducible exact ax hd0 ‹_›
  | with_reducible refine bQ hd0 ?_
  | with_reducible refine bi hd0 ?_
  | with_reducible refine BrI.intro (fun h => ?_) (fun h => ?_)
  | ((with_reducible refine Ew ?_ ?_); exact rfl)
  | ((with_reducible refine vO ?_ ?_ ?_); exact rfl; exact rfl)
  | ((with_reducible refine jY Rg.Bd.none ?_ ?_ (JD hI0.wf h).1 (JD hI0.wf h).2 ?_); exact rfl; exact rfl)
  | ((with_reducible refine jY Rg.Ln.none ?_ ?_ (JE hI0.wf h).1 (JE hI0.wf h).2 ?_); exact rfl; exact rfl)
  | ((with_reducible refine aI.mk 0 ?_); refine ⟨aP (p.stmts) 13 (fun (fs : (List Sp)) => []) (fun (fs : (List Sp)) => [(1000000, .cells [.data (.str p.name), .data (.i p.latency), .data (.i p.tail), .data (.sl 3 (p.params.map Bd.cs)), .data (.sl 3 (p.states.map Bd.cs)), .data (.sl 4 (p.lines.map Ln.cs)), .data (.sl 2 (p.tables.map Tb.cs)), .data (.sl 8 (p.stmts.map Sm.cs)), .gs 900007 2 (fs.map Sp.cs)]), (900007, .tok 2 (fs.map Sp.cs).length)]) [0, 11, 12] (fun i0 r0 fs => StI p R FF i0 r0 fs), ?_⟩; with_reducible refine ag ([]) ?_ ?_ (fun i0 (fs : (List Sp)) hd0 hI0 => ?_) (fun i0 x0 r0 (fs : (List Sp)) hd0 hl0 hI0 => ?_))
  | (with_reducible refine ah hd0 (fs ++ [s1]) ?_ ?_)
  | ((with_reducible refine ai ?_); refine fin_step' [(1000000, 1000000), (1000001, 900007)] rfl ?_ ?_)
  | (with_reducible refine bH.l _ ?_)
  | ((with_reducible refine eF ?_ ?_ ?_ ?_ ?_ ?_) <;> exact rfl)
  | ((with_reducible refine gp ?_ ?_ ?_ ?_) <;> exact rfl)
  | ((with_reducible refine aJ ?_ ?_ ?_ ?_ ?_); exact rfl; exact rfl; rotate_left; (with_reducible exact aG hd0))
  | ((with_reducible refine aW ?_ ?_); exact rfl)
  | ((with_reducible refine app_step' ?_ ?_ ?_ ?_ ?_ ?_ ?_); exact rfl; exact rfl; exact rfl; exact rfl)
  | ((with_reducible refine aA ?_ ?_); kernel_rfl)
  | (with_reducible refine And.intro ?_ ?_)
  | ((with_reducible refine uX ?_ ?_ ?_); exact rfl; exact rfl; (first | exact iH | skip))
  | ((with_reducible refine pg ?_ ?_); exact rfl; (first | exact iH | skip))
  | ((with_reducible refine lM ?_); refine zZ ?_ ?_ ?_; exact rfl; exact rfl; (first | exact rfl | skip))
  | exact @rfl AV _
  | exact kN rfl
  | fail)
 all_goals first
  | (decide)
  | ((exact EJ hS hF hw))
  | ((with_reducible exact kS hR hI0 q1 (kR (B := ((aT p x0.index).lo, (aT p x0.index).hi)) (Zm ‹_›) h)))
  | ((with_reducible exact kS hR hI0 q1 (kR (B := ((aU p x0.index).lo, (aU p x0.index).hi)) (Zn ‹_› ‹_›) h)))
  | ((with_reducible exact kS hR hI0 q1 (kR (B := (-2147483648, 2147483647)) (Zo ‹_› ‹_› ‹_›) h)))
  | ((with_reducible exact kS hR hI0 q1 (kR (B := (-4611686018427387904, 4611686018427387904)) (Zp ‹_› ‹_› ‹_›) h)))
  | ((rw [List.length_map, hI0.len]; have := mg hd0; omega))
  | skip
theorem zf (p : Pr) (FF : List Sp) (R : Except Int (List Sp)) (e : Int) (hR : Rng p) (hT : ∀ t ∈ p.tables, t.values.length ≤ 1073741824) (hn : ∀ s ∈ p.stmts, Ref15.nodes s.x ≤ 1073741824) (hl : p.stmts.length ≤ 1073741824) (hw : mX p 0 p.stmts = true) (hS : stmtsM p p.stmts [] = R) (hF : gm p p.stmts [] = FF) (hRR : R = .error e) : aZ Tryd.prog 64 [.ptr 1000000 0] [(1000000, .cells [.data (.str p.name), .data (.i p.latency), .data (.i p.tail), .data (.sl 3 (p.params.map Bd.cs)), .data (.sl 3 (p.states.map Bd.cs)), .data (.sl 4 (p.lines.map Ln.cs)), .data (.sl 2 (p.tables.map Tb.cs)), .data (.sl 8 (p.stmts.map Sm.cs)), .nilsl 2])] (.pan (.data (.iface 30 (.i e)))) [(1000000, .cells [.data (.str p.name), .data (.i p.latency), .data (.i p.tail), .data (.sl 3 (p.params.map Bd.cs)), .data (.sl 3 (p.states.map Bd.cs)), .data (.sl 4 (p.lines.map Ln.cs)), .data (.sl 2 (p.tables.map Tb.cs)), .data (.sl 8 (p.stmts.map Sm.cs)), .gs 1000001 2 (FF.map Sp.cs)]), (1000001, .tok 2 (FF.map Sp.cs).length)] := by
 refine aB tok hmix ⟨[], []⟩ Tryd.func64 rfl (by kernel_rfl) (by kernel_rfl) (by kernel_rfl) fun hf => ?_
 have hlen : p.stmts.length ≤ 9223372036854775807 := by omega
 clear hf
 repeat' ((try (conv => whnf)) <;> first
  | (with_reducible (have hq := PS (hRR.symm.trans (BM hI0 q1).1)); (have hq2 := (BM hI0 q1).2); subst hq; subst hq2)
  | (with_reducible (have hq := PS (hRR.symm.trans (gz hI0 q1 (jo (B := ((aT p x0.index).lo, (aT p x0.index).hi)) (Zm ‹_›) h)).1)); (have hq2 := (gz hI0 q1 (jo (B := ((aT p x0.index).lo, (aT p x0.index).hi)) (Zm ‹_›) h)).2); subst hq; subst hq2)
  | (with_reducible (have hq := PS (hRR.symm.trans (gz hI0 q1 (jo (B := ((aU p x0.index).lo, (aU p x0.index).hi)) (Zn ‹_› ‹_›) h)).1)); (have hq2 := (gz hI0 q1 (jo (B := ((aU p x0.index).lo, (aU p x0.index).hi)) (Zn ‹_› ‹_›) h)).2); subst hq; subst hq2)
  | (with_reducible (have hq := PS (hRR.symm.trans (gz hI0 q1 (jo (B := (-2147483648, 2147483647)) (Zo ‹_› ‹_› ‹_›) h)).1)); (have hq2 := (gz hI0 q1 (jo (B := (-2147483648, 2147483647)) (Zo ‹_› ‹_› ‹_›) h)).2); subst hq; subst hq2)
  | (with_reducible (have hq := PS (hRR.symm.trans (gz hI0 q1 (jo (B := (-4611686018427387904, 4611686018427387904)) (Zp ‹_› ‹_› ‹_›) h)).1)); (have hq2 := (gz hI0 q1 (jo (B := (-4611686018427387904, 4611686018427387904)) (Zp ‹_› ‹_› ‹_›) h)).2); subst hq; subst hq2)
  | (with_reducible exact (EK ((PR hI0).1.symm.trans hRR)).elim)
  | (with_reducible refine EI (uy x0.x p fs hR hI0.ins hT (hn _ (bV hd0)) (BL hI0)) (fun s1 q1 => ?_) (fun e1 q1 => ?_))
  | with_reducible exact trivial
  | with_reducible exact ax hd0 ‹_›
  | with_reducible refine bi hd0 ?_
  | with_reducible refine BrI.intro (fun h => ?_) (fun h => ?_)
  | ((with_reducible refine Ew ?_ ?_); exact rfl)
  | ((with_reducible refine vO ?_ ?_ ?_); exact rfl; exact rfl)
  | ((with_reducible refine jY Rg.Bd.none ?_ ?_ (JD hI0.wf h).1 (JD hI0.wf h).2 ?_); exact rfl; exact rfl)
  | ((with_reducible refine jY Rg.Ln.none ?_ ?_ (JE hI0.wf h).1 (JE hI0.wf h).2 ?_); exact rfl; exact rfl)
  | ((with_reducible refine aI.mk 0 ?_); refine ⟨aP (p.stmts) 13 (fun (fs : (List Sp)) => []) (fun (fs : (List Sp)) => [(1000000, .cells [.data (.str p.name), .data (.i p.latency), .data (.i p.tail), .data (.sl 3 (p.params.map Bd.cs)), .data (.sl 3 (p.states.map Bd.cs)), .data (.sl 4 (p.lines.map Ln.cs)), .data (.sl 2 (p.tables.map Tb.cs)), .data (.sl 8 (p.stmts.map Sm.cs)), .gs 900007 2 (fs.map Sp.cs)]), (900007, .tok 2 (fs.map Sp.cs).length)]) [0, 11, 12] (fun i0 r0 fs => StI p R FF i0 r0 fs), ?_⟩; with_reducible refine ag ([]) ?_ ?_ (fun i0 (fs : (List Sp)) hd0 hI0 => ?_) (fun i0 x0 r0 (fs : (List Sp)) hd0 hl0 hI0 => ?_))
  | (with_reducible refine ah hd0 (fs ++ [s1]) ?_ ?_)
  | ((with_reducible refine iK ?_); refine fin_step' [(1000000, 1000000), (1000001, 900007)] rfl ?_ ?_)
  | (with_reducible refine bH.l _ ?_)
  | ((with_reducible refine eF ?_ ?_ ?_ ?_ ?_ ?_) <;> exact rfl)
  | ((with_reducible refine gp ?_ ?_ ?_ ?_) <;> exact rfl)
  | ((with_reducible refine aJ ?_ ?_ ?_ ?_ ?_); exact rfl; exact rfl; rotate_left; (with_reducible exact aG hd0))
  | ((with_reducible refine aW ?_ ?_); exact rfl)
  | ((with_reducible refine app_step' ?_ ?_ ?_ ?_ ?_ ?_ ?_); exact rfl; exact rfl; exact rfl; exact rfl)
  | ((with_reducible refine aA ?_ ?_); kernel_rfl)
  | (with_reducible refine And.intro ?_ ?_)
  | ((with_reducible refine uX ?_ ?_ ?_); exact rfl; exact rfl; (first | exact iH | skip))
  | ((with_reducible refine pg ?_ ?_); exact rfl; (first | exact iH | skip))
  | ((with_reducible refine lM ?_); refine zZ ?_ ?_ ?_; exact rfl; exact rfl; (first | exact rfl | skip))
  | exact @rfl AV _
  | exact kN rfl
  | fail)
 all_goals first
  | (decide)
  | ((exact EJ hS hF hw))
  | ((with_reducible exact kS hR hI0 q1 (kR (B := ((aT p x0.index).lo, (aT p x0.index).hi)) (Zm ‹_›) h)))
  | ((with_reducible exact kS hR hI0 q1 (kR (B := ((aU p x0.index).lo, (aU p x0.index).hi)) (Zn ‹_› ‹_›) h)))
  | ((with_reducible exact kS hR hI0 q1 (kR (B := (-2147483648, 2147483647)) (Zo ‹_› ‹_› ‹_›) h)))
  | ((with_reducible exact kS hR hI0 q1 (kR (B := (-4611686018427387904, 4611686018427387904)) (Zp ‹_› ‹_› ‹_›) h)))
  | ((rw [List.length_map, hI0.len]; have := mg hd0; omega))
  | skip
end Go.Proofs.YtogfjinopifenaaDoor
namespace Go.Proofs.YtogfjinopifenaaDoor
open Go.Fw Go.Fw.Rg
set_option maxRecDepth 10000
variable [af]
theorem FH (c : AV) (v : Int) : qY Tryd.prog 69 [.ptr 1000000 0] (some (.iface 30 (.i v))) [(1000000, .cells [.ptr 1000001 0]), (1000001, .cells [c])]
  [(1000000, .cells [.ptr 1000001 0]), (1000001, .cells [.data (.i v)])] := by
 refine gJ tok hmix Tryd.func69 rfl (by kernel_rfl) (by kernel_rfl) (by kernel_rfl) ?_
 repeat' ((try (conv => whnf)) <;> first
  | with_reducible exact trivial
  | (refine ⟨([] : List (Nat × Nat)), ?_⟩)
  | (refine ⟨by kernel_rfl, ?_⟩)
  | (refine ⟨rfl, ?_⟩)
  | (refine ⟨?_, ?_⟩)
  | fail)
theorem Kw (d : D) : qY Tryd.prog 69 [.ptr 1000000 0] none [(1000000, .cells [.ptr 1000001 0]), (1000001, .cells [.data d])]
  [(1000000, .cells [.ptr 1000001 0]), (1000001, .cells [.data d])] := by
 refine gJ tok hmix Tryd.func69 rfl (by kernel_rfl) (by kernel_rfl) (by kernel_rfl) ?_
 repeat' ((try (conv => whnf)) <;> first
  | with_reducible exact trivial
  | (refine ⟨([] : List (Nat × Nat)), ?_⟩)
  | (refine ⟨by kernel_rfl, ?_⟩)
  | (refine ⟨rfl, ?_⟩)
  | (refine ⟨?_, ?_⟩)
  | fail)
theorem X9 (p : Pr) (FF : List Sp) (hR : Rng p) (hT : ∀ t ∈ p.tables, t.values.length ≤ 1073741824) (hn : ∀ s ∈ p.stmts, Ref15.nodes s.x ≤ 1073741824) (hl : p.stmts.length ≤ 1073741824) (hw : mX p 0 p.stmts = true) (hS : stmtsM p p.stmts [] = .ok FF) (hF : gm p p.stmts [] = FF) : aZ Tryd.prog 60 [.ptr 1000000 0, .bnd 64 [.ptr 1000001 0]] [(1000000, .cells [.data (.i 0)]), (1000001, .cells [.data (.str p.name), .data (.i p.latency), .data (.i p.tail), .data (.sl 3 (p.params.map Bd.cs)), .data (.sl 3 (p.states.map Bd.cs)), .data (.sl 4 (p.lines.map Ln.cs)), .data (.sl 2 (p.tables.map Tb.cs)), .data (.sl 8 (p.stmts.map Sm.cs)), .nilsl 2])] (.ret (.data (.tuple []))) [(1000000, .cells [.data (.i 0)]), (1000001, .cells [.data (.str p.name), .data (.i p.latency), .data (.i p.tail), .data (.sl 3 (p.params.map Bd.cs)), .data (.sl 3 (p.states.map Bd.cs)), .data (.sl 4 (p.lines.map Ln.cs)), .data (.sl 2 (p.tables.map Tb.cs)), .data (.sl 8 (p.stmts.map Sm.cs)), .gs 1000002 2 (FF.map Sp.cs)]), (1000002, .tok 2 (FF.map Sp.cs).length)] := by
 refine aB tok hmix ⟨[], []⟩ Tryd.func60 rfl (by kernel_rfl) (by kernel_rfl) (by kernel_rfl) fun hf => ?_
 clear hf
 repeat' ((try (conv => whnf)) <;> first
  | with_reducible exact trivial
  | ((refine ⟨_, _, _, [(1000000, 2), (1000001, 1000000)], Kw (.i 0), rfl, ⟨rfl, rfl, trivial⟩, ?_, ?_⟩); kernel_rfl)
  | (refine ⟨([(1000000, 1000000), (1000001, 1000001), (1000002, 800002)] : List (Nat × Nat)), rfl, ?_, ?_⟩)
  | ((with_reducible refine lent_step' [(1000000, 1000001), (1000001, 800002)] (CX p FF _ hR hT hn hl hw hS hF rfl) ?_ ?_ ?_ ?_); rotate_left 0; exact rfl; (exact ⟨rfl, trivial⟩); exact rfl)
  | (with_reducible refine And.intro ?_ ?_)
  | ((with_reducible refine lM ?_); refine zZ ?_ ?_ ?_; exact rfl; exact rfl; (first | exact rfl | skip))
  | fail)
 all_goals first
  | skip
theorem UH (p : Pr) (FF : List Sp) (e : Int) (hR : Rng p) (hT : ∀ t ∈ p.tables, t.values.length ≤ 1073741824) (hn : ∀ s ∈ p.stmts, Ref15.nodes s.x ≤ 1073741824) (hl : p.stmts.length ≤ 1073741824) (hw : mX p 0 p.stmts = true) (hS : stmtsM p p.stmts [] = .error e) (hF : gm p p.stmts [] = FF) : aZ Tryd.prog 60 [.ptr 1000000 0, .bnd 64 [.ptr 1000001 0]] [(1000000, .cells [.data (.i 0)]), (1000001, .cells [.data (.str p.name), .data (.i p.latency), .data (.i p.tail), .data (.sl 3 (p.params.map Bd.cs)), .data (.sl 3 (p.states.map Bd.cs)), .data (.sl 4 (p.lines.map Ln.cs)), .data (.sl 2 (p.tables.map Tb.cs)), .data (.sl 8 (p.stmts.map Sm.cs)), .nilsl 2])] (.ret (.data (.tuple []))) [(1000000, .cells [.data (.i e)]), (1000001, .cells [.data (.str p.name), .data (.i p.latency), .data (.i p.tail), .data (.sl 3 (p.params.map Bd.cs)), .data (.sl 3 (p.states.map Bd.cs)), .data (.sl 4 (p.lines.map Ln.cs)), .data (.sl 2 (p.tables.map Tb.cs)), .data (.sl 8 (p.stmts.map Sm.cs)), .gs 1000002 2 (FF.map Sp.cs)]), (1000002, .tok 2 (FF.map Sp.cs).length)] := by
 refine aB tok hmix ⟨[], []⟩ Tryd.func60 rfl (by kernel_rfl) (by kernel_rfl) (by kernel_rfl) fun hf => ?_
 clear hf
 repeat' ((try (conv => whnf)) <;> first
  | with_reducible exact trivial
  | ((refine ⟨_, _, _, [(1000000, 2), (1000001, 1000000)], FH (.data (.i 0)) e, rfl, ⟨rfl, rfl, trivial⟩, ?_, ?_⟩); kernel_rfl)
  | (refine ⟨([(1000000, 1000000), (1000001, 1000001), (1000002, 800002)] : List (Nat × Nat)), rfl, ?_, ?_⟩)
  | ((with_reducible refine lent_step' [(1000000, 1000001), (1000001, 800002)] (zf p FF _ e hR hT hn hl hw hS hF rfl) ?_ ?_ ?_ ?_); rotate_left 0; exact rfl; (exact ⟨rfl, trivial⟩); exact rfl)
  | (with_reducible refine And.intro ?_ ?_)
  | ((with_reducible refine lM ?_); refine zZ ?_ ?_ ?_; exact rfl; exact rfl; (first | exact rfl | skip))
  | exact @rfl Block _
  | fail)
 all_goals first
  | skip
end Go.Proofs.YtogfjinopifenaaDoor
