/- Contracts: package names: declare, where it ends in an error. -/
import Derived.Test.YtogfjinopifenaaDoorZS3
set_option linter.unusedSectionVars false
set_option linter.unusedSimpArgs false
set_option linter.unusedVariables false
set_option maxHeartbeats 4000000
namespace Go.Proofs.YtogfjinopifenaaDoor
open Go.Fw Go.Fw.Nam Go.Fw.Ref15
set_option maxRecDepth 10000
variable [af]
theorem FO (p : Pr) (hp : p.Small) (hN : (p.name :: iR (decl p)).all nmOk = false) : aZ Tryd.prog 26 [.data p.d] [] (.pan (.data (.iface 30 (.i 150)))) [] := by
 refine aB tok hmix ⟨[], []⟩ Tryd.func26 rfl (by kernel_rfl) (by kernel_rfl) (by kernel_rfl) fun hf => ?_
 have hq := Pr.fits (uU.data (hf (.data p.d) (by simp)))
 have hlen1 := hq.params; have hlen2 := hq.states; have hlen3 := hq.lines; have hlen4 := hq.tables; have hlen5 := hq.stmts
 have ht1 := Jp hp; have ht2 := Jq hp; have ht3 := Jr hp; have ht4 := Js hp; have ht5 := BG hp
 have hld : (decl p).length ≤ 9223372036854775807 := by omega
 have hle : (p.name :: iR (decl p)).length ≤ 9223372036854775807 := by simp [iR]; omega
 clear hf
 repeat' ((try (conv => whnf)) <;> first
  | with_reducible exact trivial
  | with_reducible exact ax hd10 ‹_›
  | with_reducible exact ax hd8 ‹_›
  | with_reducible exact ax hd6 ‹_›
  | with_reducible exact ax hd4 ‹_›
  | with_reducible exact ax hd2 ‹_›
  | with_reducible exact ax hd0 ‹_›
  | with_reducible refine bQ hd8 ?_
  | with_reducible refine bQ hd6 ?_
  | with_reducible refine bQ hd4 ?_
  | with_reducible refine bQ hd2 ?_
  | with_reducible refine bQ hd0 ?_
  | with_reducible refine bi hd8 ?_
  | with_reducible refine bi hd6 ?_
  | with_reducible refine bi hd4 ?_
  | with_reducible refine bi hd2 ?_
  | with_reducible refine bi hd0 ?_
  | ((with_reducible refine iJ hd10 ?_ ?_); (exact rfl))
  | ((with_reducible refine fD hd10 ?_ ?_); (exact rfl))
  | with_reducible refine BrI.intro (fun h => ?_) (fun h => ?_)
  | with_reducible refine aS (fF _ _) (fun h => ?_) (fun h => ?_)
  | (exact ui (by have hk := xR (s := x10) (by simpa [tY] using hg); simp; omega))
  | (exact absurd hI10 (by decide))
  | ((with_reducible refine aI.mk 0 ?_); refine ⟨aP (p.params) 24 (fun (a0 : (List Pe)) => []) (fun (a0 : (List Pe)) => [(1, .cells (p.cs.map .data)), (3, .cells [.gs 700001 1 (a0.map nmC), .gs 700002 3 (a0.map enC)]), (700001, .tok 1 (a0.map nmC).length), (700002, .tok 3 (a0.map enC).length)]) [1, 3, 22, 23] (fun i0 r0 a0 => a0 ++ jr 3 (bounds r0) i0 = T1 p), ?_⟩; with_reducible refine ag ([]) ?_ ?_ (fun i0 (a0 : (List Pe)) hd0 hI0 => ?_) (fun i0 x0 r0 (a0 : (List Pe)) hd0 hl0 hI0 => ?_))
  | (with_reducible refine ah hd0 (a0 ++ [(x0.name, En.mk 3 i0 0)]) ?_ ?_)
  | ((with_reducible refine aI.mk 2 ?_); refine ⟨aP (p.states) 37 (fun (a2 : (List Pe)) => []) (fun (a2 : (List Pe)) => [(1, .cells (p.cs.map .data)), (3, .cells [.gs 700001 1 (a2.map nmC), .gs 700002 3 (a2.map enC)]), (700001, .tok 1 (a2.map nmC).length), (700002, .tok 3 (a2.map enC).length)]) [1, 3, 35, 36] (fun i2 r2 a2 => a2 ++ jr 4 (bounds r2) i2 = T2 p), ?_⟩; with_reducible refine ag (a0) ?_ ?_ (fun i2 (a2 : (List Pe)) hd2 hI2 => ?_) (fun i2 x2 r2 (a2 : (List Pe)) hd2 hl2 hI2 => ?_))
  | (with_reducible refine ah hd2 (a2 ++ [(x2.name, En.mk 4 i2 0)]) ?_ ?_)
  | ((with_reducible refine aI.mk 4 ?_); refine ⟨aP (p.lines) 50 (fun (a4 : (List Pe)) => []) (fun (a4 : (List Pe)) => [(1, .cells (p.cs.map .data)), (3, .cells [.gs 700001 1 (a4.map nmC), .gs 700002 3 (a4.map enC)]), (700001, .tok 1 (a4.map nmC).length), (700002, .tok 3 (a4.map enC).length)]) [1, 3, 48, 49] (fun i4 r4 a4 => a4 ++ jr 8 (r4.map (·.name)) i4 = T3 p), ?_⟩; with_reducible refine ag (a2) ?_ ?_ (fun i4 (a4 : (List Pe)) hd4 hI4 => ?_) (fun i4 x4 r4 (a4 : (List Pe)) hd4 hl4 hI4 => ?_))
  | (with_reducible refine ah hd4 (a4 ++ [(x4.name, En.mk 8 i4 0)]) ?_ ?_)
  | ((with_reducible refine aI.mk 6 ?_); refine ⟨aP (p.tables) 63 (fun (a6 : (List Pe)) => []) (fun (a6 : (List Pe)) => [(1, .cells (p.cs.map .data)), (3, .cells [.gs 700001 1 (a6.map nmC), .gs 700002 3 (a6.map enC)]), (700001, .tok 1 (a6.map nmC).length), (700002, .tok 3 (a6.map enC).length)]) [1, 3, 61, 62] (fun i6 r6 a6 => a6 ++ jr 9 (r6.map (·.name)) i6 = T4 p), ?_⟩; with_reducible refine ag (a4) ?_ ?_ (fun i6 (a6 : (List Pe)) hd6 hI6 => ?_) (fun i6 x6 r6 (a6 : (List Pe)) hd6 hl6 hI6 => ?_))
  | (with_reducible refine ah hd6 (a6 ++ [(x6.name, En.mk 9 i6 0)]) ?_ ?_)
  | ((with_reducible refine aI.mk 8 ?_); refine ⟨aP (p.stmts) 76 (fun (a8 : (List Pe)) => []) (fun (a8 : (List Pe)) => [(1, .cells (p.cs.map .data)), (3, .cells [.gs 700001 1 (a8.map nmC), .gs 700002 3 (a8.map enC)]), (700001, .tok 1 (a8.map nmC).length), (700002, .tok 3 (a8.map enC).length)]) [1, 3, 74, 75] (fun i8 r8 a8 => a8 ++ vT r8 i8 = decl p), ?_⟩; with_reducible refine ag (a6) ?_ ?_ (fun i8 (a8 : (List Pe)) hd8 hI8 => ?_) (fun i8 x8 r8 (a8 : (List Pe)) hd8 hl8 hI8 => ?_))
  | (with_reducible refine ah hd8 (?_) ?_ ?_)
  | ((with_reducible refine aI.mk 10 ?_); have he8 : a8 = decl p := (by simpa [vT] using hI8); subst he8; refine ⟨aP (p.name :: iR (decl p)) 98 (fun (_ : Unit) => [(96, .gs 93 1 ((p.name :: iR (decl p)).map z07)), (97, .data (.val (.int .i64 ((p.name :: iR (decl p)).length : Nat))))]) (fun (_ : Unit) => [(1, .cells (p.cs.map .data)), (3, .cells [.gs 700001 1 ((decl p).map nmC), .gs 700002 3 ((decl p).map enC)]), (700001, .tok 1 ((decl p).map nmC).length), (700002, .tok 3 ((decl p).map enC).length)]) [3] (fun i10 r10 _ => r10.all nmOk = false), ?_⟩; with_reducible refine ag () ?_ ?_ (fun i10 (_ : Unit) hd10 hI10 => ?_) (fun i10 x10 r10 (_ : Unit) hd10 hl10 hI10 => ?_))
  | (with_reducible refine ah hd10 () ?_ ?_)
  | ((with_reducible refine aj ?_ ?_ ?_); rotate_left; (first | exact uA _ | exact lF _))
  | ((with_reducible refine lent_step' [(1000000, 3), (1000001, 700001), (1000002, 700002)] (dR a0 x0.name 3 i0 0 (gW hI0 (by omega))) ?_ ?_ ?_ ?_); rotate_left 0; exact rfl; (exact ⟨rfl, rfl, rfl, trivial⟩); exact rfl)
  | ((with_reducible refine lent_step' [(1000000, 3), (1000001, 700001), (1000002, 700002)] (dR a2 x2.name 4 i2 0 (gW hI2 (by omega))) ?_ ?_ ?_ ?_); rotate_left 0; exact rfl; (exact ⟨rfl, rfl, rfl, trivial⟩); exact rfl)
  | ((with_reducible refine lent_step' [(1000000, 3), (1000001, 700001), (1000002, 700002)] (dR a4 x4.name 8 i4 0 (gW hI4 (by omega))) ?_ ?_ ?_ ?_); rotate_left 0; exact rfl; (exact ⟨rfl, rfl, rfl, trivial⟩); exact rfl)
  | ((with_reducible refine lent_step' [(1000000, 3), (1000001, 700001), (1000002, 700002)] (dR a6 x6.name 9 i6 0 (gW hI6 (by omega))) ?_ ?_ ?_ ?_); rotate_left 0; exact rfl; (exact ⟨rfl, rfl, rfl, trivial⟩); exact rfl)
  | ((with_reducible refine lent_step' [(1000000, 3), (1000001, 700001), (1000002, 700002)] (dR a8 x8.name 5 i8 (IntKind.i64.wrap ((i8 : Int) + 1)) (gW hI8 (by omega))) ?_ ?_ ?_ ?_); rotate_left 0; exact rfl; (exact ⟨rfl, rfl, rfl, trivial⟩); exact rfl)
  | ((with_reducible refine iK ?_); refine fin_step' [] rfl ?_ ?_)
  | (with_reducible refine bH.l _ ?_)
  | ((with_reducible refine eF ?_ ?_ ?_ ?_ ?_ ?_) <;> exact rfl)
  | ((with_reducible refine gp ?_ ?_ ?_ ?_) <;> exact rfl)
  | ((with_reducible refine aJ ?_ ?_ ?_ ?_ ?_); exact rfl; exact rfl; rotate_left; (first | with_reducible exact aG hd10 | with_reducible exact aG hd8 | with_reducible exact aG hd6 | with_reducible exact aG hd4 | with_reducible exact aG hd2 | with_reducible exact aG hd0))
  | ((with_reducible refine aW ?_ ?_); exact rfl)
  | ((with_reducible refine app_step' ?_ ?_ ?_ ?_ ?_ ?_ ?_); exact rfl; exact rfl; exact rfl; exact rfl)
  | ((with_reducible refine bF ?_ ?_ (fun hg => ?_) ?_); exact rfl)
  | ((with_reducible refine dE ?_ ?_); with_reducible exact rfl; with_reducible exact rfl)
  | ((with_reducible refine fB ?_ ?_); with_reducible exact rfl)
  | (with_reducible refine And.intro ?_ ?_)
  | ((with_reducible refine uX ?_ ?_ ?_); exact rfl; exact rfl; (first | exact rfl | skip))
  | exact @rfl AV _
  | exact @rfl (List AV) _
  | exact kN rfl)
 all_goals (try simp only [Bool.cond_true_left, Bool.cond_false_right, Bool.cond_false_left, Bool.cond_true_right, Bool.not_eq_true', Bool.not_eq_false', bne, Ex.css_len, List.length_map, Int.toNat_zero] at *)
 all_goals first
  | omega
  | ((simp only [List.all_cons] at hI10; have hk : nmOk x10 = true := (by simp only [nmOk]; first | exact h | (simp only [Bool.cond_false_right] at h; exact h)); rw [hk] at hI10; exact hI10))
  | (((try (conv => whnf)); exact congrArg (fun z : Nat => AV.data (D.val (Value.int IntKind.i64 (z : Int)))) (by show ([[D.str p.name]] ++ List.map nmC (decl p)).length = _; simp [iR])))
  | (rfl)
  | (((with_reducible refine Eq.symm ?_); (with_reducible refine Eq.symm ?_); rw [T2, ← hI0]; simp [bounds, jr]; done))
  | (((with_reducible refine Eq.symm ?_); (with_reducible refine Eq.symm ?_); rw [T3, ← hI2]; simp [bounds, jr, lines]; done))
  | (((with_reducible refine Eq.symm ?_); (with_reducible refine Eq.symm ?_); rw [T4, ← hI4]; simp [jr, tables]; done))
  | (((with_reducible refine Eq.symm ?_); (with_reducible refine Eq.symm ?_); rw [decl, ← hI6]; simp [jr]; done))
  | ((have hz := gW hI8 ht5; (try simp only [List.length_map]); omega))
  | ((show [[D.str p.name]] ++ List.map nmC (decl p) = _; simp [iR]; done))
  | (((with_reducible refine Eq.symm ?_); (with_reducible refine Eq.symm ?_); rw [← hI6]; simp only [jr, bounds, List.map_cons, List.append_assoc, List.cons_append, List.nil_append]; done))
  | (((with_reducible refine Eq.symm ?_); (with_reducible refine Eq.symm ?_); rw [← hI4]; simp only [jr, bounds, List.map_cons, List.append_assoc, List.cons_append, List.nil_append]; done))
  | (((with_reducible refine Eq.symm ?_); (with_reducible refine Eq.symm ?_); rw [← hI2]; simp only [jr, bounds, List.map_cons, List.append_assoc, List.cons_append, List.nil_append]; done))
  | (((with_reducible refine Eq.symm ?_); (with_reducible refine Eq.symm ?_); rw [← hI0]; simp only [jr, bounds, List.map_cons, List.append_assoc, List.cons_append, List.nil_append]; done))
  | (((with_reducible refine Eq.symm ?_); (with_reducible refine Eq.symm ?_); rw [← hI8]; simp only [vT, h, Bool.false_eq_true, if_false]; done))
  | (((with_reducible refine Eq.symm ?_); (with_reducible refine Eq.symm ?_); rw [show IntKind.i64.wrap ((i8 : Int) + 1) = (i8 : Int) + 1 from bC (by omega) (by omega), ← hI8]; simp only [vT, h, if_true, List.append_assoc, List.cons_append, List.nil_append]; done))
  | skip
theorem FP (p : Pr) (hp : p.Small) (hN : (p.name :: iR (decl p)).all nmOk = true) (hU : ¬ uniq (decl p)) : aZ Tryd.prog 26 [.data p.d] [] (.pan (.data (.iface 30 (.i 151)))) [] := by
 refine aB tok hmix ⟨[], []⟩ Tryd.func26 rfl (by kernel_rfl) (by kernel_rfl) (by kernel_rfl) fun hf => ?_
 have hq := Pr.fits (uU.data (hf (.data p.d) (by simp)))
 have hlen1 := hq.params; have hlen2 := hq.states; have hlen3 := hq.lines; have hlen4 := hq.tables; have hlen5 := hq.stmts
 have ht1 := Jp hp; have ht2 := Jq hp; have ht3 := Jr hp; have ht4 := Js hp; have ht5 := BG hp
 have hld : (decl p).length ≤ 9223372036854775807 := by omega
 have hle : (p.name :: iR (decl p)).length ≤ 9223372036854775807 := by simp [iR]; omega
 clear hf
 repeat' ((try (conv => whnf)) <;> first
  | with_reducible exact trivial
  | with_reducible exact ax hd12 ‹_›
  | with_reducible exact ax hd10 ‹_›
  | with_reducible exact ax hd8 ‹_›
  | with_reducible exact ax hd6 ‹_›
  | with_reducible exact ax hd4 ‹_›
  | with_reducible exact ax hd2 ‹_›
  | with_reducible exact ax hd0 ‹_›
  | with_reducible refine bQ hd12 ?_
  | with_reducible refine bQ hd8 ?_
  | with_reducible refine bQ hd6 ?_
  | with_reducible refine bQ hd4 ?_
  | with_reducible refine bQ hd2 ?_
  | with_reducible refine bQ hd0 ?_
  | with_reducible refine bi hd12 ?_
  | with_reducible refine bi hd8 ?_
  | with_reducible refine bi hd6 ?_
  | with_reducible refine bi hd4 ?_
  | with_reducible refine bi hd2 ?_
  | with_reducible refine bi hd0 ?_
  | ((with_reducible refine iJ hd10 ?_ ?_); (exact rfl))
  | ((with_reducible refine fD hd10 ?_ ?_); (exact rfl))
  | with_reducible refine BrI.intro (fun h => ?_) (fun h => ?_)
  | with_reducible refine aS (fF _ _) (fun h => ?_) (fun h => ?_)
  | (exact ui (by have hk := xR (s := x10) (by simpa [tY] using hg); simp; omega))
  | (exact absurd (by have hz := hI12.1; simp only [List.append_nil] at hz; exact hz ▸ hI12.2) hU)
  | (refine Pm (fun e hm => ?_) (fun hm => ?_))
  | ((with_reducible refine aI.mk 0 ?_); refine ⟨aP (p.params) 24 (fun (a0 : (List Pe)) => []) (fun (a0 : (List Pe)) => [(1, .cells (p.cs.map .data)), (3, .cells [.gs 700001 1 (a0.map nmC), .gs 700002 3 (a0.map enC)]), (700001, .tok 1 (a0.map nmC).length), (700002, .tok 3 (a0.map enC).length)]) [1, 3, 22, 23] (fun i0 r0 a0 => a0 ++ jr 3 (bounds r0) i0 = T1 p), ?_⟩; with_reducible refine ag ([]) ?_ ?_ (fun i0 (a0 : (List Pe)) hd0 hI0 => ?_) (fun i0 x0 r0 (a0 : (List Pe)) hd0 hl0 hI0 => ?_))
  | (with_reducible refine ah hd0 (a0 ++ [(x0.name, En.mk 3 i0 0)]) ?_ ?_)
  | ((with_reducible refine aI.mk 2 ?_); refine ⟨aP (p.states) 37 (fun (a2 : (List Pe)) => []) (fun (a2 : (List Pe)) => [(1, .cells (p.cs.map .data)), (3, .cells [.gs 700001 1 (a2.map nmC), .gs 700002 3 (a2.map enC)]), (700001, .tok 1 (a2.map nmC).length), (700002, .tok 3 (a2.map enC).length)]) [1, 3, 35, 36] (fun i2 r2 a2 => a2 ++ jr 4 (bounds r2) i2 = T2 p), ?_⟩; with_reducible refine ag (a0) ?_ ?_ (fun i2 (a2 : (List Pe)) hd2 hI2 => ?_) (fun i2 x2 r2 (a2 : (List Pe)) hd2 hl2 hI2 => ?_))
  | (with_reducible refine ah hd2 (a2 ++ [(x2.name, En.mk 4 i2 0)]) ?_ ?_)
  | ((with_reducible refine aI.mk 4 ?_); refine ⟨aP (p.lines) 50 (fun (a4 : (List Pe)) => []) (fun (a4 : (List Pe)) => [(1, .cells (p.cs.map .data)), (3, .cells [.gs 700001 1 (a4.map nmC), .gs 700002 3 (a4.map enC)]), (700001, .tok 1 (a4.map nmC).length), (700002, .tok 3 (a4.map enC).length)]) [1, 3, 48, 49] (fun i4 r4 a4 => a4 ++ jr 8 (r4.map (·.name)) i4 = T3 p), ?_⟩; with_reducible refine ag (a2) ?_ ?_ (fun i4 (a4 : (List Pe)) hd4 hI4 => ?_) (fun i4 x4 r4 (a4 : (List Pe)) hd4 hl4 hI4 => ?_))
  | (with_reducible refine ah hd4 (a4 ++ [(x4.name, En.mk 8 i4 0)]) ?_ ?_)
  | ((with_reducible refine aI.mk 6 ?_); refine ⟨aP (p.tables) 63 (fun (a6 : (List Pe)) => []) (fun (a6 : (List Pe)) => [(1, .cells (p.cs.map .data)), (3, .cells [.gs 700001 1 (a6.map nmC), .gs 700002 3 (a6.map enC)]), (700001, .tok 1 (a6.map nmC).length), (700002, .tok 3 (a6.map enC).length)]) [1, 3, 61, 62] (fun i6 r6 a6 => a6 ++ jr 9 (r6.map (·.name)) i6 = T4 p), ?_⟩; with_reducible refine ag (a4) ?_ ?_ (fun i6 (a6 : (List Pe)) hd6 hI6 => ?_) (fun i6 x6 r6 (a6 : (List Pe)) hd6 hl6 hI6 => ?_))
  | (with_reducible refine ah hd6 (a6 ++ [(x6.name, En.mk 9 i6 0)]) ?_ ?_)
  | ((with_reducible refine aI.mk 8 ?_); refine ⟨aP (p.stmts) 76 (fun (a8 : (List Pe)) => []) (fun (a8 : (List Pe)) => [(1, .cells (p.cs.map .data)), (3, .cells [.gs 700001 1 (a8.map nmC), .gs 700002 3 (a8.map enC)]), (700001, .tok 1 (a8.map nmC).length), (700002, .tok 3 (a8.map enC).length)]) [1, 3, 74, 75] (fun i8 r8 a8 => a8 ++ vT r8 i8 = decl p), ?_⟩; with_reducible refine ag (a6) ?_ ?_ (fun i8 (a8 : (List Pe)) hd8 hI8 => ?_) (fun i8 x8 r8 (a8 : (List Pe)) hd8 hl8 hI8 => ?_))
  | (with_reducible refine ah hd8 (?_) ?_ ?_)
  | ((with_reducible refine aI.mk 10 ?_); have he8 : a8 = decl p := (by simpa [vT] using hI8); subst he8; refine ⟨aP (p.name :: iR (decl p)) 98 (fun (_ : Unit) => [(96, .gs 93 1 ((p.name :: iR (decl p)).map z07)), (97, .data (.val (.int .i64 ((p.name :: iR (decl p)).length : Nat))))]) (fun (_ : Unit) => [(1, .cells (p.cs.map .data)), (3, .cells [.gs 700001 1 ((decl p).map nmC), .gs 700002 3 ((decl p).map enC)]), (700001, .tok 1 ((decl p).map nmC).length), (700002, .tok 3 ((decl p).map enC).length)]) [3] (fun i10 r10 _ => r10.all nmOk = true), ?_⟩; with_reducible refine ag () ?_ ?_ (fun i10 (_ : Unit) hd10 hI10 => ?_) (fun i10 x10 r10 (_ : Unit) hd10 hl10 hI10 => ?_))
  | (with_reducible refine ah hd10 () ?_ ?_)
  | ((with_reducible refine aI.mk 12 ?_); refine ⟨aP (decl p) 117 (fun (d : (List Pe)) => []) (fun (d : (List Pe)) => [(1, .cells (p.cs.map .data)), (3, .cells [.gs 700001 1 ((decl p).map nmC), .gs 700002 3 ((decl p).map enC)]), (700001, .tok 1 ((decl p).map nmC).length), (700002, .tok 3 ((decl p).map enC).length), (113, .map false [.str] (mkM d))]) [3, 16, 115, 116] (fun i12 r12 d => d ++ r12 = decl p ∧ uniq d), ?_⟩; with_reducible refine ag ([]) ?_ ?_ (fun i12 (d : (List Pe)) hd12 hI12 => ?_) (fun i12 x12 r12 (d : (List Pe)) hd12 hl12 hI12 => ?_))
  | (with_reducible refine ah hd12 (d ++ [x12]) ?_ ?_)
  | ((with_reducible refine aj ?_ ?_ ?_); rotate_left; (first | exact uA _ | exact lF _))
  | ((with_reducible refine lent_step' [(1000000, 3), (1000001, 700001), (1000002, 700002)] (dR a0 x0.name 3 i0 0 (gW hI0 (by omega))) ?_ ?_ ?_ ?_); rotate_left 0; exact rfl; (exact ⟨rfl, rfl, rfl, trivial⟩); exact rfl)
  | ((with_reducible refine lent_step' [(1000000, 3), (1000001, 700001), (1000002, 700002)] (dR a2 x2.name 4 i2 0 (gW hI2 (by omega))) ?_ ?_ ?_ ?_); rotate_left 0; exact rfl; (exact ⟨rfl, rfl, rfl, trivial⟩); exact rfl)
  | ((with_reducible refine lent_step' [(1000000, 3), (1000001, 700001), (1000002, 700002)] (dR a4 x4.name 8 i4 0 (gW hI4 (by omega))) ?_ ?_ ?_ ?_); rotate_left 0; exact rfl; (exact ⟨rfl, rfl, rfl, trivial⟩); exact rfl)
  | ((with_reducible refine lent_step' [(1000000, 3), (1000001, 700001), (1000002, 700002)] (dR a6 x6.name 9 i6 0 (gW hI6 (by omega))) ?_ ?_ ?_ ?_); rotate_left 0; exact rfl; (exact ⟨rfl, rfl, rfl, trivial⟩); exact rfl)
  | ((with_reducible refine lent_step' [(1000000, 3), (1000001, 700001), (1000002, 700002)] (dR a8 x8.name 5 i8 (IntKind.i64.wrap ((i8 : Int) + 1)) (gW hI8 (by omega))) ?_ ?_ ?_ ?_); rotate_left 0; exact rfl; (exact ⟨rfl, rfl, rfl, trivial⟩); exact rfl)
  | ((with_reducible refine iK ?_); refine fin_step' [] rfl ?_ ?_)
  | (with_reducible refine bH.l _ ?_)
  | ((with_reducible refine eF ?_ ?_ ?_ ?_ ?_ ?_) <;> exact rfl)
  | ((with_reducible refine gp ?_ ?_ ?_ ?_) <;> exact rfl)
  | ((with_reducible refine aJ ?_ ?_ ?_ ?_ ?_); exact rfl; exact rfl; rotate_left; (first | with_reducible exact aG hd12 | with_reducible exact aG hd10 | with_reducible exact aG hd8 | with_reducible exact aG hd6 | with_reducible exact aG hd4 | with_reducible exact aG hd2 | with_reducible exact aG hd0))
  | ((with_reducible refine aW ?_ ?_); exact rfl)
  | ((with_reducible refine app_step' ?_ ?_ ?_ ?_ ?_ ?_ ?_); exact rfl; exact rfl; exact rfl; exact rfl)
  | ((with_reducible refine bF ?_ ?_ (fun hg => ?_) ?_); exact rfl)
  | ((with_reducible refine dE ?_ ?_); with_reducible exact rfl; with_reducible exact rfl)
  | ((with_reducible refine fB ?_ ?_); with_reducible exact rfl)
  | (with_reducible refine And.intro ?_ ?_)
  | ((with_reducible refine uX ?_ ?_ ?_); exact rfl; exact rfl; (first | exact rfl | skip))
  | exact @rfl AV _
  | exact @rfl Block _
  | exact @rfl (List AV) _
  | exact kN rfl)
 all_goals (try simp only [Bool.cond_true_left, Bool.cond_false_right, Bool.cond_false_left, Bool.cond_true_right, Bool.not_eq_true', Bool.not_eq_false', bne, Ex.css_len, List.length_map, Int.toNat_zero] at *)
 all_goals first
  | omega
  | ((exact absurd h (by decide)))
  | ((exfalso; simp only [List.all_cons, Bool.and_eq_true] at hI10; have hk := hI10.1; simp only [nmOk] at hk; (try simp only [Bool.cond_false_right] at h); rw [hk] at h; exact absurd h (by decide)))
  | (((try (conv => whnf)); exact congrArg (Block.map false [KS.str]) (Ey hm)))
  | (((try (conv => whnf)); exact congrArg (fun z : Nat => AV.data (D.val (Value.int IntKind.i64 (z : Int)))) (by show ([[D.str p.name]] ++ List.map nmC (decl p)).length = _; simp [iR])))
  | (rfl)
  | ((exact Pn hI12.2 hm))
  | ((exact List.nodup_nil))
  | (((with_reducible refine Eq.symm ?_); (with_reducible refine Eq.symm ?_); rw [T2, ← hI0]; simp [bounds, jr]; done))
  | (((with_reducible refine Eq.symm ?_); (with_reducible refine Eq.symm ?_); rw [T3, ← hI2]; simp [bounds, jr, lines]; done))
  | (((with_reducible refine Eq.symm ?_); (with_reducible refine Eq.symm ?_); rw [T4, ← hI4]; simp [jr, tables]; done))
  | (((with_reducible refine Eq.symm ?_); (with_reducible refine Eq.symm ?_); rw [decl, ← hI6]; simp [jr]; done))
  | ((have hz := gW hI8 ht5; (try simp only [List.length_map]); omega))
  | ((show [[D.str p.name]] ++ List.map nmC (decl p) = _; simp [iR]; done))
  | (((with_reducible refine Eq.symm ?_); (with_reducible refine Eq.symm ?_); rw [← hI12.1]; simp; done))
  | ((simp only [List.all_cons, Bool.and_eq_true] at hI10; exact hI10.2))
  | (((with_reducible refine Eq.symm ?_); (with_reducible refine Eq.symm ?_); rw [← hI6]; simp only [jr, bounds, List.map_cons, List.append_assoc, List.cons_append, List.nil_append]; done))
  | (((with_reducible refine Eq.symm ?_); (with_reducible refine Eq.symm ?_); rw [← hI4]; simp only [jr, bounds, List.map_cons, List.append_assoc, List.cons_append, List.nil_append]; done))
  | (((with_reducible refine Eq.symm ?_); (with_reducible refine Eq.symm ?_); rw [← hI2]; simp only [jr, bounds, List.map_cons, List.append_assoc, List.cons_append, List.nil_append]; done))
  | (((with_reducible refine Eq.symm ?_); (with_reducible refine Eq.symm ?_); rw [← hI0]; simp only [jr, bounds, List.map_cons, List.append_assoc, List.cons_append, List.nil_append]; done))
  | (((with_reducible refine Eq.symm ?_); (with_reducible refine Eq.symm ?_); rw [← hI8]; simp only [vT, h, Bool.false_eq_true, if_false]; done))
  | (((with_reducible refine Eq.symm ?_); (with_reducible refine Eq.symm ?_); rw [show IntKind.i64.wrap ((i8 : Int) + 1) = (i8 : Int) + 1 from bC (by omega) (by omega), ← hI8]; simp only [vT, h, if_true, List.append_assoc, List.cons_append, List.nil_append]; done))
  | skip
end Go.Proofs.YtogfjinopifenaaDoor
namespace Go.Proofs.YtogfjinopifenaaDoor
open Go.Fw Go.Fw.Nam Go.Fw.Ref15
set_option maxRecDepth 10000
variable [af]
theorem FQ (ls : List (List Bd)) (hs : lens ls ≤ 1073741824) (hn : ls.length ≤ 1073741824) : aZ Tryd.prog 52 [.gs 1000001 1 (ls.map Zg)] [(1000001, .tok 1 (ls.map Zg).length)] (.ret (.gs 1000000 3 (ls.flatten.map Bd.cs))) [(1000000, .tok 3 (ls.flatten.map Bd.cs).length), (1000001, .tok 1 (ls.map Zg).length)] := by
 refine aB tok hmix ⟨[], []⟩ Tryd.func52 rfl (by kernel_rfl) (by kernel_rfl) (by kernel_rfl) fun hf => ?_
 have hlen : ls.length ≤ 9223372036854775807 := by omega
 clear hf
 repeat' ((try (conv => whnf)) <;> first
  | with_reducible exact trivial
  | with_reducible exact ax hd2 ‹_›
  | with_reducible exact ax hd0 ‹_›
  | with_reducible refine bQ hd2 ?_
  | with_reducible refine bQ hd0 ?_
  | with_reducible refine bi hd2 ?_
  | with_reducible refine bi hd0 ?_
  | with_reducible refine BrI.intro (fun h => ?_) (fun h => ?_)
  | ((with_reducible refine aI.mk 0 ?_); refine ⟨aP (ls) 11 (fun (n : (Nat)) => [(3, .data (.val (.int .i64 (n : Int))))]) (fun (n : (Nat)) => [(1000001, .tok 1 (ls.map Zg).length)]) [0, 9, 10] (fun i0 r0 n => lens ls = n + lens r0), ?_⟩; with_reducible refine ag (0) ?_ ?_ (fun i0 (n : (Nat)) hd0 hI0 => ?_) (fun i0 x0 r0 (n : (Nat)) hd0 hl0 hI0 => ?_))
  | (with_reducible refine ah hd0 (n + x0.length) ?_ ?_)
  | ((with_reducible refine aI.mk 2 ?_); refine ⟨aP (ls) 27 (fun (out : (List Bd)) => [(6, .gs 800000 3 (out.map Bd.cs))]) (fun (out : (List Bd)) => [(1000001, .tok 1 (ls.map Zg).length), (800000, .tok 3 (out.map Bd.cs).length)]) [25, 26] (fun i2 r2 out => ls.flatten = out ++ r2.flatten), ?_⟩; with_reducible refine ag [] ?_ ?_ (fun i2 (out : (List Bd)) hd2 hI2 => ?_) (fun i2 x2 r2 (out : (List Bd)) hd2 hl2 hI2 => ?_))
  | (with_reducible refine ah hd2 ?_ ?_ ?_)
  | ((with_reducible refine iI [(1000000, 800000)] (Nc n (by rw [TA] at hI0; omega)) ?_ ?_ ?_ ?_); rotate_left 0; exact rfl; (exact trivial); exact rfl)
  | ((with_reducible refine ai ?_); refine fin_step' [(1000000, 800000), (1000001, 1000001)] rfl ?_ ?_)
  | ((with_reducible refine aJ ?_ ?_ ?_ ?_ ?_); exact rfl; exact rfl; rotate_left; (first | with_reducible exact aG hd2 | with_reducible exact aG hd0))
  | ((with_reducible refine app_step' ?_ ?_ ?_ ?_ ?_ ?_ ?_); exact rfl; exact rfl; exact rfl; exact rfl)
  | (with_reducible refine And.intro ?_ ?_)
  | ((with_reducible refine uX ?_ ?_ ?_); exact rfl; exact rfl; (first | with_reducible exact Ph | exact rfl | skip))
  | ((with_reducible refine pg ?_ ?_); exact rfl; (first | with_reducible exact Ph | skip))
  | ((with_reducible refine lM ?_); refine zZ ?_ ?_ ?_; exact rfl; exact rfl; (first | skip))
  | exact @rfl AV _
  | exact @rfl Block _)
 all_goals (try simp only [Bool.cond_true_left, Bool.cond_false_right, Bool.cond_false_left, Bool.cond_true_right, Bool.not_eq_true', Bool.not_eq_false', bne, Ex.css_len, List.length_map, Int.toNat_zero] at *)
 all_goals first
  | omega
  | ((rw [lens_cons] at hI0; omega))
  | ((have hq := congrArg List.length hI2; simp only [Pq, List.length_append, lens_cons, List.length_map] at hq ⊢; omega))
  | ((rw [hI2]; simp; done))
  | ((exfalso; rw [lens_cons] at hI0; rw [BD (b := x0.length) (by omega), decide_eq_true_eq] at h; omega))
  | ((rw [lens_cons] at hI0; (try (conv => whnf)); exact congrArg (fun z => AV.data (D.val (Value.int IntKind.i64 z))) (BD (b := x0.length) (by omega))))
  | (rfl)
  | skip
theorem uP (p : Pr) (hp : p.Small) : PCall Tryd.prog 27 [p.d] (jX 30 (Nam.ranged p) 161) := by
 refine ae tok hmix ⟨[], []⟩ Tryd.func27 rfl (by kernel_rfl) (by kernel_rfl) (by kernel_rfl) fun hf => ?_
 have hq := Pr.fits (hf p.d (by simp))
 have hs1 := hp.params; have hs2 := hp.states; have hs3 := hp.lines; have hlb := TB hp
 have hlen3 := hq.lines; have hlen4 := hq.tables; have hlen5 := hq.stmts
 have hlen2 : (allB p).length ≤ 9223372036854775807 := by omega
 clear hf
 repeat' ((try (conv => whnf)) <;> first
  | with_reducible exact trivial
  | with_reducible exact ax hd6 ‹_›
  | with_reducible exact ax hd4 ‹_›
  | with_reducible exact ax hd2 ‹_›
  | with_reducible exact ax hd0 ‹_›
  | with_reducible refine bQ hd6 ?_
  | with_reducible refine bQ hd4 ?_
  | with_reducible refine bQ hd0 ?_
  | with_reducible refine bi hd6 ?_
  | with_reducible refine bi hd4 ?_
  | with_reducible refine bi hd0 ?_
  | ((with_reducible refine iJ hd2 ?_ ?_); (exact rfl))
  | ((with_reducible refine fD hd2 ?_ ?_); (exact rfl))
  | with_reducible refine aS (fF _ _) (fun h => ?_) (fun h => ?_)
  | with_reducible refine aS (Na _) (fun h => ?_) (fun h => ?_)
  | ((with_reducible refine aI.mk 0 ?_); refine ⟨aP (p.lines) 20 (fun (out : (List Bd)) => [(2, .gs 800000 3 (out.map Bd.cs))]) (fun (out : (List Bd)) => [(1, .cells (p.cs.map .data)), (800000, .tok 3 (out.map Bd.cs).length)]) [1, 18, 19] (fun i0 r0 out => allB p = out ++ r0.map lnB), ?_⟩; with_reducible refine ag ([p.params, p.states].flatten) ?_ ?_ (fun i0 (out : (List Bd)) hd0 hI0 => ?_) (fun i0 x0 r0 (out : (List Bd)) hd0 hl0 hI0 => ?_))
  | (with_reducible refine ah hd0 (out ++ [lnB x0]) ?_ ?_)
  | ((with_reducible refine aI.mk 2 ?_); have hob : out = allB p := (by simpa using hI0.symm); subst hob; refine ⟨aP (allB p) 35 (fun (_ : Unit) => [(33, .gs 800000 3 ((allB p).map Bd.cs)), (34, .data (.val (.int .i64 ((allB p).length : Nat))))]) (fun (_ : Unit) => [(1, .cells (p.cs.map .data))]) [1] (fun i2 r2 _ => Nam.ranged p = (r2.all bd1 && (p.tables.all tb2 && p.stmts.all sm2))), ?_⟩; with_reducible refine ag () ?_ ?_ (fun i2 (_ : Unit) hd2 hI2 => ?_) (fun i2 x2 r2 (_ : Unit) hd2 hl2 hI2 => ?_))
  | (with_reducible refine ah hd2 () ?_ ?_)
  | ((with_reducible refine aI.mk 4 ?_); refine ⟨aP (p.tables) 59 (fun (_ : Unit) => []) (fun (_ : Unit) => [(1, .cells (p.cs.map .data))]) [1, 57, 58] (fun i4 r4 _ => Nam.ranged p = (r4.all tb2 && p.stmts.all sm2)), ?_⟩; with_reducible refine ag () ?_ ?_ (fun i4 (_ : Unit) hd4 hI4 => ?_) (fun i4 x4 r4 (_ : Unit) hd4 hl4 hI4 => ?_))
  | (with_reducible refine ah hd4 () ?_ ?_)
  | ((with_reducible refine aI.mk 6 ?_); refine ⟨aP (p.stmts) 72 (fun (_ : Unit) => []) (fun (_ : Unit) => [(1, .cells (p.cs.map .data))]) [70, 71] (fun i6 r6 _ => Nam.ranged p = r6.all sm2), ?_⟩; with_reducible refine ag () ?_ ?_ (fun i6 (_ : Unit) hd6 hI6 => ?_) (fun i6 x6 r6 (_ : Unit) hd6 hl6 hI6 => ?_))
  | (with_reducible refine ah hd6 () ?_ ?_)
  | ((with_reducible refine aj ?_ ?_ ?_); rotate_left; (first | exact yJ _ | exact uZ _))
  | ((with_reducible refine iI [(1000000, 800000), (1000001, 15)] (FQ [p.params, p.states] (by simp [lens]; omega) (by simp)) ?_ ?_ ?_ ?_); rotate_left 0; exact rfl; (exact ⟨rfl, trivial⟩); exact rfl)
  | (with_reducible refine bH.l _ ?_)
  | ((with_reducible refine aJ ?_ ?_ ?_ ?_ ?_); exact rfl; exact rfl; rotate_left; (first | with_reducible exact aG hd6 | with_reducible exact aG hd4 | with_reducible exact aG hd2 | with_reducible exact aG hd0))
  | ((with_reducible refine aW ?_ ?_); exact rfl)
  | ((with_reducible refine app_step' ?_ ?_ ?_ ?_ ?_ ?_ ?_); exact rfl; exact rfl; exact rfl; exact rfl)
  | ((with_reducible refine bF ?_ ?_ (fun hg => ?_) ?_); exact rfl)
  | ((with_reducible refine dE ?_ ?_); with_reducible exact rfl; with_reducible exact rfl)
  | ((with_reducible refine fB ?_ ?_); with_reducible exact rfl)
  | ((with_reducible refine kP ?_ ?_); rotate_left; refine ⟨[], rfl, ?_, trivial⟩; conv => whnf)
  | ((with_reducible refine kQ ?_ ?_); rotate_left; refine ⟨[], rfl, ?_, trivial⟩; conv => whnf)
  | (with_reducible refine And.intro ?_ ?_)
  | ((with_reducible refine uX ?_ ?_ ?_); exact rfl; exact rfl; (first | exact rfl | skip))
  | ((with_reducible refine pg ?_ ?_); exact rfl; (first | skip))
  | exact @rfl AV _
  | exact @rfl (List AV) _
  | exact kN rfl)
 all_goals (try simp only [Bool.cond_true_left, Bool.cond_false_right, Bool.cond_false_left, Bool.cond_true_right, Bool.not_eq_true', Bool.not_eq_false', bne, Ex.css_len, List.length_map, Int.toNat_zero] at *)
 all_goals first
  | ((have hz := congrArg List.length hI0; (try simp only [List.length_map, List.length_append, List.length_cons] at hz ⊢); omega))
  | (rfl)
  | ((refine Eq.trans ?_ iH; rfl))
  | ((rw [hI0]; simp; done))
  | ((rw [hI6]; simp only [List.all_cons, List.all_nil, bd1, tb2, sm2, h, Bool.true_and, Bool.false_and, Bool.not_false, Bool.not_true]; done))
  | ((rw [hI4]; simp only [List.all_cons, List.all_nil, bd1, tb2, sm2, h, Bool.true_and, Bool.false_and, Bool.not_false, Bool.not_true]; done))
  | ((rw [hI2]; simp only [List.all_cons, List.all_nil, bd1, tb2, sm2, h, Bool.true_and, Bool.false_and, Bool.not_false, Bool.not_true]; done))
  | ((rw [hI6]; simp only [List.all_cons, List.all_nil, Bool.true_and, Bool.false_and]; done))
  | ((rw [hI4]; simp only [List.all_cons, List.all_nil, Bool.true_and, Bool.false_and]; done))
  | ((rw [hI2]; simp only [List.all_cons, List.all_nil, Bool.true_and, Bool.false_and]; done))
  | skip
end Go.Proofs.YtogfjinopifenaaDoor
