/- Contracts: package names: declare. -/
import Derived.Test.YtogfjinopifenaaDoorZSA
set_option linter.unusedSectionVars false
set_option linter.unusedSimpArgs false
set_option linter.unusedVariables false
set_option maxHeartbeats 4000000
namespace Go.Proofs.YtogfjinopifenaaDoor
open Go.Fw Go.Fw.Nam Go.Fw.Ref15
set_option maxRecDepth 10000
variable [af]
theorem lF (s : Str) : PCall Tryd.prog 51 [.str Jt, .str ([32] ++ s ++ [32])] (.ret (.b (Lib.contains Jt ([32] ++ s ++ [32])))) := C9 _ _ (by decide)
theorem Az (p : Pr) (hp : p.Small) (hN : (p.name :: iR (decl p)).all nmOk = true) (hU : uniq (decl p)) : aZ Tryd.prog 26 [.data p.d] [] (.ret (.map 1000000)) [(1000000, .map false [.str] (mkM (decl p)))] := by
 refine aB tok hmix ⟨[], []⟩ Tryd.func26 rfl (by kernel_rfl) (by kernel_rfl) (by kernel_rfl) fun hf => ?_
 have hq := Pr.fits (uU.data (hf (.data p.d) (by simp)))
 have hlen1 := hq.params; have hlen2 := hq.states; have hlen3 := hq.lines; have hlen4 := hq.tables; have hlen5 := hq.stmts
 have ht1 := Jp hp; have ht2 := Jq hp; have ht3 := Jr hp; have ht4 := Js hp; have ht5 := BG hp
 have hld : (decl p).length ≤ 9223372036854775807 := by omega
 have hle : (p.name :: iR (decl p)).length ≤ 9223372036854775807 := by simp [iR]; omega
 clear hf
 repeat' ((try (conv => whnf)) <;> first
  | with_reducible exact trivial
  | with_reducible exact ax hd12 ‹_›
  | with_reducible exact ax hd10 ‹_›
  | with_reducible exact ax hd8 ‹_›
  | with_reducible exact ax hd6 ‹_›
  | with_reducible exact ax hd4 ‹_›
  | with_reducible exact ax hd2 ‹_›
  | with_reducible exact ax hd0 ‹_›
  | with_reducible refine bQ hd12 ?_
  | with_reducible refine bQ hd8 ?_
  | with_reducible refine bQ hd6 ?_
  | with_reducible refine bQ hd4 ?_
  | with_reducible refine bQ hd2 ?_
  | with_reducible refine bQ hd0 ?_
  | with_reducible refine bi hd12 ?_
  | with_reducible refine bi hd8 ?_
  | with_reducible refine bi hd6 ?_
  | with_reducible refine bi hd4 ?_
  | with_reducible refine bi hd2 ?_
  | with_reducible refine bi hd0 ?_
  | ((with_reducible refine iJ hd10 ?_ ?_); (exact rfl))
  | ((with_reducible refine fD hd10 ?_ ?_); (exact rfl))
  | with_reducible refine BrI.intro (fun h => ?_) (fun h => ?_)
  | with_reducible refine aS (fF _ _) (fun h => ?_) (fun h => ?_)
  | (exact ui (by have hk := xR (s := x10) (by simpa [tY] using hg); simp; omega))
  | (refine opt_none (xU (Po hU hI12)) ?_)
  | ((with_reducible refine aI.mk 0 ?_); refine ⟨aP (p.params) 24 (fun (a0 : (List Pe)) => []) (fun (a0 : (List Pe)) => [(1, .cells (p.cs.map .data)), (3, .cells [.gs 700001 1 (a0.map nmC), .gs 700002 3 (a0.map enC)]), (700001, .tok 1 (a0.map nmC).length), (700002, .tok 3 (a0.map enC).length)]) [1, 3, 22, 23] (fun i0 r0 a0 => a0 ++ jr 3 (bounds r0) i0 = T1 p), ?_⟩; with_reducible refine ag ([]) ?_ ?_ (fun i0 (a0 : (List Pe)) hd0 hI0 => ?_) (fun i0 x0 r0 (a0 : (List Pe)) hd0 hl0 hI0 => ?_))
  | (with_reducible refine ah hd0 (a0 ++ [(x0.name, En.mk 3 i0 0)]) ?_ ?_)
  | ((with_reducible refine aI.mk 2 ?_); refine ⟨aP (p.states) 37 (fun (a2 : (List Pe)) => []) (fun (a2 : (List Pe)) => [(1, .cells (p.cs.map .data)), (3, .cells [.gs 700001 1 (a2.map nmC), .gs 700002 3 (a2.map enC)]), (700001, .tok 1 (a2.map nmC).length), (700002, .tok 3 (a2.map enC).length)]) [1, 3, 35, 36] (fun i2 r2 a2 => a2 ++ jr 4 (bounds r2) i2 = T2 p), ?_⟩; with_reducible refine ag (a0) ?_ ?_ (fun i2 (a2 : (List Pe)) hd2 hI2 => ?_) (fun i2 x2 r2 (a2 : (List Pe)) hd2 hl2 hI2 => ?_))
  | (with_reducible refine ah hd2 (a2 ++ [(x2.name, En.mk 4 i2 0)]) ?_ ?_)
  | ((with_reducible refine aI.mk 4 ?_); refine ⟨aP (p.lines) 50 (fun (a4 : (List Pe)) => []) (fun (a4 : (List Pe)) => [(1, .cells (p.cs.map .data)), (3, .cells [.gs 700001 1 (a4.map nmC), .gs 700002 3 (a4.map enC)]), (700001, .tok 1 (a4.map nmC).length), (700002, .tok 3 (a4.map enC).length)]) [1, 3, 48, 49] (fun i4 r4 a4 => a4 ++ jr 8 (r4.map (·.name)) i4 = T3 p), ?_⟩; with_reducible refine ag (a2) ?_ ?_ (fun i4 (a4 : (List Pe)) hd4 hI4 => ?_) (fun i4 x4 r4 (a4 : (List Pe)) hd4 hl4 hI4 => ?_))
  | (with_reducible refine ah hd4 (a4 ++ [(x4.name, En.mk 8 i4 0)]) ?_ ?_)
  | ((with_reducible refine aI.mk 6 ?_); refine ⟨aP (p.tables) 63 (fun (a6 : (List Pe)) => []) (fun (a6 : (List Pe)) => [(1, .cells (p.cs.map .data)), (3, .cells [.gs 700001 1 (a6.map nmC), .gs 700002 3 (a6.map enC)]), (700001, .tok 1 (a6.map nmC).length), (700002, .tok 3 (a6.map enC).length)]) [1, 3, 61, 62] (fun i6 r6 a6 => a6 ++ jr 9 (r6.map (·.name)) i6 = T4 p), ?_⟩; with_reducible refine ag (a4) ?_ ?_ (fun i6 (a6 : (List Pe)) hd6 hI6 => ?_) (fun i6 x6 r6 (a6 : (List Pe)) hd6 hl6 hI6 => ?_))
  | (with_reducible refine ah hd6 (a6 ++ [(x6.name, En.mk 9 i6 0)]) ?_ ?_)
  | ((with_reducible refine aI.mk 8 ?_); refine ⟨aP (p.stmts) 76 (fun (a8 : (List Pe)) => []) (fun (a8 : (List Pe)) => [(1, .cells (p.cs.map .data)), (3, .cells [.gs 700001 1 (a8.map nmC), .gs 700002 3 (a8.map enC)]), (700001, .tok 1 (a8.map nmC).length), (700002, .tok 3 (a8.map enC).length)]) [1, 3, 74, 75] (fun i8 r8 a8 => a8 ++ vT r8 i8 = decl p), ?_⟩; with_reducible refine ag (a6) ?_ ?_ (fun i8 (a8 : (List Pe)) hd8 hI8 => ?_) (fun i8 x8 r8 (a8 : (List Pe)) hd8 hl8 hI8 => ?_))
  | (with_reducible refine ah hd8 (?_) ?_ ?_)
  | ((with_reducible refine aI.mk 10 ?_); have he8 : a8 = decl p := (by simpa [vT] using hI8); subst he8; refine ⟨aP (p.name :: iR (decl p)) 98 (fun (_ : Unit) => [(96, .gs 93 1 ((p.name :: iR (decl p)).map z07)), (97, .data (.val (.int .i64 ((p.name :: iR (decl p)).length : Nat))))]) (fun (_ : Unit) => [(1, .cells (p.cs.map .data)), (3, .cells [.gs 700001 1 ((decl p).map nmC), .gs 700002 3 ((decl p).map enC)]), (700001, .tok 1 ((decl p).map nmC).length), (700002, .tok 3 ((decl p).map enC).length)]) [3] (fun i10 r10 _ => r10.all nmOk = true), ?_⟩; with_reducible refine ag () ?_ ?_ (fun i10 (_ : Unit) hd10 hI10 => ?_) (fun i10 x10 r10 (_ : Unit) hd10 hl10 hI10 => ?_))
  | (with_reducible refine ah hd10 () ?_ ?_)
  | ((with_reducible refine aI.mk 12 ?_); refine ⟨aP (decl p) 117 (fun (d : (List Pe)) => []) (fun (d : (List Pe)) => [(1, .cells (p.cs.map .data)), (3, .cells [.gs 700001 1 ((decl p).map nmC), .gs 700002 3 ((decl p).map enC)]), (700001, .tok 1 ((decl p).map nmC).length), (700002, .tok 3 ((decl p).map enC).length), (113, .map false [.str] (mkM d))]) [3, 16, 115, 116] (fun i12 r12 d => d ++ r12 = decl p), ?_⟩; with_reducible refine ag ([]) ?_ ?_ (fun i12 (d : (List Pe)) hd12 hI12 => ?_) (fun i12 x12 r12 (d : (List Pe)) hd12 hl12 hI12 => ?_))
  | (with_reducible refine ah hd12 (d ++ [x12]) ?_ ?_)
  | ((with_reducible refine aj ?_ ?_ ?_); rotate_left; (first | exact uA _ | exact lF _))
  | ((with_reducible refine lent_step' [(1000000, 3), (1000001, 700001), (1000002, 700002)] (dR a0 x0.name 3 i0 0 (gW hI0 (by omega))) ?_ ?_ ?_ ?_); rotate_left 0; exact rfl; (exact ⟨rfl, rfl, rfl, trivial⟩); exact rfl)
  | ((with_reducible refine lent_step' [(1000000, 3), (1000001, 700001), (1000002, 700002)] (dR a2 x2.name 4 i2 0 (gW hI2 (by omega))) ?_ ?_ ?_ ?_); rotate_left 0; exact rfl; (exact ⟨rfl, rfl, rfl, trivial⟩); exact rfl)
  | ((with_reducible refine lent_step' [(1000000, 3), (1000001, 700001), (1000002, 700002)] (dR a4 x4.name 8 i4 0 (gW hI4 (by omega))) ?_ ?_ ?_ ?_); rotate_left 0; exact rfl; (exact ⟨rfl, rfl, rfl, trivial⟩); exact rfl)
  | ((with_reducible refine lent_step' [(1000000, 3), (1000001, 700001), (1000002, 700002)] (dR a6 x6.name 9 i6 0 (gW hI6 (by omega))) ?_ ?_ ?_ ?_); rotate_left 0; exact rfl; (exact ⟨rfl, rfl, rfl, trivial⟩); exact rfl)
  | ((with_reducible refine lent_step' [(1000000, 3), (1000001, 700001), (1000002, 700002)] (dR a8 x8.name 5 i8 (IntKind.i64.wrap ((i8 : Int) + 1)) (gW hI8 (by omega))) ?_ ?_ ?_ ?_); rotate_left 0; exact rfl; (exact ⟨rfl, rfl, rfl, trivial⟩); exact rfl)
  | ((with_reducible refine ai ?_); refine fin_step' [(1000000, 113)] rfl ?_ ?_)
  | (with_reducible refine bH.l _ ?_)
  | ((with_reducible refine eF ?_ ?_ ?_ ?_ ?_ ?_) <;> exact rfl)
  | ((with_reducible refine gp ?_ ?_ ?_ ?_) <;> exact rfl)
  | ((with_reducible refine aJ ?_ ?_ ?_ ?_ ?_); exact rfl; exact rfl; rotate_left; (first | with_reducible exact aG hd12 | with_reducible exact aG hd10 | with_reducible exact aG hd8 | with_reducible exact aG hd6 | with_reducible exact aG hd4 | with_reducible exact aG hd2 | with_reducible exact aG hd0))
  | ((with_reducible refine aW ?_ ?_); exact rfl)
  | ((with_reducible refine app_step' ?_ ?_ ?_ ?_ ?_ ?_ ?_); exact rfl; exact rfl; exact rfl; exact rfl)
  | ((with_reducible refine bF ?_ ?_ (fun hg => ?_) ?_); exact rfl)
  | ((with_reducible refine dE ?_ ?_); with_reducible exact rfl; with_reducible exact rfl)
  | ((with_reducible refine fB ?_ ?_); with_reducible exact rfl)
  | (with_reducible refine And.intro ?_ ?_)
  | ((with_reducible refine uX ?_ ?_ ?_); exact rfl; exact rfl; (first | exact rfl | skip))
  | exact @rfl AV _
  | exact @rfl Block _
  | exact @rfl (List AV) _
  | exact kN rfl)
 all_goals (try simp only [Bool.cond_true_left, Bool.cond_false_right, Bool.cond_false_left, Bool.cond_true_right, Bool.not_eq_true', Bool.not_eq_false', bne, Ex.css_len, List.length_map, Int.toNat_zero] at *)
 all_goals first
  | omega
  | ((exact absurd h (by decide)))
  | ((exfalso; simp only [List.all_cons, Bool.and_eq_true] at hI10; have hk := hI10.1; simp only [nmOk] at hk; (try simp only [Bool.cond_false_right] at h); rw [hk] at h; exact absurd h (by decide)))
  | (((try (conv => whnf)); exact congrArg (Block.map false [KS.str]) (Ey (Po hU hI12))))
  | (((try (conv => whnf)); exact congrArg (fun l => Block.map false [KS.str] (mkM l)) (by simpa using hI12)))
  | (((try (conv => whnf)); exact congrArg (fun z : Nat => AV.data (D.val (Value.int IntKind.i64 (z : Int)))) (by show ([[D.str p.name]] ++ List.map nmC (decl p)).length = _; simp [iR])))
  | (rfl)
  | (((with_reducible refine Eq.symm ?_); (with_reducible refine Eq.symm ?_); rw [T2, ← hI0]; simp [bounds, jr]; done))
  | (((with_reducible refine Eq.symm ?_); (with_reducible refine Eq.symm ?_); rw [T3, ← hI2]; simp [bounds, jr, lines]; done))
  | (((with_reducible refine Eq.symm ?_); (with_reducible refine Eq.symm ?_); rw [T4, ← hI4]; simp [jr, tables]; done))
  | (((with_reducible refine Eq.symm ?_); (with_reducible refine Eq.symm ?_); rw [decl, ← hI6]; simp [jr]; done))
  | ((have hz := gW hI8 ht5; (try simp only [List.length_map]); omega))
  | ((show [[D.str p.name]] ++ List.map nmC (decl p) = _; simp [iR]; done))
  | (((with_reducible refine Eq.symm ?_); (with_reducible refine Eq.symm ?_); rw [← hI12]; simp; done))
  | ((simp only [List.all_cons, Bool.and_eq_true] at hI10; exact hI10.2))
  | (((with_reducible refine Eq.symm ?_); (with_reducible refine Eq.symm ?_); rw [← hI6]; simp only [jr, bounds, List.map_cons, List.append_assoc, List.cons_append, List.nil_append]; done))
  | (((with_reducible refine Eq.symm ?_); (with_reducible refine Eq.symm ?_); rw [← hI4]; simp only [jr, bounds, List.map_cons, List.append_assoc, List.cons_append, List.nil_append]; done))
  | (((with_reducible refine Eq.symm ?_); (with_reducible refine Eq.symm ?_); rw [← hI2]; simp only [jr, bounds, List.map_cons, List.append_assoc, List.cons_append, List.nil_append]; done))
  | (((with_reducible refine Eq.symm ?_); (with_reducible refine Eq.symm ?_); rw [← hI0]; simp only [jr, bounds, List.map_cons, List.append_assoc, List.cons_append, List.nil_append]; done))
  | (((with_reducible refine Eq.symm ?_); (with_reducible refine Eq.symm ?_); rw [← hI8]; simp only [vT, h, Bool.false_eq_true, if_false]; done))
  | (((with_reducible refine Eq.symm ?_); (with_reducible refine Eq.symm ?_); rw [show IntKind.i64.wrap ((i8 : Int) + 1) = (i8 : Int) + 1 from bC (by omega) (by omega), ← hI8]; simp only [vT, h, if_true, List.append_assoc, List.cons_append, List.nil_append]; done))
  | skip
end Go.Proofs.YtogfjinopifenaaDoor
