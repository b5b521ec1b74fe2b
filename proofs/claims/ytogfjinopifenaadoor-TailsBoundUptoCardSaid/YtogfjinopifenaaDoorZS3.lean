/- Contracts: package names: declare. -/
import Derived.Test.YtogfjinopifenaaDoorZSA
set_option linter.unusedSectionVars false
set_option linter.unusedSimpArgs false
set_option linter.unusedVariables false
set_option maxHeartbeats 4000000
namespace Go.Proofs.YtogfjinopifenaaDoor
open Go.Fw Go.Fw.Nam Go.Fw.Ref15
set_option maxRecDepth 10000
variable [GlobInt]
theorem iw (s : Str) : PCall Tryd.prog 51 [.str vT, .str ([32] ++ s ++ [32])] (.ret (.b (Lib.contains vT ([32] ++ s ++ [32])))) := qL _ _ (by decide)
theorem oO (p : Pr) (hp : p.Small) (hN : (p.name :: dU (decl p)).all nmOk = true) (hU : uniq (decl p)) : LCall Tryd.prog 26 [.data p.d] [] (.ret (.map 1000000)) [(1000000, .map false [.str] (mkM (decl p)))] := by
 refine lcall_of_wc tok hmix ⟨[], []⟩ Tryd.func26 rfl (by kernel_rfl) (by kernel_rfl) (by kernel_rfl) fun hf => ?_
 have hq := Pr.fits (AFits.data (hf (.data p.d) (by simp)))
 have hlen1 := hq.params; have hlen2 := hq.states; have hlen3 := hq.lines; have hlen4 := hq.tables; have hlen5 := hq.stmts
 have ht1 := vM hp; have ht2 := vN hp; have ht3 := vO hp; have ht4 := vP hp; have ht5 := oZ hp
 have hld : (decl p).length ≤ 9223372036854775807 := by omega
 have hle : (p.name :: dU (decl p)).length ≤ 9223372036854775807 := by simp [dU]; omega
 clear hf
 repeat' ((try (conv => whnf)) <;> first
  | with_reducible exact trivial
  | with_reducible exact ak hd12 ‹_›
  | with_reducible exact ak hd10 ‹_›
  | with_reducible exact ak hd8 ‹_›
  | with_reducible exact ak hd6 ‹_›
  | with_reducible exact ak hd4 ‹_›
  | with_reducible exact ak hd2 ‹_›
  | with_reducible exact ak hd0 ‹_›
  | with_reducible refine aX hd12 ?_
  | with_reducible refine aX hd8 ?_
  | with_reducible refine aX hd6 ?_
  | with_reducible refine aX hd4 ?_
  | with_reducible refine aX hd2 ?_
  | with_reducible refine aX hd0 ?_
  | with_reducible refine aP hd12 ?_
  | with_reducible refine aP hd8 ?_
  | with_reducible refine aP hd6 ?_
  | with_reducible refine aP hd4 ?_
  | with_reducible refine aP hd2 ?_
  | with_reducible refine aP hd0 ?_
  | ((with_reducible refine dM hd10 ?_ ?_); (exact rfl))
  | ((with_reducible refine bW hd10 ?_ ?_); (exact rfl))
  | with_reducible refine BrI.intro (fun h => ?_) (fun h => ?_)
  | with_reducible refine aG (bZ _ _) (fun h => ?_) (fun h => ?_)
  | (exact kD (by have hk := lU (s := x10) (by simpa [wantB] using hg); simp; omega))
  | (refine opt_none (lV (yZ hU hI12)) ?_)
  | ((with_reducible refine LoopAt.mk 0 ?_); refine ⟨aF (p.params) 24 (fun (a0 : (List Pe)) => []) (fun (a0 : (List Pe)) => [(1, .cells (p.cs.map .data)), (3, .cells [.gs 700001 1 (a0.map nmC), .gs 700002 3 (a0.map enC)]), (700001, .tok 1 (a0.map nmC).length), (700002, .tok 3 (a0.map enC).length)]) [1, 3, 22, 23] (fun i0 r0 a0 => a0 ++ eU 3 (bounds r0) i0 = T1 p), ?_⟩; with_reducible refine ae ([]) ?_ ?_ (fun i0 (a0 : (List Pe)) hd0 hI0 => ?_) (fun i0 x0 r0 (a0 : (List Pe)) hd0 hl0 hI0 => ?_))
  | (with_reducible refine af hd0 (a0 ++ [(x0.name, En.mk 3 i0 0)]) ?_ ?_)
  | ((with_reducible refine LoopAt.mk 2 ?_); refine ⟨aF (p.states) 37 (fun (a2 : (List Pe)) => []) (fun (a2 : (List Pe)) => [(1, .cells (p.cs.map .data)), (3, .cells [.gs 700001 1 (a2.map nmC), .gs 700002 3 (a2.map enC)]), (700001, .tok 1 (a2.map nmC).length), (700002, .tok 3 (a2.map enC).length)]) [1, 3, 35, 36] (fun i2 r2 a2 => a2 ++ eU 4 (bounds r2) i2 = T2 p), ?_⟩; with_reducible refine ae (a0) ?_ ?_ (fun i2 (a2 : (List Pe)) hd2 hI2 => ?_) (fun i2 x2 r2 (a2 : (List Pe)) hd2 hl2 hI2 => ?_))
  | (with_reducible refine af hd2 (a2 ++ [(x2.name, En.mk 4 i2 0)]) ?_ ?_)
  | ((with_reducible refine LoopAt.mk 4 ?_); refine ⟨aF (p.lines) 50 (fun (a4 : (List Pe)) => []) (fun (a4 : (List Pe)) => [(1, .cells (p.cs.map .data)), (3, .cells [.gs 700001 1 (a4.map nmC), .gs 700002 3 (a4.map enC)]), (700001, .tok 1 (a4.map nmC).length), (700002, .tok 3 (a4.map enC).length)]) [1, 3, 48, 49] (fun i4 r4 a4 => a4 ++ eU 8 (r4.map (·.name)) i4 = T3 p), ?_⟩; with_reducible refine ae (a2) ?_ ?_ (fun i4 (a4 : (List Pe)) hd4 hI4 => ?_) (fun i4 x4 r4 (a4 : (List Pe)) hd4 hl4 hI4 => ?_))
  | (with_reducible refine af hd4 (a4 ++ [(x4.name, En.mk 8 i4 0)]) ?_ ?_)
  | ((with_reducible refine LoopAt.mk 6 ?_); refine ⟨aF (p.tables) 63 (fun (a6 : (List Pe)) => []) (fun (a6 : (List Pe)) => [(1, .cells (p.cs.map .data)), (3, .cells [.gs 700001 1 (a6.map nmC), .gs 700002 3 (a6.map enC)]), (700001, .tok 1 (a6.map nmC).length), (700002, .tok 3 (a6.map enC).length)]) [1, 3, 61, 62] (fun i6 r6 a6 => a6 ++ eU 9 (r6.map (·.name)) i6 = T4 p), ?_⟩; with_reducible refine ae (a4) ?_ ?_ (fun i6 (a6 : (List Pe)) hd6 hI6 => ?_) (fun i6 x6 r6 (a6 : (List Pe)) hd6 hl6 hI6 => ?_))
  | (with_reducible refine af hd6 (a6 ++ [(x6.name, En.mk 9 i6 0)]) ?_ ?_)
  | ((with_reducible refine LoopAt.mk 8 ?_); refine ⟨aF (p.stmts) 76 (fun (a8 : (List Pe)) => []) (fun (a8 : (List Pe)) => [(1, .cells (p.cs.map .data)), (3, .cells [.gs 700001 1 (a8.map nmC), .gs 700002 3 (a8.map enC)]), (700001, .tok 1 (a8.map nmC).length), (700002, .tok 3 (a8.map enC).length)]) [1, 3, 74, 75] (fun i8 r8 a8 => a8 ++ lC r8 i8 = decl p), ?_⟩; with_reducible refine ae (a6) ?_ ?_ (fun i8 (a8 : (List Pe)) hd8 hI8 => ?_) (fun i8 x8 r8 (a8 : (List Pe)) hd8 hl8 hI8 => ?_))
  | (with_reducible refine af hd8 (?_) ?_ ?_)
  | ((with_reducible refine LoopAt.mk 10 ?_); have he8 : a8 = decl p := (by simpa [lC] using hI8); subst he8; refine ⟨aF (p.name :: dU (decl p)) 98 (fun (_ : Unit) => [(96, .gs 93 1 ((p.name :: dU (decl p)).map JQ)), (97, .data (.val (.int .i64 ((p.name :: dU (decl p)).length : Nat))))]) (fun (_ : Unit) => [(1, .cells (p.cs.map .data)), (3, .cells [.gs 700001 1 ((decl p).map nmC), .gs 700002 3 ((decl p).map enC)]), (700001, .tok 1 ((decl p).map nmC).length), (700002, .tok 3 ((decl p).map enC).length)]) [3] (fun i10 r10 _ => r10.all nmOk = true), ?_⟩; with_reducible refine ae () ?_ ?_ (fun i10 (_ : Unit) hd10 hI10 => ?_) (fun i10 x10 r10 (_ : Unit) hd10 hl10 hI10 => ?_))
  | (with_reducible refine af hd10 () ?_ ?_)
  | ((with_reducible refine LoopAt.mk 12 ?_); refine ⟨aF (decl p) 117 (fun (d : (List Pe)) => []) (fun (d : (List Pe)) => [(1, .cells (p.cs.map .data)), (3, .cells [.gs 700001 1 ((decl p).map nmC), .gs 700002 3 ((decl p).map enC)]), (700001, .tok 1 ((decl p).map nmC).length), (700002, .tok 3 ((decl p).map enC).length), (113, .map false [.str] (mkM d))]) [3, 16, 115, 116] (fun i12 r12 d => d ++ r12 = decl p), ?_⟩; with_reducible refine ae ([]) ?_ ?_ (fun i12 (d : (List Pe)) hd12 hI12 => ?_) (fun i12 x12 r12 (d : (List Pe)) hd12 hl12 hI12 => ?_))
  | (with_reducible refine af hd12 (d ++ [x12]) ?_ ?_)
  | ((with_reducible refine ah ?_ ?_ ?_); rotate_left; (first | exact kR _ | exact iw _))
  | ((with_reducible refine lent_step' [(1000000, 3), (1000001, 700001), (1000002, 700002)] (bK a0 x0.name 3 i0 0 (dE hI0 (by omega))) ?_ ?_ ?_ ?_); rotate_left 0; exact rfl; (exact ⟨rfl, rfl, rfl, trivial⟩); exact rfl)
  | ((with_reducible refine lent_step' [(1000000, 3), (1000001, 700001), (1000002, 700002)] (bK a2 x2.name 4 i2 0 (dE hI2 (by omega))) ?_ ?_ ?_ ?_); rotate_left 0; exact rfl; (exact ⟨rfl, rfl, rfl, trivial⟩); exact rfl)
  | ((with_reducible refine lent_step' [(1000000, 3), (1000001, 700001), (1000002, 700002)] (bK a4 x4.name 8 i4 0 (dE hI4 (by omega))) ?_ ?_ ?_ ?_); rotate_left 0; exact rfl; (exact ⟨rfl, rfl, rfl, trivial⟩); exact rfl)
  | ((with_reducible refine lent_step' [(1000000, 3), (1000001, 700001), (1000002, 700002)] (bK a6 x6.name 9 i6 0 (dE hI6 (by omega))) ?_ ?_ ?_ ?_); rotate_left 0; exact rfl; (exact ⟨rfl, rfl, rfl, trivial⟩); exact rfl)
  | ((with_reducible refine lent_step' [(1000000, 3), (1000001, 700001), (1000002, 700002)] (bK a8 x8.name 5 i8 (IntKind.i64.wrap ((i8 : Int) + 1)) (dE hI8 (by omega))) ?_ ?_ ?_ ?_); rotate_left 0; exact rfl; (exact ⟨rfl, rfl, rfl, trivial⟩); exact rfl)
  | ((with_reducible refine ag ?_); refine fin_step' [(1000000, 113)] rfl ?_ ?_)
  | (with_reducible refine ChooseI.l _ ?_)
  | ((with_reducible refine bQ ?_ ?_ ?_ ?_ ?_ ?_) <;> exact rfl)
  | ((with_reducible refine dw ?_ ?_ ?_ ?_) <;> exact rfl)
  | ((with_reducible refine aB ?_ ?_ ?_ ?_ ?_); exact rfl; exact rfl; rotate_left; (first | with_reducible exact az hd12 | with_reducible exact az hd10 | with_reducible exact az hd8 | with_reducible exact az hd6 | with_reducible exact az hd4 | with_reducible exact az hd2 | with_reducible exact az hd0))
  | ((with_reducible refine aK ?_ ?_); exact rfl)
  | ((with_reducible refine app_step' ?_ ?_ ?_ ?_ ?_ ?_ ?_); exact rfl; exact rfl; exact rfl; exact rfl)
  | ((with_reducible refine aU ?_ ?_ (fun hg => ?_) ?_); exact rfl)
  | ((with_reducible refine bD ?_ ?_); with_reducible exact rfl; with_reducible exact rfl)
  | ((with_reducible refine bV ?_ ?_); with_reducible exact rfl)
  | (with_reducible refine And.intro ?_ ?_)
  | ((with_reducible refine kZ ?_ ?_ ?_); exact rfl; exact rfl; (first | exact rfl | skip))
  | exact @rfl AV _
  | exact @rfl Block _
  | exact @rfl (List AV) _
  | exact gB rfl)
 all_goals (try simp only [Bool.cond_true_left, Bool.cond_false_right, Bool.cond_false_left, Bool.cond_true_right, Bool.not_eq_true', Bool.not_eq_false', bne, Ex.css_len, List.length_map, Int.toNat_zero] at *)
 all_goals first
  | omega
  | ((exact absurd h (by decide)))
  | ((exfalso; simp only [List.all_cons, Bool.and_eq_true] at hI10; have hk := hI10.1; simp only [nmOk] at hk; (try simp only [Bool.cond_false_right] at h); rw [hk] at h; exact absurd h (by decide)))
  | (((try (conv => whnf)); exact congrArg (Block.map false [KS.str]) (qZ (yZ hU hI12))))
  | (((try (conv => whnf)); exact congrArg (fun l => Block.map false [KS.str] (mkM l)) (by simpa using hI12)))
  | (((try (conv => whnf)); exact congrArg (fun z : Nat => AV.data (D.val (Value.int IntKind.i64 (z : Int)))) (by show ([[D.str p.name]] ++ List.map nmC (decl p)).length = _; simp [dU])))
  | (rfl)
  | (((with_reducible refine Eq.symm ?_); (with_reducible refine Eq.symm ?_); rw [T2, ← hI0]; simp [bounds, eU]; done))
  | (((with_reducible refine Eq.symm ?_); (with_reducible refine Eq.symm ?_); rw [T3, ← hI2]; simp [bounds, eU, lines]; done))
  | (((with_reducible refine Eq.symm ?_); (with_reducible refine Eq.symm ?_); rw [T4, ← hI4]; simp [eU, tables]; done))
  | (((with_reducible refine Eq.symm ?_); (with_reducible refine Eq.symm ?_); rw [decl, ← hI6]; simp [eU]; done))
  | ((have hz := dE hI8 ht5; (try simp only [List.length_map]); omega))
  | ((show [[D.str p.name]] ++ List.map nmC (decl p) = _; simp [dU]; done))
  | (((with_reducible refine Eq.symm ?_); (with_reducible refine Eq.symm ?_); rw [← hI12]; simp; done))
  | ((simp only [List.all_cons, Bool.and_eq_true] at hI10; exact hI10.2))
  | (((with_reducible refine Eq.symm ?_); (with_reducible refine Eq.symm ?_); rw [← hI6]; simp only [eU, bounds, List.map_cons, List.append_assoc, List.cons_append, List.nil_append]; done))
  | (((with_reducible refine Eq.symm ?_); (with_reducible refine Eq.symm ?_); rw [← hI4]; simp only [eU, bounds, List.map_cons, List.append_assoc, List.cons_append, List.nil_append]; done))
  | (((with_reducible refine Eq.symm ?_); (with_reducible refine Eq.symm ?_); rw [← hI2]; simp only [eU, bounds, List.map_cons, List.append_assoc, List.cons_append, List.nil_append]; done))
  | (((with_reducible refine Eq.symm ?_); (with_reducible refine Eq.symm ?_); rw [← hI0]; simp only [eU, bounds, List.map_cons, List.append_assoc, List.cons_append, List.nil_append]; done))
  | (((with_reducible refine Eq.symm ?_); (with_reducible refine Eq.symm ?_); rw [← hI8]; simp only [lC, h, Bool.false_eq_true, if_false]; done))
  | (((with_reducible refine Eq.symm ?_); (with_reducible refine Eq.symm ?_); rw [show IntKind.i64.wrap ((i8 : Int) + 1) = (i8 : Int) + 1 from aS (by omega) (by omega), ← hI8]; simp only [lC, h, if_true, List.append_assoc, List.cons_append, List.nil_append]; done))
  | skip
end Go.Proofs.YtogfjinopifenaaDoor
