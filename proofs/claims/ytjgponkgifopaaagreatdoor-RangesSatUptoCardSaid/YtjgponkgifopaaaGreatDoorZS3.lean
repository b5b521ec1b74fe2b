/- Contracts: package names: declare. -/
import Derived.Test.YtjgponkgifopaaaGreatDoorZSA
set_option linter.unusedSimpArgs false
set_option linter.unusedVariables false
namespace Go.Proofs.YtjgponkgifopaaaGreatDoor
open Go.Fw Go.Fw.Nam Go.Fw.Ref15
set_option maxRecDepth 10000
set_option linter.unusedSectionVars false
variable [GlobInt]
theorem words_contains (s : Str) : PCall Tryz.prog 115 [.str wordsT, .str ([32] ++ s ++ [32])] (.ret (.b (Lib.contains wordsT ([32] ++ s ++ [32])))) := contains_call _ _ (by decide)
set_option maxHeartbeats 4000000 in
theorem declare_ok (p : Pr) (hp : p.Small) (hN : (p.name :: fsts (decl p)).all nmOk = true) (hU : uniq (decl p)) : LCall Tryz.prog 65 [.data p.d] [] (.ret (.map 1000000)) [(1000000, .map false [.str] (mkM (decl p)))] := by
  refine lcall_of_wc tok hmix ⟨[], []⟩ Tryz.func65 rfl (by kernel_rfl) (by kernel_rfl) (by kernel_rfl) fun hf => ?_
  have hq := Pr.fits (AFits.data (hf (.data p.d) (by simp)))
  have hlen1 := hq.params; have hlen2 := hq.states; have hlen3 := hq.lines; have hlen4 := hq.tables; have hlen5 := hq.stmts
  have ht1 := T1_len hp; have ht2 := T2_len hp; have ht3 := T3_len hp; have ht4 := T4_len hp; have ht5 := decl_len hp
  have hld : (decl p).length ≤ 9223372036854775807 := by omega
  have hle : (p.name :: fsts (decl p)).length ≤ 9223372036854775807 := by simp [fsts]; omega
  clear hf
  repeat' ((try (conv => whnf)) <;> first
    | with_reducible exact trivial
    | with_reducible exact idx_next hd12 ‹_›
    | with_reducible exact idx_next hd10 ‹_›
    | with_reducible exact idx_next hd8 ‹_›
    | with_reducible exact idx_next hd6 ‹_›
    | with_reducible exact idx_next hd4 ‹_›
    | with_reducible exact idx_next hd2 ‹_›
    | with_reducible exact idx_next hd0 ‹_›
    | with_reducible refine br_nil hd12 ?_
    | with_reducible refine br_nil hd8 ?_
    | with_reducible refine br_nil hd6 ?_
    | with_reducible refine br_nil hd4 ?_
    | with_reducible refine br_nil hd2 ?_
    | with_reducible refine br_nil hd0 ?_
    | with_reducible refine br_cons hd12 ?_
    | with_reducible refine br_cons hd8 ?_
    | with_reducible refine br_cons hd6 ?_
    | with_reducible refine br_cons hd4 ?_
    | with_reducible refine br_cons hd2 ?_
    | with_reducible refine br_cons hd0 ?_
    | ((with_reducible refine br_nil_k hd10 ?_ ?_); (first | exact rfl | assumption | fail))
    | ((with_reducible refine br_cons_k hd10 ?_ ?_); (first | exact rfl | assumption | fail))
    | with_reducible refine BrI.intro (fun h => ?_) (fun h => ?_)
    | with_reducible refine need_step (need_call _ _) (fun h => ?_) (fun h => ?_)
    | (exact nonneg_len (by have hk := lname_len (s := x10) (by simpa [wantB] using hg); simp; omega))
    | (refine opt_none (mget_none (uniq_at hU hI12)) ?_)
    | ((with_reducible refine LoopAt.mk 0 ?_); refine ⟨rangeL (p.params) 24 (fun (a0 : (List Pe)) => []) (fun (a0 : (List Pe)) => [(1, .cells (p.cs.map .data)), (3, .cells [.gs 700001 1 (a0.map nmC), .gs 700002 3 (a0.map enC)]), (700001, .tok 1 (a0.map nmC).length), (700002, .tok 3 (a0.map enC).length)]) [1, 3, 22, 23] (fun i0 r0 a0 => a0 ++ decN 3 (bounds r0) i0 = T1 p), ?_⟩; with_reducible refine rangeL_rule ([]) ?_ ?_ (fun i0 (a0 : (List Pe)) hd0 hI0 => ?_) (fun i0 x0 r0 (a0 : (List Pe)) hd0 hl0 hI0 => ?_))
    | (with_reducible refine rangeL_next hd0 (a0 ++ [(x0.name, En.mk 3 i0 0)]) ?_ ?_)
    | ((with_reducible refine LoopAt.mk 2 ?_); refine ⟨rangeL (p.states) 37 (fun (a2 : (List Pe)) => []) (fun (a2 : (List Pe)) => [(1, .cells (p.cs.map .data)), (3, .cells [.gs 700001 1 (a2.map nmC), .gs 700002 3 (a2.map enC)]), (700001, .tok 1 (a2.map nmC).length), (700002, .tok 3 (a2.map enC).length)]) [1, 3, 35, 36] (fun i2 r2 a2 => a2 ++ decN 4 (bounds r2) i2 = T2 p), ?_⟩; with_reducible refine rangeL_rule (a0) ?_ ?_ (fun i2 (a2 : (List Pe)) hd2 hI2 => ?_) (fun i2 x2 r2 (a2 : (List Pe)) hd2 hl2 hI2 => ?_))
    | (with_reducible refine rangeL_next hd2 (a2 ++ [(x2.name, En.mk 4 i2 0)]) ?_ ?_)
    | ((with_reducible refine LoopAt.mk 4 ?_); refine ⟨rangeL (p.lines) 50 (fun (a4 : (List Pe)) => []) (fun (a4 : (List Pe)) => [(1, .cells (p.cs.map .data)), (3, .cells [.gs 700001 1 (a4.map nmC), .gs 700002 3 (a4.map enC)]), (700001, .tok 1 (a4.map nmC).length), (700002, .tok 3 (a4.map enC).length)]) [1, 3, 48, 49] (fun i4 r4 a4 => a4 ++ decN 8 (r4.map (·.name)) i4 = T3 p), ?_⟩; with_reducible refine rangeL_rule (a2) ?_ ?_ (fun i4 (a4 : (List Pe)) hd4 hI4 => ?_) (fun i4 x4 r4 (a4 : (List Pe)) hd4 hl4 hI4 => ?_))
    | (with_reducible refine rangeL_next hd4 (a4 ++ [(x4.name, En.mk 8 i4 0)]) ?_ ?_)
    | ((with_reducible refine LoopAt.mk 6 ?_); refine ⟨rangeL (p.tables) 63 (fun (a6 : (List Pe)) => []) (fun (a6 : (List Pe)) => [(1, .cells (p.cs.map .data)), (3, .cells [.gs 700001 1 (a6.map nmC), .gs 700002 3 (a6.map enC)]), (700001, .tok 1 (a6.map nmC).length), (700002, .tok 3 (a6.map enC).length)]) [1, 3, 61, 62] (fun i6 r6 a6 => a6 ++ decN 9 (r6.map (·.name)) i6 = T4 p), ?_⟩; with_reducible refine rangeL_rule (a4) ?_ ?_ (fun i6 (a6 : (List Pe)) hd6 hI6 => ?_) (fun i6 x6 r6 (a6 : (List Pe)) hd6 hl6 hI6 => ?_))
    | (with_reducible refine rangeL_next hd6 (a6 ++ [(x6.name, En.mk 9 i6 0)]) ?_ ?_)
    | ((with_reducible refine LoopAt.mk 8 ?_); refine ⟨rangeL (p.stmts) 76 (fun (a8 : (List Pe)) => []) (fun (a8 : (List Pe)) => [(1, .cells (p.cs.map .data)), (3, .cells [.gs 700001 1 (a8.map nmC), .gs 700002 3 (a8.map enC)]), (700001, .tok 1 (a8.map nmC).length), (700002, .tok 3 (a8.map enC).length)]) [1, 3, 74, 75] (fun i8 r8 a8 => a8 ++ decS r8 i8 = decl p), ?_⟩; with_reducible refine rangeL_rule (a6) ?_ ?_ (fun i8 (a8 : (List Pe)) hd8 hI8 => ?_) (fun i8 x8 r8 (a8 : (List Pe)) hd8 hl8 hI8 => ?_))
    | (with_reducible refine rangeL_next hd8 (?_) ?_ ?_)
    | ((with_reducible refine LoopAt.mk 10 ?_); have he8 : a8 = decl p := (by simpa [decS] using hI8); subst he8; refine ⟨rangeL (p.name :: fsts (decl p)) 98 (fun (_ : Unit) => [(96, .gs 93 1 ((p.name :: fsts (decl p)).map strC)), (97, .data (.val (.int .i64 ((p.name :: fsts (decl p)).length : Nat))))]) (fun (_ : Unit) => [(1, .cells (p.cs.map .data)), (3, .cells [.gs 700001 1 ((decl p).map nmC), .gs 700002 3 ((decl p).map enC)]), (700001, .tok 1 ((decl p).map nmC).length), (700002, .tok 3 ((decl p).map enC).length)]) [3] (fun i10 r10 _ => r10.all nmOk = true), ?_⟩; with_reducible refine rangeL_rule () ?_ ?_ (fun i10 (_ : Unit) hd10 hI10 => ?_) (fun i10 x10 r10 (_ : Unit) hd10 hl10 hI10 => ?_))
    | (with_reducible refine rangeL_next hd10 () ?_ ?_)
    | ((with_reducible refine LoopAt.mk 12 ?_); refine ⟨rangeL (decl p) 117 (fun (d : (List Pe)) => []) (fun (d : (List Pe)) => [(1, .cells (p.cs.map .data)), (3, .cells [.gs 700001 1 ((decl p).map nmC), .gs 700002 3 ((decl p).map enC)]), (700001, .tok 1 ((decl p).map nmC).length), (700002, .tok 3 ((decl p).map enC).length), (113, .map false [.str] (mkM d))]) [3, 16, 115, 116] (fun i12 r12 d => d ++ r12 = decl p), ?_⟩; with_reducible refine rangeL_rule ([]) ?_ ?_ (fun i12 (d : (List Pe)) hd12 hI12 => ?_) (fun i12 x12 r12 (d : (List Pe)) hd12 hl12 hI12 => ?_))
    | (with_reducible refine rangeL_next hd12 (d ++ [x12]) ?_ ?_)
    | ((with_reducible refine call_step ?_ ?_ ?_); rotate_left; (first | exact lname_call _ | exact words_contains _ | fail))
    | ((first | with_reducible refine lent_step [(1000000, 3), (1000001, 700001), (1000002, 700002)] (add_call a0 x0.name 3 i0 0 (app_le hI0 (by omega))) ?_ ?_ ?_ ?_ | with_reducible refine lent_step' [(1000000, 3), (1000001, 700001), (1000002, 700002)] (add_call a0 x0.name 3 i0 0 (app_le hI0 (by omega))) ?_ ?_ ?_ ?_ | fail); rotate_left 0; exact rfl; (first | exact trivial | exact ⟨rfl, trivial⟩ | exact ⟨rfl, rfl, trivial⟩ | exact ⟨rfl, rfl, rfl, trivial⟩ | exact ⟨rfl, rfl, rfl, rfl, trivial⟩ | exact ⟨rfl, rfl, rfl, rfl, rfl, trivial⟩ | exact ⟨rfl, rfl, rfl, rfl, rfl, rfl, trivial⟩); exact rfl)
    | ((first | with_reducible refine lent_step [(1000000, 3), (1000001, 700001), (1000002, 700002)] (add_call a2 x2.name 4 i2 0 (app_le hI2 (by omega))) ?_ ?_ ?_ ?_ | with_reducible refine lent_step' [(1000000, 3), (1000001, 700001), (1000002, 700002)] (add_call a2 x2.name 4 i2 0 (app_le hI2 (by omega))) ?_ ?_ ?_ ?_ | fail); rotate_left 0; exact rfl; (first | exact trivial | exact ⟨rfl, trivial⟩ | exact ⟨rfl, rfl, trivial⟩ | exact ⟨rfl, rfl, rfl, trivial⟩ | exact ⟨rfl, rfl, rfl, rfl, trivial⟩ | exact ⟨rfl, rfl, rfl, rfl, rfl, trivial⟩ | exact ⟨rfl, rfl, rfl, rfl, rfl, rfl, trivial⟩); exact rfl)
    | ((first | with_reducible refine lent_step [(1000000, 3), (1000001, 700001), (1000002, 700002)] (add_call a4 x4.name 8 i4 0 (app_le hI4 (by omega))) ?_ ?_ ?_ ?_ | with_reducible refine lent_step' [(1000000, 3), (1000001, 700001), (1000002, 700002)] (add_call a4 x4.name 8 i4 0 (app_le hI4 (by omega))) ?_ ?_ ?_ ?_ | fail); rotate_left 0; exact rfl; (first | exact trivial | exact ⟨rfl, trivial⟩ | exact ⟨rfl, rfl, trivial⟩ | exact ⟨rfl, rfl, rfl, trivial⟩ | exact ⟨rfl, rfl, rfl, rfl, trivial⟩ | exact ⟨rfl, rfl, rfl, rfl, rfl, trivial⟩ | exact ⟨rfl, rfl, rfl, rfl, rfl, rfl, trivial⟩); exact rfl)
    | ((first | with_reducible refine lent_step [(1000000, 3), (1000001, 700001), (1000002, 700002)] (add_call a6 x6.name 9 i6 0 (app_le hI6 (by omega))) ?_ ?_ ?_ ?_ | with_reducible refine lent_step' [(1000000, 3), (1000001, 700001), (1000002, 700002)] (add_call a6 x6.name 9 i6 0 (app_le hI6 (by omega))) ?_ ?_ ?_ ?_ | fail); rotate_left 0; exact rfl; (first | exact trivial | exact ⟨rfl, trivial⟩ | exact ⟨rfl, rfl, trivial⟩ | exact ⟨rfl, rfl, rfl, trivial⟩ | exact ⟨rfl, rfl, rfl, rfl, trivial⟩ | exact ⟨rfl, rfl, rfl, rfl, rfl, trivial⟩ | exact ⟨rfl, rfl, rfl, rfl, rfl, rfl, trivial⟩); exact rfl)
    | ((first | with_reducible refine lent_step [(1000000, 3), (1000001, 700001), (1000002, 700002)] (add_call a8 x8.name 5 i8 (IntKind.i64.wrap ((i8 : Int) + 1)) (app_le hI8 (by omega))) ?_ ?_ ?_ ?_ | with_reducible refine lent_step' [(1000000, 3), (1000001, 700001), (1000002, 700002)] (add_call a8 x8.name 5 i8 (IntKind.i64.wrap ((i8 : Int) + 1)) (app_le hI8 (by omega))) ?_ ?_ ?_ ?_ | fail); rotate_left 0; exact rfl; (first | exact trivial | exact ⟨rfl, trivial⟩ | exact ⟨rfl, rfl, trivial⟩ | exact ⟨rfl, rfl, rfl, trivial⟩ | exact ⟨rfl, rfl, rfl, rfl, trivial⟩ | exact ⟨rfl, rfl, rfl, rfl, rfl, trivial⟩ | exact ⟨rfl, rfl, rfl, rfl, rfl, rfl, trivial⟩); exact rfl)
    | ((with_reducible refine ret_step ?_); refine fin_step' [(1000000, 113)] rfl ?_ ?_)
    | (with_reducible refine ChooseI.l _ ?_)
    | ((with_reducible refine nilgs_step ?_ ?_ ?_ ?_ ?_ ?_) <;> exact rfl)
    | ((with_reducible refine tok0_step ?_ ?_ ?_ ?_) <;> exact rfl)
    | ((with_reducible refine idx_step ?_ ?_ ?_ ?_ ?_); exact rfl; exact rfl; rotate_left; (first | with_reducible exact idx_get ‹_› | with_reducible exact idx_drop hd12 | with_reducible exact idx_take hd12 | with_reducible exact idx_zip1 hd12 | with_reducible exact idx_zip2 hd12 | with_reducible exact idx_zip1e hd12 | with_reducible exact idx_zip2e hd12 | with_reducible exact idx_drop_e hd12 | with_reducible exact idx_drop hd10 | with_reducible exact idx_take hd10 | with_reducible exact idx_zip1 hd10 | with_reducible exact idx_zip2 hd10 | with_reducible exact idx_zip1e hd10 | with_reducible exact idx_zip2e hd10 | with_reducible exact idx_drop_e hd10 | with_reducible exact idx_drop hd8 | with_reducible exact idx_take hd8 | with_reducible exact idx_zip1 hd8 | with_reducible exact idx_zip2 hd8 | with_reducible exact idx_zip1e hd8 | with_reducible exact idx_zip2e hd8 | with_reducible exact idx_drop_e hd8 | with_reducible exact idx_drop hd6 | with_reducible exact idx_take hd6 | with_reducible exact idx_zip1 hd6 | with_reducible exact idx_zip2 hd6 | with_reducible exact idx_zip1e hd6 | with_reducible exact idx_zip2e hd6 | with_reducible exact idx_drop_e hd6 | with_reducible exact idx_drop hd4 | with_reducible exact idx_take hd4 | with_reducible exact idx_zip1 hd4 | with_reducible exact idx_zip2 hd4 | with_reducible exact idx_zip1e hd4 | with_reducible exact idx_zip2e hd4 | with_reducible exact idx_drop_e hd4 | with_reducible exact idx_drop hd2 | with_reducible exact idx_take hd2 | with_reducible exact idx_zip1 hd2 | with_reducible exact idx_zip2 hd2 | with_reducible exact idx_zip1e hd2 | with_reducible exact idx_zip2e hd2 | with_reducible exact idx_drop_e hd2 | with_reducible exact idx_drop hd0 | with_reducible exact idx_take hd0 | with_reducible exact idx_zip1 hd0 | with_reducible exact idx_zip2 hd0 | with_reducible exact idx_zip1e hd0 | with_reducible exact idx_zip2e hd0 | with_reducible exact idx_drop_e hd0 | fail))
    | ((with_reducible refine len_step ?_ ?_); exact rfl)
    | ((with_reducible refine app_step' ?_ ?_ ?_ ?_ ?_ ?_ ?_); exact rfl; exact rfl; exact rfl; exact rfl)
    | ((with_reducible refine guard_step ?_ ?_ (fun hg => ?_) ?_); exact rfl)
    | ((with_reducible refine val_step ?_ ?_); with_reducible exact rfl; with_reducible exact rfl)
    | ((with_reducible refine same_step ?_ ?_); with_reducible exact rfl)
    | (with_reducible refine And.intro ?_ ?_)
    | ((with_reducible refine gs_eq ?_ ?_ ?_); exact rfl; exact rfl; (first | with_reducible exact map_app | with_reducible exact map_app3 | with_reducible exact map_app4 | exact map_snoc | exact rfl | skip))
    | exact @rfl AV _
    | exact @rfl Block _
    | exact @rfl (List AV) _
    | exact ble_le rfl
    | fail)
  all_goals (try simp only [Bool.cond_true_left, Bool.cond_false_right, Bool.cond_false_left, Bool.cond_true_right, Bool.not_eq_true', Bool.not_eq_false', bne, Ex.css_len, List.length_map, Int.toNat_zero] at *)
  all_goals first
    | omega
    | ((exact absurd h (by decide)))
    | ((exfalso; simp only [List.all_cons, Bool.and_eq_true] at hI10; have hk := hI10.1; simp only [nmOk] at hk; (try simp only [Bool.cond_false_right] at h); rw [hk] at h; exact absurd h (by decide)))
    | (((try (conv => whnf)); exact congrArg (Block.map false [KS.str]) (mput_snoc (uniq_at hU hI12))))
    | (((try (conv => whnf)); exact congrArg (fun l => Block.map false [KS.str] (mkM l)) (by simpa using hI12)))
    | (((try (conv => whnf)); exact congrArg (fun z : Nat => AV.data (D.val (Value.int IntKind.i64 (z : Int)))) (by show ([[D.str p.name]] ++ List.map nmC (decl p)).length = _; simp [fsts])))
    | (rfl)
    | (((with_reducible refine Eq.symm ?_); (with_reducible refine Eq.symm ?_); rw [T2, ← hI0]; simp [bounds, decN]; done))
    | (((with_reducible refine Eq.symm ?_); (with_reducible refine Eq.symm ?_); rw [T3, ← hI2]; simp [bounds, decN, lines]; done))
    | (((with_reducible refine Eq.symm ?_); (with_reducible refine Eq.symm ?_); rw [T4, ← hI4]; simp [decN, tables]; done))
    | (((with_reducible refine Eq.symm ?_); (with_reducible refine Eq.symm ?_); rw [decl, ← hI6]; simp [decN]; done))
    | ((have hz := app_le hI8 ht5; (try simp only [List.length_map]); omega))
    | ((show [[D.str p.name]] ++ List.map nmC (decl p) = _; simp [fsts]; done))
    | (((with_reducible refine Eq.symm ?_); (with_reducible refine Eq.symm ?_); rw [← hI12]; simp; done))
    | ((simp only [List.all_cons, Bool.and_eq_true] at hI10; exact hI10.2))
    | (((with_reducible refine Eq.symm ?_); (with_reducible refine Eq.symm ?_); rw [← hI6]; simp only [decN, bounds, List.map_cons, List.append_assoc, List.cons_append, List.nil_append]; done))
    | (((with_reducible refine Eq.symm ?_); (with_reducible refine Eq.symm ?_); rw [← hI4]; simp only [decN, bounds, List.map_cons, List.append_assoc, List.cons_append, List.nil_append]; done))
    | (((with_reducible refine Eq.symm ?_); (with_reducible refine Eq.symm ?_); rw [← hI2]; simp only [decN, bounds, List.map_cons, List.append_assoc, List.cons_append, List.nil_append]; done))
    | (((with_reducible refine Eq.symm ?_); (with_reducible refine Eq.symm ?_); rw [← hI0]; simp only [decN, bounds, List.map_cons, List.append_assoc, List.cons_append, List.nil_append]; done))
    | (((with_reducible refine Eq.symm ?_); (with_reducible refine Eq.symm ?_); rw [← hI8]; simp only [decS, h, Bool.false_eq_true, if_false]; done))
    | (((with_reducible refine Eq.symm ?_); (with_reducible refine Eq.symm ?_); rw [show IntKind.i64.wrap ((i8 : Int) + 1) = (i8 : Int) + 1 from wrap_ok (by omega) (by omega), ← hI8]; simp only [decS, h, if_true, List.append_assoc, List.cons_append, List.nil_append]; done))
    | skip
end Go.Proofs.YtjgponkgifopaaaGreatDoor
