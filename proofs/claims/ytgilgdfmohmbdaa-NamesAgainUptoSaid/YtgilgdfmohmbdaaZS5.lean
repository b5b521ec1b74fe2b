/- Contracts: package names: ranged. -/
import Derived.Test.YtgilgdfmohmbdaaZS12
import Derived.Test.YtgilgdfmohmbdaaZD
set_option linter.unusedSimpArgs false
set_option linter.unusedVariables false
namespace Go.Proofs.Ytgilgdfmohmbdaa
open Go.Fw Go.Fw.Nam Go.Fw.Ref15
set_option maxRecDepth 10000
set_option linter.unusedSectionVars false
variable [GlobInt]
set_option maxHeartbeats 400000 in
theorem concat2_call (ls : List (List Bd)) (hs : lens ls ≤ 1073741824) (hn : ls.length ≤ 1073741824) : LCall Try.prog 56 [.gs 1000001 1 (ls.map bdsC)] [(1000001, .tok 1 (ls.map bdsC).length)] (.ret (.gs 1000000 3 (ls.flatten.map Bd.cs))) [(1000000, .tok 3 (ls.flatten.map Bd.cs).length), (1000001, .tok 1 (ls.map bdsC).length)] := by
  refine lcall_of_wc tok hmix ⟨[], []⟩ Try.func56 rfl (by kernel_rfl) (by kernel_rfl) (by kernel_rfl) fun hf => ?_
  have hlen : ls.length ≤ 9223372036854775807 := by omega
  clear hf
  repeat' ((try (conv => whnf)) <;> first
    | with_reducible exact trivial
    | with_reducible exact rfl
    | with_reducible exact idx_next hd2 ‹_›
    | with_reducible exact idx_next hd0 ‹_›
    | with_reducible refine BrI.tt ?_
    | with_reducible refine BrI.ff ?_
    | with_reducible refine br_nil hd2 ?_
    | with_reducible refine br_nil hd0 ?_
    | with_reducible refine br_cons hd2 ?_
    | with_reducible refine br_cons hd0 ?_
    | ((with_reducible refine br_nil_k hd2 ?_ ?_); (first | exact rfl | assumption | fail))
    | ((with_reducible refine br_nil_k hd0 ?_ ?_); (first | exact rfl | assumption | fail))
    | ((with_reducible refine br_cons_k hd2 ?_ ?_); (first | exact rfl | assumption | fail))
    | ((with_reducible refine br_cons_k hd0 ?_ ?_); (first | exact rfl | assumption | fail))
    | with_reducible refine br_nil_and hd2 ?_
    | with_reducible refine br_nil_and hd0 ?_
    | with_reducible refine br_cons_and hd2 ?_
    | with_reducible refine br_cons_and hd0 ?_
    | with_reducible refine br_nil_e hd2 ?_
    | with_reducible refine br_nil_e hd0 ?_
    | with_reducible refine br_cons_e hd2 ?_
    | with_reducible refine br_cons_e hd0 ?_
    | with_reducible refine BrI.intro (fun h => ?_) (fun h => ?_)
    | ((with_reducible refine LoopAt.mk 0 ?_); refine ⟨rangeL (ls) 11 (fun (n : (Nat)) => [(3, .data (.val (.int .i64 (n : Int))))]) (fun (n : (Nat)) => [(1000001, .tok 1 (ls.map bdsC).length)]) [0, 9, 10] (fun i0 r0 n => lens ls = n + lens r0), ?_⟩; with_reducible refine rangeL_rule (0) ?_ ?_ (fun i0 (n : (Nat)) hd0 hI0 => ?_) (fun i0 x0 r0 (n : (Nat)) hd0 hl0 hI0 => ?_))
    | (with_reducible refine rangeL_next hd0 (n + x0.length) ?_ ?_)
    | ((with_reducible refine LoopAt.mk 2 ?_); refine ⟨rangeL (ls) 27 (fun (out : (List Bd)) => [(6, .gs 800000 3 (out.map Bd.cs))]) (fun (out : (List Bd)) => [(1000001, .tok 1 (ls.map bdsC).length), (800000, .tok 3 (out.map Bd.cs).length)]) [25, 26] (fun i2 r2 out => ls.flatten = out ++ r2.flatten), ?_⟩; with_reducible refine rangeL_rule [] ?_ ?_ (fun i2 (out : (List Bd)) hd2 hI2 => ?_) (fun i2 x2 r2 (out : (List Bd)) hd2 hl2 hI2 => ?_))
    | (with_reducible refine rangeL_next hd2 ?_ ?_ ?_)
    | ((first | with_reducible refine lent_step [(1000000, 800000)] (growB_call n (by rw [lens_nil] at hI0; omega)) ?_ ?_ ?_ ?_ | with_reducible refine lent_step' [(1000000, 800000)] (growB_call n (by rw [lens_nil] at hI0; omega)) ?_ ?_ ?_ ?_ | fail); rotate_left 0; exact rfl; (first | exact trivial | exact ⟨rfl, trivial⟩ | exact ⟨rfl, rfl, trivial⟩ | exact ⟨rfl, rfl, rfl, trivial⟩ | exact ⟨rfl, rfl, rfl, rfl, trivial⟩ | exact ⟨rfl, rfl, rfl, rfl, rfl, trivial⟩ | exact ⟨rfl, rfl, rfl, rfl, rfl, rfl, trivial⟩); exact rfl)
    | ((with_reducible refine pan_stepA ?_); refine fin_step' [(1000000, 800000), (1000001, 1000001)] rfl ?_ ?_)
    | ((with_reducible refine ret_step ?_); refine fin_step' [(1000000, 800000), (1000001, 1000001)] rfl ?_ ?_)
    | (with_reducible refine fin_step' [(1000000, 800000), (1000001, 1000001)] ?_ ?_ ?_; exact rfl)
    | with_reducible refine str_idx hd2 ?_
    | with_reducible refine str_idx hd0 ?_
    | (with_reducible refine ChooseI.l _ ?_)
    | ((with_reducible refine nilgs_step ?_ ?_ ?_ ?_ ?_ ?_) <;> exact rfl)
    | ((with_reducible refine tok0_step ?_ ?_ ?_ ?_) <;> exact rfl)
    | ((with_reducible refine kok_step ?_ ?_ ?_); exact rfl; exact rfl)
    | ((with_reducible refine idx_step ?_ ?_ ?_ ?_ ?_); exact rfl; exact rfl; rotate_left; (first | with_reducible exact idx_get ‹_› | with_reducible exact idx_drop hd2 | with_reducible exact idx_take hd2 | with_reducible exact idx_zip1 hd2 | with_reducible exact idx_zip2 hd2 | with_reducible exact idx_zip1e hd2 | with_reducible exact idx_zip2e hd2 | with_reducible exact idx_drop_e hd2 | with_reducible exact idx_drop hd0 | with_reducible exact idx_take hd0 | with_reducible exact idx_zip1 hd0 | with_reducible exact idx_zip2 hd0 | with_reducible exact idx_zip1e hd0 | with_reducible exact idx_zip2e hd0 | with_reducible exact idx_drop_e hd0 | fail))
    | ((with_reducible refine len_step ?_ ?_); exact rfl)
    | ((with_reducible refine app_step' ?_ ?_ ?_ ?_ ?_ ?_ ?_); exact rfl; exact rfl; exact rfl; exact rfl)
    | ((with_reducible refine nil_step' ?_ ?_ ?_ ?_); exact rfl; exact rfl)
    | ((with_reducible refine guard_step ?_ ?_ (fun hg => ?_) ?_); exact rfl)
    | ((with_reducible refine val_step ?_ ?_); with_reducible exact rfl; with_reducible exact rfl)
    | ((with_reducible refine same_step ?_ ?_); with_reducible exact rfl)
    | ((with_reducible refine chk_step ?_ ?_); kernel_rfl)
    | ((with_reducible refine ret_need ?_ ?_); rotate_left; refine ⟨[], rfl, ?_, trivial⟩; conv => whnf)
    | ((with_reducible refine pan_need ?_ ?_); rotate_left; refine ⟨[], rfl, ?_, trivial⟩; conv => whnf)
    | ((with_reducible refine pan_step ?_); refine ⟨[], rfl, ?_, trivial⟩; conv => whnf)
    | (with_reducible refine And.intro ?_ ?_)
    | ((with_reducible refine gs_eq ?_ ?_ ?_); exact rfl; exact rfl; (first | with_reducible exact map_app | with_reducible exact map_app3 | with_reducible exact map_app4 | exact map_snoc | exact rfl | skip))
    | ((with_reducible refine tok_eq ?_ ?_); exact rfl; (first | with_reducible exact map_app | with_reducible exact map_app3 | with_reducible exact map_app4 | exact map_snoc | exact rfl | skip))
    | ((with_reducible refine ren_guard ?_); refine gs_ren ?_ ?_ ?_; exact rfl; exact rfl; (first | exact rfl | skip))
    | exact @rfl AV _
    | exact @rfl Block _
    | exact @rfl (List AV) _
    | exact ble_le rfl
    | fail)
  all_goals (try simp only [Bool.cond_true_left, Bool.cond_false_right, Bool.cond_false_left, Bool.cond_true_right, Bool.not_eq_true', Bool.not_eq_false', bne, Ex.css_len, List.length_map, Int.toNat_zero] at *)
  all_goals first
    | omega
    | ((rw [lens_cons] at hI0; omega))
    | ((have hq := congrArg List.length hI2; simp only [lens_flat, List.length_append, lens_cons, List.length_map] at hq ⊢; omega))
    | ((rw [hI2]; simp; done))
    | ((rw [lens_cons] at hI0; exact congrArg (fun z => D.val (Value.int IntKind.i64 z)) (wrap_nat (b := x0.length) (by omega))))
    | ((exfalso; rw [lens_cons] at hI0; rw [wrap_nat (b := x0.length) (by omega), decide_eq_true_eq] at h; omega))
    | ((rw [lens_cons] at hI0; (try (conv => whnf)); exact congrArg (fun z => AV.data (D.val (Value.int IntKind.i64 z))) (wrap_nat (b := x0.length) (by omega))))
    | (rfl)
    | (exfalso; simp_all; done)
    | skip
set_option maxHeartbeats 400000 in
theorem rangedP_call (p : Pr) (hp : p.Small) : PCall Try.prog 32 [p.d] (needOut 30 (Nam.ranged p) 161) := by
  refine pcall_of_wc tok hmix ⟨[], []⟩ Try.func32 rfl (by kernel_rfl) (by kernel_rfl) (by kernel_rfl) fun hf => ?_
  have hq := Pr.fits (hf p.d (by simp))
  have hs1 := hp.params; have hs2 := hp.states; have hs3 := hp.lines; have hlb := allB_len hp
  have hlen3 := hq.lines; have hlen4 := hq.tables; have hlen5 := hq.stmts
  have hlen2 : (allB p).length ≤ 9223372036854775807 := by omega
  clear hf
  repeat' ((try (conv => whnf)) <;> first
    | with_reducible exact trivial
    | with_reducible exact rfl
    | with_reducible exact idx_next hd6 ‹_›
    | with_reducible exact idx_next hd4 ‹_›
    | with_reducible exact idx_next hd2 ‹_›
    | with_reducible exact idx_next hd0 ‹_›
    | with_reducible refine BrI.tt ?_
    | with_reducible refine BrI.ff ?_
    | with_reducible refine br_nil hd6 ?_
    | with_reducible refine br_nil hd4 ?_
    | with_reducible refine br_nil hd2 ?_
    | with_reducible refine br_nil hd0 ?_
    | with_reducible refine br_cons hd6 ?_
    | with_reducible refine br_cons hd4 ?_
    | with_reducible refine br_cons hd2 ?_
    | with_reducible refine br_cons hd0 ?_
    | ((with_reducible refine br_nil_k hd6 ?_ ?_); (first | exact rfl | assumption | fail))
    | ((with_reducible refine br_nil_k hd4 ?_ ?_); (first | exact rfl | assumption | fail))
    | ((with_reducible refine br_nil_k hd2 ?_ ?_); (first | exact rfl | assumption | fail))
    | ((with_reducible refine br_nil_k hd0 ?_ ?_); (first | exact rfl | assumption | fail))
    | ((with_reducible refine br_cons_k hd6 ?_ ?_); (first | exact rfl | assumption | fail))
    | ((with_reducible refine br_cons_k hd4 ?_ ?_); (first | exact rfl | assumption | fail))
    | ((with_reducible refine br_cons_k hd2 ?_ ?_); (first | exact rfl | assumption | fail))
    | ((with_reducible refine br_cons_k hd0 ?_ ?_); (first | exact rfl | assumption | fail))
    | with_reducible refine br_nil_and hd6 ?_
    | with_reducible refine br_nil_and hd4 ?_
    | with_reducible refine br_nil_and hd2 ?_
    | with_reducible refine br_nil_and hd0 ?_
    | with_reducible refine br_cons_and hd6 ?_
    | with_reducible refine br_cons_and hd4 ?_
    | with_reducible refine br_cons_and hd2 ?_
    | with_reducible refine br_cons_and hd0 ?_
    | with_reducible refine br_nil_e hd6 ?_
    | with_reducible refine br_nil_e hd4 ?_
    | with_reducible refine br_nil_e hd2 ?_
    | with_reducible refine br_nil_e hd0 ?_
    | with_reducible refine br_cons_e hd6 ?_
    | with_reducible refine br_cons_e hd4 ?_
    | with_reducible refine br_cons_e hd2 ?_
    | with_reducible refine br_cons_e hd0 ?_
    | with_reducible refine BrI.intro (fun h => ?_) (fun h => ?_)
    | with_reducible refine need_step (need_call _ _) (fun h => ?_) (fun h => ?_)
    | with_reducible refine need_step (eachF_call _) (fun h => ?_) (fun h => ?_)
    | with_reducible refine need_step (eachR_call _) (fun h => ?_) (fun h => ?_)
    | with_reducible refine need_step (ranged2_call _) (fun h => ?_) (fun h => ?_)
    | ((with_reducible refine LoopAt.mk 0 ?_); refine ⟨rangeL (p.lines) 20 (fun (out : (List Bd)) => [(2, .gs 800000 3 (out.map Bd.cs))]) (fun (out : (List Bd)) => [(1, .cells (p.cs.map .data)), (800000, .tok 3 (out.map Bd.cs).length)]) [1, 18, 19] (fun i0 r0 out => allB p = out ++ r0.map lnB), ?_⟩; with_reducible refine rangeL_rule ([p.params, p.states].flatten) ?_ ?_ (fun i0 (out : (List Bd)) hd0 hI0 => ?_) (fun i0 x0 r0 (out : (List Bd)) hd0 hl0 hI0 => ?_))
    | (with_reducible refine rangeL_next hd0 (out ++ [lnB x0]) ?_ ?_)
    | ((with_reducible refine LoopAt.mk 2 ?_); have hob : out = allB p := (by simpa using hI0.symm); subst hob; refine ⟨rangeL (allB p) 35 (fun (_ : Unit) => [(33, .gs 800000 3 ((allB p).map Bd.cs)), (34, .data (.val (.int .i64 ((allB p).length : Nat))))]) (fun (_ : Unit) => [(1, .cells (p.cs.map .data))]) [1] (fun i2 r2 _ => Nam.ranged p = (r2.all bd1 && (p.tables.all tb2 && p.stmts.all sm2))), ?_⟩; with_reducible refine rangeL_rule () ?_ ?_ (fun i2 (_ : Unit) hd2 hI2 => ?_) (fun i2 x2 r2 (_ : Unit) hd2 hl2 hI2 => ?_))
    | (with_reducible refine rangeL_next hd2 () ?_ ?_)
    | ((with_reducible refine LoopAt.mk 4 ?_); refine ⟨rangeL (p.tables) 59 (fun (_ : Unit) => []) (fun (_ : Unit) => [(1, .cells (p.cs.map .data))]) [1, 57, 58] (fun i4 r4 _ => Nam.ranged p = (r4.all tb2 && p.stmts.all sm2)), ?_⟩; with_reducible refine rangeL_rule () ?_ ?_ (fun i4 (_ : Unit) hd4 hI4 => ?_) (fun i4 x4 r4 (_ : Unit) hd4 hl4 hI4 => ?_))
    | (with_reducible refine rangeL_next hd4 () ?_ ?_)
    | ((with_reducible refine LoopAt.mk 6 ?_); refine ⟨rangeL (p.stmts) 72 (fun (_ : Unit) => []) (fun (_ : Unit) => [(1, .cells (p.cs.map .data))]) [70, 71] (fun i6 r6 _ => Nam.ranged p = r6.all sm2), ?_⟩; with_reducible refine rangeL_rule () ?_ ?_ (fun i6 (_ : Unit) hd6 hI6 => ?_) (fun i6 x6 r6 (_ : Unit) hd6 hl6 hI6 => ?_))
    | (with_reducible refine rangeL_next hd6 () ?_ ?_)
    | ((with_reducible refine call_step ?_ ?_ ?_); rotate_left; (first | exact sample_call _ | exact containsBad_call _ | exact ranged1_call _ | fail))
    | ((first | with_reducible refine lent_step [(1000000, 800000), (1000001, 15)] (concat2_call [p.params, p.states] (by simp [lens]; omega) (by simp)) ?_ ?_ ?_ ?_ | with_reducible refine lent_step' [(1000000, 800000), (1000001, 15)] (concat2_call [p.params, p.states] (by simp [lens]; omega) (by simp)) ?_ ?_ ?_ ?_ | fail); rotate_left 0; exact rfl; (first | exact trivial | exact ⟨rfl, trivial⟩ | exact ⟨rfl, rfl, trivial⟩ | exact ⟨rfl, rfl, rfl, trivial⟩ | exact ⟨rfl, rfl, rfl, rfl, trivial⟩ | exact ⟨rfl, rfl, rfl, rfl, rfl, trivial⟩ | exact ⟨rfl, rfl, rfl, rfl, rfl, rfl, trivial⟩); exact rfl)
    | ((first | with_reducible refine lent_step [(1000000, 800100)] (concat_call ?_ ?_ ?_) ?_ ?_ ?_ ?_ | with_reducible refine lent_step' [(1000000, 800100)] (concat_call ?_ ?_ ?_) ?_ ?_ ?_ ?_ | fail); rotate_left 3; exact rfl; (first | exact trivial | exact ⟨rfl, trivial⟩ | exact ⟨rfl, rfl, trivial⟩ | exact ⟨rfl, rfl, rfl, trivial⟩ | exact ⟨rfl, rfl, rfl, rfl, trivial⟩ | exact ⟨rfl, rfl, rfl, rfl, rfl, trivial⟩ | exact ⟨rfl, rfl, rfl, rfl, rfl, rfl, trivial⟩); exact rfl)
    | ((first | with_reducible refine lent_step [(1000000, 800200), (1000001, 800201)] (concat2_call ?_ ?_ ?_) ?_ ?_ ?_ ?_ | with_reducible refine lent_step' [(1000000, 800200), (1000001, 800201)] (concat2_call ?_ ?_ ?_) ?_ ?_ ?_ ?_ | fail); rotate_left 3; exact rfl; (first | exact trivial | exact ⟨rfl, trivial⟩ | exact ⟨rfl, rfl, trivial⟩ | exact ⟨rfl, rfl, rfl, trivial⟩ | exact ⟨rfl, rfl, rfl, rfl, trivial⟩ | exact ⟨rfl, rfl, rfl, rfl, rfl, trivial⟩ | exact ⟨rfl, rfl, rfl, rfl, rfl, rfl, trivial⟩); exact rfl)
    | ((first | with_reducible refine lent_step [(1000000, 800300)] (eachN_call ?_ ?_ ?_) ?_ ?_ ?_ ?_ | with_reducible refine lent_step' [(1000000, 800300)] (eachN_call ?_ ?_ ?_) ?_ ?_ ?_ ?_ | fail); rotate_left 3; exact rfl; (first | exact trivial | exact ⟨rfl, trivial⟩ | exact ⟨rfl, rfl, trivial⟩ | exact ⟨rfl, rfl, rfl, trivial⟩ | exact ⟨rfl, rfl, rfl, rfl, trivial⟩ | exact ⟨rfl, rfl, rfl, rfl, rfl, trivial⟩ | exact ⟨rfl, rfl, rfl, rfl, rfl, rfl, trivial⟩); exact rfl)
    | with_reducible refine str_idx hd6 ?_
    | with_reducible refine str_idx hd4 ?_
    | with_reducible refine str_idx hd2 ?_
    | with_reducible refine str_idx hd0 ?_
    | (with_reducible refine ChooseI.l _ ?_)
    | ((with_reducible refine nilgs_step ?_ ?_ ?_ ?_ ?_ ?_) <;> exact rfl)
    | ((with_reducible refine tok0_step ?_ ?_ ?_ ?_) <;> exact rfl)
    | ((with_reducible refine kok_step ?_ ?_ ?_); exact rfl; exact rfl)
    | ((with_reducible refine idx_step ?_ ?_ ?_ ?_ ?_); exact rfl; exact rfl; rotate_left; (first | with_reducible exact idx_get ‹_› | with_reducible exact idx_drop hd6 | with_reducible exact idx_take hd6 | with_reducible exact idx_zip1 hd6 | with_reducible exact idx_zip2 hd6 | with_reducible exact idx_zip1e hd6 | with_reducible exact idx_zip2e hd6 | with_reducible exact idx_drop_e hd6 | with_reducible exact idx_drop hd4 | with_reducible exact idx_take hd4 | with_reducible exact idx_zip1 hd4 | with_reducible exact idx_zip2 hd4 | with_reducible exact idx_zip1e hd4 | with_reducible exact idx_zip2e hd4 | with_reducible exact idx_drop_e hd4 | with_reducible exact idx_drop hd2 | with_reducible exact idx_take hd2 | with_reducible exact idx_zip1 hd2 | with_reducible exact idx_zip2 hd2 | with_reducible exact idx_zip1e hd2 | with_reducible exact idx_zip2e hd2 | with_reducible exact idx_drop_e hd2 | with_reducible exact idx_drop hd0 | with_reducible exact idx_take hd0 | with_reducible exact idx_zip1 hd0 | with_reducible exact idx_zip2 hd0 | with_reducible exact idx_zip1e hd0 | with_reducible exact idx_zip2e hd0 | with_reducible exact idx_drop_e hd0 | fail))
    | ((with_reducible refine len_step ?_ ?_); exact rfl)
    | ((with_reducible refine app_step' ?_ ?_ ?_ ?_ ?_ ?_ ?_); exact rfl; exact rfl; exact rfl; exact rfl)
    | ((with_reducible refine nil_step' ?_ ?_ ?_ ?_); exact rfl; exact rfl)
    | ((with_reducible refine guard_step ?_ ?_ (fun hg => ?_) ?_); exact rfl)
    | ((with_reducible refine val_step ?_ ?_); with_reducible exact rfl; with_reducible exact rfl)
    | ((with_reducible refine same_step ?_ ?_); with_reducible exact rfl)
    | ((with_reducible refine chk_step ?_ ?_); kernel_rfl)
    | ((with_reducible refine ret_step ?_); refine ⟨[], rfl, ?_, trivial⟩; conv => whnf)
    | ((with_reducible refine ret_need ?_ ?_); rotate_left; refine ⟨[], rfl, ?_, trivial⟩; conv => whnf)
    | ((with_reducible refine pan_need ?_ ?_); rotate_left; refine ⟨[], rfl, ?_, trivial⟩; conv => whnf)
    | ((with_reducible refine pan_step ?_); refine ⟨[], rfl, ?_, trivial⟩; conv => whnf)
    | (with_reducible refine And.intro ?_ ?_)
    | ((with_reducible refine gs_eq ?_ ?_ ?_); exact rfl; exact rfl; (first | with_reducible exact map_app | with_reducible exact map_app3 | with_reducible exact map_app4 | exact map_snoc | exact rfl | skip))
    | ((with_reducible refine tok_eq ?_ ?_); exact rfl; (first | with_reducible exact map_app | with_reducible exact map_app3 | with_reducible exact map_app4 | exact map_snoc | exact rfl | skip))
    | ((with_reducible refine ren_guard ?_); refine gs_ren ?_ ?_ ?_; exact rfl; exact rfl; (first | exact rfl | skip))
    | exact @rfl AV _
    | exact @rfl Block _
    | exact @rfl (List AV) _
    | exact ble_le rfl
    | fail)
  all_goals (try simp only [Bool.cond_true_left, Bool.cond_false_right, Bool.cond_false_left, Bool.cond_true_right, Bool.not_eq_true', Bool.not_eq_false', bne, Ex.css_len, List.length_map, Int.toNat_zero] at *)
  all_goals first
    | omega
    | ((have hz := congrArg List.length hI0; (try simp only [List.length_map, List.length_append, List.length_cons] at hz ⊢); omega))
    | (rfl)
    | ((refine Eq.trans ?_ map_snoc; rfl))
    | ((rw [hI0]; simp; done))
    | ((rw [hI6]; simp only [List.all_cons, List.all_nil, bd1, tb2, sm2, h, Bool.true_and, Bool.false_and, Bool.not_false, Bool.not_true]; done))
    | ((rw [hI4]; simp only [List.all_cons, List.all_nil, bd1, tb2, sm2, h, Bool.true_and, Bool.false_and, Bool.not_false, Bool.not_true]; done))
    | ((rw [hI2]; simp only [List.all_cons, List.all_nil, bd1, tb2, sm2, h, Bool.true_and, Bool.false_and, Bool.not_false, Bool.not_true]; done))
    | ((rw [hI0]; simp only [List.all_cons, List.all_nil, bd1, tb2, sm2, h, Bool.true_and, Bool.false_and, Bool.not_false, Bool.not_true]; done))
    | ((rw [hI6]; simp only [List.all_cons, List.all_nil, Bool.true_and, Bool.false_and]; done))
    | ((rw [hI4]; simp only [List.all_cons, List.all_nil, Bool.true_and, Bool.false_and]; done))
    | ((rw [hI2]; simp only [List.all_cons, List.all_nil, Bool.true_and, Bool.false_and]; done))
    | ((rw [hI0]; simp only [List.all_cons, List.all_nil, Bool.true_and, Bool.false_and]; done))
    | (exfalso; simp_all; done)
    | skip
end Go.Proofs.Ytgilgdfmohmbdaa

