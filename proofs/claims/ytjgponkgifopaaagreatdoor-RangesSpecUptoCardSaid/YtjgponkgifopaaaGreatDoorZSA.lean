/- Contracts: package lex: names; package names: declaring. -/
import Derived.Test.YtjgponkgifopaaaGreatDoorZNX
import Derived.Test.YtjgponkgifopaaaGreatDoorZE1
import Derived.Test.YtjgponkgifopaaaGreatDoorZDB
set_option linter.unusedSimpArgs false
set_option linter.unusedVariables false
namespace Go.Proofs.YtjgponkgifopaaaGreatDoor
open Go.Fw Go.Fw.Nam Go.Fw.Ref15
set_option maxRecDepth 10000
set_option linter.unusedSectionVars false
variable [GlobInt]
set_option maxHeartbeats 400000 in
theorem class_call (c : UInt8)  : PCall Tryz.prog 126 [D.u8 c] (.ret (.i (cls c))) := by
  refine pcall_of_wc tok hmix ⟨[], []⟩ Tryz.func126 rfl (by kernel_rfl) (by kernel_rfl) (by kernel_rfl) fun hf => ?_
  clear hf
  repeat' ((try (conv => whnf)) <;> first
    | with_reducible refine BrI.intro (fun h => ?_) (fun h => ?_)
    | ((with_reducible refine call_step ?_ ?_ ?_); rotate_left; (first | exact indexByte_call _ _ | fail))
    | ((with_reducible refine ret_step ?_); refine ⟨[], rfl, ?_, trivial⟩; conv => whnf)
    | fail)
  all_goals (try simp only [Bool.cond_true_left, Bool.cond_false_right, Bool.cond_false_left, Bool.cond_true_right, Bool.not_eq_true', Bool.not_eq_false', bne, Ex.css_len, List.length_map, Int.toNat_zero] at *)
  all_goals first
    | ((refine congrArg (fun z => D.val (Value.int IntKind.i64 z)) ?_; simp only [cls, Ref03.letter, Ref03.figure, if_true, if_false, Bool.false_eq_true, reduceIte, *]; first | done | exact (if_pos (by assumption)).symm | exact (if_neg (ne_true_of_eq_false (by assumption))).symm))
    | skip
set_option maxHeartbeats 400000 in
theorem lname_call (s : Str)  : PCall Tryz.prog 114 [.str s] (.ret (.b (lname s))) := by
  refine pcall_of_wc tok hmix ⟨[], []⟩ Tryz.func114 rfl (by kernel_rfl) (by kernel_rfl) (by kernel_rfl) fun hf => ?_
  clear hf
  repeat' ((try (conv => whnf)) <;> first
    | with_reducible exact trivial
    | with_reducible exact idx_next hd0 ‹_›
    | ((with_reducible refine br_nil_k hd0 ?_ ?_); (first | exact rfl | assumption | fail))
    | ((with_reducible refine br_cons_k hd0 ?_ ?_); (first | exact rfl | assumption | fail))
    | with_reducible refine BrI.intro (fun h => ?_) (fun h => ?_)
    | ((with_reducible refine str_getD ?_ ?_ ?_); decide; (simp [wantB] at hg; have := List.length_pos_iff.2 hg.1; omega))
    | ((with_reducible refine LoopAt.mk 0 ?_); have hlen : s.length ≤ 9223372036854775807 := (by simp only [Bool.cond_true_left, Bool.or_eq_false_iff, decide_eq_false_iff_not] at h; omega); refine ⟨rangeL (s) 20 (fun (_ : Unit) => []) (fun (_ : Unit) => []) [0, 19] (fun i0 r0 _ => lname s = r0.all clsOk), ?_⟩; with_reducible refine rangeL_rule () ?_ ?_ (fun i0 (_ : Unit) hd0 hI0 => ?_) (fun i0 x0 r0 (_ : Unit) hd0 hl0 hI0 => ?_))
    | (with_reducible refine rangeL_next hd0 () ?_ ?_)
    | ((with_reducible refine call_step ?_ ?_ ?_); rotate_left; (first | exact class_call _ | fail))
    | with_reducible refine str_idx hd0 ?_
    | ((with_reducible refine guard_step ?_ ?_ (fun hg => ?_) ?_); exact rfl)
    | ((with_reducible refine val_step ?_ ?_); with_reducible exact rfl; with_reducible exact rfl)
    | ((with_reducible refine ret_step ?_); refine ⟨[], rfl, ?_, trivial⟩; conv => whnf)
    | (with_reducible refine And.intro ?_ ?_)
    | exact @rfl AV _
    | fail)
  all_goals (try simp only [Bool.cond_true_left, Bool.cond_false_right, Bool.cond_false_left, Bool.cond_true_right, Bool.not_eq_true', Bool.not_eq_false', bne, Ex.css_len, List.length_map, Int.toNat_zero] at *)
  all_goals first
    | (rw [hI0]; (try simp only [lname, clsOk, Bool.not_true, Bool.not_false, Bool.and_true, Bool.true_and, Bool.and_false, Bool.false_and, Bool.or_true, Bool.true_or, Bool.or_false, Bool.false_or, if_true, if_false, reduceIte, Bool.false_eq_true, Bool.not_not, Bool.not_eq_true', beq_self_eq_true, List.all_cons, List.all_nil, List.any_cons, List.any_nil, List.length_map, bne, eq_self, Int.toNat_zero, *]); first | done | rfl)
    | (simp only [lname, clsOk, Bool.not_true, Bool.not_false, Bool.and_true, Bool.true_and, Bool.and_false, Bool.false_and, Bool.or_true, Bool.true_or, Bool.or_false, Bool.false_or, if_true, if_false, reduceIte, Bool.false_eq_true, Bool.not_not, Bool.not_eq_true', beq_self_eq_true, List.all_cons, List.all_nil, List.any_cons, List.any_nil, List.length_map, bne, eq_self, Int.toNat_zero, *]; done)
    | skip
set_option maxHeartbeats 400000 in
theorem add_call (l : List Pe) (name : Str) (k i f : Int) (hl : l.length ≤ 1073741824) : LCall Tryz.prog 113 [.ptr 1000000 0, .data (.str name), .data (.i k), .data (.i i), .data (.i f)] [(1000000, .cells [.gs 1000001 1 (l.map nmC), .gs 1000002 3 (l.map enC)]), (1000001, .tok 1 (l.map nmC).length), (1000002, .tok 3 (l.map enC).length)] (.ret (.data (.tuple []))) [(1000000, .cells [.gs 1000001 1 ((l ++ [(name, En.mk k i f)]).map nmC), .gs 1000002 3 ((l ++ [(name, En.mk k i f)]).map enC)]), (1000001, .tok 1 ((l ++ [(name, En.mk k i f)]).map nmC).length), (1000002, .tok 3 ((l ++ [(name, En.mk k i f)]).map enC).length)] := by
  refine lcall_of_wc tok hmix ⟨[], []⟩ Tryz.func113 rfl (by kernel_rfl) (by kernel_rfl) (by kernel_rfl) fun hf => ?_
  clear hf
  repeat' ((try (conv => whnf)) <;> first
    | with_reducible exact trivial
    | ((with_reducible refine ret_step ?_); refine fin_step' [] rfl ?_ ?_)
    | (with_reducible refine ChooseI.l _ ?_)
    | ((with_reducible refine app_step' ?_ ?_ ?_ ?_ ?_ ?_ ?_); exact rfl; exact rfl; exact rfl; exact rfl)
    | ((with_reducible refine chk_step ?_ ?_); kernel_rfl)
    | (with_reducible refine And.intro ?_ ?_)
    | ((with_reducible refine tok_eq ?_ ?_); exact rfl; (first | with_reducible exact map_app | with_reducible exact map_app3 | with_reducible exact map_app4 | exact map_snoc | exact rfl | skip))
    | ((with_reducible refine ren_guard ?_); refine gs_ren ?_ ?_ ?_; exact rfl; exact rfl; (first | exact rfl | skip))
    | exact ble_le rfl
    | fail)
  all_goals (try simp only [Bool.cond_true_left, Bool.cond_false_right, Bool.cond_false_left, Bool.cond_true_right, Bool.not_eq_true', Bool.not_eq_false', bne, Ex.css_len, List.length_map, Int.toNat_zero] at *)
  all_goals first
    | omega
    | ((simp only [List.map_append, List.map_cons, List.map_nil]; rfl))
    | skip
end Go.Proofs.YtjgponkgifopaaaGreatDoor

namespace Go.Proofs.YtjgponkgifopaaaGreatDoor
open Go.Fw Go.Fw.Nam Go.Fw.Ref15
set_option maxRecDepth 10000
set_option linter.unusedSectionVars false
variable [GlobInt]
set_option maxHeartbeats 400000 in
theorem concat_call (ls : List (List Bd)) (hs : lens ls ≤ 1073741824) (hn : ls.length ≤ 1073741824) : LCall Tryz.prog 116 [.data (.sl 1 (ls.map bdsC))] [] (.ret (.gs 1000000 3 (ls.flatten.map Bd.cs))) [(1000000, .tok 3 (ls.flatten.map Bd.cs).length)] := by
  refine lcall_of_wc tok hmix ⟨[], []⟩ Tryz.func116 rfl (by kernel_rfl) (by kernel_rfl) (by kernel_rfl) fun hf => ?_
  have hlen : ls.length ≤ 9223372036854775807 := by omega
  clear hf
  repeat' ((try (conv => whnf)) <;> first
    | with_reducible exact trivial
    | with_reducible exact idx_next hd2 ‹_›
    | with_reducible exact idx_next hd0 ‹_›
    | with_reducible refine br_nil hd2 ?_
    | with_reducible refine br_nil hd0 ?_
    | with_reducible refine br_cons hd2 ?_
    | with_reducible refine br_cons hd0 ?_
    | with_reducible refine BrI.intro (fun h => ?_) (fun h => ?_)
    | ((with_reducible refine LoopAt.mk 0 ?_); refine ⟨rangeL (ls) 11 (fun (n : (Nat)) => [(3, .data (.val (.int .i64 (n : Int))))]) (fun (n : (Nat)) => []) [0, 9, 10] (fun i0 r0 n => lens ls = n + lens r0), ?_⟩; with_reducible refine rangeL_rule (0) ?_ ?_ (fun i0 (n : (Nat)) hd0 hI0 => ?_) (fun i0 x0 r0 (n : (Nat)) hd0 hl0 hI0 => ?_))
    | (with_reducible refine rangeL_next hd0 (n + x0.length) ?_ ?_)
    | ((with_reducible refine LoopAt.mk 2 ?_); refine ⟨rangeL (ls) 27 (fun (out : (List Bd)) => [(6, .gs 800000 3 (out.map Bd.cs))]) (fun (out : (List Bd)) => [(800000, .tok 3 (out.map Bd.cs).length)]) [25, 26] (fun i2 r2 out => ls.flatten = out ++ r2.flatten), ?_⟩; with_reducible refine rangeL_rule [] ?_ ?_ (fun i2 (out : (List Bd)) hd2 hI2 => ?_) (fun i2 x2 r2 (out : (List Bd)) hd2 hl2 hI2 => ?_))
    | (with_reducible refine rangeL_next hd2 ?_ ?_ ?_)
    | ((first | with_reducible refine lent_step [(1000000, 800000)] (growB_call n (by rw [lens_nil] at hI0; omega)) ?_ ?_ ?_ ?_ | with_reducible refine lent_step' [(1000000, 800000)] (growB_call n (by rw [lens_nil] at hI0; omega)) ?_ ?_ ?_ ?_ | fail); rotate_left 0; exact rfl; (first | exact trivial | exact ⟨rfl, trivial⟩ | exact ⟨rfl, rfl, trivial⟩ | exact ⟨rfl, rfl, rfl, trivial⟩ | exact ⟨rfl, rfl, rfl, rfl, trivial⟩ | exact ⟨rfl, rfl, rfl, rfl, rfl, trivial⟩ | exact ⟨rfl, rfl, rfl, rfl, rfl, rfl, trivial⟩); exact rfl)
    | ((with_reducible refine ret_step ?_); refine fin_step' [(1000000, 800000)] rfl ?_ ?_)
    | ((with_reducible refine idx_step ?_ ?_ ?_ ?_ ?_); exact rfl; exact rfl; rotate_left; (first | with_reducible exact idx_get ‹_› | with_reducible exact idx_drop hd2 | with_reducible exact idx_take hd2 | with_reducible exact idx_zip1 hd2 | with_reducible exact idx_zip2 hd2 | with_reducible exact idx_zip1e hd2 | with_reducible exact idx_zip2e hd2 | with_reducible exact idx_drop_e hd2 | with_reducible exact idx_drop hd0 | with_reducible exact idx_take hd0 | with_reducible exact idx_zip1 hd0 | with_reducible exact idx_zip2 hd0 | with_reducible exact idx_zip1e hd0 | with_reducible exact idx_zip2e hd0 | with_reducible exact idx_drop_e hd0 | fail))
    | ((with_reducible refine app_step' ?_ ?_ ?_ ?_ ?_ ?_ ?_); exact rfl; exact rfl; exact rfl; exact rfl)
    | (with_reducible refine And.intro ?_ ?_)
    | ((with_reducible refine gs_eq ?_ ?_ ?_); exact rfl; exact rfl; (first | with_reducible exact map_app | with_reducible exact map_app3 | with_reducible exact map_app4 | exact map_snoc | exact rfl | skip))
    | ((with_reducible refine tok_eq ?_ ?_); exact rfl; (first | with_reducible exact map_app | with_reducible exact map_app3 | with_reducible exact map_app4 | exact map_snoc | exact rfl | skip))
    | ((with_reducible refine ren_guard ?_); refine gs_ren ?_ ?_ ?_; exact rfl; exact rfl; (first | exact rfl | skip))
    | exact @rfl AV _
    | exact @rfl Block _
    | fail)
  all_goals (try simp only [Bool.cond_true_left, Bool.cond_false_right, Bool.cond_false_left, Bool.cond_true_right, Bool.not_eq_true', Bool.not_eq_false', bne, Ex.css_len, List.length_map, Int.toNat_zero] at *)
  all_goals first
    | omega
    | ((rw [lens_cons] at hI0; omega))
    | ((have hq := congrArg List.length hI2; simp only [lens_flat, List.length_append, lens_cons, List.length_map] at hq ⊢; omega))
    | ((rw [hI2]; simp; done))
    | ((exfalso; rw [lens_cons] at hI0; rw [wrap_nat (b := x0.length) (by omega), decide_eq_true_eq] at h; omega))
    | ((rw [lens_cons] at hI0; (try (conv => whnf)); exact congrArg (fun z => AV.data (D.val (Value.int IntKind.i64 z))) (wrap_nat (b := x0.length) (by omega))))
    | (rfl)
    | skip
end Go.Proofs.YtjgponkgifopaaaGreatDoor

