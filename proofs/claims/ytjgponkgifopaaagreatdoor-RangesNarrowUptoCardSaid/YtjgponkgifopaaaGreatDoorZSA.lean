/- Contracts: package lex: names; package names: declaring. -/
import Derived.Test.YtjgponkgifopaaaGreatDoorZNX
import Derived.Test.YtjgponkgifopaaaGreatDoorZE1
import Derived.Test.YtjgponkgifopaaaGreatDoorZDB
set_option linter.unusedSimpArgs false
set_option linter.unusedVariables false
namespace Go.Proofs.YtjgponkgifopaaaGreatDoor
open Go.Fw Go.Fw.Nam Go.Fw.Ref15
set_option maxRecDepth 10000
set_option linter.unusedSectionVars false
variable [GlobInt]
set_option maxHeartbeats 400000 in
theorem class_call (c : UInt8)  : PCall Tryz.prog 126 [D.u8 c] (.ret (.i (cls c))) := by
  refine pcall_of_wc tok hmix ⟨[], []⟩ Tryz.func126 rfl (by kernel_rfl) (by kernel_rfl) (by kernel_rfl) fun hf => ?_
  clear hf
  repeat' ((try (conv => whnf)) <;> first
    | with_reducible refine BrI.intro (fun h => ?_) (fun h => ?_)
    | ((with_reducible refine call_step ?_ ?_ ?_); rotate_left; (first | exact indexByte_call _ _ | fail))
    | ((with_reducible refine ret_step ?_); refine ⟨[], rfl, ?_, trivial⟩; conv => whnf)
    | fail)
  all_goals (try simp only [Bool.cond_true_left, Bool.cond_false_right, Bool.cond_false_left, Bool.cond_true_right, Bool.not_eq_true', Bool.not_eq_false', bne, Ex.css_len, List.length_map, Int.toNat_zero] at *)
  all_goals first
    | ((refine congrArg (fun z => D.val (Value.int IntKind.i64 z)) ?_; simp only [cls, Ref03.letter, Ref03.figure, if_true, if_false, Bool.false_eq_true, reduceIte, *]; first | done | exact (if_pos (by assumption)).symm | exact (if_neg (ne_true_of_eq_false (by assumption))).symm))
    | skip
set_option maxHeartbeats 400000 in
theorem lname_call (s : Str)  : PCall Tryz.prog 114 [.str s] (.ret (.b (lname s))) := by
  refine pcall_of_wc tok hmix ⟨[], []⟩ Tryz.func114 rfl (by kernel_rfl) (by kernel_rfl) (by kernel_rfl) fun hf => ?_
  clear hf
  repeat' ((try (conv => whnf)) <;> first
    | with_reducible exact trivial
    | with_reducible exact idx_next hd0 ‹_›
    | ((with_reducible refine br_nil_k hd0 ?_ ?_); (first | exact rfl | assumption | fail))
    | ((with_reducible refine br_cons_k hd0 ?_ ?_); (first | exact rfl | assumption | fail))
    | with_reducible refine BrI.intro (fun h => ?_) (fun h => ?_)
    | ((with_reducible refine str_getD ?_ ?_ ?_); decide; (simp [wantB] at hg; have := List.length_pos_iff.2 hg.1; omega))
    | ((with_reducible refine LoopAt.mk 0 ?_); have hlen : s.length ≤ 9223372036854775807 := (by simp only [Bool.cond_true_left, Bool.or_eq_false_iff, decide_eq_false_iff_not] at h; omega); refine ⟨rangeL (s) 20 (fun (_ : Unit) => []) (fun (_ : Unit) => []) [0, 19] (fun i0 r0 _ => lname s = r0.all clsOk), ?_⟩; with_reducible refine rangeL_rule () ?_ ?_ (fun i0 (_ : Unit) hd0 hI0 => ?_) (fun i0 x0 r0 (_ : Unit) hd0 hl0 hI0 => ?_))
    | (with_reducible refine rangeL_next hd0 () ?_ ?_)
    | ((with_reducible refine call_step ?_ ?_ ?_); rotate_left; (first | exact class_call _ | fail))
    | with_reducible refine str_idx hd0 ?_
    | ((with_reducible refine guard_step ?_ ?_ (fun hg => ?_) ?_); exact rfl)
    | ((with_reducible refine val_step ?_ ?_); with_reducible exact rfl; with_reducible exact rfl)
    | ((with_reducible refine ret_step ?_); refine ⟨[], rfl, ?_, trivial⟩; conv => whnf)
    | (with_reducible refine And.intro ?_ ?_)
    | exact @rfl AV _
    | fail)
  all_goals (try simp only [Bool.cond_true_left, Bool.cond_false_right, Bool.cond_false_left, Bool.cond_true_right, Bool.not_eq_true', Bool.not_eq_false', bne, Ex.css_len, List.length_map, Int.toNat_zero] at *)
  all_goals first
    | (rw [hI0]; (try simp only [lname, clsOk, Bool.not_true, Bool.not_false, Bool.and_true, Bool.true_and, Bool.and_false, Bool.false_and, Bool.or_true, Bool.true_or, Bool.or_false, Bool.false_or, if_true, if_false, reduceIte, Bool.false_eq_true, Bool.not_not, Bool.not_eq_true', beq_self_eq_true, List.all_cons, List.all_nil, List.any_cons, List.any_nil, List.length_map, bne, eq_self, Int.toNat_zero, *]); first | done | rfl)
    | (simp only [lname, clsOk, Bool.not_true, Bool.not_false, Bool.and_true, Bool.true_and, Bool.and_false, Bool.false_and, Bool.or_true, Bool.true_or, Bool.or_false, Bool.false_or, if_true, if_false, reduceIte, Bool.false_eq_true, Bool.not_not, Bool.not_eq_true', beq_self_eq_true, List.all_cons, List.all_nil, List.any_cons, List.any_nil, List.length_map, bne, eq_self, Int.toNat_zero, *]; done)
    | skip
set_option maxHeartbeats 400000 in
theorem add_call (l : List Pe) (name : Str) (k i f : Int) (hl : l.length ≤ 1073741824) : LCall Tryz.prog 113 [.ptr 1000000 0, .data (.str name), .data (.i k), .data (.i i), .data (.i f)] [(1000000, .cells [.gs 1000001 1 (l.map nmC), .gs 1000002 3 (l.map enC)]), (1000001, .tok 1 (l.map nmC).length), (1000002, .tok 3 (l.map enC).length)] (.ret (.data (.tuple []))) [(1000000, .cells [.gs 1000001 1 ((l ++ [(name, En.mk k i f)]).map nmC), .gs 1000002 3 ((l ++ [(name, En.mk k i f)]).map enC)]), (1000001, .tok 1 ((l ++ [(name, En.mk k i f)]).map nmC).length), (1000002, .tok 3 ((l ++ [(name, En.mk k i f)]).map enC).length)] := by
  refine lcall_of_wc tok hmix ⟨[], []⟩ Tryz.func113 rfl (by kernel_rfl) (by kernel_rfl) (by kernel_rfl) fun hf => ?_
  clear hf
  repeat' ((try (conv => whnf)) <;> first
    | with_reducible exact trivial
    | ((with_reducible refine ret_step ?_); refine fin_step' [] rfl ?_ ?_)
    | (with_reducible refine ChooseI.l _ ?_)
    | ((with_reducible refine app_step' ?_ ?_ ?_ ?_ ?_ ?_ ?_); exact rfl; exact rfl; exact rfl; exact rfl)
    | ((with_reducible refine chk_step ?_ ?_); kernel_rfl)
    | (with_reducible refine And.intro ?_ ?_)
    | ((with_reducible refine tok_eq ?_ ?_); exact rfl; (first | with_reducible exact map_app | with_reducible exact map_app3 | with_reducible exact map_app4 | exact map_snoc | exact rfl | skip))
    | ((with_reducible refine ren_guard ?_); refine gs_ren ?_ ?_ ?_; exact rfl; exact rfl; (first | exact rfl | skip))
    | exact ble_le rfl
    | fail)
  all_goals (try simp only [Bool.cond_true_left, Bool.cond_false_right, Bool.cond_false_left, Bool.cond_true_right, Bool.not_eq_true', Bool.not_eq_false', bne, Ex.css_len, List.length_map, Int.toNat_zero] at *)
  all_goals first
    | omega
    | ((simp only [List.map_append, List.map_cons, List.map_nil]; rfl))
    | skip
end Go.Proofs.YtjgponkgifopaaaGreatDoor
namespace Go.Proofs.YtjgponkgifopaaaGreatDoor
open Go.Fw Go.Fw.Nam Go.Fw.Ref15
set_option maxRecDepth 10000
set_option linter.unusedSectionVars false
variable [GlobInt]
end Go.Proofs.YtjgponkgifopaaaGreatDoor
