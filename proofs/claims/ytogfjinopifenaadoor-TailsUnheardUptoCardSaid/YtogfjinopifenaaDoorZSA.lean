/- Contracts: package lex: names; package names: declaring. -/
import Derived.Test.YtogfjinopifenaaDoorZNX
import Derived.Test.YtogfjinopifenaaDoorZE1
import Derived.Test.YtogfjinopifenaaDoorZDB
set_option linter.unusedSectionVars false
set_option linter.unusedSimpArgs false
set_option linter.unusedVariables false
set_option maxHeartbeats 400000
namespace Go.Proofs.YtogfjinopifenaaDoor
open Go.Fw Go.Fw.Nam Go.Fw.Ref15
set_option maxRecDepth 10000
variable [af]
theorem Nh (c : UInt8)  : PCall Tryd.prog 65 [D.u8 c] (.ret (.i (cls c))) := by
 refine ae tok hmix ⟨[], []⟩ Tryd.func65 rfl (by kernel_rfl) (by kernel_rfl) (by kernel_rfl) fun hf => ?_
 clear hf
 repeat' ((try (conv => whnf)) <;> first
  | with_reducible refine BrI.intro (fun h => ?_) (fun h => ?_)
  | ((with_reducible refine aj ?_ ?_ ?_); rotate_left; (exact zi _ _))
  | ((with_reducible refine ai ?_); refine ⟨[], rfl, ?_, trivial⟩; conv => whnf))
 all_goals (try simp only [Bool.cond_true_left, Bool.cond_false_right, Bool.cond_false_left, Bool.cond_true_right, Bool.not_eq_true', Bool.not_eq_false', bne, Ex.css_len, List.length_map, Int.toNat_zero] at *)
 all_goals first
  | ((refine congrArg (fun z => D.val (Value.int IntKind.i64 z)) ?_; simp only [cls, Ref03.letter, Ref03.figure, if_true, if_false, Bool.false_eq_true, reduceIte, *]; first | done | exact (if_pos (by assumption)).symm | exact (if_neg (ne_true_of_eq_false (by assumption))).symm))
  | skip
theorem uA (s : Str)  : PCall Tryd.prog 50 [.str s] (.ret (.b (BF s))) := by
 refine ae tok hmix ⟨[], []⟩ Tryd.func50 rfl (by kernel_rfl) (by kernel_rfl) (by kernel_rfl) fun hf => ?_
 clear hf
 repeat' ((try (conv => whnf)) <;> first
  | with_reducible exact trivial
  | with_reducible exact ax hd0 ‹_›
  | ((with_reducible refine iJ hd0 ?_ ?_); (exact rfl))
  | ((with_reducible refine fD hd0 ?_ ?_); (exact rfl))
  | with_reducible refine BrI.intro (fun h => ?_) (fun h => ?_)
  | ((with_reducible refine Tz ?_ ?_ ?_); decide; (simp [tY] at hg; have := List.length_pos_iff.2 hg.1; omega))
  | ((with_reducible refine aI.mk 0 ?_); have hlen : s.length ≤ 9223372036854775807 := (by simp only [Bool.cond_true_left, Bool.or_eq_false_iff, decide_eq_false_iff_not] at h; omega); refine ⟨aP (s) 20 (fun (_ : Unit) => []) (fun (_ : Unit) => []) [0, 19] (fun i0 r0 _ => BF s = r0.all Hg), ?_⟩; with_reducible refine ag () ?_ ?_ (fun i0 (_ : Unit) hd0 hI0 => ?_) (fun i0 x0 r0 (_ : Unit) hd0 hl0 hI0 => ?_))
  | (with_reducible refine ah hd0 () ?_ ?_)
  | ((with_reducible refine aj ?_ ?_ ?_); rotate_left; (exact Nh _))
  | with_reducible refine WS hd0 ?_
  | ((with_reducible refine bF ?_ ?_ (fun hg => ?_) ?_); exact rfl)
  | ((with_reducible refine dE ?_ ?_); with_reducible exact rfl; with_reducible exact rfl)
  | ((with_reducible refine ai ?_); refine ⟨[], rfl, ?_, trivial⟩; conv => whnf)
  | (with_reducible refine And.intro ?_ ?_)
  | exact @rfl AV _)
 all_goals (try simp only [Bool.cond_true_left, Bool.cond_false_right, Bool.cond_false_left, Bool.cond_true_right, Bool.not_eq_true', Bool.not_eq_false', bne, Ex.css_len, List.length_map, Int.toNat_zero] at *)
 all_goals first
  | (rw [hI0]; (try simp only [BF, Hg, Bool.not_true, Bool.not_false, Bool.and_true, Bool.true_and, Bool.and_false, Bool.false_and, Bool.or_true, Bool.true_or, Bool.or_false, Bool.false_or, if_true, if_false, reduceIte, Bool.false_eq_true, Bool.not_not, Bool.not_eq_true', beq_self_eq_true, List.all_cons, List.all_nil, List.any_cons, List.any_nil, List.length_map, bne, eq_self, Int.toNat_zero, *]); first | done | rfl)
  | (simp only [BF, Hg, Bool.not_true, Bool.not_false, Bool.and_true, Bool.true_and, Bool.and_false, Bool.false_and, Bool.or_true, Bool.true_or, Bool.or_false, Bool.false_or, if_true, if_false, reduceIte, Bool.false_eq_true, Bool.not_not, Bool.not_eq_true', beq_self_eq_true, List.all_cons, List.all_nil, List.any_cons, List.any_nil, List.length_map, bne, eq_self, Int.toNat_zero, *]; done)
  | skip
theorem dR (l : List Pe) (name : Str) (k i f : Int) (hl : l.length ≤ 1073741824) : aZ Tryd.prog 49 [.ptr 1000000 0, .data (.str name), .data (.i k), .data (.i i), .data (.i f)] [(1000000, .cells [.gs 1000001 1 (l.map nmC), .gs 1000002 3 (l.map enC)]), (1000001, .tok 1 (l.map nmC).length), (1000002, .tok 3 (l.map enC).length)] (.ret (.data (.tuple []))) [(1000000, .cells [.gs 1000001 1 ((l ++ [(name, En.mk k i f)]).map nmC), .gs 1000002 3 ((l ++ [(name, En.mk k i f)]).map enC)]), (1000001, .tok 1 ((l ++ [(name, En.mk k i f)]).map nmC).length), (1000002, .tok 3 ((l ++ [(name, En.mk k i f)]).map enC).length)] := by
 refine aB tok hmix ⟨[], []⟩ Tryd.func49 rfl (by kernel_rfl) (by kernel_rfl) (by kernel_rfl) fun hf => ?_
 clear hf
 repeat' ((try (conv => whnf)) <;> first
  | with_reducible exact trivial
  | ((with_reducible refine ai ?_); refine fin_step' [] rfl ?_ ?_)
  | (with_reducible refine bH.l _ ?_)
  | ((with_reducible refine app_step' ?_ ?_ ?_ ?_ ?_ ?_ ?_); exact rfl; exact rfl; exact rfl; exact rfl)
  | ((with_reducible refine aA ?_ ?_); kernel_rfl)
  | (with_reducible refine And.intro ?_ ?_)
  | ((with_reducible refine pg ?_ ?_); exact rfl; (first | skip))
  | ((with_reducible refine lM ?_); refine zZ ?_ ?_ ?_; exact rfl; exact rfl; (first | skip))
  | exact kN rfl)
 all_goals (try simp only [Bool.cond_true_left, Bool.cond_false_right, Bool.cond_false_left, Bool.cond_true_right, Bool.not_eq_true', Bool.not_eq_false', bne, Ex.css_len, List.length_map, Int.toNat_zero] at *)
 all_goals first
  | omega
  | ((simp only [List.map_append, List.map_cons, List.map_nil]; rfl))
  | skip
end Go.Proofs.YtogfjinopifenaaDoor
namespace Go.Proofs.YtogfjinopifenaaDoor
open Go.Fw Go.Fw.Nam Go.Fw.Ref15
set_option maxRecDepth 10000
variable [af]
end Go.Proofs.YtogfjinopifenaaDoor
