/- Contracts: package names, small functions. -/
import Derived.Test.YtogfjinopifenaaDoorZLL
import Derived.Test.YtogfjinopifenaaDoorZK6
set_option linter.unusedSectionVars false
set_option linter.unusedSimpArgs false
set_option linter.unusedVariables false
set_option maxHeartbeats 400000
namespace Go.Proofs.YtogfjinopifenaaDoor
open Go.Fw Go.Fw.Nam
set_option maxRecDepth 10000
variable [af]
theorem fF (b : Bool) (e : Int)  : PCall Tryd.prog 30 [.b b, .i e] (jX 30 b e) := by
 refine ae tok hmix ⟨[], []⟩ Tryd.func30 rfl (by kernel_rfl) (by kernel_rfl) (by kernel_rfl) fun hf => ?_
 clear hf
 repeat' ((try (conv => whnf)) <;> first
  | with_reducible refine BrI.intro (fun h => ?_) (fun h => ?_)
  | ((with_reducible refine kP ?_ ?_); rotate_left; refine ⟨[], rfl, ?_, trivial⟩; conv => whnf)
  | ((with_reducible refine kQ ?_ ?_); rotate_left; refine ⟨[], rfl, ?_, trivial⟩; conv => whnf))
 all_goals (try simp only [Bool.cond_true_left, Bool.cond_false_right, Bool.cond_false_left, Bool.cond_true_right, Bool.not_eq_true', Bool.not_eq_false', bne, Ex.css_len, List.length_map, Int.toNat_zero] at *)
 all_goals first
  | omega
  | skip
theorem yJ (n : Int)  : PCall Tryd.prog 53 [.i n] (.ret (.b (sample n))) := by
 refine ae tok hmix ⟨[], []⟩ Tryd.func53 rfl (by kernel_rfl) (by kernel_rfl) (by kernel_rfl) fun hf => ?_
 clear hf
 repeat' ((try (conv => whnf)) <;> first
  | ((with_reducible refine ai ?_); refine ⟨[], rfl, ?_, trivial⟩; conv => whnf))
 all_goals (try simp only [Bool.cond_true_left, Bool.cond_false_right, Bool.cond_false_left, Bool.cond_true_right, Bool.not_eq_true', Bool.not_eq_false', bne, Ex.css_len, List.length_map, Int.toNat_zero] at *)
 all_goals first
  | (simp only [sample, Bool.not_true, Bool.not_false, Bool.and_true, Bool.true_and, Bool.and_false, Bool.false_and, Bool.or_true, Bool.true_or, Bool.or_false, Bool.false_or, if_true, if_false, reduceIte, Bool.false_eq_true, Bool.not_not, Bool.not_eq_true', beq_self_eq_true, List.all_cons, List.all_nil, List.any_cons, List.any_nil, List.length_map, bne, eq_self, Int.toNat_zero, *]; done)
  | skip
theorem uz (k : Int)  : PCall Tryd.prog 29 [.i k] (.ret (.tuple [.i (arity k).1, .b (arity k).2])) := by
 refine ae tok hmix ⟨[], []⟩ Tryd.func29 rfl (by kernel_rfl) (by kernel_rfl) (by kernel_rfl) fun hf => ?_
 clear hf
 repeat' ((try (conv => whnf)) <;> first
  | with_reducible refine BrI.tt ?_
  | with_reducible refine BrI.intro (fun h => ?_) (fun h => ?_)
  | ((with_reducible refine ai ?_); refine ⟨[], rfl, ?_, trivial⟩; conv => whnf))
 all_goals (try simp only [Bool.cond_true_left, Bool.cond_false_right, Bool.cond_false_left, Bool.cond_true_right, Bool.not_eq_true', Bool.not_eq_false', bne, Ex.css_len, List.length_map, Int.toNat_zero] at *)
 all_goals first
  | (simp_all [arity])
  | skip
theorem FI (x : Ex)  : PCall Tryd.prog 47 [x.d] (jX 30 (jV x) 1) := by
 refine ae tok hmix ⟨[], []⟩ Tryd.func47 rfl (by kernel_rfl) (by kernel_rfl) (by kernel_rfl) fun hf => ?_
 clear hf
 repeat' ((try (conv => whnf)) <;> first
  | with_reducible refine aS (fF _ _) (fun h => ?_) (fun h => ?_)
  | ((with_reducible refine aj ?_ ?_ ?_); rotate_left; (exact uz _))
  | ((with_reducible refine fB ?_ ?_); with_reducible exact rfl)
  | ((with_reducible refine kP ?_ ?_); rotate_left; refine ⟨[], rfl, ?_, trivial⟩; conv => whnf)
  | ((with_reducible refine kQ ?_ ?_); rotate_left; refine ⟨[], rfl, ?_, trivial⟩; conv => whnf))
 all_goals (try simp only [Bool.cond_true_left, Bool.cond_false_right, Bool.cond_false_left, Bool.cond_true_right, Bool.not_eq_true', Bool.not_eq_false', bne, Ex.css_len, List.length_map, Int.toNat_zero] at *)
 all_goals first
  | (simp only [jV, Bool.not_true, Bool.not_false, Bool.and_true, Bool.true_and, Bool.and_false, Bool.false_and, Bool.or_true, Bool.true_or, Bool.or_false, Bool.false_or, if_true, if_false, reduceIte, Bool.false_eq_true, Bool.not_not, Bool.not_eq_true', beq_self_eq_true, List.all_cons, List.all_nil, List.any_cons, List.any_nil, List.length_map, bne, eq_self, Int.toNat_zero, *]; done)
  | skip
theorem MZ (x : Ex)  : PCall Tryd.prog 46 [x.d, .fn 47 []] (jX 30 (every jV x) 1) := by
 revert x; refine Ex.ind fun x ih => ?_
 refine ae tok hmix ⟨[], []⟩ Tryd.func46 rfl (by kernel_rfl) (by kernel_rfl) (by kernel_rfl) fun hf => ?_
 have hlen := Ex.fits (hf x.d (by simp))
 clear hf
 repeat' ((try (conv => whnf)) <;> first
  | with_reducible exact trivial
  | with_reducible exact ax hd0 ‹_›
  | with_reducible refine kM hd0 ?_
  | with_reducible refine iG hd0 ?_
  | with_reducible refine aS (FI x) (fun h => ?_) (fun h => ?_)
  | with_reducible refine aS (ih x0 (bV hd0)) (fun h => ?_) (fun h => ?_)
  | ((with_reducible refine aI.mk 0 ?_); refine ⟨aP (x.l) 12 (fun (_ : Unit) => []) (fun (_ : Unit) => []) [1, 10, 11] (fun i0 r0 _ => every jV x = rE jV r0), ?_⟩; with_reducible refine ag () ?_ ?_ (fun i0 (_ : Unit) hd0 hI0 => ?_) (fun i0 x0 r0 (_ : Unit) hd0 hl0 hI0 => ?_))
  | (with_reducible refine ah hd0 () ?_ ?_)
  | ((with_reducible refine aJ ?_ ?_ ?_ ?_ ?_); exact rfl; exact rfl; rotate_left; (with_reducible exact eu hd0))
  | ((with_reducible refine aW ?_ ?_); exact rfl)
  | ((with_reducible refine kP ?_ ?_); rotate_left; refine ⟨[], rfl, ?_, trivial⟩; conv => whnf)
  | ((with_reducible refine kQ ?_ ?_); rotate_left; refine ⟨[], rfl, ?_, trivial⟩; conv => whnf)
  | (with_reducible refine And.intro ?_ ?_)
  | exact @rfl AV _)
 all_goals (try simp only [Bool.cond_true_left, Bool.cond_false_right, Bool.cond_false_left, Bool.cond_true_right, Bool.not_eq_true', Bool.not_eq_false', bne, Ex.css_len, List.length_map, Int.toNat_zero] at *)
 all_goals first
  | (rw [hI0]; (try simp only [rE, Bool.not_true, Bool.not_false, Bool.and_true, Bool.true_and, Bool.and_false, Bool.false_and, Bool.or_true, Bool.true_or, Bool.or_false, Bool.false_or, if_true, if_false, reduceIte, Bool.false_eq_true, Bool.not_not, Bool.not_eq_true', beq_self_eq_true, List.all_cons, List.all_nil, List.any_cons, List.any_nil, List.length_map, bne, eq_self, Int.toNat_zero, *]); first | done | rfl)
  | (simp only [vM, Bool.not_true, Bool.not_false, Bool.and_true, Bool.true_and, Bool.and_false, Bool.false_and, Bool.or_true, Bool.true_or, Bool.or_false, Bool.false_or, if_true, if_false, reduceIte, Bool.false_eq_true, Bool.not_not, Bool.not_eq_true', beq_self_eq_true, List.all_cons, List.all_nil, List.any_cons, List.any_nil, List.length_map, bne, eq_self, Int.toNat_zero, *]; done)
  | skip
theorem gZ (p : Pr)  : PCall Tryd.prog 24 [p.d] (jX 30 (formed p) 1) := by
 refine ae tok hmix ⟨[], []⟩ Tryd.func24 rfl (by kernel_rfl) (by kernel_rfl) (by kernel_rfl) fun hf => ?_
 have hlen := (Pr.fits (hf p.d (by simp))).stmts
 clear hf
 repeat' ((try (conv => whnf)) <;> first
  | with_reducible exact trivial
  | with_reducible exact ax hd0 ‹_›
  | with_reducible refine bQ hd0 ?_
  | with_reducible refine bi hd0 ?_
  | with_reducible refine aS (fF _ _) (fun h => ?_) (fun h => ?_)
  | with_reducible refine aS (MZ _) (fun h => ?_) (fun h => ?_)
  | ((with_reducible refine aI.mk 0 ?_); refine ⟨aP (p.stmts) 7 (fun (_ : Unit) => []) (fun (_ : Unit) => []) [5, 6] (fun i0 r0 _ => formed p = r0.all fun s => Tt s && every jV s.x), ?_⟩; with_reducible refine ag () ?_ ?_ (fun i0 (_ : Unit) hd0 hI0 => ?_) (fun i0 x0 r0 (_ : Unit) hd0 hl0 hI0 => ?_))
  | (with_reducible refine ah hd0 () ?_ ?_)
  | ((with_reducible refine aJ ?_ ?_ ?_ ?_ ?_); exact rfl; exact rfl; rotate_left; (with_reducible exact aG hd0))
  | ((with_reducible refine aW ?_ ?_); exact rfl)
  | ((with_reducible refine fB ?_ ?_); with_reducible exact rfl)
  | ((with_reducible refine kP ?_ ?_); rotate_left; refine ⟨[], rfl, ?_, trivial⟩; conv => whnf)
  | ((with_reducible refine kQ ?_ ?_); rotate_left; refine ⟨[], rfl, ?_, trivial⟩; conv => whnf)
  | (with_reducible refine And.intro ?_ ?_)
  | exact @rfl AV _)
 all_goals (try simp only [Bool.cond_true_left, Bool.cond_false_right, Bool.cond_false_left, Bool.cond_true_right, Bool.not_eq_true', Bool.not_eq_false', bne, Ex.css_len, List.length_map, Int.toNat_zero] at *)
 all_goals first
  | (rw [hI0]; (try simp only [Tt, Bool.not_true, Bool.not_false, Bool.and_true, Bool.true_and, Bool.and_false, Bool.false_and, Bool.or_true, Bool.true_or, Bool.or_false, Bool.false_or, if_true, if_false, reduceIte, Bool.false_eq_true, Bool.not_not, Bool.not_eq_true', beq_self_eq_true, List.all_cons, List.all_nil, List.any_cons, List.any_nil, List.length_map, bne, eq_self, Int.toNat_zero, *]); first | done | rfl)
  | (simp only [formed, Bool.not_true, Bool.not_false, Bool.and_true, Bool.true_and, Bool.and_false, Bool.false_and, Bool.or_true, Bool.true_or, Bool.or_false, Bool.false_or, if_true, if_false, reduceIte, Bool.false_eq_true, Bool.not_not, Bool.not_eq_true', beq_self_eq_true, List.all_cons, List.all_nil, List.any_cons, List.any_nil, List.length_map, bne, eq_self, Int.toNat_zero, *]; done)
  | skip
theorem FK (x : Ex)  : PCall Tryd.prog 56 [x.d] (jX 30 (lh x) 161) := by
 refine ae tok hmix ⟨[], []⟩ Tryd.func56 rfl (by kernel_rfl) (by kernel_rfl) (by kernel_rfl) fun hf => ?_
 clear hf
 repeat' ((try (conv => whnf)) <;> first
  | with_reducible refine aS (fF _ _) (fun h => ?_) (fun h => ?_)
  | ((with_reducible refine fB ?_ ?_); with_reducible exact rfl)
  | ((with_reducible refine kP ?_ ?_); rotate_left; refine ⟨[], rfl, ?_, trivial⟩; conv => whnf)
  | ((with_reducible refine kQ ?_ ?_); rotate_left; refine ⟨[], rfl, ?_, trivial⟩; conv => whnf))
 all_goals (try simp only [Bool.cond_true_left, Bool.cond_false_right, Bool.cond_false_left, Bool.cond_true_right, Bool.not_eq_true', Bool.not_eq_false', bne, Ex.css_len, List.length_map, Int.toNat_zero] at *)
 all_goals first
  | (simp only [lh, Bool.not_true, Bool.not_false, Bool.and_true, Bool.true_and, Bool.and_false, Bool.false_and, Bool.or_true, Bool.true_or, Bool.or_false, Bool.false_or, if_true, if_false, reduceIte, Bool.false_eq_true, Bool.not_not, Bool.not_eq_true', beq_self_eq_true, List.all_cons, List.all_nil, List.any_cons, List.any_nil, List.length_map, bne, eq_self, Int.toNat_zero, *]; done)
  | skip
theorem Na (x : Ex)  : PCall Tryd.prog 46 [x.d, .fn 56 []] (jX 30 (every lh x) 161) := by
 revert x; refine Ex.ind fun x ih => ?_
 refine ae tok hmix ⟨[], []⟩ Tryd.func46 rfl (by kernel_rfl) (by kernel_rfl) (by kernel_rfl) fun hf => ?_
 have hlen := Ex.fits (hf x.d (by simp))
 clear hf
 repeat' ((try (conv => whnf)) <;> first
  | with_reducible exact trivial
  | with_reducible exact ax hd0 ‹_›
  | with_reducible refine kM hd0 ?_
  | with_reducible refine iG hd0 ?_
  | with_reducible refine aS (FK x) (fun h => ?_) (fun h => ?_)
  | with_reducible refine aS (ih x0 (bV hd0)) (fun h => ?_) (fun h => ?_)
  | ((with_reducible refine aI.mk 0 ?_); refine ⟨aP (x.l) 12 (fun (_ : Unit) => []) (fun (_ : Unit) => []) [1, 10, 11] (fun i0 r0 _ => every lh x = rE lh r0), ?_⟩; with_reducible refine ag () ?_ ?_ (fun i0 (_ : Unit) hd0 hI0 => ?_) (fun i0 x0 r0 (_ : Unit) hd0 hl0 hI0 => ?_))
  | (with_reducible refine ah hd0 () ?_ ?_)
  | ((with_reducible refine aJ ?_ ?_ ?_ ?_ ?_); exact rfl; exact rfl; rotate_left; (with_reducible exact eu hd0))
  | ((with_reducible refine aW ?_ ?_); exact rfl)
  | ((with_reducible refine kP ?_ ?_); rotate_left; refine ⟨[], rfl, ?_, trivial⟩; conv => whnf)
  | ((with_reducible refine kQ ?_ ?_); rotate_left; refine ⟨[], rfl, ?_, trivial⟩; conv => whnf)
  | (with_reducible refine And.intro ?_ ?_)
  | exact @rfl AV _)
 all_goals (try simp only [Bool.cond_true_left, Bool.cond_false_right, Bool.cond_false_left, Bool.cond_true_right, Bool.not_eq_true', Bool.not_eq_false', bne, Ex.css_len, List.length_map, Int.toNat_zero] at *)
 all_goals first
  | (rw [hI0]; (try simp only [rE, Bool.not_true, Bool.not_false, Bool.and_true, Bool.true_and, Bool.and_false, Bool.false_and, Bool.or_true, Bool.true_or, Bool.or_false, Bool.false_or, if_true, if_false, reduceIte, Bool.false_eq_true, Bool.not_not, Bool.not_eq_true', beq_self_eq_true, List.all_cons, List.all_nil, List.any_cons, List.any_nil, List.length_map, bne, eq_self, Int.toNat_zero, *]); first | done | rfl)
  | (simp only [vM, Bool.not_true, Bool.not_false, Bool.and_true, Bool.true_and, Bool.and_false, Bool.false_and, Bool.or_true, Bool.true_or, Bool.or_false, Bool.false_or, if_true, if_false, reduceIte, Bool.false_eq_true, Bool.not_not, Bool.not_eq_true', beq_self_eq_true, List.all_cons, List.all_nil, List.any_cons, List.any_nil, List.length_map, bne, eq_self, Int.toNat_zero, *]; done)
  | skip
end Go.Proofs.YtogfjinopifenaaDoor
namespace Go.Proofs.YtogfjinopifenaaDoor
open Go.Fw Go.Fw.Nam Go.Fw.Ref15
set_option maxRecDepth 10000
variable [af]
theorem CY (x : Ex) (n : Nat) (hn : n ≤ 1099511627776) : aZ Tryd.prog 48 [.data x.d, .ptr 1000000 0] [(1000000, .cells [.data (.i (n : Int))])] (.ret (.data (.tuple []))) [(1000000, .cells [.data (.i ((n + 1 : Nat) : Int))])] := by
 refine aB tok hmix ⟨[], []⟩ Tryd.func48 rfl (by kernel_rfl) (by kernel_rfl) (by kernel_rfl) fun hf => ?_
 clear hf
 repeat' ((try (conv => whnf)) <;> first
  | with_reducible exact trivial
  | ((with_reducible refine ai ?_); refine fin_step' [] rfl ?_ ?_)
  | (with_reducible refine And.intro ?_ ?_))
 all_goals (try simp only [Bool.cond_true_left, Bool.cond_false_right, Bool.cond_false_left, Bool.cond_true_right, Bool.not_eq_true', Bool.not_eq_false', bne, Ex.css_len, List.length_map, Int.toNat_zero] at *)
 all_goals first
  | ((exact congrArg (fun z => D.val (Value.int IntKind.i64 z)) (BD (b := 1) (by omega))))
  | skip
theorem Nb (x : Ex) (n : Nat) (hn : n + nodes x ≤ 1099511627776) : aZ Tryd.prog 46 [.data x.d, .fn 48 [.ptr 1000000 0]] [(1000000, .cells [.data (.i (n : Int))])] (.ret (.data (.tuple []))) [(1000000, .cells [.data (.i ((n + nodes x : Nat) : Int))])] := by
 revert n; revert x; refine Ex.ind fun x ih n hn => ?_
 refine aB tok hmix ⟨[], []⟩ Tryd.func46 rfl (by kernel_rfl) (by kernel_rfl) (by kernel_rfl) fun hf => ?_
 have hlen := Ex.fits (uU.data (hf (.data x.d) (by simp)))
 have hN := nodes_eq x
 clear hf
 repeat' ((try (conv => whnf)) <;> first
  | with_reducible exact trivial
  | with_reducible exact ax hd0 ‹_›
  | with_reducible refine kM hd0 ?_
  | with_reducible refine iG hd0 ?_
  | ((with_reducible refine aI.mk 0 ?_); refine ⟨aP (x.l) 12 (fun (k : (Nat)) => []) (fun (k : (Nat)) => [(1000000, .cells [.data (.val (.int .i64 (k : Int)))])]) [1, 10, 11] (fun i0 r0 k => n + nodes x = k + nodesL r0), ?_⟩; with_reducible refine ag (n + 1) ?_ ?_ (fun i0 (k : (Nat)) hd0 hI0 => ?_) (fun i0 x0 r0 (k : (Nat)) hd0 hl0 hI0 => ?_))
  | (with_reducible refine ah hd0 (k + nodes x0) ?_ ?_)
  | ((with_reducible refine lent_step' [(1000000, 1000000)] (CY x n (by omega)) ?_ ?_ ?_ ?_); rotate_left 0; exact rfl; (exact ⟨rfl, trivial⟩); exact rfl)
  | ((with_reducible refine lent_step' [(1000000, 1000000)] (ih x0 (bV hd0) k (by simp only [nodesL] at hI0; omega)) ?_ ?_ ?_ ?_); rotate_left 0; exact rfl; (exact ⟨rfl, trivial⟩); exact rfl)
  | ((with_reducible refine ai ?_); refine fin_step' [] rfl ?_ ?_)
  | ((with_reducible refine aJ ?_ ?_ ?_ ?_ ?_); exact rfl; exact rfl; rotate_left; (with_reducible exact eu hd0))
  | ((with_reducible refine aW ?_ ?_); exact rfl)
  | (with_reducible refine And.intro ?_ ?_)
  | exact @rfl AV _)
 all_goals (try simp only [Bool.cond_true_left, Bool.cond_false_right, Bool.cond_false_left, Bool.cond_true_right, Bool.not_eq_true', Bool.not_eq_false', bne, Ex.css_len, List.length_map, Int.toNat_zero] at *)
 all_goals first
  | omega
  | ((simp only [nodesL] at hI0; omega))
  | ((simp only [nodesL] at hI0; exact congrArg (fun z : Nat => D.val (Value.int IntKind.i64 (z : Int))) (by omega)))
  | skip
end Go.Proofs.YtogfjinopifenaaDoor
namespace Go.Proofs.YtogfjinopifenaaDoor
open Go.Fw Go.Fw.Nam Go.Fw.Ref15
set_option maxRecDepth 10000
variable [af]
theorem FM (n : Int)  : PCall Tryd.prog 55 [.i n] (.ret (.b (!sample n))) := by
 refine ae tok hmix ⟨[], []⟩ Tryd.func55 rfl (by kernel_rfl) (by kernel_rfl) (by kernel_rfl) fun hf => ?_
 clear hf
 repeat' ((try (conv => whnf)) <;> first
  | ((with_reducible refine aj ?_ ?_ ?_); rotate_left; (exact yJ _))
  | ((with_reducible refine ai ?_); refine ⟨[], rfl, ?_, trivial⟩; conv => whnf))
 all_goals (try simp only [Bool.cond_true_left, Bool.cond_false_right, Bool.cond_false_left, Bool.cond_true_right, Bool.not_eq_true', Bool.not_eq_false', bne, Ex.css_len, List.length_map, Int.toNat_zero] at *)
 all_goals first
  | skip
theorem CZ (l : List Int)  : PCall Tryd.prog 68 [ints l, .fn 55 []] (.ret (.i (lm l 0))) := by
 refine ae tok hmix ⟨[], []⟩ Tryd.func68 rfl (by kernel_rfl) (by kernel_rfl) (by kernel_rfl) fun hf => ?_
 have hlen : l.length ≤ 9223372036854775807 := by simpa using (hf (ints l) (by simp)).sl.1
 clear hf
 repeat' ((try (conv => whnf)) <;> first
  | with_reducible exact trivial
  | with_reducible exact ax hd0 ‹_›
  | with_reducible refine bQ hd0 ?_
  | with_reducible refine bi hd0 ?_
  | with_reducible refine BrI.intro (fun h => ?_) (fun h => ?_)
  | ((with_reducible refine aI.mk 0 ?_); refine ⟨aP (l) 8 (fun (_ : Unit) => []) (fun (_ : Unit) => []) [0, 1, 7] (fun i0 r0 _ => lm l 0 = lm r0 i0), ?_⟩; with_reducible refine ag () ?_ ?_ (fun i0 (_ : Unit) hd0 hI0 => ?_) (fun i0 x0 r0 (_ : Unit) hd0 hl0 hI0 => ?_))
  | (with_reducible refine ah hd0 () ?_ ?_)
  | ((with_reducible refine aj ?_ ?_ ?_); rotate_left; (exact FM _))
  | ((with_reducible refine aJ ?_ ?_ ?_ ?_ ?_); exact rfl; exact rfl; rotate_left; (with_reducible exact aG hd0))
  | ((with_reducible refine ai ?_); refine ⟨[], rfl, ?_, trivial⟩; conv => whnf)
  | (with_reducible refine And.intro ?_ ?_)
  | exact @rfl AV _)
 all_goals (try simp only [Bool.cond_true_left, Bool.cond_false_right, Bool.cond_false_left, Bool.cond_true_right, Bool.not_eq_true', Bool.not_eq_false', bne, Ex.css_len, List.length_map, Int.toNat_zero] at *)
 all_goals first
  | (rw [hI0]; (try simp only [lm, Bool.not_true, Bool.not_false, Bool.and_true, Bool.true_and, Bool.and_false, Bool.false_and, Bool.or_true, Bool.true_or, Bool.or_false, Bool.false_or, if_true, if_false, reduceIte, Bool.false_eq_true, Bool.not_not, Bool.not_eq_true', beq_self_eq_true, List.all_cons, List.all_nil, List.any_cons, List.any_nil, List.length_map, bne, eq_self, Int.toNat_zero, *]); first | done | rfl)
  | ((simp_all [lm]; done))
  | skip
theorem uZ (l : List Int)  : PCall Tryd.prog 54 [ints l, .fn 55 []] (.ret (.b (bad l))) := by
 refine ae tok hmix ⟨[], []⟩ Tryd.func54 rfl (by kernel_rfl) (by kernel_rfl) (by kernel_rfl) fun hf => ?_
 clear hf
 repeat' ((try (conv => whnf)) <;> first
  | ((with_reducible refine aj ?_ ?_ ?_); rotate_left; (exact CZ _))
  | ((with_reducible refine ai ?_); refine ⟨[], rfl, ?_, trivial⟩; conv => whnf))
 all_goals (try simp only [Bool.cond_true_left, Bool.cond_false_right, Bool.cond_false_left, Bool.cond_true_right, Bool.not_eq_true', Bool.not_eq_false', bne, Ex.css_len, List.length_map, Int.toNat_zero] at *)
 all_goals first
  | (simp only [bad, Bool.not_true, Bool.not_false, Bool.and_true, Bool.true_and, Bool.and_false, Bool.false_and, Bool.or_true, Bool.true_or, Bool.or_false, Bool.false_or, if_true, if_false, reduceIte, Bool.false_eq_true, Bool.not_not, Bool.not_eq_true', beq_self_eq_true, List.all_cons, List.all_nil, List.any_cons, List.any_nil, List.length_map, bne, eq_self, Int.toNat_zero, *]; done)
  | skip
end Go.Proofs.YtogfjinopifenaaDoor
namespace Go.Proofs.YtogfjinopifenaaDoor
open Go.Fw Go.Fw.Nam
set_option maxRecDepth 10000
variable [af]
theorem iP (p : Pr) (hn : ∀ s ∈ p.stmts, Ref15.nodes s.x ≤ 1073741824) : PCall Tryd.prog 25 [p.d] (jX 30 (limited p) 2) := by
 refine ae tok hmix ⟨[], []⟩ Tryd.func25 rfl (by kernel_rfl) (by kernel_rfl) (by kernel_rfl) fun hf => ?_
 have hq := Pr.fits (hf p.d (by simp))
 have hlen3 := hq.lines; have hlen4 := hq.tables; have hlen5 := hq.stmts
 clear hf
 repeat' ((try (conv => whnf)) <;> first
  | with_reducible exact trivial
  | with_reducible exact ax hd4 ‹_›
  | with_reducible exact ax hd2 ‹_›
  | with_reducible exact ax hd0 ‹_›
  | with_reducible refine bQ hd4 ?_
  | with_reducible refine bQ hd2 ?_
  | with_reducible refine bQ hd0 ?_
  | with_reducible refine bi hd4 ?_
  | with_reducible refine bi hd2 ?_
  | with_reducible refine bi hd0 ?_
  | with_reducible refine aS (fF _ _) (fun h => ?_) (fun h => ?_)
  | ((with_reducible refine aI.mk 0 ?_); refine ⟨aP (p.lines) 55 (fun (ok : (Bool)) => [(3, .data (.val (.bool ok)))]) (fun (ok : (Bool)) => []) [1, 53, 54] (fun i0 r0 ok => limited p = (ok && (r0.all ln1 && (p.tables.all tb1 && p.stmts.all sm1)))), ?_⟩; with_reducible refine ag ?_ ?_ ?_ (fun i0 (ok : (Bool)) hd0 hI0 => ?_) (fun i0 x0 r0 (ok : (Bool)) hd0 hl0 hI0 => ?_))
  | (with_reducible refine ah hd0 ?_ ?_ ?_)
  | ((with_reducible refine aI.mk 2 ?_); refine ⟨aP (p.tables) 74 (fun (ok : (Bool)) => [(3, .data (.val (.bool ok)))]) (fun (ok : (Bool)) => []) [1, 72, 73] (fun i2 r2 ok => limited p = (ok && (r2.all tb1 && p.stmts.all sm1))), ?_⟩; with_reducible refine ag ?_ ?_ ?_ (fun i2 (ok : (Bool)) hd2 hI2 => ?_) (fun i2 x2 r2 (ok : (Bool)) hd2 hl2 hI2 => ?_))
  | (with_reducible refine ah hd2 ?_ ?_ ?_)
  | ((with_reducible refine aI.mk 4 ?_); refine ⟨aP (p.stmts) 95 (fun (ok : (Bool)) => [(3, .data (.val (.bool ok)))]) (fun (ok : (Bool)) => []) [93, 94] (fun i4 r4 ok => limited p = (ok && r4.all sm1)), ?_⟩; with_reducible refine ag ?_ ?_ ?_ (fun i4 (ok : (Bool)) hd4 hI4 => ?_) (fun i4 x4 r4 (ok : (Bool)) hd4 hl4 hI4 => ?_))
  | (with_reducible refine ah hd4 ?_ ?_ ?_)
  | ((with_reducible refine lent_step' [(1000000, 10)] (Nb x4.x 0 (by have := hn _ (bV hd4); omega)) ?_ ?_ ?_ ?_); rotate_left 0; exact rfl; (exact ⟨rfl, trivial⟩); exact rfl)
  | ((with_reducible refine aJ ?_ ?_ ?_ ?_ ?_); exact rfl; exact rfl; rotate_left; (first | with_reducible exact aG hd4 | with_reducible exact aG hd2 | with_reducible exact aG hd0))
  | ((with_reducible refine aW ?_ ?_); exact rfl)
  | ((with_reducible refine kP ?_ ?_); rotate_left; refine ⟨[], rfl, ?_, trivial⟩; conv => whnf)
  | ((with_reducible refine kQ ?_ ?_); rotate_left; refine ⟨[], rfl, ?_, trivial⟩; conv => whnf)
  | (with_reducible refine And.intro ?_ ?_)
  | exact @rfl AV _)
 all_goals (try simp only [Bool.cond_true_left, Bool.cond_false_right, Bool.cond_false_left, Bool.cond_true_right, Bool.not_eq_true', Bool.not_eq_false', bne, Ex.css_len, List.length_map, Int.toNat_zero] at *)
 all_goals first
  | (rw [hI4]; (try simp only [ln1, tb1, sm1, Bool.and_assoc, Nat.zero_add, Bool.not_true, Bool.not_false, Bool.and_true, Bool.true_and, Bool.and_false, Bool.false_and, Bool.or_true, Bool.true_or, Bool.or_false, Bool.false_or, if_true, if_false, reduceIte, Bool.false_eq_true, Bool.not_not, Bool.not_eq_true', beq_self_eq_true, List.all_cons, List.all_nil, List.any_cons, List.any_nil, List.length_map, bne, eq_self, Int.toNat_zero, *]); first | done | rfl)
  | (rw [hI2]; (try simp only [ln1, tb1, sm1, Bool.and_assoc, Nat.zero_add, Bool.not_true, Bool.not_false, Bool.and_true, Bool.true_and, Bool.and_false, Bool.false_and, Bool.or_true, Bool.true_or, Bool.or_false, Bool.false_or, if_true, if_false, reduceIte, Bool.false_eq_true, Bool.not_not, Bool.not_eq_true', beq_self_eq_true, List.all_cons, List.all_nil, List.any_cons, List.any_nil, List.length_map, bne, eq_self, Int.toNat_zero, *]); first | done | rfl)
  | (rw [hI0]; (try simp only [ln1, tb1, sm1, Bool.and_assoc, Nat.zero_add, Bool.not_true, Bool.not_false, Bool.and_true, Bool.true_and, Bool.and_false, Bool.false_and, Bool.or_true, Bool.true_or, Bool.or_false, Bool.false_or, if_true, if_false, reduceIte, Bool.false_eq_true, Bool.not_not, Bool.not_eq_true', beq_self_eq_true, List.all_cons, List.all_nil, List.any_cons, List.any_nil, List.length_map, bne, eq_self, Int.toNat_zero, *]); first | done | rfl)
  | (rfl)
  | skip
end Go.Proofs.YtogfjinopifenaaDoor
