/- Contracts: package names, small functions. -/
import Derived.Test.YtogfjinopifenaaDoorZLL
import Derived.Test.YtogfjinopifenaaDoorZK6
set_option linter.unusedSectionVars false
set_option linter.unusedSimpArgs false
set_option linter.unusedVariables false
set_option maxHeartbeats 400000
namespace Go.Proofs.YtogfjinopifenaaDoor
open Go.Fw Go.Fw.Nam
set_option maxRecDepth 10000
variable [GlobInt]
theorem bZ (b : Bool) (e : Int)  : PCall Tryd.prog 30 [.b b, .i e] (fK 30 b e) := by
 refine pcall_of_wc tok hmix ⟨[], []⟩ Tryd.func30 rfl (by kernel_rfl) (by kernel_rfl) (by kernel_rfl) fun hf => ?_
 clear hf
 repeat' ((try (conv => whnf)) <;> first
  | with_reducible refine BrI.intro (fun h => ?_) (fun h => ?_)
  | ((with_reducible refine gG ?_ ?_); rotate_left; refine ⟨[], rfl, ?_, trivial⟩; conv => whnf)
  | ((with_reducible refine gI ?_ ?_); rotate_left; refine ⟨[], rfl, ?_, trivial⟩; conv => whnf))
 all_goals (try simp only [Bool.cond_true_left, Bool.cond_false_right, Bool.cond_false_left, Bool.cond_true_right, Bool.not_eq_true', Bool.not_eq_false', bne, Ex.css_len, List.length_map, Int.toNat_zero] at *)
 all_goals first
  | omega
  | skip
theorem ny (n : Int)  : PCall Tryd.prog 53 [.i n] (.ret (.b (sample n))) := by
 refine pcall_of_wc tok hmix ⟨[], []⟩ Tryd.func53 rfl (by kernel_rfl) (by kernel_rfl) (by kernel_rfl) fun hf => ?_
 clear hf
 repeat' ((try (conv => whnf)) <;> first
  | ((with_reducible refine ag ?_); refine ⟨[], rfl, ?_, trivial⟩; conv => whnf))
 all_goals (try simp only [Bool.cond_true_left, Bool.cond_false_right, Bool.cond_false_left, Bool.cond_true_right, Bool.not_eq_true', Bool.not_eq_false', bne, Ex.css_len, List.length_map, Int.toNat_zero] at *)
 all_goals first
  | (simp only [sample, Bool.not_true, Bool.not_false, Bool.and_true, Bool.true_and, Bool.and_false, Bool.false_and, Bool.or_true, Bool.true_or, Bool.or_false, Bool.false_or, if_true, if_false, reduceIte, Bool.false_eq_true, Bool.not_not, Bool.not_eq_true', beq_self_eq_true, List.all_cons, List.all_nil, List.any_cons, List.any_nil, List.length_map, bne, eq_self, Int.toNat_zero, *]; done)
  | skip
theorem kQ (k : Int)  : PCall Tryd.prog 29 [.i k] (.ret (.tuple [.i (arity k).1, .b (arity k).2])) := by
 refine pcall_of_wc tok hmix ⟨[], []⟩ Tryd.func29 rfl (by kernel_rfl) (by kernel_rfl) (by kernel_rfl) fun hf => ?_
 clear hf
 repeat' ((try (conv => whnf)) <;> first
  | with_reducible refine BrI.tt ?_
  | with_reducible refine BrI.intro (fun h => ?_) (fun h => ?_)
  | ((with_reducible refine ag ?_); refine ⟨[], rfl, ?_, trivial⟩; conv => whnf))
 all_goals (try simp only [Bool.cond_true_left, Bool.cond_false_right, Bool.cond_false_left, Bool.cond_true_right, Bool.not_eq_true', Bool.not_eq_false', bne, Ex.css_len, List.length_map, Int.toNat_zero] at *)
 all_goals first
  | (simp_all [arity])
  | skip
theorem tN (x : Ex)  : PCall Tryd.prog 47 [x.d] (fK 30 (fH x) 1) := by
 refine pcall_of_wc tok hmix ⟨[], []⟩ Tryd.func47 rfl (by kernel_rfl) (by kernel_rfl) (by kernel_rfl) fun hf => ?_
 clear hf
 repeat' ((try (conv => whnf)) <;> first
  | with_reducible refine aG (bZ _ _) (fun h => ?_) (fun h => ?_)
  | ((with_reducible refine ah ?_ ?_ ?_); rotate_left; (exact kQ _))
  | ((with_reducible refine bV ?_ ?_); with_reducible exact rfl)
  | ((with_reducible refine gG ?_ ?_); rotate_left; refine ⟨[], rfl, ?_, trivial⟩; conv => whnf)
  | ((with_reducible refine gI ?_ ?_); rotate_left; refine ⟨[], rfl, ?_, trivial⟩; conv => whnf))
 all_goals (try simp only [Bool.cond_true_left, Bool.cond_false_right, Bool.cond_false_left, Bool.cond_true_right, Bool.not_eq_true', Bool.not_eq_false', bne, Ex.css_len, List.length_map, Int.toNat_zero] at *)
 all_goals first
  | (simp only [fH, Bool.not_true, Bool.not_false, Bool.and_true, Bool.true_and, Bool.and_false, Bool.false_and, Bool.or_true, Bool.true_or, Bool.or_false, Bool.false_or, if_true, if_false, reduceIte, Bool.false_eq_true, Bool.not_not, Bool.not_eq_true', beq_self_eq_true, List.all_cons, List.all_nil, List.any_cons, List.any_nil, List.length_map, bne, eq_self, Int.toNat_zero, *]; done)
  | skip
theorem yB (x : Ex)  : PCall Tryd.prog 46 [x.d, .fn 47 []] (fK 30 (every fH x) 1) := by
 revert x; refine Ex.ind fun x ih => ?_
 refine pcall_of_wc tok hmix ⟨[], []⟩ Tryd.func46 rfl (by kernel_rfl) (by kernel_rfl) (by kernel_rfl) fun hf => ?_
 have hlen := Ex.fits (hf x.d (by simp))
 clear hf
 repeat' ((try (conv => whnf)) <;> first
  | with_reducible exact trivial
  | with_reducible exact ak hd0 ‹_›
  | with_reducible refine gz hd0 ?_
  | with_reducible refine dJ hd0 ?_
  | with_reducible refine aG (tN x) (fun h => ?_) (fun h => ?_)
  | with_reducible refine aG (ih x0 (aY hd0)) (fun h => ?_) (fun h => ?_)
  | ((with_reducible refine LoopAt.mk 0 ?_); refine ⟨aF (x.l) 12 (fun (_ : Unit) => []) (fun (_ : Unit) => []) [1, 10, 11] (fun i0 r0 _ => every fH x = jH fH r0), ?_⟩; with_reducible refine ae () ?_ ?_ (fun i0 (_ : Unit) hd0 hI0 => ?_) (fun i0 x0 r0 (_ : Unit) hd0 hl0 hI0 => ?_))
  | (with_reducible refine af hd0 () ?_ ?_)
  | ((with_reducible refine aB ?_ ?_ ?_ ?_ ?_); exact rfl; exact rfl; rotate_left; (with_reducible exact bP hd0))
  | ((with_reducible refine aK ?_ ?_); exact rfl)
  | ((with_reducible refine gG ?_ ?_); rotate_left; refine ⟨[], rfl, ?_, trivial⟩; conv => whnf)
  | ((with_reducible refine gI ?_ ?_); rotate_left; refine ⟨[], rfl, ?_, trivial⟩; conv => whnf)
  | (with_reducible refine And.intro ?_ ?_)
  | exact @rfl AV _)
 all_goals (try simp only [Bool.cond_true_left, Bool.cond_false_right, Bool.cond_false_left, Bool.cond_true_right, Bool.not_eq_true', Bool.not_eq_false', bne, Ex.css_len, List.length_map, Int.toNat_zero] at *)
 all_goals first
  | (rw [hI0]; (try simp only [jH, Bool.not_true, Bool.not_false, Bool.and_true, Bool.true_and, Bool.and_false, Bool.false_and, Bool.or_true, Bool.true_or, Bool.or_false, Bool.false_or, if_true, if_false, reduceIte, Bool.false_eq_true, Bool.not_not, Bool.not_eq_true', beq_self_eq_true, List.all_cons, List.all_nil, List.any_cons, List.any_nil, List.length_map, bne, eq_self, Int.toNat_zero, *]); first | done | rfl)
  | (simp only [lm, Bool.not_true, Bool.not_false, Bool.and_true, Bool.true_and, Bool.and_false, Bool.false_and, Bool.or_true, Bool.true_or, Bool.or_false, Bool.false_or, if_true, if_false, reduceIte, Bool.false_eq_true, Bool.not_not, Bool.not_eq_true', beq_self_eq_true, List.all_cons, List.all_nil, List.any_cons, List.any_nil, List.length_map, bne, eq_self, Int.toNat_zero, *]; done)
  | skip
theorem dH (p : Pr)  : PCall Tryd.prog 24 [p.d] (fK 30 (formed p) 1) := by
 refine pcall_of_wc tok hmix ⟨[], []⟩ Tryd.func24 rfl (by kernel_rfl) (by kernel_rfl) (by kernel_rfl) fun hf => ?_
 have hlen := (Pr.fits (hf p.d (by simp))).stmts
 clear hf
 repeat' ((try (conv => whnf)) <;> first
  | with_reducible exact trivial
  | with_reducible exact ak hd0 ‹_›
  | with_reducible refine aX hd0 ?_
  | with_reducible refine aP hd0 ?_
  | with_reducible refine aG (bZ _ _) (fun h => ?_) (fun h => ?_)
  | with_reducible refine aG (yB _) (fun h => ?_) (fun h => ?_)
  | ((with_reducible refine LoopAt.mk 0 ?_); refine ⟨aF (p.stmts) 7 (fun (_ : Unit) => []) (fun (_ : Unit) => []) [5, 6] (fun i0 r0 _ => formed p = r0.all fun s => BR s && every fH s.x), ?_⟩; with_reducible refine ae () ?_ ?_ (fun i0 (_ : Unit) hd0 hI0 => ?_) (fun i0 x0 r0 (_ : Unit) hd0 hl0 hI0 => ?_))
  | (with_reducible refine af hd0 () ?_ ?_)
  | ((with_reducible refine aB ?_ ?_ ?_ ?_ ?_); exact rfl; exact rfl; rotate_left; (with_reducible exact az hd0))
  | ((with_reducible refine aK ?_ ?_); exact rfl)
  | ((with_reducible refine bV ?_ ?_); with_reducible exact rfl)
  | ((with_reducible refine gG ?_ ?_); rotate_left; refine ⟨[], rfl, ?_, trivial⟩; conv => whnf)
  | ((with_reducible refine gI ?_ ?_); rotate_left; refine ⟨[], rfl, ?_, trivial⟩; conv => whnf)
  | (with_reducible refine And.intro ?_ ?_)
  | exact @rfl AV _)
 all_goals (try simp only [Bool.cond_true_left, Bool.cond_false_right, Bool.cond_false_left, Bool.cond_true_right, Bool.not_eq_true', Bool.not_eq_false', bne, Ex.css_len, List.length_map, Int.toNat_zero] at *)
 all_goals first
  | (rw [hI0]; (try simp only [BR, Bool.not_true, Bool.not_false, Bool.and_true, Bool.true_and, Bool.and_false, Bool.false_and, Bool.or_true, Bool.true_or, Bool.or_false, Bool.false_or, if_true, if_false, reduceIte, Bool.false_eq_true, Bool.not_not, Bool.not_eq_true', beq_self_eq_true, List.all_cons, List.all_nil, List.any_cons, List.any_nil, List.length_map, bne, eq_self, Int.toNat_zero, *]); first | done | rfl)
  | (simp only [formed, Bool.not_true, Bool.not_false, Bool.and_true, Bool.true_and, Bool.and_false, Bool.false_and, Bool.or_true, Bool.true_or, Bool.or_false, Bool.false_or, if_true, if_false, reduceIte, Bool.false_eq_true, Bool.not_not, Bool.not_eq_true', beq_self_eq_true, List.all_cons, List.all_nil, List.any_cons, List.any_nil, List.length_map, bne, eq_self, Int.toNat_zero, *]; done)
  | skip
theorem tV (x : Ex)  : PCall Tryd.prog 56 [x.d] (fK 30 (gW x) 161) := by
 refine pcall_of_wc tok hmix ⟨[], []⟩ Tryd.func56 rfl (by kernel_rfl) (by kernel_rfl) (by kernel_rfl) fun hf => ?_
 clear hf
 repeat' ((try (conv => whnf)) <;> first
  | with_reducible refine aG (bZ _ _) (fun h => ?_) (fun h => ?_)
  | ((with_reducible refine bV ?_ ?_); with_reducible exact rfl)
  | ((with_reducible refine gG ?_ ?_); rotate_left; refine ⟨[], rfl, ?_, trivial⟩; conv => whnf)
  | ((with_reducible refine gI ?_ ?_); rotate_left; refine ⟨[], rfl, ?_, trivial⟩; conv => whnf))
 all_goals (try simp only [Bool.cond_true_left, Bool.cond_false_right, Bool.cond_false_left, Bool.cond_true_right, Bool.not_eq_true', Bool.not_eq_false', bne, Ex.css_len, List.length_map, Int.toNat_zero] at *)
 all_goals first
  | (simp only [gW, Bool.not_true, Bool.not_false, Bool.and_true, Bool.true_and, Bool.and_false, Bool.false_and, Bool.or_true, Bool.true_or, Bool.or_false, Bool.false_or, if_true, if_false, reduceIte, Bool.false_eq_true, Bool.not_not, Bool.not_eq_true', beq_self_eq_true, List.all_cons, List.all_nil, List.any_cons, List.any_nil, List.length_map, bne, eq_self, Int.toNat_zero, *]; done)
  | skip
theorem yC (x : Ex)  : PCall Tryd.prog 46 [x.d, .fn 56 []] (fK 30 (every gW x) 161) := by
 revert x; refine Ex.ind fun x ih => ?_
 refine pcall_of_wc tok hmix ⟨[], []⟩ Tryd.func46 rfl (by kernel_rfl) (by kernel_rfl) (by kernel_rfl) fun hf => ?_
 have hlen := Ex.fits (hf x.d (by simp))
 clear hf
 repeat' ((try (conv => whnf)) <;> first
  | with_reducible exact trivial
  | with_reducible exact ak hd0 ‹_›
  | with_reducible refine gz hd0 ?_
  | with_reducible refine dJ hd0 ?_
  | with_reducible refine aG (tV x) (fun h => ?_) (fun h => ?_)
  | with_reducible refine aG (ih x0 (aY hd0)) (fun h => ?_) (fun h => ?_)
  | ((with_reducible refine LoopAt.mk 0 ?_); refine ⟨aF (x.l) 12 (fun (_ : Unit) => []) (fun (_ : Unit) => []) [1, 10, 11] (fun i0 r0 _ => every gW x = jH gW r0), ?_⟩; with_reducible refine ae () ?_ ?_ (fun i0 (_ : Unit) hd0 hI0 => ?_) (fun i0 x0 r0 (_ : Unit) hd0 hl0 hI0 => ?_))
  | (with_reducible refine af hd0 () ?_ ?_)
  | ((with_reducible refine aB ?_ ?_ ?_ ?_ ?_); exact rfl; exact rfl; rotate_left; (with_reducible exact bP hd0))
  | ((with_reducible refine aK ?_ ?_); exact rfl)
  | ((with_reducible refine gG ?_ ?_); rotate_left; refine ⟨[], rfl, ?_, trivial⟩; conv => whnf)
  | ((with_reducible refine gI ?_ ?_); rotate_left; refine ⟨[], rfl, ?_, trivial⟩; conv => whnf)
  | (with_reducible refine And.intro ?_ ?_)
  | exact @rfl AV _)
 all_goals (try simp only [Bool.cond_true_left, Bool.cond_false_right, Bool.cond_false_left, Bool.cond_true_right, Bool.not_eq_true', Bool.not_eq_false', bne, Ex.css_len, List.length_map, Int.toNat_zero] at *)
 all_goals first
  | (rw [hI0]; (try simp only [jH, Bool.not_true, Bool.not_false, Bool.and_true, Bool.true_and, Bool.and_false, Bool.false_and, Bool.or_true, Bool.true_or, Bool.or_false, Bool.false_or, if_true, if_false, reduceIte, Bool.false_eq_true, Bool.not_not, Bool.not_eq_true', beq_self_eq_true, List.all_cons, List.all_nil, List.any_cons, List.any_nil, List.length_map, bne, eq_self, Int.toNat_zero, *]); first | done | rfl)
  | (simp only [lm, Bool.not_true, Bool.not_false, Bool.and_true, Bool.true_and, Bool.and_false, Bool.false_and, Bool.or_true, Bool.true_or, Bool.or_false, Bool.false_or, if_true, if_false, reduceIte, Bool.false_eq_true, Bool.not_not, Bool.not_eq_true', beq_self_eq_true, List.all_cons, List.all_nil, List.any_cons, List.any_nil, List.length_map, bne, eq_self, Int.toNat_zero, *]; done)
  | skip
end Go.Proofs.YtogfjinopifenaaDoor
namespace Go.Proofs.YtogfjinopifenaaDoor
open Go.Fw Go.Fw.Nam Go.Fw.Ref15
set_option maxRecDepth 10000
variable [GlobInt]
theorem qJ (x : Ex) (n : Nat) (hn : n ≤ 1099511627776) : LCall Tryd.prog 48 [.data x.d, .ptr 1000000 0] [(1000000, .cells [.data (.i (n : Int))])] (.ret (.data (.tuple []))) [(1000000, .cells [.data (.i ((n + 1 : Nat) : Int))])] := by
 refine lcall_of_wc tok hmix ⟨[], []⟩ Tryd.func48 rfl (by kernel_rfl) (by kernel_rfl) (by kernel_rfl) fun hf => ?_
 clear hf
 repeat' ((try (conv => whnf)) <;> first
  | with_reducible exact trivial
  | ((with_reducible refine ag ?_); refine fin_step' [] rfl ?_ ?_)
  | (with_reducible refine And.intro ?_ ?_))
 all_goals (try simp only [Bool.cond_true_left, Bool.cond_false_right, Bool.cond_false_left, Bool.cond_true_right, Bool.not_eq_true', Bool.not_eq_false', bne, Ex.css_len, List.length_map, Int.toNat_zero] at *)
 all_goals first
  | ((exact congrArg (fun z => D.val (Value.int IntKind.i64 z)) (oV (b := 1) (by omega))))
  | skip
theorem yD (x : Ex) (n : Nat) (hn : n + nodes x ≤ 1099511627776) : LCall Tryd.prog 46 [.data x.d, .fn 48 [.ptr 1000000 0]] [(1000000, .cells [.data (.i (n : Int))])] (.ret (.data (.tuple []))) [(1000000, .cells [.data (.i ((n + nodes x : Nat) : Int))])] := by
 revert n; revert x; refine Ex.ind fun x ih n hn => ?_
 refine lcall_of_wc tok hmix ⟨[], []⟩ Tryd.func46 rfl (by kernel_rfl) (by kernel_rfl) (by kernel_rfl) fun hf => ?_
 have hlen := Ex.fits (AFits.data (hf (.data x.d) (by simp)))
 have hN := nodes_eq x
 clear hf
 repeat' ((try (conv => whnf)) <;> first
  | with_reducible exact trivial
  | with_reducible exact ak hd0 ‹_›
  | with_reducible refine gz hd0 ?_
  | with_reducible refine dJ hd0 ?_
  | ((with_reducible refine LoopAt.mk 0 ?_); refine ⟨aF (x.l) 12 (fun (k : (Nat)) => []) (fun (k : (Nat)) => [(1000000, .cells [.data (.val (.int .i64 (k : Int)))])]) [1, 10, 11] (fun i0 r0 k => n + nodes x = k + nodesL r0), ?_⟩; with_reducible refine ae (n + 1) ?_ ?_ (fun i0 (k : (Nat)) hd0 hI0 => ?_) (fun i0 x0 r0 (k : (Nat)) hd0 hl0 hI0 => ?_))
  | (with_reducible refine af hd0 (k + nodes x0) ?_ ?_)
  | ((with_reducible refine lent_step' [(1000000, 1000000)] (qJ x n (by omega)) ?_ ?_ ?_ ?_); rotate_left 0; exact rfl; (exact ⟨rfl, trivial⟩); exact rfl)
  | ((with_reducible refine lent_step' [(1000000, 1000000)] (ih x0 (aY hd0) k (by simp only [nodesL] at hI0; omega)) ?_ ?_ ?_ ?_); rotate_left 0; exact rfl; (exact ⟨rfl, trivial⟩); exact rfl)
  | ((with_reducible refine ag ?_); refine fin_step' [] rfl ?_ ?_)
  | ((with_reducible refine aB ?_ ?_ ?_ ?_ ?_); exact rfl; exact rfl; rotate_left; (with_reducible exact bP hd0))
  | ((with_reducible refine aK ?_ ?_); exact rfl)
  | (with_reducible refine And.intro ?_ ?_)
  | exact @rfl AV _)
 all_goals (try simp only [Bool.cond_true_left, Bool.cond_false_right, Bool.cond_false_left, Bool.cond_true_right, Bool.not_eq_true', Bool.not_eq_false', bne, Ex.css_len, List.length_map, Int.toNat_zero] at *)
 all_goals first
  | omega
  | ((simp only [nodesL] at hI0; omega))
  | ((simp only [nodesL] at hI0; exact congrArg (fun z : Nat => D.val (Value.int IntKind.i64 (z : Int))) (by omega)))
  | skip
end Go.Proofs.YtogfjinopifenaaDoor
namespace Go.Proofs.YtogfjinopifenaaDoor
open Go.Fw Go.Fw.Nam Go.Fw.Ref15
set_option maxRecDepth 10000
variable [GlobInt]
theorem tX (n : Int)  : PCall Tryd.prog 55 [.i n] (.ret (.b (!sample n))) := by
 refine pcall_of_wc tok hmix ⟨[], []⟩ Tryd.func55 rfl (by kernel_rfl) (by kernel_rfl) (by kernel_rfl) fun hf => ?_
 clear hf
 repeat' ((try (conv => whnf)) <;> first
  | ((with_reducible refine ah ?_ ?_ ?_); rotate_left; (exact ny _))
  | ((with_reducible refine ag ?_); refine ⟨[], rfl, ?_, trivial⟩; conv => whnf))
 all_goals (try simp only [Bool.cond_true_left, Bool.cond_false_right, Bool.cond_false_left, Bool.cond_true_right, Bool.not_eq_true', Bool.not_eq_false', bne, Ex.css_len, List.length_map, Int.toNat_zero] at *)
 all_goals first
  | skip
theorem qK (l : List Int)  : PCall Tryd.prog 68 [ints l, .fn 55 []] (.ret (.i (gX l 0))) := by
 refine pcall_of_wc tok hmix ⟨[], []⟩ Tryd.func68 rfl (by kernel_rfl) (by kernel_rfl) (by kernel_rfl) fun hf => ?_
 have hlen : l.length ≤ 9223372036854775807 := by simpa using (hf (ints l) (by simp)).sl.1
 clear hf
 repeat' ((try (conv => whnf)) <;> first
  | with_reducible exact trivial
  | with_reducible exact ak hd0 ‹_›
  | with_reducible refine aX hd0 ?_
  | with_reducible refine aP hd0 ?_
  | with_reducible refine BrI.intro (fun h => ?_) (fun h => ?_)
  | ((with_reducible refine LoopAt.mk 0 ?_); refine ⟨aF (l) 8 (fun (_ : Unit) => []) (fun (_ : Unit) => []) [0, 1, 7] (fun i0 r0 _ => gX l 0 = gX r0 i0), ?_⟩; with_reducible refine ae () ?_ ?_ (fun i0 (_ : Unit) hd0 hI0 => ?_) (fun i0 x0 r0 (_ : Unit) hd0 hl0 hI0 => ?_))
  | (with_reducible refine af hd0 () ?_ ?_)
  | ((with_reducible refine ah ?_ ?_ ?_); rotate_left; (exact tX _))
  | ((with_reducible refine aB ?_ ?_ ?_ ?_ ?_); exact rfl; exact rfl; rotate_left; (with_reducible exact az hd0))
  | ((with_reducible refine ag ?_); refine ⟨[], rfl, ?_, trivial⟩; conv => whnf)
  | (with_reducible refine And.intro ?_ ?_)
  | exact @rfl AV _)
 all_goals (try simp only [Bool.cond_true_left, Bool.cond_false_right, Bool.cond_false_left, Bool.cond_true_right, Bool.not_eq_true', Bool.not_eq_false', bne, Ex.css_len, List.length_map, Int.toNat_zero] at *)
 all_goals first
  | (rw [hI0]; (try simp only [gX, Bool.not_true, Bool.not_false, Bool.and_true, Bool.true_and, Bool.and_false, Bool.false_and, Bool.or_true, Bool.true_or, Bool.or_false, Bool.false_or, if_true, if_false, reduceIte, Bool.false_eq_true, Bool.not_not, Bool.not_eq_true', beq_self_eq_true, List.all_cons, List.all_nil, List.any_cons, List.any_nil, List.length_map, bne, eq_self, Int.toNat_zero, *]); first | done | rfl)
  | ((simp_all [gX]; done))
  | skip
theorem lh (l : List Int)  : PCall Tryd.prog 54 [ints l, .fn 55 []] (.ret (.b (bad l))) := by
 refine pcall_of_wc tok hmix ⟨[], []⟩ Tryd.func54 rfl (by kernel_rfl) (by kernel_rfl) (by kernel_rfl) fun hf => ?_
 clear hf
 repeat' ((try (conv => whnf)) <;> first
  | ((with_reducible refine ah ?_ ?_ ?_); rotate_left; (exact qK _))
  | ((with_reducible refine ag ?_); refine ⟨[], rfl, ?_, trivial⟩; conv => whnf))
 all_goals (try simp only [Bool.cond_true_left, Bool.cond_false_right, Bool.cond_false_left, Bool.cond_true_right, Bool.not_eq_true', Bool.not_eq_false', bne, Ex.css_len, List.length_map, Int.toNat_zero] at *)
 all_goals first
  | (simp only [bad, Bool.not_true, Bool.not_false, Bool.and_true, Bool.true_and, Bool.and_false, Bool.false_and, Bool.or_true, Bool.true_or, Bool.or_false, Bool.false_or, if_true, if_false, reduceIte, Bool.false_eq_true, Bool.not_not, Bool.not_eq_true', beq_self_eq_true, List.all_cons, List.all_nil, List.any_cons, List.any_nil, List.length_map, bne, eq_self, Int.toNat_zero, *]; done)
  | skip
end Go.Proofs.YtogfjinopifenaaDoor
namespace Go.Proofs.YtogfjinopifenaaDoor
open Go.Fw Go.Fw.Nam
set_option maxRecDepth 10000
variable [GlobInt]
theorem dR (p : Pr) (hn : ∀ s ∈ p.stmts, Ref15.nodes s.x ≤ 1073741824) : PCall Tryd.prog 25 [p.d] (fK 30 (limited p) 2) := by
 refine pcall_of_wc tok hmix ⟨[], []⟩ Tryd.func25 rfl (by kernel_rfl) (by kernel_rfl) (by kernel_rfl) fun hf => ?_
 have hq := Pr.fits (hf p.d (by simp))
 have hlen3 := hq.lines; have hlen4 := hq.tables; have hlen5 := hq.stmts
 clear hf
 repeat' ((try (conv => whnf)) <;> first
  | with_reducible exact trivial
  | with_reducible exact ak hd4 ‹_›
  | with_reducible exact ak hd2 ‹_›
  | with_reducible exact ak hd0 ‹_›
  | with_reducible refine aX hd4 ?_
  | with_reducible refine aX hd2 ?_
  | with_reducible refine aX hd0 ?_
  | with_reducible refine aP hd4 ?_
  | with_reducible refine aP hd2 ?_
  | with_reducible refine aP hd0 ?_
  | with_reducible refine aG (bZ _ _) (fun h => ?_) (fun h => ?_)
  | ((with_reducible refine LoopAt.mk 0 ?_); refine ⟨aF (p.lines) 55 (fun (ok : (Bool)) => [(3, .data (.val (.bool ok)))]) (fun (ok : (Bool)) => []) [1, 53, 54] (fun i0 r0 ok => limited p = (ok && (r0.all ln1 && (p.tables.all tb1 && p.stmts.all sm1)))), ?_⟩; with_reducible refine ae ?_ ?_ ?_ (fun i0 (ok : (Bool)) hd0 hI0 => ?_) (fun i0 x0 r0 (ok : (Bool)) hd0 hl0 hI0 => ?_))
  | (with_reducible refine af hd0 ?_ ?_ ?_)
  | ((with_reducible refine LoopAt.mk 2 ?_); refine ⟨aF (p.tables) 74 (fun (ok : (Bool)) => [(3, .data (.val (.bool ok)))]) (fun (ok : (Bool)) => []) [1, 72, 73] (fun i2 r2 ok => limited p = (ok && (r2.all tb1 && p.stmts.all sm1))), ?_⟩; with_reducible refine ae ?_ ?_ ?_ (fun i2 (ok : (Bool)) hd2 hI2 => ?_) (fun i2 x2 r2 (ok : (Bool)) hd2 hl2 hI2 => ?_))
  | (with_reducible refine af hd2 ?_ ?_ ?_)
  | ((with_reducible refine LoopAt.mk 4 ?_); refine ⟨aF (p.stmts) 95 (fun (ok : (Bool)) => [(3, .data (.val (.bool ok)))]) (fun (ok : (Bool)) => []) [93, 94] (fun i4 r4 ok => limited p = (ok && r4.all sm1)), ?_⟩; with_reducible refine ae ?_ ?_ ?_ (fun i4 (ok : (Bool)) hd4 hI4 => ?_) (fun i4 x4 r4 (ok : (Bool)) hd4 hl4 hI4 => ?_))
  | (with_reducible refine af hd4 ?_ ?_ ?_)
  | ((with_reducible refine lent_step' [(1000000, 10)] (yD x4.x 0 (by have := hn _ (aY hd4); omega)) ?_ ?_ ?_ ?_); rotate_left 0; exact rfl; (exact ⟨rfl, trivial⟩); exact rfl)
  | ((with_reducible refine aB ?_ ?_ ?_ ?_ ?_); exact rfl; exact rfl; rotate_left; (first | with_reducible exact az hd4 | with_reducible exact az hd2 | with_reducible exact az hd0))
  | ((with_reducible refine aK ?_ ?_); exact rfl)
  | ((with_reducible refine gG ?_ ?_); rotate_left; refine ⟨[], rfl, ?_, trivial⟩; conv => whnf)
  | ((with_reducible refine gI ?_ ?_); rotate_left; refine ⟨[], rfl, ?_, trivial⟩; conv => whnf)
  | (with_reducible refine And.intro ?_ ?_)
  | exact @rfl AV _)
 all_goals (try simp only [Bool.cond_true_left, Bool.cond_false_right, Bool.cond_false_left, Bool.cond_true_right, Bool.not_eq_true', Bool.not_eq_false', bne, Ex.css_len, List.length_map, Int.toNat_zero] at *)
 all_goals first
  | (rw [hI4]; (try simp only [ln1, tb1, sm1, Bool.and_assoc, Nat.zero_add, Bool.not_true, Bool.not_false, Bool.and_true, Bool.true_and, Bool.and_false, Bool.false_and, Bool.or_true, Bool.true_or, Bool.or_false, Bool.false_or, if_true, if_false, reduceIte, Bool.false_eq_true, Bool.not_not, Bool.not_eq_true', beq_self_eq_true, List.all_cons, List.all_nil, List.any_cons, List.any_nil, List.length_map, bne, eq_self, Int.toNat_zero, *]); first | done | rfl)
  | (rw [hI2]; (try simp only [ln1, tb1, sm1, Bool.and_assoc, Nat.zero_add, Bool.not_true, Bool.not_false, Bool.and_true, Bool.true_and, Bool.and_false, Bool.false_and, Bool.or_true, Bool.true_or, Bool.or_false, Bool.false_or, if_true, if_false, reduceIte, Bool.false_eq_true, Bool.not_not, Bool.not_eq_true', beq_self_eq_true, List.all_cons, List.all_nil, List.any_cons, List.any_nil, List.length_map, bne, eq_self, Int.toNat_zero, *]); first | done | rfl)
  | (rw [hI0]; (try simp only [ln1, tb1, sm1, Bool.and_assoc, Nat.zero_add, Bool.not_true, Bool.not_false, Bool.and_true, Bool.true_and, Bool.and_false, Bool.false_and, Bool.or_true, Bool.true_or, Bool.or_false, Bool.false_or, if_true, if_false, reduceIte, Bool.false_eq_true, Bool.not_not, Bool.not_eq_true', beq_self_eq_true, List.all_cons, List.all_nil, List.any_cons, List.any_nil, List.length_map, bne, eq_self, Int.toNat_zero, *]); first | done | rfl)
  | (rfl)
  | skip
end Go.Proofs.YtogfjinopifenaaDoor
