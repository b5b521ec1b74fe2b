/- Contracts: package names: visiting expressions. -/
import Derived.Test.YtogfjinopifenaaDoorZNX
import Derived.Test.YtogfjinopifenaaDoorZDB
set_option linter.unusedSectionVars false
set_option linter.unusedSimpArgs false
set_option linter.unusedVariables false
set_option maxHeartbeats 4000000
namespace Go.Proofs.YtogfjinopifenaaDoor
open Go.Fw Go.Fw.Nam Go.Fw.Ref15
set_option maxRecDepth 10000
variable [af]
theorem Ky (x : Ex) (l : List Pe) (i : Int) (hx : nodes x ≤ 1073741824) (hv : yP l i x = true) : aZ Tryd.prog 28 [.data x.d, .ptr 1000000 0, .ptr 1000001 0, .ptr 1000002 0] [(1000000, .cells [.map 1000003]), (1000001, .cells [.data (.i i)]), (1000002, .cells [.fn 28 [.ptr 1000000 0, .ptr 1000001 0, .ptr 1000002 0]]), (1000003, .map false [.str] (mkM l))] (.ret (.data (vis l x).d)) [(1000000, .cells [.map 1000003]), (1000001, .cells [.data (.i i)]), (1000002, .cells [.fn 28 [.ptr 1000000 0, .ptr 1000001 0, .ptr 1000002 0]]), (1000003, .map false [.str] (mkM l))] := by
 revert x; refine Ex.ind fun x ih hx hv => ?_
 refine aB tok hmix ⟨[], []⟩ Tryd.func28 rfl (by kernel_rfl) (by kernel_rfl) (by kernel_rfl) fun hf => ?_
 have hlen := Ex.fits (uU.data (hf (.data x.d) (by simp)))
 have hN := nodes_eq x
 have hL := len_nodes x.l
 clear hf
 repeat' ((try (conv => whnf)) <;> first
  | with_reducible exact trivial
  | with_reducible exact ax hd0 ‹_›
  | with_reducible refine kM hd0 ?_
  | with_reducible refine iG hd0 ?_
  | with_reducible refine BrI.intro (fun h => ?_) (fun h => ?_)
  | with_reducible refine aS (fF _ _) (fun h => ?_) (fun h => ?_)
  | (exact Bool.noConfusion (h : false = true))
  | (refine Pv (fun e he => ?_) (fun he => ?_))
  | ((with_reducible refine aI.mk 0 ?_); refine ⟨aP (x.l) 89 (fun (out : (List Ex)) => []) (fun (out : (List Ex)) => [(1000000, .cells [.map 1000003]), (1000001, .cells [.data (.i i)]), (1000002, .cells [.fn 28 [.ptr 1000000 0, .ptr 1000001 0, .ptr 1000002 0]]), (1000003, .map false [.str] (mkM l)), (5, .cells [.data (.i 0), .data (.str []), .data (.i 0), .data (.i 0), .nilsl 5]), (6, .cells [.data (.i (BH l x.kind x.name)), .data (.str x.name), .data (.i (TC l x.kind x.name)), .data (.i x.n), .gs 900006 5 (out.map Ex.cs)]), (900006, .tok 5 (out.map Ex.cs).length)]) [3, 5, 6, 87, 88] (fun i0 r0 out => qg l i r0 = true ∧ Rz l x.l = out ++ Rz l r0 ∧ nodesL r0 ≤ 1073741824 ∧ out.length = i0), ?_⟩; with_reducible refine ag ([]) ?_ ?_ (fun i0 (out : (List Ex)) hd0 hI0 => ?_) (fun i0 x0 r0 (out : (List Ex)) hd0 hl0 hI0 => ?_))
  | (with_reducible refine ah hd0 (out ++ [vis l x0]) ?_ ?_)
  | ((with_reducible refine aj ?_ ?_ ?_); rotate_left; (exact uz _))
  | ((with_reducible refine lent_step' [(1000000, 1000000), (1000001, 1000001), (1000002, 1000002), (1000003, 1000003)] (ih x0 (bV hd0) (by have := hI0.2.2.1; simp only [nodesL] at this; omega) (by have := hI0.1; simp only [qg, Bool.and_eq_true] at this; exact this.1)) ?_ ?_ ?_ ?_); rotate_left 0; exact rfl; (exact ⟨rfl, rfl, rfl, rfl, trivial⟩); exact rfl)
  | ((with_reducible refine ai ?_); refine fin_step' [(1000000, 1000000), (1000001, 1000001), (1000002, 1000002), (1000003, 1000003)] rfl ?_ ?_)
  | (with_reducible refine bH.l _ ?_)
  | ((with_reducible refine eF ?_ ?_ ?_ ?_ ?_ ?_) <;> exact rfl)
  | ((with_reducible refine gp ?_ ?_ ?_ ?_) <;> exact rfl)
  | ((with_reducible refine aJ ?_ ?_ ?_ ?_ ?_); exact rfl; exact rfl; rotate_left; (with_reducible exact eu hd0))
  | ((with_reducible refine aW ?_ ?_); exact rfl)
  | ((with_reducible refine app_step' ?_ ?_ ?_ ?_ ?_ ?_ ?_); exact rfl; exact rfl; exact rfl; exact rfl)
  | ((with_reducible refine fB ?_ ?_); with_reducible exact rfl)
  | ((with_reducible refine aA ?_ ?_); kernel_rfl)
  | (with_reducible refine And.intro ?_ ?_)
  | ((with_reducible refine uX ?_ ?_ ?_); exact rfl; exact rfl; (first | exact iH | skip))
  | ((with_reducible refine pg ?_ ?_); exact rfl; (first | exact iH | skip))
  | exact @rfl AV _
  | exact kN rfl
  | fail)
 all_goals (try simp only [Bool.cond_true_left, Bool.cond_false_right, Bool.cond_false_left, Bool.cond_true_right, Bool.not_eq_true', Bool.not_eq_false', bne, Ex.css_len, List.length_map, Int.toNat_zero] at *)
 all_goals first
  | omega
  | ((exfalso; have hv2 := hv; rw [BI, Bool.and_eq_true] at hv2; have hk := hv2.1; clear hv2 hv ih hN hL hlen hx; simp_all [vok, eok, arr]; done))
  | ((refine congrArg (fun z => AV.data (D.i z)) ?_; simp only [BH, TC, he, if_true, *]; done))
  | ((refine congrArg (fun z => AV.data (D.i z)) ?_; simp only [BH, TC, h, Bool.false_eq_true, if_false, reduceIte]; done))
  | (((try (conv => whnf)); rw [Ve, hI0.2.1]; simp only [Rz, List.append_nil, Ex.css_map]; rfl))
  | ((have hv2 := hv; rw [BI, Bool.and_eq_true] at hv2; exact hv2.2))
  | ((simp only [nodesL] at hI0; omega))
  | ((simp only [qg, Bool.and_eq_true] at hI0; exact hI0.1.2))
  | (((with_reducible refine Eq.symm ?_); (with_reducible refine Eq.symm ?_); rw [hI0.2.1]; simp only [Rz, List.append_assoc, List.cons_append, List.nil_append]; done))
  | ((simp only [List.length_append, List.length_cons, List.length_nil]; omega))
  | (rfl)
  | skip
theorem Q7 (x : Ex) (l : List Pe) (i : Int) (hx : nodes x ≤ 1073741824) (hv : yP l i x = false) : aZ Tryd.prog 28 [.data x.d, .ptr 1000000 0, .ptr 1000001 0, .ptr 1000002 0] [(1000000, .cells [.map 1000003]), (1000001, .cells [.data (.i i)]), (1000002, .cells [.fn 28 [.ptr 1000000 0, .ptr 1000001 0, .ptr 1000002 0]]), (1000003, .map false [.str] (mkM l))] (.pan (.data (.iface 30 (.i 150)))) [(1000000, .cells [.map 1000003]), (1000001, .cells [.data (.i i)]), (1000002, .cells [.fn 28 [.ptr 1000000 0, .ptr 1000001 0, .ptr 1000002 0]]), (1000003, .map false [.str] (mkM l))] := by
 revert x; refine Ex.ind fun x ih hx hv => ?_
 refine aB tok hmix ⟨[], []⟩ Tryd.func28 rfl (by kernel_rfl) (by kernel_rfl) (by kernel_rfl) fun hf => ?_
 have hlen := Ex.fits (uU.data (hf (.data x.d) (by simp)))
 have hN := nodes_eq x
 have hL := len_nodes x.l
 clear hf
 repeat' ((try (conv => whnf)) <;> first
  | with_reducible exact trivial
  | with_reducible exact ax hd0 ‹_›
  | with_reducible refine kM hd0 ?_
  | with_reducible refine iG hd0 ?_
  | with_reducible refine BrI.intro (fun h => ?_) (fun h => ?_)
  | with_reducible refine aS (fF _ _) (fun h => ?_) (fun h => ?_)
  | ((refine rest_step _ _ _ [true, true, true, true] ?_ ?_); kernel_rfl)
  | ((with_reducible refine quiet_step ?_ ?_); kernel_rfl)
  | (exact Bool.noConfusion (h : false = true))
  | (exact Bool.noConfusion (Px.symm.trans hI0.1))
  | (obtain ⟨hq1, hq2, hq3⟩ := hI0; rcases L9 hq1 with ⟨hb1, hb2⟩ | hb1 <;> clear hq1)
  | (refine Pv (fun e he => ?_) (fun he => ?_))
  | ((with_reducible refine aI.mk 0 ?_); refine ⟨aP (x.l) 89 (fun (out : (List Ex)) => []) (fun (out : (List Ex)) => [(1000000, .cells [.map 1000003]), (1000001, .cells [.data (.i i)]), (1000002, .cells [.fn 28 [.ptr 1000000 0, .ptr 1000001 0, .ptr 1000002 0]]), (1000003, .map false [.str] (mkM l)), (5, .cells [.data (.i 0), .data (.str []), .data (.i 0), .data (.i 0), .nilsl 5]), (6, .cells [.data (.i (BH l x.kind x.name)), .data (.str x.name), .data (.i (TC l x.kind x.name)), .data (.i x.n), .gs 900006 5 (out.map Ex.cs)]), (900006, .tok 5 (out.map Ex.cs).length)]) [3, 5, 6, 87, 88] (fun i0 r0 out => qg l i r0 = false ∧ nodesL r0 ≤ 1073741824 ∧ out.length = i0), ?_⟩; with_reducible refine ag ([]) ?_ ?_ (fun i0 (out : (List Ex)) hd0 hI0 => ?_) (fun i0 x0 r0 (out : (List Ex)) hd0 hl0 hI0 => ?_))
  | (with_reducible refine ah hd0 (out ++ [vis l x0]) ?_ ?_)
  | ((with_reducible refine aj ?_ ?_ ?_); rotate_left; (exact uz _))
  | ((with_reducible refine lent_step' [(1000000, 1000000), (1000001, 1000001), (1000002, 1000002), (1000003, 1000003)] (Ky x0 l i (by simp only [nodesL] at hq2; omega) hb1) ?_ ?_ ?_ ?_); rotate_left 0; exact rfl; (exact ⟨rfl, rfl, rfl, rfl, trivial⟩); exact rfl)
  | ((with_reducible refine lent_step' [(1000000, 1000000), (1000001, 1000001), (1000002, 1000002), (1000003, 1000003)] (ih x0 (bV hd0) (by simp only [nodesL] at hq2; omega) hb1) ?_ ?_ ?_ ?_); rotate_left 0; exact rfl; (exact ⟨rfl, rfl, rfl, rfl, trivial⟩); exact rfl)
  | ((with_reducible refine iK ?_); refine fin_step' [(1000000, 1000000), (1000001, 1000001), (1000002, 1000002), (1000003, 1000003)] rfl ?_ ?_)
  | (with_reducible refine bH.l _ ?_)
  | ((with_reducible refine eF ?_ ?_ ?_ ?_ ?_ ?_) <;> exact rfl)
  | ((with_reducible refine gp ?_ ?_ ?_ ?_) <;> exact rfl)
  | ((with_reducible refine aJ ?_ ?_ ?_ ?_ ?_); exact rfl; exact rfl; rotate_left; (with_reducible exact eu hd0))
  | ((with_reducible refine aW ?_ ?_); exact rfl)
  | ((with_reducible refine app_step' ?_ ?_ ?_ ?_ ?_ ?_ ?_); exact rfl; exact rfl; exact rfl; exact rfl)
  | ((with_reducible refine fB ?_ ?_); with_reducible exact rfl)
  | ((with_reducible refine aA ?_ ?_); kernel_rfl)
  | ((with_reducible refine jW ?_ ?_); kernel_rfl)
  | (with_reducible refine And.intro ?_ ?_)
  | ((with_reducible refine uX ?_ ?_ ?_); exact rfl; exact rfl; (first | exact iH | skip))
  | ((with_reducible refine pg ?_ ?_); exact rfl; (first | exact iH | skip))
  | exact @rfl AV _
  | exact @rfl Block _
  | exact kN rfl
  | fail)
 all_goals (try simp only [Bool.cond_true_left, Bool.cond_false_right, Bool.cond_false_left, Bool.cond_true_right, Bool.not_eq_true', Bool.not_eq_false', bne, Ex.css_len, List.length_map, Int.toNat_zero] at *)
 all_goals first
  | omega
  | ((refine congrArg (fun z => AV.data (D.i z)) ?_; simp only [BH, TC, he, if_true, *]; done))
  | ((refine congrArg (fun z => AV.data (D.i z)) ?_; simp only [BH, TC, h, Bool.false_eq_true, if_false, reduceIte]; done))
  | ((simp only [nodesL] at hq2; omega))
  | ((simp only [List.length_append, List.length_cons, List.length_nil]; omega))
  | (rfl)
  | (((with_reducible refine Eq.symm ?_); (with_reducible refine Eq.symm ?_); have hv2 := hv; rw [BI] at hv2; clear hv ih hN hL hlen hx; simp_all [vok, eok, arr]; done))
  | skip
end Go.Proofs.YtogfjinopifenaaDoor
