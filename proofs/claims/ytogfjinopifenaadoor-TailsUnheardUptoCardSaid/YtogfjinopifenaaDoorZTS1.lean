/- Contracts: package tails: the parts of an expression are yielded. -/
import Derived.Test.YtogfjinopifenaaDoorZTA
import Derived.Test.YtogfjinopifenaaDoorZK6
set_option linter.unusedSectionVars false
set_option linter.unusedSimpArgs false
set_option linter.unusedVariables false
set_option maxHeartbeats 2000000
namespace Go.Proofs.YtogfjinopifenaaDoor
open Go.Fw Go.Fw.Ref15 Go.Fw.Rg Go.Fw.Tl
set_option maxRecDepth 10000
variable [af]
abbrev YOk (Rf : Nat → RP) (n : Nat) (y : Ex) : Prop := aZ Tryd.prog yQ [.yld 1000000, .data y.d] [(1000000, .rnd (Rf n))] (.ret (.b true)) [(1000000, .rnd (Rf (n + 1)))]
abbrev z1s (Rf : Nat → RP) (Re : RP) (d : D) (n : Nat) (y : Ex) : Prop := aZ Tryd.prog yQ [.yld 1000000, .data y.d] [(1000000, .rnd (Rf n))] (.pan (.data d)) [(1000000, .rnd Re)]
theorem Ff (x : Ex) (Rf : Nat → RP) (i : Nat) (hy : ∀ j y, (au x)[j]? = some y → YOk Rf (i + j) y) : aZ Tryd.prog 58 [.data x.d, .ptr 1000001 0, .ptr 1000002 0] [(1000000, .rnd (Rf i)), (1000001, .cells [.yld 1000000]), (1000002, .cells [.fn 58 [.ptr 1000001 0, .ptr 1000002 0]])] (.ret (.b true)) [(1000000, .rnd (Rf (i + (au x).length))), (1000001, .cells [.yld 1000000]), (1000002, .cells [.fn 58 [.ptr 1000001 0, .ptr 1000002 0]])] := by
 revert i; revert x; refine Ex.ind fun x ih i hy => ?_
 refine aB tok hmix ⟨[], []⟩ Tryd.func58 rfl (by kernel_rfl) (by kernel_rfl) (by kernel_rfl) fun hf => ?_
 have hlen := Ex.fits (uU.data (hf (.data x.d) (by simp)))
 clear hf
 repeat' ((try (conv => whnf)) <;> first
  | (have hq : m = i + (au x).length := QI hd0 hI0; clear hI0; subst hq)
  | with_reducible exact trivial
  | with_reducible exact ax hd0 ‹_›
  | with_reducible refine kM hd0 ?_
  | with_reducible refine iG hd0 ?_
  | with_reducible refine BrI.intro (fun h => ?_) (fun h => ?_)
  | (exact Bool.noConfusion (h : false = true))
  | ((with_reducible refine aI.mk 0 ?_); refine ⟨aP (x.l) 14 (fun (m : (Nat)) => []) (fun (m : (Nat)) => [(1000000, .rnd (Rf m)), (1000001, .cells [.yld 1000000]), (1000002, .cells [.fn 58 [.ptr 1000001 0, .ptr 1000002 0]]), (3, .cells [.data (.i x.kind), .data (.str x.name), .data (.i x.index), .data (.i x.n), .data (.sl 5 (Ex.css x.l))])]) [2, 12, 13] (fun i0 r0 m => m = i + (1 + (cu (x.l.take i0)).length)), ?_⟩; with_reducible refine ag (i + 1) ?_ ?_ (fun i0 (m : (Nat)) hd0 hI0 => ?_) (fun i0 x0 r0 (m : (Nat)) hd0 hl0 hI0 => ?_))
  | (with_reducible refine ah hd0 (m + (au x0).length) ?_ ?_)
  | ((with_reducible refine lent_step' [] (hy 0 x (Ik x)) ?_ ?_ ?_ ?_); rotate_left 0; exact rfl; (exact ⟨rfl, trivial⟩); exact rfl)
  | ((with_reducible refine lent_step' [(1000000, 1000000), (1000001, 1000001), (1000002, 1000002)] (ih x0 (bV hd0) m (ZN hd0 hI0 hy)) ?_ ?_ ?_ ?_); rotate_left 0; exact rfl; (exact ⟨rfl, rfl, rfl, trivial⟩); exact rfl)
  | ((with_reducible refine ai ?_); refine fin_step' [(1000000, 1000000), (1000001, 1000001), (1000002, 1000002)] rfl ?_ ?_)
  | ((with_reducible refine aJ ?_ ?_ ?_ ?_ ?_); exact rfl; exact rfl; rotate_left; (with_reducible exact eu hd0))
  | ((with_reducible refine aW ?_ ?_); exact rfl)
  | (with_reducible refine And.intro ?_ ?_)
  | exact @rfl AV _
  | fail)
 all_goals first
  | (rfl)
  | ((exact JZ hd0 hI0))
  | skip
theorem QN (x : Ex) (Rf : Nat → RP) (hy : ∀ j y, (au x)[j]? = some y → YOk Rf (0 + j) y) : aZ Tryd.prog 57 [.yld 1000000, .ptr 1000001 0] [(1000000, .rnd (Rf 0)), (1000001, .cells [.data (.i x.kind), .data (.str x.name), .data (.i x.index), .data (.i x.n), .data (.sl 5 (Ex.css x.l))])] (.ret (.data (.tuple []))) [(1000000, .rnd (Rf (0 + (au x).length))), (1000001, .cells [.data (.i x.kind), .data (.str x.name), .data (.i x.index), .data (.i x.n), .data (.sl 5 (Ex.css x.l))])] := by
 refine aB tok hmix ⟨[], []⟩ Tryd.func57 rfl (by kernel_rfl) (by kernel_rfl) (by kernel_rfl) fun hf => ?_
 clear hf
 repeat' ((try (conv => whnf)) <;> first
  | with_reducible exact trivial
  | ((with_reducible refine lent_step' [(1000000, 1000000), (1000001, 2), (1000002, 3)] (Ff x Rf 0 hy) ?_ ?_ ?_ ?_); rotate_left 0; exact rfl; (exact ⟨rfl, rfl, rfl, trivial⟩); exact rfl)
  | ((with_reducible refine ai ?_); refine fin_step' [(1000000, 1000000), (1000001, 1000001)] rfl ?_ ?_)
  | (with_reducible refine And.intro ?_ ?_)
  | fail)
 all_goals first
  | skip
theorem MO (x : Ex) (Rf : Nat → RP) (Re : RP) (d : D) (i q : Nat) (hq : q < (au x).length) (hy : ∀ j y, j < q → (au x)[j]? = some y → YOk Rf (i + j) y) (hp : ∀ y, (au x)[q]? = some y → z1s Rf Re d (i + q) y) : aZ Tryd.prog 58 [.data x.d, .ptr 1000001 0, .ptr 1000002 0] [(1000000, .rnd (Rf i)), (1000001, .cells [.yld 1000000]), (1000002, .cells [.fn 58 [.ptr 1000001 0, .ptr 1000002 0]])] (.pan (.data d)) [(1000000, .rnd Re), (1000001, .cells [.yld 1000000]), (1000002, .cells [.fn 58 [.ptr 1000001 0, .ptr 1000002 0]])] := by
 revert q i; revert x; refine Ex.ind fun x ih i q hq hy hp => ?_
 refine aB tok hmix ⟨[], []⟩ Tryd.func58 rfl (by kernel_rfl) (by kernel_rfl) (by kernel_rfl) fun hf => ?_
 have hlen := Ex.fits (uU.data (hf (.data x.d) (by simp)))
 have hsp : q = 0 ∨ 0 < q := by omega
 clear hf
 repeat' ((try (conv => whnf)) <;> first
  | (rcases hsp with rfl | hq0)
  | (exact absurd hq (by have := QI hd0 hI0.1; have := hI0.2; omega))
  | (obtain ⟨hI1, hI2⟩ := hI0; rcases ZO hd0 hI1 hI2 with hc | ⟨t, hqt, ht⟩)
  | with_reducible exact trivial
  | with_reducible exact ax hd0 ‹_›
  | with_reducible refine iG hd0 ?_
  | with_reducible refine BrI.intro (fun h => ?_) (fun h => ?_)
  | (exact Bool.noConfusion (h : false = true))
  | ((with_reducible refine aI.mk 0 ?_); refine ⟨aP (x.l) 14 (fun (m : (Nat)) => []) (fun (m : (Nat)) => [(1000000, .rnd (Rf m)), (1000001, .cells [.yld 1000000]), (1000002, .cells [.fn 58 [.ptr 1000001 0, .ptr 1000002 0]]), (3, .cells [.data (.i x.kind), .data (.str x.name), .data (.i x.index), .data (.i x.n), .data (.sl 5 (Ex.css x.l))])]) [2, 12, 13] (fun i0 r0 m => m = i + (1 + (cu (x.l.take i0)).length) ∧ m ≤ i + q), ?_⟩; with_reducible refine ag (i + 1) ?_ ?_ (fun i0 (m : (Nat)) hd0 hI0 => ?_) (fun i0 x0 r0 (m : (Nat)) hd0 hl0 hI0 => ?_))
  | (with_reducible refine ah hd0 (m + (au x0).length) ?_ ?_)
  | ((with_reducible refine lent_step' [] (hp x (Ik x)) ?_ ?_ ?_ ?_); rotate_left 0; exact rfl; (exact ⟨rfl, trivial⟩); exact rfl)
  | ((with_reducible refine lent_step' [] (hy 0 x hq0 (Ik x)) ?_ ?_ ?_ ?_); rotate_left 0; exact rfl; (exact ⟨rfl, trivial⟩); exact rfl)
  | ((with_reducible refine lent_step' [(1000000, 1000000), (1000001, 1000001), (1000002, 1000002)] (Ff x0 Rf m (XK hd0 hI1 hy hc)) ?_ ?_ ?_ ?_); rotate_left 0; exact rfl; (exact ⟨rfl, rfl, rfl, trivial⟩); exact rfl)
  | ((with_reducible refine lent_step' [(1000000, 1000000), (1000001, 1000001), (1000002, 1000002)] (ih x0 (bV hd0) m t ht (XL hd0 hI1 hy hqt) (ZP hd0 hI1 hp hqt)) ?_ ?_ ?_ ?_); rotate_left 0; exact rfl; (exact ⟨rfl, rfl, rfl, trivial⟩); exact rfl)
  | ((with_reducible refine iK ?_); refine fin_step' [(1000000, 1000000), (1000001, 1000001), (1000002, 1000002)] rfl ?_ ?_)
  | ((with_reducible refine aJ ?_ ?_ ?_ ?_ ?_); exact rfl; exact rfl; rotate_left; (with_reducible exact eu hd0))
  | ((with_reducible refine aW ?_ ?_); exact rfl)
  | (with_reducible refine And.intro ?_ ?_)
  | exact @rfl AV _
  | exact @rfl Block _
  | fail)
 all_goals first
  | (rfl)
  | ((exact JZ hd0 hI1))
  | ((exact hc))
  | (omega)
  | skip
theorem MP (x : Ex) (Rf : Nat → RP) (Re : RP) (d : D) (q : Nat) (hq : q < (au x).length) (hy : ∀ j y, j < q → (au x)[j]? = some y → YOk Rf (0 + j) y) (hp : ∀ y, (au x)[q]? = some y → z1s Rf Re d (0 + q) y) : aZ Tryd.prog 57 [.yld 1000000, .ptr 1000001 0] [(1000000, .rnd (Rf 0)), (1000001, .cells [.data (.i x.kind), .data (.str x.name), .data (.i x.index), .data (.i x.n), .data (.sl 5 (Ex.css x.l))])] (.pan (.data d)) [(1000000, .rnd Re), (1000001, .cells [.data (.i x.kind), .data (.str x.name), .data (.i x.index), .data (.i x.n), .data (.sl 5 (Ex.css x.l))])] := by
 refine aB tok hmix ⟨[], []⟩ Tryd.func57 rfl (by kernel_rfl) (by kernel_rfl) (by kernel_rfl) fun hf => ?_
 clear hf
 repeat' ((try (conv => whnf)) <;> first
  | with_reducible exact trivial
  | ((with_reducible refine lent_step' [(1000000, 1000000), (1000001, 2), (1000002, 3)] (MO x Rf Re d 0 q hq hy hp) ?_ ?_ ?_ ?_); rotate_left 0; exact rfl; (exact ⟨rfl, rfl, rfl, trivial⟩); exact rfl)
  | ((with_reducible refine iK ?_); refine fin_step' [(1000000, 1000000), (1000001, 1000001)] rfl ?_ ?_)
  | (with_reducible refine And.intro ?_ ?_)
  | exact @rfl Block _
  | fail)
 all_goals first
  | skip
theorem uu (x : Ex)  : aZ Tryd.prog 32 [.data x.d] [] (.ret (.fn 57 [.ptr 1000000 0])) [(1000000, .cells [.data (.i x.kind), .data (.str x.name), .data (.i x.index), .data (.i x.n), .data (.sl 5 (Ex.css x.l))])] := by
 refine aB tok hmix ⟨[], []⟩ Tryd.func32 rfl (by kernel_rfl) (by kernel_rfl) (by kernel_rfl) fun hf => ?_
 clear hf
 repeat' ((try (conv => whnf)) <;> first
  | with_reducible exact trivial
  | ((with_reducible refine ai ?_); refine fin_step' [(1000000, 1)] rfl ?_ ?_)
  | (with_reducible refine And.intro ?_ ?_)
  | exact @rfl AV _
  | fail)
 all_goals first
  | skip
end Go.Proofs.YtogfjinopifenaaDoor
