/- Contracts: package ranges: Check and Interval, whole. -/
import Derived.Test.YtogfjinopifenaaDoorZXC
import Derived.Test.YtogfjinopifenaaDoorZTA
set_option linter.unusedSectionVars false
set_option linter.unusedSimpArgs false
set_option linter.unusedVariables false
set_option maxHeartbeats 2000000
namespace Go.Proofs.YtogfjinopifenaaDoor
open Go.Fw Go.Fw.Rg Go.Fw.Nam
set_option maxRecDepth 10000
variable [GlobInt]
theorem ER (p : Pr) (g : cZ p) : ∃ pd, PCall Tryd.prog 45 [p.d] (.ret (.tuple [pd, .i (aj p).2])) ∧ (((aj p).2 != 0) = true → pd = .val (.pointer none) ∨ pd = .ptr (fC p (fM p p.stmts []))) ∧ ((aj p).2 = 0 → pd = .ptr (fC p (aj p).1)) := by
 cases he : resE p != 0 with
 | true =>
  rw [lw he]
  refine ⟨.val (.pointer none), ?_, fun _ => .inl rfl, fun h => ?_⟩
  ·cases h2 : (resolveC p).2 != 0 with
   | true => rw [show resE p = (resolveC p).2 from by rw [resE, if_pos h2]]; exact Tz p g h2
   | false =>
    cases h3 : oK p (resolveC p).1 with
    | true => rw [resE, if_neg (by rw [h2]; decide), h3] at he; exact absurd he (by decide)
    | false => rw [show resE p = 150 from by rw [resE, if_neg (by rw [h2]; decide), h3]; rfl]; exact TA p g h2 h3
  ·have h : resE p = 0 := h
   rw [h] at he; exact absurd he (by decide)
 | false =>
  have hz : resE p = 0 := by simpa using he
  have hr := iD hz
  have hq := xI hz
  cases hs : stmtsM p p.stmts [] with
  | ok F =>
   rw [jr hz hs]
   have hF : fM p p.stmts [] = F := WP hs
   exact ⟨.ptr (fC p F), TB p F g (by rw [hq]) (by rw [hq]) hr.rng hr.wf hs hF, fun h => Bool.noConfusion (show false = true from h), fun _ => rfl⟩
  | error e =>
   rw [xM hz hs]
   refine ⟨.ptr (fC p (fM p p.stmts [])), PV p _ e g (by rw [hq]) (by rw [hq]) hr.rng hr.wf hs rfl, fun _ => .inr rfl, fun h => ?_⟩
   have := Pz hs
   have h : e = 0 := h
   rw [h] at this; exact absurd this (by decide)
theorem pR (p : Pr) (g : cZ p) : PCall Tryd.prog 14 [p.d] (.ret (.i (aj p).2)) := by
 obtain ⟨pd, h1, h2, h3⟩ := ER p g
 exact check_any p pd _ h1
theorem yO (p : Pr) (x : Ex) (g : cZ p) (hx : Ref15.nodes x ≤ 1073741824) : PCall Tryd.prog 33 [p.d, x.d] (.ret (z1u (bZ p x))) := by
 obtain ⟨pd, h1, h2, h3⟩ := ER p g
 cases he : (aj p).2 != 0 with
 | true =>
  rw [WN he]
  rcases h2 he with r | r
  ·subst r; exact Xd p x _ h1 he
  ·subst r; exact Xe p x _ _ h1 he
 | false =>
  have hz : (aj p).2 = 0 := by simpa using he
  have h3 := h3 hz; subst h3
  rw [hz] at h1
  have hb := (aV hz).1
  cases hx2 : xK p x with
  | false => rw [PE hz hx2]; exact TE p x _ h1 hx2
  | true =>
   rw [PG hz hx2]
   have hf := tN x p (aj p).1 hb.res.rng hb.ins g.hT hx (YY hb hx2)
   cases hm : bG p (aj p).1 x with
   | ok s => rw [hm] at hf; exact Y7 p x _ s h1 hx2 hf
   | error e => rw [hm] at hf; exact Xf p x _ e h1 hx2 hf
end Go.Proofs.YtogfjinopifenaaDoor
namespace Go.Proofs.YtogfjinopifenaaDoor
open Go.Fw Go.Fw.Ref15 Go.Fw.Rg Go.Fw.Tl
set_option maxRecDepth 10000
variable [GlobInt]
abbrev YOk (Rf : Nat → RP) (n : Nat) (y : Ex) : Prop := LCall Tryd.prog yz [.yld 1000000, .data y.d] [(1000000, .rnd (Rf n))] (.ret (.b true)) [(1000000, .rnd (Rf (n + 1)))]
abbrev z0s (Rf : Nat → RP) (Re : RP) (d : D) (n : Nat) (y : Ex) : Prop := LCall Tryd.prog yz [.yld 1000000, .data y.d] [(1000000, .rnd (Rf n))] (.pan (.data d)) [(1000000, .rnd Re)]
theorem ES (x : Ex) (Rf : Nat → RP) (i : Nat) (hy : ∀ j y, (ak x)[j]? = some y → YOk Rf (i + j) y) : LCall Tryd.prog 58 [.data x.d, .ptr 1000001 0, .ptr 1000002 0] [(1000000, .rnd (Rf i)), (1000001, .cells [.yld 1000000]), (1000002, .cells [.fn 58 [.ptr 1000001 0, .ptr 1000002 0]])] (.ret (.b true)) [(1000000, .rnd (Rf (i + (ak x).length))), (1000001, .cells [.yld 1000000]), (1000002, .cells [.fn 58 [.ptr 1000001 0, .ptr 1000002 0]])] := by
 revert i; revert x; refine Ex.ind fun x ih i hy => ?_
 refine az tok hmix ⟨[], []⟩ Tryd.func58 rfl (by kernel_rfl) (by kernel_rfl) (by kernel_rfl) fun hf => ?_
 have hlen := Ex.fits (uC.data (hf (.data x.d) (by simp)))
 clear hf
 repeat' ((try (conv => whnf)) <;> first
  | (have hq : m = i + (ak x).length := Qh hd0 hI0; clear hI0; subst hq)
  | with_reducible exact trivial
  | with_reducible exact au hd0 ‹_›
  | with_reducible refine kw hd0 ?_
  | with_reducible refine ig hd0 ?_
  | with_reducible refine BrI.intro (fun h => ?_) (fun h => ?_)
  | (exact Bool.noConfusion (h : false = true))
  | ((with_reducible refine aG.mk 0 ?_); refine ⟨aN (x.l) 14 (fun (m : (Nat)) => []) (fun (m : (Nat)) => [(1000000, .rnd (Rf m)), (1000001, .cells [.yld 1000000]), (1000002, .cells [.fn 58 [.ptr 1000001 0, .ptr 1000002 0]]), (3, .cells [.data (.i x.kind), .data (.str x.name), .data (.i x.index), .data (.i x.n), .data (.sl 5 (Ex.css x.l))])]) [2, 12, 13] (fun i0 r0 m => m = i + (1 + (bU (x.l.take i0)).length)), ?_⟩; with_reducible refine af (i + 1) ?_ ?_ (fun i0 (m : (Nat)) hd0 hI0 => ?_) (fun i0 x0 r0 (m : (Nat)) hd0 hl0 hI0 => ?_))
  | (with_reducible refine ag hd0 (m + (ak x0).length) ?_ ?_)
  | ((with_reducible refine lent_step' [] (hy 0 x (Hm x)) ?_ ?_ ?_ ?_); rotate_left 0; exact rfl; (exact ⟨rfl, trivial⟩); exact rfl)
  | ((with_reducible refine lent_step' [(1000000, 1000000), (1000001, 1000001), (1000002, 1000002)] (ih x0 (bQ hd0) m (Ze hd0 hI0 hy)) ?_ ?_ ?_ ?_); rotate_left 0; exact rfl; (exact ⟨rfl, rfl, rfl, trivial⟩); exact rfl)
  | ((with_reducible refine ah ?_); refine fin_step' [(1000000, 1000000), (1000001, 1000001), (1000002, 1000002)] rfl ?_ ?_)
  | ((with_reducible refine aH ?_ ?_ ?_ ?_ ?_); exact rfl; exact rfl; rotate_left; (with_reducible exact dU hd0))
  | ((with_reducible refine aT ?_ ?_); exact rfl)
  | (with_reducible refine And.intro ?_ ?_)
  | exact @rfl AV _)
 all_goals first
  | (rfl)
  | ((exact JA hd0 hI0))
  | skip
theorem Qm (x : Ex) (Rf : Nat → RP) (hy : ∀ j y, (ak x)[j]? = some y → YOk Rf (0 + j) y) : LCall Tryd.prog 57 [.yld 1000000, .ptr 1000001 0] [(1000000, .rnd (Rf 0)), (1000001, .cells [.data (.i x.kind), .data (.str x.name), .data (.i x.index), .data (.i x.n), .data (.sl 5 (Ex.css x.l))])] (.ret (.data (.tuple []))) [(1000000, .rnd (Rf (0 + (ak x).length))), (1000001, .cells [.data (.i x.kind), .data (.str x.name), .data (.i x.index), .data (.i x.n), .data (.sl 5 (Ex.css x.l))])] := by
 refine az tok hmix ⟨[], []⟩ Tryd.func57 rfl (by kernel_rfl) (by kernel_rfl) (by kernel_rfl) fun hf => ?_
 clear hf
 repeat' ((try (conv => whnf)) <;> first
  | with_reducible exact trivial
  | ((with_reducible refine lent_step' [(1000000, 1000000), (1000001, 2), (1000002, 3)] (ES x Rf 0 hy) ?_ ?_ ?_ ?_); rotate_left 0; exact rfl; (exact ⟨rfl, rfl, rfl, trivial⟩); exact rfl)
  | ((with_reducible refine ah ?_); refine fin_step' [(1000000, 1000000), (1000001, 1000001)] rfl ?_ ?_)
  | (with_reducible refine And.intro ?_ ?_))
 all_goals first
  | skip
theorem LY (x : Ex) (Rf : Nat → RP) (Re : RP) (d : D) (i q : Nat) (hq : q < (ak x).length) (hy : ∀ j y, j < q → (ak x)[j]? = some y → YOk Rf (i + j) y) (hp : ∀ y, (ak x)[q]? = some y → z0s Rf Re d (i + q) y) : LCall Tryd.prog 58 [.data x.d, .ptr 1000001 0, .ptr 1000002 0] [(1000000, .rnd (Rf i)), (1000001, .cells [.yld 1000000]), (1000002, .cells [.fn 58 [.ptr 1000001 0, .ptr 1000002 0]])] (.pan (.data d)) [(1000000, .rnd Re), (1000001, .cells [.yld 1000000]), (1000002, .cells [.fn 58 [.ptr 1000001 0, .ptr 1000002 0]])] := by
 revert q i; revert x; refine Ex.ind fun x ih i q hq hy hp => ?_
 refine az tok hmix ⟨[], []⟩ Tryd.func58 rfl (by kernel_rfl) (by kernel_rfl) (by kernel_rfl) fun hf => ?_
 have hlen := Ex.fits (uC.data (hf (.data x.d) (by simp)))
 have hsp : q = 0 ∨ 0 < q := by omega
 clear hf
 repeat' ((try (conv => whnf)) <;> first
  | (rcases hsp with rfl | hq0)
  | (exact absurd hq (by have := Qh hd0 hI0.1; have := hI0.2; omega))
  | (obtain ⟨hI1, hI2⟩ := hI0; rcases Zf hd0 hI1 hI2 with hc | ⟨t, hqt, ht⟩)
  | with_reducible exact trivial
  | with_reducible exact au hd0 ‹_›
  | with_reducible refine ig hd0 ?_
  | with_reducible refine BrI.intro (fun h => ?_) (fun h => ?_)
  | (exact Bool.noConfusion (h : false = true))
  | ((with_reducible refine aG.mk 0 ?_); refine ⟨aN (x.l) 14 (fun (m : (Nat)) => []) (fun (m : (Nat)) => [(1000000, .rnd (Rf m)), (1000001, .cells [.yld 1000000]), (1000002, .cells [.fn 58 [.ptr 1000001 0, .ptr 1000002 0]]), (3, .cells [.data (.i x.kind), .data (.str x.name), .data (.i x.index), .data (.i x.n), .data (.sl 5 (Ex.css x.l))])]) [2, 12, 13] (fun i0 r0 m => m = i + (1 + (bU (x.l.take i0)).length) ∧ m ≤ i + q), ?_⟩; with_reducible refine af (i + 1) ?_ ?_ (fun i0 (m : (Nat)) hd0 hI0 => ?_) (fun i0 x0 r0 (m : (Nat)) hd0 hl0 hI0 => ?_))
  | (with_reducible refine ag hd0 (m + (ak x0).length) ?_ ?_)
  | ((with_reducible refine lent_step' [] (hp x (Hm x)) ?_ ?_ ?_ ?_); rotate_left 0; exact rfl; (exact ⟨rfl, trivial⟩); exact rfl)
  | ((with_reducible refine lent_step' [] (hy 0 x hq0 (Hm x)) ?_ ?_ ?_ ?_); rotate_left 0; exact rfl; (exact ⟨rfl, trivial⟩); exact rfl)
  | ((with_reducible refine lent_step' [(1000000, 1000000), (1000001, 1000001), (1000002, 1000002)] (ES x0 Rf m (Xm hd0 hI1 hy hc)) ?_ ?_ ?_ ?_); rotate_left 0; exact rfl; (exact ⟨rfl, rfl, rfl, trivial⟩); exact rfl)
  | ((with_reducible refine lent_step' [(1000000, 1000000), (1000001, 1000001), (1000002, 1000002)] (ih x0 (bQ hd0) m t ht (Xn hd0 hI1 hy hqt) (Zg hd0 hI1 hp hqt)) ?_ ?_ ?_ ?_); rotate_left 0; exact rfl; (exact ⟨rfl, rfl, rfl, trivial⟩); exact rfl)
  | ((with_reducible refine iC ?_); refine fin_step' [(1000000, 1000000), (1000001, 1000001), (1000002, 1000002)] rfl ?_ ?_)
  | ((with_reducible refine aH ?_ ?_ ?_ ?_ ?_); exact rfl; exact rfl; rotate_left; (with_reducible exact dU hd0))
  | ((with_reducible refine aT ?_ ?_); exact rfl)
  | (with_reducible refine And.intro ?_ ?_)
  | exact @rfl AV _
  | exact @rfl Block _)
 all_goals first
  | (rfl)
  | ((exact JA hd0 hI1))
  | ((exact hc))
  | (omega)
  | skip
theorem LZ (x : Ex) (Rf : Nat → RP) (Re : RP) (d : D) (q : Nat) (hq : q < (ak x).length) (hy : ∀ j y, j < q → (ak x)[j]? = some y → YOk Rf (0 + j) y) (hp : ∀ y, (ak x)[q]? = some y → z0s Rf Re d (0 + q) y) : LCall Tryd.prog 57 [.yld 1000000, .ptr 1000001 0] [(1000000, .rnd (Rf 0)), (1000001, .cells [.data (.i x.kind), .data (.str x.name), .data (.i x.index), .data (.i x.n), .data (.sl 5 (Ex.css x.l))])] (.pan (.data d)) [(1000000, .rnd Re), (1000001, .cells [.data (.i x.kind), .data (.str x.name), .data (.i x.index), .data (.i x.n), .data (.sl 5 (Ex.css x.l))])] := by
 refine az tok hmix ⟨[], []⟩ Tryd.func57 rfl (by kernel_rfl) (by kernel_rfl) (by kernel_rfl) fun hf => ?_
 clear hf
 repeat' ((try (conv => whnf)) <;> first
  | with_reducible exact trivial
  | ((with_reducible refine lent_step' [(1000000, 1000000), (1000001, 2), (1000002, 3)] (LY x Rf Re d 0 q hq hy hp) ?_ ?_ ?_ ?_); rotate_left 0; exact rfl; (exact ⟨rfl, rfl, rfl, trivial⟩); exact rfl)
  | ((with_reducible refine iC ?_); refine fin_step' [(1000000, 1000000), (1000001, 1000001)] rfl ?_ ?_)
  | (with_reducible refine And.intro ?_ ?_)
  | exact @rfl Block _)
 all_goals first
  | skip
theorem uf (x : Ex)  : LCall Tryd.prog 32 [.data x.d] [] (.ret (.fn 57 [.ptr 1000000 0])) [(1000000, .cells [.data (.i x.kind), .data (.str x.name), .data (.i x.index), .data (.i x.n), .data (.sl 5 (Ex.css x.l))])] := by
 refine az tok hmix ⟨[], []⟩ Tryd.func32 rfl (by kernel_rfl) (by kernel_rfl) (by kernel_rfl) fun hf => ?_
 clear hf
 repeat' ((try (conv => whnf)) <;> first
  | with_reducible exact trivial
  | ((with_reducible refine ah ?_); refine fin_step' [(1000000, 1)] rfl ?_ ?_)
  | (with_reducible refine And.intro ?_ ?_)
  | exact @rfl AV _)
 all_goals first
  | skip
end Go.Proofs.YtogfjinopifenaaDoor
