/- Contracts: package ranges: a whole processor. -/
import Derived.Test.YtogfjinopifenaaDoorZXB
import Derived.Test.YtogfjinopifenaaDoorZRS6
import Derived.Test.YtogfjinopifenaaDoorZSC
import Derived.Test.YtogfjinopifenaaDoorZRB
set_option linter.unusedSectionVars false
set_option linter.unusedSimpArgs false
set_option linter.unusedVariables false
set_option maxHeartbeats 4000000
namespace Go.Proofs.YtogfjinopifenaaDoor
open Go.Fw Go.Fw.Rg Go.Fw.Nam
set_option maxRecDepth 10000
variable [af]
theorem UK (p : Pr) (g : dA p) (he : ((resolveC p).2 != 0) = true) : PCall Tryd.prog 45 [p.d] (.ret (.tuple [.val (.pointer none), .i (resolveC p).2])) := by
 refine ae tok hmix ⟨[], []⟩ Tryd.func45 rfl (by kernel_rfl) (by kernel_rfl) (by kernel_rfl) fun hf => ?_
 clear hf
 repeat' ((try (conv => whnf)) <;> first
  | (exact Bool.noConfusion (show true = false from he.symm.trans h))
  | with_reducible refine BrI.intro (fun h => ?_) (fun h => ?_)
  | ((with_reducible refine aj ?_ ?_ ?_); rotate_left; (exact fG p g.sm g.hn))
  | ((with_reducible refine aA ?_ ?_); kernel_rfl)
  | ((with_reducible refine ai ?_); refine ⟨[], rfl, ?_, trivial⟩; conv => whnf)
  | fail)
 all_goals first
  | skip
theorem UL (p : Pr) (g : dA p) (he : ((resolveC p).2 != 0) = false) (hs : pq p (resolveC p).1 = false) : PCall Tryd.prog 45 [p.d] (.ret (.tuple [.val (.pointer none), .i 150])) := by
 refine ae tok hmix ⟨[], []⟩ Tryd.func45 rfl (by kernel_rfl) (by kernel_rfl) (by kernel_rfl) fun hf => ?_
 clear hf
 repeat' ((try (conv => whnf)) <;> first
  | (exact Bool.noConfusion (show false = true from he.symm.trans h))
  | (exact Bool.noConfusion (show true = false from (congrArg (!·) hs).symm.trans h))
  | with_reducible refine BrI.intro (fun h => ?_) (fun h => ?_)
  | ((with_reducible refine aj ?_ ?_ ?_); rotate_left; (first | exact gY _ _ | exact fG p g.sm g.hn))
  | ((with_reducible refine ai ?_); refine ⟨[], rfl, ?_, trivial⟩; conv => whnf)
  | fail)
 all_goals first
  | skip
theorem UM (p : Pr) (FF : List Sp) (g : dA p) (he : (resolveC p).2 = 0) (hs : (resolveC p).1 = p) (hR : Rng p) (hw : mX p 0 p.stmts = true) (hS : stmtsM p p.stmts [] = .ok FF) (hF : gm p p.stmts [] = FF) : PCall Tryd.prog 45 [p.d] (.ret (.tuple [.ptr (fC p FF), .i 0])) := by
 refine ae tok hmix ⟨[], []⟩ Tryd.func45 rfl (by kernel_rfl) (by kernel_rfl) (by kernel_rfl) fun hf => ?_
 have hq : resolveC p = (p, 0) := Prod.ext hs he
 have hc := fG p g.sm g.hn
 rw [hq] at hc
 have hc2 := gY p p
 rw [(fV p p).2 rfl] at hc2
 clear hf
 repeat' ((try (conv => whnf)) <;> first
  | (exact Bool.noConfusion (show true = false from h.symm.trans (rfl : ((0 : Int) != 0) = false)))
  | (exact Bool.noConfusion (show false = true from (congrArg (!·) ((fV p p).2 rfl)).symm.trans h))
  | with_reducible refine BrI.intro (fun h => ?_) (fun h => ?_)
  | ((with_reducible refine aj ?_ ?_ ?_); rotate_left; (first | exact gY _ _ | exact hc))
  | ((with_reducible refine lent_step' [(1000000, 3), (1000001, 19), (1000002, 800001)] (X9 p FF hR g.hT g.hn g.hl hw hS hF) ?_ ?_ ?_ ?_); rotate_left 0; exact rfl; (exact ⟨rfl, rfl, trivial⟩); exact rfl)
  | ((with_reducible refine aA ?_ ?_); kernel_rfl)
  | ((with_reducible refine ai ?_); refine ⟨[], rfl, ?_, trivial⟩; conv => whnf)
  | (with_reducible refine And.intro ?_ ?_)
  | fail)
 all_goals first
  | (rfl)
  | skip
theorem Q8 (p : Pr) (FF : List Sp) (e : Int) (g : dA p) (he : (resolveC p).2 = 0) (hs : (resolveC p).1 = p) (hR : Rng p) (hw : mX p 0 p.stmts = true) (hS : stmtsM p p.stmts [] = .error e) (hF : gm p p.stmts [] = FF) : PCall Tryd.prog 45 [p.d] (.ret (.tuple [.ptr (fC p FF), .i e])) := by
 refine ae tok hmix ⟨[], []⟩ Tryd.func45 rfl (by kernel_rfl) (by kernel_rfl) (by kernel_rfl) fun hf => ?_
 have hq : resolveC p = (p, 0) := Prod.ext hs he
 have hc := fG p g.sm g.hn
 rw [hq] at hc
 have hc2 := gY p p
 rw [(fV p p).2 rfl] at hc2
 clear hf
 repeat' ((try (conv => whnf)) <;> first
  | (exact Bool.noConfusion (show true = false from h.symm.trans (rfl : ((0 : Int) != 0) = false)))
  | (exact Bool.noConfusion (show false = true from (congrArg (!·) ((fV p p).2 rfl)).symm.trans h))
  | with_reducible refine BrI.intro (fun h => ?_) (fun h => ?_)
  | ((with_reducible refine aj ?_ ?_ ?_); rotate_left; (first | exact gY _ _ | exact hc))
  | ((with_reducible refine lent_step' [(1000000, 3), (1000001, 19), (1000002, 800001)] (UH p FF e hR g.hT g.hn g.hl hw hS hF) ?_ ?_ ?_ ?_); rotate_left 0; exact rfl; (exact ⟨rfl, rfl, trivial⟩); exact rfl)
  | ((with_reducible refine aA ?_ ?_); kernel_rfl)
  | ((with_reducible refine ai ?_); refine ⟨[], rfl, ?_, trivial⟩; conv => whnf)
  | (with_reducible refine And.intro ?_ ?_)
  | fail)
 all_goals first
  | (rfl)
  | skip
end Go.Proofs.YtogfjinopifenaaDoor
namespace Go.Proofs.YtogfjinopifenaaDoor
open Go.Fw Go.Fw.Rg Go.Fw.Nam
set_option maxRecDepth 10000
variable [af]
theorem yK (p : Pr) (x : Ex) (most : Int) (hm0 : 0 ≤ most) (hm : most ≤ 512) : PCall Tryd.prog 59 [p.d, x.d, .i most] (.ret (.tuple [.i (dO p x most).1, .b (dO p x most).2])) := by
 revert hm0 hm; revert most; revert x; refine Ex.ind fun x ih most hm0 hm => ?_
 refine ae tok hmix ⟨[], []⟩ Tryd.func59 rfl (by kernel_rfl) (by kernel_rfl) (by kernel_rfl) fun hf => ?_
 have hlen := Ex.fits (hf x.d (by simp)); have hq := Pr.fits (hf p.d (by simp))
 have ih2 : ∀ y ∈ x.l, ∀ m c, c = m → 0 ≤ m → m ≤ 512 → PCall Tryd.prog 59 [p.d, y.d, .i c] (.ret (.tuple [.i (dO p y m).1, .b (dO p y m).2])) := fun y hy m c hc h0 h1 => by subst hc; exact ih y hy c h0 h1
 clear hf
 repeat' ((try (conv => whnf)) <;> first
  | (exact Bool.noConfusion (show true = false from h))
  | (exact Bool.noConfusion (show false = true from h))
  | with_reducible exact trivial
  | with_reducible exact ax hd1 ‹_›
  | with_reducible refine kM hd1 ?_
  | with_reducible refine iG hd1 ?_
  | with_reducible refine BrI.intro (fun h => ?_) (fun h => ?_)
  | ((refine Qd (l := kG) ?_ (fun nd hnd => ?_) (fun hnd => ?_)); exact rfl)
  | ((refine Ub (p := p) ?_ (fun md hmd => ?_) (fun hmd => ?_)); exact rfl)
  | (exact (Zx ‹lkI x.kind (jE p) = none› h).elim)
  | ((with_reducible refine jY Sm.none ?_ ?_ ?_ ?_ ?_); exact rfl; exact rfl; rotate_left 2)
  | ((with_reducible refine aI.mk 1 ?_); refine ⟨aP (x.l) 109 (fun (q : (Int) × (Bool)) => match q with | (n, ok) => [(6, .data (.val (.int .i64 n))), (7, .data (.val (.bool ok)))]) (fun (q : (Int) × (Bool)) => match q with | (n, ok) => []) [2, 3, 107, 108] (fun i1 r1 q => match q with | (n, ok) => dO p x most = iT p r1 most n ok ∧ 1 ≤ n ∧ n ≤ most), ?_⟩; with_reducible refine ag (?_, ?_) ?_ ?_ (fun i1 ⟨n, ok⟩ hd1 hI1 => ?_) (fun i1 x1 r1 ⟨n, ok⟩ hd1 hl1 hI1 => ?_))
  | (with_reducible refine ah hd1 (?_, ?_) ?_ ?_)
  | ((with_reducible refine aj ?_ ?_ ?_); rotate_left; (exact ih2 _ (bV ‹_›) (most - n) _ (bC (by omega) (by omega)) (by omega) (by omega)))
  | ((with_reducible refine aJ ?_ ?_ ?_ ?_ ?_); exact rfl; exact rfl; rotate_left; (with_reducible exact eu hd1))
  | ((with_reducible refine aW ?_ ?_); exact rfl)
  | ((with_reducible refine ai ?_); refine ⟨[], rfl, ?_, trivial⟩; conv => whnf)
  | (with_reducible refine And.intro ?_ ?_)
  | exact @rfl AV _
  | fail)
 all_goals first
  | (rfl)
  | ((exact Int.le_refl _))
  | ((refine (z2s ‹lkI x.kind (jE p) = some _› ‹(x.kind == 5) = true› ?_).1; assumption))
  | ((refine (z2s ‹lkI x.kind (jE p) = some _› ‹(x.kind == 5) = true› ?_).2; assumption))
  | ((refine Xp (l := x.l) (nd := nd) ?_; assumption))
  | (((with_reducible refine MH ‹lkI x.kind kG = some _› ‹lkI x.kind (jE p) = _› ?_ ?_ ?_); assumption; (first | exact rfl | (refine JJ (b := false) ?_; assumption)); (first | exact z1f ‹_› | exact z1g ‹_› ‹_› | exact z1h ‹_› ‹_› ‹_› | exact z1i ‹_› ‹_› ‹_›)))
  | ((rw [uk ‹lkI x.kind kG = none›]))
  | ((rw [ul ‹lkI x.kind kG = some _› (Xo (b := true) h)]))
  | ((rw [Uc ‹lkI x.kind kG = some _› ‹lkI x.kind (jE p) = _› ?_ (JJ (b := true) h)]; assumption))
  | ((obtain ⟨hok, hfit⟩ := z0t h; have hr := vY p x1 (most - n) (by omega); have h3 := hr.2.2 hfit; rw [bC (by omega) (by omega)]; first | omega | (rw [hI1.1]; exact rX h)))
  | ((rw [hI1.1, mF h]))
  | ((rw [hI1.1, iT]))
  | skip
end Go.Proofs.YtogfjinopifenaaDoor
namespace Go.Proofs.YtogfjinopifenaaDoor
open Go.Fw Go.Fw.Rg Go.Fw.Nam
set_option maxRecDepth 10000
variable [af]
theorem check_any (p : Pr) (pd : D) (e : Int) (hw : PCall Tryd.prog 45 [p.d] (.ret (.tuple [pd, .i e]))) : PCall Tryd.prog 14 [p.d] (.ret (.i e)) := by
 refine ae tok hmix ⟨[], []⟩ Tryd.func14 rfl (by kernel_rfl) (by kernel_rfl) (by kernel_rfl) fun hf => ?_
 clear hf
 repeat' ((try (conv => whnf)) <;> first
  | ((with_reducible refine aj ?_ ?_ ?_); rotate_left; (exact hw))
  | ((with_reducible refine ai ?_); refine ⟨[], rfl, ?_, trivial⟩; conv => whnf)
  | fail)
 all_goals first
  | skip
theorem Yc (p : Pr) (F : List Sp) (x : Ex) (s : Sp) (a b : Int) (hc : PCall Tryd.prog 62 [.ptr (fC p F), x.d] (.ret s.d)) : aZ Tryd.prog 61 [.ptr 1000000 0, .ptr 1000001 0, .ptr 1000002 0, .ptr 1000003 0] [(1000000, .cells [.data (.ptr (fC p F))]), (1000001, .cells [.data (.i x.kind), .data (.str x.name), .data (.i x.index), .data (.i x.n), .data (.sl 5 (Ex.css x.l))]), (1000002, .cells [.data (.i a)]), (1000003, .cells [.data (.i b)])] (.ret (.data (.tuple []))) [(1000000, .cells [.data (.ptr (fC p F))]), (1000001, .cells [.data (.i x.kind), .data (.str x.name), .data (.i x.index), .data (.i x.n), .data (.sl 5 (Ex.css x.l))]), (1000002, .cells [.data (.i s.1)]), (1000003, .cells [.data (.i s.2)])] := by
 refine aB tok hmix ⟨[], []⟩ Tryd.func61 rfl (by kernel_rfl) (by kernel_rfl) (by kernel_rfl) fun hf => ?_
 clear hf
 repeat' ((try (conv => whnf)) <;> first
  | with_reducible exact trivial
  | ((with_reducible refine aj ?_ ?_ ?_); rotate_left; (exact hc))
  | ((with_reducible refine ai ?_); refine fin_step' [] rfl ?_ ?_)
  | ((with_reducible refine aA ?_ ?_); kernel_rfl)
  | (with_reducible refine And.intro ?_ ?_)
  | fail)
 all_goals first
  | (rfl)
  | (decide)
  | skip
theorem UN (p : Pr) (F : List Sp) (x : Ex) (e : Int) (a b : Int) (hc : PCall Tryd.prog 62 [.ptr (fC p F), x.d] (.pan (.iface 30 (.i e)))) : aZ Tryd.prog 61 [.ptr 1000000 0, .ptr 1000001 0, .ptr 1000002 0, .ptr 1000003 0] [(1000000, .cells [.data (.ptr (fC p F))]), (1000001, .cells [.data (.i x.kind), .data (.str x.name), .data (.i x.index), .data (.i x.n), .data (.sl 5 (Ex.css x.l))]), (1000002, .cells [.data (.i a)]), (1000003, .cells [.data (.i b)])] (.pan (.data (.iface 30 (.i e)))) [(1000000, .cells [.data (.ptr (fC p F))]), (1000001, .cells [.data (.i x.kind), .data (.str x.name), .data (.i x.index), .data (.i x.n), .data (.sl 5 (Ex.css x.l))]), (1000002, .cells [.data (.i a)]), (1000003, .cells [.data (.i b)])] := by
 refine aB tok hmix ⟨[], []⟩ Tryd.func61 rfl (by kernel_rfl) (by kernel_rfl) (by kernel_rfl) fun hf => ?_
 clear hf
 repeat' ((try (conv => whnf)) <;> first
  | with_reducible exact trivial
  | ((with_reducible refine aj ?_ ?_ ?_); rotate_left; (exact hc))
  | ((with_reducible refine iK ?_); refine fin_step' [] rfl ?_ ?_)
  | (with_reducible refine And.intro ?_ ?_)
  | fail)
 all_goals first
  | skip
theorem UO (p : Pr) (F : List Sp) (x : Ex) (s : Sp) (hc : PCall Tryd.prog 62 [.ptr (fC p F), x.d] (.ret s.d)) : aZ Tryd.prog 60 [.ptr 1000000 0, .fn 61 [.ptr 1000001 0, .ptr 1000002 0, .ptr 1000003 0, .ptr 1000004 0]] [(1000000, .cells [.data (.i 0)]), (1000001, .cells [.data (.ptr (fC p F))]), (1000002, .cells [.data (.i x.kind), .data (.str x.name), .data (.i x.index), .data (.i x.n), .data (.sl 5 (Ex.css x.l))]), (1000003, .cells [.data (.i 0)]), (1000004, .cells [.data (.i 0)])] (.ret (.data (.tuple []))) [(1000000, .cells [.data (.i 0)]), (1000001, .cells [.data (.ptr (fC p F))]), (1000002, .cells [.data (.i x.kind), .data (.str x.name), .data (.i x.index), .data (.i x.n), .data (.sl 5 (Ex.css x.l))]), (1000003, .cells [.data (.i s.1)]), (1000004, .cells [.data (.i s.2)])] := by
 refine aB tok hmix ⟨[], []⟩ Tryd.func60 rfl (by kernel_rfl) (by kernel_rfl) (by kernel_rfl) fun hf => ?_
 clear hf
 repeat' ((try (conv => whnf)) <;> first
  | with_reducible exact trivial
  | ((refine ⟨_, _, _, [(1000000, 2), (1000001, 1000000)], Kw (.i 0), rfl, ⟨rfl, rfl, trivial⟩, ?_, ?_⟩); kernel_rfl)
  | (refine ⟨([(1000000, 1000000), (1000001, 1000001), (1000002, 1000002), (1000003, 1000003), (1000004, 1000004)] : List (Nat × Nat)), rfl, ?_, ?_⟩)
  | ((with_reducible refine lent_step' [(1000000, 1000001), (1000001, 1000002), (1000002, 1000003), (1000003, 1000004)] (Yc p F x s 0 0 hc) ?_ ?_ ?_ ?_); rotate_left 0; exact rfl; (exact ⟨rfl, rfl, rfl, rfl, trivial⟩); exact rfl)
  | (with_reducible refine And.intro ?_ ?_)
  | fail)
 all_goals first
  | skip
theorem Q9 (p : Pr) (F : List Sp) (x : Ex) (e : Int) (hc : PCall Tryd.prog 62 [.ptr (fC p F), x.d] (.pan (.iface 30 (.i e)))) : aZ Tryd.prog 60 [.ptr 1000000 0, .fn 61 [.ptr 1000001 0, .ptr 1000002 0, .ptr 1000003 0, .ptr 1000004 0]] [(1000000, .cells [.data (.i 0)]), (1000001, .cells [.data (.ptr (fC p F))]), (1000002, .cells [.data (.i x.kind), .data (.str x.name), .data (.i x.index), .data (.i x.n), .data (.sl 5 (Ex.css x.l))]), (1000003, .cells [.data (.i 0)]), (1000004, .cells [.data (.i 0)])] (.ret (.data (.tuple []))) [(1000000, .cells [.data (.i e)]), (1000001, .cells [.data (.ptr (fC p F))]), (1000002, .cells [.data (.i x.kind), .data (.str x.name), .data (.i x.index), .data (.i x.n), .data (.sl 5 (Ex.css x.l))]), (1000003, .cells [.data (.i 0)]), (1000004, .cells [.data (.i 0)])] := by
 refine aB tok hmix ⟨[], []⟩ Tryd.func60 rfl (by kernel_rfl) (by kernel_rfl) (by kernel_rfl) fun hf => ?_
 clear hf
 repeat' ((try (conv => whnf)) <;> first
  | with_reducible exact trivial
  | ((refine ⟨_, _, _, [(1000000, 2), (1000001, 1000000)], FH (.data (.i 0)) e, rfl, ⟨rfl, rfl, trivial⟩, ?_, ?_⟩); kernel_rfl)
  | (refine ⟨([(1000000, 1000000), (1000001, 1000001), (1000002, 1000002), (1000003, 1000003), (1000004, 1000004)] : List (Nat × Nat)), rfl, ?_, ?_⟩)
  | ((with_reducible refine lent_step' [(1000000, 1000001), (1000001, 1000002), (1000002, 1000003), (1000003, 1000004)] (UN p F x e 0 0 hc) ?_ ?_ ?_ ?_); rotate_left 0; exact rfl; (exact ⟨rfl, rfl, rfl, rfl, trivial⟩); exact rfl)
  | (with_reducible refine And.intro ?_ ?_)
  | fail)
 all_goals first
  | skip
theorem Yd (p : Pr) (x : Ex) (e : Int) (hw : PCall Tryd.prog 45 [p.d] (.ret (.tuple [.val (.pointer none), .i e]))) (he : (e != 0) = true) : PCall Tryd.prog 33 [p.d, x.d] (.ret (.tuple [.i 0, .i 0, .i e])) := by
 refine ae tok hmix ⟨[], []⟩ Tryd.func33 rfl (by kernel_rfl) (by kernel_rfl) (by kernel_rfl) fun hf => ?_
 clear hf
 repeat' ((try (conv => whnf)) <;> first
  | (exact Bool.noConfusion (show true = false from he.symm.trans h))
  | with_reducible refine BrI.intro (fun h => ?_) (fun h => ?_)
  | ((with_reducible refine aj ?_ ?_ ?_); rotate_left; (exact hw))
  | ((with_reducible refine aA ?_ ?_); kernel_rfl)
  | ((with_reducible refine ai ?_); refine ⟨[], rfl, ?_, trivial⟩; conv => whnf)
  | fail)
 all_goals first
  | skip
theorem Ye (p : Pr) (x : Ex) (F : List Sp) (e : Int) (hw : PCall Tryd.prog 45 [p.d] (.ret (.tuple [.ptr (fC p F), .i e]))) (he : (e != 0) = true) : PCall Tryd.prog 33 [p.d, x.d] (.ret (.tuple [.i 0, .i 0, .i e])) := by
 refine ae tok hmix ⟨[], []⟩ Tryd.func33 rfl (by kernel_rfl) (by kernel_rfl) (by kernel_rfl) fun hf => ?_
 clear hf
 repeat' ((try (conv => whnf)) <;> first
  | (exact Bool.noConfusion (show true = false from he.symm.trans h))
  | with_reducible refine BrI.intro (fun h => ?_) (fun h => ?_)
  | ((with_reducible refine aj ?_ ?_ ?_); rotate_left; (exact hw))
  | ((with_reducible refine aA ?_ ?_); kernel_rfl)
  | ((with_reducible refine ai ?_); refine ⟨[], rfl, ?_, trivial⟩; conv => whnf)
  | fail)
 all_goals first
  | skip
theorem UQ (p : Pr) (x : Ex) (F : List Sp) (hw : PCall Tryd.prog 45 [p.d] (.ret (.tuple [.ptr (fC p F), .i 0]))) (hx : (dO p x 512).2 = false) : PCall Tryd.prog 33 [p.d, x.d] (.ret (.tuple [.i 0, .i 0, .i 150])) := by
 refine ae tok hmix ⟨[], []⟩ Tryd.func33 rfl (by kernel_rfl) (by kernel_rfl) (by kernel_rfl) fun hf => ?_
 clear hf
 repeat' ((try (conv => whnf)) <;> first
  | (exact Bool.noConfusion (show false = true from h))
  | (exact Bool.noConfusion (show true = false from (congrArg (!·) hx).symm.trans h))
  | with_reducible refine BrI.intro (fun h => ?_) (fun h => ?_)
  | ((with_reducible refine aj ?_ ?_ ?_); rotate_left; (first | exact hw | exact yK p x 512 (by decide) (by decide)))
  | ((with_reducible refine ai ?_); refine ⟨[], rfl, ?_, trivial⟩; conv => whnf)
  | fail)
 all_goals first
  | skip
theorem z0d (p : Pr) (x : Ex) (F : List Sp) (s : Sp) (hw : PCall Tryd.prog 45 [p.d] (.ret (.tuple [.ptr (fC p F), .i 0]))) (hx : (dO p x 512).2 = true) (hc : PCall Tryd.prog 62 [.ptr (fC p F), x.d] (.ret s.d)) : PCall Tryd.prog 33 [p.d, x.d] (.ret (.tuple [.i s.1, .i s.2, .i 0])) := by
 refine ae tok hmix ⟨[], []⟩ Tryd.func33 rfl (by kernel_rfl) (by kernel_rfl) (by kernel_rfl) fun hf => ?_
 clear hf
 repeat' ((try (conv => whnf)) <;> first
  | (exact Bool.noConfusion (show false = true from h))
  | (exact Bool.noConfusion (show false = true from (congrArg (!·) hx).symm.trans h))
  | with_reducible refine BrI.intro (fun h => ?_) (fun h => ?_)
  | ((with_reducible refine aj ?_ ?_ ?_); rotate_left; (first | exact hw | exact yK p x 512 (by decide) (by decide)))
  | ((with_reducible refine lent_step' [(1000000, 6), (1000001, 7), (1000002, 3), (1000003, 4), (1000004, 5)] (UO p F x s hc) ?_ ?_ ?_ ?_); rotate_left 0; exact rfl; (exact ⟨rfl, rfl, rfl, rfl, rfl, trivial⟩); exact rfl)
  | ((with_reducible refine aA ?_ ?_); kernel_rfl)
  | ((with_reducible refine ai ?_); refine ⟨[], rfl, ?_, trivial⟩; conv => whnf)
  | fail)
 all_goals first
  | skip
theorem Yf (p : Pr) (x : Ex) (F : List Sp) (e : Int) (hw : PCall Tryd.prog 45 [p.d] (.ret (.tuple [.ptr (fC p F), .i 0]))) (hx : (dO p x 512).2 = true) (hc : PCall Tryd.prog 62 [.ptr (fC p F), x.d] (.pan (.iface 30 (.i e)))) : PCall Tryd.prog 33 [p.d, x.d] (.ret (.tuple [.i 0, .i 0, .i e])) := by
 refine ae tok hmix ⟨[], []⟩ Tryd.func33 rfl (by kernel_rfl) (by kernel_rfl) (by kernel_rfl) fun hf => ?_
 clear hf
 repeat' ((try (conv => whnf)) <;> first
  | (exact Bool.noConfusion (show false = true from h))
  | (exact Bool.noConfusion (show false = true from (congrArg (!·) hx).symm.trans h))
  | with_reducible refine BrI.intro (fun h => ?_) (fun h => ?_)
  | ((with_reducible refine aj ?_ ?_ ?_); rotate_left; (first | exact hw | exact yK p x 512 (by decide) (by decide)))
  | ((with_reducible refine lent_step' [(1000000, 6), (1000001, 7), (1000002, 3), (1000003, 4), (1000004, 5)] (Q9 p F x e hc) ?_ ?_ ?_ ?_); rotate_left 0; exact rfl; (exact ⟨rfl, rfl, rfl, rfl, rfl, trivial⟩); exact rfl)
  | ((with_reducible refine aA ?_ ?_); kernel_rfl)
  | ((with_reducible refine ai ?_); refine ⟨[], rfl, ?_, trivial⟩; conv => whnf)
  | fail)
 all_goals first
  | skip
end Go.Proofs.YtogfjinopifenaaDoor
