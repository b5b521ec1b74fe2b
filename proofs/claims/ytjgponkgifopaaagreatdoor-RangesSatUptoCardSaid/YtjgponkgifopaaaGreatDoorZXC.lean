/- Contracts: package ranges: a whole processor. -/
import Derived.Test.YtjgponkgifopaaaGreatDoorZXB
import Derived.Test.YtjgponkgifopaaaGreatDoorZRS6
import Derived.Test.YtjgponkgifopaaaGreatDoorZSC
import Derived.Test.YtjgponkgifopaaaGreatDoorZRB
set_option linter.unusedSimpArgs false
set_option linter.unusedVariables false
namespace Go.Proofs.YtjgponkgifopaaaGreatDoor
open Go.Fw Go.Fw.Rg Go.Fw.Nam
set_option maxRecDepth 10000
set_option linter.unusedSectionVars false
variable [GlobInt]
set_option maxHeartbeats 400000 in
theorem whole_e1 (p : Pr) (g : GoodP p) (he : ((resolveC p).2 != 0) = true) : PCall Tryz.prog 26 [p.d] (.ret (.tuple [.val (.pointer none), .i (resolveC p).2])) := by
  refine pcall_of_wc tok hmix ⟨[], []⟩ Tryz.func26 rfl (by kernel_rfl) (by kernel_rfl) (by kernel_rfl) fun hf => ?_
  clear hf
  repeat' ((try (conv => whnf)) <;> first
    | (exact Bool.noConfusion (show true = false from he.symm.trans h))
    | with_reducible refine BrI.intro (fun h => ?_) (fun h => ?_)
    | ((with_reducible refine call_step ?_ ?_ ?_); rotate_left; (first | exact sameS_call _ _ | exact resolve_call p g.sm g.hn | fail))
    | ((with_reducible refine chk_step ?_ ?_); kernel_rfl)
    | ((with_reducible refine ret_step ?_); refine ⟨[], rfl, ?_, trivial⟩; conv => whnf)
    | fail)
  all_goals first
    | skip
set_option maxHeartbeats 400000 in
theorem whole_e2 (p : Pr) (g : GoodP p) (he : ((resolveC p).2 != 0) = false) (hs : samePr p (resolveC p).1 = false) : PCall Tryz.prog 26 [p.d] (.ret (.tuple [.val (.pointer none), .i 150])) := by
  refine pcall_of_wc tok hmix ⟨[], []⟩ Tryz.func26 rfl (by kernel_rfl) (by kernel_rfl) (by kernel_rfl) fun hf => ?_
  clear hf
  repeat' ((try (conv => whnf)) <;> first
    | (exact Bool.noConfusion (show false = true from he.symm.trans h))
    | (exact Bool.noConfusion (show true = false from (congrArg (!·) hs).symm.trans h))
    | with_reducible refine BrI.intro (fun h => ?_) (fun h => ?_)
    | ((with_reducible refine call_step ?_ ?_ ?_); rotate_left; (first | exact sameS_call _ _ | exact resolve_call p g.sm g.hn | exact sameS_call p (resolveC p).1 | fail))
    | ((with_reducible refine ret_step ?_); refine ⟨[], rfl, ?_, trivial⟩; conv => whnf)
    | fail)
  all_goals first
    | skip
set_option maxHeartbeats 400000 in
theorem whole_ok (p : Pr) (FF : List Sp) (g : GoodP p) (he : (resolveC p).2 = 0) (hs : (resolveC p).1 = p) (hR : Rng p) (hw : wfSL p 0 p.stmts = true) (hS : stmtsM p p.stmts [] = .ok FF) (hF : stmtsF p p.stmts [] = FF) : PCall Tryz.prog 26 [p.d] (.ret (.tuple [.ptr (fC p FF), .i 0])) := by
  refine pcall_of_wc tok hmix ⟨[], []⟩ Tryz.func26 rfl (by kernel_rfl) (by kernel_rfl) (by kernel_rfl) fun hf => ?_
  have hq : resolveC p = (p, 0) := Prod.ext hs he
  have hc := resolve_call p g.sm g.hn
  rw [hq] at hc
  have hc2 := sameS_call p p
  rw [(samePr_iff p p).2 rfl] at hc2
  clear hf
  repeat' ((try (conv => whnf)) <;> first
    | (exact Bool.noConfusion (show true = false from h.symm.trans (rfl : ((0 : Int) != 0) = false)))
    | (exact Bool.noConfusion (show false = true from (congrArg (!·) ((samePr_iff p p).2 rfl)).symm.trans h))
    | with_reducible refine BrI.intro (fun h => ?_) (fun h => ?_)
    | ((with_reducible refine call_step ?_ ?_ ?_); rotate_left; (first | exact sameS_call _ _ | exact hc | exact hc2 | fail))
    | ((first | with_reducible refine lent_step [(1000000, 3), (1000001, 19), (1000002, 800001)] (work_ok p FF hR g.hT g.hn g.hl hw hS hF) ?_ ?_ ?_ ?_ | with_reducible refine lent_step' [(1000000, 3), (1000001, 19), (1000002, 800001)] (work_ok p FF hR g.hT g.hn g.hl hw hS hF) ?_ ?_ ?_ ?_ | fail); rotate_left 0; exact rfl; (first | exact trivial | exact ⟨rfl, trivial⟩ | exact ⟨rfl, rfl, trivial⟩ | exact ⟨rfl, rfl, rfl, trivial⟩ | exact ⟨rfl, rfl, rfl, rfl, trivial⟩ | exact ⟨rfl, rfl, rfl, rfl, rfl, trivial⟩ | exact ⟨rfl, rfl, rfl, rfl, rfl, rfl, trivial⟩); exact rfl)
    | ((with_reducible refine chk_step ?_ ?_); kernel_rfl)
    | ((with_reducible refine ret_step ?_); refine ⟨[], rfl, ?_, trivial⟩; conv => whnf)
    | (with_reducible refine And.intro ?_ ?_)
    | fail)
  all_goals first
    | (rfl)
    | skip
set_option maxHeartbeats 400000 in
theorem whole_bad (p : Pr) (FF : List Sp) (e : Int) (g : GoodP p) (he : (resolveC p).2 = 0) (hs : (resolveC p).1 = p) (hR : Rng p) (hw : wfSL p 0 p.stmts = true) (hS : stmtsM p p.stmts [] = .error e) (hF : stmtsF p p.stmts [] = FF) : PCall Tryz.prog 26 [p.d] (.ret (.tuple [.ptr (fC p FF), .i e])) := by
  refine pcall_of_wc tok hmix ⟨[], []⟩ Tryz.func26 rfl (by kernel_rfl) (by kernel_rfl) (by kernel_rfl) fun hf => ?_
  have hq : resolveC p = (p, 0) := Prod.ext hs he
  have hc := resolve_call p g.sm g.hn
  rw [hq] at hc
  have hc2 := sameS_call p p
  rw [(samePr_iff p p).2 rfl] at hc2
  clear hf
  repeat' ((try (conv => whnf)) <;> first
    | (exact Bool.noConfusion (show true = false from h.symm.trans (rfl : ((0 : Int) != 0) = false)))
    | (exact Bool.noConfusion (show false = true from (congrArg (!·) ((samePr_iff p p).2 rfl)).symm.trans h))
    | with_reducible refine BrI.intro (fun h => ?_) (fun h => ?_)
    | ((with_reducible refine call_step ?_ ?_ ?_); rotate_left; (first | exact sameS_call _ _ | exact hc | exact hc2 | fail))
    | ((first | with_reducible refine lent_step [(1000000, 3), (1000001, 19), (1000002, 800001)] (work_bad p FF e hR g.hT g.hn g.hl hw hS hF) ?_ ?_ ?_ ?_ | with_reducible refine lent_step' [(1000000, 3), (1000001, 19), (1000002, 800001)] (work_bad p FF e hR g.hT g.hn g.hl hw hS hF) ?_ ?_ ?_ ?_ | fail); rotate_left 0; exact rfl; (first | exact trivial | exact ⟨rfl, trivial⟩ | exact ⟨rfl, rfl, trivial⟩ | exact ⟨rfl, rfl, rfl, trivial⟩ | exact ⟨rfl, rfl, rfl, rfl, trivial⟩ | exact ⟨rfl, rfl, rfl, rfl, rfl, trivial⟩ | exact ⟨rfl, rfl, rfl, rfl, rfl, rfl, trivial⟩); exact rfl)
    | ((with_reducible refine chk_step ?_ ?_); kernel_rfl)
    | ((with_reducible refine ret_step ?_); refine ⟨[], rfl, ?_, trivial⟩; conv => whnf)
    | (with_reducible refine And.intro ?_ ?_)
    | fail)
  all_goals first
    | (rfl)
    | skip
end Go.Proofs.YtjgponkgifopaaaGreatDoor
namespace Go.Proofs.YtjgponkgifopaaaGreatDoor
open Go.Fw Go.Fw.Rg Go.Fw.Nam
set_option maxRecDepth 10000
set_option linter.unusedSectionVars false
variable [GlobInt]
set_option maxHeartbeats 4000000 in
theorem fits_call (p : Pr) (x : Ex) (most : Int) (hm0 : 0 ≤ most) (hm : most ≤ 512) : PCall Tryz.prog 29 [p.d, x.d, .i most] (.ret (.tuple [.i (fitsM p x most).1, .b (fitsM p x most).2])) := by
  revert hm0 hm; revert most; revert x; refine Ex.ind fun x ih most hm0 hm => ?_
  refine pcall_of_wc tok hmix ⟨[], []⟩ Tryz.func29 rfl (by kernel_rfl) (by kernel_rfl) (by kernel_rfl) fun hf => ?_
  have hlen := Ex.fits (hf x.d (by simp)); have hq := Pr.fits (hf p.d (by simp))
  have ih2 : ∀ y ∈ x.l, ∀ m c, c = m → 0 ≤ m → m ≤ 512 → PCall Tryz.prog 29 [p.d, y.d, .i c] (.ret (.tuple [.i (fitsM p y m).1, .b (fitsM p y m).2])) := fun y hy m c hc h0 h1 => by subst hc; exact ih y hy c h0 h1
  clear hf
  repeat' ((try (conv => whnf)) <;> first
    | (exact Bool.noConfusion (show true = false from h))
    | (exact Bool.noConfusion (show false = true from h))
    | with_reducible exact trivial
    | with_reducible exact idx_next hd1 ‹_›
    | with_reducible refine br_nil_e hd1 ?_
    | with_reducible refine br_cons_e hd1 ?_
    | with_reducible refine BrI.intro (fun h => ?_) (fun h => ?_)
    | ((refine opt_lkI (l := needL) ?_ (fun nd hnd => ?_) (fun hnd => ?_)); exact rfl)
    | ((refine opt_many (p := p) ?_ (fun md hmd => ?_) (fun hmd => ?_)); exact rfl)
    | (exact (many5n ‹lkI x.kind (manyL p) = none› h).elim)
    | ((with_reducible refine idx_int Sm.none ?_ ?_ ?_ ?_ ?_); exact rfl; exact rfl; rotate_left 2)
    | ((with_reducible refine LoopAt.mk 1 ?_); refine ⟨rangeL (x.l) 109 (fun (q : (Int) × (Bool)) => match q with | (n, ok) => [(6, .data (.val (.int .i64 n))), (7, .data (.val (.bool ok)))]) (fun (q : (Int) × (Bool)) => match q with | (n, ok) => []) [2, 3, 107, 108] (fun i1 r1 q => match q with | (n, ok) => fitsM p x most = fitsL p r1 most n ok ∧ 1 ≤ n ∧ n ≤ most), ?_⟩; with_reducible refine rangeL_rule (?_, ?_) ?_ ?_ (fun i1 ⟨n, ok⟩ hd1 hI1 => ?_) (fun i1 x1 r1 ⟨n, ok⟩ hd1 hl1 hI1 => ?_))
    | (with_reducible refine rangeL_next hd1 (?_, ?_) ?_ ?_)
    | ((with_reducible refine call_step ?_ ?_ ?_); rotate_left; (first | exact ih2 _ (drop_mem ‹_›) (most - n) _ (wrap_ok (by omega) (by omega)) (by omega) (by omega) | fail))
    | ((with_reducible refine idx_step ?_ ?_ ?_ ?_ ?_); exact rfl; exact rfl; rotate_left; (first | with_reducible exact idx_get ‹_› | with_reducible exact idx_drop hd1 | with_reducible exact idx_take hd1 | with_reducible exact idx_zip1 hd1 | with_reducible exact idx_zip2 hd1 | with_reducible exact idx_zip1e hd1 | with_reducible exact idx_zip2e hd1 | with_reducible exact idx_drop_e hd1 | fail))
    | ((with_reducible refine len_step ?_ ?_); exact rfl)
    | ((with_reducible refine ret_step ?_); refine ⟨[], rfl, ?_, trivial⟩; conv => whnf)
    | (with_reducible refine And.intro ?_ ?_)
    | exact @rfl AV _
    | fail)
  all_goals first
    | (rfl)
    | ((exact Int.le_refl _))
    | ((refine (idx5 ‹lkI x.kind (manyL p) = some _› ‹(x.kind == 5) = true› ?_).1; assumption))
    | ((refine (idx5 ‹lkI x.kind (manyL p) = some _› ‹(x.kind == 5) = true› ?_).2; assumption))
    | ((refine most_ge (l := x.l) (nd := nd) ?_; assumption))
    | (((with_reducible refine fits_start ‹lkI x.kind needL = some _› ‹lkI x.kind (manyL p) = _› ?_ ?_ ?_); assumption; (first | exact rfl | (refine inM_some (b := false) ?_; assumption)); (first | exact ok0_1 ‹_› | exact ok0_2 ‹_› ‹_› | exact ok0_3 ‹_› ‹_› ‹_› | exact ok0_4 ‹_› ‹_› ‹_›)))
    | ((rw [fits_no ‹lkI x.kind needL = none›]))
    | ((rw [fits_n1 ‹lkI x.kind needL = some _› (css_h (b := true) h)]))
    | ((rw [fits_out ‹lkI x.kind needL = some _› ‹lkI x.kind (manyL p) = _› ?_ (inM_some (b := true) h)]; assumption))
    | ((obtain ⟨hok, hfit⟩ := bifT h; have hr := fits_rng p x1 (most - n) (by omega); have h3 := hr.2.2 hfit; rw [wrap_ok (by omega) (by omega)]; first | omega | (rw [hI1.1]; exact fitsL_go h)))
    | ((rw [hI1.1, fitsL_no h]))
    | ((rw [hI1.1, fitsL]))
    | skip
end Go.Proofs.YtjgponkgifopaaaGreatDoor
namespace Go.Proofs.YtjgponkgifopaaaGreatDoor
open Go.Fw Go.Fw.Rg Go.Fw.Nam
set_option maxRecDepth 10000
set_option linter.unusedSectionVars false
variable [GlobInt]
set_option maxHeartbeats 400000 in
theorem bounds_no (p : Pr) (pd : D) (e : Int) (hw : PCall Tryz.prog 26 [p.d] (.ret (.tuple [pd, .i e]))) (he : (e != 0) = true) : PCall Tryz.prog 11 [p.d] (.ret (.tuple [.sl 2 [], .i e])) := by
  refine pcall_of_wc tok hmix ⟨[], []⟩ Tryz.func11 rfl (by kernel_rfl) (by kernel_rfl) (by kernel_rfl) fun hf => ?_
  clear hf
  repeat' ((try (conv => whnf)) <;> first
    | (exact Bool.noConfusion (show true = false from he.symm.trans h))
    | with_reducible refine BrI.intro (fun h => ?_) (fun h => ?_)
    | ((with_reducible refine call_step ?_ ?_ ?_); rotate_left; (first | exact whole_e1 _ (by assumption) (by assumption) | exact whole_e2 _ (by assumption) (by assumption) (by assumption) | exact whole_ok _ _ (by assumption) (by assumption) (by assumption) (by assumption) (by assumption) (by assumption) (by assumption) | exact whole_bad _ _ _ (by assumption) (by assumption) (by assumption) (by assumption) (by assumption) (by assumption) (by assumption) | exact hw | fail))
    | ((with_reducible refine ret_step ?_); refine ⟨[], rfl, ?_, trivial⟩; conv => whnf)
    | fail)
  all_goals first
    | (rfl)
    | skip
set_option maxHeartbeats 400000 in
theorem bounds_ok (p : Pr) (F : List Sp) (hw : PCall Tryz.prog 26 [p.d] (.ret (.tuple [.ptr (fC p F), .i 0]))) : PCall Tryz.prog 11 [p.d] (.ret (.tuple [.sl 2 (F.map Sp.cs), .i 0])) := by
  refine pcall_of_wc tok hmix ⟨[], []⟩ Tryz.func11 rfl (by kernel_rfl) (by kernel_rfl) (by kernel_rfl) fun hf => ?_
  clear hf
  repeat' ((try (conv => whnf)) <;> first
    | (exact Bool.noConfusion (show false = true from h))
    | with_reducible refine BrI.intro (fun h => ?_) (fun h => ?_)
    | ((with_reducible refine call_step ?_ ?_ ?_); rotate_left; (first | exact whole_e1 _ (by assumption) (by assumption) | exact whole_e2 _ (by assumption) (by assumption) (by assumption) | exact whole_ok _ _ (by assumption) (by assumption) (by assumption) (by assumption) (by assumption) (by assumption) (by assumption) | exact whole_bad _ _ _ (by assumption) (by assumption) (by assumption) (by assumption) (by assumption) (by assumption) (by assumption) | exact hw | fail))
    | ((with_reducible refine ret_step ?_); refine ⟨[], rfl, ?_, trivial⟩; conv => whnf)
    | fail)
  all_goals first
    | skip
set_option maxHeartbeats 400000 in
theorem check_any (p : Pr) (pd : D) (e : Int) (hw : PCall Tryz.prog 26 [p.d] (.ret (.tuple [pd, .i e]))) : PCall Tryz.prog 13 [p.d] (.ret (.i e)) := by
  refine pcall_of_wc tok hmix ⟨[], []⟩ Tryz.func13 rfl (by kernel_rfl) (by kernel_rfl) (by kernel_rfl) fun hf => ?_
  clear hf
  repeat' ((try (conv => whnf)) <;> first
    | ((with_reducible refine call_step ?_ ?_ ?_); rotate_left; (first | exact whole_e1 _ (by assumption) (by assumption) | exact whole_e2 _ (by assumption) (by assumption) (by assumption) | exact whole_ok _ _ (by assumption) (by assumption) (by assumption) (by assumption) (by assumption) (by assumption) (by assumption) | exact whole_bad _ _ _ (by assumption) (by assumption) (by assumption) (by assumption) (by assumption) (by assumption) (by assumption) | exact hw | fail))
    | ((with_reducible refine ret_step ?_); refine ⟨[], rfl, ?_, trivial⟩; conv => whnf)
    | fail)
  all_goals first
    | skip
set_option maxHeartbeats 400000 in
theorem int1_ok (p : Pr) (F : List Sp) (x : Ex) (s : Sp) (a b : Int) (hc : PCall Tryz.prog 32 [.ptr (fC p F), x.d] (.ret s.d)) : LCall Tryz.prog 31 [.ptr 1000000 0, .ptr 1000001 0, .ptr 1000002 0, .ptr 1000003 0] [(1000000, .cells [.data (.ptr (fC p F))]), (1000001, .cells [.data (.i x.kind), .data (.str x.name), .data (.i x.index), .data (.i x.n), .data (.sl 5 (Ex.css x.l))]), (1000002, .cells [.data (.i a)]), (1000003, .cells [.data (.i b)])] (.ret (.data (.tuple []))) [(1000000, .cells [.data (.ptr (fC p F))]), (1000001, .cells [.data (.i x.kind), .data (.str x.name), .data (.i x.index), .data (.i x.n), .data (.sl 5 (Ex.css x.l))]), (1000002, .cells [.data (.i s.1)]), (1000003, .cells [.data (.i s.2)])] := by
  refine lcall_of_wc tok hmix ⟨[], []⟩ Tryz.func31 rfl (by kernel_rfl) (by kernel_rfl) (by kernel_rfl) fun hf => ?_
  clear hf
  repeat' ((try (conv => whnf)) <;> first
    | with_reducible exact trivial
    | ((with_reducible refine call_step ?_ ?_ ?_); rotate_left; (first | exact gfind_call _ _ _ (by assumption) (by assumption) (by assumption) (by assumption) (by assumption) | exact hc | fail))
    | ((with_reducible refine ret_step ?_); refine fin_step' [] rfl ?_ ?_)
    | ((with_reducible refine chk_step ?_ ?_); kernel_rfl)
    | (with_reducible refine And.intro ?_ ?_)
    | fail)
  all_goals first
    | (rfl)
    | (decide)
    | skip
set_option maxHeartbeats 400000 in
theorem int1_bad (p : Pr) (F : List Sp) (x : Ex) (e : Int) (a b : Int) (hc : PCall Tryz.prog 32 [.ptr (fC p F), x.d] (.pan (.iface 31 (.i e)))) : LCall Tryz.prog 31 [.ptr 1000000 0, .ptr 1000001 0, .ptr 1000002 0, .ptr 1000003 0] [(1000000, .cells [.data (.ptr (fC p F))]), (1000001, .cells [.data (.i x.kind), .data (.str x.name), .data (.i x.index), .data (.i x.n), .data (.sl 5 (Ex.css x.l))]), (1000002, .cells [.data (.i a)]), (1000003, .cells [.data (.i b)])] (.pan (.data (.iface 31 (.i e)))) [(1000000, .cells [.data (.ptr (fC p F))]), (1000001, .cells [.data (.i x.kind), .data (.str x.name), .data (.i x.index), .data (.i x.n), .data (.sl 5 (Ex.css x.l))]), (1000002, .cells [.data (.i a)]), (1000003, .cells [.data (.i b)])] := by
  refine lcall_of_wc tok hmix ⟨[], []⟩ Tryz.func31 rfl (by kernel_rfl) (by kernel_rfl) (by kernel_rfl) fun hf => ?_
  clear hf
  repeat' ((try (conv => whnf)) <;> first
    | with_reducible exact trivial
    | ((with_reducible refine call_step ?_ ?_ ?_); rotate_left; (first | exact gfind_call _ _ _ (by assumption) (by assumption) (by assumption) (by assumption) (by assumption) | exact hc | fail))
    | ((with_reducible refine pan_stepA ?_); refine fin_step' [] rfl ?_ ?_)
    | (with_reducible refine And.intro ?_ ?_)
    | fail)
  all_goals first
    | skip
set_option maxHeartbeats 400000 in
theorem workI_ok (p : Pr) (F : List Sp) (x : Ex) (s : Sp) (hc : PCall Tryz.prog 32 [.ptr (fC p F), x.d] (.ret s.d)) : LCall Tryz.prog 30 [.ptr 1000000 0, .fn 31 [.ptr 1000001 0, .ptr 1000002 0, .ptr 1000003 0, .ptr 1000004 0]] [(1000000, .cells [.data (.i 0)]), (1000001, .cells [.data (.ptr (fC p F))]), (1000002, .cells [.data (.i x.kind), .data (.str x.name), .data (.i x.index), .data (.i x.n), .data (.sl 5 (Ex.css x.l))]), (1000003, .cells [.data (.i 0)]), (1000004, .cells [.data (.i 0)])] (.ret (.data (.tuple []))) [(1000000, .cells [.data (.i 0)]), (1000001, .cells [.data (.ptr (fC p F))]), (1000002, .cells [.data (.i x.kind), .data (.str x.name), .data (.i x.index), .data (.i x.n), .data (.sl 5 (Ex.css x.l))]), (1000003, .cells [.data (.i s.1)]), (1000004, .cells [.data (.i s.2)])] := by
  refine lcall_of_wc tok hmix ⟨[], []⟩ Tryz.func30 rfl (by kernel_rfl) (by kernel_rfl) (by kernel_rfl) fun hf => ?_
  clear hf
  repeat' ((try (conv => whnf)) <;> first
    | with_reducible exact trivial
    | ((refine ⟨_, _, _, [(1000000, 2), (1000001, 1000000)], work1_ok (.i 0), rfl, ⟨rfl, rfl, trivial⟩, ?_, ?_⟩); kernel_rfl)
    | (refine ⟨([(1000000, 1000000), (1000001, 1000001), (1000002, 1000002), (1000003, 1000003), (1000004, 1000004)] : List (Nat × Nat)), rfl, ?_, ?_⟩)
    | ((first | with_reducible refine lent_step [(1000000, 1000001), (1000001, 1000002), (1000002, 1000003), (1000003, 1000004)] (int1_ok p F x s 0 0 hc) ?_ ?_ ?_ ?_ | with_reducible refine lent_step' [(1000000, 1000001), (1000001, 1000002), (1000002, 1000003), (1000003, 1000004)] (int1_ok p F x s 0 0 hc) ?_ ?_ ?_ ?_ | fail); rotate_left 0; exact rfl; (first | exact trivial | exact ⟨rfl, trivial⟩ | exact ⟨rfl, rfl, trivial⟩ | exact ⟨rfl, rfl, rfl, trivial⟩ | exact ⟨rfl, rfl, rfl, rfl, trivial⟩ | exact ⟨rfl, rfl, rfl, rfl, rfl, trivial⟩ | exact ⟨rfl, rfl, rfl, rfl, rfl, rfl, trivial⟩); exact rfl)
    | (with_reducible refine And.intro ?_ ?_)
    | fail)
  all_goals first
    | skip
set_option maxHeartbeats 400000 in
theorem workI_bad (p : Pr) (F : List Sp) (x : Ex) (e : Int) (hc : PCall Tryz.prog 32 [.ptr (fC p F), x.d] (.pan (.iface 31 (.i e)))) : LCall Tryz.prog 30 [.ptr 1000000 0, .fn 31 [.ptr 1000001 0, .ptr 1000002 0, .ptr 1000003 0, .ptr 1000004 0]] [(1000000, .cells [.data (.i 0)]), (1000001, .cells [.data (.ptr (fC p F))]), (1000002, .cells [.data (.i x.kind), .data (.str x.name), .data (.i x.index), .data (.i x.n), .data (.sl 5 (Ex.css x.l))]), (1000003, .cells [.data (.i 0)]), (1000004, .cells [.data (.i 0)])] (.ret (.data (.tuple []))) [(1000000, .cells [.data (.i e)]), (1000001, .cells [.data (.ptr (fC p F))]), (1000002, .cells [.data (.i x.kind), .data (.str x.name), .data (.i x.index), .data (.i x.n), .data (.sl 5 (Ex.css x.l))]), (1000003, .cells [.data (.i 0)]), (1000004, .cells [.data (.i 0)])] := by
  refine lcall_of_wc tok hmix ⟨[], []⟩ Tryz.func30 rfl (by kernel_rfl) (by kernel_rfl) (by kernel_rfl) fun hf => ?_
  clear hf
  repeat' ((try (conv => whnf)) <;> first
    | with_reducible exact trivial
    | ((refine ⟨_, _, _, [(1000000, 2), (1000001, 1000000)], work1_pan (.data (.i 0)) e, rfl, ⟨rfl, rfl, trivial⟩, ?_, ?_⟩); kernel_rfl)
    | (refine ⟨([(1000000, 1000000), (1000001, 1000001), (1000002, 1000002), (1000003, 1000003), (1000004, 1000004)] : List (Nat × Nat)), rfl, ?_, ?_⟩)
    | ((first | with_reducible refine lent_step [(1000000, 1000001), (1000001, 1000002), (1000002, 1000003), (1000003, 1000004)] (int1_bad p F x e 0 0 hc) ?_ ?_ ?_ ?_ | with_reducible refine lent_step' [(1000000, 1000001), (1000001, 1000002), (1000002, 1000003), (1000003, 1000004)] (int1_bad p F x e 0 0 hc) ?_ ?_ ?_ ?_ | fail); rotate_left 0; exact rfl; (first | exact trivial | exact ⟨rfl, trivial⟩ | exact ⟨rfl, rfl, trivial⟩ | exact ⟨rfl, rfl, rfl, trivial⟩ | exact ⟨rfl, rfl, rfl, rfl, trivial⟩ | exact ⟨rfl, rfl, rfl, rfl, rfl, trivial⟩ | exact ⟨rfl, rfl, rfl, rfl, rfl, rfl, trivial⟩); exact rfl)
    | (with_reducible refine And.intro ?_ ?_)
    | fail)
  all_goals first
    | skip
set_option maxHeartbeats 400000 in
theorem int_no1 (p : Pr) (x : Ex) (e : Int) (hw : PCall Tryz.prog 26 [p.d] (.ret (.tuple [.val (.pointer none), .i e]))) (he : (e != 0) = true) : PCall Tryz.prog 15 [p.d, x.d] (.ret (.tuple [.i 0, .i 0, .i e])) := by
  refine pcall_of_wc tok hmix ⟨[], []⟩ Tryz.func15 rfl (by kernel_rfl) (by kernel_rfl) (by kernel_rfl) fun hf => ?_
  clear hf
  repeat' ((try (conv => whnf)) <;> first
    | (exact Bool.noConfusion (show true = false from he.symm.trans h))
    | with_reducible refine BrI.intro (fun h => ?_) (fun h => ?_)
    | ((with_reducible refine call_step ?_ ?_ ?_); rotate_left; (first | exact whole_e1 _ (by assumption) (by assumption) | exact whole_e2 _ (by assumption) (by assumption) (by assumption) | exact whole_ok _ _ (by assumption) (by assumption) (by assumption) (by assumption) (by assumption) (by assumption) (by assumption) | exact whole_bad _ _ _ (by assumption) (by assumption) (by assumption) (by assumption) (by assumption) (by assumption) (by assumption) | exact fits_call _ _ _ (by assumption) (by assumption) | exact hw | fail))
    | ((with_reducible refine chk_step ?_ ?_); kernel_rfl)
    | ((with_reducible refine ret_step ?_); refine ⟨[], rfl, ?_, trivial⟩; conv => whnf)
    | fail)
  all_goals first
    | skip
set_option maxHeartbeats 400000 in
theorem int_no2 (p : Pr) (x : Ex) (F : List Sp) (e : Int) (hw : PCall Tryz.prog 26 [p.d] (.ret (.tuple [.ptr (fC p F), .i e]))) (he : (e != 0) = true) : PCall Tryz.prog 15 [p.d, x.d] (.ret (.tuple [.i 0, .i 0, .i e])) := by
  refine pcall_of_wc tok hmix ⟨[], []⟩ Tryz.func15 rfl (by kernel_rfl) (by kernel_rfl) (by kernel_rfl) fun hf => ?_
  clear hf
  repeat' ((try (conv => whnf)) <;> first
    | (exact Bool.noConfusion (show true = false from he.symm.trans h))
    | with_reducible refine BrI.intro (fun h => ?_) (fun h => ?_)
    | ((with_reducible refine call_step ?_ ?_ ?_); rotate_left; (first | exact whole_e1 _ (by assumption) (by assumption) | exact whole_e2 _ (by assumption) (by assumption) (by assumption) | exact whole_ok _ _ (by assumption) (by assumption) (by assumption) (by assumption) (by assumption) (by assumption) (by assumption) | exact whole_bad _ _ _ (by assumption) (by assumption) (by assumption) (by assumption) (by assumption) (by assumption) (by assumption) | exact fits_call _ _ _ (by assumption) (by assumption) | exact hw | fail))
    | ((with_reducible refine chk_step ?_ ?_); kernel_rfl)
    | ((with_reducible refine ret_step ?_); refine ⟨[], rfl, ?_, trivial⟩; conv => whnf)
    | fail)
  all_goals first
    | skip
set_option maxHeartbeats 400000 in
theorem int_name (p : Pr) (x : Ex) (F : List Sp) (hw : PCall Tryz.prog 26 [p.d] (.ret (.tuple [.ptr (fC p F), .i 0]))) (hx : (fitsM p x 512).2 = false) : PCall Tryz.prog 15 [p.d, x.d] (.ret (.tuple [.i 0, .i 0, .i 150])) := by
  refine pcall_of_wc tok hmix ⟨[], []⟩ Tryz.func15 rfl (by kernel_rfl) (by kernel_rfl) (by kernel_rfl) fun hf => ?_
  clear hf
  repeat' ((try (conv => whnf)) <;> first
    | (exact Bool.noConfusion (show false = true from h))
    | (exact Bool.noConfusion (show true = false from (congrArg (!·) hx).symm.trans h))
    | with_reducible refine BrI.intro (fun h => ?_) (fun h => ?_)
    | ((with_reducible refine call_step ?_ ?_ ?_); rotate_left; (first | exact whole_e1 _ (by assumption) (by assumption) | exact whole_e2 _ (by assumption) (by assumption) (by assumption) | exact whole_ok _ _ (by assumption) (by assumption) (by assumption) (by assumption) (by assumption) (by assumption) (by assumption) | exact whole_bad _ _ _ (by assumption) (by assumption) (by assumption) (by assumption) (by assumption) (by assumption) (by assumption) | exact fits_call _ _ _ (by assumption) (by assumption) | exact hw | exact fits_call p x 512 (by decide) (by decide) | fail))
    | ((with_reducible refine ret_step ?_); refine ⟨[], rfl, ?_, trivial⟩; conv => whnf)
    | fail)
  all_goals first
    | skip
set_option maxHeartbeats 400000 in
theorem int_ok (p : Pr) (x : Ex) (F : List Sp) (s : Sp) (hw : PCall Tryz.prog 26 [p.d] (.ret (.tuple [.ptr (fC p F), .i 0]))) (hx : (fitsM p x 512).2 = true) (hc : PCall Tryz.prog 32 [.ptr (fC p F), x.d] (.ret s.d)) : PCall Tryz.prog 15 [p.d, x.d] (.ret (.tuple [.i s.1, .i s.2, .i 0])) := by
  refine pcall_of_wc tok hmix ⟨[], []⟩ Tryz.func15 rfl (by kernel_rfl) (by kernel_rfl) (by kernel_rfl) fun hf => ?_
  clear hf
  repeat' ((try (conv => whnf)) <;> first
    | (exact Bool.noConfusion (show false = true from h))
    | (exact Bool.noConfusion (show false = true from (congrArg (!·) hx).symm.trans h))
    | with_reducible refine BrI.intro (fun h => ?_) (fun h => ?_)
    | ((with_reducible refine call_step ?_ ?_ ?_); rotate_left; (first | exact whole_e1 _ (by assumption) (by assumption) | exact whole_e2 _ (by assumption) (by assumption) (by assumption) | exact whole_ok _ _ (by assumption) (by assumption) (by assumption) (by assumption) (by assumption) (by assumption) (by assumption) | exact whole_bad _ _ _ (by assumption) (by assumption) (by assumption) (by assumption) (by assumption) (by assumption) (by assumption) | exact fits_call _ _ _ (by assumption) (by assumption) | exact hw | exact fits_call p x 512 (by decide) (by decide) | fail))
    | ((first | with_reducible refine lent_step [(1000000, 6), (1000001, 7), (1000002, 3), (1000003, 4), (1000004, 5)] (workI_ok p F x s hc) ?_ ?_ ?_ ?_ | with_reducible refine lent_step' [(1000000, 6), (1000001, 7), (1000002, 3), (1000003, 4), (1000004, 5)] (workI_ok p F x s hc) ?_ ?_ ?_ ?_ | fail); rotate_left 0; exact rfl; (first | exact trivial | exact ⟨rfl, trivial⟩ | exact ⟨rfl, rfl, trivial⟩ | exact ⟨rfl, rfl, rfl, trivial⟩ | exact ⟨rfl, rfl, rfl, rfl, trivial⟩ | exact ⟨rfl, rfl, rfl, rfl, rfl, trivial⟩ | exact ⟨rfl, rfl, rfl, rfl, rfl, rfl, trivial⟩); exact rfl)
    | ((with_reducible refine chk_step ?_ ?_); kernel_rfl)
    | ((with_reducible refine ret_step ?_); refine ⟨[], rfl, ?_, trivial⟩; conv => whnf)
    | fail)
  all_goals first
    | skip
set_option maxHeartbeats 400000 in
theorem int_bad (p : Pr) (x : Ex) (F : List Sp) (e : Int) (hw : PCall Tryz.prog 26 [p.d] (.ret (.tuple [.ptr (fC p F), .i 0]))) (hx : (fitsM p x 512).2 = true) (hc : PCall Tryz.prog 32 [.ptr (fC p F), x.d] (.pan (.iface 31 (.i e)))) : PCall Tryz.prog 15 [p.d, x.d] (.ret (.tuple [.i 0, .i 0, .i e])) := by
  refine pcall_of_wc tok hmix ⟨[], []⟩ Tryz.func15 rfl (by kernel_rfl) (by kernel_rfl) (by kernel_rfl) fun hf => ?_
  clear hf
  repeat' ((try (conv => whnf)) <;> first
    | (exact Bool.noConfusion (show false = true from h))
    | (exact Bool.noConfusion (show false = true from (congrArg (!·) hx).symm.trans h))
    | with_reducible refine BrI.intro (fun h => ?_) (fun h => ?_)
    | ((with_reducible refine call_step ?_ ?_ ?_); rotate_left; (first | exact whole_e1 _ (by assumption) (by assumption) | exact whole_e2 _ (by assumption) (by assumption) (by assumption) | exact whole_ok _ _ (by assumption) (by assumption) (by assumption) (by assumption) (by assumption) (by assumption) (by assumption) | exact whole_bad _ _ _ (by assumption) (by assumption) (by assumption) (by assumption) (by assumption) (by assumption) (by assumption) | exact fits_call _ _ _ (by assumption) (by assumption) | exact hw | exact fits_call p x 512 (by decide) (by decide) | fail))
    | ((first | with_reducible refine lent_step [(1000000, 6), (1000001, 7), (1000002, 3), (1000003, 4), (1000004, 5)] (workI_bad p F x e hc) ?_ ?_ ?_ ?_ | with_reducible refine lent_step' [(1000000, 6), (1000001, 7), (1000002, 3), (1000003, 4), (1000004, 5)] (workI_bad p F x e hc) ?_ ?_ ?_ ?_ | fail); rotate_left 0; exact rfl; (first | exact trivial | exact ⟨rfl, trivial⟩ | exact ⟨rfl, rfl, trivial⟩ | exact ⟨rfl, rfl, rfl, trivial⟩ | exact ⟨rfl, rfl, rfl, rfl, trivial⟩ | exact ⟨rfl, rfl, rfl, rfl, rfl, trivial⟩ | exact ⟨rfl, rfl, rfl, rfl, rfl, rfl, trivial⟩); exact rfl)
    | ((with_reducible refine chk_step ?_ ?_); kernel_rfl)
    | ((with_reducible refine ret_step ?_); refine ⟨[], rfl, ?_, trivial⟩; conv => whnf)
    | fail)
  all_goals first
    | skip
end Go.Proofs.YtjgponkgifopaaaGreatDoor
