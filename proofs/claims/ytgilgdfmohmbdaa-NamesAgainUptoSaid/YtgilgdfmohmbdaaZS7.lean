/- Contracts: package names: what is deferred. -/
import Derived.Test.YtgilgdfmohmbdaaZN
import Derived.Test.YtgilgdfmohmbdaaZD
import Derived.Test.YtgilgdfmohmbdaaZS4
import Derived.Test.YtgilgdfmohmbdaaZS5
set_option linter.unusedSimpArgs false
set_option linter.unusedVariables false
namespace Go.Proofs.Ytgilgdfmohmbdaa
open Go.Fw Go.Fw.Nam Go.Fw.Ref15
set_option maxRecDepth 10000
set_option linter.unusedSectionVars false
variable [GlobInt]
theorem resolve1_pan (c0 c1 c2 c3 c4 c5 c6 c7 e0 : AV) (e : Int) : DCall Try.prog 28 [.ptr 1000000 0, .ptr 1000001 0] (some (.iface 30 (.i e))) [(1000000, .cells [c0, c1, c2, c3, c4, c5, c6, c7]), (1000001, .cells [e0])]
    [(1000000, .cells [.data (.str []), .data (.i 0), .data (.i 0), .nilsl 3, .nilsl 3, .nilsl 4, .nilsl 2, .nilsl 8]), (1000001, .cells [.data (.i e)])] := by
  refine dcall_of_vc tok hmix Try.func28 rfl (by kernel_rfl) (by kernel_rfl) (by kernel_rfl) ?_
  repeat' ((try (conv => whnf)) <;> first
    | with_reducible exact trivial
    | with_reducible exact rfl
    | with_reducible refine BrI.tt ?_
    | with_reducible refine BrI.ff ?_
    | (refine ⟨([] : List (Nat × Nat)), ?_⟩)
    | (refine ⟨by kernel_rfl, ?_⟩)
    | (refine ⟨rfl, ?_⟩)
    | (refine ⟨?_, ?_⟩)
    | fail)
theorem resolve1_panT (c0 c1 c2 c3 c4 c5 c6 c7 e0 : AV) (e : Int) (n : Nat) : DCall Try.prog 28 [.ptr 1000000 0, .ptr 1000001 0] (some (.iface 30 (.i e))) [(1000000, .cells [c0, c1, c2, c3, c4, c5, c6, c7]), (1000001, .cells [e0]), (1000002, .tok 8 n)]
    [(1000000, .cells [.data (.str []), .data (.i 0), .data (.i 0), .nilsl 3, .nilsl 3, .nilsl 4, .nilsl 2, .nilsl 8]), (1000001, .cells [.data (.i e)]), (1000002, .tok 8 n)] := by
  refine dcall_of_vc tok hmix Try.func28 rfl (by kernel_rfl) (by kernel_rfl) (by kernel_rfl) ?_
  repeat' ((try (conv => whnf)) <;> first
    | with_reducible exact trivial
    | with_reducible exact rfl
    | with_reducible refine BrI.tt ?_
    | with_reducible refine BrI.ff ?_
    | (refine ⟨([] : List (Nat × Nat)), ?_⟩)
    | (refine ⟨by kernel_rfl, ?_⟩)
    | (refine ⟨rfl, ?_⟩)
    | (refine ⟨?_, ?_⟩)
    | fail)
theorem resolve1_okT (d0 d1 d2 d3 d4 d5 d6 d7 : D) (es : List (List D)) : DCall Try.prog 28 [.ptr 1000000 0, .ptr 1000001 0] none [(1000000, .cells [.data d0, .data d1, .data d2, .data d3, .data d4, .data d5, .data d6, .gs 1000002 8 es]), (1000001, .cells [.data d7]), (1000002, .tok 8 es.length)]
    [(1000000, .cells [.data d0, .data d1, .data d2, .data d3, .data d4, .data d5, .data d6, .gs 1000002 8 es]), (1000001, .cells [.data d7]), (1000002, .tok 8 es.length)] := by
  refine dcall_of_vc tok hmix Try.func28 rfl (by kernel_rfl) (by kernel_rfl) (by kernel_rfl) ?_
  repeat' ((try (conv => whnf)) <;> first
    | with_reducible exact trivial
    | with_reducible exact rfl
    | with_reducible refine BrI.tt ?_
    | with_reducible refine BrI.ff ?_
    | (refine ⟨([] : List (Nat × Nat)), ?_⟩)
    | (refine ⟨by kernel_rfl, ?_⟩)
    | (refine ⟨rfl, ?_⟩)
    | (refine ⟨?_, ?_⟩)
    | fail)
theorem resolve1_ok (d0 d1 d2 d3 d4 d5 d6 d7 d8 : D) : DCall Try.prog 28 [.ptr 1000000 0, .ptr 1000001 0] none [(1000000, .cells [.data d0, .data d1, .data d2, .data d3, .data d4, .data d5, .data d6, .data d7]), (1000001, .cells [.data d8])]
    [(1000000, .cells [.data d0, .data d1, .data d2, .data d3, .data d4, .data d5, .data d6, .data d7]), (1000001, .cells [.data d8])] := by
  refine dcall_of_vc tok hmix Try.func28 rfl (by kernel_rfl) (by kernel_rfl) (by kernel_rfl) ?_
  repeat' ((try (conv => whnf)) <;> first
    | with_reducible exact trivial
    | with_reducible exact rfl
    | with_reducible refine BrI.tt ?_
    | with_reducible refine BrI.ff ?_
    | (refine ⟨([] : List (Nat × Nat)), ?_⟩)
    | (refine ⟨by kernel_rfl, ?_⟩)
    | (refine ⟨rfl, ?_⟩)
    | (refine ⟨?_, ?_⟩)
    | fail)
end Go.Proofs.Ytgilgdfmohmbdaa
namespace Go.Proofs.Ytgilgdfmohmbdaa
open Go.Fw Go.Fw.Nam Go.Fw.Ref15
set_option maxRecDepth 10000
set_option linter.unusedSectionVars false
variable [GlobInt]
set_option maxHeartbeats 400000 in
theorem Resolve_bad1 (p : Pr) (hF : Nam.formed p = false) : PCall Try.prog 11 [p.d] (.ret (.tuple [Pr.none.d, .i 1])) := by
  refine pcall_of_wc tok hmix ⟨[], []⟩ Try.func11 rfl (by kernel_rfl) (by kernel_rfl) (by kernel_rfl) fun hf => ?_
  clear hf
  repeat' ((try (conv => whnf)) <;> first
    | with_reducible exact trivial
    | with_reducible exact rfl
    | with_reducible refine BrI.tt ?_
    | with_reducible refine BrI.ff ?_
    | with_reducible refine BrI.intro (fun h => ?_) (fun h => ?_)
    | with_reducible refine need_step (formedP_call _) (fun h => ?_) (fun h => ?_)
    | with_reducible refine need_step (limitedP_call _ (by assumption)) (fun h => ?_) (fun h => ?_)
    | with_reducible refine need_step (rangedP_call _ (by assumption)) (fun h => ?_) (fun h => ?_)
    | with_reducible refine need_step (need_call _ _) (fun h => ?_) (fun h => ?_)
    | (exact Bool.noConfusion (hF.symm.trans h))
    | ((refine ⟨_, _, _, [(1000000, 2), (1000001, 3)], resolve1_pan (.data (.str [])) (.data (.i 0)) (.data (.i 0)) (.nilsl 3) (.nilsl 3) (.nilsl 4) (.nilsl 2) (.nilsl 8) (.data (.i 0)) 1, rfl, ⟨rfl, rfl, trivial⟩, ?_, ?_⟩); kernel_rfl)
    | (refine ⟨([] : List (Nat × Nat)), rfl, ?_, trivial⟩)
    | ((first | with_reducible refine lent_step [(1000000, 800000)] (declare_ok ?_ ?_ ?_ ?_) ?_ ?_ ?_ ?_ | with_reducible refine lent_step' [(1000000, 800000)] (declare_ok ?_ ?_ ?_ ?_) ?_ ?_ ?_ ?_ | fail); rotate_left 4; exact rfl; (first | exact trivial | exact ⟨rfl, trivial⟩ | exact ⟨rfl, rfl, trivial⟩ | exact ⟨rfl, rfl, rfl, trivial⟩ | exact ⟨rfl, rfl, rfl, rfl, trivial⟩ | exact ⟨rfl, rfl, rfl, rfl, rfl, trivial⟩ | exact ⟨rfl, rfl, rfl, rfl, rfl, rfl, trivial⟩); exact rfl)
    | ((first | with_reducible refine lent_step [] (declare_bad1 ?_ ?_ ?_) ?_ ?_ ?_ ?_ | with_reducible refine lent_step' [] (declare_bad1 ?_ ?_ ?_) ?_ ?_ ?_ ?_ | fail); rotate_left 3; exact rfl; (first | exact trivial | exact ⟨rfl, trivial⟩ | exact ⟨rfl, rfl, trivial⟩ | exact ⟨rfl, rfl, rfl, trivial⟩ | exact ⟨rfl, rfl, rfl, rfl, trivial⟩ | exact ⟨rfl, rfl, rfl, rfl, rfl, trivial⟩ | exact ⟨rfl, rfl, rfl, rfl, rfl, rfl, trivial⟩); exact rfl)
    | ((first | with_reducible refine lent_step [] (declare_bad2 ?_ ?_ ?_ ?_) ?_ ?_ ?_ ?_ | with_reducible refine lent_step' [] (declare_bad2 ?_ ?_ ?_ ?_) ?_ ?_ ?_ ?_ | fail); rotate_left 4; exact rfl; (first | exact trivial | exact ⟨rfl, trivial⟩ | exact ⟨rfl, rfl, trivial⟩ | exact ⟨rfl, rfl, rfl, trivial⟩ | exact ⟨rfl, rfl, rfl, rfl, trivial⟩ | exact ⟨rfl, rfl, rfl, rfl, rfl, trivial⟩ | exact ⟨rfl, rfl, rfl, rfl, rfl, rfl, trivial⟩); exact rfl)
    | (with_reducible refine ChooseI.l _ ?_)
    | ((with_reducible refine nilgs_step ?_ ?_ ?_ ?_ ?_ ?_) <;> exact rfl)
    | ((with_reducible refine tok0_step ?_ ?_ ?_ ?_) <;> exact rfl)
    | ((with_reducible refine kok_step ?_ ?_ ?_); exact rfl; exact rfl)
    | ((with_reducible refine idx_step ?_ ?_ ?_ ?_ ?_); exact rfl; exact rfl; rotate_left; (first | with_reducible exact idx_get ‹_› | fail))
    | ((with_reducible refine len_step ?_ ?_); exact rfl)
    | ((with_reducible refine app_step' ?_ ?_ ?_ ?_ ?_ ?_ ?_); exact rfl; exact rfl; exact rfl; exact rfl)
    | ((with_reducible refine nil_step' ?_ ?_ ?_ ?_); exact rfl; exact rfl)
    | ((with_reducible refine guard_step ?_ ?_ (fun hg => ?_) ?_); exact rfl)
    | ((with_reducible refine val_step ?_ ?_); with_reducible exact rfl; with_reducible exact rfl)
    | ((with_reducible refine same_step ?_ ?_); with_reducible exact rfl)
    | ((with_reducible refine chk_step ?_ ?_); kernel_rfl)
    | ((with_reducible refine ret_step ?_); refine ⟨[], rfl, ?_, trivial⟩; conv => whnf)
    | ((with_reducible refine ret_need ?_ ?_); rotate_left; refine ⟨[], rfl, ?_, trivial⟩; conv => whnf)
    | ((with_reducible refine pan_need ?_ ?_); rotate_left; refine ⟨[], rfl, ?_, trivial⟩; conv => whnf)
    | ((with_reducible refine pan_step ?_); refine ⟨[], rfl, ?_, trivial⟩; conv => whnf)
    | (with_reducible refine And.intro ?_ ?_)
    | ((with_reducible refine gs_eq ?_ ?_ ?_); exact rfl; exact rfl; (first | with_reducible exact map_app | with_reducible exact map_app3 | with_reducible exact map_app4 | exact map_snoc | exact rfl | skip))
    | ((with_reducible refine tok_eq ?_ ?_); exact rfl; (first | with_reducible exact map_app | with_reducible exact map_app3 | with_reducible exact map_app4 | exact map_snoc | exact rfl | skip))
    | ((with_reducible refine ren_guard ?_); refine gs_ren ?_ ?_ ?_; exact rfl; exact rfl; (first | exact rfl | skip))
    | exact @rfl AV _
    | exact @rfl Block _
    | exact @rfl (List AV) _
    | exact ble_le rfl
    | fail)
  all_goals (try simp only [Bool.cond_true_left, Bool.cond_false_right, Bool.cond_false_left, Bool.cond_true_right, Bool.not_eq_true', Bool.not_eq_false', bne, Ex.css_len, List.length_map, Int.toNat_zero] at *)
  all_goals first
    | omega
    | (rfl)
    | (exfalso; simp_all; done)
    | skip
set_option maxHeartbeats 400000 in
theorem Resolve_bad2 (p : Pr) (hF : Nam.formed p = true) (hL : Nam.limited p = false) (hn : ∀ s ∈ p.stmts, Ref15.nodes s.x ≤ 1073741824) : PCall Try.prog 11 [p.d] (.ret (.tuple [Pr.none.d, .i 2])) := by
  refine pcall_of_wc tok hmix ⟨[], []⟩ Try.func11 rfl (by kernel_rfl) (by kernel_rfl) (by kernel_rfl) fun hf => ?_
  clear hf
  repeat' ((try (conv => whnf)) <;> first
    | with_reducible exact trivial
    | with_reducible exact rfl
    | with_reducible refine BrI.tt ?_
    | with_reducible refine BrI.ff ?_
    | with_reducible refine BrI.intro (fun h => ?_) (fun h => ?_)
    | with_reducible refine need_step (formedP_call _) (fun h => ?_) (fun h => ?_)
    | with_reducible refine need_step (limitedP_call _ (by assumption)) (fun h => ?_) (fun h => ?_)
    | with_reducible refine need_step (rangedP_call _ (by assumption)) (fun h => ?_) (fun h => ?_)
    | with_reducible refine need_step (need_call _ _) (fun h => ?_) (fun h => ?_)
    | (exact Bool.noConfusion (hF.symm.trans h))
    | (exact Bool.noConfusion (hL.symm.trans h))
    | ((refine ⟨_, _, _, [(1000000, 2), (1000001, 3)], resolve1_pan (.data (.str [])) (.data (.i 0)) (.data (.i 0)) (.nilsl 3) (.nilsl 3) (.nilsl 4) (.nilsl 2) (.nilsl 8) (.data (.i 0)) 2, rfl, ⟨rfl, rfl, trivial⟩, ?_, ?_⟩); kernel_rfl)
    | (refine ⟨([] : List (Nat × Nat)), rfl, ?_, trivial⟩)
    | ((first | with_reducible refine lent_step [(1000000, 800000)] (declare_ok ?_ ?_ ?_ ?_) ?_ ?_ ?_ ?_ | with_reducible refine lent_step' [(1000000, 800000)] (declare_ok ?_ ?_ ?_ ?_) ?_ ?_ ?_ ?_ | fail); rotate_left 4; exact rfl; (first | exact trivial | exact ⟨rfl, trivial⟩ | exact ⟨rfl, rfl, trivial⟩ | exact ⟨rfl, rfl, rfl, trivial⟩ | exact ⟨rfl, rfl, rfl, rfl, trivial⟩ | exact ⟨rfl, rfl, rfl, rfl, rfl, trivial⟩ | exact ⟨rfl, rfl, rfl, rfl, rfl, rfl, trivial⟩); exact rfl)
    | ((first | with_reducible refine lent_step [] (declare_bad1 ?_ ?_ ?_) ?_ ?_ ?_ ?_ | with_reducible refine lent_step' [] (declare_bad1 ?_ ?_ ?_) ?_ ?_ ?_ ?_ | fail); rotate_left 3; exact rfl; (first | exact trivial | exact ⟨rfl, trivial⟩ | exact ⟨rfl, rfl, trivial⟩ | exact ⟨rfl, rfl, rfl, trivial⟩ | exact ⟨rfl, rfl, rfl, rfl, trivial⟩ | exact ⟨rfl, rfl, rfl, rfl, rfl, trivial⟩ | exact ⟨rfl, rfl, rfl, rfl, rfl, rfl, trivial⟩); exact rfl)
    | ((first | with_reducible refine lent_step [] (declare_bad2 ?_ ?_ ?_ ?_) ?_ ?_ ?_ ?_ | with_reducible refine lent_step' [] (declare_bad2 ?_ ?_ ?_ ?_) ?_ ?_ ?_ ?_ | fail); rotate_left 4; exact rfl; (first | exact trivial | exact ⟨rfl, trivial⟩ | exact ⟨rfl, rfl, trivial⟩ | exact ⟨rfl, rfl, rfl, trivial⟩ | exact ⟨rfl, rfl, rfl, rfl, trivial⟩ | exact ⟨rfl, rfl, rfl, rfl, rfl, trivial⟩ | exact ⟨rfl, rfl, rfl, rfl, rfl, rfl, trivial⟩); exact rfl)
    | (with_reducible refine ChooseI.l _ ?_)
    | ((with_reducible refine nilgs_step ?_ ?_ ?_ ?_ ?_ ?_) <;> exact rfl)
    | ((with_reducible refine tok0_step ?_ ?_ ?_ ?_) <;> exact rfl)
    | ((with_reducible refine kok_step ?_ ?_ ?_); exact rfl; exact rfl)
    | ((with_reducible refine idx_step ?_ ?_ ?_ ?_ ?_); exact rfl; exact rfl; rotate_left; (first | with_reducible exact idx_get ‹_› | fail))
    | ((with_reducible refine len_step ?_ ?_); exact rfl)
    | ((with_reducible refine app_step' ?_ ?_ ?_ ?_ ?_ ?_ ?_); exact rfl; exact rfl; exact rfl; exact rfl)
    | ((with_reducible refine nil_step' ?_ ?_ ?_ ?_); exact rfl; exact rfl)
    | ((with_reducible refine guard_step ?_ ?_ (fun hg => ?_) ?_); exact rfl)
    | ((with_reducible refine val_step ?_ ?_); with_reducible exact rfl; with_reducible exact rfl)
    | ((with_reducible refine same_step ?_ ?_); with_reducible exact rfl)
    | ((with_reducible refine chk_step ?_ ?_); kernel_rfl)
    | ((with_reducible refine ret_step ?_); refine ⟨[], rfl, ?_, trivial⟩; conv => whnf)
    | ((with_reducible refine ret_need ?_ ?_); rotate_left; refine ⟨[], rfl, ?_, trivial⟩; conv => whnf)
    | ((with_reducible refine pan_need ?_ ?_); rotate_left; refine ⟨[], rfl, ?_, trivial⟩; conv => whnf)
    | ((with_reducible refine pan_step ?_); refine ⟨[], rfl, ?_, trivial⟩; conv => whnf)
    | (with_reducible refine And.intro ?_ ?_)
    | ((with_reducible refine gs_eq ?_ ?_ ?_); exact rfl; exact rfl; (first | with_reducible exact map_app | with_reducible exact map_app3 | with_reducible exact map_app4 | exact map_snoc | exact rfl | skip))
    | ((with_reducible refine tok_eq ?_ ?_); exact rfl; (first | with_reducible exact map_app | with_reducible exact map_app3 | with_reducible exact map_app4 | exact map_snoc | exact rfl | skip))
    | ((with_reducible refine ren_guard ?_); refine gs_ren ?_ ?_ ?_; exact rfl; exact rfl; (first | exact rfl | skip))
    | exact @rfl AV _
    | exact @rfl Block _
    | exact @rfl (List AV) _
    | exact ble_le rfl
    | fail)
  all_goals (try simp only [Bool.cond_true_left, Bool.cond_false_right, Bool.cond_false_left, Bool.cond_true_right, Bool.not_eq_true', Bool.not_eq_false', bne, Ex.css_len, List.length_map, Int.toNat_zero] at *)
  all_goals first
    | omega
    | (rfl)
    | (exfalso; simp_all; done)
    | skip
set_option maxHeartbeats 400000 in
theorem Resolve_bad3 (p : Pr) (hF : Nam.formed p = true) (hL : Nam.limited p = true) (hn : ∀ s ∈ p.stmts, Ref15.nodes s.x ≤ 1073741824) (hp : p.Small) (hN : (p.name :: fsts (decl p)).all Nam.nmOk = false) : PCall Try.prog 11 [p.d] (.ret (.tuple [Pr.none.d, .i 150])) := by
  refine pcall_of_wc tok hmix ⟨[], []⟩ Try.func11 rfl (by kernel_rfl) (by kernel_rfl) (by kernel_rfl) fun hf => ?_
  clear hf
  repeat' ((try (conv => whnf)) <;> first
    | with_reducible exact trivial
    | with_reducible exact rfl
    | with_reducible refine BrI.tt ?_
    | with_reducible refine BrI.ff ?_
    | with_reducible refine BrI.intro (fun h => ?_) (fun h => ?_)
    | with_reducible refine need_step (formedP_call _) (fun h => ?_) (fun h => ?_)
    | with_reducible refine need_step (limitedP_call _ (by assumption)) (fun h => ?_) (fun h => ?_)
    | with_reducible refine need_step (rangedP_call _ (by assumption)) (fun h => ?_) (fun h => ?_)
    | with_reducible refine need_step (need_call _ _) (fun h => ?_) (fun h => ?_)
    | (exact Bool.noConfusion (hF.symm.trans h))
    | (exact Bool.noConfusion (hL.symm.trans h))
    | ((refine ⟨_, _, _, [(1000000, 2), (1000001, 3)], resolve1_pan (.data (.str [])) (.data (.i 0)) (.data (.i 0)) (.nilsl 3) (.nilsl 3) (.nilsl 4) (.nilsl 2) (.nilsl 8) (.data (.i 0)) 150, rfl, ⟨rfl, rfl, trivial⟩, ?_, ?_⟩); kernel_rfl)
    | (refine ⟨([] : List (Nat × Nat)), rfl, ?_, trivial⟩)
    | ((first | with_reducible refine lent_step [] (declare_bad1 p hp hN) ?_ ?_ ?_ ?_ | with_reducible refine lent_step' [] (declare_bad1 p hp hN) ?_ ?_ ?_ ?_ | fail); rotate_left 0; exact rfl; (first | exact trivial | exact ⟨rfl, trivial⟩ | exact ⟨rfl, rfl, trivial⟩ | exact ⟨rfl, rfl, rfl, trivial⟩ | exact ⟨rfl, rfl, rfl, rfl, trivial⟩ | exact ⟨rfl, rfl, rfl, rfl, rfl, trivial⟩ | exact ⟨rfl, rfl, rfl, rfl, rfl, rfl, trivial⟩); exact rfl)
    | ((first | with_reducible refine lent_step [(1000000, 800100)] (declare_ok ?_ ?_ ?_ ?_) ?_ ?_ ?_ ?_ | with_reducible refine lent_step' [(1000000, 800100)] (declare_ok ?_ ?_ ?_ ?_) ?_ ?_ ?_ ?_ | fail); rotate_left 4; exact rfl; (first | exact trivial | exact ⟨rfl, trivial⟩ | exact ⟨rfl, rfl, trivial⟩ | exact ⟨rfl, rfl, rfl, trivial⟩ | exact ⟨rfl, rfl, rfl, rfl, trivial⟩ | exact ⟨rfl, rfl, rfl, rfl, rfl, trivial⟩ | exact ⟨rfl, rfl, rfl, rfl, rfl, rfl, trivial⟩); exact rfl)
    | ((first | with_reducible refine lent_step [] (declare_bad1 ?_ ?_ ?_) ?_ ?_ ?_ ?_ | with_reducible refine lent_step' [] (declare_bad1 ?_ ?_ ?_) ?_ ?_ ?_ ?_ | fail); rotate_left 3; exact rfl; (first | exact trivial | exact ⟨rfl, trivial⟩ | exact ⟨rfl, rfl, trivial⟩ | exact ⟨rfl, rfl, rfl, trivial⟩ | exact ⟨rfl, rfl, rfl, rfl, trivial⟩ | exact ⟨rfl, rfl, rfl, rfl, rfl, trivial⟩ | exact ⟨rfl, rfl, rfl, rfl, rfl, rfl, trivial⟩); exact rfl)
    | ((first | with_reducible refine lent_step [] (declare_bad2 ?_ ?_ ?_ ?_) ?_ ?_ ?_ ?_ | with_reducible refine lent_step' [] (declare_bad2 ?_ ?_ ?_ ?_) ?_ ?_ ?_ ?_ | fail); rotate_left 4; exact rfl; (first | exact trivial | exact ⟨rfl, trivial⟩ | exact ⟨rfl, rfl, trivial⟩ | exact ⟨rfl, rfl, rfl, trivial⟩ | exact ⟨rfl, rfl, rfl, rfl, trivial⟩ | exact ⟨rfl, rfl, rfl, rfl, rfl, trivial⟩ | exact ⟨rfl, rfl, rfl, rfl, rfl, rfl, trivial⟩); exact rfl)
    | (with_reducible refine ChooseI.l _ ?_)
    | ((with_reducible refine nilgs_step ?_ ?_ ?_ ?_ ?_ ?_) <;> exact rfl)
    | ((with_reducible refine tok0_step ?_ ?_ ?_ ?_) <;> exact rfl)
    | ((with_reducible refine kok_step ?_ ?_ ?_); exact rfl; exact rfl)
    | ((with_reducible refine idx_step ?_ ?_ ?_ ?_ ?_); exact rfl; exact rfl; rotate_left; (first | with_reducible exact idx_get ‹_› | fail))
    | ((with_reducible refine len_step ?_ ?_); exact rfl)
    | ((with_reducible refine app_step' ?_ ?_ ?_ ?_ ?_ ?_ ?_); exact rfl; exact rfl; exact rfl; exact rfl)
    | ((with_reducible refine nil_step' ?_ ?_ ?_ ?_); exact rfl; exact rfl)
    | ((with_reducible refine guard_step ?_ ?_ (fun hg => ?_) ?_); exact rfl)
    | ((with_reducible refine val_step ?_ ?_); with_reducible exact rfl; with_reducible exact rfl)
    | ((with_reducible refine same_step ?_ ?_); with_reducible exact rfl)
    | ((with_reducible refine chk_step ?_ ?_); kernel_rfl)
    | ((with_reducible refine ret_step ?_); refine ⟨[], rfl, ?_, trivial⟩; conv => whnf)
    | ((with_reducible refine ret_need ?_ ?_); rotate_left; refine ⟨[], rfl, ?_, trivial⟩; conv => whnf)
    | ((with_reducible refine pan_need ?_ ?_); rotate_left; refine ⟨[], rfl, ?_, trivial⟩; conv => whnf)
    | ((with_reducible refine pan_step ?_); refine ⟨[], rfl, ?_, trivial⟩; conv => whnf)
    | (with_reducible refine And.intro ?_ ?_)
    | ((with_reducible refine gs_eq ?_ ?_ ?_); exact rfl; exact rfl; (first | with_reducible exact map_app | with_reducible exact map_app3 | with_reducible exact map_app4 | exact map_snoc | exact rfl | skip))
    | ((with_reducible refine tok_eq ?_ ?_); exact rfl; (first | with_reducible exact map_app | with_reducible exact map_app3 | with_reducible exact map_app4 | exact map_snoc | exact rfl | skip))
    | ((with_reducible refine ren_guard ?_); refine gs_ren ?_ ?_ ?_; exact rfl; exact rfl; (first | exact rfl | skip))
    | exact @rfl AV _
    | exact @rfl Block _
    | exact @rfl (List AV) _
    | exact ble_le rfl
    | fail)
  all_goals (try simp only [Bool.cond_true_left, Bool.cond_false_right, Bool.cond_false_left, Bool.cond_true_right, Bool.not_eq_true', Bool.not_eq_false', bne, Ex.css_len, List.length_map, Int.toNat_zero] at *)
  all_goals first
    | omega
    | (rfl)
    | (exfalso; simp_all; done)
    | skip
set_option maxHeartbeats 400000 in
theorem Resolve_bad4 (p : Pr) (hF : Nam.formed p = true) (hL : Nam.limited p = true) (hn : ∀ s ∈ p.stmts, Ref15.nodes s.x ≤ 1073741824) (hp : p.Small) (hN : (p.name :: fsts (decl p)).all Nam.nmOk = true) (hU : ¬ uniq (decl p)) : PCall Try.prog 11 [p.d] (.ret (.tuple [Pr.none.d, .i 151])) := by
  refine pcall_of_wc tok hmix ⟨[], []⟩ Try.func11 rfl (by kernel_rfl) (by kernel_rfl) (by kernel_rfl) fun hf => ?_
  clear hf
  repeat' ((try (conv => whnf)) <;> first
    | with_reducible exact trivial
    | with_reducible exact rfl
    | with_reducible refine BrI.tt ?_
    | with_reducible refine BrI.ff ?_
    | with_reducible refine BrI.intro (fun h => ?_) (fun h => ?_)
    | with_reducible refine need_step (formedP_call _) (fun h => ?_) (fun h => ?_)
    | with_reducible refine need_step (limitedP_call _ (by assumption)) (fun h => ?_) (fun h => ?_)
    | with_reducible refine need_step (rangedP_call _ (by assumption)) (fun h => ?_) (fun h => ?_)
    | with_reducible refine need_step (need_call _ _) (fun h => ?_) (fun h => ?_)
    | (exact Bool.noConfusion (hF.symm.trans h))
    | (exact Bool.noConfusion (hL.symm.trans h))
    | ((refine ⟨_, _, _, [(1000000, 2), (1000001, 3)], resolve1_pan (.data (.str [])) (.data (.i 0)) (.data (.i 0)) (.nilsl 3) (.nilsl 3) (.nilsl 4) (.nilsl 2) (.nilsl 8) (.data (.i 0)) 151, rfl, ⟨rfl, rfl, trivial⟩, ?_, ?_⟩); kernel_rfl)
    | (refine ⟨([] : List (Nat × Nat)), rfl, ?_, trivial⟩)
    | ((first | with_reducible refine lent_step [] (declare_bad2 p hp hN hU) ?_ ?_ ?_ ?_ | with_reducible refine lent_step' [] (declare_bad2 p hp hN hU) ?_ ?_ ?_ ?_ | fail); rotate_left 0; exact rfl; (first | exact trivial | exact ⟨rfl, trivial⟩ | exact ⟨rfl, rfl, trivial⟩ | exact ⟨rfl, rfl, rfl, trivial⟩ | exact ⟨rfl, rfl, rfl, rfl, trivial⟩ | exact ⟨rfl, rfl, rfl, rfl, rfl, trivial⟩ | exact ⟨rfl, rfl, rfl, rfl, rfl, rfl, trivial⟩); exact rfl)
    | ((first | with_reducible refine lent_step [(1000000, 800100)] (declare_ok ?_ ?_ ?_ ?_) ?_ ?_ ?_ ?_ | with_reducible refine lent_step' [(1000000, 800100)] (declare_ok ?_ ?_ ?_ ?_) ?_ ?_ ?_ ?_ | fail); rotate_left 4; exact rfl; (first | exact trivial | exact ⟨rfl, trivial⟩ | exact ⟨rfl, rfl, trivial⟩ | exact ⟨rfl, rfl, rfl, trivial⟩ | exact ⟨rfl, rfl, rfl, rfl, trivial⟩ | exact ⟨rfl, rfl, rfl, rfl, rfl, trivial⟩ | exact ⟨rfl, rfl, rfl, rfl, rfl, rfl, trivial⟩); exact rfl)
    | ((first | with_reducible refine lent_step [] (declare_bad1 ?_ ?_ ?_) ?_ ?_ ?_ ?_ | with_reducible refine lent_step' [] (declare_bad1 ?_ ?_ ?_) ?_ ?_ ?_ ?_ | fail); rotate_left 3; exact rfl; (first | exact trivial | exact ⟨rfl, trivial⟩ | exact ⟨rfl, rfl, trivial⟩ | exact ⟨rfl, rfl, rfl, trivial⟩ | exact ⟨rfl, rfl, rfl, rfl, trivial⟩ | exact ⟨rfl, rfl, rfl, rfl, rfl, trivial⟩ | exact ⟨rfl, rfl, rfl, rfl, rfl, rfl, trivial⟩); exact rfl)
    | ((first | with_reducible refine lent_step [] (declare_bad2 ?_ ?_ ?_ ?_) ?_ ?_ ?_ ?_ | with_reducible refine lent_step' [] (declare_bad2 ?_ ?_ ?_ ?_) ?_ ?_ ?_ ?_ | fail); rotate_left 4; exact rfl; (first | exact trivial | exact ⟨rfl, trivial⟩ | exact ⟨rfl, rfl, trivial⟩ | exact ⟨rfl, rfl, rfl, trivial⟩ | exact ⟨rfl, rfl, rfl, rfl, trivial⟩ | exact ⟨rfl, rfl, rfl, rfl, rfl, trivial⟩ | exact ⟨rfl, rfl, rfl, rfl, rfl, rfl, trivial⟩); exact rfl)
    | (with_reducible refine ChooseI.l _ ?_)
    | ((with_reducible refine nilgs_step ?_ ?_ ?_ ?_ ?_ ?_) <;> exact rfl)
    | ((with_reducible refine tok0_step ?_ ?_ ?_ ?_) <;> exact rfl)
    | ((with_reducible refine kok_step ?_ ?_ ?_); exact rfl; exact rfl)
    | ((with_reducible refine idx_step ?_ ?_ ?_ ?_ ?_); exact rfl; exact rfl; rotate_left; (first | with_reducible exact idx_get ‹_› | fail))
    | ((with_reducible refine len_step ?_ ?_); exact rfl)
    | ((with_reducible refine app_step' ?_ ?_ ?_ ?_ ?_ ?_ ?_); exact rfl; exact rfl; exact rfl; exact rfl)
    | ((with_reducible refine nil_step' ?_ ?_ ?_ ?_); exact rfl; exact rfl)
    | ((with_reducible refine guard_step ?_ ?_ (fun hg => ?_) ?_); exact rfl)
    | ((with_reducible refine val_step ?_ ?_); with_reducible exact rfl; with_reducible exact rfl)
    | ((with_reducible refine same_step ?_ ?_); with_reducible exact rfl)
    | ((with_reducible refine chk_step ?_ ?_); kernel_rfl)
    | ((with_reducible refine ret_step ?_); refine ⟨[], rfl, ?_, trivial⟩; conv => whnf)
    | ((with_reducible refine ret_need ?_ ?_); rotate_left; refine ⟨[], rfl, ?_, trivial⟩; conv => whnf)
    | ((with_reducible refine pan_need ?_ ?_); rotate_left; refine ⟨[], rfl, ?_, trivial⟩; conv => whnf)
    | ((with_reducible refine pan_step ?_); refine ⟨[], rfl, ?_, trivial⟩; conv => whnf)
    | (with_reducible refine And.intro ?_ ?_)
    | ((with_reducible refine gs_eq ?_ ?_ ?_); exact rfl; exact rfl; (first | with_reducible exact map_app | with_reducible exact map_app3 | with_reducible exact map_app4 | exact map_snoc | exact rfl | skip))
    | ((with_reducible refine tok_eq ?_ ?_); exact rfl; (first | with_reducible exact map_app | with_reducible exact map_app3 | with_reducible exact map_app4 | exact map_snoc | exact rfl | skip))
    | ((with_reducible refine ren_guard ?_); refine gs_ren ?_ ?_ ?_; exact rfl; exact rfl; (first | exact rfl | skip))
    | exact @rfl AV _
    | exact @rfl Block _
    | exact @rfl (List AV) _
    | exact ble_le rfl
    | fail)
  all_goals (try simp only [Bool.cond_true_left, Bool.cond_false_right, Bool.cond_false_left, Bool.cond_true_right, Bool.not_eq_true', Bool.not_eq_false', bne, Ex.css_len, List.length_map, Int.toNat_zero] at *)
  all_goals first
    | omega
    | (rfl)
    | (exfalso; simp_all; done)
    | skip
set_option maxHeartbeats 400000 in
theorem Resolve_bad5 (p : Pr) (hF : Nam.formed p = true) (hL : Nam.limited p = true) (hn : ∀ s ∈ p.stmts, Ref15.nodes s.x ≤ 1073741824) (hp : p.Small) (hN : (p.name :: fsts (decl p)).all Nam.nmOk = true) (hU : uniq (decl p)) (hR : Nam.ranged p = false) : PCall Try.prog 11 [p.d] (.ret (.tuple [Pr.none.d, .i 161])) := by
  refine pcall_of_wc tok hmix ⟨[], []⟩ Try.func11 rfl (by kernel_rfl) (by kernel_rfl) (by kernel_rfl) fun hf => ?_
  clear hf
  repeat' ((try (conv => whnf)) <;> first
    | with_reducible exact trivial
    | with_reducible exact rfl
    | with_reducible refine BrI.tt ?_
    | with_reducible refine BrI.ff ?_
    | with_reducible refine BrI.intro (fun h => ?_) (fun h => ?_)
    | with_reducible refine need_step (formedP_call _) (fun h => ?_) (fun h => ?_)
    | with_reducible refine need_step (limitedP_call _ (by assumption)) (fun h => ?_) (fun h => ?_)
    | with_reducible refine need_step (rangedP_call _ (by assumption)) (fun h => ?_) (fun h => ?_)
    | with_reducible refine need_step (need_call _ _) (fun h => ?_) (fun h => ?_)
    | (exact Bool.noConfusion (hF.symm.trans h))
    | (exact Bool.noConfusion (hL.symm.trans h))
    | (exact Bool.noConfusion (hR.symm.trans h))
    | ((refine ⟨_, _, _, [(1000000, 2), (1000001, 3)], resolve1_pan (.data (.str [])) (.data (.i 0)) (.data (.i 0)) (.nilsl 3) (.nilsl 3) (.nilsl 4) (.nilsl 2) (.nilsl 8) (.data (.i 0)) 161, rfl, ⟨rfl, rfl, trivial⟩, ?_, ?_⟩); kernel_rfl)
    | (refine ⟨([] : List (Nat × Nat)), rfl, ?_, trivial⟩)
    | ((first | with_reducible refine lent_step [(1000000, 800000)] (declare_ok p hp hN hU) ?_ ?_ ?_ ?_ | with_reducible refine lent_step' [(1000000, 800000)] (declare_ok p hp hN hU) ?_ ?_ ?_ ?_ | fail); rotate_left 0; exact rfl; (first | exact trivial | exact ⟨rfl, trivial⟩ | exact ⟨rfl, rfl, trivial⟩ | exact ⟨rfl, rfl, rfl, trivial⟩ | exact ⟨rfl, rfl, rfl, rfl, trivial⟩ | exact ⟨rfl, rfl, rfl, rfl, rfl, trivial⟩ | exact ⟨rfl, rfl, rfl, rfl, rfl, rfl, trivial⟩); exact rfl)
    | ((first | with_reducible refine lent_step [(1000000, 800100)] (declare_ok ?_ ?_ ?_ ?_) ?_ ?_ ?_ ?_ | with_reducible refine lent_step' [(1000000, 800100)] (declare_ok ?_ ?_ ?_ ?_) ?_ ?_ ?_ ?_ | fail); rotate_left 4; exact rfl; (first | exact trivial | exact ⟨rfl, trivial⟩ | exact ⟨rfl, rfl, trivial⟩ | exact ⟨rfl, rfl, rfl, trivial⟩ | exact ⟨rfl, rfl, rfl, rfl, trivial⟩ | exact ⟨rfl, rfl, rfl, rfl, rfl, trivial⟩ | exact ⟨rfl, rfl, rfl, rfl, rfl, rfl, trivial⟩); exact rfl)
    | ((first | with_reducible refine lent_step [] (declare_bad1 ?_ ?_ ?_) ?_ ?_ ?_ ?_ | with_reducible refine lent_step' [] (declare_bad1 ?_ ?_ ?_) ?_ ?_ ?_ ?_ | fail); rotate_left 3; exact rfl; (first | exact trivial | exact ⟨rfl, trivial⟩ | exact ⟨rfl, rfl, trivial⟩ | exact ⟨rfl, rfl, rfl, trivial⟩ | exact ⟨rfl, rfl, rfl, rfl, trivial⟩ | exact ⟨rfl, rfl, rfl, rfl, rfl, trivial⟩ | exact ⟨rfl, rfl, rfl, rfl, rfl, rfl, trivial⟩); exact rfl)
    | ((first | with_reducible refine lent_step [] (declare_bad2 ?_ ?_ ?_ ?_) ?_ ?_ ?_ ?_ | with_reducible refine lent_step' [] (declare_bad2 ?_ ?_ ?_ ?_) ?_ ?_ ?_ ?_ | fail); rotate_left 4; exact rfl; (first | exact trivial | exact ⟨rfl, trivial⟩ | exact ⟨rfl, rfl, trivial⟩ | exact ⟨rfl, rfl, rfl, trivial⟩ | exact ⟨rfl, rfl, rfl, rfl, trivial⟩ | exact ⟨rfl, rfl, rfl, rfl, rfl, trivial⟩ | exact ⟨rfl, rfl, rfl, rfl, rfl, rfl, trivial⟩); exact rfl)
    | (with_reducible refine ChooseI.l _ ?_)
    | ((with_reducible refine nilgs_step ?_ ?_ ?_ ?_ ?_ ?_) <;> exact rfl)
    | ((with_reducible refine tok0_step ?_ ?_ ?_ ?_) <;> exact rfl)
    | ((with_reducible refine kok_step ?_ ?_ ?_); exact rfl; exact rfl)
    | ((with_reducible refine idx_step ?_ ?_ ?_ ?_ ?_); exact rfl; exact rfl; rotate_left; (first | with_reducible exact idx_get ‹_› | fail))
    | ((with_reducible refine len_step ?_ ?_); exact rfl)
    | ((with_reducible refine app_step' ?_ ?_ ?_ ?_ ?_ ?_ ?_); exact rfl; exact rfl; exact rfl; exact rfl)
    | ((with_reducible refine nil_step' ?_ ?_ ?_ ?_); exact rfl; exact rfl)
    | ((with_reducible refine guard_step ?_ ?_ (fun hg => ?_) ?_); exact rfl)
    | ((with_reducible refine val_step ?_ ?_); with_reducible exact rfl; with_reducible exact rfl)
    | ((with_reducible refine same_step ?_ ?_); with_reducible exact rfl)
    | ((with_reducible refine chk_step ?_ ?_); kernel_rfl)
    | ((with_reducible refine ret_step ?_); refine ⟨[], rfl, ?_, trivial⟩; conv => whnf)
    | ((with_reducible refine ret_need ?_ ?_); rotate_left; refine ⟨[], rfl, ?_, trivial⟩; conv => whnf)
    | ((with_reducible refine pan_need ?_ ?_); rotate_left; refine ⟨[], rfl, ?_, trivial⟩; conv => whnf)
    | ((with_reducible refine pan_step ?_); refine ⟨[], rfl, ?_, trivial⟩; conv => whnf)
    | (with_reducible refine And.intro ?_ ?_)
    | ((with_reducible refine gs_eq ?_ ?_ ?_); exact rfl; exact rfl; (first | with_reducible exact map_app | with_reducible exact map_app3 | with_reducible exact map_app4 | exact map_snoc | exact rfl | skip))
    | ((with_reducible refine tok_eq ?_ ?_); exact rfl; (first | with_reducible exact map_app | with_reducible exact map_app3 | with_reducible exact map_app4 | exact map_snoc | exact rfl | skip))
    | ((with_reducible refine ren_guard ?_); refine gs_ren ?_ ?_ ?_; exact rfl; exact rfl; (first | exact rfl | skip))
    | exact @rfl AV _
    | exact @rfl Block _
    | exact @rfl (List AV) _
    | exact ble_le rfl
    | fail)
  all_goals (try simp only [Bool.cond_true_left, Bool.cond_false_right, Bool.cond_false_left, Bool.cond_true_right, Bool.not_eq_true', Bool.not_eq_false', bne, Ex.css_len, List.length_map, Int.toNat_zero] at *)
  all_goals first
    | omega
    | (rfl)
    | (exfalso; simp_all; done)
    | skip
end Go.Proofs.Ytgilgdfmohmbdaa

