/- Contracts: package lex: what Lex defers. -/
import Derived.Test.YtanmpkhhmjfbnaaDoorZLC
import Derived.Test.YtanmpkhhmjfbnaaDoorZLA
set_option linter.unusedSimpArgs false
set_option linter.unusedVariables false
namespace Go.Proofs.YtanmpkhhmjfbnaaDoor
open Go.Fw Go.Fw.Lx
set_option maxRecDepth 10000
set_option linter.unusedSectionVars false
variable [GlobInt]
theorem lex1_pan (c0 c1 c2 : AV) (v : Int) : DCall Tryd.prog 24 [.ptr 1000000 0, .ptr 1000001 0, .ptr 1000002 0] (some (.iface 42 (.i v))) [(1000000, .cells [c0]), (1000001, .cells [c1]), (1000002, .cells [c2])]
    [(1000000, .cells [.nilsl 4]), (1000001, .cells [.data (.i v)]), (1000002, .cells [.data (.i 30)])] := by
  refine dcall_of_vc tok hmix Tryd.func24 rfl (by kernel_rfl) (by kernel_rfl) (by kernel_rfl) ?_
  repeat' ((try (conv => whnf)) <;> first
    | with_reducible exact trivial
    | with_reducible exact rfl
    | with_reducible refine BrI.tt ?_
    | with_reducible refine BrI.ff ?_
    | ((with_reducible refine chk_step ?_ ?_); kernel_rfl)
    | (refine ⟨([] : List (Nat × Nat)), ?_⟩)
    | (refine ⟨by kernel_rfl, ?_⟩)
    | (refine ⟨rfl, ?_⟩)
    | (refine ⟨?_, ?_⟩)
    | fail)
theorem lex1_ok (d1 d2 : D) (es : List (List D)) : DCall Tryd.prog 24 [.ptr 1000000 0, .ptr 1000001 0, .ptr 1000002 0] none [(1000000, .cells [.gs 1000003 4 es]), (1000001, .cells [.data d1]), (1000002, .cells [.data d2]), (1000003, .tok 4 es.length)]
    [(1000000, .cells [.gs 1000003 4 es]), (1000001, .cells [.data d1]), (1000002, .cells [.data d2]), (1000003, .tok 4 es.length)] := by
  refine dcall_of_vc tok hmix Tryd.func24 rfl (by kernel_rfl) (by kernel_rfl) (by kernel_rfl) ?_
  repeat' ((try (conv => whnf)) <;> first
    | with_reducible exact trivial
    | with_reducible exact rfl
    | with_reducible refine BrI.tt ?_
    | with_reducible refine BrI.ff ?_
    | (refine ⟨([] : List (Nat × Nat)), ?_⟩)
    | (refine ⟨by kernel_rfl, ?_⟩)
    | (refine ⟨rfl, ?_⟩)
    | (refine ⟨?_, ?_⟩)
    | fail)
end Go.Proofs.YtanmpkhhmjfbnaaDoor
namespace Go.Proofs.YtanmpkhhmjfbnaaDoor
open Go.Fw Go.Fw.Lx
set_option maxRecDepth 10000
set_option linter.unusedSectionVars false
variable [GlobInt]
set_option maxHeartbeats 400000 in
theorem lex_long (src : Str) (hL : decide ((src.length : Int) > 65536) = true) : PCall Tryd.prog 12 [.str src] (.ret (.tuple [.sl 4 [], .i 0, .i 2])) := by
  refine pcall_of_wc tok hmix ⟨[], []⟩ Tryd.func12 rfl (by kernel_rfl) (by kernel_rfl) (by kernel_rfl) fun hf => ?_
  clear hf
  repeat' ((try (conv => whnf)) <;> first
    | with_reducible exact trivial
    | with_reducible exact rfl
    | with_reducible refine BrI.tt ?_
    | with_reducible refine BrI.ff ?_
    | with_reducible refine BrI.intro (fun h => ?_) (fun h => ?_)
    | (exact Bool.noConfusion (hL.symm.trans h))
    | ((with_reducible refine call_step ?_ ?_ ?_); rotate_left; (first | exact class_call _ | fail))
    | (with_reducible refine ChooseI.l _ ?_)
    | ((with_reducible refine nilgs_step ?_ ?_ ?_ ?_ ?_ ?_) <;> exact rfl)
    | ((with_reducible refine tok0_step ?_ ?_ ?_ ?_) <;> exact rfl)
    | ((with_reducible refine kok_step ?_ ?_ ?_); exact rfl; exact rfl)
    | ((with_reducible refine idx_step ?_ ?_ ?_ ?_ ?_); exact rfl; exact rfl; rotate_left; (first | with_reducible exact idx_get ‹_› | fail))
    | ((with_reducible refine len_step ?_ ?_); exact rfl)
    | ((with_reducible refine app_step' ?_ ?_ ?_ ?_ ?_ ?_ ?_); exact rfl; exact rfl; exact rfl; exact rfl)
    | ((with_reducible refine nil_step' ?_ ?_ ?_ ?_); exact rfl; exact rfl)
    | ((with_reducible refine guard_step ?_ ?_ (fun hg => ?_) ?_); exact rfl)
    | ((with_reducible refine val_step ?_ ?_); with_reducible exact rfl; with_reducible exact rfl)
    | ((with_reducible refine same_step ?_ ?_); with_reducible exact rfl)
    | ((with_reducible refine chk_step ?_ ?_); kernel_rfl)
    | ((with_reducible refine ret_step ?_); refine ⟨[], rfl, ?_, trivial⟩; conv => whnf)
    | ((with_reducible refine ret_need ?_ ?_); rotate_left; refine ⟨[], rfl, ?_, trivial⟩; conv => whnf)
    | ((with_reducible refine pan_need ?_ ?_); rotate_left; refine ⟨[], rfl, ?_, trivial⟩; conv => whnf)
    | ((with_reducible refine pan_step ?_); refine ⟨[], rfl, ?_, trivial⟩; conv => whnf)
    | (with_reducible refine And.intro ?_ ?_)
    | ((with_reducible refine gs_eq ?_ ?_ ?_); exact rfl; exact rfl; (first | with_reducible exact map_app | with_reducible exact map_app3 | with_reducible exact map_app4 | exact map_snoc | exact rfl | skip))
    | ((with_reducible refine tok_eq ?_ ?_); exact rfl; (first | with_reducible exact map_app | with_reducible exact map_app3 | with_reducible exact map_app4 | exact map_snoc | exact rfl | skip))
    | ((with_reducible refine ren_guard ?_); refine gs_ren ?_ ?_ ?_; exact rfl; exact rfl; (first | exact rfl | skip))
    | exact @rfl AV _
    | exact @rfl Block _
    | exact @rfl (List AV) _
    | exact ble_le rfl
    | fail)
  all_goals first
    | (rfl)
    | skip
set_option maxHeartbeats 4000000 in
theorem lex_short (src : Str) (hL : decide ((src.length : Int) > 65536) = false) : PCall Tryd.prog 12 [.str src] (.ret (lexOut (lexR pStep src 0))) := by
  refine pcall_of_wc tok hmix ⟨[], []⟩ Tryd.func12 rfl (by kernel_rfl) (by kernel_rfl) (by kernel_rfl) fun hf => ?_
  have hs : src.length ≤ 1073741824 := by have := of_decide_eq_false hL; omega
  clear hf
  repeat' ((try (conv => whnf)) <;> first
    | with_reducible exact trivial
    | with_reducible exact rfl
    | with_reducible refine BrI.tt ?_
    | with_reducible refine BrI.ff ?_
    | with_reducible refine BrI.intro (fun h => ?_) (fun h => ?_)
    | (exact Bool.noConfusion (hL.symm.trans h))
    | ((with_reducible refine str_at (lt_src h) ?_))
    | ((with_reducible refine arr_stop ?_); (have hts := hI0.2.1); (have ha := hI0.1); rcases at_place (lt_src h) with ⟨hc, hk, e1⟩ | ⟨hc, hv, hk, e2⟩ | ⟨hc, hv2, e3⟩ | ⟨v, hc, hv, hi, hw, hk, e4⟩ | ⟨v, hc, hv, hi1, e5⟩ | ⟨v, hc, hv, hi, hw1, e6⟩ | ⟨hc, hv3, e7⟩ | ⟨hc, hp, hk, hl, e8⟩ | ⟨hc, hp1, hw, hk, e9⟩ | ⟨hc, e10⟩ | ⟨hc, e11⟩ <;> rw [hc] <;> refine ⟨rfl, ⟨by decide, by decide⟩, ?_⟩)
    | ((refine ⟨_, _, _, [(1000000, 2), (1000001, 3), (1000002, 4)], lex1_pan (.nilsl 4) (.data (.i 0)) (.data (.i 0)) (a : Int), rfl, ⟨rfl, rfl, rfl, trivial⟩, ?_, ?_⟩); kernel_rfl)
    | ((refine ⟨_, _, _, [(1000000, 2), (1000001, 3), (1000002, 4), (1000003, 700003)], lex1_ok (.i 0) (.i 0) (ts.map Tk.cs), rfl, ⟨rfl, rfl, rfl, rfl, trivial⟩, ?_, ?_⟩); kernel_rfl)
    | (refine ⟨([] : List (Nat × Nat)), rfl, ?_, trivial⟩)
    | ((with_reducible refine LoopAt.mk 0 ?_); refine ⟨whileL (fun (q : (Nat) × (List Tk)) => match q with | (a, ts) => []) (fun (q : (Nat) × (List Tk)) => match q with | (a, ts) => [(15, .cells [.data (.str src), .data (.i (a : Int)), .gs 700003 4 (ts.map Tk.cs)]), (700003, .tok 4 (ts.map Tk.cs).length)]) [0, 2, 3, 4, 5, 6, 999999] (fun (q : (Nat) × (List Tk)) => match q with | (a, ts) => a ≤ src.length ∧ ts.length ≤ a ∧ lexR pStep src 0 = fin ts (lexR pStep (src.drop a) a)) (fun (q : (Nat) × (List Tk)) => match q with | (a, ts) => src.length - a), ?_⟩; with_reducible refine whileL_rule ((0), ([])) ?_ ?_ (fun ⟨a, ts⟩ hI0 => ?_))
    | (with_reducible refine whileL_next (?_, ?_) ?_ ?_ ?_)
    | ((with_reducible refine call_step ?_ ?_ ?_); rotate_left; (first | exact class_call _ | fail))
    | ((first | with_reducible refine lent_step [(1000000, 15), (1000001, 700003)] (space_call src a ts ha hs) ?_ ?_ ?_ ?_ | with_reducible refine lent_step' [(1000000, 15), (1000001, 700003)] (space_call src a ts ha hs) ?_ ?_ ?_ ?_ | fail); rotate_left 0; exact rfl; (first | exact trivial | exact ⟨rfl, trivial⟩ | exact ⟨rfl, rfl, trivial⟩ | exact ⟨rfl, rfl, rfl, trivial⟩ | exact ⟨rfl, rfl, rfl, rfl, trivial⟩ | exact ⟨rfl, rfl, rfl, rfl, rfl, trivial⟩ | exact ⟨rfl, rfl, rfl, rfl, rfl, rfl, trivial⟩); exact rfl)
    | ((first | with_reducible refine lent_step [(1000000, 15), (1000001, 700003)] (name_ok src a ts ha hs (by omega) hv) ?_ ?_ ?_ ?_ | with_reducible refine lent_step' [(1000000, 15), (1000001, 700003)] (name_ok src a ts ha hs (by omega) hv) ?_ ?_ ?_ ?_ | fail); rotate_left 0; exact rfl; (first | exact trivial | exact ⟨rfl, trivial⟩ | exact ⟨rfl, rfl, trivial⟩ | exact ⟨rfl, rfl, rfl, trivial⟩ | exact ⟨rfl, rfl, rfl, rfl, trivial⟩ | exact ⟨rfl, rfl, rfl, rfl, rfl, trivial⟩ | exact ⟨rfl, rfl, rfl, rfl, rfl, rfl, trivial⟩); exact rfl)
    | ((first | with_reducible refine lent_step [(1000000, 15), (1000001, 700003)] (name_bad src a ts ha hs hv2) ?_ ?_ ?_ ?_ | with_reducible refine lent_step' [(1000000, 15), (1000001, 700003)] (name_bad src a ts ha hs hv2) ?_ ?_ ?_ ?_ | fail); rotate_left 0; exact rfl; (first | exact trivial | exact ⟨rfl, trivial⟩ | exact ⟨rfl, rfl, trivial⟩ | exact ⟨rfl, rfl, rfl, trivial⟩ | exact ⟨rfl, rfl, rfl, rfl, trivial⟩ | exact ⟨rfl, rfl, rfl, rfl, rfl, trivial⟩ | exact ⟨rfl, rfl, rfl, rfl, rfl, rfl, trivial⟩); exact rfl)
    | ((first | with_reducible refine lent_step [(1000000, 15), (1000001, 700003)] (number_ok src a ts v ha hs (by omega) hv hi hw) ?_ ?_ ?_ ?_ | with_reducible refine lent_step' [(1000000, 15), (1000001, 700003)] (number_ok src a ts v ha hs (by omega) hv hi hw) ?_ ?_ ?_ ?_ | fail); rotate_left 0; exact rfl; (first | exact trivial | exact ⟨rfl, trivial⟩ | exact ⟨rfl, rfl, trivial⟩ | exact ⟨rfl, rfl, rfl, trivial⟩ | exact ⟨rfl, rfl, rfl, rfl, trivial⟩ | exact ⟨rfl, rfl, rfl, rfl, rfl, trivial⟩ | exact ⟨rfl, rfl, rfl, rfl, rfl, rfl, trivial⟩); exact rfl)
    | ((first | with_reducible refine lent_step [(1000000, 15), (1000001, 700003)] (number_bad1 src a ts v ha hs hv hi1) ?_ ?_ ?_ ?_ | with_reducible refine lent_step' [(1000000, 15), (1000001, 700003)] (number_bad1 src a ts v ha hs hv hi1) ?_ ?_ ?_ ?_ | fail); rotate_left 0; exact rfl; (first | exact trivial | exact ⟨rfl, trivial⟩ | exact ⟨rfl, rfl, trivial⟩ | exact ⟨rfl, rfl, rfl, trivial⟩ | exact ⟨rfl, rfl, rfl, rfl, trivial⟩ | exact ⟨rfl, rfl, rfl, rfl, rfl, trivial⟩ | exact ⟨rfl, rfl, rfl, rfl, rfl, rfl, trivial⟩); exact rfl)
    | ((first | with_reducible refine lent_step [(1000000, 15), (1000001, 700003)] (number_bad2 src a ts v ha hs hv hi hw1) ?_ ?_ ?_ ?_ | with_reducible refine lent_step' [(1000000, 15), (1000001, 700003)] (number_bad2 src a ts v ha hs hv hi hw1) ?_ ?_ ?_ ?_ | fail); rotate_left 0; exact rfl; (first | exact trivial | exact ⟨rfl, trivial⟩ | exact ⟨rfl, rfl, trivial⟩ | exact ⟨rfl, rfl, rfl, trivial⟩ | exact ⟨rfl, rfl, rfl, rfl, trivial⟩ | exact ⟨rfl, rfl, rfl, rfl, rfl, trivial⟩ | exact ⟨rfl, rfl, rfl, rfl, rfl, rfl, trivial⟩); exact rfl)
    | ((first | with_reducible refine lent_step [(1000000, 15), (1000001, 700003)] (number_bad3 src a ts ha hs hv3) ?_ ?_ ?_ ?_ | with_reducible refine lent_step' [(1000000, 15), (1000001, 700003)] (number_bad3 src a ts ha hs hv3) ?_ ?_ ?_ ?_ | fail); rotate_left 0; exact rfl; (first | exact trivial | exact ⟨rfl, trivial⟩ | exact ⟨rfl, rfl, trivial⟩ | exact ⟨rfl, rfl, rfl, trivial⟩ | exact ⟨rfl, rfl, rfl, rfl, trivial⟩ | exact ⟨rfl, rfl, rfl, rfl, rfl, trivial⟩ | exact ⟨rfl, rfl, rfl, rfl, rfl, rfl, trivial⟩); exact rfl)
    | ((first | with_reducible refine lent_step [(1000000, 15), (1000001, 700003)] (sign_cmt src a ts ha hs hp) ?_ ?_ ?_ ?_ | with_reducible refine lent_step' [(1000000, 15), (1000001, 700003)] (sign_cmt src a ts ha hs hp) ?_ ?_ ?_ ?_ | fail); rotate_left 0; exact rfl; (first | exact trivial | exact ⟨rfl, trivial⟩ | exact ⟨rfl, rfl, trivial⟩ | exact ⟨rfl, rfl, rfl, trivial⟩ | exact ⟨rfl, rfl, rfl, rfl, trivial⟩ | exact ⟨rfl, rfl, rfl, rfl, rfl, trivial⟩ | exact ⟨rfl, rfl, rfl, rfl, rfl, rfl, trivial⟩); exact rfl)
    | ((first | with_reducible refine lent_step [(1000000, 15), (1000001, 700003)] (sign_ok src a ts ha hs (by omega) (lt_src (by assumption)) hp1 hw) ?_ ?_ ?_ ?_ | with_reducible refine lent_step' [(1000000, 15), (1000001, 700003)] (sign_ok src a ts ha hs (by omega) (lt_src (by assumption)) hp1 hw) ?_ ?_ ?_ ?_ | fail); rotate_left 0; exact rfl; (first | exact trivial | exact ⟨rfl, trivial⟩ | exact ⟨rfl, rfl, trivial⟩ | exact ⟨rfl, rfl, rfl, trivial⟩ | exact ⟨rfl, rfl, rfl, rfl, trivial⟩ | exact ⟨rfl, rfl, rfl, rfl, rfl, trivial⟩ | exact ⟨rfl, rfl, rfl, rfl, rfl, rfl, trivial⟩); exact rfl)
    | ((first | with_reducible refine lent_step [(1000000, 15), (1000001, 700003)] (wrong_call src a ts) ?_ ?_ ?_ ?_ | with_reducible refine lent_step' [(1000000, 15), (1000001, 700003)] (wrong_call src a ts) ?_ ?_ ?_ ?_ | fail); rotate_left 0; exact rfl; (first | exact trivial | exact ⟨rfl, trivial⟩ | exact ⟨rfl, rfl, trivial⟩ | exact ⟨rfl, rfl, rfl, trivial⟩ | exact ⟨rfl, rfl, rfl, rfl, trivial⟩ | exact ⟨rfl, rfl, rfl, rfl, rfl, trivial⟩ | exact ⟨rfl, rfl, rfl, rfl, rfl, rfl, trivial⟩); exact rfl)
    | (with_reducible refine ChooseI.l _ ?_)
    | ((with_reducible refine nilgs_step ?_ ?_ ?_ ?_ ?_ ?_) <;> exact rfl)
    | ((with_reducible refine tok0_step ?_ ?_ ?_ ?_) <;> exact rfl)
    | ((with_reducible refine kok_step ?_ ?_ ?_); exact rfl; exact rfl)
    | ((with_reducible refine idx_step ?_ ?_ ?_ ?_ ?_); exact rfl; exact rfl; rotate_left; (first | with_reducible exact idx_get ‹_› | fail))
    | ((with_reducible refine len_step ?_ ?_); exact rfl)
    | ((with_reducible refine app_step' ?_ ?_ ?_ ?_ ?_ ?_ ?_); exact rfl; exact rfl; exact rfl; exact rfl)
    | ((with_reducible refine nil_step' ?_ ?_ ?_ ?_); exact rfl; exact rfl)
    | ((with_reducible refine guard_step ?_ ?_ (fun hg => ?_) ?_); exact rfl)
    | ((with_reducible refine val_step ?_ ?_); with_reducible exact rfl; with_reducible exact rfl)
    | ((with_reducible refine same_step ?_ ?_); with_reducible exact rfl)
    | ((with_reducible refine chk_step ?_ ?_); kernel_rfl)
    | ((with_reducible refine ret_step ?_); refine ⟨[], rfl, ?_, trivial⟩; conv => whnf)
    | ((with_reducible refine ret_need ?_ ?_); rotate_left; refine ⟨[], rfl, ?_, trivial⟩; conv => whnf)
    | ((with_reducible refine pan_need ?_ ?_); rotate_left; refine ⟨[], rfl, ?_, trivial⟩; conv => whnf)
    | ((with_reducible refine pan_step ?_); refine ⟨[], rfl, ?_, trivial⟩; conv => whnf)
    | (with_reducible refine And.intro ?_ ?_)
    | ((with_reducible refine gs_eq ?_ ?_ ?_); exact rfl; exact rfl; (first | with_reducible exact map_app | with_reducible exact map_app3 | with_reducible exact map_app4 | exact map_snoc | exact rfl | skip))
    | ((with_reducible refine tok_eq ?_ ?_); exact rfl; (first | with_reducible exact map_app | with_reducible exact map_app3 | with_reducible exact map_app4 | exact map_snoc | exact rfl | skip))
    | ((with_reducible refine ren_guard ?_); refine gs_ren ?_ ?_ ?_; exact rfl; exact rfl; (first | exact rfl | skip))
    | exact @rfl AV _
    | exact @rfl Block _
    | exact @rfl (List AV) _
    | exact ble_le rfl
    | fail)
  all_goals first
    | (rfl)
    | ((exact Nat.zero_le _))
    | ((exact Nat.le_refl _))
    | ((rw [fin_nil]; rfl))
    | ((exact twAt_in (p := fun c => has _ (cls c)) ha))
    | ((exact hl))
    | ((rw [hk]; exact lt_src (by assumption)))
    | ((simp only [List.length_append, List.length_cons, List.length_nil]; omega))
    | (omega)
    | ((show src.length - (a + _) < src.length - a; have := lt_src (by assumption); omega))
    | ((rw [hI0.2.2, e1]; done))
    | ((rw [hI0.2.2, e8]; done))
    | ((rw [hI0.2.2, e2, fin_cons]; done))
    | ((rw [hI0.2.2, e4, fin_cons]; done))
    | ((rw [hI0.2.2, e9, fin_cons]; done))
    | (((conv => whnf); (refine congrArg AV.data ?_); first | exact out_end hI0 (by assumption) | exact out_err hI0 e3 | exact out_err hI0 e5 | exact out_err hI0 e6 | exact out_err hI0 e7 | exact out_err hI0 e10 | exact out_err hI0 e11))
    | (((conv => whnf); first | exact out_end hI0 (by assumption) | exact out_err hI0 e3 | exact out_err hI0 e5 | exact out_err hI0 e6 | exact out_err hI0 e7 | exact out_err hI0 e10 | exact out_err hI0 e11))
    | skip
end Go.Proofs.YtanmpkhhmjfbnaaDoor

namespace Go.Proofs.YtanmpkhhmjfbnaaDoor
open Go.Fw Go.Fw.Lx
set_option maxRecDepth 10000
set_option linter.unusedSectionVars false
variable [GlobInt]
set_option maxHeartbeats 400000 in
theorem sameT_call (x y : Tk)  : PCall Tryd.prog 42 [x.d, y.d] (.ret (.b (sameT x y))) := by
  refine pcall_of_wc tok hmix ⟨[], []⟩ Tryd.func42 rfl (by kernel_rfl) (by kernel_rfl) (by kernel_rfl) fun hf => ?_
  clear hf
  repeat' ((try (conv => whnf)) <;> first
    | with_reducible exact trivial
    | with_reducible exact rfl
    | with_reducible refine BrI.tt ?_
    | with_reducible refine BrI.ff ?_
    | with_reducible refine BrI.intro (fun h => ?_) (fun h => ?_)
    | (with_reducible refine ChooseI.l _ ?_)
    | ((with_reducible refine nilgs_step ?_ ?_ ?_ ?_ ?_ ?_) <;> exact rfl)
    | ((with_reducible refine tok0_step ?_ ?_ ?_ ?_) <;> exact rfl)
    | ((with_reducible refine kok_step ?_ ?_ ?_); exact rfl; exact rfl)
    | ((with_reducible refine idx_step ?_ ?_ ?_ ?_ ?_); exact rfl; exact rfl; rotate_left; (first | with_reducible exact idx_get ‹_› | fail))
    | ((with_reducible refine len_step ?_ ?_); exact rfl)
    | ((with_reducible refine app_step' ?_ ?_ ?_ ?_ ?_ ?_ ?_); exact rfl; exact rfl; exact rfl; exact rfl)
    | ((with_reducible refine nil_step' ?_ ?_ ?_ ?_); exact rfl; exact rfl)
    | ((with_reducible refine guard_step ?_ ?_ (fun hg => ?_) ?_); exact rfl)
    | ((with_reducible refine val_step ?_ ?_); with_reducible exact rfl; with_reducible exact rfl)
    | ((with_reducible refine same_step ?_ ?_); with_reducible exact rfl)
    | ((with_reducible refine chk_step ?_ ?_); kernel_rfl)
    | ((with_reducible refine ret_step ?_); refine ⟨[], rfl, ?_, trivial⟩; conv => whnf)
    | ((with_reducible refine ret_need ?_ ?_); rotate_left; refine ⟨[], rfl, ?_, trivial⟩; conv => whnf)
    | ((with_reducible refine pan_need ?_ ?_); rotate_left; refine ⟨[], rfl, ?_, trivial⟩; conv => whnf)
    | ((with_reducible refine pan_step ?_); refine ⟨[], rfl, ?_, trivial⟩; conv => whnf)
    | (with_reducible refine And.intro ?_ ?_)
    | ((with_reducible refine gs_eq ?_ ?_ ?_); exact rfl; exact rfl; (first | with_reducible exact map_app | with_reducible exact map_app3 | with_reducible exact map_app4 | exact map_snoc | exact rfl | skip))
    | ((with_reducible refine tok_eq ?_ ?_); exact rfl; (first | with_reducible exact map_app | with_reducible exact map_app3 | with_reducible exact map_app4 | exact map_snoc | exact rfl | skip))
    | ((with_reducible refine ren_guard ?_); refine gs_ren ?_ ?_ ?_; exact rfl; exact rfl; (first | exact rfl | skip))
    | exact @rfl AV _
    | exact @rfl Block _
    | exact @rfl (List AV) _
    | exact ble_le rfl
    | fail)
  all_goals (try simp only [Bool.cond_true_left, Bool.cond_false_right, Bool.cond_false_left, Bool.cond_true_right, Bool.not_eq_true', Bool.not_eq_false', bne, Ex.css_len, List.length_map, Int.toNat_zero] at *)
  all_goals first
    | omega
    | ((simp only [sameT, Bool.cond_false_right]; done))
    | (exfalso; simp_all; done)
    | skip
set_option maxHeartbeats 400000 in
theorem eqf_call (a b : List Tk)  : PCall Tryd.prog 41 [toks a, toks b, .fn 42 []] (.ret (.b (sameM a b))) := by
  refine pcall_of_wc tok hmix ⟨[], []⟩ Tryd.func41 rfl (by kernel_rfl) (by kernel_rfl) (by kernel_rfl) fun hf => ?_
  have hlen : a.length ≤ 9223372036854775807 := by simpa using (hf (toks a) (by simp)).sl.1
  clear hf
  repeat' ((try (conv => whnf)) <;> first
    | with_reducible exact trivial
    | with_reducible exact rfl
    | with_reducible exact idx_next hd0 ‹_›
    | with_reducible refine BrI.tt ?_
    | with_reducible refine BrI.ff ?_
    | with_reducible refine br_nil hd0 ?_
    | with_reducible refine br_cons hd0 ?_
    | ((with_reducible refine br_nil_k hd0 ?_ ?_); (first | exact rfl | assumption | fail))
    | ((with_reducible refine br_cons_k hd0 ?_ ?_); (first | exact rfl | assumption | fail))
    | with_reducible refine br_nil_and hd0 ?_
    | with_reducible refine br_cons_and hd0 ?_
    | with_reducible refine br_nil_e hd0 ?_
    | with_reducible refine br_cons_e hd0 ?_
    | with_reducible refine BrI.intro (fun h => ?_) (fun h => ?_)
    | ((with_reducible refine LoopAt.mk 0 ?_); have hz : a.length = b.length := (by simp at h; omega); have hk0 : (a.zip b).length = (a.map Tk.cs).length := (by rw [zip_len hz, List.length_map]); have hlz : (a.zip b).length ≤ 9223372036854775807 := (by rw [zip_len hz]; exact hlen); refine ⟨rangeL (a.zip b) 17 (fun (_ : Unit) => []) (fun (_ : Unit) => []) [1, 2, 15, 16] (fun i0 r0 _ => sameM a b = r0.all fun q => sameT q.1 q.2), ?_⟩; with_reducible refine rangeL_rule () ?_ ?_ (fun i0 (_ : Unit) hd0 hI0 => ?_) (fun i0 x0 r0 (_ : Unit) hd0 hl0 hI0 => ?_))
    | (with_reducible refine rangeL_next hd0 () ?_ ?_)
    | ((with_reducible refine call_step ?_ ?_ ?_); rotate_left; (first | exact sameT_call x0.1 x0.2 | fail))
    | with_reducible refine str_idx hd0 ?_
    | (with_reducible refine ChooseI.l _ ?_)
    | ((with_reducible refine nilgs_step ?_ ?_ ?_ ?_ ?_ ?_) <;> exact rfl)
    | ((with_reducible refine tok0_step ?_ ?_ ?_ ?_) <;> exact rfl)
    | ((with_reducible refine kok_step ?_ ?_ ?_); exact rfl; exact rfl)
    | ((with_reducible refine idx_step ?_ ?_ ?_ ?_ ?_); exact rfl; exact rfl; rotate_left; (first | with_reducible exact idx_get ‹_› | with_reducible exact idx_drop hd0 | with_reducible exact idx_take hd0 | with_reducible exact idx_zip1 hd0 | with_reducible exact idx_zip2 hd0 | with_reducible exact idx_zip1e hd0 | with_reducible exact idx_zip2e hd0 | with_reducible exact idx_drop_e hd0 | fail))
    | ((with_reducible refine len_step ?_ ?_); exact rfl)
    | ((with_reducible refine app_step' ?_ ?_ ?_ ?_ ?_ ?_ ?_); exact rfl; exact rfl; exact rfl; exact rfl)
    | ((with_reducible refine nil_step' ?_ ?_ ?_ ?_); exact rfl; exact rfl)
    | ((with_reducible refine guard_step ?_ ?_ (fun hg => ?_) ?_); exact rfl)
    | ((with_reducible refine val_step ?_ ?_); with_reducible exact rfl; with_reducible exact rfl)
    | ((with_reducible refine same_step ?_ ?_); with_reducible exact rfl)
    | ((with_reducible refine chk_step ?_ ?_); kernel_rfl)
    | ((with_reducible refine ret_step ?_); refine ⟨[], rfl, ?_, trivial⟩; conv => whnf)
    | ((with_reducible refine ret_need ?_ ?_); rotate_left; refine ⟨[], rfl, ?_, trivial⟩; conv => whnf)
    | ((with_reducible refine pan_need ?_ ?_); rotate_left; refine ⟨[], rfl, ?_, trivial⟩; conv => whnf)
    | ((with_reducible refine pan_step ?_); refine ⟨[], rfl, ?_, trivial⟩; conv => whnf)
    | (with_reducible refine And.intro ?_ ?_)
    | ((with_reducible refine gs_eq ?_ ?_ ?_); exact rfl; exact rfl; (first | with_reducible exact map_app | with_reducible exact map_app3 | with_reducible exact map_app4 | exact map_snoc | exact rfl | skip))
    | ((with_reducible refine tok_eq ?_ ?_); exact rfl; (first | with_reducible exact map_app | with_reducible exact map_app3 | with_reducible exact map_app4 | exact map_snoc | exact rfl | skip))
    | ((with_reducible refine ren_guard ?_); refine gs_ren ?_ ?_ ?_; exact rfl; exact rfl; (first | exact rfl | skip))
    | exact @rfl AV _
    | exact @rfl Block _
    | exact @rfl (List AV) _
    | exact ble_le rfl
    | fail)
  all_goals (try simp only [Bool.cond_true_left, Bool.cond_false_right, Bool.cond_false_left, Bool.cond_true_right, Bool.not_eq_true', Bool.not_eq_false', bne, Ex.css_len, List.length_map, Int.toNat_zero] at *)
  all_goals first
    | (rw [hI0]; (try simp only [List.all_cons, Bool.not_true, Bool.not_false, Bool.and_true, Bool.true_and, Bool.and_false, Bool.false_and, Bool.or_true, Bool.true_or, Bool.or_false, Bool.false_or, if_true, if_false, reduceIte, Bool.false_eq_true, Bool.not_not, Bool.not_eq_true', beq_self_eq_true, List.all_cons, List.all_nil, List.any_cons, List.any_nil, List.length_map, bne, eq_self, Int.toNat_zero, *]); first | done | rfl)
    | (rw [hI0.1]; (try simp only [List.all_cons, Bool.not_true, Bool.not_false, Bool.and_true, Bool.true_and, Bool.and_false, Bool.false_and, Bool.or_true, Bool.true_or, Bool.or_false, Bool.false_or, if_true, if_false, reduceIte, Bool.false_eq_true, Bool.not_not, Bool.not_eq_true', beq_self_eq_true, List.all_cons, List.all_nil, List.any_cons, List.any_nil, List.length_map, bne, eq_self, Int.toNat_zero, *]); first | done | rfl)
    | (simp only [List.all_cons, Bool.not_true, Bool.not_false, Bool.and_true, Bool.true_and, Bool.and_false, Bool.false_and, Bool.or_true, Bool.true_or, Bool.or_false, Bool.false_or, if_true, if_false, reduceIte, Bool.false_eq_true, Bool.not_not, Bool.not_eq_true', beq_self_eq_true, List.all_cons, List.all_nil, List.any_cons, List.any_nil, List.length_map, bne, eq_self, Int.toNat_zero, *]; done)
    | omega
    | ((simp only [sameM, bne, h, Bool.false_eq_true, if_false, if_true]; done))
    | ((simp_all [sameM]; done))
    | (exfalso; simp_all; done)
    | skip
set_option maxHeartbeats 400000 in
theorem same_call (a b : List Tk)  : PCall Tryd.prog 18 [toks a, toks b] (.ret (.b (sameM a b))) := by
  refine pcall_of_wc tok hmix ⟨[], []⟩ Tryd.func18 rfl (by kernel_rfl) (by kernel_rfl) (by kernel_rfl) fun hf => ?_
  clear hf
  repeat' ((try (conv => whnf)) <;> first
    | with_reducible exact trivial
    | with_reducible exact rfl
    | with_reducible refine BrI.tt ?_
    | with_reducible refine BrI.ff ?_
    | with_reducible refine BrI.intro (fun h => ?_) (fun h => ?_)
    | ((with_reducible refine call_step ?_ ?_ ?_); rotate_left; (first | exact eqf_call _ _ | exact sameT_call _ _ | fail))
    | (with_reducible refine ChooseI.l _ ?_)
    | ((with_reducible refine nilgs_step ?_ ?_ ?_ ?_ ?_ ?_) <;> exact rfl)
    | ((with_reducible refine tok0_step ?_ ?_ ?_ ?_) <;> exact rfl)
    | ((with_reducible refine kok_step ?_ ?_ ?_); exact rfl; exact rfl)
    | ((with_reducible refine idx_step ?_ ?_ ?_ ?_ ?_); exact rfl; exact rfl; rotate_left; (first | with_reducible exact idx_get ‹_› | fail))
    | ((with_reducible refine len_step ?_ ?_); exact rfl)
    | ((with_reducible refine app_step' ?_ ?_ ?_ ?_ ?_ ?_ ?_); exact rfl; exact rfl; exact rfl; exact rfl)
    | ((with_reducible refine nil_step' ?_ ?_ ?_ ?_); exact rfl; exact rfl)
    | ((with_reducible refine guard_step ?_ ?_ (fun hg => ?_) ?_); exact rfl)
    | ((with_reducible refine val_step ?_ ?_); with_reducible exact rfl; with_reducible exact rfl)
    | ((with_reducible refine same_step ?_ ?_); with_reducible exact rfl)
    | ((with_reducible refine chk_step ?_ ?_); kernel_rfl)
    | ((with_reducible refine ret_step ?_); refine ⟨[], rfl, ?_, trivial⟩; conv => whnf)
    | ((with_reducible refine ret_need ?_ ?_); rotate_left; refine ⟨[], rfl, ?_, trivial⟩; conv => whnf)
    | ((with_reducible refine pan_need ?_ ?_); rotate_left; refine ⟨[], rfl, ?_, trivial⟩; conv => whnf)
    | ((with_reducible refine pan_step ?_); refine ⟨[], rfl, ?_, trivial⟩; conv => whnf)
    | (with_reducible refine And.intro ?_ ?_)
    | ((with_reducible refine gs_eq ?_ ?_ ?_); exact rfl; exact rfl; (first | with_reducible exact map_app | with_reducible exact map_app3 | with_reducible exact map_app4 | exact map_snoc | exact rfl | skip))
    | ((with_reducible refine tok_eq ?_ ?_); exact rfl; (first | with_reducible exact map_app | with_reducible exact map_app3 | with_reducible exact map_app4 | exact map_snoc | exact rfl | skip))
    | ((with_reducible refine ren_guard ?_); refine gs_ren ?_ ?_ ?_; exact rfl; exact rfl; (first | exact rfl | skip))
    | exact @rfl AV _
    | exact @rfl Block _
    | exact @rfl (List AV) _
    | exact ble_le rfl
    | fail)
set_option maxHeartbeats 400000 in
theorem text_call (l : List Tk) (hl : l.length ≤ 1073741824) (hj : (Lib.join (l.map word) [32]).length ≤ 140737488355328) : PCall Tryd.prog 16 [toks l] (.ret (textM l)) := by
  refine pcall_of_wc tok hmix ⟨[11], []⟩ Tryd.func16 rfl (by kernel_rfl) (by kernel_rfl) (by kernel_rfl) fun hf => ?_
  have hlen : l.length ≤ 9223372036854775807 := by omega
  clear hf
  repeat' ((try (conv => whnf)) <;> first
    | (with_reducible refine ChooseI.r 9 ?_)
    | with_reducible exact trivial
    | with_reducible exact rfl
    | with_reducible exact idx_next hd0 ‹_›
    | with_reducible refine BrI.tt ?_
    | with_reducible refine BrI.ff ?_
    | with_reducible refine br_nil hd0 ?_
    | with_reducible refine br_cons hd0 ?_
    | ((with_reducible refine br_nil_k hd0 ?_ ?_); (first | exact rfl | assumption | fail))
    | ((with_reducible refine br_cons_k hd0 ?_ ?_); (first | exact rfl | assumption | fail))
    | with_reducible refine br_nil_and hd0 ?_
    | with_reducible refine br_cons_and hd0 ?_
    | with_reducible refine br_nil_e hd0 ?_
    | with_reducible refine br_cons_e hd0 ?_
    | with_reducible refine BrI.intro (fun h => ?_) (fun h => ?_)
    | ((with_reducible refine mk_step ?_ ?_ ?_ ?_ ?_); exact Int.natCast_nonneg _; exact Int.le_refl _; exact rfl; (rw [List.length_map]; omega))
    | ((with_reducible refine own_idx_step ?_ ?_ ?_ ?_ ?_); exact rfl; exact rfl; exact rfl)
    | ((with_reducible refine own_store_step ?_ ?_ ?_ ?_ ?_ ?_ ?_ ?_ ?_); exact rfl; exact rfl; exact rfl; exact rfl; exact ble_le rfl; exact rfl; rotate_left; exact word_idx ⟨hI0.1, hI0.2.1⟩)
    | ((with_reducible refine freeze_step ?_ ?_ ?_ ?_ ?_ ?_ ?_); exact rfl; exact rfl; exact rfl; exact rfl; exact rfl)
    | ((with_reducible refine LoopAt.mk 11 ?_); refine ⟨⟨Unit, fun _ => [(4, .data (.sl 1 ((l.map word).map strC)))], fun _ => [], [], fun _ => l.all valid = true, fun _ => 0⟩, ?_, fun _ hA => ?_⟩)
    | (refine ⟨(), ?_, ?_⟩)
    | ((with_reducible refine LoopAt.mk 0 ?_); refine ⟨rangeL (l) 12 (fun (q : (List Str) × (List Tk)) => match q with | (ws, rs) => [(4, .own 9 0 1 0 (((l.map Tk.cs).length : Int)).toNat)]) (fun (q : (List Str) × (List Tk)) => match q with | (ws, rs) => [(9, .arr 0 1 (ws.map strC ++ rs.map blankC))]) [4, 10, 11] (fun i0 r0 q => match q with | (ws, rs) => rs = r0 ∧ ws.length = i0 ∧ l.all valid = r0.all valid ∧ ws ++ r0.map word = l.map word), ?_⟩; with_reducible refine rangeL_rule (([]), (l)) ?_ ?_ (fun i0 ⟨ws, rs⟩ hd0 hI0 => ?_) (fun i0 x0 r0 ⟨ws, rs⟩ hd0 hl0 hI0 => ?_))
    | (with_reducible refine rangeL_next hd0 ((ws ++ [word x0]), (r0)) ?_ ?_)
    | ((with_reducible refine call_step ?_ ?_ ?_); rotate_left; (first | exact valid_call _ | exact valid_call x0 | (refine itoa_call _ (valid_num' ?_ ?_).1 (valid_num' ?_ ?_).2 <;> assumption) | exact join_call (l.map word) [32] (by rw [List.length_map]; exact hl) hj | fail))
    | with_reducible refine str_idx hd0 ?_
    | (with_reducible refine ChooseI.l _ ?_)
    | ((with_reducible refine nilgs_step ?_ ?_ ?_ ?_ ?_ ?_) <;> exact rfl)
    | ((with_reducible refine tok0_step ?_ ?_ ?_ ?_) <;> exact rfl)
    | ((with_reducible refine kok_step ?_ ?_ ?_); exact rfl; exact rfl)
    | ((with_reducible refine idx_step ?_ ?_ ?_ ?_ ?_); exact rfl; exact rfl; rotate_left; (first | with_reducible exact idx_get ‹_› | with_reducible exact idx_drop hd0 | with_reducible exact idx_take hd0 | with_reducible exact idx_zip1 hd0 | with_reducible exact idx_zip2 hd0 | with_reducible exact idx_zip1e hd0 | with_reducible exact idx_zip2e hd0 | with_reducible exact idx_drop_e hd0 | fail))
    | ((with_reducible refine len_step ?_ ?_); exact rfl)
    | ((with_reducible refine app_step' ?_ ?_ ?_ ?_ ?_ ?_ ?_); exact rfl; exact rfl; exact rfl; exact rfl)
    | ((with_reducible refine nil_step' ?_ ?_ ?_ ?_); exact rfl; exact rfl)
    | ((with_reducible refine guard_step ?_ ?_ (fun hg => ?_) ?_); exact rfl)
    | ((with_reducible refine val_step ?_ ?_); with_reducible exact rfl; with_reducible exact rfl)
    | ((with_reducible refine same_step ?_ ?_); with_reducible exact rfl)
    | ((with_reducible refine chk_step ?_ ?_); kernel_rfl)
    | ((with_reducible refine ret_step ?_); refine ⟨[], rfl, ?_, trivial⟩; conv => whnf)
    | ((with_reducible refine ret_need ?_ ?_); rotate_left; refine ⟨[], rfl, ?_, trivial⟩; conv => whnf)
    | ((with_reducible refine pan_need ?_ ?_); rotate_left; refine ⟨[], rfl, ?_, trivial⟩; conv => whnf)
    | ((with_reducible refine pan_step ?_); refine ⟨[], rfl, ?_, trivial⟩; conv => whnf)
    | (with_reducible refine And.intro ?_ ?_)
    | ((with_reducible refine gs_eq ?_ ?_ ?_); exact rfl; exact rfl; (first | with_reducible exact map_app | with_reducible exact map_app3 | with_reducible exact map_app4 | exact map_snoc | exact rfl | skip))
    | ((with_reducible refine tok_eq ?_ ?_); exact rfl; (first | with_reducible exact map_app | with_reducible exact map_app3 | with_reducible exact map_app4 | exact map_snoc | exact rfl | skip))
    | ((with_reducible refine ren_guard ?_); refine gs_ren ?_ ?_ ?_; exact rfl; exact rfl; (first | exact rfl | skip))
    | exact @rfl AV _
    | exact @rfl Block _
    | exact @rfl (List AV) _
    | exact ble_le rfl
    | fail)
  all_goals first
    | (rfl)
    | ((rw [textM, if_pos (show l.all valid = true from hA)]; try rfl))
    | ((exact Int.natCast_nonneg _))
    | ((rw [Int.toNat_natCast, List.length_map]; exact Int.ofNat_lt.2 hl0))
    | ((exact hI0.2.2.1))
    | ((exact (word_fin hI0.1 hI0.2.2.2).1))
    | ((exact (word_fin hI0.1 hI0.2.2.2).2))
    | ((exact text_bad hI0.2.2.1 h))
    | (((conv => whnf); exact congrArg (Block.arr 0 1) (blank_init l)))
    | ((refine congrArg (Block.arr 0 1) (word_set' ⟨hI0.1, hI0.2.1⟩ ?_); simp only [word, h, if_true, if_false, Bool.false_eq_true, reduceIte]; done))
    | ((rw [List.length_append, hI0.2.1]; rfl))
    | ((have hv : (!valid x0) = false := (by assumption); rw [hI0.2.2.1, List.all_cons, (by simpa using hv : valid x0 = true), Bool.true_and]))
    | ((rw [← hI0.2.2.2, List.map_cons, List.append_assoc]; rfl))
    | skip
end Go.Proofs.YtanmpkhhmjfbnaaDoor

