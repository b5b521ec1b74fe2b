/- Contracts: the laws of names: what indices mean: the law. -/
import Derived.Test.YtgilgdfmohmbdaaZS14
import Derived.Test.YtgilgdfmohmbdaaZD14
import Derived.Test.YtgilgdfmohmbdaaZP34
set_option linter.unusedSimpArgs false
set_option linter.unusedVariables false
namespace Go.Proofs.Ytgilgdfmohmbdaa
open Go.Fw Go.Fw.Nam Go.Fw.Ref15
set_option maxRecDepth 10000
set_option linter.unusedSectionVars false
variable [GlobInt]
theorem err_none {p : Pr} (h : ((resolveC p).2 != 0) = true) : (resolveC p).1 = Pr.none := by
  by_cases h0 : (resolveC p).2 = 0
  · rw [h0] at h; simp at h
  · unfold resolveC at h0 ⊢
    split
    · rfl
    split
    · rfl
    split
    · rfl
    split
    · rfl
    split
    · rfl
    · rename_i a b c d e
      rw [if_neg a, if_neg b, if_neg c, if_neg d, if_neg e] at h0
      cases hr : runS (decl p) p.stmts 0 [] false with
      | error x => rfl
      | ok t => rw [hr] at h0; exact absurd rfl h0
set_option maxHeartbeats 4000000 in
theorem law2_err (p : Pr) (hp : p.Small) (hn : ∀ s ∈ p.stmts, Ref15.nodes s.x ≤ 1073741824) (hv : ∀ t ∈ p.tables, t.values.length ≤ 1073741824) (he : ((resolveC p).2 != 0) = true) : PCall Try.prog 4 [p.d] (.ret (.b true)) := by
  refine pcall_of_wc tok hmix ⟨[], []⟩ Try.func4 rfl (by kernel_rfl) (by kernel_rfl) (by kernel_rfl) fun hf => ?_
  clear hf
  repeat' ((try (conv => whnf)) <;> first
    | with_reducible exact trivial
    | with_reducible exact rfl
    | with_reducible refine BrI.tt ?_
    | with_reducible refine BrI.ff ?_
    | with_reducible refine BrI.intro (fun h => ?_) (fun h => ?_)
    | (exact Bool.noConfusion (h : false = true))
    | (exact Bool.noConfusion (he.symm.trans h))
    | ((with_reducible refine call_step ?_ ?_ ?_); rotate_left; (first | exact sane_call | exact few_call _ (by assumption) (by assumption) (by assumption) | exact Resolve_bad1 _ (by assumption) | exact Resolve_bad2 _ (by assumption) (by assumption) (by assumption) | exact Resolve_bad3 _ (by assumption) (by assumption) (by assumption) (by assumption) (by assumption) | exact Resolve_bad4 _ (by assumption) (by assumption) (by assumption) (by assumption) (by assumption) (by assumption) | exact Resolve_bad5 _ (by assumption) (by assumption) (by assumption) (by assumption) (by assumption) (by assumption) (by assumption) | exact Resolve_run _ (by assumption) (by assumption) (by assumption) (by assumption) (by assumption) (by assumption) (by assumption) | exact same_call _ _ | exact sameDecls_call _ _ | exact bare_call _ _ | exact means_call _ _ _ (by assumption) (by assumption) | exact resolve_call p hp hn | exact few_call p hp hn hv | exact same_call (resolveC p).1 Pr.none | fail))
    | ((with_reducible refine nilgs_step ?_ ?_ ?_ ?_ ?_ ?_) <;> exact rfl)
    | ((with_reducible refine tok0_step ?_ ?_ ?_ ?_) <;> exact rfl)
    | ((with_reducible refine kok_step ?_ ?_ ?_); exact rfl; exact rfl)
    | ((with_reducible refine idx_step ?_ ?_ ?_ ?_ ?_); exact rfl; exact rfl; rotate_left; (first | with_reducible exact idx_get ‹_› | fail))
    | ((with_reducible refine len_step ?_ ?_); exact rfl)
    | ((with_reducible refine app_step' ?_ ?_ ?_ ?_ ?_ ?_ ?_); exact rfl; exact rfl; exact rfl; exact rfl)
    | ((with_reducible refine nil_step' ?_ ?_ ?_ ?_); exact rfl; exact rfl)
    | ((with_reducible refine guard_step ?_ ?_ (fun hg => ?_) ?_); exact rfl)
    | ((with_reducible refine val_step ?_ ?_); with_reducible exact rfl; with_reducible exact rfl)
    | ((with_reducible refine same_step ?_ ?_); with_reducible exact rfl)
    | ((with_reducible refine chk_step ?_ ?_); kernel_rfl)
    | ((with_reducible refine ret_step ?_); refine ⟨[], rfl, ?_, trivial⟩; conv => whnf)
    | ((with_reducible refine ret_need ?_ ?_); rotate_left; refine ⟨[], rfl, ?_, trivial⟩; conv => whnf)
    | ((with_reducible refine pan_need ?_ ?_); rotate_left; refine ⟨[], rfl, ?_, trivial⟩; conv => whnf)
    | ((with_reducible refine pan_step ?_); refine ⟨[], rfl, ?_, trivial⟩; conv => whnf)
    | (with_reducible refine And.intro ?_ ?_)
    | ((with_reducible refine gs_eq ?_ ?_ ?_); exact rfl; exact rfl; (first | with_reducible exact map_app | with_reducible exact map_app3 | with_reducible exact map_app4 | exact map_snoc | exact rfl | skip))
    | ((with_reducible refine tok_eq ?_ ?_); exact rfl; (first | with_reducible exact map_app | with_reducible exact map_app3 | with_reducible exact map_app4 | exact map_snoc | exact rfl | skip))
    | ((with_reducible refine ren_guard ?_); refine gs_ren ?_ ?_ ?_; exact rfl; exact rfl; (first | exact rfl | skip))
    | exact @rfl AV _
    | exact @rfl Block _
    | exact @rfl (List AV) _
    | exact ble_le rfl
    | fail)
  all_goals first
    | (rfl)
    | ((rw [err_none he, same_refl]; done))
    | skip
set_option maxHeartbeats 8000000 in
theorem law2_ok (p : Pr) (hp : p.Small) (hn : ∀ s ∈ p.stmts, Ref15.nodes s.x ≤ 1073741824) (hv : ∀ t ∈ p.tables, t.values.length ≤ 1073741824) (he : (resolveC p).2 = 0) (hF : Facts p) : PCall Try.prog 4 [p.d] (.ret (.b true)) := by
  have hx : (resolveC p).1 = xr p := (resolved_form he).2.2.2.2.2.2
  have c1 : PCall Try.prog 11 [p.d] (.ret (.tuple [xD p, .i 0])) := by have := resolve_call p hp hn; rw [hx, he, xD_eq] at this; exact this
  have c2 : PCall Try.prog 14 [xD p, p.d] (.ret (.b true)) := by have := sameDecls_call (xr p) p; rw [xD_eq, show SameDecls (xr p) p = true from decls_refl p] at this; exact this
  have c3 : ∀ s ∈ p.stmts, PCall Try.prog 15 [(vis (decl p) s.x).d, s.x.d] (.ret (.b true)) := fun s hs => by have := bare_call (vis (decl p) s.x) s.x; rw [hF.bare s hs] at this; exact this
  have c4 : ∀ (i : Nat) s, p.stmts[i]? = some s → PCall Try.prog 16 [xD p, (vis (decl p) s.x).d, .i (i : Int)] (.ret (.b true)) := fun i s hs => by have := means_call (xr p) (vis (decl p) s.x) i (by have := (List.getElem?_eq_some_iff.1 hs).1; simp only [xr, List.length_map]; omega); rw [hF.means i s hs, xD_eq] at this; exact this
  refine pcall_of_wc tok hmix ⟨[], []⟩ Try.func4 rfl (by kernel_rfl) (by kernel_rfl) (by kernel_rfl) fun hf => ?_
  have hlen := (Pr.fits (hf p.d (by simp))).stmts
  have hps := hp.stmts
  clear hf
  repeat' ((try (conv => whnf)) <;> first
    | with_reducible refine br_nil hd0 ?_
    | with_reducible refine br_cons hd0 ?_
    | with_reducible exact trivial
    | with_reducible exact rfl
    | with_reducible exact idx_next hd0 ‹_›
    | with_reducible refine BrI.tt ?_
    | with_reducible refine BrI.ff ?_
    | with_reducible refine br_nil hd0 ?_
    | with_reducible refine br_cons hd0 ?_
    | ((with_reducible refine br_nil_k hd0 ?_ ?_); (first | exact rfl | assumption | fail))
    | ((with_reducible refine br_cons_k hd0 ?_ ?_); (first | exact rfl | assumption | fail))
    | with_reducible refine br_nil_and hd0 ?_
    | with_reducible refine br_cons_and hd0 ?_
    | with_reducible refine br_nil_e hd0 ?_
    | with_reducible refine br_cons_e hd0 ?_
    | with_reducible refine BrI.intro (fun h => ?_) (fun h => ?_)
    | (exact Bool.noConfusion (h : false = true))
    | ((with_reducible refine idx_step ?_ ?_ ?_ ?_ ?_); exact rfl; exact rfl; rotate_left; refine idx_or bd0 hg)
    | ((with_reducible refine idx_step ?_ ?_ ?_ ?_ ?_); exact rfl; exact rfl; rotate_left; refine idx_or ln0 hg)
    | ((with_reducible refine idx_step ?_ ?_ ?_ ?_ ?_); exact rfl; exact rfl; rotate_left; refine idx_last sm0 hps hg)
    | ((with_reducible refine LoopAt.mk 0 ?_); refine ⟨rangeL (p.stmts) 39 (fun (_ : Unit) => []) (fun (_ : Unit) => []) [1, 3, 37, 38] (fun i0 r0 _ => True), ?_⟩; with_reducible refine rangeL_rule () ?_ ?_ (fun i0 (_ : Unit) hd0 hI0 => ?_) (fun i0 x0 r0 (_ : Unit) hd0 hl0 hI0 => ?_))
    | (with_reducible refine rangeL_next hd0 () ?_ ?_)
    | ((with_reducible refine call_step ?_ ?_ ?_); rotate_left; (first | exact sane_call | exact few_call _ (by assumption) (by assumption) (by assumption) | exact Resolve_bad1 _ (by assumption) | exact Resolve_bad2 _ (by assumption) (by assumption) (by assumption) | exact Resolve_bad3 _ (by assumption) (by assumption) (by assumption) (by assumption) (by assumption) | exact Resolve_bad4 _ (by assumption) (by assumption) (by assumption) (by assumption) (by assumption) (by assumption) | exact Resolve_bad5 _ (by assumption) (by assumption) (by assumption) (by assumption) (by assumption) (by assumption) (by assumption) | exact Resolve_run _ (by assumption) (by assumption) (by assumption) (by assumption) (by assumption) (by assumption) (by assumption) | exact same_call _ _ | exact sameDecls_call _ _ | exact bare_call _ _ | exact means_call _ _ _ (by assumption) (by assumption) | exact c1 | exact c2 | exact c3 x0 (drop_mem hd0) | exact c4 i0 x0 (drop_get hd0) | exact few_call p hp hn hv | fail))
    | with_reducible refine str_idx hd0 ?_
    | ((with_reducible refine nilgs_step ?_ ?_ ?_ ?_ ?_ ?_) <;> exact rfl)
    | ((with_reducible refine tok0_step ?_ ?_ ?_ ?_) <;> exact rfl)
    | ((with_reducible refine kok_step ?_ ?_ ?_); exact rfl; exact rfl)
    | ((with_reducible refine idx_step ?_ ?_ ?_ ?_ ?_); exact rfl; exact rfl; rotate_left; (first | with_reducible exact idx_get ‹_› | with_reducible exact idx_drop hd0 | with_reducible exact idx_take hd0 | with_reducible exact idx_zip1 hd0 | with_reducible exact idx_zip2 hd0 | with_reducible exact idx_zip1e hd0 | with_reducible exact idx_zip2e hd0 | with_reducible exact idx_drop_e hd0 | fail))
    | ((with_reducible refine len_step ?_ ?_); exact rfl)
    | ((with_reducible refine app_step' ?_ ?_ ?_ ?_ ?_ ?_ ?_); exact rfl; exact rfl; exact rfl; exact rfl)
    | ((with_reducible refine nil_step' ?_ ?_ ?_ ?_); exact rfl; exact rfl)
    | ((with_reducible refine guard_step ?_ ?_ (fun hg => ?_) ?_); exact rfl)
    | ((with_reducible refine val_step ?_ ?_); with_reducible exact rfl; with_reducible exact rfl)
    | ((with_reducible refine same_step ?_ ?_); with_reducible exact rfl)
    | ((with_reducible refine chk_step ?_ ?_); kernel_rfl)
    | ((with_reducible refine ret_step ?_); refine ⟨[], rfl, ?_, trivial⟩; conv => whnf)
    | ((with_reducible refine ret_need ?_ ?_); rotate_left; refine ⟨[], rfl, ?_, trivial⟩; conv => whnf)
    | ((with_reducible refine pan_need ?_ ?_); rotate_left; refine ⟨[], rfl, ?_, trivial⟩; conv => whnf)
    | ((with_reducible refine pan_step ?_); refine ⟨[], rfl, ?_, trivial⟩; conv => whnf)
    | (with_reducible refine And.intro ?_ ?_)
    | ((with_reducible refine gs_eq ?_ ?_ ?_); exact rfl; exact rfl; (first | with_reducible exact map_app | with_reducible exact map_app3 | with_reducible exact map_app4 | exact map_snoc | exact rfl | skip))
    | ((with_reducible refine tok_eq ?_ ?_); exact rfl; (first | with_reducible exact map_app | with_reducible exact map_app3 | with_reducible exact map_app4 | exact map_snoc | exact rfl | skip))
    | ((with_reducible refine ren_guard ?_); refine gs_ren ?_ ?_ ?_; exact rfl; exact rfl; (first | exact rfl | skip))
    | exact @rfl AV _
    | exact @rfl Block _
    | exact @rfl (List AV) _
    | exact ble_le rfl
    | fail)
  all_goals first
    | (rfl)
    | ((exfalso; simp only [List.length_map, bne_self_eq_false, Bool.not_true, Bool.cond_false, Bool.false_eq_true] at h; done))
    | ((rw [last_yes hF hps]; done))
    | ((exfalso; have hb := hF.bare x0 (drop_mem hd0); have hh : (bif (bif (bif x0.kind != x0.kind then true else !(x0.name == x0.name)) then true else !bareM (vis (decl p) x0.x) x0.x) then true else !true) = true := h; rw [hb] at hh; simp at hh; done))
    | ((refine Bool.noConfusion ((set_no (hF.set x0 (drop_mem hd0) ?_)).symm.trans h); assumption))
    | ((refine Bool.noConfusion ((push_no (hF.push x0 (drop_mem hd0) ?_)).symm.trans h); assumption))
    | ((refine Bool.noConfusion ((rest_no (hF.rest i0 x0 (drop_get hd0) ?_ ?_) hps hl0).symm.trans h) <;> assumption))
    | ((exact trivial))
    | skip
end Go.Proofs.Ytgilgdfmohmbdaa

