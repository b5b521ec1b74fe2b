/- Contracts: the law functions of names: examples. -/
import Derived.Test.YtgilgdfmohmbdaaZS8
import Derived.Test.YtgilgdfmohmbdaaZD
import Derived.Test.YtgilgdfmohmbdaaZR4
set_option linter.unusedSimpArgs false
set_option linter.unusedVariables false
namespace Go.Proofs.Ytgilgdfmohmbdaa
open Go.Fw Go.Fw.Nam Go.Fw.Ref15
set_option maxRecDepth 10000
set_option linter.unusedSectionVars false
variable [GlobInt]
theorem resolve_call (p : Pr) (hp : p.Small) (hn : ∀ s ∈ p.stmts, Ref15.nodes s.x ≤ 1073741824) : PCall Try.prog 11 [p.d] (.ret (.tuple [(resolveC p).1.d, .i (resolveC p).2])) := by
  unfold resolveC
  cases hF : Nam.formed p with
  | false => exact Resolve_bad1 p hF
  | true =>
    cases hL : Nam.limited p with
    | false => exact Resolve_bad2 p hF hL hn
    | true =>
      cases hN : (p.name :: fsts (decl p)).all Nam.nmOk with
      | false => exact Resolve_bad3 p hF hL hn hp hN
      | true =>
        cases hU : uniqB (fsts (decl p)) with
        | false => exact Resolve_bad4 p hF hL hn hp hN (fun h => by rw [uniqB_iff.2 h] at hU; simp at hU)
        | true =>
          cases hR : Nam.ranged p with
          | false => exact Resolve_bad5 p hF hL hn hp hN (uniqB_iff.1 hU) hR
          | true => exact Resolve_run p hF hL hn hp hN (uniqB_iff.1 hU) hR
theorem resolve_at (p : Pr) (q : Pr) (e : Int) (hq : resolveC p = (q, e)) (h : p.params.length ≤ 4 ∧ p.states.length ≤ 4 ∧ p.lines.length ≤ 4 ∧ p.tables.length ≤ 4 ∧ p.stmts.length ≤ 4 ∧ (p.stmts.all fun s => Nat.ble (Ref15.nodes s.x) 100) = true) : PCall Try.prog 11 [p.d] (.ret (.tuple [q.d, .i e])) := by
  obtain ⟨h1, h2, h3, h4, h5, h6⟩ := h
  have := resolve_call p ⟨by omega, by omega, by omega, by omega, by omega⟩ (fun s hs => by
    have := Nat.le_of_ble_eq_true (List.all_eq_true.1 h6 s hs); omega)
  rw [hq] at this; exact this

theorem res1 : PCall Try.prog 11 [(Pr.none : Pr).d] (.ret (.tuple [(Pr.none : Pr).d, .i 150])) := resolve_at _ _ _ (by kernel_rfl) ⟨by decide, by decide, by decide, by decide, by decide, by kernel_rfl⟩
theorem res2 : PCall Try.prog 11 [(⟨[112], 0, 0, [], [], [], [], [outM one]⟩ : Pr).d] (.ret (.tuple [(⟨[112], 0, 0, [], [], [], [], [outM one]⟩ : Pr).d, .i 0])) := resolve_at _ _ _ (by kernel_rfl) ⟨by decide, by decide, by decide, by decide, by decide, by kernel_rfl⟩
theorem res3 : PCall Try.prog 11 [(procM [outM (namedM [97])] : Pr).d] (.ret (.tuple [(Pr.none : Pr).d, .i 150])) := resolve_at _ _ _ (by kernel_rfl) ⟨by decide, by decide, by decide, by decide, by decide, by kernel_rfl⟩
theorem res4 : PCall Try.prog 11 [(procM [⟨1, [97], 0, namedM [97]⟩, outM one] : Pr).d] (.ret (.tuple [(Pr.none : Pr).d, .i 150])) := resolve_at _ _ _ (by kernel_rfl) ⟨by decide, by decide, by decide, by decide, by decide, by kernel_rfl⟩
theorem res5 : PCall Try.prog 11 [(procM [outM one, outM one] : Pr).d] (.ret (.tuple [(Pr.none : Pr).d, .i 151])) := resolve_at _ _ _ (by kernel_rfl) ⟨by decide, by decide, by decide, by decide, by decide, by kernel_rfl⟩
theorem res6 : PCall Try.prog 11 [(⟨[112], 0, 0, [⟨[97], 2, 1⟩], [], [], [], [outM one]⟩ : Pr).d] (.ret (.tuple [(Pr.none : Pr).d, .i 161])) := resolve_at _ _ _ (by kernel_rfl) ⟨by decide, by decide, by decide, by decide, by decide, by kernel_rfl⟩
theorem res7 : PCall Try.prog 11 [(procM [] : Pr).d] (.ret (.tuple [(Pr.none : Pr).d, .i 150])) := resolve_at _ _ _ (by kernel_rfl) ⟨by decide, by decide, by decide, by decide, by decide, by kernel_rfl⟩
theorem res8 : PCall Try.prog 11 [(procM [⟨1, [97], 0, namedM [103]⟩, ⟨3, [100], 0, namedM [97]⟩, outM ⟨9, [116], 0, 0, [namedM [115]]⟩] : Pr).d] (.ret (.tuple [(procM [⟨1, [97], 0, ⟨3, [103], 0, 0, []⟩⟩, ⟨3, [100], 0, ⟨5, [97], 0, 0, []⟩⟩, ⟨4, [], 0, ⟨9, [116], 0, 0, [⟨4, [115], 0, 0, []⟩]⟩⟩] : Pr).d, .i 0])) := resolve_at _ _ _ (by kernel_rfl) ⟨by decide, by decide, by decide, by decide, by decide, by kernel_rfl⟩
set_option maxHeartbeats 400000 in
theorem lnamed_call (s : Str)  : PCall Try.prog 23 [.str s] (.ret (namedM s).d) := by
  refine pcall_of_wc tok hmix ⟨[], []⟩ Try.func23 rfl (by kernel_rfl) (by kernel_rfl) (by kernel_rfl) fun hf => ?_
  clear hf
  repeat' ((try (conv => whnf)) <;> first
    | with_reducible exact trivial
    | with_reducible exact rfl
    | with_reducible refine BrI.tt ?_
    | with_reducible refine BrI.ff ?_
    | with_reducible refine BrI.intro (fun h => ?_) (fun h => ?_)
    | (with_reducible refine ChooseI.l _ ?_)
    | ((with_reducible refine nilgs_step ?_ ?_ ?_ ?_ ?_ ?_) <;> exact rfl)
    | ((with_reducible refine tok0_step ?_ ?_ ?_ ?_) <;> exact rfl)
    | ((with_reducible refine kok_step ?_ ?_ ?_); exact rfl; exact rfl)
    | ((with_reducible refine idx_step ?_ ?_ ?_ ?_ ?_); exact rfl; exact rfl; rotate_left; (first | with_reducible exact idx_get ‹_› | fail))
    | ((with_reducible refine len_step ?_ ?_); exact rfl)
    | ((with_reducible refine app_step' ?_ ?_ ?_ ?_ ?_ ?_ ?_); exact rfl; exact rfl; exact rfl; exact rfl)
    | ((with_reducible refine nil_step' ?_ ?_ ?_ ?_); exact rfl; exact rfl)
    | ((with_reducible refine guard_step ?_ ?_ (fun hg => ?_) ?_); exact rfl)
    | ((with_reducible refine val_step ?_ ?_); with_reducible exact rfl; with_reducible exact rfl)
    | ((with_reducible refine same_step ?_ ?_); with_reducible exact rfl)
    | ((with_reducible refine chk_step ?_ ?_); kernel_rfl)
    | ((with_reducible refine ret_step ?_); refine ⟨[], rfl, ?_, trivial⟩; conv => whnf)
    | ((with_reducible refine ret_need ?_ ?_); rotate_left; refine ⟨[], rfl, ?_, trivial⟩; conv => whnf)
    | ((with_reducible refine pan_need ?_ ?_); rotate_left; refine ⟨[], rfl, ?_, trivial⟩; conv => whnf)
    | ((with_reducible refine pan_step ?_); refine ⟨[], rfl, ?_, trivial⟩; conv => whnf)
    | (with_reducible refine And.intro ?_ ?_)
    | ((with_reducible refine gs_eq ?_ ?_ ?_); exact rfl; exact rfl; (first | with_reducible exact map_app | with_reducible exact map_app3 | with_reducible exact map_app4 | exact map_snoc | exact rfl | skip))
    | ((with_reducible refine tok_eq ?_ ?_); exact rfl; (first | with_reducible exact map_app | with_reducible exact map_app3 | with_reducible exact map_app4 | exact map_snoc | exact rfl | skip))
    | ((with_reducible refine ren_guard ?_); refine gs_ren ?_ ?_ ?_; exact rfl; exact rfl; (first | exact rfl | skip))
    | exact @rfl AV _
    | exact @rfl Block _
    | exact @rfl (List AV) _
    | exact ble_le rfl
    | fail)
  all_goals (try simp only [Bool.cond_true_left, Bool.cond_false_right, Bool.cond_false_left, Bool.cond_true_right, Bool.not_eq_true', Bool.not_eq_false', bne, Ex.css_len, List.length_map, Int.toNat_zero] at *)
  all_goals first
    | omega
    | (rfl)
    | (exfalso; simp_all; done)
    | skip
set_option maxHeartbeats 400000 in
theorem lout_call (x : Ex)  : PCall Try.prog 24 [x.d] (.ret (outM x).d) := by
  refine pcall_of_wc tok hmix ⟨[], []⟩ Try.func24 rfl (by kernel_rfl) (by kernel_rfl) (by kernel_rfl) fun hf => ?_
  clear hf
  repeat' ((try (conv => whnf)) <;> first
    | with_reducible exact trivial
    | with_reducible exact rfl
    | with_reducible refine BrI.tt ?_
    | with_reducible refine BrI.ff ?_
    | with_reducible refine BrI.intro (fun h => ?_) (fun h => ?_)
    | (with_reducible refine ChooseI.l _ ?_)
    | ((with_reducible refine nilgs_step ?_ ?_ ?_ ?_ ?_ ?_) <;> exact rfl)
    | ((with_reducible refine tok0_step ?_ ?_ ?_ ?_) <;> exact rfl)
    | ((with_reducible refine kok_step ?_ ?_ ?_); exact rfl; exact rfl)
    | ((with_reducible refine idx_step ?_ ?_ ?_ ?_ ?_); exact rfl; exact rfl; rotate_left; (first | with_reducible exact idx_get ‹_› | fail))
    | ((with_reducible refine len_step ?_ ?_); exact rfl)
    | ((with_reducible refine app_step' ?_ ?_ ?_ ?_ ?_ ?_ ?_); exact rfl; exact rfl; exact rfl; exact rfl)
    | ((with_reducible refine nil_step' ?_ ?_ ?_ ?_); exact rfl; exact rfl)
    | ((with_reducible refine guard_step ?_ ?_ (fun hg => ?_) ?_); exact rfl)
    | ((with_reducible refine val_step ?_ ?_); with_reducible exact rfl; with_reducible exact rfl)
    | ((with_reducible refine same_step ?_ ?_); with_reducible exact rfl)
    | ((with_reducible refine chk_step ?_ ?_); kernel_rfl)
    | ((with_reducible refine ret_step ?_); refine ⟨[], rfl, ?_, trivial⟩; conv => whnf)
    | ((with_reducible refine ret_need ?_ ?_); rotate_left; refine ⟨[], rfl, ?_, trivial⟩; conv => whnf)
    | ((with_reducible refine pan_need ?_ ?_); rotate_left; refine ⟨[], rfl, ?_, trivial⟩; conv => whnf)
    | ((with_reducible refine pan_step ?_); refine ⟨[], rfl, ?_, trivial⟩; conv => whnf)
    | (with_reducible refine And.intro ?_ ?_)
    | ((with_reducible refine gs_eq ?_ ?_ ?_); exact rfl; exact rfl; (first | with_reducible exact map_app | with_reducible exact map_app3 | with_reducible exact map_app4 | exact map_snoc | exact rfl | skip))
    | ((with_reducible refine tok_eq ?_ ?_); exact rfl; (first | with_reducible exact map_app | with_reducible exact map_app3 | with_reducible exact map_app4 | exact map_snoc | exact rfl | skip))
    | ((with_reducible refine ren_guard ?_); refine gs_ren ?_ ?_ ?_; exact rfl; exact rfl; (first | exact rfl | skip))
    | exact @rfl AV _
    | exact @rfl Block _
    | exact @rfl (List AV) _
    | exact ble_le rfl
    | fail)
  all_goals (try simp only [Bool.cond_true_left, Bool.cond_false_right, Bool.cond_false_left, Bool.cond_true_right, Bool.not_eq_true', Bool.not_eq_false', bne, Ex.css_len, List.length_map, Int.toNat_zero] at *)
  all_goals first
    | omega
    | (rfl)
    | (exfalso; simp_all; done)
    | skip
set_option maxHeartbeats 400000 in
theorem lproc_call (l : List Sm)  : PCall Try.prog 25 [.sl 8 (l.map Sm.cs)] (.ret (procM l).d) := by
  refine pcall_of_wc tok hmix ⟨[], []⟩ Try.func25 rfl (by kernel_rfl) (by kernel_rfl) (by kernel_rfl) fun hf => ?_
  clear hf
  repeat' ((try (conv => whnf)) <;> first
    | with_reducible exact trivial
    | with_reducible exact rfl
    | with_reducible refine BrI.tt ?_
    | with_reducible refine BrI.ff ?_
    | with_reducible refine BrI.intro (fun h => ?_) (fun h => ?_)
    | (with_reducible refine ChooseI.l _ ?_)
    | ((with_reducible refine nilgs_step ?_ ?_ ?_ ?_ ?_ ?_) <;> exact rfl)
    | ((with_reducible refine tok0_step ?_ ?_ ?_ ?_) <;> exact rfl)
    | ((with_reducible refine kok_step ?_ ?_ ?_); exact rfl; exact rfl)
    | ((with_reducible refine idx_step ?_ ?_ ?_ ?_ ?_); exact rfl; exact rfl; rotate_left; (first | with_reducible exact idx_get ‹_› | fail))
    | ((with_reducible refine len_step ?_ ?_); exact rfl)
    | ((with_reducible refine app_step' ?_ ?_ ?_ ?_ ?_ ?_ ?_); exact rfl; exact rfl; exact rfl; exact rfl)
    | ((with_reducible refine nil_step' ?_ ?_ ?_ ?_); exact rfl; exact rfl)
    | ((with_reducible refine guard_step ?_ ?_ (fun hg => ?_) ?_); exact rfl)
    | ((with_reducible refine val_step ?_ ?_); with_reducible exact rfl; with_reducible exact rfl)
    | ((with_reducible refine same_step ?_ ?_); with_reducible exact rfl)
    | ((with_reducible refine chk_step ?_ ?_); kernel_rfl)
    | ((with_reducible refine ret_step ?_); refine ⟨[], rfl, ?_, trivial⟩; conv => whnf)
    | ((with_reducible refine ret_need ?_ ?_); rotate_left; refine ⟨[], rfl, ?_, trivial⟩; conv => whnf)
    | ((with_reducible refine pan_need ?_ ?_); rotate_left; refine ⟨[], rfl, ?_, trivial⟩; conv => whnf)
    | ((with_reducible refine pan_step ?_); refine ⟨[], rfl, ?_, trivial⟩; conv => whnf)
    | (with_reducible refine And.intro ?_ ?_)
    | ((with_reducible refine gs_eq ?_ ?_ ?_); exact rfl; exact rfl; (first | with_reducible exact map_app | with_reducible exact map_app3 | with_reducible exact map_app4 | exact map_snoc | exact rfl | skip))
    | ((with_reducible refine tok_eq ?_ ?_); exact rfl; (first | with_reducible exact map_app | with_reducible exact map_app3 | with_reducible exact map_app4 | exact map_snoc | exact rfl | skip))
    | ((with_reducible refine ren_guard ?_); refine gs_ren ?_ ?_ ?_; exact rfl; exact rfl; (first | exact rfl | skip))
    | exact @rfl AV _
    | exact @rfl Block _
    | exact @rfl (List AV) _
    | exact ble_le rfl
    | fail)
  all_goals (try simp only [Bool.cond_true_left, Bool.cond_false_right, Bool.cond_false_left, Bool.cond_true_right, Bool.not_eq_true', Bool.not_eq_false', bne, Ex.css_len, List.length_map, Int.toNat_zero] at *)
  all_goals first
    | omega
    | (rfl)
    | (exfalso; simp_all; done)
    | skip
set_option maxHeartbeats 4000000 in
theorem sane_call   : PCall Try.prog 9 [] (.ret (.b true)) := by
  refine pcall_of_wc tok hmix ⟨[], []⟩ Try.func9 rfl (by kernel_rfl) (by kernel_rfl) (by kernel_rfl) fun hf => ?_
  clear hf
  repeat' ((try (conv => whnf)) <;> first
    | ((with_reducible refine br_f ?_ ?_); kernel_rfl)
    | with_reducible exact trivial
    | with_reducible exact rfl
    | with_reducible refine BrI.tt ?_
    | with_reducible refine BrI.ff ?_
    | with_reducible refine BrI.intro (fun h => ?_) (fun h => ?_)
    | ((with_reducible refine idx_lit ?_ ?_ ?_ ?_ ?_); exact rfl; exact rfl; exact rfl; exact rfl)
    | ((with_reducible refine call_step ?_ ?_ ?_); rotate_left; (first | exact lnamed_call _ | exact Resolve_bad1 _ (by assumption) | exact Resolve_bad2 _ (by assumption) (by assumption) (by assumption) | exact Resolve_bad3 _ (by assumption) (by assumption) (by assumption) (by assumption) (by assumption) | exact Resolve_bad4 _ (by assumption) (by assumption) (by assumption) (by assumption) (by assumption) (by assumption) | exact Resolve_bad5 _ (by assumption) (by assumption) (by assumption) (by assumption) (by assumption) (by assumption) (by assumption) | exact Resolve_run _ (by assumption) (by assumption) (by assumption) (by assumption) (by assumption) (by assumption) (by assumption) | exact lout_call _ | exact lproc_call _ | exact sameExpr_call _ _ | exact lout_call one | exact lout_call (namedM [97]) | exact lout_call ⟨9, [116], 0, 0, [namedM [115]]⟩ | exact lproc_call [outM (namedM [97])] | exact lproc_call [⟨1, [97], 0, namedM [97]⟩, outM one] | exact lproc_call [outM one, outM one] | exact lproc_call [] | exact lproc_call [⟨1, [97], 0, namedM [103]⟩, ⟨3, [100], 0, namedM [97]⟩, outM ⟨9, [116], 0, 0, [namedM [115]]⟩] | exact sameExpr_call ⟨3, [103], 0, 0, []⟩ ⟨3, [103], 0, 0, []⟩ | exact sameExpr_call ⟨5, [97], 0, 0, []⟩ ⟨5, [97], 0, 0, []⟩ | exact sameExpr_call ⟨4, [115], 0, 0, []⟩ ⟨4, [115], 0, 0, []⟩ | exact sameExpr_call one one | exact res1 | exact res2 | exact res3 | exact res4 | exact res5 | exact res6 | exact res7 | exact res8 | fail))
    | (with_reducible refine ChooseI.l _ ?_)
    | ((with_reducible refine nilgs_step ?_ ?_ ?_ ?_ ?_ ?_) <;> exact rfl)
    | ((with_reducible refine tok0_step ?_ ?_ ?_ ?_) <;> exact rfl)
    | ((with_reducible refine kok_step ?_ ?_ ?_); exact rfl; exact rfl)
    | ((with_reducible refine idx_step ?_ ?_ ?_ ?_ ?_); exact rfl; exact rfl; rotate_left; (first | with_reducible exact idx_get ‹_› | fail))
    | ((with_reducible refine len_step ?_ ?_); exact rfl)
    | ((with_reducible refine app_step' ?_ ?_ ?_ ?_ ?_ ?_ ?_); exact rfl; exact rfl; exact rfl; exact rfl)
    | ((with_reducible refine nil_step' ?_ ?_ ?_ ?_); exact rfl; exact rfl)
    | ((with_reducible refine guard_step ?_ ?_ (fun hg => ?_) ?_); exact rfl)
    | ((with_reducible refine val_step ?_ ?_); with_reducible exact rfl; with_reducible exact rfl)
    | ((with_reducible refine same_step ?_ ?_); with_reducible exact rfl)
    | ((with_reducible refine chk_step ?_ ?_); kernel_rfl)
    | ((with_reducible refine ret_step ?_); refine ⟨[], rfl, ?_, trivial⟩; conv => whnf)
    | ((with_reducible refine ret_need ?_ ?_); rotate_left; refine ⟨[], rfl, ?_, trivial⟩; conv => whnf)
    | ((with_reducible refine pan_need ?_ ?_); rotate_left; refine ⟨[], rfl, ?_, trivial⟩; conv => whnf)
    | ((with_reducible refine pan_step ?_); refine ⟨[], rfl, ?_, trivial⟩; conv => whnf)
    | (with_reducible refine And.intro ?_ ?_)
    | ((with_reducible refine gs_eq ?_ ?_ ?_); exact rfl; exact rfl; (first | with_reducible exact map_app | with_reducible exact map_app3 | with_reducible exact map_app4 | exact map_snoc | exact rfl | skip))
    | ((with_reducible refine tok_eq ?_ ?_); exact rfl; (first | with_reducible exact map_app | with_reducible exact map_app3 | with_reducible exact map_app4 | exact map_snoc | exact rfl | skip))
    | ((with_reducible refine ren_guard ?_); refine gs_ren ?_ ?_ ?_; exact rfl; exact rfl; (first | exact rfl | skip))
    | exact @rfl AV _
    | exact @rfl Block _
    | exact @rfl (List AV) _
    | exact ble_le rfl
    | fail)
  all_goals (try simp only [Bool.cond_true_left, Bool.cond_false_right, Bool.cond_false_left, Bool.cond_true_right, Bool.not_eq_true', Bool.not_eq_false', bne, Ex.css_len, List.length_map, Int.toNat_zero] at *)
  all_goals first
    | omega
    | (kernel_rfl)
    | (exfalso; simp_all; done)
    | skip
end Go.Proofs.Ytgilgdfmohmbdaa

