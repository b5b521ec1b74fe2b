/- Contracts: the laws of names: a second declaration. -/
import Derived.Test.YtgilgdfmohmbdaaZS9
import Derived.Test.YtgilgdfmohmbdaaZD10
set_option linter.unusedSimpArgs false
set_option linter.unusedVariables false
namespace Go.Proofs.Ytgilgdfmohmbdaa
open Go.Fw Go.Fw.Nam Go.Fw.Ref15
set_option maxRecDepth 10000
set_option linter.unusedSectionVars false
variable [GlobInt]
theorem addP_call (p : Pr) (n : Str) (hs : (addP p n).Small) (hn : ∀ s ∈ p.stmts, Ref15.nodes s.x ≤ 1073741824) : PCall Try.prog 11 [.agg [.str p.name, .i p.latency, .i p.tail, .sl 3 ([] ++ p.params.map Bd.cs ++ [[.str n, .i 0, .i 0]]), .sl 3 (p.states.map Bd.cs), .sl 4 (p.lines.map Ln.cs), .sl 2 (p.tables.map Tb.cs), .sl 8 (p.stmts.map Sm.cs)]] (.ret (.tuple [(resolveC (addP p n)).1.d, .i (resolveC (addP p n)).2])) := by
  have e : (p.params ++ [(⟨n, 0, 0⟩ : Bd)]).map Bd.cs = [] ++ p.params.map Bd.cs ++ [[.str n, .i 0, .i 0]] := by simp
  rw [← e]
  exact resolve_call (addP p n) hs hn
theorem addS_call (p : Pr) (n : Str) (hs : (addS p n).Small) (hn : ∀ s ∈ p.stmts, Ref15.nodes s.x ≤ 1073741824) : PCall Try.prog 11 [.agg [.str p.name, .i p.latency, .i p.tail, .sl 3 (p.params.map Bd.cs), .sl 3 ([] ++ p.states.map Bd.cs ++ [[.str n, .i 0, .i 0]]), .sl 4 (p.lines.map Ln.cs), .sl 2 (p.tables.map Tb.cs), .sl 8 (p.stmts.map Sm.cs)]] (.ret (.tuple [(resolveC (addS p n)).1.d, .i (resolveC (addS p n)).2])) := by
  have e : (p.states ++ [(⟨n, 0, 0⟩ : Bd)]).map Bd.cs = [] ++ p.states.map Bd.cs ++ [[.str n, .i 0, .i 0]] := by simp
  rw [← e]
  exact resolve_call (addS p n) hs hn
theorem addL_call (p : Pr) (n : Str) (hs : (addL p n).Small) (hn : ∀ s ∈ p.stmts, Ref15.nodes s.x ≤ 1073741824) : PCall Try.prog 11 [.agg [.str p.name, .i p.latency, .i p.tail, .sl 3 (p.params.map Bd.cs), .sl 3 (p.states.map Bd.cs), .sl 4 ([] ++ p.lines.map Ln.cs ++ [[.str n, .i 1, .i 0, .i 0]]), .sl 2 (p.tables.map Tb.cs), .sl 8 (p.stmts.map Sm.cs)]] (.ret (.tuple [(resolveC (addL p n)).1.d, .i (resolveC (addL p n)).2])) := by
  have e : (p.lines ++ [(⟨n, 1, 0, 0⟩ : Ln)]).map Ln.cs = [] ++ p.lines.map Ln.cs ++ [[.str n, .i 1, .i 0, .i 0]] := by simp
  rw [← e]
  exact resolve_call (addL p n) hs hn
theorem addT_call (p : Pr) (n : Str) (hs : (addT p n).Small) (hn : ∀ s ∈ p.stmts, Ref15.nodes s.x ≤ 1073741824) : PCall Try.prog 11 [.agg [.str p.name, .i p.latency, .i p.tail, .sl 3 (p.params.map Bd.cs), .sl 3 (p.states.map Bd.cs), .sl 4 (p.lines.map Ln.cs), .sl 2 ([] ++ p.tables.map Tb.cs ++ [[.str n, ints [0]]]), .sl 8 (p.stmts.map Sm.cs)]] (.ret (.tuple [(resolveC (addT p n)).1.d, .i (resolveC (addT p n)).2])) := by
  have e : (p.tables ++ [(⟨n, [0]⟩ : Tb)]).map Tb.cs = [] ++ p.tables.map Tb.cs ++ [[.str n, ints [0]]] := by simp
  rw [← e]
  exact resolve_call (addT p n) hs hn
set_option maxHeartbeats 400000 in
theorem twice_call (e n : Int)  : PCall Try.prog 20 [.i e, .i n] (.ret (.b (twiceM e n))) := by
  refine pcall_of_wc tok hmix ⟨[], []⟩ Try.func20 rfl (by kernel_rfl) (by kernel_rfl) (by kernel_rfl) fun hf => ?_
  clear hf
  repeat' ((try (conv => whnf)) <;> first
    | with_reducible exact trivial
    | with_reducible exact rfl
    | with_reducible refine BrI.tt ?_
    | with_reducible refine BrI.ff ?_
    | with_reducible refine BrI.intro (fun h => ?_) (fun h => ?_)
    | ((with_reducible refine nilgs_step ?_ ?_ ?_ ?_ ?_ ?_) <;> exact rfl)
    | ((with_reducible refine tok0_step ?_ ?_ ?_ ?_) <;> exact rfl)
    | ((with_reducible refine kok_step ?_ ?_ ?_); exact rfl; exact rfl)
    | ((with_reducible refine idx_step ?_ ?_ ?_ ?_ ?_); exact rfl; exact rfl; rotate_left; (first | with_reducible exact idx_get ‹_› | fail))
    | ((with_reducible refine len_step ?_ ?_); exact rfl)
    | ((with_reducible refine app_step' ?_ ?_ ?_ ?_ ?_ ?_ ?_); exact rfl; exact rfl; exact rfl; exact rfl)
    | ((with_reducible refine nil_step' ?_ ?_ ?_ ?_); exact rfl; exact rfl)
    | ((with_reducible refine guard_step ?_ ?_ (fun hg => ?_) ?_); exact rfl)
    | ((with_reducible refine val_step ?_ ?_); with_reducible exact rfl; with_reducible exact rfl)
    | ((with_reducible refine same_step ?_ ?_); with_reducible exact rfl)
    | ((with_reducible refine chk_step ?_ ?_); kernel_rfl)
    | ((with_reducible refine ret_step ?_); refine ⟨[], rfl, ?_, trivial⟩; conv => whnf)
    | ((with_reducible refine ret_need ?_ ?_); rotate_left; refine ⟨[], rfl, ?_, trivial⟩; conv => whnf)
    | ((with_reducible refine pan_need ?_ ?_); rotate_left; refine ⟨[], rfl, ?_, trivial⟩; conv => whnf)
    | ((with_reducible refine pan_step ?_); refine ⟨[], rfl, ?_, trivial⟩; conv => whnf)
    | (with_reducible refine And.intro ?_ ?_)
    | ((with_reducible refine gs_eq ?_ ?_ ?_); exact rfl; exact rfl; (first | with_reducible exact map_app | with_reducible exact map_app3 | with_reducible exact map_app4 | exact map_snoc | exact rfl | skip))
    | ((with_reducible refine tok_eq ?_ ?_); exact rfl; (first | with_reducible exact map_app | with_reducible exact map_app3 | with_reducible exact map_app4 | exact map_snoc | exact rfl | skip))
    | ((with_reducible refine ren_guard ?_); refine gs_ren ?_ ?_ ?_; exact rfl; exact rfl; (first | exact rfl | skip))
    | exact @rfl AV _
    | exact @rfl Block _
    | exact @rfl (List AV) _
    | exact ble_le rfl
    | fail)
  all_goals (try simp only [Bool.cond_true_left, Bool.cond_false_right, Bool.cond_false_left, Bool.cond_true_right, Bool.not_eq_true', Bool.not_eq_false', bne, Ex.css_len, List.length_map, Int.toNat_zero] at *)
  all_goals first
    | (simp only [twiceM, Bool.not_true, Bool.not_false, Bool.and_true, Bool.true_and, Bool.and_false, Bool.false_and, Bool.or_true, Bool.true_or, Bool.or_false, Bool.false_or, if_true, if_false, reduceIte, Bool.false_eq_true, Bool.not_not, Bool.not_eq_true', beq_self_eq_true, List.all_cons, List.all_nil, List.any_cons, List.any_nil, List.length_map, bne, eq_self, Int.toNat_zero, *]; done)
    | omega
    | (exfalso; simp_all; done)
    | skip
set_option maxHeartbeats 4000000 in
theorem law5_call (p : Pr) (k : Int) (h1 : p.params.length ≤ 1048576) (h2 : p.states.length ≤ 1048576) (h3 : p.lines.length ≤ 1048576) (h4 : p.tables.length ≤ 1048576) (h5 : p.stmts.length ≤ 1048576) (hn : ∀ s ∈ p.stmts, Ref15.nodes s.x ≤ 1073741824) (hv : ∀ t ∈ p.tables, t.values.length ≤ 1073741824) (hk0 : 0 ≤ k) (hk1 : k ≤ 255) : PCall Try.prog 7 [p.d, .val (.int .u8 k)] (.ret (.b (lawTwice p k))) := by
  refine pcall_of_wc tok hmix ⟨[], []⟩ Try.func7 rfl (by kernel_rfl) (by kernel_rfl) (by kernel_rfl) fun hf => ?_
  have hp : p.Small := ⟨by omega, by omega, by omega, by omega, by omega⟩
  have hs := small_add h1 h2 h3 h4 h5 (nameAt p k)
  clear hf
  repeat' ((try (conv => whnf)) <;> first
    | with_reducible exact trivial
    | with_reducible exact rfl
    | with_reducible refine BrI.tt ?_
    | with_reducible refine BrI.ff ?_
    | with_reducible refine BrI.intro (fun h => ?_) (fun h => ?_)
    | ((with_reducible refine idx_step ?_ ?_ ?_ ?_ ?_); exact rfl; exact rfl; rotate_left; refine name_idx (p := p) (k := k) hk0 hk1 ?_)
    | (exact Bool.noConfusion (h : false = true))
    | ((with_reducible refine call_step ?_ ?_ ?_); rotate_left; (first | exact sane_call | exact few_call _ (by assumption) (by assumption) (by assumption) | exact Resolve_bad1 _ (by assumption) | exact Resolve_bad2 _ (by assumption) (by assumption) (by assumption) | exact Resolve_bad3 _ (by assumption) (by assumption) (by assumption) (by assumption) (by assumption) | exact Resolve_bad4 _ (by assumption) (by assumption) (by assumption) (by assumption) (by assumption) (by assumption) | exact Resolve_bad5 _ (by assumption) (by assumption) (by assumption) (by assumption) (by assumption) (by assumption) (by assumption) | exact Resolve_run _ (by assumption) (by assumption) (by assumption) (by assumption) (by assumption) (by assumption) (by assumption) | exact Declared_call _ (by assumption) | exact twice_call _ _ | exact resolve_call p hp hn | exact addP_call p (nameAt p k) hs.1 hn | exact addS_call p (nameAt p k) hs.2.1 hn | exact addL_call p (nameAt p k) hs.2.2.1 hn | exact addT_call p (nameAt p k) hs.2.2.2 hn | exact few_call p hp hn hv | exact twice_call _ _ | fail))
    | ((with_reducible refine nilgs_step ?_ ?_ ?_ ?_ ?_ ?_) <;> exact rfl)
    | ((with_reducible refine tok0_step ?_ ?_ ?_ ?_) <;> exact rfl)
    | ((with_reducible refine kok_step ?_ ?_ ?_); exact rfl; exact rfl)
    | ((with_reducible refine idx_step ?_ ?_ ?_ ?_ ?_); exact rfl; exact rfl; rotate_left; (first | with_reducible exact idx_get ‹_› | fail))
    | ((with_reducible refine len_step ?_ ?_); exact rfl)
    | ((with_reducible refine app_step' ?_ ?_ ?_ ?_ ?_ ?_ ?_); exact rfl; exact rfl; exact rfl; exact rfl)
    | ((with_reducible refine nil_step' ?_ ?_ ?_ ?_); exact rfl; exact rfl)
    | ((with_reducible refine guard_step ?_ ?_ (fun hg => ?_) ?_); exact rfl)
    | ((with_reducible refine val_step ?_ ?_); with_reducible exact rfl; with_reducible exact rfl)
    | ((with_reducible refine same_step ?_ ?_); with_reducible exact rfl)
    | ((with_reducible refine chk_step ?_ ?_); kernel_rfl)
    | ((with_reducible refine ret_step ?_); refine ⟨[], rfl, ?_, trivial⟩; conv => whnf)
    | ((with_reducible refine ret_need ?_ ?_); rotate_left; refine ⟨[], rfl, ?_, trivial⟩; conv => whnf)
    | ((with_reducible refine pan_need ?_ ?_); rotate_left; refine ⟨[], rfl, ?_, trivial⟩; conv => whnf)
    | ((with_reducible refine pan_step ?_); refine ⟨[], rfl, ?_, trivial⟩; conv => whnf)
    | (with_reducible refine And.intro ?_ ?_)
    | ((with_reducible refine gs_eq ?_ ?_ ?_); exact rfl; exact rfl; (first | with_reducible exact map_app | with_reducible exact map_app3 | with_reducible exact map_app4 | exact map_snoc | exact rfl | skip))
    | ((with_reducible refine tok_eq ?_ ?_); exact rfl; (first | with_reducible exact map_app | with_reducible exact map_app3 | with_reducible exact map_app4 | exact map_snoc | exact rfl | skip))
    | ((with_reducible refine ren_guard ?_); refine gs_ren ?_ ?_ ?_; exact rfl; exact rfl; (first | exact rfl | skip))
    | exact @rfl AV _
    | exact @rfl Block _
    | exact @rfl (List AV) _
    | exact ble_le rfl
    | fail)
  all_goals first
    | ((intro hz; rw [hz] at h; simp at h))
    | ((simp only [chunks, List.nil_append, List.length_map, List.length_append, List.length_nil]; omega))
    | ((rw [lawTwice_no] <;> first | rfl | assumption))
    | ((rw [lawTwice_tt ?_ h] <;> first | rfl | assumption))
    | ((rw [lawTwice_eq ?_ h] <;> first | (simp [chunks, addP, addS, addL, addT, Bool.and_assoc]; done) | assumption))
    | skip
end Go.Proofs.Ytgilgdfmohmbdaa

