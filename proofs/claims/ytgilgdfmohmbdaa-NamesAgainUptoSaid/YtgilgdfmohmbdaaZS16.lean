/- Contracts: the laws of names: resolved again. -/
import Derived.Test.YtgilgdfmohmbdaaZS9
import Derived.Test.YtgilgdfmohmbdaaZD15
import Derived.Test.YtgilgdfmohmbdaaZP11
import Derived.Test.YtgilgdfmohmbdaaZL3
set_option linter.unusedSimpArgs false
set_option linter.unusedVariables false
namespace Go.Proofs.Ytgilgdfmohmbdaa
open Go.Fw Go.Fw.Nam Go.Fw.Ref15
set_option maxRecDepth 10000
set_option linter.unusedSectionVars false
variable [GlobInt]
set_option maxHeartbeats 400000 in
theorem indexed_call (k : Int) (x : Ex) (hx : nodes x ≤ 1073741824) : PCall Try.prog 17 [x.d, .i k] (.ret (indexed k x).d) := by
  revert x; refine Ex.ind fun x ih hx => ?_
  refine pcall_of_wc tok hmix ⟨[], []⟩ Try.func17 rfl (by kernel_rfl) (by kernel_rfl) (by kernel_rfl) fun hf => ?_
  have hlen := Ex.fits (hf x.d (by simp))
  have hN := nodes_eq x
  have hL := len_nodes x.l
  clear hf
  repeat' ((try (conv => whnf)) <;> first
    | with_reducible exact trivial
    | with_reducible exact rfl
    | with_reducible exact idx_next hd0 ‹_›
    | with_reducible refine BrI.tt ?_
    | with_reducible refine BrI.ff ?_
    | with_reducible refine br_nil hd0 ?_
    | with_reducible refine br_cons hd0 ?_
    | ((with_reducible refine br_nil_k hd0 ?_ ?_); (first | exact rfl | assumption | fail))
    | ((with_reducible refine br_cons_k hd0 ?_ ?_); (first | exact rfl | assumption | fail))
    | with_reducible refine br_nil_and hd0 ?_
    | with_reducible refine br_cons_and hd0 ?_
    | with_reducible refine br_nil_e hd0 ?_
    | with_reducible refine br_cons_e hd0 ?_
    | with_reducible refine BrI.intro (fun h => ?_) (fun h => ?_)
    | ((with_reducible refine LoopAt.mk 0 ?_); refine ⟨rangeL (x.l) 15 (fun (out : (List Ex)) => []) (fun (out : (List Ex)) => [(2, .cells [.data (.i x.kind), .data (.str x.name), .data (.i k), .data (.i x.n), .gs 900001 5 (out.map Ex.cs)]), (900001, .tok 5 (out.map Ex.cs).length)]) [1, 2, 4, 13, 14] (fun i0 r0 out => indexedL k x.l = out ++ indexedL k r0 ∧ out.length = i0 ∧ nodesL r0 ≤ 1073741824), ?_⟩; with_reducible refine rangeL_rule ([]) ?_ ?_ (fun i0 (out : (List Ex)) hd0 hI0 => ?_) (fun i0 x0 r0 (out : (List Ex)) hd0 hl0 hI0 => ?_))
    | (with_reducible refine rangeL_next hd0 (out ++ [indexed k x0]) ?_ ?_)
    | ((with_reducible refine call_step ?_ ?_ ?_); rotate_left; (first | exact ih _ (drop_mem hd0) (by have := hI0.2.2; simp only [nodesL] at this; omega) | fail))
    | with_reducible refine str_idx hd0 ?_
    | (with_reducible refine ChooseI.l _ ?_)
    | ((with_reducible refine nilgs_step ?_ ?_ ?_ ?_ ?_ ?_) <;> exact rfl)
    | ((with_reducible refine tok0_step ?_ ?_ ?_ ?_) <;> exact rfl)
    | ((with_reducible refine kok_step ?_ ?_ ?_); exact rfl; exact rfl)
    | ((with_reducible refine idx_step ?_ ?_ ?_ ?_ ?_); exact rfl; exact rfl; rotate_left; (first | with_reducible exact idx_get ‹_› | with_reducible exact idx_drop hd0 | with_reducible exact idx_take hd0 | with_reducible exact idx_zip1 hd0 | with_reducible exact idx_zip2 hd0 | with_reducible exact idx_zip1e hd0 | with_reducible exact idx_zip2e hd0 | with_reducible exact idx_drop_e hd0 | fail))
    | ((with_reducible refine len_step ?_ ?_); exact rfl)
    | ((with_reducible refine app_step' ?_ ?_ ?_ ?_ ?_ ?_ ?_); exact rfl; exact rfl; exact rfl; exact rfl)
    | ((with_reducible refine nil_step' ?_ ?_ ?_ ?_); exact rfl; exact rfl)
    | ((with_reducible refine guard_step ?_ ?_ (fun hg => ?_) ?_); exact rfl)
    | ((with_reducible refine val_step ?_ ?_); with_reducible exact rfl; with_reducible exact rfl)
    | ((with_reducible refine same_step ?_ ?_); with_reducible exact rfl)
    | ((with_reducible refine chk_step ?_ ?_); kernel_rfl)
    | ((with_reducible refine ret_step ?_); refine ⟨[], rfl, ?_, trivial⟩; conv => whnf)
    | ((with_reducible refine ret_need ?_ ?_); rotate_left; refine ⟨[], rfl, ?_, trivial⟩; conv => whnf)
    | ((with_reducible refine pan_need ?_ ?_); rotate_left; refine ⟨[], rfl, ?_, trivial⟩; conv => whnf)
    | ((with_reducible refine pan_step ?_); refine ⟨[], rfl, ?_, trivial⟩; conv => whnf)
    | (with_reducible refine And.intro ?_ ?_)
    | ((with_reducible refine gs_eq ?_ ?_ ?_); exact rfl; exact rfl; (first | with_reducible exact map_app | with_reducible exact map_app3 | with_reducible exact map_app4 | exact map_snoc | exact rfl | skip))
    | ((with_reducible refine tok_eq ?_ ?_); exact rfl; (first | with_reducible exact map_app | with_reducible exact map_app3 | with_reducible exact map_app4 | exact map_snoc | exact rfl | skip))
    | ((with_reducible refine ren_guard ?_); refine gs_ren ?_ ?_ ?_; exact rfl; exact rfl; (first | exact rfl | skip))
    | exact @rfl AV _
    | exact @rfl Block _
    | exact @rfl (List AV) _
    | exact ble_le rfl
    | fail)
  all_goals first
    | (rfl)
    | ((rw [hN] at hx; omega))
    | ((rw [indexed_eq, hI0.1]; simp only [indexedL, List.append_nil, Ex.css_map]; rfl))
    | ((have := hI0.2.2; simp only [nodesL] at this; omega))
    | ((rw [hI0.1]; simp only [indexedL, List.append_assoc, List.cons_append, List.nil_append]; done))
    | ((simp only [List.length_append, List.length_cons, List.length_nil]; omega))
    | ((have := hI0.2.1; simp only [List.length_map]; omega))
    | ((refine Eq.trans ?_ map_snoc; rfl))
    | skip
set_option maxHeartbeats 4000000 in
theorem law5_err (p : Pr) (k : Int) (hp : p.Small) (hn : ∀ s ∈ p.stmts, Ref15.nodes s.x ≤ 1073741824) (hv : ∀ t ∈ p.tables, t.values.length ≤ 1073741824) (he : ((resolveC p).2 != 0) = true) : PCall Try.prog 5 [p.d, .i k] (.ret (.b true)) := by
  refine pcall_of_wc tok hmix ⟨[], []⟩ Try.func5 rfl (by kernel_rfl) (by kernel_rfl) (by kernel_rfl) fun hf => ?_
  clear hf
  repeat' ((try (conv => whnf)) <;> first
    | with_reducible exact trivial
    | with_reducible exact rfl
    | with_reducible refine BrI.tt ?_
    | with_reducible refine BrI.ff ?_
    | with_reducible refine BrI.intro (fun h => ?_) (fun h => ?_)
    | (exact Bool.noConfusion (h : false = true))
    | (exact Bool.noConfusion (he.symm.trans h))
    | ((with_reducible refine call_step ?_ ?_ ?_); rotate_left; (first | exact sane_call | exact few_call _ (by assumption) (by assumption) (by assumption) | exact Resolve_bad1 _ (by assumption) | exact Resolve_bad2 _ (by assumption) (by assumption) (by assumption) | exact Resolve_bad3 _ (by assumption) (by assumption) (by assumption) (by assumption) (by assumption) | exact Resolve_bad4 _ (by assumption) (by assumption) (by assumption) (by assumption) (by assumption) (by assumption) | exact Resolve_bad5 _ (by assumption) (by assumption) (by assumption) (by assumption) (by assumption) (by assumption) (by assumption) | exact Resolve_run _ (by assumption) (by assumption) (by assumption) (by assumption) (by assumption) (by assumption) (by assumption) | exact indexed_call _ _ (by assumption) | exact same_call _ _ | exact resolve_call p hp hn | exact few_call p hp hn hv | fail))
    | (with_reducible refine ChooseI.l _ ?_)
    | ((with_reducible refine nilgs_step ?_ ?_ ?_ ?_ ?_ ?_) <;> exact rfl)
    | ((with_reducible refine tok0_step ?_ ?_ ?_ ?_) <;> exact rfl)
    | ((with_reducible refine kok_step ?_ ?_ ?_); exact rfl; exact rfl)
    | ((with_reducible refine idx_step ?_ ?_ ?_ ?_ ?_); exact rfl; exact rfl; rotate_left; (first | with_reducible exact idx_get ‹_› | fail))
    | ((with_reducible refine len_step ?_ ?_); exact rfl)
    | ((with_reducible refine app_step' ?_ ?_ ?_ ?_ ?_ ?_ ?_); exact rfl; exact rfl; exact rfl; exact rfl)
    | ((with_reducible refine nil_step' ?_ ?_ ?_ ?_); exact rfl; exact rfl)
    | ((with_reducible refine guard_step ?_ ?_ (fun hg => ?_) ?_); exact rfl)
    | ((with_reducible refine val_step ?_ ?_); with_reducible exact rfl; with_reducible exact rfl)
    | ((with_reducible refine same_step ?_ ?_); with_reducible exact rfl)
    | ((with_reducible refine chk_step ?_ ?_); kernel_rfl)
    | ((with_reducible refine ret_step ?_); refine ⟨[], rfl, ?_, trivial⟩; conv => whnf)
    | ((with_reducible refine ret_need ?_ ?_); rotate_left; refine ⟨[], rfl, ?_, trivial⟩; conv => whnf)
    | ((with_reducible refine pan_need ?_ ?_); rotate_left; refine ⟨[], rfl, ?_, trivial⟩; conv => whnf)
    | ((with_reducible refine pan_step ?_); refine ⟨[], rfl, ?_, trivial⟩; conv => whnf)
    | (with_reducible refine And.intro ?_ ?_)
    | ((with_reducible refine gs_eq ?_ ?_ ?_); exact rfl; exact rfl; (first | with_reducible exact map_app | with_reducible exact map_app3 | with_reducible exact map_app4 | exact map_snoc | exact rfl | skip))
    | ((with_reducible refine tok_eq ?_ ?_); exact rfl; (first | with_reducible exact map_app | with_reducible exact map_app3 | with_reducible exact map_app4 | exact map_snoc | exact rfl | skip))
    | ((with_reducible refine ren_guard ?_); refine gs_ren ?_ ?_ ?_; exact rfl; exact rfl; (first | exact rfl | skip))
    | exact @rfl AV _
    | exact @rfl Block _
    | exact @rfl (List AV) _
    | exact ble_le rfl
    | fail)
  all_goals first
    | (rfl)
    | skip
set_option maxHeartbeats 8000000 in
theorem law5_ok (p : Pr) (k : Int) (hp : p.Small) (hn : ∀ s ∈ p.stmts, Ref15.nodes s.x ≤ 1073741824) (hv : ∀ t ∈ p.tables, t.values.length ≤ 1073741824) (he : (resolveC p).2 = 0) : PCall Try.prog 5 [p.d, .i k] (.ret (.b true)) := by
  have hx : (resolveC p).1 = xr p := (resolved_form he).2.2.2.2.2.2
  have hps := hp.stmts
  have hlen : p.stmts.length ≤ 9223372036854775807 := by omega
  have hsx : (xr p).Small := small_xr hp
  have hnv : ∀ s ∈ p.stmts, Ref15.nodes (vis (decl p) s.x) ≤ 1073741824 := fun s hs => by rw [nodes_vis he hs]; exact hn s hs
  have c1 : PCall Try.prog 11 [p.d] (.ret (.tuple [xD p, .i 0])) := by have := resolve_call p hp hn; rw [hx, he, xD_eq] at this; exact this
  have c2 : PCall Try.prog 11 [xD p] (.ret (.tuple [xD p, .i 0])) := by have := resolve_call (xr p) hsx (fun s hs => by obtain ⟨t, ht, rfl⟩ := List.mem_map.1 hs; exact hnv t ht); rw [again1 he, xD_eq] at this; exact this
  have c3 : PCall Try.prog 11 [zD k p] (.ret (.tuple [xD p, .i 0])) := by have := resolve_call (againP k (xr p)) (small_again hsx) (fun s hs => by obtain ⟨t, ht, rfl⟩ := List.mem_map.1 hs; obtain ⟨u, hu, rfl⟩ := List.mem_map.1 ht; rw [show Ref15.nodes (indexS k (outS (decl p) u)).x = Ref15.nodes (vis (decl p) u.x) from (alike_indexed k _).nodes]; exact hnv u hu); rw [again2 he, xD_eq, zD_eq] at this; exact this
  have c4 : ∀ s ∈ p.stmts, PCall Try.prog 17 [(vis (decl p) s.x).d, .i k] (.ret (indexed k (vis (decl p) s.x)).d) := fun s hs => indexed_call k _ (hnv s hs)
  have c5 : PCall Try.prog 13 [xD p, xD p] (.ret (.b true)) := by have := same_call (xr p) (xr p); rw [same_refl, xD_eq] at this; exact this
  refine pcall_of_wc tok hmix ⟨[16], []⟩ Try.func5 rfl (by kernel_rfl) (by kernel_rfl) (by kernel_rfl) fun hf => ?_
  clear hf
  repeat' ((try (conv => whnf)) <;> first
    | (with_reducible refine ChooseI.r 31 ?_)
    | with_reducible refine br_nil0 hd0 ?_
    | with_reducible refine br_cons0 hd0 ?_
    | with_reducible exact trivial
    | with_reducible exact rfl
    | with_reducible exact idx_next hd0 ‹_›
    | with_reducible refine BrI.tt ?_
    | with_reducible refine BrI.ff ?_
    | with_reducible refine br_nil hd0 ?_
    | with_reducible refine br_cons hd0 ?_
    | ((with_reducible refine br_nil_k hd0 ?_ ?_); (first | exact rfl | assumption | fail))
    | ((with_reducible refine br_cons_k hd0 ?_ ?_); (first | exact rfl | assumption | fail))
    | with_reducible refine br_nil_and hd0 ?_
    | with_reducible refine br_cons_and hd0 ?_
    | with_reducible refine br_nil_e hd0 ?_
    | with_reducible refine br_cons_e hd0 ?_
    | with_reducible refine BrI.intro (fun h => ?_) (fun h => ?_)
    | (exact Bool.noConfusion (h : false = true))
    | ((with_reducible refine own_app_step ?_ ?_ ?_ ?_ ?_ ?_ ?_ ?_); exact rfl; exact rfl; exact rfl; exact (by decide); exact rfl)
    | ((with_reducible refine own_idx_step ?_ ?_ ?_ ?_ ?_); exact rfl; exact rfl; exact rfl)
    | ((with_reducible refine own_part_step ?_ ?_ ?_ ?_ ?_ ?_); exact rfl; exact rfl; exact ble_le rfl; rotate_left; exact idx_own hI0)
    | ((with_reducible refine own_store_step ?_ ?_ ?_ ?_ ?_ ?_ ?_ ?_ ?_); exact rfl; exact rfl; exact rfl; exact rfl; exact ble_le rfl; exact rfl; rotate_left; (first | exact idx_own hI0 | exact idx_set hI0))
    | ((with_reducible refine freeze_step ?_ ?_ ?_ ?_ ?_ ?_ ?_); exact rfl; exact rfl; exact rfl; exact rfl; exact rfl)
    | ((with_reducible refine LoopAt.mk 16 ?_); refine ⟨⟨Unit, fun _ => [], fun _ => [(9, .cells [.data (.str p.name), .data (.i p.latency), .data (.i p.tail), .data (.sl 3 (p.params.map Bd.cs)), .data (.sl 3 (p.states.map Bd.cs)), .data (.sl 4 (p.lines.map Ln.cs)), .data (.sl 2 (p.tables.map Tb.cs)), .data (.sl 8 (p.stmts.map (agC k p)))]), (5, .cells [.data (.str p.name), .data (.i p.latency), .data (.i p.tail), .data (.sl 3 (p.params.map Bd.cs)), .data (.sl 3 (p.states.map Bd.cs)), .data (.sl 4 (p.lines.map Ln.cs)), .data (.sl 2 (p.tables.map Tb.cs)), .data (.sl 8 (p.stmts.map (outC p)))]), (7, .cells [.data (.str p.name), .data (.i p.latency), .data (.i p.tail), .data (.sl 3 (p.params.map Bd.cs)), .data (.sl 3 (p.states.map Bd.cs)), .data (.sl 4 (p.lines.map Ln.cs)), .data (.sl 2 (p.tables.map Tb.cs)), .data (.sl 8 (p.stmts.map (outC p)))])], [5, 7, 8, 9], fun _ => True, fun _ => 0⟩, ?_, fun _ _ => ?_⟩)
    | (refine ⟨(), trivial, ?_⟩)
    | ((with_reducible refine LoopAt.mk 0 ?_); refine ⟨rangeL (p.stmts) 39 (fun (q : (List Sm) × (List Sm)) => match q with | (dn, rs) => []) (fun (q : (List Sm) × (List Sm)) => match q with | (dn, rs) => [(9, .cells [.data (.str p.name), .data (.i p.latency), .data (.i p.tail), .data (.sl 3 (p.params.map Bd.cs)), .data (.sl 3 (p.states.map Bd.cs)), .data (.sl 4 (p.lines.map Ln.cs)), .data (.sl 2 (p.tables.map Tb.cs)), .own 31 1 8 0 (0 + (p.stmts.map (outC p)).length)]), (31, .arr 1 8 (dn.map (agC k p) ++ rs.map (outC p)))]) [1, 5, 7, 8, 9, 38] (fun i0 r0 q => match q with | (dn, rs) => rs = r0 ∧ dn.length = i0 ∧ dn ++ rs = p.stmts), ?_⟩; with_reducible refine rangeL_rule (([]), (p.stmts)) ?_ ?_ (fun i0 ⟨dn, rs⟩ hd0 hI0 => ?_) (fun i0 x0 r0 ⟨dn, rs⟩ hd0 hl0 hI0 => ?_))
    | (with_reducible refine rangeL_next hd0 ((dn ++ [x0]), (r0)) ?_ ?_)
    | ((with_reducible refine call_step ?_ ?_ ?_); rotate_left; (first | exact sane_call | exact few_call _ (by assumption) (by assumption) (by assumption) | exact Resolve_bad1 _ (by assumption) | exact Resolve_bad2 _ (by assumption) (by assumption) (by assumption) | exact Resolve_bad3 _ (by assumption) (by assumption) (by assumption) (by assumption) (by assumption) | exact Resolve_bad4 _ (by assumption) (by assumption) (by assumption) (by assumption) (by assumption) (by assumption) | exact Resolve_bad5 _ (by assumption) (by assumption) (by assumption) (by assumption) (by assumption) (by assumption) (by assumption) | exact Resolve_run _ (by assumption) (by assumption) (by assumption) (by assumption) (by assumption) (by assumption) (by assumption) | exact indexed_call _ _ (by assumption) | exact same_call _ _ | exact c1 | exact c2 | exact c3 | exact c4 _ (drop_mem hd0) | exact c5 | exact few_call p hp hn hv | fail))
    | with_reducible refine str_idx hd0 ?_
    | (with_reducible refine ChooseI.l _ ?_)
    | ((with_reducible refine nilgs_step ?_ ?_ ?_ ?_ ?_ ?_) <;> exact rfl)
    | ((with_reducible refine tok0_step ?_ ?_ ?_ ?_) <;> exact rfl)
    | ((with_reducible refine kok_step ?_ ?_ ?_); exact rfl; exact rfl)
    | ((with_reducible refine idx_step ?_ ?_ ?_ ?_ ?_); exact rfl; exact rfl; rotate_left; (first | with_reducible exact idx_get ‹_› | with_reducible exact idx_drop hd0 | with_reducible exact idx_take hd0 | with_reducible exact idx_zip1 hd0 | with_reducible exact idx_zip2 hd0 | with_reducible exact idx_zip1e hd0 | with_reducible exact idx_zip2e hd0 | with_reducible exact idx_drop_e hd0 | fail))
    | ((with_reducible refine len_step ?_ ?_); exact rfl)
    | ((with_reducible refine app_step' ?_ ?_ ?_ ?_ ?_ ?_ ?_); exact rfl; exact rfl; exact rfl; exact rfl)
    | ((with_reducible refine nil_step' ?_ ?_ ?_ ?_); exact rfl; exact rfl)
    | ((with_reducible refine guard_step ?_ ?_ (fun hg => ?_) ?_); exact rfl)
    | ((with_reducible refine val_step ?_ ?_); with_reducible exact rfl; with_reducible exact rfl)
    | ((with_reducible refine same_step ?_ ?_); with_reducible exact rfl)
    | ((with_reducible refine chk_step ?_ ?_); kernel_rfl)
    | ((with_reducible refine ret_step ?_); refine ⟨[], rfl, ?_, trivial⟩; conv => whnf)
    | ((with_reducible refine ret_need ?_ ?_); rotate_left; refine ⟨[], rfl, ?_, trivial⟩; conv => whnf)
    | ((with_reducible refine pan_need ?_ ?_); rotate_left; refine ⟨[], rfl, ?_, trivial⟩; conv => whnf)
    | ((with_reducible refine pan_step ?_); refine ⟨[], rfl, ?_, trivial⟩; conv => whnf)
    | (with_reducible refine And.intro ?_ ?_)
    | ((with_reducible refine gs_eq ?_ ?_ ?_); exact rfl; exact rfl; (first | with_reducible exact map_app | with_reducible exact map_app3 | with_reducible exact map_app4 | exact map_snoc | exact rfl | skip))
    | ((with_reducible refine tok_eq ?_ ?_); exact rfl; (first | with_reducible exact map_app | with_reducible exact map_app3 | with_reducible exact map_app4 | exact map_snoc | exact rfl | skip))
    | ((with_reducible refine ren_guard ?_); refine gs_ren ?_ ?_ ?_; exact rfl; exact rfl; (first | exact rfl | skip))
    | exact @rfl AV _
    | exact @rfl Block _
    | exact @rfl (List AV) _
    | exact ble_le rfl
    | fail)
  all_goals first
    | (rfl)
    | ((exact Int.natCast_nonneg _))
    | ((rw [Nat.zero_add, List.length_map]; omega))
    | ((rw [Nat.zero_add, List.length_map]; exact Int.ofNat_lt.2 hl0))
    | ((exact (fin_own hI0).1))
    | ((rw [Nat.zero_add]; exact (fin_own hI0).1))
    | ((rw [List.length_map]; omega))
    | ((exact (fin_own hI0).2))
    | ((refine congrArg (Block.arr 1 8) (set_own hI0 ?_); rfl))
    | ((rw [List.length_append, hI0.2.1]; rfl))
    | ((rw [List.append_assoc, ← hI0.2.2, hI0.1]; rfl))
    | ((refine ⟨rfl, rfl, rfl⟩))
    | skip
end Go.Proofs.Ytgilgdfmohmbdaa

