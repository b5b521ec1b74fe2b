/- Contracts: the laws of ranges: RangesNarrow. -/
import Derived.Test.YtjgponkgifopaaaGreatDoorZXF
import Derived.Test.YtjgponkgifopaaaGreatDoorZFY
set_option linter.unusedSimpArgs false
set_option linter.unusedVariables false
namespace Go.Proofs.YtjgponkgifopaaaGreatDoor
open Go.Fw Go.Fw.Rg Go.Fw.Nam
set_option maxRecDepth 10000
set_option linter.unusedSectionVars false
variable [GlobInt]
set_option maxHeartbeats 2000000 in
theorem narrow_early (p : Pr) (a c : Nat) (g : GoodP p) (H : FewH p) (he : (bif (bif !(fewP p) then true else (boundsR p).2 != 0) then true else ((p.params.map Bd.cs).length : Int) == 0) = true) : PCall Tryz.prog 7 [p.d, .val (.int .u8 (a : Int)), .val (.int .u8 (c : Int))] (.ret (.b true)) := by
  refine pcall_of_wc tok hmix ⟨[], []⟩ Tryz.func7 rfl (by kernel_rfl) (by kernel_rfl) (by kernel_rfl) fun hf => ?_
  clear hf
  repeat' ((try (conv => whnf)) <;> first
    | (exact Bool.noConfusion (show false = true from h))
    | (exact Bool.noConfusion (show true = false from he.symm.trans h))
    | with_reducible refine BrI.intro (fun h => ?_) (fun h => ?_)
    | ((with_reducible refine call_step ?_ ?_ ?_); rotate_left; (first | exact rsane_call | exact rfew_call _ (by assumption) (by assumption) | exact rcheck_call _ (by assumption) | exact bounds_no _ _ _ (by assumption) (by assumption) | exact bounds_ok _ _ (by assumption) | exact rsane_call | exact rfew_call p g.sm H | exact rcheck_call p g | fail))
    | ((with_reducible refine guard_step ?_ ?_ (fun hg => ?_) ?_); exact rfl)
    | ((with_reducible refine val_step ?_ ?_); with_reducible exact rfl; with_reducible exact rfl)
    | ((with_reducible refine ret_step ?_); refine ⟨[], rfl, ?_, trivial⟩; conv => whnf)
    | fail)
  all_goals first
    | skip
set_option maxHeartbeats 8000000 in
theorem narrow_ok (p : Pr) (a c : Nat) (F G : List Sp) (g : GoodP p) (H : FewH p) (ha : a ≤ 255) (hc : c ≤ 255) (hne : p.params ≠ []) (hR : Res p) (he : (bif (bif !(fewP p) then true else (boundsR p).2 != 0) then true else ((p.params.map Bd.cs).length : Int) == 0) = false) (hFG : SubL G F) (hl : G.length = F.length) (hF : F.length ≤ 1073741824) (c1 : PCall Tryz.prog 11 [p.d] (.ret (.tuple [.sl 2 (F.map Sp.cs), .i 0]))) (c2 : PCall Tryz.prog 11 [(narP p a c).d] (.ret (.tuple [.sl 2 (G.map Sp.cs), .i 0]))) : PCall Tryz.prog 7 [p.d, .val (.int .u8 (a : Int)), .val (.int .u8 (c : Int))] (.ret (.b true)) := by
  refine pcall_of_wc tok hmix ⟨[11], []⟩ Tryz.func7 rfl (by kernel_rfl) (by kernel_rfl) (by kernel_rfl) fun hf => ?_
  have hlen : F.length ≤ 9223372036854775807 := by omega
  have hpl := g.sm.params
  clear hf
  repeat' ((try (conv => whnf)) <;> first
    | (with_reducible refine ChooseI.r 32 ?_)
    | (exact Bool.noConfusion (show false = true from h))
    | (exact Bool.noConfusion (show true = false from h.symm.trans he))
    | (exact (nar_no (by rw [List.length_map, List.length_map, hl]) h).elim)
    | (exact (nar_in hFG h).elim)
    | (rw [at_walk hpl ha])
    | with_reducible exact trivial
    | with_reducible exact idx_next hd0 ‹_›
    | with_reducible refine br_nil hd0 ?_
    | with_reducible refine br_cons hd0 ?_
    | with_reducible refine BrI.intro (fun h => ?_) (fun h => ?_)
    | ((with_reducible refine own_app_step ?_ ?_ ?_ ?_ ?_ ?_ ?_ ?_); exact rfl; exact rfl; exact rfl; exact (by decide); exact rfl)
    | ((with_reducible refine own_idx_step ?_ ?_ ?_ ?_ ?_); exact rfl; exact rfl; exact rfl)
    | ((with_reducible refine own_load_step ?_ ?_ ?_ ?_ ?_ ?_ ?_); exact rfl; exact rfl; rotate_left 2; (first | exact nar_idx hne | exact nar_idx2 hne); exact rfl)
    | ((with_reducible refine own_store_step ?_ ?_ ?_ ?_ ?_ ?_ ?_ ?_ ?_); exact rfl; exact rfl; exact rfl; exact rfl; exact ble_le rfl; exact rfl; rotate_left; (first | exact nar_idx hne | exact nar_idx2 hne))
    | ((with_reducible refine idx_int ((0, 0) : Sp) ?_ ?_ (Int.natCast_nonneg i0) (Int.ofNat_lt.2 (by omega)) ?_); exact rfl; exact rfl)
    | ((with_reducible refine LoopAt.mk 11 ?_); refine ⟨⟨Unit, fun _ => [], fun _ => [(7, .cells [.data (.str p.name), .data (.i p.latency), .data (.i p.tail), .data (.sl 3 ((narP p a c).params.map Bd.cs)), .data (.sl 3 (p.states.map Bd.cs)), .data (.sl 4 (p.lines.map Ln.cs)), .data (.sl 2 (p.tables.map Tb.cs)), .data (.sl 8 (p.stmts.map Sm.cs))]), (3, .cells (p.cs.map .data))], [3, 7], fun _ => True, fun _ => 0⟩, ?_, fun _ _ => ?_⟩)
    | (refine ⟨(), trivial, ?_⟩)
    | ((with_reducible refine LoopAt.mk 0 ?_); refine ⟨rangeL (F) 106 (fun (_ : Unit) => []) (fun (_ : Unit) => []) [10, 12, 105] (fun i0 r0 _ => True), ?_⟩; with_reducible refine rangeL_rule () ?_ ?_ (fun i0 (_ : Unit) hd0 hI0 => ?_) (fun i0 x0 r0 (_ : Unit) hd0 hl0 hI0 => ?_))
    | (with_reducible refine rangeL_next hd0 () ?_ ?_)
    | ((with_reducible refine call_step ?_ ?_ ?_); rotate_left; (first | exact rsane_call | exact rfew_call _ (by assumption) (by assumption) | exact rcheck_call _ (by assumption) | exact bounds_no _ _ _ (by assumption) (by assumption) | exact bounds_ok _ _ (by assumption) | exact rsane_call | exact rfew_call p g.sm H | exact rcheck_call p g | exact c1 | exact c2 | fail))
    | ((with_reducible refine guard_step ?_ ?_ (fun hg => ?_) ?_); exact rfl)
    | ((with_reducible refine val_step ?_ ?_); with_reducible exact rfl; with_reducible exact rfl)
    | ((with_reducible refine chk_step ?_ ?_); kernel_rfl)
    | ((with_reducible refine ret_step ?_); refine ⟨[], rfl, ?_, trivial⟩; conv => whnf)
    | (with_reducible refine And.intro ?_ ?_)
    | exact @rfl AV _
    | exact ble_le rfl
    | fail)
  all_goals first
    | (rfl)
    | (trivial)
    | ((exact Int.natCast_nonneg _))
    | ((exact Int.ofNat_lt.2 (by rw [Nat.zero_add, List.length_map]; exact at_lt hne)))
    | ((rw [List.length_map]; omega))
    | ((exact Nat.le_trans (Nat.le_of_eq (Nat.zero_add _)) (nar_fin hne hc hR rfl).1))
    | ((exact (nar_fin hne hc hR rfl).2))
    | ((rw [Nat.zero_add, List.length_map]; intro h; have := List.length_pos_iff.2 hne; omega))
    | skip
theorem narrow_law (p : Pr) (a c : Nat) (g : GoodP p) (H : FewH p) (ha : a ≤ 255) (hc : c ≤ 255) : PCall Tryz.prog 7 [p.d, .val (.int .u8 (a : Int)), .val (.int .u8 (c : Int))] (.ret (.b true)) := by
  cases he : (bif (bif !(fewP p) then true else (boundsR p).2 != 0) then true else ((p.params.map Bd.cs).length : Int) == 0) with
  | true => exact narrow_early p a c g H he
  | false =>
    obtain ⟨hz, hn⟩ := nar_few he
    have hne : p.params ≠ [] := fun e => by rw [e] at hn; exact hn rfl
    obtain ⟨hb, h0⟩ := boundsR_zero hz
    have hR := resE_res h0
    obtain ⟨n1, n2, n3⟩ := nar_ok (nar_res (a := a) hc hne hR) hR (nar_nar hc hne hR) rfl hz
    have c1 := gbounds_call p g
    have c2 := gbounds_call (narP p a c) (nar_good g)
    rw [boundsD, hz] at c1
    rw [boundsD, n1] at c2
    exact narrow_ok p a c _ _ g H ha hc hne hR he n2 n3 (by rw [hb.len]; have := g.sm.stmts; omega) c1 c2
end Go.Proofs.YtjgponkgifopaaaGreatDoor
