/- Contracts: package names: Resolve's body. -/
import Derived.Test.YtjgponkgifopaaaGreatDoorZS7
import Derived.Test.YtjgponkgifopaaaGreatDoorZS6
import Derived.Test.YtjgponkgifopaaaGreatDoorZDB
import Derived.Test.YtjgponkgifopaaaGreatDoorZRR
set_option linter.unusedSimpArgs false
set_option linter.unusedVariables false
namespace Go.Proofs.YtjgponkgifopaaaGreatDoor
open Go.Fw Go.Fw.Nam Go.Fw.Ref15
set_option maxRecDepth 10000
set_option linter.unusedSectionVars false
variable [GlobInt]
set_option maxHeartbeats 4000000 in
theorem Resolve_run (p : Pr) (hF : Nam.formed p = true) (hL : Nam.limited p = true) (hn : ∀ s ∈ p.stmts, Ref15.nodes s.x ≤ 1073741824) (hp : p.Small) (hN : (p.name :: fsts (decl p)).all Nam.nmOk = true) (hU : uniq (decl p)) (hR : Nam.ranged p = true) : PCall Tryz.prog 38 [p.d] (.ret (.tuple [(Ref15.fin p [] (runS (decl p) p.stmts 0 [] false)).1.d, .i (Ref15.fin p [] (runS (decl p) p.stmts 0 [] false)).2])) := by
  refine pcall_of_wc tok hmix ⟨[], []⟩ Tryz.func38 rfl (by kernel_rfl) (by kernel_rfl) (by kernel_rfl) fun hf => ?_
  have hlen := (Pr.fits (hf p.d (by simp))).stmts
  have hps := hp.stmts
  clear hf
  repeat' ((try (conv => whnf)) <;> first
    | with_reducible exact trivial
    | with_reducible exact idx_next hd0 ‹_›
    | with_reducible refine br_nil hd0 ?_
    | with_reducible refine br_cons hd0 ?_
    | with_reducible refine BrI.intro (fun h => ?_) (fun h => ?_)
    | with_reducible refine need_step (formedP_call _) (fun h => ?_) (fun h => ?_)
    | with_reducible refine need_step (limitedP_call _ (by assumption)) (fun h => ?_) (fun h => ?_)
    | with_reducible refine need_step (rangedP_call _ (by assumption)) (fun h => ?_) (fun h => ?_)
    | with_reducible refine need_step (need_call _ _) (fun h => ?_) (fun h => ?_)
    | (exact Bool.noConfusion (h : false = true))
    | (exact Bool.noConfusion (hF.symm.trans h))
    | (exact Bool.noConfusion (hL.symm.trans h))
    | (exact Bool.noConfusion (hR.symm.trans h))
    | ((refine rest_step _ _ _ [true, false, true] ?_ ?_); kernel_rfl)
    | ((with_reducible refine quiet_step ?_ ?_); kernel_rfl)
    | ((with_reducible refine guard_step ?_ (.data (.b (doneB dn e.kind e.index))) (fun hg => ?_) ?_); exact rfl)
    | ((refine opt_kinds ?_ ?_); assumption)
    | (refine opt_done (fun hd => ?_) (fun hd => ?_))
    | (refine opt_lk (fun e he => ?_) (fun he => ?_))
    | ((refine ⟨_, _, _, [(1000000, 2), (1000001, 3), (1000002, 700003)], resolve1_panT (.data (.str p.name)) (.data (.i p.latency)) (.data (.i p.tail)) (.data (.sl 3 (p.params.map Bd.cs))) (.data (.sl 3 (p.states.map Bd.cs))) (.data (.sl 4 (p.lines.map Ln.cs))) (.data (.sl 2 (p.tables.map Tb.cs))) (.gs 1000002 8 (ts.map Sm.cs)) (.data (.i 0)) 150 (ts.map Sm.cs).length, rfl, ⟨rfl, rfl, rfl, trivial⟩, ?_, ?_⟩); kernel_rfl)
    | ((refine ⟨_, _, _, [(1000000, 2), (1000001, 3), (1000002, 700003)], resolve1_panT (.data (.str p.name)) (.data (.i p.latency)) (.data (.i p.tail)) (.data (.sl 3 (p.params.map Bd.cs))) (.data (.sl 3 (p.states.map Bd.cs))) (.data (.sl 4 (p.lines.map Ln.cs))) (.data (.sl 2 (p.tables.map Tb.cs))) (.gs 1000002 8 (ts.map Sm.cs)) (.data (.i 0)) 151 (ts.map Sm.cs).length, rfl, ⟨rfl, rfl, rfl, trivial⟩, ?_, ?_⟩); kernel_rfl)
    | ((refine ⟨_, _, _, [(1000000, 2), (1000001, 3)], resolve1_ok (.str p.name) (.i p.latency) (.i p.tail) (.sl 3 (p.params.map Bd.cs)) (.sl 3 (p.states.map Bd.cs)) (.sl 4 (p.lines.map Ln.cs)) (.sl 2 (p.tables.map Tb.cs)) (.sl 8 (ts.map Sm.cs)) (.i 0), rfl, ⟨rfl, rfl, trivial⟩, ?_, ?_⟩); kernel_rfl)
    | (refine ⟨([] : List (Nat × Nat)), rfl, ?_, trivial⟩)
    | ((refine vis_split (decl p) hd0 hI0 (fun hvb hq1 hq2 => ?_) (fun hvb hq1 hq2 => ?_)) <;> clear hI0)
    | ((with_reducible refine LoopAt.mk 0 ?_); refine ⟨rangeL (p.stmts) 29 (fun (q : (Bool) × (List Sm) × (List (Int × Int))) => match q with | (out, ts, dn) => [(6, .data (.val (.bool out)))]) (fun (q : (Bool) × (List Sm) × (List (Int × Int))) => match q with | (out, ts, dn) => [(2, .cells [.data (.str p.name), .data (.i p.latency), .data (.i p.tail), .data (.sl 3 (p.params.map Bd.cs)), .data (.sl 3 (p.states.map Bd.cs)), .data (.sl 4 (p.lines.map Ln.cs)), .data (.sl 2 (p.tables.map Tb.cs)), .gs 700003 8 (ts.map Sm.cs)]), (700003, .tok 8 (ts.map Sm.cs).length), (3, .cells [.data (.i 0)]), (4, .cells [.map 800000]), (800000, .map false [.str] (mkM (decl p))), (25, .map true [.int .i64, .int .i64] (dn.map dnC))]) [2, 3, 4, 5, 27, 28, 999999] (fun i0 r0 q => match q with | (out, ts, dn) => Ref15.fin p [] (runS (decl p) p.stmts 0 [] false) = Ref15.fin p ts (runS (decl p) r0 i0 dn out) ∧ ts.length = i0), ?_⟩; with_reducible refine rangeL_rule (?_, ([]), ([])) ?_ ?_ (fun i0 ⟨out, ts, dn⟩ hd0 hI0 => ?_) (fun i0 x0 r0 ⟨out, ts, dn⟩ hd0 hl0 hI0 => ?_))
    | (with_reducible refine rangeL_next hd0 (?_, (ts ++ [outS (decl p) x0]), (doneS (decl p) x0 dn)) ?_ ?_)
    | ((first | with_reducible refine lent_step [(1000000, 800000)] (declare_ok p hp hN hU) ?_ ?_ ?_ ?_ | with_reducible refine lent_step' [(1000000, 800000)] (declare_ok p hp hN hU) ?_ ?_ ?_ ?_ | fail); rotate_left 0; exact rfl; (first | exact trivial | exact ⟨rfl, trivial⟩ | exact ⟨rfl, rfl, trivial⟩ | exact ⟨rfl, rfl, rfl, trivial⟩ | exact ⟨rfl, rfl, rfl, rfl, trivial⟩ | exact ⟨rfl, rfl, rfl, rfl, rfl, trivial⟩ | exact ⟨rfl, rfl, rfl, rfl, rfl, rfl, trivial⟩); exact rfl)
    | ((first | with_reducible refine lent_step [(1000000, 4), (1000001, 7), (1000002, 9), (1000003, 800000)] (visit_ok x0.x (decl p) i0 (hn _ (drop_mem hd0)) hvb) ?_ ?_ ?_ ?_ | with_reducible refine lent_step' [(1000000, 4), (1000001, 7), (1000002, 9), (1000003, 800000)] (visit_ok x0.x (decl p) i0 (hn _ (drop_mem hd0)) hvb) ?_ ?_ ?_ ?_ | fail); rotate_left 0; exact rfl; (first | exact trivial | exact ⟨rfl, trivial⟩ | exact ⟨rfl, rfl, trivial⟩ | exact ⟨rfl, rfl, rfl, trivial⟩ | exact ⟨rfl, rfl, rfl, rfl, trivial⟩ | exact ⟨rfl, rfl, rfl, rfl, rfl, trivial⟩ | exact ⟨rfl, rfl, rfl, rfl, rfl, rfl, trivial⟩); exact rfl)
    | ((first | with_reducible refine lent_step [(1000000, 4), (1000001, 7), (1000002, 9), (1000003, 800000)] (visit_bad x0.x (decl p) i0 (hn _ (drop_mem hd0)) hvb) ?_ ?_ ?_ ?_ | with_reducible refine lent_step' [(1000000, 4), (1000001, 7), (1000002, 9), (1000003, 800000)] (visit_bad x0.x (decl p) i0 (hn _ (drop_mem hd0)) hvb) ?_ ?_ ?_ ?_ | fail); rotate_left 0; exact rfl; (first | exact trivial | exact ⟨rfl, trivial⟩ | exact ⟨rfl, rfl, trivial⟩ | exact ⟨rfl, rfl, rfl, trivial⟩ | exact ⟨rfl, rfl, rfl, rfl, trivial⟩ | exact ⟨rfl, rfl, rfl, rfl, rfl, trivial⟩ | exact ⟨rfl, rfl, rfl, rfl, rfl, rfl, trivial⟩); exact rfl)
    | (with_reducible refine ChooseI.l _ ?_)
    | ((with_reducible refine nilgs_step ?_ ?_ ?_ ?_ ?_ ?_) <;> exact rfl)
    | ((with_reducible refine tok0_step ?_ ?_ ?_ ?_) <;> exact rfl)
    | ((with_reducible refine idx_step ?_ ?_ ?_ ?_ ?_); exact rfl; exact rfl; rotate_left; (first | with_reducible exact idx_get ‹_› | with_reducible exact idx_drop hd0 | with_reducible exact idx_take hd0 | with_reducible exact idx_zip1 hd0 | with_reducible exact idx_zip2 hd0 | with_reducible exact idx_zip1e hd0 | with_reducible exact idx_zip2e hd0 | with_reducible exact idx_drop_e hd0 | fail))
    | ((with_reducible refine len_step ?_ ?_); exact rfl)
    | ((with_reducible refine app_step' ?_ ?_ ?_ ?_ ?_ ?_ ?_); exact rfl; exact rfl; exact rfl; exact rfl)
    | ((with_reducible refine same_step ?_ ?_); with_reducible exact rfl)
    | ((with_reducible refine chk_step ?_ ?_); kernel_rfl)
    | (with_reducible refine And.intro ?_ ?_)
    | ((with_reducible refine gs_eq ?_ ?_ ?_); exact rfl; exact rfl; (first | with_reducible exact map_app | with_reducible exact map_app3 | with_reducible exact map_app4 | exact map_snoc | exact rfl | skip))
    | ((with_reducible refine tok_eq ?_ ?_); exact rfl; (first | with_reducible exact map_app | with_reducible exact map_app3 | with_reducible exact map_app4 | exact map_snoc | exact rfl | skip))
    | exact @rfl AV _
    | exact @rfl Block _
    | exact ble_le rfl
    | fail)
  all_goals first
    | (rfl)
    | ((rw [hd]; rfl))
    | ((refine absurd_out (o := out) (b := !doneB dn e.kind e.index) ?_ h; assumption))
    | ((refine gs_no ?_; assumption))
    | ((refine gs_sp ?_ (target_eq he ?_) <;> assumption))
    | ((refine hq1.trans (fin_go (stop_ok hvb ?_ (target_eq he ?_) ?_)) <;> assumption))
    | ((refine hq1.trans (fin_go (stop_ok' hvb ?_ ?_)) <;> assumption))
    | ((simp only [List.length_append, List.length_cons, List.length_nil]; omega))
    | ((rw [List.length_map]; have := drop_lt hd0; omega))
    | (((conv => whnf); first | (refine map_no ?_; assumption) | (refine map_sp (o := out) ?_ (target_eq he ?_) ?_ <;> assumption) | (refine tup_eq (x := { p with stmts := ts }) (hI0.1.trans (fin_end ?_)); assumption) | (refine tup_eq (x := Pr.none) (hI0.1.trans (fin_bad ?_)); assumption) | (refine tup_eq (x := Pr.none) (hq1.trans (fin_err (stop_vis hvb) ?_)); decide) | (refine tup_eq (x := Pr.none) (hq1.trans (fin_err (stop_none hvb ?_ he) ?_)) <;> first | assumption | decide) | (refine tup_eq (x := Pr.none) (hq1.trans (fin_err (stop_kind hvb ?_ he ?_) ?_)) <;> first | assumption | decide) | (refine tup_eq (x := Pr.none) (hq1.trans (fin_err (stop_done hvb ?_ (target_eq he ?_) ?_) ?_)) <;> first | assumption | decide) | (refine tup_eq (x := Pr.none) (hq1.trans (fin_err (stop_out hvb ?_ ?_) ?_)) <;> first | assumption | decide)))
    | skip
end Go.Proofs.YtjgponkgifopaaaGreatDoor
namespace Go.Proofs.YtjgponkgifopaaaGreatDoor
open Go.Fw Go.Fw.Nam Go.Fw.Ref15
set_option maxRecDepth 10000
set_option linter.unusedSectionVars false
variable [GlobInt]
theorem resolve_call (p : Pr) (hp : p.Small) (hn : ∀ s ∈ p.stmts, Ref15.nodes s.x ≤ 1073741824) : PCall Tryz.prog 38 [p.d] (.ret (.tuple [(resolveC p).1.d, .i (resolveC p).2])) := by
  unfold resolveC
  cases hF : Nam.formed p with
  | false => exact Resolve_bad1 p hF
  | true =>
    cases hL : Nam.limited p with
    | false => exact Resolve_bad2 p hF hL hn
    | true =>
      cases hN : (p.name :: fsts (decl p)).all Nam.nmOk with
      | false => exact Resolve_bad3 p hF hL hn hp hN
      | true =>
        cases hU : uniqB (fsts (decl p)) with
        | false => exact Resolve_bad4 p hF hL hn hp hN (fun h => by rw [uniqB_iff.2 h] at hU; simp at hU)
        | true =>
          cases hR : Nam.ranged p with
          | false => exact Resolve_bad5 p hF hL hn hp hN (uniqB_iff.1 hU) hR
          | true => exact Resolve_run p hF hL hn hp hN (uniqB_iff.1 hU) hR
end Go.Proofs.YtjgponkgifopaaaGreatDoor
