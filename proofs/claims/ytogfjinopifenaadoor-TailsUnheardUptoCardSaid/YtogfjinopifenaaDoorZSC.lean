/- Contracts: package names: Resolve's body. -/
import Derived.Test.YtogfjinopifenaaDoorZS7
import Derived.Test.YtogfjinopifenaaDoorZS6
set_option linter.unusedSectionVars false
set_option linter.unusedSimpArgs false
set_option linter.unusedVariables false
set_option maxHeartbeats 4000000
namespace Go.Proofs.YtogfjinopifenaaDoor
open Go.Fw Go.Fw.Nam Go.Fw.Ref15
set_option maxRecDepth 10000
variable [af]
theorem Ir (p : Pr) (hF : Nam.formed p = true) (hL : Nam.limited p = true) (hn : ∀ s ∈ p.stmts, Ref15.nodes s.x ≤ 1073741824) (hp : p.Small) (hN : (p.name :: iR (decl p)).all Nam.nmOk = true) (hU : uniq (decl p)) (hR : Nam.ranged p = true) : PCall Tryd.prog 9 [p.d] (.ret (.tuple [(Ref15.fin p [] (EC (decl p) p.stmts 0 [] false)).1.d, .i (Ref15.fin p [] (EC (decl p) p.stmts 0 [] false)).2])) := by
 refine ae tok hmix ⟨[], []⟩ Tryd.func9 rfl (by kernel_rfl) (by kernel_rfl) (by kernel_rfl) fun hf => ?_
 have hlen := (Pr.fits (hf p.d (by simp))).stmts
 have hps := hp.stmts
 clear hf
 repeat' ((try (conv => whnf)) <;> first
  | with_reducible exact trivial
  | with_reducible exact ax hd0 ‹_›
  | with_reducible refine bQ hd0 ?_
  | with_reducible refine bi hd0 ?_
  | with_reducible refine BrI.intro (fun h => ?_) (fun h => ?_)
  | with_reducible refine aS (gZ _) (fun h => ?_) (fun h => ?_)
  | with_reducible refine aS (iP _ (by assumption)) (fun h => ?_) (fun h => ?_)
  | with_reducible refine aS (uP _ (by assumption)) (fun h => ?_) (fun h => ?_)
  | with_reducible refine aS (fF _ _) (fun h => ?_) (fun h => ?_)
  | (exact Bool.noConfusion (h : false = true))
  | (exact Bool.noConfusion (hF.symm.trans h))
  | (exact Bool.noConfusion (hL.symm.trans h))
  | (exact Bool.noConfusion (hR.symm.trans h))
  | ((refine rest_step _ _ _ [true, false, true] ?_ ?_); kernel_rfl)
  | ((with_reducible refine quiet_step ?_ ?_); kernel_rfl)
  | ((with_reducible refine bF ?_ (.data (.b (lq dn e.kind e.index))) (fun hg => ?_) ?_); exact rfl)
  | ((refine Py ?_ ?_); assumption)
  | (refine TD (fun hd => ?_) (fun hd => ?_))
  | (refine Pv (fun e he => ?_) (fun he => ?_))
  | ((refine ⟨_, _, _, [(1000000, 2), (1000001, 3), (1000002, 700003)], sG (.data (.str p.name)) (.data (.i p.latency)) (.data (.i p.tail)) (.data (.sl 3 (p.params.map Bd.cs))) (.data (.sl 3 (p.states.map Bd.cs))) (.data (.sl 4 (p.lines.map Ln.cs))) (.data (.sl 2 (p.tables.map Tb.cs))) (.gs 1000002 8 (ts.map Sm.cs)) (.data (.i 0)) 150 (ts.map Sm.cs).length, rfl, ⟨rfl, rfl, rfl, trivial⟩, ?_, ?_⟩); kernel_rfl)
  | ((refine ⟨_, _, _, [(1000000, 2), (1000001, 3), (1000002, 700003)], sG (.data (.str p.name)) (.data (.i p.latency)) (.data (.i p.tail)) (.data (.sl 3 (p.params.map Bd.cs))) (.data (.sl 3 (p.states.map Bd.cs))) (.data (.sl 4 (p.lines.map Ln.cs))) (.data (.sl 2 (p.tables.map Tb.cs))) (.gs 1000002 8 (ts.map Sm.cs)) (.data (.i 0)) 151 (ts.map Sm.cs).length, rfl, ⟨rfl, rfl, rfl, trivial⟩, ?_, ?_⟩); kernel_rfl)
  | ((refine ⟨_, _, _, [(1000000, 2), (1000001, 3)], Iq (.str p.name) (.i p.latency) (.i p.tail) (.sl 3 (p.params.map Bd.cs)) (.sl 3 (p.states.map Bd.cs)) (.sl 4 (p.lines.map Ln.cs)) (.sl 2 (p.tables.map Tb.cs)) (.sl 8 (ts.map Sm.cs)) (.i 0), rfl, ⟨rfl, rfl, trivial⟩, ?_, ?_⟩); kernel_rfl)
  | (refine ⟨([] : List (Nat × Nat)), rfl, ?_, trivial⟩)
  | ((refine PG (decl p) hd0 hI0 (fun hvb hq1 hq2 => ?_) (fun hvb hq1 hq2 => ?_)) <;> clear hI0)
  | ((with_reducible refine aI.mk 0 ?_); refine ⟨aP (p.stmts) 29 (fun (q : (Bool) × (List Sm) × (List (Int × Int))) => match q with | (out, ts, dn) => [(6, .data (.val (.bool out)))]) (fun (q : (Bool) × (List Sm) × (List (Int × Int))) => match q with | (out, ts, dn) => [(2, .cells [.data (.str p.name), .data (.i p.latency), .data (.i p.tail), .data (.sl 3 (p.params.map Bd.cs)), .data (.sl 3 (p.states.map Bd.cs)), .data (.sl 4 (p.lines.map Ln.cs)), .data (.sl 2 (p.tables.map Tb.cs)), .gs 700003 8 (ts.map Sm.cs)]), (700003, .tok 8 (ts.map Sm.cs).length), (3, .cells [.data (.i 0)]), (4, .cells [.map 800000]), (800000, .map false [.str] (mkM (decl p))), (25, .map true [.int .i64, .int .i64] (dn.map dnC))]) [2, 3, 4, 5, 27, 28, 999999] (fun i0 r0 q => match q with | (out, ts, dn) => Ref15.fin p [] (EC (decl p) p.stmts 0 [] false) = Ref15.fin p ts (EC (decl p) r0 i0 dn out) ∧ ts.length = i0), ?_⟩; with_reducible refine ag (?_, ([]), ([])) ?_ ?_ (fun i0 ⟨out, ts, dn⟩ hd0 hI0 => ?_) (fun i0 x0 r0 ⟨out, ts, dn⟩ hd0 hl0 hI0 => ?_))
  | (with_reducible refine ah hd0 (?_, (ts ++ [outS (decl p) x0]), (uj (decl p) x0 dn)) ?_ ?_)
  | ((with_reducible refine iI [(1000000, 800000)] (Az p hp hN hU) ?_ ?_ ?_ ?_); rotate_left 0; exact rfl; (exact trivial); exact rfl)
  | ((with_reducible refine lent_step' [(1000000, 4), (1000001, 7), (1000002, 9), (1000003, 800000)] (Ky x0.x (decl p) i0 (hn _ (bV hd0)) hvb) ?_ ?_ ?_ ?_); rotate_left 0; exact rfl; (exact ⟨rfl, rfl, rfl, rfl, trivial⟩); exact rfl)
  | ((with_reducible refine lent_step' [(1000000, 4), (1000001, 7), (1000002, 9), (1000003, 800000)] (Q7 x0.x (decl p) i0 (hn _ (bV hd0)) hvb) ?_ ?_ ?_ ?_); rotate_left 0; exact rfl; (exact ⟨rfl, rfl, rfl, rfl, trivial⟩); exact rfl)
  | (with_reducible refine bH.l _ ?_)
  | ((with_reducible refine eF ?_ ?_ ?_ ?_ ?_ ?_) <;> exact rfl)
  | ((with_reducible refine gp ?_ ?_ ?_ ?_) <;> exact rfl)
  | ((with_reducible refine aJ ?_ ?_ ?_ ?_ ?_); exact rfl; exact rfl; rotate_left; (with_reducible exact aG hd0))
  | ((with_reducible refine aW ?_ ?_); exact rfl)
  | ((with_reducible refine app_step' ?_ ?_ ?_ ?_ ?_ ?_ ?_); exact rfl; exact rfl; exact rfl; exact rfl)
  | ((with_reducible refine fB ?_ ?_); with_reducible exact rfl)
  | ((with_reducible refine aA ?_ ?_); kernel_rfl)
  | ((with_reducible refine jW ?_ ?_); kernel_rfl)
  | (with_reducible refine And.intro ?_ ?_)
  | ((with_reducible refine uX ?_ ?_ ?_); exact rfl; exact rfl; (first | skip))
  | ((with_reducible refine pg ?_ ?_); exact rfl; (first | skip))
  | exact @rfl AV _
  | exact @rfl Block _
  | exact kN rfl
  | fail)
 all_goals first
  | (rfl)
  | ((rw [hd]; rfl))
  | ((refine Md (o := out) (b := !lq dn e.kind e.index) ?_ h; assumption))
  | ((refine z08 ?_; assumption))
  | ((refine z09 ?_ (rG he ?_) <;> assumption))
  | ((refine hq1.trans (Vf (WV hvb ?_ (rG he ?_) ?_)) <;> assumption))
  | ((refine hq1.trans (Vf (stop_ok' hvb ?_ ?_)) <;> assumption))
  | ((simp only [List.length_append, List.length_cons, List.length_nil]; omega))
  | ((rw [List.length_map]; have := mg hd0; omega))
  | (((conv => whnf); first | (refine Zh ?_; assumption) | (refine Zi (o := out) ?_ (rG he ?_) ?_ <;> assumption) | (refine xX (x := { p with stmts := ts }) (hI0.1.trans (WY ?_)); assumption) | (refine xX (x := Pr.none) (hI0.1.trans (WZ ?_)); assumption) | (refine xX (x := Pr.none) (hq1.trans (xW (TE hvb) ?_)); decide) | (refine xX (x := Pr.none) (hq1.trans (xW (Pz hvb ?_ he) ?_)) <;> first | assumption | decide) | (refine xX (x := Pr.none) (hq1.trans (xW (PD hvb ?_ he ?_) ?_)) <;> first | assumption | decide) | (refine xX (x := Pr.none) (hq1.trans (xW (PE hvb ?_ (rG he ?_) ?_) ?_)) <;> first | assumption | decide) | (refine xX (x := Pr.none) (hq1.trans (xW (TF hvb ?_ ?_) ?_)) <;> first | assumption | decide)))
  | skip
end Go.Proofs.YtogfjinopifenaaDoor
namespace Go.Proofs.YtogfjinopifenaaDoor
open Go.Fw Go.Fw.Nam Go.Fw.Ref15
set_option maxRecDepth 10000
variable [af]
theorem fG (p : Pr) (hp : p.Small) (hn : ∀ s ∈ p.stmts, Ref15.nodes s.x ≤ 1073741824) : PCall Tryd.prog 9 [p.d] (.ret (.tuple [(resolveC p).1.d, .i (resolveC p).2])) := by
 unfold resolveC
 cases hF : Nam.formed p with
 | false => exact FT p hF
 | true =>
  cases hL : Nam.limited p with
  | false => exact FU p hF hL hn
  | true =>
   cases hN : (p.name :: iR (decl p)).all Nam.nmOk with
   | false => exact FV p hF hL hn hp hN
   | true =>
    cases hU : y7 (iR (decl p)) with
    | false => exact FW p hF hL hn hp hN (fun h => by rw [uniqB_iff.2 h] at hU; simp at hU)
    | true =>
     cases hR : Nam.ranged p with
     | false => exact FX p hF hL hn hp hN (uniqB_iff.1 hU) hR
     | true => exact Ir p hF hL hn hp hN (uniqB_iff.1 hU) hR
end Go.Proofs.YtogfjinopifenaaDoor
