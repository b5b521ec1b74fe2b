/- Contracts: the reference of ranges: Bounds, Check, Interval, Few; the program's own, joined. -/
import Derived.Test.YtjgponkgifopaaaGreatDoorZRS12
import Derived.Test.YtjgponkgifopaaaGreatDoorZRR
import Derived.Test.YtjgponkgifopaaaGreatDoorZRB
set_option linter.unusedSimpArgs false
set_option linter.unusedVariables false
namespace Go.Proofs.YtjgponkgifopaaaGreatDoor
open Go.Fw Go.Fw.Rg Go.Fw.Nam
set_option maxRecDepth 10000
set_option linter.unusedSectionVars false
variable [GlobInt]
theorem rresolve_at (p : Pr) (g : GoodP p) : PCall Tryz.prog 36 [p.d] (.ret (.tuple [(resolveC p).1.d, .i (resolveC p).2])) := by
  rw [resolve_same]; exact Resolve_call p g.sm g.hn
theorem rsame_at (p : Pr) : PCall Tryz.prog 37 [(resolveC p).1.d, p.d] (.ret (.b (samePr p (resolveC p).1))) := by
  rw [samePr_comm]; exact rsame_call _ _
set_option maxHeartbeats 400000 in
theorem rresolved_call (p : Pr) (g : GoodP p) : PCall Tryz.prog 21 [p.d] (.ret (.i (resE p))) := by
  refine pcall_of_wc tok hmix ⟨[], []⟩ Tryz.func21 rfl (by kernel_rfl) (by kernel_rfl) (by kernel_rfl) fun hf => ?_
  clear hf
  repeat' ((try (conv => whnf)) <;> first
    | with_reducible refine BrI.intro (fun h => ?_) (fun h => ?_)
    | ((with_reducible refine call_step ?_ ?_ ?_); rotate_left; (first | exact rresolve_at p g | exact rsame_at p | fail))
    | ((with_reducible refine ret_step ?_); refine ⟨[], rfl, ?_, trivial⟩; conv => whnf)
    | fail)
  all_goals first
    | ((rw [resE, if_pos h]))
    | ((have h2 := not_t h; rw [resE, if_neg (by rw [‹((resolveC p).2 != 0) = false›]; decide), h2]; rfl))
    | ((have h2 := not_f h; rw [resE, if_neg (by rw [‹((resolveC p).2 != 0) = false›]; decide), h2]; rfl))
    | skip
set_option maxHeartbeats 400000 in
theorem rbounds_no (p : Pr) (g : GoodP p) (he : (resE p != 0) = true) : PCall Tryz.prog 12 [p.d] (.ret (boundsD p)) := by
  refine pcall_of_wc tok hmix ⟨[], []⟩ Tryz.func12 rfl (by kernel_rfl) (by kernel_rfl) (by kernel_rfl) fun hf => ?_
  clear hf
  repeat' ((try (conv => whnf)) <;> first
    | (exact Bool.noConfusion (show true = false from he.symm.trans h))
    | with_reducible refine BrI.intro (fun h => ?_) (fun h => ?_)
    | ((with_reducible refine call_step ?_ ?_ ?_); rotate_left; (first | exact rresolved_call _ (by assumption) | exact range_call _ _ _ (by assumption) (by assumption) (by assumption) (by assumption) (by assumption) | exact rwithin_call _ _ _ _ (by assumption) (by assumption) (by assumption) | exact rresolved_call p g | fail))
    | ((with_reducible refine ret_step ?_); refine ⟨[], rfl, ?_, trivial⟩; conv => whnf)
    | fail)
  all_goals first
    | ((rw [boundsD_no he]; rfl))
    | skip
set_option maxHeartbeats 2000000 in
theorem rbounds_go (p : Pr) (R : Except Int (List Sp)) (FF : List Sp) (g : GoodP p) (he : (resE p != 0) = false) (hR : Rng p) (hw : wfSL p 0 p.stmts = true) (hS : stmtsM p p.stmts [] = R) (hF : stmtsF p p.stmts [] = FF) : PCall Tryz.prog 12 [p.d] (.ret (boundsT R)) := by
  refine pcall_of_wc tok hmix ⟨[], []⟩ Tryz.func12 rfl (by kernel_rfl) (by kernel_rfl) (by kernel_rfl) fun hf => ?_
  have hs5 := g.sm.stmts
  have hlen : p.stmts.length ≤ 9223372036854775807 := by omega
  clear hf
  repeat' ((try (conv => whnf)) <;> first
    | (exact Bool.noConfusion (show false = true from he.symm.trans h))
    | (exact Bool.noConfusion (show true = false from (find_ne0 q1).symm.trans h))
    | (exact Bool.noConfusion (show false = true from h))
    | with_reducible exact trivial
    | with_reducible exact idx_next hd0 ‹_›
    | with_reducible refine br_nil hd0 ?_
    | with_reducible refine br_cons hd0 ?_
    | with_reducible refine BrI.intro (fun h => ?_) (fun h => ?_)
    | (refine rng_step (range_call x0.x p fs hR hI0.ins g.hT (g.hn _ (drop_mem hd0)) (stI_find hI0)) (fun s1 q1 => ?_) (fun e1 q1 => ?_))
    | ((with_reducible refine LoopAt.mk 0 ?_); refine ⟨rangeL (p.stmts) 6 (fun (fs : (List Sp)) => [(5, .gs 900005 2 (fs.map Sp.cs))]) (fun (fs : (List Sp)) => [(900005, .tok 2 (fs.map Sp.cs).length)]) [1] (fun i0 r0 fs => StI p R FF i0 r0 fs), ?_⟩; with_reducible refine rangeL_rule [] ?_ ?_ (fun i0 (fs : (List Sp)) hd0 hI0 => ?_) (fun i0 x0 r0 (fs : (List Sp)) hd0 hl0 hI0 => ?_))
    | (with_reducible refine rangeL_next hd0 (fs ++ [s1]) ?_ ?_)
    | ((with_reducible refine call_step ?_ ?_ ?_); rotate_left; (first | exact rresolved_call _ (by assumption) | exact range_call _ _ _ (by assumption) (by assumption) (by assumption) (by assumption) (by assumption) | exact rwithin_call _ _ _ _ (by assumption) (by assumption) (by assumption) | exact rresolved_call p g | exact rwithin_call p x0 s1 i0 (stI_s hI0) (findM_in hR hI0.ins _ _ (stI_find hI0) q1).1 (findM_in hR hI0.ins _ _ (stI_find hI0) q1).2 | fail))
    | (with_reducible refine ChooseI.l _ ?_)
    | ((with_reducible refine nilgs_step ?_ ?_ ?_ ?_ ?_ ?_) <;> exact rfl)
    | ((with_reducible refine tok0_step ?_ ?_ ?_ ?_) <;> exact rfl)
    | ((with_reducible refine idx_step ?_ ?_ ?_ ?_ ?_); exact rfl; exact rfl; rotate_left; (first | with_reducible exact idx_get ‹_› | with_reducible exact idx_drop hd0 | with_reducible exact idx_take hd0 | with_reducible exact idx_zip1 hd0 | with_reducible exact idx_zip2 hd0 | with_reducible exact idx_zip1e hd0 | with_reducible exact idx_zip2e hd0 | with_reducible exact idx_drop_e hd0 | fail))
    | ((with_reducible refine len_step ?_ ?_); exact rfl)
    | ((with_reducible refine app_step' ?_ ?_ ?_ ?_ ?_ ?_ ?_); exact rfl; exact rfl; exact rfl; exact rfl)
    | ((with_reducible refine chk_step ?_ ?_); kernel_rfl)
    | ((with_reducible refine ret_step ?_); refine ⟨[], rfl, ?_, trivial⟩; conv => whnf)
    | (with_reducible refine And.intro ?_ ?_)
    | ((with_reducible refine gs_eq ?_ ?_ ?_); exact rfl; exact rfl; (first | with_reducible exact map_app | with_reducible exact map_app3 | with_reducible exact map_app4 | exact map_snoc | exact rfl | skip))
    | ((with_reducible refine tok_eq ?_ ?_); exact rfl; (first | with_reducible exact map_app | with_reducible exact map_app3 | with_reducible exact map_app4 | exact map_snoc | exact rfl | skip))
    | exact @rfl AV _
    | exact ble_le rfl
    | fail)
  all_goals first
    | ((exact stI_start hS hF hw))
    | ((rw [(stI_bad1 hI0 q1).1]; rfl))
    | ((rw [(stI_bad2 hI0 q1 (not_t h)).1]; rfl))
    | ((exact stI_next hR hI0 q1 (not_f h)))
    | ((rw [(stI_end hI0).1]; rfl))
    | ((rw [List.length_map]; have := hI0.len; omega))
    | skip
theorem rbounds_call (p : Pr) (g : GoodP p) : PCall Tryz.prog 12 [p.d] (.ret (boundsD p)) := by
  cases he : resE p != 0 with
  | true => exact rbounds_no p g he
  | false =>
    have hz : resE p = 0 := by simpa using he
    rw [boundsD_go hz]
    exact rbounds_go p _ _ g he (resE_res hz).rng (resE_res hz).wf rfl rfl
theorem whole_any (p : Pr) (g : GoodP p) : ∃ pd, PCall Tryz.prog 26 [p.d] (.ret (.tuple [pd, .i (boundsR p).2])) ∧ (((boundsR p).2 != 0) = true → pd = .val (.pointer none) ∨ pd = .ptr (fC p (stmtsF p p.stmts []))) ∧ ((boundsR p).2 = 0 → pd = .ptr (fC p (boundsR p).1)) := by
  cases he : resE p != 0 with
  | true =>
    rw [boundsR_no he]
    refine ⟨.val (.pointer none), ?_, fun _ => .inl rfl, fun h => ?_⟩
    · cases h2 : (resolveC p).2 != 0 with
      | true => rw [show resE p = (resolveC p).2 from by rw [resE, if_pos h2]]; exact whole_e1 p g h2
      | false =>
        cases h3 : samePr p (resolveC p).1 with
        | true => rw [resE, if_neg (by rw [h2]; decide), h3] at he; exact absurd he (by decide)
        | false => rw [show resE p = 150 from by rw [resE, if_neg (by rw [h2]; decide), h3]; rfl]; exact whole_e2 p g h2 h3
    · have h : resE p = 0 := h
      rw [h] at he; exact absurd he (by decide)
  | false =>
    have hz : resE p = 0 := by simpa using he
    have hr := resE_res hz
    have hq := resE_zero hz
    cases hs : stmtsM p p.stmts [] with
    | ok F =>
      rw [boundsR_ok hz hs]
      have hF : stmtsF p p.stmts [] = F := stmF_ok hs
      exact ⟨.ptr (fC p F), whole_ok p F g (by rw [hq]) (by rw [hq]) hr.rng hr.wf hs hF, fun h => Bool.noConfusion (show false = true from h), fun _ => rfl⟩
    | error e =>
      rw [boundsR_bad hz hs]
      refine ⟨.ptr (fC p (stmtsF p p.stmts [])), whole_bad p _ e g (by rw [hq]) (by rw [hq]) hr.rng hr.wf hs rfl, fun _ => .inr rfl, fun h => ?_⟩
      have := stm_ne0 hs
      have h : e = 0 := h
      rw [h] at this; exact absurd this (by decide)
theorem gbounds_call (p : Pr) (g : GoodP p) : PCall Tryz.prog 11 [p.d] (.ret (boundsD p)) := by
  obtain ⟨pd, h1, h2, h3⟩ := whole_any p g
  cases he : (boundsR p).2 != 0 with
  | true =>
    have hb : (boundsR p).1 = [] := boundsR_nil he
    rw [boundsD, hb]
    exact bounds_no p pd _ h1 he
  | false =>
    have hz : (boundsR p).2 = 0 := by simpa using he
    have h3 := h3 hz; subst h3
    rw [boundsD, hz]; rw [hz] at h1
    exact bounds_ok p _ h1
theorem gcheck_call (p : Pr) (g : GoodP p) : PCall Tryz.prog 13 [p.d] (.ret (.i (boundsR p).2)) := by
  obtain ⟨pd, h1, h2, h3⟩ := whole_any p g
  exact check_any p pd _ h1
theorem ginterval_call (p : Pr) (x : Ex) (g : GoodP p) (hx : Ref15.nodes x ≤ 1073741824) : PCall Tryz.prog 15 [p.d, x.d] (.ret (rngT (intervalR p x))) := by
  obtain ⟨pd, h1, h2, h3⟩ := whole_any p g
  cases he : (boundsR p).2 != 0 with
  | true =>
    rw [intR_no he]
    rcases h2 he with r | r
    · subst r; exact int_no1 p x _ h1 he
    · subst r; exact int_no2 p x _ _ h1 he
  | false =>
    have hz : (boundsR p).2 = 0 := by simpa using he
    have h3 := h3 hz; subst h3
    rw [hz] at h1
    have hb := (boundsR_zero hz).1
    cases hx2 : fitsB p x with
    | false => rw [intR_name hz hx2]; exact int_name p x _ h1 hx2
    | true =>
      rw [intR_go hz hx2]
      have hf := gfind_call x p (boundsR p).1 hb.res.rng hb.ins g.hT hx (bok_wf hb hx2)
      cases hm : findM p (boundsR p).1 x with
      | ok s => rw [hm] at hf; exact int_ok p x _ s h1 hx2 hf
      | error e => rw [hm] at hf; exact int_bad p x _ e h1 hx2 hf
set_option maxHeartbeats 400000 in
theorem rcheck_call (p : Pr) (g : GoodP p) : PCall Tryz.prog 17 [p.d] (.ret (.i (boundsR p).2)) := by
  refine pcall_of_wc tok hmix ⟨[], []⟩ Tryz.func17 rfl (by kernel_rfl) (by kernel_rfl) (by kernel_rfl) fun hf => ?_
  clear hf
  repeat' ((try (conv => whnf)) <;> first
    | ((with_reducible refine call_step ?_ ?_ ?_); rotate_left; (first | exact rbounds_no _ (by assumption) (by assumption) | exact rbounds_go _ _ _ (by assumption) (by assumption) (by assumption) (by assumption) (by assumption) (by assumption) | exact rbounds_call p g | fail))
    | ((with_reducible refine ret_step ?_); refine ⟨[], rfl, ?_, trivial⟩; conv => whnf)
    | fail)
  all_goals first
    | skip
set_option maxHeartbeats 400000 in
theorem size_call (x : Ex) (most : Int) (hx : esz x ≤ 1073741824) (hm0 : -1 ≤ most) (hm : most ≤ 1099511627776) : PCall Tryz.prog 25 [x.d, .i most] (.ret (.i (sizeM x most))) := by
  revert hm0 hm; revert most; revert x; refine Ex.ind fun x ih hx most hm0 hm => ?_
  refine pcall_of_wc tok hmix ⟨[], []⟩ Tryz.func25 rfl (by kernel_rfl) (by kernel_rfl) (by kernel_rfl) fun hf => ?_
  have hlen := Ex.fits (hf x.d (by simp))
  have hE := esz_eq x
  have ih2 : ∀ y ∈ x.l, ∀ m c, c = m → -1 ≤ m → m ≤ 1099511627776 → PCall Tryz.prog 25 [y.d, .i c] (.ret (.i (sizeM y m))) := fun y hy m c hc h0 h1 => by subst hc; exact ih y hy (by have := esz_mem hy; omega) c h0 h1
  clear hf
  repeat' ((try (conv => whnf)) <;> first
    | with_reducible exact trivial
    | with_reducible exact idx_next hd0 ‹_›
    | with_reducible refine BrI.intro (fun h => ?_) (fun h => ?_)
    | (exact (nil_bif (css_ge hd0) h).elim)
    | ((with_reducible refine LoopAt.mk 0 ?_); refine ⟨rangeL (x.l) 6 (fun (n : (Int)) => [(5, .data (.val (.int .i64 n)))]) (fun (n : (Int)) => []) [1, 2] (fun i0 r0 n => sizeM x most = sizeL r0 most n ∧ 1 ≤ n ∧ n + eszL r0 ≤ esz x), ?_⟩; with_reducible refine rangeL_rule ?_ ?_ ?_ (fun i0 (n : (Int)) hd0 hI0 => ?_) (fun i0 x0 r0 (n : (Int)) hd0 hl0 hI0 => ?_))
    | (with_reducible refine rangeL_next hd0 ?_ ?_ ?_)
    | ((with_reducible refine call_step ?_ ?_ ?_); rotate_left; (first | exact ih2 _ (drop_mem hd0) (most - n) _ (wrap_ok (by have := bif_le h; omega) (by omega)) (by have := bif_le h; omega) (by omega) | fail))
    | ((with_reducible refine idx_step ?_ ?_ ?_ ?_ ?_); exact rfl; exact rfl; rotate_left; (first | with_reducible exact idx_get ‹_› | with_reducible exact idx_drop hd0 | with_reducible exact idx_take hd0 | with_reducible exact idx_zip1 hd0 | with_reducible exact idx_zip2 hd0 | with_reducible exact idx_zip1e hd0 | with_reducible exact idx_zip2e hd0 | with_reducible exact idx_drop_e hd0 | fail))
    | ((with_reducible refine len_step ?_ ?_); exact rfl)
    | ((with_reducible refine ret_step ?_); refine ⟨[], rfl, ?_, trivial⟩; conv => whnf)
    | (with_reducible refine And.intro ?_ ?_)
    | exact @rfl AV _
    | fail)
  all_goals first
    | ((rw [wrap_ok (by omega) (by omega)]; first | exact sizeM_eq x most | omega))
    | ((have hr := sizeM_rng x0 (most - n); simp only [eszL] at hI0; have hq := bif_le h; rw [wrap_ok (by omega) (by omega)]; first | omega | (rw [hI0.1, sizeL, if_pos hq])))
    | ((refine congrArg D.i ?_; rw [hI0.1, sizeL, if_neg (bif_no (by rw [Ex.css_len]; exact hl0) h)]))
    | ((refine congrArg D.i ?_; rw [hI0.1, sizeL]))
    | skip
end Go.Proofs.YtjgponkgifopaaaGreatDoor
namespace Go.Proofs.YtjgponkgifopaaaGreatDoor
open Go.Fw Go.Fw.Rg Go.Fw.Nam
set_option maxRecDepth 10000
set_option linter.unusedSectionVars false
variable [GlobInt]
set_option maxHeartbeats 4000000 in
theorem rfew_call (p : Pr) (hp : p.Small) (H : FewH p) : PCall Tryz.prog 10 [p.d] (.ret (.b (fewP p))) := by
  refine pcall_of_wc tok hmix ⟨[], []⟩ Tryz.func10 rfl (by kernel_rfl) (by kernel_rfl) (by kernel_rfl) fun hf => ?_
  have hs1 := hp.params; have hs2 := hp.states; have hs3 := hp.lines; have hs4 := hp.tables; have hs5 := hp.stmts; have hs0 := H.nm
  have hl0 : p.tables.length ≤ 9223372036854775807 := by omega
  have hl2 : p.params.length ≤ 9223372036854775807 := by omega
  have hl4 : p.states.length ≤ 9223372036854775807 := by omega
  have hl6 : p.lines.length ≤ 9223372036854775807 := by omega
  have hl8 : p.stmts.length ≤ 9223372036854775807 := by omega
  have hw : IntKind.i64.wrap (IntKind.i64.wrap (IntKind.i64.wrap (IntKind.i64.wrap (IntKind.i64.wrap ((p.name.length : Int) + ((p.params.map Bd.cs).length : Int)) + ((p.states.map Bd.cs).length : Int)) + ((p.lines.map Ln.cs).length : Int)) + ((p.tables.map Tb.cs).length : Int)) + ((p.stmts.map Sm.cs).length : Int)) = few0 p := by rw [wrap_few (by simp only [List.length_map]; omega)]; exact few0_len p
  have hf0 : 0 ≤ few0 p ∧ few0 p ≤ 8796093022208 := by simp only [few0]; omega
  clear hf
  repeat' ((try (conv => whnf)) <;> first
    | (rw [hw])
    | with_reducible exact trivial
    | with_reducible exact idx_next hd8 ‹_›
    | with_reducible exact idx_next hd6 ‹_›
    | with_reducible exact idx_next hd4 ‹_›
    | with_reducible exact idx_next hd2 ‹_›
    | with_reducible exact idx_next hd0 ‹_›
    | with_reducible refine br_nil hd6 ?_
    | with_reducible refine br_nil hd4 ?_
    | with_reducible refine br_nil hd2 ?_
    | with_reducible refine br_nil hd0 ?_
    | with_reducible refine br_cons hd6 ?_
    | with_reducible refine br_cons hd4 ?_
    | with_reducible refine br_cons hd2 ?_
    | with_reducible refine br_cons hd0 ?_
    | with_reducible refine br_nil_and hd8 ?_
    | with_reducible refine br_cons_and hd8 ?_
    | with_reducible refine BrI.intro (fun h => ?_) (fun h => ?_)
    | ((with_reducible refine LoopAt.mk 0 ?_); refine ⟨rangeL (p.tables) 4 (fun (n : (Int)) => [(3, .data (.val (.int .i64 n)))]) (fun (n : (Int)) => []) [1] (fun i0 r0 n => fewP p = decide (fewS p.stmts (fewN p.lines (fewB p.states (fewB p.params (fewT r0 n)))) ≤ 1500) ∧ 0 ≤ n ∧ n ≤ 8796093022208 + i0 * 4294967296 ∧ i0 ≤ p.tables.length), ?_⟩; with_reducible refine rangeL_rule ?_ ?_ ?_ (fun i0 (n : (Int)) hd0 hI0 => ?_) (fun i0 x0 r0 (n : (Int)) hd0 hl0 hI0 => ?_))
    | (with_reducible refine rangeL_next hd0 ?_ ?_ ?_)
    | ((with_reducible refine LoopAt.mk 2 ?_); refine ⟨rangeL (p.params) 5 (fun (n : (Int)) => [(3, .data (.val (.int .i64 n)))]) (fun (n : (Int)) => []) [1] (fun i2 r2 n => fewP p = decide (fewS p.stmts (fewN p.lines (fewB p.states (fewB r2 n))) ≤ 1500) ∧ 0 ≤ n ∧ n ≤ 288239172244733952 + i2 * 4294967296 ∧ i2 ≤ p.params.length), ?_⟩; with_reducible refine rangeL_rule ?_ ?_ ?_ (fun i2 (n : (Int)) hd2 hI2 => ?_) (fun i2 x2 r2 (n : (Int)) hd2 hl2 hI2 => ?_))
    | (with_reducible refine rangeL_next hd2 ?_ ?_ ?_)
    | ((with_reducible refine LoopAt.mk 4 ?_); refine ⟨rangeL (p.states) 6 (fun (n : (Int)) => [(3, .data (.val (.int .i64 n)))]) (fun (n : (Int)) => []) [1] (fun i4 r4 n => fewP p = decide (fewS p.stmts (fewN p.lines (fewB r4 n)) ≤ 1500) ∧ 0 ≤ n ∧ n ≤ 576469548396445696 + i4 * 4294967296 ∧ i4 ≤ p.states.length), ?_⟩; with_reducible refine rangeL_rule ?_ ?_ ?_ (fun i4 (n : (Int)) hd4 hI4 => ?_) (fun i4 x4 r4 (n : (Int)) hd4 hl4 hI4 => ?_))
    | (with_reducible refine rangeL_next hd4 ?_ ?_ ?_)
    | ((with_reducible refine LoopAt.mk 6 ?_); refine ⟨rangeL (p.lines) 7 (fun (n : (Int)) => [(3, .data (.val (.int .i64 n)))]) (fun (n : (Int)) => []) [1] (fun i6 r6 n => fewP p = decide (fewS p.stmts (fewN r6 n) ≤ 1500) ∧ 0 ≤ n ∧ n ≤ 864699924548157440 + i6 * 4294967296 ∧ i6 ≤ p.lines.length), ?_⟩; with_reducible refine rangeL_rule ?_ ?_ ?_ (fun i6 (n : (Int)) hd6 hI6 => ?_) (fun i6 x6 r6 (n : (Int)) hd6 hl6 hI6 => ?_))
    | (with_reducible refine rangeL_next hd6 ?_ ?_ ?_)
    | ((with_reducible refine LoopAt.mk 8 ?_); refine ⟨rangeL (p.stmts) 8 (fun (n : (Int)) => [(3, .data (.val (.int .i64 n)))]) (fun (n : (Int)) => []) [1] (fun i8 r8 n => fewP p = decide (fewS r8 n ≤ 1500) ∧ 0 ≤ n ∧ n ≤ 1152930300699869184 + i8 * 4294967296 ∧ i8 ≤ p.stmts.length), ?_⟩; with_reducible refine rangeL_rule ?_ ?_ ?_ (fun i8 (n : (Int)) hd8 hI8 => ?_) (fun i8 x8 r8 (n : (Int)) hd8 hl8 hI8 => ?_))
    | (with_reducible refine rangeL_next hd8 ?_ ?_ ?_)
    | ((with_reducible refine call_step ?_ ?_ ?_); rotate_left; (first | exact size_call _ _ (by assumption) (by assumption) (by assumption) | exact size_call x8.x 400 (Nat.le_trans (H.stm _ (drop_mem hd8)).2 (by decide)) (by decide) (by decide) | fail))
    | ((with_reducible refine idx_step ?_ ?_ ?_ ?_ ?_); exact rfl; exact rfl; rotate_left; (first | with_reducible exact idx_get ‹_› | with_reducible exact idx_drop hd8 | with_reducible exact idx_take hd8 | with_reducible exact idx_zip1 hd8 | with_reducible exact idx_zip2 hd8 | with_reducible exact idx_zip1e hd8 | with_reducible exact idx_zip2e hd8 | with_reducible exact idx_drop_e hd8 | with_reducible exact idx_drop hd6 | with_reducible exact idx_take hd6 | with_reducible exact idx_zip1 hd6 | with_reducible exact idx_zip2 hd6 | with_reducible exact idx_zip1e hd6 | with_reducible exact idx_zip2e hd6 | with_reducible exact idx_drop_e hd6 | with_reducible exact idx_drop hd4 | with_reducible exact idx_take hd4 | with_reducible exact idx_zip1 hd4 | with_reducible exact idx_zip2 hd4 | with_reducible exact idx_zip1e hd4 | with_reducible exact idx_zip2e hd4 | with_reducible exact idx_drop_e hd4 | with_reducible exact idx_drop hd2 | with_reducible exact idx_take hd2 | with_reducible exact idx_zip1 hd2 | with_reducible exact idx_zip2 hd2 | with_reducible exact idx_zip1e hd2 | with_reducible exact idx_zip2e hd2 | with_reducible exact idx_drop_e hd2 | with_reducible exact idx_drop hd0 | with_reducible exact idx_take hd0 | with_reducible exact idx_zip1 hd0 | with_reducible exact idx_zip2 hd0 | with_reducible exact idx_zip1e hd0 | with_reducible exact idx_zip2e hd0 | with_reducible exact idx_drop_e hd0 | fail))
    | ((with_reducible refine len_step ?_ ?_); exact rfl)
    | ((with_reducible refine chk_step ?_ ?_); kernel_rfl)
    | ((with_reducible refine ret_step ?_); refine ⟨[], rfl, ?_, trivial⟩; conv => whnf)
    | (with_reducible refine And.intro ?_ ?_)
    | exact @rfl AV _
    | exact ble_le rfl
    | fail)
  all_goals first
    | (omega)
    | ((rw [few_no h]))
    | ((exact few_go h))
    | ((have hq := H.tab _ (drop_mem hd0); simp only [List.length_map]; rw [wrap_add2 (by omega) (by omega)]; first | omega | (rw [hI0.1, fewT])))
    | ((have hq := H.par _ (drop_mem hd2); rw [wrap_add1 (by omega) (by omega)]; first | omega | (rw [hI2.1, fewB])))
    | ((have hq := H.sta _ (drop_mem hd4); rw [wrap_add1 (by omega) (by omega)]; first | omega | (rw [hI4.1, fewB])))
    | ((have hq := H.lin _ (drop_mem hd6); rw [wrap_add1 (by omega) (by omega)]; first | omega | (rw [hI6.1, fewN])))
    | ((have hq := H.stm _ (drop_mem hd8); have hz := sizeM_rng x8.x 400; rw [wrap_add3 (by omega) (by omega) (by omega)]; first | omega | (rw [hI8.1, fewS, if_pos (of_decide_eq_true h)])))
    | ((rw [hI8.1, fewS, if_neg (of_decide_eq_false h)]))
    | ((rw [hI8.1, fewS]; done))
    | ((rw [hI6.1, fewN]))
    | ((rw [hI4.1, fewB]))
    | ((rw [hI2.1, fewB]))
    | ((rw [hI0.1, fewT]))
    | skip
set_option maxHeartbeats 400000 in
theorem lnum_call (n : Int)  : PCall Tryz.prog 22 [.i n] (.ret (numM n).d) := by
  refine pcall_of_wc tok hmix ⟨[], []⟩ Tryz.func22 rfl (by kernel_rfl) (by kernel_rfl) (by kernel_rfl) fun hf => ?_
  clear hf
  repeat' ((try (conv => whnf)) <;> first
    | ((with_reducible refine ret_step ?_); refine ⟨[], rfl, ?_, trivial⟩; conv => whnf)
    | fail)
  all_goals first
    | (rfl)
    | skip
set_option maxHeartbeats 400000 in
theorem lapply_call (k : Int) (l : List Ex)  : PCall Tryz.prog 20 [.i k, .sl 5 (Ex.css l)] (.ret (applyM k l).d) := by
  refine pcall_of_wc tok hmix ⟨[], []⟩ Tryz.func20 rfl (by kernel_rfl) (by kernel_rfl) (by kernel_rfl) fun hf => ?_
  clear hf
  repeat' ((try (conv => whnf)) <;> first
    | ((with_reducible refine ret_step ?_); refine ⟨[], rfl, ?_, trivial⟩; conv => whnf)
    | fail)
  all_goals first
    | (rfl)
    | skip
set_option maxHeartbeats 400000 in
theorem lproc_call (a b : Sp) (set : Bool) (y x : Ex)  : PCall Tryz.prog 24 [.agg [.i a.1, .i a.2], .agg [.i b.1, .i b.2], .b set, y.d, x.d] (.ret (Rg.procM a b set y x).d) := by
  refine pcall_of_wc tok hmix ⟨[], []⟩ Tryz.func24 rfl (by kernel_rfl) (by kernel_rfl) (by kernel_rfl) fun hf => ?_
  clear hf
  repeat' ((try (conv => whnf)) <;> first
    | with_reducible refine BrI.intro (fun h => ?_) (fun h => ?_)
    | (with_reducible refine ChooseI.l _ ?_)
    | ((with_reducible refine app_step' ?_ ?_ ?_ ?_ ?_ ?_ ?_); exact rfl; exact rfl; exact rfl; exact rfl)
    | ((with_reducible refine nil_step' ?_ ?_ ?_ ?_); exact rfl; exact rfl)
    | ((with_reducible refine ret_step ?_); refine ⟨[], rfl, ?_, trivial⟩; conv => whnf)
    | (with_reducible refine And.intro ?_ ?_)
    | exact ble_le rfl
    | fail)
  all_goals first
    | (decide)
    | ((subst h; rfl))
    | skip
end Go.Proofs.YtjgponkgifopaaaGreatDoor
