/- Contracts: the specification of the machine: a step, a run. -/
import Derived.Test.YtcfpghieofhfkaaZMS13
import Derived.Test.YtcfpghieofhfkaaZMC
import Derived.Test.YtcfpghieofhfkaaZXC
set_option linter.unusedSimpArgs false
set_option linter.unusedVariables false
namespace Go.Proofs.Ytcfpghieofhfkaa
open Go.Fw Go.Fw.Mac
set_option maxRecDepth 10000
set_option linter.unusedSectionVars false
variable [GlobInt]
theorem perform_any (c : Cd) (par inn sid : List Int) (s : Sta) (F p : PS) (op a : Int) (r : List (Int × Int)) (cd : CdOk c) (E : EnvOk c par inn sid s.lines) (h : StepI c par inn sid s.lines F ((op, a) :: r) p) (hI : InvP c p) (hu : p.pushed.length ≤ 1000000) :
    PCall Try.prog 43 [c.d, pD p, .agg (insC (op, a)), ints par, ints inn, ints sid, s.d] (.ret (pD (oneP c par inn sid s.lines p (op, a)))) := by
  obtain ⟨ver, row, n, regs, values, pu, out⟩ := p
  have hg : regs.length ≤ 1000000 := by have h1 := h.regs; have h2 := cd.regs; simp only at h1; omega
  have hv : values.length ≤ 1000000 := by have h1 := h.values; have h2 := cd.nS; simp only at h1; omega
  have hl : (pu.map (·.1)).length ≤ 1000000 := by rw [List.length_map]; exact hu
  have hl2 : (pu.map (·.2)).length ≤ 1000000 := by rw [List.length_map]; exact hu
  rcases mstep_ops E h with ⟨rfl, ⟨m, rfl, hm, hr⟩⟩ | ⟨rfl, ⟨m, rfl, hm, hr⟩, h0, h1⟩ | ⟨rfl, ⟨m, rfl, hm, hr⟩, h0, h1⟩ | ⟨rfl, ⟨m, rfl, hm, hr⟩, h0, h1⟩ | ⟨rfl, ⟨m, rfl, hm, hr⟩, h0, h1⟩ | ⟨rfl, ⟨m, rfl, hm, hr⟩, h0, h1, h2⟩ | ⟨rfl, ⟨m, rfl, hm, hr⟩, h0, h1⟩ | ⟨rfl, ⟨m, rfl, hm, hr⟩, h0, h1⟩ | ⟨rfl, ⟨m, rfl, hm, hr⟩, h0, h1⟩ | ⟨rfl, ⟨m, rfl, hm, hr⟩, h0, h1, h2, h3, h4⟩ | ⟨rfl, ⟨m, rfl, hm, hr⟩, h0, h1, h3, h4⟩ | ⟨rfl, ⟨m, rfl, hm, hr⟩⟩ | ⟨rfl, ⟨m, rfl, hm, hr⟩⟩ | ⟨rfl, ⟨m, rfl, hm, hr⟩⟩ | ⟨rfl, ⟨m, rfl, hm, hr⟩⟩ | ⟨rfl, ⟨m, rfl, hm, hr⟩⟩ | ⟨rfl, ⟨m, rfl, hm, hr⟩⟩ | ⟨rfl, ⟨m, rfl, hm, hr⟩⟩ | ⟨rfl, ⟨m, rfl, hm, hr⟩⟩ | ⟨rfl, ⟨m, rfl, hm, hr⟩, hb⟩ | ⟨rfl, ⟨m, rfl, hm, hr⟩⟩ | ⟨rfl, ⟨m, rfl, hm, hr⟩⟩
  · exact pcall_out (perf1 c row regs values (pu.map (·.1)) (pu.map (·.2)) m out a par inn sid s hm hr hg hv hl hl2 ) (pd_push (row := row) (m := m) (by omega) rfl)
  · exact pcall_out (perf2 c row regs values (pu.map (·.1)) (pu.map (·.2)) m out a par inn sid s hm hr hg hv hl hl2 h0 h1) (pd_push (row := row) (m := m) (by omega) rfl)
  · exact pcall_out (perf3 c row regs values (pu.map (·.1)) (pu.map (·.2)) m out a par inn sid s hm hr hg hv hl hl2 h0 h1) (pd_push (row := row) (m := m) (by omega) rfl)
  · exact pcall_out (perf4 c row regs values (pu.map (·.1)) (pu.map (·.2)) m out a par inn sid s hm hr hg hv hl hl2 h0 h1) (pd_push (row := row) (m := m) (by omega) rfl)
  · exact pcall_out (perf5 c row regs values (pu.map (·.1)) (pu.map (·.2)) m out a par inn sid s hm hr hg hv hl hl2 h0 h1) rfl
  · exact pcall_out (perf6 c row regs values (pu.map (·.1)) (pu.map (·.2)) m out a par inn sid s hm hr hg hv hl hl2 h0 h1 h2) rfl
  · exact pcall_out (perf7 c row regs values (pu.map (·.1)) (pu.map (·.2)) m out a par inn sid s hm hr hg hv hl hl2 h0 h1) (by show _ = DOut.ret (pD ⟨ver, row, m, regs, values, putI a _ pu, out⟩); rw [putI_new (push_new h cd.nL)]; simp [pD, rD])
  · exact pcall_out (perf8 c row regs values (pu.map (·.1)) (pu.map (·.2)) m out a par inn sid s hm hr hg hv hl hl2 h0 h1) (pd_push (row := row) (m := m) (by omega) rfl)
  · exact pcall_out (perf9 c row regs values (pu.map (·.1)) (pu.map (·.2)) m out a par inn sid s hm hr hg hv hl hl2 h0 h1) (pd_push (row := row) (m := m) (by omega) rfl)
  · exact pcall_out (perf10 c row regs values (pu.map (·.1)) (pu.map (·.2)) m out a par inn sid s hm hr hg hv hl hl2 h0 h1 h2 h3 h4) (pd_push (row := row) (m := m) (by omega) rfl)
  · exact pcall_out (perf11 c row regs values (pu.map (·.1)) (pu.map (·.2)) m out a par inn sid s hm hr hg hv hl hl2 h0 h1 h3 h4) (pd_push (row := row) (m := m) (by omega) rfl)
  · exact pcall_out (perf12 c row regs values (pu.map (·.1)) (pu.map (·.2)) m out a par inn sid s hm hr hg hv hl hl2 ) (pd_push (row := row) (m := m) (by omega) rfl)
  · exact pcall_out (perf13 c row regs values (pu.map (·.1)) (pu.map (·.2)) m out a par inn sid s hm hr hg hv hl hl2 ) (pd_push (row := row) (m := m) (by omega) (congrArg clM (mm_comm _ _ _)))
  · exact pcall_out (perf14 c row regs values (pu.map (·.1)) (pu.map (·.2)) m out a par inn sid s hm hr hg hv hl hl2 ) (pd_push (row := row) (m := m) (by omega) (congrArg clM (mm_comm _ _ _)))
  · exact pcall_out (perf15 c row regs values (pu.map (·.1)) (pu.map (·.2)) m out a par inn sid s hm hr hg hv hl hl2 ) (pd_push (row := row) (m := m) (by omega) rfl)
  · exact pcall_out (perf16 c row regs values (pu.map (·.1)) (pu.map (·.2)) m out a par inn sid s hm hr hg hv hl hl2 ) (pd_push (row := row) (m := m) (by omega) rfl)
  · exact pcall_out (perf17 c row regs values (pu.map (·.1)) (pu.map (·.2)) m out a par inn sid s hm hr hg hv hl hl2 ) (pd_push (row := row) (m := m) (by omega) ((addR_cl (top_bn (n := m + 2) (i := m) hI.row (by omega) hr) (top_bn (n := m + 2) (i := m + 1) hI.row (by omega) hr)).trans ((congrArg clM (Int.add_comm _ _)).trans (addM_cl (top_bn (n := m + 2) (i := m + 1) hI.row (by omega) hr) (top_bn (n := m + 2) (i := m) hI.row (by omega) hr)).symm)))
  · exact pcall_out (perf18 c row regs values (pu.map (·.1)) (pu.map (·.2)) m out a par inn sid s hm hr hg hv hl hl2 ) (pd_push (row := row) (m := m) (by omega) ((addR_cl (top_bn (n := m + 2) (i := m) hI.row (by omega) hr) (neg_bn (top_bn (n := m + 2) (i := m + 1) hI.row (by omega) hr)).2).trans (addM_cl (top_bn (n := m + 2) (i := m) hI.row (by omega) hr) (neg_bn (top_bn (n := m + 2) (i := m + 1) hI.row (by omega) hr)).2).symm))
  · exact pcall_out (perf19 c row regs values (pu.map (·.1)) (pu.map (·.2)) m out a par inn sid s hm hr hg hv hl hl2 (top_bn (n := m + 2) (i := m) hI.row (by omega) hr) (top_bn (n := m + 2) (i := m + 1) hI.row (by omega) hr)) (pd_push (row := row) (m := m) (by omega) (congrArg clM (mul_eq (top_bn (n := m + 2) (i := m + 1) hI.row (by omega) hr) (top_bn (n := m + 2) (i := m) hI.row (by omega) hr)).symm))
  · exact pcall_out (perf20 c row regs values (pu.map (·.1)) (pu.map (·.2)) m out a par inn sid s hm hr hg hv hl hl2 hb) (pd_push (row := row) (m := m) (by omega) (congrArg clM (floor_eq (top_bn (n := m + 1) (i := m) hI.row (by omega) hr) (op20_in h).1 (by have := (op20_in h).2; omega))))
  · exact pcall_out (perf21 c row regs values (pu.map (·.1)) (pu.map (·.2)) m out a par inn sid s hm hr hg hv hl hl2 ) (pd_push (row := row) (m := m) (by omega) rfl)
  · exact pcall_out (perf22 c row regs values (pu.map (·.1)) (pu.map (·.2)) m out a par inn sid s hm hr hg hv hl hl2 ) rfl
set_option maxHeartbeats 4000000 in
theorem once_call (c : Cd) (par inn sid : List Int) (s : Sta) (cd : CdOk c) (E : EnvOk c par inn sid s.lines) (st : StOk c s) : PCall Try.prog 28 [c.d, ints par, ints inn, ints sid, s.d] (.ret (.tuple [.i (onceM c par inn sid s).1, (onceM c par inn sid s).2.d])) := by
  refine pcall_of_wc tok hmix ⟨[], []⟩ Try.func28 rfl (by kernel_rfl) (by kernel_rfl) (by kernel_rfl) fun hf => ?_
  have hr := cd.regs
  have hlen : c.instrs.length ≤ 9223372036854775807 := by have := cd.nI; omega
  have hln : s.lines.length ≤ 16 := by have := st.ls.l; have := cd.nL; omega
  clear hf
  repeat' ((try (conv => whnf)) <;> first
    | (with_reducible refine ChooseI.r 20 ?_)
    | (with_reducible refine ChooseI.r 45 ?_)
    | (have hq := once_end hI0; subst hq)
    | with_reducible exact trivial
    | with_reducible exact idx_next hd2 ‹_›
    | with_reducible exact idx_next hd0 ‹_›
    | with_reducible refine br_nil hd0 ?_
    | with_reducible refine br_cons hd0 ?_
    | ((with_reducible refine br_nil_k hd2 ?_ ?_); (assumption))
    | ((with_reducible refine br_cons_k hd2 ?_ ?_); (assumption))
    | ((with_reducible refine mk_step ?_ ?_ ?_ ?_ ?_); exact hr.1; (exact Int.le_refl _); exact rfl; omega)
    | ((with_reducible refine own_app_step ?_ ?_ ?_ ?_ ?_ ?_ ?_ ?_); exact rfl; exact rfl; exact rfl; exact ble_le rfl; exact rfl; (exact Nat.zero_le _); (rw [List.length_map]; omega))
    | ((with_reducible refine own_idx_step ?_ ?_ ?_ ?_ ?_); exact rfl; exact rfl; exact rfl; exact (push_rng hI2))
    | ((with_reducible refine own_store_step ?_ ?_ ?_ ?_ ?_ ?_ ?_ ?_ ?_); exact rfl; exact rfl; exact rfl; exact rfl; exact ble_le rfl; exact rfl; rotate_left; exact (push_at hI2))
    | ((with_reducible refine idx_step ?_ ?_ ?_ ?_ ?_); exact rfl; exact rfl; rotate_left; exact idx_map hd2)
    | ((with_reducible refine idx_step ?_ ?_ ?_ ?_ ?_); exact rfl; exact rfl; rotate_left; exact (old_at hI2))
    | (exact arr_take rfl)
    | (exact own_len0)
    | (exact own_upd)
    | ((with_reducible refine arr_guard ?_); exact push_arr hI2)
    | (refine ⟨(L.map lnC), ⟨by simp, take_full (by simp)⟩, ?_⟩)
    | ((with_reducible refine LoopAt.mk 0 ?_); refine ⟨rangeL (c.instrs) 13 (fun (p : (PS)) => []) (fun (p : (PS)) => [(12, .cells [.data (ints (p.row.take p.n)), .data (ints p.regs), .data (ints p.values), .data (ints (p.pushed.map (·.1))), .data (ints (p.pushed.map (·.2))), .data (.i p.out)])]) [1, 2, 3, 5, 9, 11, 12] (fun i0 r0 p => OnceI c par inn sid s r0 i0 p), ?_⟩; with_reducible refine rangeL_rule (⟨0, [], 0, List.replicate c.regs.toNat 0, s.values, [], 0⟩) ?_ ?_ (fun i0 (p : (PS)) hd0 hI0 => ?_) (fun i0 x0 r0 (p : (PS)) hd0 hl0 hI0 => ?_))
    | (with_reducible refine rangeL_next hd0 (oneP c par inn sid s.lines p x0) ?_ ?_)
    | ((with_reducible refine LoopAt.mk 2 ?_); have hz2 : (onceP c par inn sid s).pushed.length = (((onceP c par inn sid s).pushed.map (·.1)).map intC).length := (by simp); have hlen2 : (onceP c par inn sid s).pushed.length ≤ 9223372036854775807 := (by have := hI0.len; have := hI0.im; omega); refine ⟨rangeL ((onceP c par inn sid s).pushed) 15 (fun (L : (List (List Int))) => []) (fun (L : (List (List Int))) => [(14, .cells [.data (ints (onceP c par inn sid s).values), .own 45 1 1 0 L.length]), (45, .arr 1 1 (L.map lnC))]) [9, 11, 12, 14] (fun i2 r2 L => PushI c s (onceP c par inn sid s) L r2), ?_⟩; with_reducible refine rangeL_rule (s.lines) ?_ ?_ (fun i2 (L : (List (List Int))) hd2 hI2 => ?_) (fun i2 x2 r2 (L : (List (List Int))) hd2 hl2 hI2 => ?_))
    | (with_reducible refine rangeL_next hd2 (updLn L x2) ?_ ?_)
    | ((with_reducible refine call_step ?_ ?_ ?_); rotate_left; (exact perform_any c par inn sid s (onceP c par inn sid s) p x0.1 x0.2 r0 cd E hI0.st hI0.inv (once_le hI0)))
    | (with_reducible refine ChooseI.l _ ?_)
    | ((with_reducible refine idx_step ?_ ?_ ?_ ?_ ?_); exact rfl; exact rfl; rotate_left; (with_reducible exact idx_drop hd0))
    | ((with_reducible refine len_step ?_ ?_); exact rfl)
    | ((with_reducible refine app_step' ?_ ?_ ?_ ?_ ?_ ?_ ?_); exact rfl; exact rfl; exact rfl; exact rfl)
    | ((with_reducible refine chk_stepP ?_ ?_); kernel_rfl)
    | ((with_reducible refine ret_step ?_); refine ⟨[], rfl, ?_, trivial⟩; conv => whnf)
    | (with_reducible refine And.intro ?_ ?_)
    | exact @rfl AV _
    | exact ble_le rfl
    | fail)
  all_goals first
    | (rfl)
    | ((exact once_start cd st))
    | ((exact once_next' cd E hd0 hI0))
    | ((exact push_start E hI0))
    | ((exact push_next hI2))
    | ((exact (mline_cut (push_sz hI2).1 (push_sz hI2).2).1))
    | ((exact (mline_cut (push_sz hI2).1 (push_sz hI2).2).2))
    | ((exact mline_len (push_sz hI2).2))
    | ((exact once_res hI2))
    | ((simp; done))
    | skip
end Go.Proofs.Ytcfpghieofhfkaa
namespace Go.Proofs.Ytcfpghieofhfkaa
open Go.Fw Go.Fw.Mac
set_option maxRecDepth 10000
set_option linter.unusedSectionVars false
variable [GlobInt]
theorem once_call' (c : Cd) (par inn sid : List Int) (s : Sta) (cd : CdOk c) (E : EnvOk c par inn sid s.lines) (st : StOk c s) (d1 d2 : D) (e1 : d1 = ints inn) (e2 : d2 = ints sid) :
    PCall Try.prog 28 [c.d, ints par, d1, d2, s.d] (.ret (.tuple [.i (onceM c par inn sid s).1, (onceM c par inn sid s).2.d])) := by
  subst e1 e2; exact once_call c par inn sid s cd E st
set_option maxHeartbeats 2000000 in
theorem rstep_call (c : Cd) (par inn sid : List Int) (s : Sta) (g : c.Sm) (hs : s.Sm) (hp : par.length ≤ 1073741824) (hi1 : inn.length ≤ 1073741824) (hi2 : sid.length ≤ 1073741824) : PCall Try.prog 14 [c.d, ints par, ints inn, ints sid, s.d] (.ret (stepD (stepM c par inn sid s))) := by
  refine pcall_of_wc tok hmix ⟨[], []⟩ Try.func14 rfl (by kernel_rfl) (by kernel_rfl) (by kernel_rfl) fun hf => ?_
  clear hf
  repeat' ((try (conv => whnf)) <;> first
    | ((have hG := rs_good (s := s) (par := par) (inn := inn) (sid := sid) g (by assumption) (by assumption) h); clear h)
    | with_reducible refine BrI.intro (fun h => ?_) (fun h => ?_)
    | ((with_reducible refine call_step ?_ ?_ ?_); rotate_left; (first | exact rcheck_call c g | exact params_call c par (cdOk g (okE_yes (by assumption))) hp | exact inputs_call c inn 1 hi1 | exact inputs_call c sid 1 hi2 | exact rstate_call c s (cdOk g (okE_yes (by assumption))) hs | exact once_call c par inn sid s (cdOk g hG.chk) (rs_E g hG) (run_ok g hG).st))
    | ((with_reducible refine guard_step ?_ ?_ (fun hg => ?_) ?_); exact rfl)
    | ((with_reducible refine val_step ?_ ?_); with_reducible exact rfl; with_reducible exact rfl)
    | ((with_reducible refine chk_stepP ?_ ?_); kernel_rfl)
    | ((with_reducible refine ret_step ?_); refine ⟨[], rfl, ?_, trivial⟩; conv => whnf)
    | fail)
  all_goals first
    | ((exact rs_e1 h))
    | ((exact rs_e2 (by assumption) h))
    | ((exact rs_e3 (by assumption) (by assumption) h))
    | ((exact rs_res g hG))
    | skip
set_option maxHeartbeats 4000000 in
theorem rrun_call (c : Cd) (s : Sta) (ps : List (List Int)) (inn sid : List Int) (n fuel : Int) (g : c.Sm) (hs : s.Sm) (hp : ps.length ≤ 1073741824) (hps : ∀ t ∈ ps, t.length ≤ 1073741824) (hi1 : inn.length ≤ 1073741824) (hi2 : sid.length ≤ 1073741824) : PCall Try.prog 18 [c.d, s.d, .sl 1 (ps.map lnC), ints inn, ints sid, .i n, .i fuel] (.ret (runD (runM c s ps inn sid n fuel))) := by
  refine pcall_of_wc tok hmix ⟨[], []⟩ Try.func18 rfl (by kernel_rfl) (by kernel_rfl) (by kernel_rfl) fun hf => ?_
  have hlen : ps.length ≤ 9223372036854775807 := by omega
  clear hf
  repeat' ((try (conv => whnf)) <;> first
    | ((have hA := rr_args (ps := ps) (inn := inn) (sid := sid) (n := n) (fuel := fuel) g (by assumption) h); clear h; (obtain rfl := hA.hnp))
    | ((have hG := rr_good (s := s) (ps := ps) (inn := inn) (sid := sid) (fuel := fuel) g (by assumption) hA hI0 (by assumption) h); clear h)
    | (have hx := run_x hd2 hI2; subst hx)
    | (have hq := steps_end hd2 hI2; subst hq)
    | with_reducible exact trivial
    | with_reducible exact idx_next hd2 ‹_›
    | with_reducible exact idx_next hd0 ‹_›
    | ((with_reducible refine br_nil_k hd2 ?_ ?_); (exact rfl))
    | ((with_reducible refine br_nil_k hd0 ?_ ?_); (exact rfl))
    | ((with_reducible refine br_cons_k hd2 ?_ ?_); (exact rfl))
    | ((with_reducible refine br_cons_k hd0 ?_ ?_); (exact rfl))
    | with_reducible refine BrI.intro (fun h => ?_) (fun h => ?_)
    | ((with_reducible refine LoopAt.mk 0 ?_); refine ⟨rangeL (ps) 18 (fun (_ : Unit) => []) (fun (_ : Unit) => []) [2, 3, 4, 5, 6, 7, 8, 15] (fun i0 r0 _ => firstC c ps 0 = firstC c r0 i0), ?_⟩; with_reducible refine rangeL_rule () ?_ ?_ (fun i0 (_ : Unit) hd0 hI0 => ?_) (fun i0 x0 r0 (_ : Unit) hd0 hl0 hI0 => ?_))
    | (with_reducible refine rangeL_next hd0 () ?_ ?_)
    | ((with_reducible refine LoopAt.mk 2 ?_); refine ⟨rangeL (ps) 20 (fun (k : (Nat)) => [(19, .gs 900019 1 (((List.range k).map (outAt c ps inn sid s)).map intC))]) (fun (k : (Nat)) => [(900019, .tok 1 (((List.range k).map (outAt c ps inn sid s)).map intC).length), (8, .cells [.data (ints (stAt c ps inn sid s k).values), .data (.sl 1 ((stAt c ps inn sid s k).lines.map lnC))])]) [2, 3, 4, 5, 6, 7, 8, 15] (fun i2 r2 k => k = i2 ∧ k ≤ ps.length), ?_⟩; with_reducible refine rangeL_rule (0) ?_ ?_ (fun i2 (k : (Nat)) hd2 hI2 => ?_) (fun i2 x2 r2 (k : (Nat)) hd2 hl2 hI2 => ?_))
    | (with_reducible refine rangeL_next hd2 (k + 1) ?_ ?_)
    | ((with_reducible refine call_step ?_ ?_ ?_); rotate_left; (first | exact rcheck_call c g | exact params_call c x0 (cdOk g (okE_yes (by assumption))) (hps _ (drop_mem hd0)) | exact inputs_call c inn n hi1 | exact inputs_call c sid n hi2 | exact rstate_call c s (cdOk g (okE_yes (by assumption))) hs | exact once_call' c (ps.getD k []) (inn.drop k) (sid.drop k) (stAt c ps inn sid s k) (cdOk g hG.chk) (rr_E g hG (steps_lt hd2 hI2.1)) (rr_st g hG (steps_lt hd2 hI2.1)) _ _ (ints_drop hI2.1) (ints_drop hI2.1)))
    | (with_reducible refine ChooseI.l _ ?_)
    | ((with_reducible refine nilgs_step ?_ ?_ ?_ ?_ ?_ ?_) <;> exact rfl)
    | ((with_reducible refine tok0_step ?_ ?_ ?_ ?_) <;> exact rfl)
    | ((with_reducible refine idx_step ?_ ?_ ?_ ?_ ?_); exact rfl; exact rfl; rotate_left; (first | with_reducible exact idx_drop hd2 | with_reducible exact idx_drop hd0))
    | ((with_reducible refine app_step' ?_ ?_ ?_ ?_ ?_ ?_ ?_); exact rfl; exact rfl; exact rfl; exact rfl)
    | ((with_reducible refine guard_step ?_ ?_ (fun hg => ?_) ?_); exact rfl)
    | ((with_reducible refine val_step ?_ ?_); with_reducible exact rfl; with_reducible exact rfl)
    | ((with_reducible refine chk_stepP ?_ ?_); kernel_rfl)
    | ((with_reducible refine ret_step ?_); refine ⟨[], rfl, ?_, trivial⟩; conv => whnf)
    | (with_reducible refine And.intro ?_ ?_)
    | ((with_reducible refine gs_eq ?_ ?_ ?_); exact rfl; exact rfl; (first | skip))
    | ((with_reducible refine tok_eq ?_ ?_); exact rfl; (first | skip))
    | exact @rfl AV _
    | exact ble_le rfl
    | fail)
  all_goals first
    | (rfl)
    | ((exact rr_e1 h))
    | ((exact rr_e2 (by assumption) h))
    | ((exact rr_e3 (by assumption) hA g hI0 h))
    | ((exact rr_e4 (by assumption) hA g hI0 h))
    | ((exact rr_e5 (by assumption) hA g hI0 (by assumption) h))
    | ((exact firstC_next hI0 h))
    | ((exact rng_snoc))
    | ((rw [List.length_map]; have := drop_lt hd2; have := hA.hinn; have := hA.hsid; have := (cdOk g hG.chk).lat; omega))
    | ((rw [List.length_map, List.length_map, List.length_range]; have := drop_lt hd2; omega))
    | ((exact rr_res g hG))
    | (omega)
    | skip
end Go.Proofs.Ytcfpghieofhfkaa
namespace Go.Proofs.Ytcfpghieofhfkaa
open Go.Fw Go.Fw.Mac
set_option maxRecDepth 10000
set_option linter.unusedSectionVars false
variable [GlobInt]
theorem sn0 : PCall Try.prog 11 [(codeC []).d] (.ret (.tuple [.agg [ints [], .sl 1 []], .i 200])) := start_bad (codeC []) (codeC_sm (by decide)) (by kernel_rfl)
theorem sn1 : PCall Try.prog 11 [heldC.d] (.ret (.tuple [.agg [ints [2], .sl 1 []], .i 0])) := start_ok heldC heldC_sm (by kernel_rfl) (fun x hx => by simp [heldC] at hx)
theorem sna : PCall Try.prog 13 [(codeC [(1, 0), (8, 0), (22, 0)]).d, ints [], ints [7], ints [0], (⟨[], []⟩ : Sta).d] (.ret (.tuple [.i 7, .agg [ints [], .sl 1 []], .i 0])) :=
  pcall_out (mstep_call (codeC [(1, 0), (8, 0), (22, 0)]) [] [7] [0] ⟨[], []⟩ (codeC_sm (by decide)) (sta_sm (by decide)) (by decide) (by decide) (by decide)) (by kernel_rfl)
theorem snb : PCall Try.prog 13 [(codeC [(1, 4611686018427387904), (1, 1), (17, 0), (22, 0)]).d, ints [], ints [0], ints [0], (⟨[], []⟩ : Sta).d] (.ret (.tuple [.i 2147483647, .agg [ints [], .sl 1 []], .i 0])) :=
  pcall_out (mstep_call (codeC [(1, 4611686018427387904), (1, 1), (17, 0), (22, 0)]) [] [0] [0] ⟨[], []⟩ (codeC_sm (by decide)) (sta_sm (by decide)) (by decide) (by decide) (by decide)) (by kernel_rfl)
theorem snc : PCall Try.prog 13 [heldC.d, ints [], ints [0], ints [0], (⟨[2], []⟩ : Sta).d] (.ret (.tuple [.i 5, .agg [ints [5], .sl 1 []], .i 0])) :=
  pcall_out (mstep_call heldC [] [0] [0] ⟨[2], []⟩ heldC_sm (sta_sm (by decide)) (by decide) (by decide) (by decide)) (by kernel_rfl)
theorem snm : PCall Try.prog 13 [heldC.d, ints [], ints [0], ints [0], (⟨[], []⟩ : Sta).d] (.ret (.tuple [.i 0, .agg [ints [], .sl 1 []], .i 180])) :=
  pcall_out (mstep_call heldC [] [0] [0] ⟨[], []⟩ heldC_sm (sta_sm (by decide)) (by decide) (by decide) (by decide)) (by kernel_rfl)
theorem snr1 : PCall Try.prog 17 [(codeC [(1, 1), (22, 0)]).d, (⟨[], []⟩ : Sta).d, .sl 1 ([[], [], []].map lnC), ints [0, 0, 0], ints [0, 0, 0], .i 3, .i 6] (.ret (.tuple [ints [1, 1, 1], .agg [ints [], .sl 1 []], .i 0, .i 0])) :=
  pcall_out (mrun_call (codeC [(1, 1), (22, 0)]) ⟨[], []⟩ [[], [], []] [0, 0, 0] [0, 0, 0] 3 6 (codeC_sm (by decide)) (sta_sm (by decide)) (by decide) (fun t ht => by simp at ht; subst ht; decide) (by decide) (by decide)) (by kernel_rfl)
theorem snr2 : PCall Try.prog 17 [(codeC [(1, 1), (22, 0)]).d, (⟨[], []⟩ : Sta).d, .sl 1 ([[], [], []].map lnC), ints [0, 0, 0], ints [0, 0, 0], .i 3, .i 5] (.ret (.tuple [ints [], .agg [ints [], .sl 1 []], .i 0, .i 201])) :=
  pcall_out (mrun_call (codeC [(1, 1), (22, 0)]) ⟨[], []⟩ [[], [], []] [0, 0, 0] [0, 0, 0] 3 5 (codeC_sm (by decide)) (sta_sm (by decide)) (by decide) (fun t ht => by simp at ht; subst ht; decide) (by decide) (by decide)) (by kernel_rfl)
theorem mstart_any (c : Cd) (g : c.Sm) : PCall Try.prog 11 [c.d] (.ret (.tuple [(startS c).d, .i (okE (checkP c))])) := by
  unfold startS
  cases h : checkP c with
  | false => exact start_bad c g h
  | true => exact start_ok c g h fun x hx => ((cdOk g h).lines x hx).2
theorem rstart_any (c : Cd) (g : c.Sm) : PCall Try.prog 12 [c.d] (.ret (.tuple [(startS c).d, .i (okE (checkP c))])) := by
  unfold startS
  cases h : checkP c with
  | false => exact rstart_bad c g h
  | true => exact rstart_ok c g h
set_option maxHeartbeats 400000 in
theorem code_call (l : List (Int × Int))  : PCall Try.prog 21 [.sl 2 (l.map insC)] (.ret (codeC l).d) := by
  refine pcall_of_wc tok hmix ⟨[], []⟩ Try.func21 rfl (by kernel_rfl) (by kernel_rfl) (by kernel_rfl) fun hf => ?_
  clear hf
  repeat' ((try (conv => whnf)) <;> first
    | ((with_reducible refine ret_step ?_); refine ⟨[], rfl, ?_, trivial⟩; conv => whnf)
    | fail)
  all_goals first
    | (rfl)
    | skip
set_option maxHeartbeats 4000000 in
theorem sane_call   : PCall Try.prog 8 [] (.ret (.b true)) := by
  refine pcall_of_wc tok hmix ⟨[], []⟩ Try.func8 rfl (by kernel_rfl) (by kernel_rfl) (by kernel_rfl) fun hf => ?_
  clear hf
  repeat' ((try (conv => whnf)) <;> first
    | ((with_reducible refine GuardI.mk ?_ ?_); kernel_rfl)
    | ((with_reducible refine mk_step ?_ ?_ ?_ ?_ ?_); decide; decide; exact rfl; decide)
    | ((with_reducible refine call_step ?_ ?_ ?_); rotate_left; (first | exact code_call [(1, 1), (22, 0)] | exact code_call [(1, 0), (8, 0), (22, 0)] | exact code_call [(1, 4611686018427387904), (1, 1), (17, 0), (22, 0)] | exact code_call [(1, 9), (6, 0), (3, 0), (22, 0)] | exact sn0 | exact sn1 | exact sna | exact snb | exact snc | exact snm | exact snr1 | exact snr2 | exact msame_call [2] [2] (by decide) (by decide) | exact msame_call [5] [5] (by decide) (by decide) | exact msame_call [1, 1, 1] [1, 1, 1] (by decide) (by decide)))
    | (with_reducible refine ChooseI.l _ ?_)
    | ((with_reducible refine guard_step ?_ ?_ (fun hg => ?_) ?_); exact rfl)
    | ((with_reducible refine val_step ?_ ?_); with_reducible exact rfl; with_reducible exact rfl)
    | ((with_reducible refine chk_stepP ?_ ?_); kernel_rfl)
    | ((with_reducible refine ret_step ?_); refine ⟨[], rfl, ?_, trivial⟩; conv => whnf)
    | fail)
  all_goals first
    | (rfl)
    | skip
set_option maxHeartbeats 400000 in
theorem few_call (c : Cd) (s : Sta) (ps : List (List Int)) (inn sid : List Int) (g : c.Sm) (hs : s.Sm) (hp : ps.length ≤ 1073741824) : PCall Try.prog 16 [c.d, s.d, .sl 1 (ps.map lnC), ints inn, ints sid] (.ret (.b (fewR c s ps inn sid))) := by
  refine pcall_of_wc tok hmix ⟨[], []⟩ Try.func16 rfl (by kernel_rfl) (by kernel_rfl) (by kernel_rfl) fun hf => ?_
  have hlen : ps.length ≤ 9223372036854775807 := by omega
  clear hf
  repeat' ((try (conv => whnf)) <;> first
    | with_reducible exact trivial
    | with_reducible exact idx_next hd0 ‹_›
    | with_reducible refine br_nil hd0 ?_
    | with_reducible refine br_cons hd0 ?_
    | with_reducible refine BrI.intro (fun h => ?_) (fun h => ?_)
    | ((with_reducible refine LoopAt.mk 0 ?_); refine ⟨rangeL (ps) 15 (fun (_ : Unit) => []) (fun (_ : Unit) => []) [2, 3, 4, 5, 6, 13, 14] (fun i0 r0 _ => anyLong ps = anyLong r0), ?_⟩; with_reducible refine rangeL_rule () ?_ ?_ (fun i0 (_ : Unit) hd0 hI0 => ?_) (fun i0 x0 r0 (_ : Unit) hd0 hl0 hI0 => ?_))
    | (with_reducible refine rangeL_next hd0 () ?_ ?_)
    | ((with_reducible refine call_step ?_ ?_ ?_); rotate_left; (first | exact fewc_call c g | exact fewst_call s hs))
    | ((with_reducible refine idx_step ?_ ?_ ?_ ?_ ?_); exact rfl; exact rfl; rotate_left; (with_reducible exact idx_drop hd0))
    | ((with_reducible refine guard_step ?_ ?_ (fun hg => ?_) ?_); exact rfl)
    | ((with_reducible refine val_step ?_ ?_); with_reducible exact rfl; with_reducible exact rfl)
    | ((with_reducible refine ret_step ?_); refine ⟨[], rfl, ?_, trivial⟩; conv => whnf)
    | (with_reducible refine And.intro ?_ ?_)
    | exact @rfl AV _
    | fail)
  all_goals first
    | ((exact fewR_next hI0 h))
    | ((exact congrArg D.b (fewR_hit hI0 h).symm))
    | ((exact congrArg D.b (fewR_end hI0)))
    | skip
end Go.Proofs.Ytcfpghieofhfkaa
