/- Contracts: the law LexPlaces. -/
import Derived.Test.YtanmpkhhmjfbnaaDoorZLS15
import Derived.Test.YtanmpkhhmjfbnaaDoorZLD19
set_option linter.unusedSimpArgs false
set_option linter.unusedVariables false
namespace Go.Proofs.YtanmpkhhmjfbnaaDoor
open Go.Fw Go.Fw.Lx
set_option maxRecDepth 10000
set_option linter.unusedSectionVars false
variable [GlobInt]
set_option maxHeartbeats 400000 in
theorem spelled_text (t : Tk) (hk : (t.kind != 2) = true) : PCall Tryd.prog 23 [t.d] (.ret (.str t.text)) := by
  refine pcall_of_wc tok hmix ⟨[], []⟩ Tryd.func23 rfl (by kernel_rfl) (by kernel_rfl) (by kernel_rfl) fun hf => ?_
  clear hf
  repeat' ((try (conv => whnf)) <;> first
    | with_reducible exact trivial
    | with_reducible exact rfl
    | with_reducible refine BrI.tt ?_
    | with_reducible refine BrI.ff ?_
    | with_reducible refine BrI.intro (fun h => ?_) (fun h => ?_)
    | (exact Bool.noConfusion (hk.symm.trans h))
    | (with_reducible refine ChooseI.l _ ?_)
    | ((with_reducible refine nilgs_step ?_ ?_ ?_ ?_ ?_ ?_) <;> exact rfl)
    | ((with_reducible refine tok0_step ?_ ?_ ?_ ?_) <;> exact rfl)
    | ((with_reducible refine kok_step ?_ ?_ ?_); exact rfl; exact rfl)
    | ((with_reducible refine idx_step ?_ ?_ ?_ ?_ ?_); exact rfl; exact rfl; rotate_left; (first | with_reducible exact idx_get ‹_› | fail))
    | ((with_reducible refine len_step ?_ ?_); exact rfl)
    | ((with_reducible refine app_step' ?_ ?_ ?_ ?_ ?_ ?_ ?_); exact rfl; exact rfl; exact rfl; exact rfl)
    | ((with_reducible refine nil_step' ?_ ?_ ?_ ?_); exact rfl; exact rfl)
    | ((with_reducible refine guard_step ?_ ?_ (fun hg => ?_) ?_); exact rfl)
    | ((with_reducible refine val_step ?_ ?_); with_reducible exact rfl; with_reducible exact rfl)
    | ((with_reducible refine same_step ?_ ?_); with_reducible exact rfl)
    | ((with_reducible refine chk_step ?_ ?_); kernel_rfl)
    | ((with_reducible refine ret_step ?_); refine ⟨[], rfl, ?_, trivial⟩; conv => whnf)
    | ((with_reducible refine ret_need ?_ ?_); rotate_left; refine ⟨[], rfl, ?_, trivial⟩; conv => whnf)
    | ((with_reducible refine pan_need ?_ ?_); rotate_left; refine ⟨[], rfl, ?_, trivial⟩; conv => whnf)
    | ((with_reducible refine pan_step ?_); refine ⟨[], rfl, ?_, trivial⟩; conv => whnf)
    | (with_reducible refine And.intro ?_ ?_)
    | ((with_reducible refine gs_eq ?_ ?_ ?_); exact rfl; exact rfl; (first | with_reducible exact map_app | with_reducible exact map_app3 | with_reducible exact map_app4 | exact map_snoc | exact rfl | skip))
    | ((with_reducible refine tok_eq ?_ ?_); exact rfl; (first | with_reducible exact map_app | with_reducible exact map_app3 | with_reducible exact map_app4 | exact map_snoc | exact rfl | skip))
    | ((with_reducible refine ren_guard ?_); refine gs_ren ?_ ?_ ?_; exact rfl; exact rfl; (first | exact rfl | skip))
    | exact @rfl AV _
    | exact @rfl Block _
    | exact @rfl (List AV) _
    | exact ble_le rfl
    | fail)
  all_goals (try simp only [Bool.cond_true_left, Bool.cond_false_right, Bool.cond_false_left, Bool.cond_true_right, Bool.not_eq_true', Bool.not_eq_false', bne, Ex.css_len, List.length_map, Int.toNat_zero] at *)
  all_goals first
    | omega
    | (rfl)
    | (exfalso; simp_all; done)
    | skip
set_option maxHeartbeats 400000 in
theorem spelled_num (K P : Int) (X : Str) (N : Nat) (hk : (K != 2) = false) (hN : N ≤ 1099511627776) : PCall Tryd.prog 23 [.agg [.i K, .str X, .i (N : Nat), .i P]] (.ret (.str (Lib.decDigits N))) := by
  refine pcall_of_wc tok hmix ⟨[], []⟩ Tryd.func23 rfl (by kernel_rfl) (by kernel_rfl) (by kernel_rfl) fun hf => ?_
  clear hf
  repeat' ((try (conv => whnf)) <;> first
    | with_reducible exact trivial
    | with_reducible exact rfl
    | with_reducible refine BrI.tt ?_
    | with_reducible refine BrI.ff ?_
    | with_reducible refine BrI.intro (fun h => ?_) (fun h => ?_)
    | (exact Bool.noConfusion (hk.symm.trans h))
    | ((with_reducible refine bytes_step ?_ ?_ ?_ ?_); exact rfl; rotate_left; refine dig_bytes ?_)
    | ((with_reducible refine LoopAt.mk 0 ?_); refine ⟨whileL (fun (q : (Nat) × (List UInt8)) => match q with | (n, s) => [(4, .data (.val (.int .i64 (n : Nat)))), (3, .data (.str s))]) (fun (q : (Nat) × (List UInt8)) => match q with | (n, s) => []) [] (fun (q : (Nat) × (List UInt8)) => match q with | (n, s) => SpD N n s) (fun (q : (Nat) × (List UInt8)) => match q with | (n, s) => n), ?_⟩; with_reducible refine whileL_rule ((N), ([])) ?_ ?_ (fun ⟨n, s⟩ hI0 => ?_))
    | (with_reducible refine whileL_next ((n / 10), ([digI (n : Int)] ++ s)) ?_ ?_ ?_)
    | (with_reducible refine ChooseI.l _ ?_)
    | ((with_reducible refine nilgs_step ?_ ?_ ?_ ?_ ?_ ?_) <;> exact rfl)
    | ((with_reducible refine tok0_step ?_ ?_ ?_ ?_) <;> exact rfl)
    | ((with_reducible refine kok_step ?_ ?_ ?_); exact rfl; exact rfl)
    | ((with_reducible refine idx_step ?_ ?_ ?_ ?_ ?_); exact rfl; exact rfl; rotate_left; (first | with_reducible exact idx_get ‹_› | fail))
    | ((with_reducible refine len_step ?_ ?_); exact rfl)
    | ((with_reducible refine app_step' ?_ ?_ ?_ ?_ ?_ ?_ ?_); exact rfl; exact rfl; exact rfl; exact rfl)
    | ((with_reducible refine nil_step' ?_ ?_ ?_ ?_); exact rfl; exact rfl)
    | ((with_reducible refine guard_step ?_ ?_ (fun hg => ?_) ?_); exact rfl)
    | ((with_reducible refine val_step ?_ ?_); with_reducible exact rfl; with_reducible exact rfl)
    | ((with_reducible refine same_step ?_ ?_); with_reducible exact rfl)
    | ((with_reducible refine chk_step ?_ ?_); kernel_rfl)
    | ((with_reducible refine ret_step ?_); refine ⟨[], rfl, ?_, trivial⟩; conv => whnf)
    | ((with_reducible refine ret_need ?_ ?_); rotate_left; refine ⟨[], rfl, ?_, trivial⟩; conv => whnf)
    | ((with_reducible refine pan_need ?_ ?_); rotate_left; refine ⟨[], rfl, ?_, trivial⟩; conv => whnf)
    | ((with_reducible refine pan_step ?_); refine ⟨[], rfl, ?_, trivial⟩; conv => whnf)
    | (with_reducible refine And.intro ?_ ?_)
    | ((with_reducible refine gs_eq ?_ ?_ ?_); exact rfl; exact rfl; (first | with_reducible exact map_app | with_reducible exact map_app3 | with_reducible exact map_app4 | exact map_snoc | exact rfl | skip))
    | ((with_reducible refine tok_eq ?_ ?_); exact rfl; (first | with_reducible exact map_app | with_reducible exact map_app3 | with_reducible exact map_app4 | exact map_snoc | exact rfl | skip))
    | ((with_reducible refine ren_guard ?_); refine gs_ren ?_ ?_ ?_; exact rfl; exact rfl; (first | exact rfl | skip))
    | exact @rfl AV _
    | exact @rfl Block _
    | exact @rfl (List AV) _
    | exact ble_le rfl
    | fail)
  all_goals first
    | (rfl)
    | ((exact spD_start _))
    | ((exact Int.natCast_nonneg _))
    | ((exact spD_mu h))
    | (decide)
    | ((exact spD_next hI0 h))
    | ((exact spD_end hI0 h))
    | ((exact spD_app (s := s) (b := [digI (n : Int)]) (spD_len hN hI0) rfl))
    | (((conv => whnf); exact congrArg (fun z => AV.data (D.val (.int .i64 z))) (div_wrap (by have := hI0.le; omega))))
    | (((conv => whnf); exact congrArg (fun z => AV.data (D.i z)) (div_wrap (by have := hI0.le; omega))))
    | skip
theorem spelled_is {t : Tk} (hv : valid t = true) : PCall Tryd.prog 23 [t.d] (.ret (.str (word t))) := by
  cases hk : (t.kind != 2) with
  | true =>
    have := spelled_text t hk
    have e : (t.kind == 2) = false := by simpa [bne] using hk
    rw [word, e]; exact this
  | false =>
    have e : (t.kind == 2) = true := by simpa [bne] using hk
    obtain ⟨kind, text, n, pos⟩ := t
    have e : (kind == 2) = true := e
    have hb := valid_dec (t := ⟨kind, text, n, pos⟩) (by rw [valid_eq, hv]; rfl) e
    have h0 : 0 ≤ n := hb.1
    have h1 : n ≤ 1099511627776 := hb.2
    have := spelled_num kind pos text n.toNat hk (by omega)
    rw [Int.toNat_of_nonneg h0] at this
    have hw : word ⟨kind, text, n, pos⟩ = Lib.decDigits n.toNat := by
      rw [word]; simp only [e, if_true]; rw [Lib.itoa, if_neg (by omega)]
    rw [hw]; exact this
set_option maxHeartbeats 400000 in
theorem places_early (src : Str) (hE : decide ((src.length : Int) > 3000) = true) : PCall Tryd.prog 6 [.str src] (.ret (.b true)) := by
  refine pcall_of_wc tok hmix ⟨[], []⟩ Tryd.func6 rfl (by kernel_rfl) (by kernel_rfl) (by kernel_rfl) fun hf => ?_
  clear hf
  repeat' ((try (conv => whnf)) <;> first
    | with_reducible exact trivial
    | with_reducible exact rfl
    | with_reducible refine BrI.tt ?_
    | with_reducible refine BrI.ff ?_
    | with_reducible refine BrI.intro (fun h => ?_) (fun h => ?_)
    | (exact Bool.noConfusion (hE.symm.trans h))
    | ((with_reducible refine call_step ?_ ?_ ?_); rotate_left; (first | exact sane_call | exact space_call' _ | exact sane_call | fail))
    | (with_reducible refine ChooseI.l _ ?_)
    | ((with_reducible refine nilgs_step ?_ ?_ ?_ ?_ ?_ ?_) <;> exact rfl)
    | ((with_reducible refine tok0_step ?_ ?_ ?_ ?_) <;> exact rfl)
    | ((with_reducible refine kok_step ?_ ?_ ?_); exact rfl; exact rfl)
    | ((with_reducible refine idx_step ?_ ?_ ?_ ?_ ?_); exact rfl; exact rfl; rotate_left; (first | with_reducible exact idx_get ‹_› | fail))
    | ((with_reducible refine len_step ?_ ?_); exact rfl)
    | ((with_reducible refine app_step' ?_ ?_ ?_ ?_ ?_ ?_ ?_); exact rfl; exact rfl; exact rfl; exact rfl)
    | ((with_reducible refine nil_step' ?_ ?_ ?_ ?_); exact rfl; exact rfl)
    | ((with_reducible refine guard_step ?_ ?_ (fun hg => ?_) ?_); exact rfl)
    | ((with_reducible refine val_step ?_ ?_); with_reducible exact rfl; with_reducible exact rfl)
    | ((with_reducible refine same_step ?_ ?_); with_reducible exact rfl)
    | ((with_reducible refine chk_step ?_ ?_); kernel_rfl)
    | ((with_reducible refine ret_step ?_); refine ⟨[], rfl, ?_, trivial⟩; conv => whnf)
    | ((with_reducible refine ret_need ?_ ?_); rotate_left; refine ⟨[], rfl, ?_, trivial⟩; conv => whnf)
    | ((with_reducible refine pan_need ?_ ?_); rotate_left; refine ⟨[], rfl, ?_, trivial⟩; conv => whnf)
    | ((with_reducible refine pan_step ?_); refine ⟨[], rfl, ?_, trivial⟩; conv => whnf)
    | (with_reducible refine And.intro ?_ ?_)
    | ((with_reducible refine gs_eq ?_ ?_ ?_); exact rfl; exact rfl; (first | with_reducible exact map_app | with_reducible exact map_app3 | with_reducible exact map_app4 | exact map_snoc | exact rfl | skip))
    | ((with_reducible refine tok_eq ?_ ?_); exact rfl; (first | with_reducible exact map_app | with_reducible exact map_app3 | with_reducible exact map_app4 | exact map_snoc | exact rfl | skip))
    | ((with_reducible refine ren_guard ?_); refine gs_ren ?_ ?_ ?_; exact rfl; exact rfl; (first | exact rfl | skip))
    | exact @rfl AV _
    | exact @rfl Block _
    | exact @rfl (List AV) _
    | exact ble_le rfl
    | fail)
  all_goals (try simp only [Bool.cond_true_left, Bool.cond_false_right, Bool.cond_false_left, Bool.cond_true_right, Bool.not_eq_true', Bool.not_eq_false', bne, Ex.css_len, List.length_map, Int.toNat_zero] at *)
  all_goals first
    | omega
    | (rfl)
    | (exfalso; simp_all; done)
    | skip
set_option maxHeartbeats 400000 in
theorem places_err (src : Str) (e : Nat) (hE : decide ((src.length : Int) > 3000) = false) (b1 : decide ((src.length : Int) > 65536) = false) (e1 : lexR pStep src 0 = .error e) : PCall Tryd.prog 6 [.str src] (.ret (.b true)) := by
  refine pcall_of_wc tok hmix ⟨[], []⟩ Tryd.func6 rfl (by kernel_rfl) (by kernel_rfl) (by kernel_rfl) fun hf => ?_
  clear hf
  repeat' ((try (conv => whnf)) <;> first
    | with_reducible exact trivial
    | with_reducible exact rfl
    | with_reducible refine BrI.tt ?_
    | with_reducible refine BrI.ff ?_
    | with_reducible refine BrI.intro (fun h => ?_) (fun h => ?_)
    | (exact Bool.noConfusion (hE.symm.trans h))
    | ((with_reducible refine call_step ?_ ?_ ?_); rotate_left; (first | exact sane_call | exact space_call' _ | exact sane_call | exact lex_is b1 e1 | fail))
    | (with_reducible refine ChooseI.l _ ?_)
    | ((with_reducible refine nilgs_step ?_ ?_ ?_ ?_ ?_ ?_) <;> exact rfl)
    | ((with_reducible refine tok0_step ?_ ?_ ?_ ?_) <;> exact rfl)
    | ((with_reducible refine kok_step ?_ ?_ ?_); exact rfl; exact rfl)
    | ((with_reducible refine idx_step ?_ ?_ ?_ ?_ ?_); exact rfl; exact rfl; rotate_left; (first | with_reducible exact idx_get ‹_› | fail))
    | ((with_reducible refine len_step ?_ ?_); exact rfl)
    | ((with_reducible refine app_step' ?_ ?_ ?_ ?_ ?_ ?_ ?_); exact rfl; exact rfl; exact rfl; exact rfl)
    | ((with_reducible refine nil_step' ?_ ?_ ?_ ?_); exact rfl; exact rfl)
    | ((with_reducible refine guard_step ?_ ?_ (fun hg => ?_) ?_); exact rfl)
    | ((with_reducible refine val_step ?_ ?_); with_reducible exact rfl; with_reducible exact rfl)
    | ((with_reducible refine same_step ?_ ?_); with_reducible exact rfl)
    | ((with_reducible refine chk_step ?_ ?_); kernel_rfl)
    | ((with_reducible refine ret_step ?_); refine ⟨[], rfl, ?_, trivial⟩; conv => whnf)
    | ((with_reducible refine ret_need ?_ ?_); rotate_left; refine ⟨[], rfl, ?_, trivial⟩; conv => whnf)
    | ((with_reducible refine pan_need ?_ ?_); rotate_left; refine ⟨[], rfl, ?_, trivial⟩; conv => whnf)
    | ((with_reducible refine pan_step ?_); refine ⟨[], rfl, ?_, trivial⟩; conv => whnf)
    | (with_reducible refine And.intro ?_ ?_)
    | ((with_reducible refine gs_eq ?_ ?_ ?_); exact rfl; exact rfl; (first | with_reducible exact map_app | with_reducible exact map_app3 | with_reducible exact map_app4 | exact map_snoc | exact rfl | skip))
    | ((with_reducible refine tok_eq ?_ ?_); exact rfl; (first | with_reducible exact map_app | with_reducible exact map_app3 | with_reducible exact map_app4 | exact map_snoc | exact rfl | skip))
    | ((with_reducible refine ren_guard ?_); refine gs_ren ?_ ?_ ?_; exact rfl; exact rfl; (first | exact rfl | skip))
    | exact @rfl AV _
    | exact @rfl Block _
    | exact @rfl (List AV) _
    | exact ble_le rfl
    | fail)
  all_goals first
    | ((exact Bool.noConfusion h))
    | (rfl)
    | skip
set_option maxHeartbeats 4000000 in
theorem places_ok (src : Str) (l : List Tk) (hE : decide ((src.length : Int) > 3000) = false) (hs : src.length ≤ 1073741824) (b1 : decide ((src.length : Int) > 65536) = false) (e1 : lexR pStep src 0 = .ok l) : PCall Tryd.prog 6 [.str src] (.ret (.b true)) := by
  refine pcall_of_wc tok hmix ⟨[], []⟩ Tryd.func6 rfl (by kernel_rfl) (by kernel_rfl) (by kernel_rfl) fun hf => ?_
  clear hf
  repeat' ((try (conv => whnf)) <;> first
    | with_reducible exact trivial
    | with_reducible exact rfl
    | with_reducible refine BrI.tt ?_
    | with_reducible refine BrI.ff ?_
    | with_reducible refine BrI.intro (fun h => ?_) (fun h => ?_)
    | (exact Bool.noConfusion (hE.symm.trans h))
    | (exact (end_no hkl hI0.len h).elim)
    | ((with_reducible refine idx_step ?_ ?_ ?_ ?_ ?_); exact rfl; exact rfl; rotate_left; with_reducible exact idx_drop hx)
    | ((with_reducible refine idx_tk ?_ ?_ h (fun x r hx => ?_)); exact rfl; exact rfl)
    | ((with_reducible refine str_at (inn_lt hI2 h) ?_))
    | ((with_reducible refine str_at1 ?_ (inn_lt2 hs hI2 hg) ?_); (have := inn_lt hI2 h; omega))
    | ((with_reducible refine incut_stop ?_); rw [tok_wrap hs (tokF e1 hx hI2 ‹decide ((j : Int) < x.pos) = false›)])
    | ((with_reducible refine LoopAt.mk 2 ?_); refine ⟨whileL (fun (q : (Nat) × (Bool)) => match q with | (j, c) => [(6, .data (.val (.int .i64 (j : Nat)))), (9, .data (.val (.bool c)))]) (fun (q : (Nat) × (Bool)) => match q with | (j, c) => []) [0, 3, 7, 8] (fun (q : (Nat) × (Bool)) => match q with | (j, c) => Inn src (x :: r) x.pos j c) (fun (q : (Nat) × (Bool)) => match q with | (j, c) => src.length - j), ?_⟩; with_reducible refine whileL_rule ((i), (false)) ?_ ?_ (fun ⟨j, c⟩ hI2 => ?_))
    | (with_reducible refine whileL_next ((j + 1), (cmB src j x.pos c)) ?_ ?_ ?_)
    | ((with_reducible refine LoopAt.mk 2 ?_); have hkl : decide ((k : Int) < ((l.map Tk.cs).length : Int)) = false := (by assumption); refine ⟨whileL (fun (q : (Nat) × (Bool)) => match q with | (j, c) => [(6, .data (.val (.int .i64 (j : Nat)))), (9, .data (.val (.bool c)))]) (fun (q : (Nat) × (Bool)) => match q with | (j, c) => []) [0, 3, 7, 8] (fun (q : (Nat) × (Bool)) => match q with | (j, c) => Inn src [] (src.length : Int) j c) (fun (q : (Nat) × (Bool)) => match q with | (j, c) => src.length - j), ?_⟩; with_reducible refine whileL_rule ((i), (false)) ?_ ?_ (fun ⟨j, c⟩ hI2 => ?_))
    | (with_reducible refine whileL_next ((j + 1), (cmB src j (src.length : Int) c)) ?_ ?_ ?_)
    | ((with_reducible refine LoopAt.mk 0 ?_); refine ⟨whileL (fun (q : (Nat) × (Nat)) => match q with | (i, k) => [(6, .data (.val (.int .i64 (i : Nat)))), (7, .data (.val (.int .i64 (k : Nat))))]) (fun (q : (Nat) × (Nat)) => match q with | (i, k) => []) [0, 3] (fun (q : (Nat) × (Nat)) => match q with | (i, k) => PlI src l i k) (fun (q : (Nat) × (Nat)) => match q with | (i, k) => l.length - k), ?_⟩; with_reducible refine whileL_rule ((0), (0)) ?_ ?_ (fun ⟨i, k⟩ hI0 => ?_))
    | (with_reducible refine whileL_next ((j + (word x).length), (k + 1)) ?_ ?_ ?_)
    | ((with_reducible refine call_step ?_ ?_ ?_); rotate_left; (first | exact sane_call | exact space_call' _ | exact sane_call | exact lex_is b1 e1 | (refine spelled_is (tokF e1 hx hI2 ?_).ok; assumption) | fail))
    | (with_reducible refine ChooseI.l _ ?_)
    | ((with_reducible refine nilgs_step ?_ ?_ ?_ ?_ ?_ ?_) <;> exact rfl)
    | ((with_reducible refine tok0_step ?_ ?_ ?_ ?_) <;> exact rfl)
    | ((with_reducible refine kok_step ?_ ?_ ?_); exact rfl; exact rfl)
    | ((with_reducible refine idx_step ?_ ?_ ?_ ?_ ?_); exact rfl; exact rfl; rotate_left; (first | with_reducible exact idx_get ‹_› | fail))
    | ((with_reducible refine len_step ?_ ?_); exact rfl)
    | ((with_reducible refine app_step' ?_ ?_ ?_ ?_ ?_ ?_ ?_); exact rfl; exact rfl; exact rfl; exact rfl)
    | ((with_reducible refine nil_step' ?_ ?_ ?_ ?_); exact rfl; exact rfl)
    | ((with_reducible refine guard_step ?_ ?_ (fun hg => ?_) ?_); exact rfl)
    | ((with_reducible refine val_step ?_ ?_); with_reducible exact rfl; with_reducible exact rfl)
    | ((with_reducible refine same_step ?_ ?_); with_reducible exact rfl)
    | ((with_reducible refine chk_step ?_ ?_); kernel_rfl)
    | ((with_reducible refine ret_step ?_); refine ⟨[], rfl, ?_, trivial⟩; conv => whnf)
    | ((with_reducible refine ret_need ?_ ?_); rotate_left; refine ⟨[], rfl, ?_, trivial⟩; conv => whnf)
    | ((with_reducible refine pan_need ?_ ?_); rotate_left; refine ⟨[], rfl, ?_, trivial⟩; conv => whnf)
    | ((with_reducible refine pan_step ?_); refine ⟨[], rfl, ?_, trivial⟩; conv => whnf)
    | (with_reducible refine And.intro ?_ ?_)
    | ((with_reducible refine gs_eq ?_ ?_ ?_); exact rfl; exact rfl; (first | with_reducible exact map_app | with_reducible exact map_app3 | with_reducible exact map_app4 | exact map_snoc | exact rfl | skip))
    | ((with_reducible refine tok_eq ?_ ?_); exact rfl; (first | with_reducible exact map_app | with_reducible exact map_app3 | with_reducible exact map_app4 | exact map_snoc | exact rfl | skip))
    | ((with_reducible refine ren_guard ?_); refine gs_ren ?_ ?_ ?_; exact rfl; exact rfl; (first | exact rfl | skip))
    | exact @rfl AV _
    | exact @rfl Block _
    | exact @rfl (List AV) _
    | exact ble_le rfl
    | fail)
  all_goals first
    | ((exact Bool.noConfusion h))
    | ((exact (to_no hI2 h).elim))
    | ((exact (to_no (inn_a hI0 hx) h).elim))
    | ((refine (to_no (inn_b hI0 ?_) h).elim; assumption))
    | ((refine (inn_bad hI2 ?_ (cm_eq (by have := hI2.le; have := hI2.hi; omega)) h).elim; assumption))
    | ((refine (tok_bad hs (tokF e1 hx hI2 ?_) h).elim; assumption))
    | (rfl)
    | ((exact pl_start e1))
    | ((exact inn_a hI0 hx))
    | ((exact inn_b hI0 hkl))
    | ((exact Int.natCast_nonneg _))
    | ((exact Int.ofNat_le.2 (Nat.le_add_right _ _)))
    | ((refine Int.ofNat_le.2 (tokF e1 hx hI2 ?_).le; assumption))
    | ((refine inn_to hI2 ?_; assumption))
    | ((refine pl_next hI0 hx (tokF e1 hx hI2 ?_); assumption))
    | ((refine nat_next ?_; (have := hI2.le; have := hI2.hi; omega)))
    | ((refine nat_next ?_; (have := hI0.len; have := (rd_of (by have := of_decide_eq_false b1; omega) e1).1.len; omega)))
    | ((refine congrArg (fun z => AV.data (D.val (.int .i64 z))) (tok_wrap hs (tokF e1 hx hI2 ?_)); assumption))
    | ((refine congrArg (fun z => AV.data (D.val (.bool z))) (cm_eq ?_); (have := hI2.le; have := hI2.hi; omega)))
    | ((refine Nat.sub_lt_sub_left (inn_lt hI2 ?_) (Nat.lt_succ_self _); assumption))
    | ((exact Nat.sub_lt_sub_left (drop_lt hx) (Nat.lt_succ_self _)))
    | skip
theorem places_law (src : Str) (h : src.length ≤ 1048576) : PCall Tryd.prog 6 [.str src] (.ret (.b true)) := by
  cases hE : decide ((src.length : Int) > 3000) with
  | true => exact places_early src hE
  | false =>
    have hn := of_decide_eq_false hE
    have b1 : decide ((src.length : Int) > 65536) = false := nb (by omega)
    cases e1 : lexR pStep src 0 with
    | error e => exact places_err src e hE b1 e1
    | ok l => exact places_ok src l hE (by omega) b1 e1
end Go.Proofs.YtanmpkhhmjfbnaaDoor

