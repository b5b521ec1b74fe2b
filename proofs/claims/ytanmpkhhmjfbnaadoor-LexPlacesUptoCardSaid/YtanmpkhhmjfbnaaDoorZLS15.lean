/- Contracts: the law LexSpaces. -/
import Derived.Test.YtanmpkhhmjfbnaaDoorZLS14
import Derived.Test.YtanmpkhhmjfbnaaDoorZLD17
set_option linter.unusedSimpArgs false
set_option linter.unusedVariables false
namespace Go.Proofs.YtanmpkhhmjfbnaaDoor
open Go.Fw Go.Fw.Lx
set_option maxRecDepth 10000
set_option linter.unusedSectionVars false
variable [GlobInt]
def spacesE (l : List Tk) (note : Str) : Bool := bif !fewM l then true else decide ((note.length : Int) > 100)
abbrev byD (ts : Str) : D := .sl 1 (ts.map fun c => [D.u8 c])
set_option maxHeartbeats 400000 in
theorem spaces_early (l : List Tk) (ts note : Str) (hl : Rd l) (hE : spacesE l note = true) : PCall Tryd.prog 8 [toks l, byD ts, .str note] (.ret (.b true)) := by
  refine pcall_of_wc tok hmix ⟨[], []⟩ Tryd.func8 rfl (by kernel_rfl) (by kernel_rfl) (by kernel_rfl) fun hf => ?_
  clear hf
  repeat' ((try (conv => whnf)) <;> first
    | with_reducible exact trivial
    | with_reducible exact rfl
    | with_reducible refine BrI.tt ?_
    | with_reducible refine BrI.ff ?_
    | with_reducible refine BrI.intro (fun h => ?_) (fun h => ?_)
    | (exact Bool.noConfusion (hE.symm.trans h))
    | ((with_reducible refine call_step ?_ ?_ ?_); rotate_left; (first | exact sane_call | exact few_call _ (by assumption) | exact text_call _ (by assumption) (by assumption) | exact same_call _ _ | exact sane_call | exact few_is hl | fail))
    | (with_reducible refine ChooseI.l _ ?_)
    | ((with_reducible refine nilgs_step ?_ ?_ ?_ ?_ ?_ ?_) <;> exact rfl)
    | ((with_reducible refine tok0_step ?_ ?_ ?_ ?_) <;> exact rfl)
    | ((with_reducible refine kok_step ?_ ?_ ?_); exact rfl; exact rfl)
    | ((with_reducible refine idx_step ?_ ?_ ?_ ?_ ?_); exact rfl; exact rfl; rotate_left; (first | with_reducible exact idx_get ‹_› | fail))
    | ((with_reducible refine len_step ?_ ?_); exact rfl)
    | ((with_reducible refine app_step' ?_ ?_ ?_ ?_ ?_ ?_ ?_); exact rfl; exact rfl; exact rfl; exact rfl)
    | ((with_reducible refine nil_step' ?_ ?_ ?_ ?_); exact rfl; exact rfl)
    | ((with_reducible refine guard_step ?_ ?_ (fun hg => ?_) ?_); exact rfl)
    | ((with_reducible refine val_step ?_ ?_); with_reducible exact rfl; with_reducible exact rfl)
    | ((with_reducible refine same_step ?_ ?_); with_reducible exact rfl)
    | ((with_reducible refine chk_step ?_ ?_); kernel_rfl)
    | ((with_reducible refine ret_step ?_); refine ⟨[], rfl, ?_, trivial⟩; conv => whnf)
    | ((with_reducible refine ret_need ?_ ?_); rotate_left; refine ⟨[], rfl, ?_, trivial⟩; conv => whnf)
    | ((with_reducible refine pan_need ?_ ?_); rotate_left; refine ⟨[], rfl, ?_, trivial⟩; conv => whnf)
    | ((with_reducible refine pan_step ?_); refine ⟨[], rfl, ?_, trivial⟩; conv => whnf)
    | (with_reducible refine And.intro ?_ ?_)
    | ((with_reducible refine gs_eq ?_ ?_ ?_); exact rfl; exact rfl; (first | with_reducible exact map_app | with_reducible exact map_app3 | with_reducible exact map_app4 | exact map_snoc | exact rfl | skip))
    | ((with_reducible refine tok_eq ?_ ?_); exact rfl; (first | with_reducible exact map_app | with_reducible exact map_app3 | with_reducible exact map_app4 | exact map_snoc | exact rfl | skip))
    | ((with_reducible refine ren_guard ?_); refine gs_ren ?_ ?_ ?_; exact rfl; exact rfl; (first | exact rfl | skip))
    | exact @rfl AV _
    | exact @rfl Block _
    | exact @rfl (List AV) _
    | exact ble_le rfl
    | fail)
  all_goals (try simp only [Bool.cond_true_left, Bool.cond_false_right, Bool.cond_false_left, Bool.cond_true_right, Bool.not_eq_true', Bool.not_eq_false', bne, Ex.css_len, List.length_map, Int.toNat_zero] at *)
  all_goals first
    | omega
    | (rfl)
    | (exfalso; simp_all; done)
    | skip
set_option maxHeartbeats 4000000 in
theorem spaces_ok (l : List Tk) (ts note : Str) (hl : Rd l) (hE : spacesE l note = false) (hf : fewM l = true) (hn : note.length ≤ 100) (hts : ts.length ≤ 1048576) : PCall Tryd.prog 8 [toks l, byD ts, .str note] (.ret (.b true)) := by
  refine pcall_of_wc tok hmix ⟨[], []⟩ Tryd.func8 rfl (by kernel_rfl) (by kernel_rfl) (by kernel_rfl) fun hf => ?_
  have hlen : l.length ≤ 9223372036854775807 := by have := hl.len; omega
  clear hf
  repeat' ((try (conv => whnf)) <;> first
    | with_reducible exact trivial
    | with_reducible exact rfl
    | with_reducible exact idx_next hd2 ‹_›
    | with_reducible refine BrI.tt ?_
    | with_reducible refine BrI.ff ?_
    | with_reducible refine br_nil hd2 ?_
    | with_reducible refine br_cons hd2 ?_
    | ((with_reducible refine br_nil_k hd2 ?_ ?_); (first | exact rfl | assumption | fail))
    | ((with_reducible refine br_cons_k hd2 ?_ ?_); (first | exact rfl | assumption | fail))
    | with_reducible refine br_nil_and hd2 ?_
    | with_reducible refine br_cons_and hd2 ?_
    | with_reducible refine br_nil_e hd2 ?_
    | with_reducible refine br_cons_e hd2 ?_
    | with_reducible refine BrI.intro (fun h => ?_) (fun h => ?_)
    | (exact Bool.noConfusion (hE.symm.trans h))
    | ((with_reducible refine str_at (lt_src ?_) ?_); assumption)
    | ((with_reducible refine incut_stop ?_); rw [wrap1 (a := n) (by omega)])
    | ((with_reducible refine idx_ts ?_ ?_ ?_ ?_); exact rfl; exact rfl; assumption)
    | ((with_reducible refine idx_sp ((note.take n).filter notNl) (ts.getD i2 0) ?_ ?_ ?_ ?_ ?_); exact rfl; exact rfl; exact rfl; exact rem_8)
    | ((with_reducible refine LoopAt.mk 2 ?_); refine ⟨rangeL (l) 54 (fun (s : (List UInt8)) => [(10, .data (.str s))]) (fun (s : (List UInt8)) => [(51, .tok 1 8)]) [0, 1, 9, 52, 53] (fun i2 r2 s => SpI l ts ((note.take n).filter notNl) i2 r2 s), ?_⟩; with_reducible refine rangeL_rule ([10]) ?_ ?_ (fun i2 (s : (List UInt8)) hd2 hI2 => ?_) (fun i2 x2 r2 (s : (List UInt8)) hd2 hl2 hI2 => ?_))
    | (with_reducible refine rangeL_next hd2 (s ++ (tS x2 ++ [32] ++ gapAt ts ((note.take n).filter notNl) i2)) ?_ ?_)
    | ((with_reducible refine LoopAt.mk 0 ?_); refine ⟨whileL (fun (n : (Nat)) => [(8, .data (.val (.int .i64 (n : Nat)))), (7, .data (.str ((note.take n).filter notNl)))]) (fun (n : (Nat)) => []) [0, 1, 2] (fun (n : (Nat)) => n ≤ note.length) (fun (n : (Nat)) => note.length - n), ?_⟩; with_reducible refine whileL_rule (0) ?_ ?_ (fun (n : (Nat)) hI0 => ?_))
    | (with_reducible refine whileL_next (n + 1) ?_ ?_ ?_)
    | ((with_reducible refine call_step ?_ ?_ ?_); rotate_left; (first | exact sane_call | exact few_call _ (by assumption) | exact text_call _ (by assumption) (by assumption) | exact same_call _ _ | exact sane_call | exact few_is hl | exact text_is (one_rd' hl (drop_mem hd2)) (text_one x2) | (refine text_is hl (text_no (spI_bad hI2 ?_)) <;> assumption) | (refine lex_is ?_ (spI_end (note_words note n).1 hI2); exact nb (by have := spI_len hf hI2; omega)) | exact same_call l _ | fail))
    | with_reducible refine str_idx hd2 ?_
    | (with_reducible refine ChooseI.l _ ?_)
    | ((with_reducible refine nilgs_step ?_ ?_ ?_ ?_ ?_ ?_) <;> exact rfl)
    | ((with_reducible refine tok0_step ?_ ?_ ?_ ?_) <;> exact rfl)
    | ((with_reducible refine kok_step ?_ ?_ ?_); exact rfl; exact rfl)
    | ((with_reducible refine idx_step ?_ ?_ ?_ ?_ ?_); exact rfl; exact rfl; rotate_left; (first | with_reducible exact idx_get ‹_› | with_reducible exact idx_drop hd2 | with_reducible exact idx_take hd2 | with_reducible exact idx_zip1 hd2 | with_reducible exact idx_zip2 hd2 | with_reducible exact idx_zip1e hd2 | with_reducible exact idx_zip2e hd2 | with_reducible exact idx_drop_e hd2 | fail))
    | ((with_reducible refine len_step ?_ ?_); exact rfl)
    | ((with_reducible refine app_step' ?_ ?_ ?_ ?_ ?_ ?_ ?_); exact rfl; exact rfl; exact rfl; exact rfl)
    | ((with_reducible refine nil_step' ?_ ?_ ?_ ?_); exact rfl; exact rfl)
    | ((with_reducible refine guard_step ?_ ?_ (fun hg => ?_) ?_); exact rfl)
    | ((with_reducible refine val_step ?_ ?_); with_reducible exact rfl; with_reducible exact rfl)
    | ((with_reducible refine same_step ?_ ?_); with_reducible exact rfl)
    | ((with_reducible refine chk_step ?_ ?_); kernel_rfl)
    | ((with_reducible refine ret_step ?_); refine ⟨[], rfl, ?_, trivial⟩; conv => whnf)
    | ((with_reducible refine ret_need ?_ ?_); rotate_left; refine ⟨[], rfl, ?_, trivial⟩; conv => whnf)
    | ((with_reducible refine pan_need ?_ ?_); rotate_left; refine ⟨[], rfl, ?_, trivial⟩; conv => whnf)
    | ((with_reducible refine pan_step ?_); refine ⟨[], rfl, ?_, trivial⟩; conv => whnf)
    | (with_reducible refine And.intro ?_ ?_)
    | ((with_reducible refine gs_eq ?_ ?_ ?_); exact rfl; exact rfl; (first | with_reducible exact map_app | with_reducible exact map_app3 | with_reducible exact map_app4 | exact map_snoc | exact rfl | skip))
    | ((with_reducible refine tok_eq ?_ ?_); exact rfl; (first | with_reducible exact map_app | with_reducible exact map_app3 | with_reducible exact map_app4 | exact map_snoc | exact rfl | skip))
    | ((with_reducible refine ren_guard ?_); refine gs_ren ?_ ?_ ?_; exact rfl; exact rfl; (first | exact rfl | skip))
    | exact @rfl AV _
    | exact @rfl Block _
    | exact @rfl (List AV) _
    | exact ble_le rfl
    | fail)
  all_goals first
    | ((exact Bool.noConfusion h))
    | (rfl)
    | (((with_reducible refine len_1 hl (drop_mem hd2) ?_); exact rfl))
    | (((with_reducible refine len_2 hl (drop_mem hd2) ?_ ?_); exact rfl; first | exact one_103 | exact gap_len (Nat.le_trans (note_words note n).2 hn) _))
    | (((with_reducible refine len_3 hl (drop_mem hd2) (spI_len hf hI2) ?_ ?_); exact rfl; first | exact one_103 | exact gap_len (Nat.le_trans (note_words note n).2 hn) _))
    | (((with_reducible refine len_4 ?_ (Nat.le_trans (note_words note n).2 hn)); exact rfl))
    | (((with_reducible refine len_5 ?_ ?_ (Nat.le_trans (note_words note n).2 hn)); exact rfl; exact rfl))
    | ((exact sp_no h))
    | ((exact sp_yes h))
    | ((refine spI_next hl (Nat.le_trans (note_words note n).2 hn) (drop_mem hd2) hI2 ?_; assumption))
    | ((exact spI_start _ _ _))
    | ((exact Nat.zero_le _))
    | ((exact Int.natCast_nonneg _))
    | ((exact Int.ofNat_le.2 (Nat.le_succ _)))
    | ((refine Int.ofNat_le.2 (lt_src ?_); assumption))
    | ((refine len_6 ?_ hn; assumption))
    | ((refine lt_src ?_; assumption))
    | ((refine nat_next ?_; omega))
    | ((refine av_yes ?_ h; assumption))
    | ((refine av_no ?_ h; assumption))
    | ((refine Nat.sub_lt_sub_left (lt_src ?_) (Nat.lt_succ_self _); assumption))
    | ((exact eight_ne))
    | ((refine congrArg (fun z => D.val (Value.bool z)) ?_; rw [spI_same]; rfl))
    | skip
theorem spaces_law (l : List Tk) (ts note : Str) (hl : Rd l) (hts : ts.length ≤ 1048576) : PCall Tryd.prog 8 [toks l, byD ts, .str note] (.ret (.b true)) := by
  cases hE : spacesE l note with
  | true => exact spaces_early l ts note hl hE
  | false =>
    have hE2 := hE
    unfold spacesE at hE2
    cases hf : fewM l with
    | false => rw [hf] at hE2; cases hE2
    | true =>
      rw [hf] at hE2
      have hn := of_decide_eq_false (p := (note.length : Int) > 100) hE2
      exact spaces_ok l ts note hl hE hf (by omega) hts
end Go.Proofs.YtanmpkhhmjfbnaaDoor

