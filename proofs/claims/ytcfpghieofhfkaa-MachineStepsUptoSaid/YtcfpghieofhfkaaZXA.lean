/- Contracts: what is checked of a code, by the program. -/
import Derived.Test.YtcfpghieofhfkaaZMA
import Derived.Test.YtcfpghieofhfkaaZE
import Derived.Test.YtcfpghieofhfkaaZK6
set_option linter.unusedSimpArgs false
set_option linter.unusedVariables false
namespace Go.Proofs.Ytcfpghieofhfkaa
open Go.Fw Go.Fw.Mac
set_option maxRecDepth 10000
set_option linter.unusedSectionVars false
variable [GlobInt]
theorem growB_call (n : Nat) (hn : n ≤ 1073741824) : LCall Try.prog 65 [.nilsl 3, .data (.val (.int .i64 n))] [] (.ret (.gs 1000000 3 [])) [(1000000, .tok 3 0)] :=
  grow_of tok Try.growB ⟨_, Try.func65, by kernel_rfl, by kernel_rfl⟩ (by decide) (by kernel_rfl) (by decide +kernel) (by kernel_rfl) (by omega) (by kernel_rfl) n (by
    have : (Try.T.at (Try.growB_ren.t 25)).bytes = 32 := by kernel_rfl
    rw [this]; omega) (by omega)
set_option maxHeartbeats 400000 in
theorem concat_call (ls : List (List Bd)) (hs : lens ls ≤ 1073741824) (hn : ls.length ≤ 1073741824) : LCall Try.prog 56 [.gs 1000001 1 (ls.map bdsC)] [(1000001, .tok 1 (ls.map bdsC).length)] (.ret (.gs 1000000 3 (ls.flatten.map Bd.cs))) [(1000000, .tok 3 (ls.flatten.map Bd.cs).length), (1000001, .tok 1 (ls.map bdsC).length)] := by
  refine lcall_of_wc tok hmix ⟨[], []⟩ Try.func56 rfl (by kernel_rfl) (by kernel_rfl) (by kernel_rfl) fun hf => ?_
  have hlen : ls.length ≤ 9223372036854775807 := by omega
  clear hf
  repeat' ((try (conv => whnf)) <;> first
    | with_reducible exact trivial
    | with_reducible exact idx_next hd2 ‹_›
    | with_reducible exact idx_next hd0 ‹_›
    | with_reducible refine br_nil hd2 ?_
    | with_reducible refine br_nil hd0 ?_
    | with_reducible refine br_cons hd2 ?_
    | with_reducible refine br_cons hd0 ?_
    | with_reducible refine BrI.intro (fun h => ?_) (fun h => ?_)
    | ((with_reducible refine LoopAt.mk 0 ?_); refine ⟨rangeL (ls) 11 (fun (n : (Nat)) => [(3, .data (.val (.int .i64 (n : Int))))]) (fun (n : (Nat)) => [(1000001, .tok 1 (ls.map bdsC).length)]) [0, 9, 10] (fun i0 r0 n => lens ls = n + lens r0), ?_⟩; with_reducible refine rangeL_rule (0) ?_ ?_ (fun i0 (n : (Nat)) hd0 hI0 => ?_) (fun i0 x0 r0 (n : (Nat)) hd0 hl0 hI0 => ?_))
    | (with_reducible refine rangeL_next hd0 (n + x0.length) ?_ ?_)
    | ((with_reducible refine LoopAt.mk 2 ?_); refine ⟨rangeL (ls) 27 (fun (out : (List Bd)) => [(6, .gs 800000 3 (out.map Bd.cs))]) (fun (out : (List Bd)) => [(1000001, .tok 1 (ls.map bdsC).length), (800000, .tok 3 (out.map Bd.cs).length)]) [25, 26] (fun i2 r2 out => ls.flatten = out ++ r2.flatten), ?_⟩; with_reducible refine rangeL_rule [] ?_ ?_ (fun i2 (out : (List Bd)) hd2 hI2 => ?_) (fun i2 x2 r2 (out : (List Bd)) hd2 hl2 hI2 => ?_))
    | (with_reducible refine rangeL_next hd2 ?_ ?_ ?_)
    | ((with_reducible refine lent_step [(1000000, 800000)] (growB_call n (by rw [lens_nil] at hI0; omega)) ?_ ?_ ?_ ?_); rotate_left 0; exact rfl; (exact trivial); exact rfl)
    | ((with_reducible refine ret_step ?_); refine fin_step' [(1000000, 800000), (1000001, 1000001)] rfl ?_ ?_)
    | ((with_reducible refine idx_step ?_ ?_ ?_ ?_ ?_); exact rfl; exact rfl; rotate_left; (first | with_reducible exact idx_drop hd2 | with_reducible exact idx_drop hd0))
    | ((with_reducible refine app_step' ?_ ?_ ?_ ?_ ?_ ?_ ?_); exact rfl; exact rfl; exact rfl; exact rfl)
    | (with_reducible refine And.intro ?_ ?_)
    | ((with_reducible refine gs_eq ?_ ?_ ?_); exact rfl; exact rfl; (first | with_reducible exact map_app | exact rfl | skip))
    | ((with_reducible refine tok_eq ?_ ?_); exact rfl; (first | with_reducible exact map_app | skip))
    | ((with_reducible refine ren_guard ?_); refine gs_ren ?_ ?_ ?_; exact rfl; exact rfl; (first | skip))
    | exact @rfl AV _
    | exact @rfl Block _
    | fail)
  all_goals (try simp only [Bool.cond_true_left, Bool.cond_false_right, Bool.cond_false_left, Bool.cond_true_right, Bool.not_eq_true', Bool.not_eq_false', bne, Ex.css_len, List.length_map, Int.toNat_zero] at *)
  all_goals first
    | omega
    | ((rw [lens_cons] at hI0; omega))
    | ((have hq := congrArg List.length hI2; simp only [lens_flat, List.length_append, lens_cons, List.length_map] at hq ⊢; omega))
    | ((rw [hI2]; simp; done))
    | ((exfalso; rw [lens_cons] at hI0; rw [wrap_nat (b := x0.length) (by omega), decide_eq_true_eq] at h; omega))
    | ((rw [lens_cons] at hI0; (try (conv => whnf)); exact congrArg (fun z => AV.data (D.val (Value.int IntKind.i64 z))) (wrap_nat (b := x0.length) (by omega))))
    | (rfl)
    | skip
set_option maxHeartbeats 400000 in
theorem wrong_call (lo hi : Int)  : PCall Try.prog 55 [.i lo, .i hi] (.ret (.b (wrongM lo hi))) := by
  refine pcall_of_wc tok hmix ⟨[], []⟩ Try.func55 rfl (by kernel_rfl) (by kernel_rfl) (by kernel_rfl) fun hf => ?_
  clear hf
  repeat' ((try (conv => whnf)) <;> first
    | ((with_reducible refine ret_step ?_); refine ⟨[], rfl, ?_, trivial⟩; conv => whnf)
    | fail)
  all_goals first
    | (rfl)
    | skip
set_option maxHeartbeats 400000 in
theorem wrong2_call (n : Int)  : LCall Try.prog 57 [.data (.i n), .ptr 1000000 0] [(1000000, .cells [.fn 55 []])] (.ret (.data (.b (wrongM n n)))) [(1000000, .cells [.fn 55 []])] := by
  refine lcall_of_wc tok hmix ⟨[], []⟩ Try.func57 rfl (by kernel_rfl) (by kernel_rfl) (by kernel_rfl) fun hf => ?_
  clear hf
  repeat' ((try (conv => whnf)) <;> first
    | with_reducible exact trivial
    | ((with_reducible refine call_step ?_ ?_ ?_); rotate_left; (exact wrong_call n n))
    | ((with_reducible refine ret_step ?_); refine fin_step' [] rfl ?_ ?_)
    | (with_reducible refine And.intro ?_ ?_)
    | exact @rfl AV _
    | fail)
  all_goals first
    | skip
set_option maxHeartbeats 400000 in
theorem indexW_call (l : List Int) (hl : l.length ≤ 1073741824) : LCall Try.prog 63 [.data (ints l), .fn 57 [.ptr 1000000 0]] [(1000000, .cells [.fn 55 []])] (.ret (.data (.i (firstW l 0)))) [(1000000, .cells [.fn 55 []])] := by
  refine lcall_of_wc tok hmix ⟨[], []⟩ Try.func63 rfl (by kernel_rfl) (by kernel_rfl) (by kernel_rfl) fun hf => ?_
  have hlen : l.length ≤ 9223372036854775807 := by omega
  clear hf
  repeat' ((try (conv => whnf)) <;> first
    | with_reducible exact trivial
    | with_reducible exact idx_next hd0 ‹_›
    | with_reducible refine br_nil hd0 ?_
    | with_reducible refine br_cons hd0 ?_
    | with_reducible refine BrI.intro (fun h => ?_) (fun h => ?_)
    | ((with_reducible refine LoopAt.mk 0 ?_); refine ⟨rangeL (l) 8 (fun (_ : Unit) => []) (fun (_ : Unit) => [(1000000, .cells [.fn 55 []])]) [0, 1, 7] (fun i0 r0 _ => firstW l 0 = firstW r0 i0), ?_⟩; with_reducible refine rangeL_rule () ?_ ?_ (fun i0 (_ : Unit) hd0 hI0 => ?_) (fun i0 x0 r0 (_ : Unit) hd0 hl0 hI0 => ?_))
    | (with_reducible refine rangeL_next hd0 () ?_ ?_)
    | ((with_reducible refine lent_step' [(1000000, 1000000)] (wrong2_call x0) ?_ ?_ ?_ ?_); rotate_left 0; exact rfl; (exact ⟨rfl, trivial⟩); exact rfl)
    | ((with_reducible refine ret_step ?_); refine fin_step' [] rfl ?_ ?_)
    | ((with_reducible refine idx_step ?_ ?_ ?_ ?_ ?_); exact rfl; exact rfl; rotate_left; (with_reducible exact idx_drop hd0))
    | (with_reducible refine And.intro ?_ ?_)
    | exact @rfl AV _
    | fail)
  all_goals (try simp only [Bool.cond_true_left, Bool.cond_false_right, Bool.cond_false_left, Bool.cond_true_right, Bool.not_eq_true', Bool.not_eq_false', bne, Ex.css_len, List.length_map, Int.toNat_zero] at *)
  all_goals first
    | (rw [hI0]; (try simp only [firstW, Bool.not_true, Bool.not_false, Bool.and_true, Bool.true_and, Bool.and_false, Bool.false_and, Bool.or_true, Bool.true_or, Bool.or_false, Bool.false_or, if_true, if_false, reduceIte, Bool.false_eq_true, Bool.not_not, Bool.not_eq_true', beq_self_eq_true, List.all_cons, List.all_nil, List.any_cons, List.any_nil, List.length_map, bne, eq_self, Int.toNat_zero, *]); first | done | rfl)
    | ((simp_all [firstW]; done))
    | skip
set_option maxHeartbeats 400000 in
theorem containsW_call (l : List Int) (hl : l.length ≤ 1073741824) : LCall Try.prog 44 [.data (ints l), .fn 57 [.ptr 1000000 0]] [(1000000, .cells [.fn 55 []])] (.ret (.data (.b (decide (firstW l 0 ≥ 0))))) [(1000000, .cells [.fn 55 []])] := by
  refine lcall_of_wc tok hmix ⟨[], []⟩ Try.func44 rfl (by kernel_rfl) (by kernel_rfl) (by kernel_rfl) fun hf => ?_
  clear hf
  repeat' ((try (conv => whnf)) <;> first
    | with_reducible exact trivial
    | ((with_reducible refine lent_step' [(1000000, 1000000)] (indexW_call _ hl) ?_ ?_ ?_ ?_); rotate_left 0; exact rfl; (exact ⟨rfl, trivial⟩); exact rfl)
    | ((with_reducible refine ret_step ?_); refine fin_step' [] rfl ?_ ?_)
    | (with_reducible refine And.intro ?_ ?_)
    | exact @rfl AV _
    | fail)
  all_goals (try simp only [Bool.cond_true_left, Bool.cond_false_right, Bool.cond_false_left, Bool.cond_true_right, Bool.not_eq_true', Bool.not_eq_false', bne, Ex.css_len, List.length_map, Int.toNat_zero] at *)
  all_goals first
    | skip
set_option maxHeartbeats 400000 in
theorem most_call (l : List Int)  : PCall Try.prog 58 [ints l] (.ret (.tuple [.i (mostF l 0 0 0).1, .i (mostF l 0 0 0).2])) := by
  refine pcall_of_wc tok hmix ⟨[], []⟩ Try.func58 rfl (by kernel_rfl) (by kernel_rfl) (by kernel_rfl) fun hf => ?_
  have hlen : l.length ≤ 9223372036854775807 := by simpa using (hf (ints l) (by simp)).sl.1
  clear hf
  repeat' ((try (conv => whnf)) <;> first
    | with_reducible exact trivial
    | with_reducible exact idx_next hd0 ‹_›
    | with_reducible refine br_nil hd0 ?_
    | with_reducible refine br_cons hd0 ?_
    | with_reducible refine BrI.intro (fun h => ?_) (fun h => ?_)
    | ((with_reducible refine LoopAt.mk 0 ?_); refine ⟨rangeL (l) 8 (fun (q : (Int) × (Int)) => match q with | (n, k) => [(2, .data (.val (.int .i64 n))), (3, .data (.val (.int .i64 k)))]) (fun (q : (Int) × (Int)) => match q with | (n, k) => []) [6, 7] (fun i0 r0 q => match q with | (n, k) => mostF l 0 0 0 = mostF r0 i0 n k), ?_⟩; with_reducible refine rangeL_rule ((0), (0)) ?_ ?_ (fun i0 ⟨n, k⟩ hd0 hI0 => ?_) (fun i0 x0 r0 ⟨n, k⟩ hd0 hl0 hI0 => ?_))
    | (with_reducible refine rangeL_next hd0 (?_, ?_) ?_ ?_)
    | ((with_reducible refine idx_step ?_ ?_ ?_ ?_ ?_); exact rfl; exact rfl; rotate_left; (with_reducible exact idx_drop hd0))
    | ((with_reducible refine ret_step ?_); refine ⟨[], rfl, ?_, trivial⟩; conv => whnf)
    | (with_reducible refine And.intro ?_ ?_)
    | exact @rfl AV _
    | fail)
  all_goals (try simp only [Bool.cond_true_left, Bool.cond_false_right, Bool.cond_false_left, Bool.cond_true_right, Bool.not_eq_true', Bool.not_eq_false', bne, Ex.css_len, List.length_map, Int.toNat_zero] at *)
  all_goals first
    | (rw [hI0]; (try simp only [mostF, Bool.not_true, Bool.not_false, Bool.and_true, Bool.true_and, Bool.and_false, Bool.false_and, Bool.or_true, Bool.true_or, Bool.or_false, Bool.false_or, if_true, if_false, reduceIte, Bool.false_eq_true, Bool.not_not, Bool.not_eq_true', beq_self_eq_true, List.all_cons, List.all_nil, List.any_cons, List.any_nil, List.length_map, bne, eq_self, Int.toNat_zero, *]); first | done | rfl)
    | ((simp_all [mostF]; done))
    | skip
set_option maxHeartbeats 400000 in
theorem effect_call (c : Cd) (op : Int)  : PCall Try.prog 40 [c.d, .i op] (.ret (effD (effP c op))) := by
  refine pcall_of_wc tok hmix ⟨[], []⟩ Try.func40 rfl (by kernel_rfl) (by kernel_rfl) (by kernel_rfl) fun hf => ?_
  clear hf
  repeat' ((try (conv => whnf)) <;> first
    | with_reducible refine BrI.tt ?_
    | with_reducible refine BrI.intro (fun h => ?_) (fun h => ?_)
    | ((with_reducible refine chk_stepP ?_ ?_); kernel_rfl)
    | ((with_reducible refine ret_step ?_); refine ⟨[], rfl, ?_, trivial⟩; conv => whnf)
    | fail)
  all_goals first
    | ((simp only [effP, *, cond_true, cond_false]; done))
    | ((simp only [effP, *, cond_true, cond_false, List.length_map]; done))
    | skip
end Go.Proofs.Ytcfpghieofhfkaa
namespace Go.Proofs.Ytcfpghieofhfkaa
open Go.Fw Go.Fw.Mac
set_option maxRecDepth 10000
set_option linter.unusedSectionVars false
variable [GlobInt]
set_option maxHeartbeats 2000000 in
theorem declared_call (c : Cd) (g : c.Sm) : PCall Try.prog 39 [c.d] (.ret (.b (decP c))) := by
  refine pcall_of_wc tok hmix ⟨[], []⟩ Try.func39 rfl (by kernel_rfl) (by kernel_rfl) (by kernel_rfl) fun hf => ?_
  have g1 := g.params; have g2 := g.states; have g3 := g.lines; have g4 := g.tables; have g5 := g.instrs; have g6 := g.table
  have hlen3 : c.lines.length ≤ 9223372036854775807 := by omega
  have hlen4 : c.tables.length ≤ 9223372036854775807 := by omega
  have hlenf : [c.params, c.states].flatten.length = c.params.length + c.states.length := by simp
  have hlen : [c.params, c.states].flatten.length ≤ 9223372036854775807 := by omega
  clear hf
  repeat' ((try (conv => whnf)) <;> first
    | with_reducible exact trivial
    | with_reducible exact idx_next hd4 ‹_›
    | with_reducible exact idx_next hd2 ‹_›
    | with_reducible exact idx_next hd0 ‹_›
    | with_reducible refine br_nil hd4 ?_
    | with_reducible refine br_nil hd2 ?_
    | with_reducible refine br_nil hd0 ?_
    | with_reducible refine br_cons hd4 ?_
    | with_reducible refine br_cons hd2 ?_
    | with_reducible refine br_cons hd0 ?_
    | with_reducible refine BrI.intro (fun h => ?_) (fun h => ?_)
    | ((with_reducible refine LoopAt.mk 0 ?_); refine ⟨rangeL ([c.params, c.states].flatten) 19 (fun (_ : Unit) => []) (fun (_ : Unit) => []) [1, 3, 17, 18] (fun i0 r0 _ => anyB [c.params, c.states].flatten = anyB r0), ?_⟩; with_reducible refine rangeL_rule () ?_ ?_ (fun i0 (_ : Unit) hd0 hI0 => ?_) (fun i0 x0 r0 (_ : Unit) hd0 hl0 hI0 => ?_))
    | (with_reducible refine rangeL_next hd0 () ?_ ?_)
    | ((with_reducible refine LoopAt.mk 2 ?_); refine ⟨rangeL (c.lines) 33 (fun (_ : Unit) => []) (fun (_ : Unit) => []) [1, 3, 31, 32] (fun i2 r2 _ => anyL c.lines = anyL r2), ?_⟩; with_reducible refine rangeL_rule () ?_ ?_ (fun i2 (_ : Unit) hd2 hI2 => ?_) (fun i2 x2 r2 (_ : Unit) hd2 hl2 hI2 => ?_))
    | (with_reducible refine rangeL_next hd2 () ?_ ?_)
    | ((with_reducible refine LoopAt.mk 4 ?_); refine ⟨rangeL (c.tables) 57 (fun (_ : Unit) => []) (fun (_ : Unit) => [(3, .cells [.fn 55 []]), (1, .cells (c.cs.map .data))]) [1, 3, 55, 56] (fun i4 r4 _ => anyT c.tables = anyT r4), ?_⟩; with_reducible refine rangeL_rule () ?_ ?_ (fun i4 (_ : Unit) hd4 hI4 => ?_) (fun i4 x4 r4 (_ : Unit) hd4 hl4 hI4 => ?_))
    | (with_reducible refine rangeL_next hd4 () ?_ ?_)
    | ((with_reducible refine call_step ?_ ?_ ?_); rotate_left; (first | exact wrong_call _ _ | exact most_call [((c.params.map Bd.cs).length : Int), ((c.states.map Bd.cs).length : Int), ((c.lines.map Ln.cs).length : Int), ((c.tables.map lnC).length : Int)]))
    | ((with_reducible refine lent_step [(1000000, 800000), (1000001, 16)] (concat_call [c.params, c.states] (by simp [lens]; omega) (by simp)) ?_ ?_ ?_ ?_); rotate_left 0; exact rfl; (exact ⟨rfl, trivial⟩); exact rfl)
    | ((with_reducible refine lent_step' [(1000000, 3)] (containsW_call x4 (by have := g6 _ (drop_mem hd4); omega)) ?_ ?_ ?_ ?_); rotate_left 0; exact rfl; (exact ⟨rfl, trivial⟩); exact rfl)
    | (with_reducible refine ChooseI.l _ ?_)
    | ((with_reducible refine idx_step ?_ ?_ ?_ ?_ ?_); exact rfl; exact rfl; rotate_left; (first | with_reducible exact idx_drop hd4 | with_reducible exact idx_drop hd2 | with_reducible exact idx_drop hd0))
    | ((with_reducible refine len_step ?_ ?_); exact rfl)
    | ((with_reducible refine guard_step ?_ ?_ (fun hg => ?_) ?_); exact rfl)
    | ((with_reducible refine val_step ?_ ?_); with_reducible exact rfl; with_reducible exact rfl)
    | ((with_reducible refine ret_step ?_); refine ⟨[], rfl, ?_, trivial⟩; conv => whnf)
    | (with_reducible refine And.intro ?_ ?_)
    | exact @rfl AV _
    | exact @rfl (List AV) _
    | fail)
  all_goals first
    | (rfl)
    | ((exact anyB_next hI0 h))
    | ((exact anyL_next hI2 h))
    | ((exact anyT_next hI4 (by simpa only [badT, List.length_map] using h)))
    | ((exact congrArg D.b (dec_b hI0 h).symm))
    | ((exact congrArg D.b (dec_l hI2 h).symm))
    | ((exact congrArg D.b (dec_t hI4 (by simpa only [badT, List.length_map] using h)).symm))
    | ((rw [dec_f hI0 hI2 hI4]; simp only [finP, List.length_map]; done))
    | skip
set_option maxHeartbeats 400000 in
theorem check_bad (c : Cd) (g : c.Sm) (hd : decP c = false) : PCall Try.prog 22 [c.d] (.ret (.i 200)) := by
  refine pcall_of_wc tok hmix ⟨[], []⟩ Try.func22 rfl (by kernel_rfl) (by kernel_rfl) (by kernel_rfl) fun hf => ?_
  clear hf
  repeat' ((try (conv => whnf)) <;> first
    | (exact Bool.noConfusion ((congrArg Bool.not hd).symm.trans h))
    | with_reducible refine BrI.intro (fun h => ?_) (fun h => ?_)
    | ((with_reducible refine call_step ?_ ?_ ?_); rotate_left; (exact declared_call _ (by assumption)))
    | ((with_reducible refine ret_step ?_); refine ⟨[], rfl, ?_, trivial⟩; conv => whnf)
    | fail)
  all_goals first
    | skip
set_option maxHeartbeats 4000000 in
theorem check_ok (c : Cd) (R : Bool) (g : c.Sm) (hd : decP c = true) (hR : chkP c c.instrs 0 0 (List.replicate c.lines.length false) = R) : PCall Try.prog 22 [c.d] (.ret (.i (okE R))) := by
  refine pcall_of_wc tok hmix ⟨[], []⟩ Try.func22 rfl (by kernel_rfl) (by kernel_rfl) (by kernel_rfl) fun hf => ?_
  have g3 : c.lines.length ≤ 1073741824 := by have := g.lines; omega
  have g5 := g.instrs
  have hlen : c.instrs.length ≤ 9223372036854775807 := by omega
  clear hf
  repeat' ((try (conv => whnf)) <;> first
    | (exact Bool.noConfusion ((congrArg Bool.not hd).symm.trans h))
    | (with_reducible refine ChooseI.r 18 ?_)
    | with_reducible exact trivial
    | with_reducible exact idx_next hd0 ‹_›
    | with_reducible refine br_nil hd0 ?_
    | with_reducible refine br_cons hd0 ?_
    | with_reducible refine BrI.intro (fun h => ?_) (fun h => ?_)
    | ((with_reducible refine mk_step ?_ ?_ ?_ ?_ ?_); (exact Int.natCast_nonneg _); (exact Int.le_refl _); exact rfl; (rw [List.length_map]; omega))
    | ((with_reducible refine own_idx_step ?_ ?_ ?_ ?_ ?_); exact rfl; exact rfl; exact rfl; (refine pu_idx2 hI0 ?_ ?_); assumption; assumption)
    | ((with_reducible refine own_load_step ?_ ?_ ?_ ?_ ?_ ?_ ?_); exact rfl; exact rfl; rotate_left 2; (refine pu_get hI0 ?_ ?_); assumption; assumption; exact rfl)
    | ((with_reducible refine own_store_step ?_ ?_ ?_ ?_ ?_ ?_ ?_ ?_ ?_); exact rfl; exact rfl; exact rfl; exact rfl; exact ble_le rfl; exact rfl; rotate_left; (refine pu_get hI0 ?_ ?_); assumption; assumption)
    | (exact pu_new)
    | (exact pu_set)
    | ((with_reducible refine LoopAt.mk 0 ?_); refine ⟨rangeL (c.instrs) 22 (fun (q : (Int) × (Int) × (List Bool)) => match q with | (n, o, pu) => [(3, .data (.val (.int .i64 n))), (4, .data (.val (.int .i64 o)))]) (fun (q : (Int) × (Int) × (List Bool)) => match q with | (n, o, pu) => [(1, .cells (c.cs.map .data)), (18, .arr 0 1 (pu.map boolC))]) [1, 5, 20, 21] (fun i0 r0 q => match q with | (n, o, pu) => ChkI c R r0 n o pu), ?_⟩; with_reducible refine rangeL_rule ((0), (0), (List.replicate c.lines.length false)) ?_ ?_ (fun i0 ⟨n, o, pu⟩ hd0 hI0 => ?_) (fun i0 x0 r0 ⟨n, o, pu⟩ hd0 hl0 hI0 => ?_))
    | (with_reducible refine rangeL_next hd0 (?_, ?_, ?_) ?_ ?_)
    | ((with_reducible refine call_step ?_ ?_ ?_); rotate_left; (first | exact declared_call _ (by assumption) | exact effect_call _ _))
    | ((with_reducible refine idx_step ?_ ?_ ?_ ?_ ?_); exact rfl; exact rfl; rotate_left; (with_reducible exact idx_drop hd0))
    | ((with_reducible refine len_step ?_ ?_); exact rfl)
    | ((with_reducible refine ret_step ?_); refine ⟨[], rfl, ?_, trivial⟩; conv => whnf)
    | (with_reducible refine And.intro ?_ ?_)
    | exact @rfl AV _
    | fail)
  all_goals first
    | ((exact chk_start hR g3))
    | ((have hq := chk_end hI0 h; rw [hq]; rfl))
    | ((have hq := chk_ref hI0 h; rw [hq]; rfl))
    | ((refine chk_22 hI0 ?_ ?_ <;> assumption))
    | ((have hq := (by refine chk_7a hI0 ?_ ?_ ?_ ?_ <;> assumption : R = false); rw [hq]; rfl))
    | ((refine chk_7b hI0 ?_ ?_ ?_ ?_ <;> assumption))
    | ((refine chk_n hI0 ?_ ?_ ?_ <;> assumption))
    | skip
theorem check_call (c : Cd) (g : c.Sm) : PCall Try.prog 22 [c.d] (.ret (.i (okE (checkP c)))) := by
  unfold checkP
  cases hd : decP c with
  | false => exact check_bad c g hd
  | true => exact check_ok c _ g hd rfl
end Go.Proofs.Ytcfpghieofhfkaa
namespace Go.Proofs.Ytcfpghieofhfkaa
open Go.Fw Go.Fw.Mac
set_option maxRecDepth 10000
set_option linter.unusedSectionVars false
variable [GlobInt]
set_option maxHeartbeats 400000 in
theorem takesR_call (op : Int)  : PCall Try.prog 37 [.i op] (.ret (takesD (takesR op))) := by
  refine pcall_of_wc tok hmix ⟨[], []⟩ Try.func37 rfl (by kernel_rfl) (by kernel_rfl) (by kernel_rfl) fun hf => ?_
  clear hf
  repeat' ((try (conv => whnf)) <;> first
    | with_reducible refine BrI.tt ?_
    | with_reducible refine BrI.intro (fun h => ?_) (fun h => ?_)
    | ((with_reducible refine ret_step ?_); refine ⟨[], rfl, ?_, trivial⟩; conv => whnf)
    | fail)
  all_goals first
    | ((simp only [takesR, *, cond_true, cond_false]; done))
    | skip
set_option maxHeartbeats 400000 in
theorem operand_call (c : Cd) (x : Int × Int)  : PCall Try.prog 38 [c.d, .agg (insC x)] (.ret (.b (operR c x.1 x.2))) := by
  refine pcall_of_wc tok hmix ⟨[], []⟩ Try.func38 rfl (by kernel_rfl) (by kernel_rfl) (by kernel_rfl) fun hf => ?_
  clear hf
  repeat' ((try (conv => whnf)) <;> first
    | with_reducible refine BrI.tt ?_
    | with_reducible refine BrI.intro (fun h => ?_) (fun h => ?_)
    | ((with_reducible refine ret_step ?_); refine ⟨[], rfl, ?_, trivial⟩; conv => whnf)
    | fail)
  all_goals first
    | ((simp only [operR, bndsR, *, cond_true, cond_false, List.length_map]; done))
    | skip
set_option maxHeartbeats 400000 in
theorem between19_call (lo hi : Int)  : PCall Try.prog 54 [.i lo, .i hi] (.ret (.b (betwR lo hi))) := by
  refine pcall_of_wc tok hmix ⟨[], []⟩ Try.func54 rfl (by kernel_rfl) (by kernel_rfl) (by kernel_rfl) fun hf => ?_
  clear hf
  repeat' ((try (conv => whnf)) <;> first
    | ((with_reducible refine ret_step ?_); refine ⟨[], rfl, ?_, trivial⟩; conv => whnf)
    | fail)
  all_goals first
    | (rfl)
    | skip
set_option maxHeartbeats 400000 in
theorem bounds_call (l : List Bd) (hl : l.length ≤ 268435456) : PCall Try.prog 53 [.sl 3 (l.map Bd.cs)] (.ret (.b (boundsR l))) := by
  refine pcall_of_wc tok hmix ⟨[], []⟩ Try.func53 rfl (by kernel_rfl) (by kernel_rfl) (by kernel_rfl) fun hf => ?_
  have hlen : l.length ≤ 9223372036854775807 := by omega
  clear hf
  repeat' ((try (conv => whnf)) <;> first
    | with_reducible exact trivial
    | with_reducible exact idx_next hd0 ‹_›
    | with_reducible refine br_nil hd0 ?_
    | with_reducible refine br_cons hd0 ?_
    | with_reducible refine BrI.intro (fun h => ?_) (fun h => ?_)
    | ((with_reducible refine LoopAt.mk 0 ?_); refine ⟨rangeL (l) 3 (fun (_ : Unit) => []) (fun (_ : Unit) => []) [0] (fun i0 r0 _ => allB l = allB r0), ?_⟩; with_reducible refine rangeL_rule () ?_ ?_ (fun i0 (_ : Unit) hd0 hI0 => ?_) (fun i0 x0 r0 (_ : Unit) hd0 hl0 hI0 => ?_))
    | (with_reducible refine rangeL_next hd0 () ?_ ?_)
    | ((with_reducible refine call_step ?_ ?_ ?_); rotate_left; (exact between19_call _ _))
    | ((with_reducible refine idx_step ?_ ?_ ?_ ?_ ?_); exact rfl; exact rfl; rotate_left; (with_reducible exact idx_drop hd0))
    | ((with_reducible refine chk_stepP ?_ ?_); kernel_rfl)
    | ((with_reducible refine ret_step ?_); refine ⟨[], rfl, ?_, trivial⟩; conv => whnf)
    | (with_reducible refine And.intro ?_ ?_)
    | exact @rfl AV _
    | fail)
  all_goals first
    | ((simp only [boundsR, hI0, allB, *, cond_true, cond_false, List.length_map, Bool.not_eq_true', Bool.not_eq_false']; done))
    | skip
set_option maxHeartbeats 2000000 in
theorem declaredR_call (c : Cd) (g : c.Sm) : PCall Try.prog 36 [c.d] (.ret (.b (decR c))) := by
  refine pcall_of_wc tok hmix ⟨[], []⟩ Try.func36 rfl (by kernel_rfl) (by kernel_rfl) (by kernel_rfl) fun hf => ?_
  have g1 := g.params; have g2 := g.states; have g3 := g.lines; have g4 := g.tables; have g5 := g.instrs; have g6 := g.table
  have hlen3 : c.lines.length ≤ 9223372036854775807 := by omega
  have hlen4 : c.tables.length ≤ 9223372036854775807 := by omega
  clear hf
  repeat' ((try (conv => whnf)) <;> first
    | with_reducible exact trivial
    | with_reducible exact idx_next hd4 ‹_›
    | with_reducible exact idx_next hd2 ‹_›
    | with_reducible exact idx_next hd0 ‹_›
    | with_reducible refine br_nil hd4 ?_
    | with_reducible refine br_nil hd2 ?_
    | with_reducible refine br_nil hd0 ?_
    | with_reducible refine br_cons hd4 ?_
    | with_reducible refine br_cons hd2 ?_
    | with_reducible refine br_cons hd0 ?_
    | with_reducible refine BrI.intro (fun h => ?_) (fun h => ?_)
    | ((with_reducible refine LoopAt.mk 0 ?_); refine ⟨rangeL (c.lines) 3 (fun (_ : Unit) => []) (fun (_ : Unit) => []) [1] (fun i0 r0 _ => allL c.lines = allL r0), ?_⟩; with_reducible refine rangeL_rule () ?_ ?_ (fun i0 (_ : Unit) hd0 hI0 => ?_) (fun i0 x0 r0 (_ : Unit) hd0 hl0 hI0 => ?_))
    | (with_reducible refine rangeL_next hd0 () ?_ ?_)
    | ((with_reducible refine LoopAt.mk 2 ?_); refine ⟨rangeL (c.tables) 4 (fun (_ : Unit) => []) (fun (_ : Unit) => []) [1] (fun i2 r2 _ => allT c.tables = allT r2), ?_⟩; with_reducible refine rangeL_rule () ?_ ?_ (fun i2 (_ : Unit) hd2 hI2 => ?_) (fun i2 x2 r2 (_ : Unit) hd2 hl2 hI2 => ?_))
    | (with_reducible refine rangeL_next hd2 () ?_ ?_)
    | ((with_reducible refine LoopAt.mk 4 ?_); have hlx : x2.length ≤ 9223372036854775807 := (by have := g6 _ (drop_mem hd2); omega); refine ⟨rangeL (x2) 5 (fun (_ : Unit) => []) (fun (_ : Unit) => []) [1, 4] (fun i4 r4 _ => allN x2 = allN r4), ?_⟩; with_reducible refine rangeL_rule () ?_ ?_ (fun i4 (_ : Unit) hd4 hI4 => ?_) (fun i4 x4 r4 (_ : Unit) hd4 hl4 hI4 => ?_))
    | (with_reducible refine rangeL_next hd4 () ?_ ?_)
    | ((with_reducible refine call_step ?_ ?_ ?_); rotate_left; (first | exact bounds_call _ (by omega) | exact between19_call _ _ | exact bounds_call _ g1))
    | ((with_reducible refine idx_step ?_ ?_ ?_ ?_ ?_); exact rfl; exact rfl; rotate_left; (first | with_reducible exact idx_drop hd4 | with_reducible exact idx_drop hd2 | with_reducible exact idx_drop hd0))
    | ((with_reducible refine guard_step ?_ ?_ (fun hg => ?_) ?_); exact rfl)
    | ((with_reducible refine val_step ?_ ?_); with_reducible exact rfl; with_reducible exact rfl)
    | ((with_reducible refine chk_stepP ?_ ?_); kernel_rfl)
    | ((with_reducible refine ret_step ?_); refine ⟨[], rfl, ?_, trivial⟩; conv => whnf)
    | (with_reducible refine And.intro ?_ ?_)
    | exact @rfl AV _
    | fail)
  all_goals first
    | ((exact congrArg D.b (decR_h (hlenR h)).symm))
    | ((exact congrArg D.b (decR_l hI0 h).symm))
    | ((exact allL_next hI0 h))
    | ((exact congrArg D.b (decR_t hI2 (tlen h)).symm))
    | ((refine congrArg D.b (decR_n hI2 (tlen ?_) hI4 h).symm; assumption))
    | ((exact allN_next hI4 h))
    | ((refine allT_next hI2 (tlen ?_) hI4; assumption))
    | ((refine Eq.trans ?_ (congrArg D.b (decR_f (hlenR ?_) hI0 hI2).symm); (rw [List.length_map]; rfl); assumption))
    | skip
set_option maxHeartbeats 400000 in
theorem checkR_bad (c : Cd) (g : c.Sm) (hd : decR c = false) : PCall Try.prog 20 [c.d] (.ret (.i 200)) := by
  refine pcall_of_wc tok hmix ⟨[], []⟩ Try.func20 rfl (by kernel_rfl) (by kernel_rfl) (by kernel_rfl) fun hf => ?_
  clear hf
  repeat' ((try (conv => whnf)) <;> first
    | (exact Bool.noConfusion ((congrArg Bool.not hd).symm.trans h))
    | with_reducible refine BrI.intro (fun h => ?_) (fun h => ?_)
    | ((with_reducible refine call_step ?_ ?_ ?_); rotate_left; (exact declaredR_call _ (by assumption)))
    | ((with_reducible refine ret_step ?_); refine ⟨[], rfl, ?_, trivial⟩; conv => whnf)
    | fail)
  all_goals first
    | skip
set_option maxHeartbeats 4000000 in
theorem checkR_ok (c : Cd) (R : Bool) (g : c.Sm) (hd : decR c = true) (hR : chkR c c.instrs 0 0 (List.replicate c.lines.length false) = R) : PCall Try.prog 20 [c.d] (.ret (.i (okE R))) := by
  refine pcall_of_wc tok hmix ⟨[], []⟩ Try.func20 rfl (by kernel_rfl) (by kernel_rfl) (by kernel_rfl) fun hf => ?_
  have g3 : c.lines.length ≤ 1073741824 := by have := g.lines; omega
  have g5 := g.instrs
  have hlen : c.instrs.length ≤ 9223372036854775807 := by omega
  clear hf
  repeat' ((try (conv => whnf)) <;> first
    | (exact Bool.noConfusion ((congrArg Bool.not hd).symm.trans h))
    | (with_reducible refine ChooseI.r 17 ?_)
    | with_reducible exact trivial
    | with_reducible exact idx_next hd0 ‹_›
    | with_reducible refine br_nil hd0 ?_
    | with_reducible refine br_cons hd0 ?_
    | with_reducible refine BrI.intro (fun h => ?_) (fun h => ?_)
    | ((with_reducible refine mk_step ?_ ?_ ?_ ?_ ?_); (exact Int.natCast_nonneg _); (exact Int.le_refl _); exact rfl; (rw [List.length_map]; omega))
    | ((with_reducible refine own_idx_step ?_ ?_ ?_ ?_ ?_); exact rfl; exact rfl; exact rfl; (refine puR_idx2 hI0 ?_ ?_); assumption; assumption)
    | ((with_reducible refine own_load_step ?_ ?_ ?_ ?_ ?_ ?_ ?_); exact rfl; exact rfl; rotate_left 2; (refine puR_get hI0 ?_ ?_); assumption; assumption; exact rfl)
    | ((with_reducible refine own_store_step ?_ ?_ ?_ ?_ ?_ ?_ ?_ ?_ ?_); exact rfl; exact rfl; exact rfl; exact rfl; exact ble_le rfl; exact rfl; rotate_left; (refine puR_get hI0 ?_ ?_); assumption; assumption)
    | (exact pu_new)
    | (exact pu_set)
    | ((with_reducible refine LoopAt.mk 0 ?_); refine ⟨rangeL (c.instrs) 6 (fun (q : (Int) × (Int) × (List Bool)) => match q with | (n, o, pu) => [(3, .data (.val (.int .i64 n))), (4, .data (.val (.int .i64 o)))]) (fun (q : (Int) × (Int) × (List Bool)) => match q with | (n, o, pu) => [(1, .cells (c.cs.map .data)), (17, .arr 0 1 (pu.map boolC))]) [1, 5] (fun i0 r0 q => match q with | (n, o, pu) => ChkR c R r0 n o pu), ?_⟩; with_reducible refine rangeL_rule ((0), (0), (List.replicate c.lines.length false)) ?_ ?_ (fun i0 ⟨n, o, pu⟩ hd0 hI0 => ?_) (fun i0 x0 r0 ⟨n, o, pu⟩ hd0 hl0 hI0 => ?_))
    | (with_reducible refine rangeL_next hd0 (?_, ?_, ?_) ?_ ?_)
    | ((with_reducible refine call_step ?_ ?_ ?_); rotate_left; (first | exact declaredR_call _ (by assumption) | exact takesR_call _ | exact operand_call _ _))
    | ((with_reducible refine idx_step ?_ ?_ ?_ ?_ ?_); exact rfl; exact rfl; rotate_left; (with_reducible exact idx_drop hd0))
    | ((with_reducible refine len_step ?_ ?_); exact rfl)
    | ((with_reducible refine guard_step ?_ ?_ (fun hg => ?_) ?_); exact rfl)
    | ((with_reducible refine val_step ?_ ?_); with_reducible exact rfl; with_reducible exact rfl)
    | ((with_reducible refine ret_step ?_); refine ⟨[], rfl, ?_, trivial⟩; conv => whnf)
    | (with_reducible refine And.intro ?_ ?_)
    | exact @rfl AV _
    | fail)
  all_goals first
    | ((exact chkR_start hR g3))
    | ((have hq := chkR_end hI0 h; rw [hq]; rfl))
    | ((have hq := chkR_ref hI0 h; rw [hq]; rfl))
    | ((refine congrArg (fun z => D.i (okE z)) (chkR_64 hI0 ?_ ?_).symm <;> assumption))
    | ((refine congrArg (fun z => D.i (okE z)) (chkR_7a hI0 ?_ ?_ ?_ ?_).symm <;> assumption))
    | ((refine chkR_7b hI0 ?_ ?_ ?_ ?_ ?_ <;> assumption))
    | ((refine chkR_7c hI0 ?_ ?_ ?_ ?_ ?_ <;> assumption))
    | ((refine chkR_n1 hI0 ?_ ?_ ?_ ?_ <;> assumption))
    | ((refine chkR_n2 hI0 ?_ ?_ ?_ ?_ <;> assumption))
    | skip
end Go.Proofs.Ytcfpghieofhfkaa
