/- The specification of the machine, in plain words: comparing, sizes. -/
import Derived.Test.YtcfpghieofhfkaaZMB
set_option linter.unusedSimpArgs false
set_option linter.unusedVariables false
namespace Go.Fw.Mac
set_option linter.unusedSectionVars false
open Go.Fw
def sameZ : List (Int × Int) → Bool
  | [] => true
  | (x, y) :: r => bif x != y then false else sameZ r
def sameI (a b : List Int) : Bool := bif (a.length : Int) != (b.length : Int) then false else sameZ (a.zip b)
def sameL : List (List Int × List Int) → Bool
  | [] => true
  | (x, y) :: r => bif !(sameI x y) then false else sameL r
def sameSt (a b : Sta) : Bool := bif (bif !(sameI a.values b.values) then true else (a.lines.length : Int) != (b.lines.length : Int)) then false else sameL (a.lines.zip b.lines)
section
variable {a b : List Int} {x : Int × Int} {r : List (Int × Int)} {t : Bool}
theorem sameZ_next (h : t = sameZ (x :: r)) (hb : (x.1 != x.2) = false) : t = sameZ r := by rw [h, sameZ, hb]; rfl
theorem sameI_len (h : ((a.length : Int) != (b.length : Int)) = true) : sameI a b = false := by unfold sameI; rw [h]; rfl
theorem sameI_no (heq : a.length = b.length) (hI : sameZ (a.zip b) = sameZ (x :: r)) (h : (x.1 != x.2) = true) : sameI a b = false := by
  unfold sameI; rw [heq, hI, sameZ, h]; simp
theorem sameI_yes (heq : a.length = b.length) (hI : sameZ (a.zip b) = sameZ []) : sameI a b = true := by
  unfold sameI; rw [heq, hI, sameZ]; simp
end
theorem sameZ_iff : ∀ {a b : List Int}, a.length = b.length → (sameZ (a.zip b) = true ↔ a = b)
  | [], [], _ => by simp [sameZ]
  | [], _ :: _, h => by simp at h
  | _ :: _, [], h => by simp at h
  | x :: a, y :: b, h => by
    have ih := @sameZ_iff a b (by simpa using h)
    rw [List.zip_cons_cons, sameZ]
    by_cases e : x = y
    · subst e; simp [ih]
    · have : (x != y) = true := by simpa using e
      rw [this]; simp [e]
theorem sameI_iff {a b : List Int} : sameI a b = true ↔ a = b := by
  unfold sameI
  by_cases h : a.length = b.length
  · rw [h]; simp only [bne_self_eq_false, cond_false]; exact sameZ_iff h
  · have : ((a.length : Int) != (b.length : Int)) = true := by simp; omega
    rw [this]; simp only [cond_true]
    exact ⟨fun h => absurd h (by decide), fun e => absurd (congrArg List.length e) h⟩
section
variable {a b : Sta} {x : List Int × List Int} {r : List (List Int × List Int)} {t : Bool}
theorem sameL_next (h : t = sameL (x :: r)) (hb : (!(sameI x.1 x.2)) = false) : t = sameL r := by rw [h, sameL, hb]; rfl
theorem sameSt_len (h : (bif !(sameI a.values b.values) then true else (a.lines.length : Int) != (b.lines.length : Int)) = false) : sameI a.values b.values = true ∧ a.lines.length = b.lines.length := by
  cases h1 : sameI a.values b.values with
  | false => rw [h1] at h; simp at h
  | true => rw [h1] at h; exact ⟨rfl, len_ne h⟩
theorem sameSt_no (h : (bif !(sameI a.values b.values) then true else (a.lines.length : Int) != (b.lines.length : Int)) = true) : sameSt a b = false := by unfold sameSt; rw [h]; rfl
theorem sameSt_bad (heq : sameI a.values b.values = true ∧ a.lines.length = b.lines.length) (hI : sameL (a.lines.zip b.lines) = sameL (x :: r)) (h : (!(sameI x.1 x.2)) = true) : sameSt a b = false := by
  unfold sameSt; rw [heq.1, heq.2, hI, sameL, h]; simp
theorem sameSt_yes (heq : sameI a.values b.values = true ∧ a.lines.length = b.lines.length) (hI : sameL (a.lines.zip b.lines) = sameL []) : sameSt a b = true := by
  unfold sameSt; rw [heq.1, heq.2, hI, sameL]; simp
end
theorem sameL_iff : ∀ {a b : List (List Int)}, a.length = b.length → (sameL (a.zip b) = true ↔ a = b)
  | [], [], _ => by simp [sameL]
  | [], _ :: _, h => by simp at h
  | _ :: _, [], h => by simp at h
  | x :: a, y :: b, h => by
    have ih := @sameL_iff a b (by simpa using h)
    have e := @sameI_iff x y
    rw [List.zip_cons_cons, sameL]
    cases h1 : sameI x y with
    | true => rw [h1] at e; simp [ih, e.1 rfl]
    | false =>
      rw [h1] at e
      have : x ≠ y := fun h => by simpa using e.2 h
      simp [this]
theorem sameSt_iff {a b : Sta} : sameSt a b = true ↔ a = b := by
  obtain ⟨v, l⟩ := a; obtain ⟨v', l'⟩ := b
  have e := @sameI_iff v v'
  unfold sameSt
  simp only [Sta.mk.injEq]
  cases h1 : sameI v v' with
  | false =>
    rw [h1] at e
    have : v ≠ v' := fun h => by simpa using e.2 h
    simp [this]
  | true =>
    rw [h1] at e
    have e := e.1 rfl
    simp only [Bool.not_true, cond_false, e, true_and]
    by_cases h : l.length = l'.length
    · rw [h]; simp only [bne_self_eq_false, cond_false]; exact sameL_iff h
    · have : ((l.length : Int) != (l'.length : Int)) = true := by simp; omega
      rw [this]; simp only [cond_true]
      exact ⟨fun h => absurd h (by decide), fun e => absurd (congrArg List.length e) h⟩
def fewN : Int → List Nat → Int
  | n, [] => n
  | n, x :: r => bif decide (n ≤ 500) then fewN (W (n + (x : Int))) r else n
def fewSt (s : Sta) : Bool := decide (fewN (W ((s.values.length : Int) + (s.lines.length : Int))) (s.lines.map List.length) ≤ 500)
def szBad (n : Int) : List Ln → Bool
  | [] => false
  | x :: r => bif decide (n ≤ 500) then (bif decide (x.size > 100) then true else szBad n r) else false
def fewCn (c : Cd) : Int := fewN (W (W (W ((c.params.length : Int) + (c.states.length : Int)) + (c.lines.length : Int)) + (c.tables.length : Int))) (c.tables.map List.length)
def fewF (c : Cd) (n : Int) : Bool := bif (bif (bif decide (n ≤ 500) then decide ((c.instrs.length : Int) ≤ 300) else false) then decide (c.regs ≤ 300) else false) then decide (c.latency ≤ 20) else false
def fewC (c : Cd) : Bool := bif szBad (fewCn c) c.lines then false else fewF c (fewCn c)
def anyLong : List (List Int) → Bool
  | [] => false
  | x :: r => bif decide ((x.length : Int) > 40) then true else anyLong r
def fewR (c : Cd) (s : Sta) (ps : List (List Int)) (inn sid : List Int) : Bool := bif anyLong ps then false else
  bif (bif (bif (bif fewC c then fewSt s else false) then decide ((ps.length : Int) ≤ 40) else false) then decide ((inn.length : Int) ≤ 80) else false) then decide ((sid.length : Int) ≤ 80) else false
theorem fewSt_start {s : Sta} : fewSt s = decide (fewN (W (((s.values.map intC).length : Int) + ((s.lines.map lnC).length : Int))) (s.lines.map List.length) ≤ 500) := by rw [List.length_map, List.length_map]; rfl
theorem fewSt_next {b : Bool} {n : Int} {x : List Int} {r : List (List Int)} (h : b = decide (fewN n ((x :: r).map List.length) ≤ 500)) (hb : decide (n ≤ 500) = true) : b = decide (fewN (W (n + ((x.map intC).length : Int))) (r.map List.length) ≤ 500) := by
  rw [h, List.map_cons, fewN, hb, List.length_map]; rfl
theorem fewSt_stop {b : Bool} {n : Int} {x : List Int} {r : List (List Int)} (h : b = decide (fewN n ((x :: r).map List.length) ≤ 500)) (hb : decide (n ≤ 500) = false) : b = decide (n ≤ 500) := by
  rw [h, List.map_cons, fewN, hb]; exact hb
theorem fewSt_end {b : Bool} {n : Int} (h : b = decide (fewN n (([] : List (List Int)).map List.length) ≤ 500)) : b = decide (n ≤ 500) := by
  rw [h, List.map_nil, fewN]
theorem szBad_next {n : Int} {x : Ln} {r : List Ln} {b : Bool} (h : b = szBad n (x :: r)) (h1 : decide (n ≤ 500) = true) (h2 : decide (x.size > 100) = false) : b = szBad n r := by rw [h, szBad, h1, h2]; rfl
theorem szBad_hit {n : Int} {x : Ln} {r : List Ln} {b : Bool} (h : b = szBad n (x :: r)) (h1 : decide (n ≤ 500) = true) (h2 : decide (x.size > 100) = true) : b = true := by rw [h, szBad, h1, h2]; rfl
theorem szBad_stop {n : Int} {x : Ln} {r : List Ln} {b : Bool} (h : b = szBad n (x :: r)) (h1 : decide (n ≤ 500) = false) : b = false := by rw [h, szBad, h1]; rfl
theorem anyLong_next {x : List Int} {r : List (List Int)} {b : Bool} (h : b = anyLong (x :: r)) (h1 : decide ((x.length : Int) > 40) = false) : b = anyLong r := by rw [h, anyLong, h1]; rfl
theorem anyLong_hit {x : List Int} {r : List (List Int)} {b : Bool} (h : b = anyLong (x :: r)) (h1 : decide ((x.length : Int) > 40) = true) : b = true := by rw [h, anyLong, h1]; rfl
theorem szBad_end {n : Int} {b : Bool} (h : b = szBad n []) : b = false := by rw [h, szBad]
theorem fewCn_start {c : Cd} : fewCn c = fewN (W (W (W (((c.params.map Bd.cs).length : Int) + ((c.states.map Bd.cs).length : Int)) + ((c.lines.map Ln.cs).length : Int)) + ((c.tables.map lnC).length : Int))) (c.tables.map List.length) := by
  rw [List.length_map, List.length_map, List.length_map, List.length_map]; rfl
theorem fewCn_next {m n : Int} {x : List Int} {r : List (List Int)} (h : m = fewN n ((x :: r).map List.length)) (hb : decide (n ≤ 500) = true) : m = fewN (W (n + ((x.map intC).length : Int))) (r.map List.length) := by
  rw [h, List.map_cons, fewN, hb, List.length_map]; rfl
theorem fewCn_stop {m n : Int} {x : List Int} {r : List (List Int)} (h : m = fewN n ((x :: r).map List.length)) (hb : decide (n ≤ 500) = false) : m = n := by
  rw [h, List.map_cons, fewN, hb]; rfl
theorem fewCn_end {m n : Int} (h : m = fewN n (([] : List (List Int)).map List.length)) : m = n := by rw [h, List.map_nil, fewN]
theorem fewC_bad {c : Cd} {n : Int} (h0 : fewCn c = n) (h1 : szBad n c.lines = true) : fewC c = false := by unfold fewC; rw [h0, h1]; rfl
theorem fewC_end {c : Cd} {n : Int} (h0 : fewCn c = n) (h1 : szBad n c.lines = false) : fewC c = (bif bif bif decide (n ≤ 500) then decide (((c.instrs.map insC).length : Int) ≤ 300) else false then decide (c.regs ≤ 300) else false then decide (c.latency ≤ 20) else false) := by
  unfold fewC; rw [h0, h1, List.length_map]; rfl
theorem fewC_in {c : Cd} (h : fewC c = true) : (c.instrs.length : Int) ≤ 300 ∧ c.regs ≤ 300 ∧ c.latency ≤ 20 := by
  unfold fewC fewF at h
  cases h0 : szBad (fewCn c) c.lines with
  | true => rw [h0] at h; simp at h
  | false =>
    rw [h0] at h
    simp only [cond_false] at h
    obtain ⟨h, h1⟩ := and_two h
    obtain ⟨h, h2⟩ := and_two h
    obtain ⟨h, h3⟩ := and_two h
    exact ⟨of_decide_eq_true h3, of_decide_eq_true h2, of_decide_eq_true h1⟩
end Go.Fw.Mac
namespace Go.Fw.Mac
set_option linter.unusedSectionVars false
open Go.Fw
abbrev rD (st regs values ln pu : List Int) (out : Int) : D := .agg [ints st, ints regs, ints values, ints ln, ints pu, .i out]
theorem push_fin {st regs values ln pu : List Int} {out v : Int} : D.agg [.sl 1 (st.map intC ++ [[D.i (clM v)]]), ints regs, ints values, ints ln, ints pu, .i out] = rD (st ++ [clM v]) regs values ln pu out := by simp [rD, ints]
theorem at0 {x0 : Int} {r : List Int} : 0 ≤ (0 : Int) ∧ ((x0 :: r).map intC)[(0 : Int).toNat]? = some (intC x0) := ⟨by decide, rfl⟩
theorem at1 {x0 x1 : Int} {r : List Int} : 0 ≤ (1 : Int) ∧ ((x0 :: x1 :: r).map intC)[(1 : Int).toNat]? = some (intC x1) := ⟨by decide, rfl⟩
theorem at2 {x0 x1 x2 : Int} {r : List Int} : 0 ≤ (2 : Int) ∧ ((x0 :: x1 :: x2 :: r).map intC)[(2 : Int).toNat]? = some (intC x2) := ⟨by decide, rfl⟩
theorem at3 {x0 x1 x2 x3 : Int} {r : List Int} : 0 ≤ (3 : Int) ∧ ((x0 :: x1 :: x2 :: x3 :: r).map intC)[(3 : Int).toNat]? = some (intC x3) := ⟨by decide, rfl⟩
theorem take_k {row : List Int} {m t : Nat} {op : Int} (hm : m ≤ 1000000) (hr : m + t ≤ row.length) (ht : takesN op = (t : Int)) (h4 : t ≤ 4) : W ((((row.take (m + t)).map intC).length : Int) - takesN op) = (m : Int) := by
  rw [ht, List.length_map, List.length_take, Nat.min_eq_left hr, W_ok (by omega) (by omega)]; omega
theorem cut_sz {l h : Option Int} {xs : List (List D)} {n : Nat} (hx : xs.length ≤ n) : (cut l h xs).length ≤ n := by
  cases l <;> cases h <;> simp only [cut, List.length_drop, List.length_take] <;> omega
theorem pf_s {row : List Int} {m n : Nat} {K : Int} (hK : K = (m : Int)) (hn : m ≤ n) : ([] : List (List D)) ++ cut none (some K) ((row.take n).map intC) = (row.take m).map intC := by
  subst hK
  simp only [cut, List.nil_append, Int.toNat_natCast, ← List.map_take, List.take_take, Nat.min_eq_left hn]
theorem pf_l {row : List Int} {m n : Nat} {K : Int} {l : List Int} (hK : K = (m : Int)) (h : (row.take n).drop m = l) : ([] : List (List D)) ++ cut (some K) none ((row.take n).map intC) = l.map intC := by
  subst hK
  simp only [cut, List.nil_append, Int.toNat_natCast, ← List.map_drop, h]
theorem td0 {row : List Int} {m : Nat} : (row.take m).drop m = [] := by simp
theorem td1 {row : List Int} {m : Nat} (h : m + 1 ≤ row.length) : (row.take (m + 1)).drop m = [row.getD m 0] := by
  rw [List.drop_take, Nat.add_sub_cancel_left, List.drop_eq_getElem_cons (by omega), List.take_succ_cons, List.take_zero, List.getD_eq_getElem?_getD, List.getElem?_eq_getElem (by omega)]; rfl
theorem tdS {row : List Int} {m t : Nat} {l : List Int} (h : m + 1 ≤ row.length) (hl : (row.take (m + 1 + t)).drop (m + 1) = l) : (row.take (m + (t + 1))).drop m = row.getD m 0 :: l := by
  rw [show m + (t + 1) = m + 1 + t by omega, List.drop_take, show m + 1 + t - m = t + 1 by omega, List.drop_eq_getElem_cons (by omega), List.take_succ_cons, ← hl, List.drop_take, show m + 1 + t - (m + 1) = t by omega, List.getD_eq_getElem?_getD, List.getElem?_eq_getElem (by omega)]; rfl
theorem td2 {row : List Int} {m : Nat} (h : m + 2 ≤ row.length) : (row.take (m + 2)).drop m = [row.getD m 0, row.getD (m + 1) 0] := tdS (t := 1) (by omega) (td1 h)
theorem td4 {row : List Int} {m : Nat} (h : m + 4 ≤ row.length) : (row.take (m + 4)).drop m = [row.getD m 0, row.getD (m + 1) 0, row.getD (m + 2) 0, row.getD (m + 3) 0] :=
  tdS (t := 3) (by omega) (tdS (t := 2) (by omega) (td2 (m := m + 2) h))
theorem own_rng {l : List Int} {a : Int} (h0 : 0 ≤ a) (h1 : a < l.length) : 0 ≤ a ∧ a < ((0 + (l.map intC).length : Nat) : Int) := by rw [List.length_map]; omega
theorem own_in0 {X : List (List D)} {l : List Int} {a : Int} (h0 : 0 ≤ a) (h1 : a < l.length) : (List.take 0 X ++ l.map intC)[0 + a.toNat]? = some (intC (l.getD a.toNat 0)) := by
  rw [List.take_zero, List.nil_append]; exact own_in h0 h1
theorem ret_own {X : List (List D)} {l : List Int} {k : Nat} {y : Int} : 0 + (0 + (l.map intC).length) ≤ ((List.take 0 X ++ l.map intC).set (0 + k) [D.i y]).length ∧ (l.set k y).map intC = (((List.take 0 X ++ l.map intC).set (0 + k) [D.i y]).drop 0).take (0 + (l.map intC).length) := by
  refine ⟨by simp, ?_⟩
  rw [List.take_zero, List.nil_append, Nat.zero_add, Nat.zero_add, List.drop_zero, List.take_of_length_le (by simp), List.map_set]
theorem pf7 {st regs values ln pu : List Int} {out a v : Int} : D.agg [.sl 1 (st.map intC), ints regs, ints values, .sl 1 (([] : List (List D)) ++ ln.map intC ++ [[D.i a]]), .sl 1 (([] : List (List D)) ++ pu.map intC ++ [[D.i v]]), .i out] = rD st regs values (ln ++ [a]) (pu ++ [v]) out := by simp [rD, ints]
end Go.Fw.Mac
namespace Go.Fw
theorem pcall_out [GlobInt] {P : _} {f : FuncId} {ds : List D} {o o' : DOut} (h : PCall P f ds o) (e : o = o') : PCall P f ds o' := e ▸ h
end Go.Fw
namespace Go.Fw.Mac
set_option linter.unusedSectionVars false
open Go.Fw
abbrev pD (p : PS) : D := rD (p.row.take p.n) p.regs p.values (p.pushed.map (·.1)) (p.pushed.map (·.2)) p.out
theorem pd_push {row regs values : List Int} {pu : List (Int × Int)} {m ver : Nat} {out v v' : Int} (h : m ≤ row.length) (hv : clM v = clM v') : DOut.ret (rD (row.take m ++ [clM v]) regs values (pu.map (·.1)) (pu.map (·.2)) out) = .ret (pD ⟨ver, row.take m ++ [clM v'], m + 1, regs, values, pu, out⟩) := by
  have e : (row.take m ++ [clM v']).take (m + 1) = row.take m ++ [clM v'] := List.take_of_length_le (by rw [List.length_append, List.length_take]; simp; omega)
  simp only [pD, e, hv]
theorem mm_comm (k : Bool) (a b : Int) : mm2 k a b = mm2 k b a := by
  cases k <;> simp only [mm2] <;> split <;> split <;> omega
theorem putI_new {k v : Int} : ∀ {l : List (Int × Int)}, k ∉ l.map (·.1) → putI k v l = l ++ [(k, v)]
  | [], _ => rfl
  | (a, w) :: r, h => by
    have h1 : k ≠ a := fun e => h (by simp [e])
    have h2 : k ∉ r.map (·.1) := fun e => h (by simp at e ⊢; exact .inr e)
    have e : (k == a) = false := by simpa using h1
    rw [putI, e]
    simp only [putI_new h2, List.cons_append]
theorem putI_len {k v : Int} : ∀ {l : List (Int × Int)}, (putI k v l).length ≤ l.length + 1
  | [] => by simp [putI]
  | (a, w) :: r => by
    rw [putI]
    cases (k == a)
    · have := @putI_len k v r; simp only [List.length_cons]; omega
    · simp only [List.length_cons]; omega
theorem oneP_len {c : Cd} {par inn sid : List Int} {lines : List (List Int)} {p : PS} {x : Int × Int} : (oneP c par inn sid lines p x).pushed.length ≤ p.pushed.length + 1 := by
  unfold oneP
  repeat' (first | exact Nat.le_succ _ | exact putI_len | (cases (x.1 == _) <;> simp only [cond_true, cond_false]))
section
variable {c : Cd} {par inn sid : List Int} {lines : List (List Int)} {F : PS} {r : List (Int × Int)} {a : Int} {p : PS}
theorem push_new (h : StepI c par inn sid lines F ((7, a) :: r) p) (hz : c.lines.length ≤ 16) : a ∉ p.pushed.map (·.1) := by
  obtain ⟨o, pk, hc, hpk, hk⟩ := h.chk
  have hb := chkP_ref hc
  rw [chkP, hb] at hc
  simp only [cond_false] at hc
  have e22 : ((7 : Int) == 22) = false := by decide
  have e7 : ((7 : Int) == 7) = true := by decide
  rw [e22, e7] at hc
  simp only [cond_false, cond_true] at hc
  cases hp : pk.getD a.toNat false with
  | true => rw [hp] at hc; simp at hc
  | false =>
    intro hm
    obtain ⟨kv, hkv, rfl⟩ := List.mem_map.1 hm
    rw [hk kv hkv] at hp; exact absurd hp (by decide)
theorem op20_in (h : StepI c par inn sid lines F ((20, a) :: r) p) : 1 ≤ a ∧ a ≤ 2147483648 := by
  obtain ⟨o, pk, hc, -⟩ := h.chk
  have := ref_in (chkP_ref hc)
  exact ⟨this.2.1, this.2.2.1⟩
end
theorem top_bn {row : List Int} {n i : Nat} (h : ∀ v ∈ row.take n, Bn v) (hi : i < n) (hr : n ≤ row.length) : Bn (row.getD i 0) := row_top h hi hr
end Go.Fw.Mac
namespace Go.Fw.Mac
set_option linter.unusedSectionVars false
open Go.Fw
variable [GlobInt]
structure OnceI (c : Cd) (par inn sid : List Int) (s : Sta) (r : List (Int × Int)) (i : Nat) (p : PS) : Prop where
  st : StepI c par inn sid s.lines (onceP c par inn sid s) r p
  inv : InvP c p
  len : p.pushed.length ≤ i
  im : i ≤ 65536
section
variable {c : Cd} {par inn sid : List Int} {s : Sta} {r : List (Int × Int)} {i : Nat} {p : PS} {x : Int × Int}
theorem once_le (h : OnceI c par inn sid s r i p) : p.pushed.length ≤ 1000000 := by have := h.len; have := h.im; omega
theorem once_start (cd : CdOk c) (st : StOk c s) : OnceI c par inn sid s c.instrs 0 ⟨0, [], 0, List.replicate c.regs.toNat 0, s.values, [], 0⟩ := by
  have hr := cd.regs
  refine ⟨stepI_start (k := c.regs.toNat) cd.chk (by omega) st.vs.v, ⟨by simp, fun v hv => ?_, st.vs, by simp, show clipM 0 = 0 by decide⟩, Nat.le_refl _, by decide⟩
  rw [(List.mem_replicate.1 hv).2]; exact ⟨by decide, by decide⟩
theorem once_next' (cd : CdOk c) (E : EnvOk c par inn sid s.lines) (hd : c.instrs.drop i = x :: r) (h : OnceI c par inn sid s (x :: r) i p) : OnceI c par inn sid s r (i + 1) (oneP c par inn sid s.lines p x) := by
  have hl := drop_lt hd
  have h1 := cd.nI
  refine ⟨mstep_next E h.st, inv_next cd E h.st h.inv, ?_, by omega⟩
  have := h.len
  have := oneP_len (c := c) (par := par) (inn := inn) (sid := sid) (lines := s.lines) (p := p) (x := x)
  omega
theorem once_end (h : OnceI c par inn sid s [] i p) : onceP c par inn sid s = p := mstep_end h.st
end
theorem idx_map {α : Type} {l : List α} {f : α → Int} {i : Nat} {x : α} {r : List α} (h : l.drop i = x :: r) : 0 ≤ (i : Int) ∧ ((l.map f).map intC)[(i : Int).toNat]? = some (intC (f x)) := by
  refine ⟨by omega, ?_⟩
  rw [Int.toNat_natCast, List.map_map, List.getElem?_map, drop_get h]; rfl
structure PushI (c : Cd) (s : Sta) (F : PS) (L : List (List Int)) (r : List (Int × Int)) : Prop where
  eq : F.pushed.foldl updLn s.lines = r.foldl updLn L
  len : L.length = c.lines.length
  lin : s.lines.length = c.lines.length
  old : ∀ kv ∈ r, L.getD kv.1.toNat [] = s.lines.getD kv.1.toNat []
  rng : ∀ kv ∈ r, 0 ≤ kv.1 ∧ kv.1 < c.lines.length
  nd : (r.map (·.1)).Nodup
  sz : ∀ i, i < c.lines.length → 1 ≤ (s.lines.getD i []).length ∧ (s.lines.getD i []).length ≤ 65536
section
variable {c : Cd} {par inn sid : List Int} {s : Sta} {F : PS} {L : List (List Int)} {r : List (Int × Int)} {x : Int × Int} {i : Nat}
theorem push_start (E : EnvOk c par inn sid s.lines) (h : OnceI c par inn sid s [] i F) : PushI c s F s.lines F.pushed :=
  ⟨rfl, E.linesN, E.linesN, fun _ _ => rfl, h.st.rng, h.st.keys, fun i hi => by have := E.line i hi; have := E.size i hi; omega⟩
theorem push_rng (h : PushI c s F L (x :: r)) : 0 ≤ x.1 ∧ x.1 < (L.length : Int) := by have := h.rng x (by simp); have := h.len; omega
theorem push_at (h : PushI c s F L (x :: r)) : (L.map lnC)[0 + x.1.toNat]? = some (lnC (L.getD x.1.toNat [])) := own_inL (push_rng h).1 (push_rng h).2
theorem old_at (h : PushI c s F L (x :: r)) : 0 ≤ x.1 ∧ (s.lines.map lnC)[x.1.toNat]? = some (lnC (s.lines.getD x.1.toNat [])) := idx_inL (h.rng x (by simp)).1 (by have := (h.rng x (by simp)).2; have := h.lin; omega)
theorem push_sz (h : PushI c s F L (x :: r)) : 1 ≤ (s.lines.getD x.1.toNat []).length ∧ (s.lines.getD x.1.toNat []).length ≤ 65536 := h.sz _ (by have := h.rng x (by simp); omega)
theorem push_arr (h : PushI c s F L (x :: r)) : (L.map lnC).set (0 + x.1.toNat) [D.sl 1 ([[D.i x.2]] ++ ((s.lines.getD x.1.toNat []).map intC).take (W ((((s.lines.getD x.1.toNat []).map intC).length : Int) - 1)).toNat)] = (updLn L x).map lnC := by
  have e := h.old x (by simp)
  have hz := push_sz h
  rw [← e] at hz ⊢
  exact (Block.arr.inj (mline_arr (v := 0) (s := 0) hz.1 hz.2)).2.2
theorem push_next (h : PushI c s F L (x :: r)) : PushI c s F (updLn L x) r := by
  have hn := List.nodup_cons.1 h.nd
  refine ⟨h.eq, by rw [updLn_len]; exact h.len, h.lin, fun kv hkv => ?_, fun kv hkv => h.rng kv (by simp [hkv]), hn.2, h.sz⟩
  rw [updLn_get, h.old kv (by simp [hkv])]
  intro e
  have h1 := h.rng kv (by simp [hkv]); have h2 := h.rng x (by simp)
  have : kv.1 = x.1 := by omega
  exact hn.1 (by show x.1 ∈ _; rw [← this]; exact List.mem_map_of_mem (f := fun x => x.1) hkv)
theorem push_end (h : PushI c s F L []) : F.pushed.foldl updLn s.lines = L := h.eq
theorem own_len0 {l : List (List Int)} {i v s : Nat} : AV.own i v s 0 (0 + (l.map lnC).length) = AV.own i v s 0 l.length := by rw [Nat.zero_add, List.length_map]
theorem once_res (h : PushI c s (onceP c par inn sid s) L []) : D.tuple [.i (onceP c par inn sid s).out, .agg [ints (onceP c par inn sid s).values, .sl 1 (L.map lnC)]] = .tuple [.i (onceM c par inn sid s).1, (onceM c par inn sid s).2.d] := by
  have e := push_end h
  simp only [onceM, e]
end
def rArgs (c : Cd) (par inn sid : List Int) : Bool := bif (bif !(controlsM c par) then true else !(samplesM c inn 1)) then true else !(samplesM c sid 1)
section
variable {c : Cd} {par inn sid : List Int} {s : Sta}
theorem rargs_eq (h1 : checkP c = true) : (bif argsBad c (([par] : List (List Int)).length : Int) inn sid 1 16777216 then true else decide (firstC c [par] 0 ≥ 0)) = rArgs c par inn sid := by
  have e : argsBad c (([par] : List (List Int)).length : Int) inn sid 1 16777216 = (bif !(samplesM c inn 1) then true else !(samplesM c sid 1)) := rfl
  have f : decide (firstC c [par] 0 ≥ 0) = !(controlsM c par) := by
    rw [firstC, firstC]
    cases controlsM c par <;> rfl
  rw [e, f]
  unfold rArgs
  cases controlsM c par <;> cases samplesM c inn 1 <;> cases samplesM c sid 1 <;> rfl
theorem rs_bad {e : Int} (h0 : e ≠ 0) (h : runM c s [par] inn sid 1 16777216 = ([], ⟨[], []⟩, 0, e)) : D.tuple [.i 0, .agg [.sl 1 [], .sl 1 []], .i e] = stepD (stepM c par inn sid s) := by
  unfold stepM
  rw [h]
  have : (e != 0) = true := by simpa using h0
  simp only [this, cond_true]; rfl
theorem rs_e1 (h1 : (okE (checkP c) != 0) = true) : D.tuple [.i 0, .agg [.sl 1 [], .sl 1 []], .i 200] = stepD (stepM c par inn sid s) := by
  refine rs_bad (by decide) ?_
  unfold runM; rw [okE_no h1]; rfl
theorem rs_e2 (h1 : (okE (checkP c) != 0) = false) (h2 : rArgs c par inn sid = true) : D.tuple [.i 0, .agg [.sl 1 [], .sl 1 []], .i 1] = stepD (stepM c par inn sid s) := by
  refine rs_bad (by decide) ?_
  have e := rargs_eq (par := par) (inn := inn) (sid := sid) (okE_yes h1)
  rw [h2] at e
  unfold runM; rw [okE_yes h1]
  cases ha : argsBad c (([par] : List (List Int)).length : Int) inn sid 1 16777216 with
  | true => rfl
  | false => rw [ha] at e; simp only [cond_false] at e; rw [e]; rfl
theorem rs_e3 (h1 : (okE (checkP c) != 0) = false) (h2 : rArgs c par inn sid = false) (h3 : (!(stateM c s)) = true) : D.tuple [.i 0, .agg [.sl 1 [], .sl 1 []], .i 180] = stepD (stepM c par inn sid s) := by
  refine rs_bad (by decide) ?_
  have e := rargs_eq (par := par) (inn := inn) (sid := sid) (okE_yes h1)
  rw [h2] at e
  obtain ⟨e1, e2⟩ := or_no.1 e
  unfold runM; rw [okE_yes h1, e1, e2, h3]; rfl
theorem rs_good (g : c.Sm) (h1 : (okE (checkP c) != 0) = false) (h2 : rArgs c par inn sid = false) (h3 : (!(stateM c s)) = false) : RunGood c s [par] inn sid 1 16777216 := by
  have cd := cdOk g (okE_yes h1)
  have e := rargs_eq (par := par) (inn := inn) (sid := sid) (okE_yes h1)
  rw [h2] at e
  obtain ⟨e1, e2⟩ := or_no.1 e
  have := cd.nI
  exact ⟨okE_yes h1, (args_iff cd.lat).1 e1, (firstC_iff c [par] 0 (Int.le_refl _)).1 e2, by simpa using h3, by omega⟩
theorem rs_E (g : c.Sm) (h : RunGood c s [par] inn sid 1 16777216) : EnvOk c par inn sid s.lines := mAt_env (run_ok g h) (i := 0) (by simp) (run_ok g h).st.ls
theorem rs_res (g : c.Sm) (h : RunGood c s [par] inn sid 1 16777216) : D.tuple [.i (onceM c par inn sid s).1, (onceM c par inn sid s).2.d, .i 0] = stepD (stepM c par inn sid s) := by
  unfold stepM; rw [run_good g h]; rfl
end
section
variable {c : Cd} {s : Sta} {ps : List (List Int)} {inn sid : List Int} {fuel : Int} {k i : Nat} {x : List Int} {r : List (List Int)}
theorem run_x (h : ps.drop i = x :: r) (hk : k = i ∧ k ≤ ps.length) : ps.getD k [] = x := by rw [hk.1]; exact drop_getD h
theorem rng_snoc {f : Nat → Int} : ((List.range k).map f).map intC ++ [[D.i (f k)]] = ((List.range (k + 1)).map f).map intC := by rw [List.range_succ]; simp
theorem rr_args {n : Int} (g : c.Sm) (h1 : (okE (checkP c) != 0) = false) (h2 : argsBad c (((ps.map lnC).length : Nat) : Int) inn sid n fuel = false) : ArgsOk c ps.length inn sid n fuel := by
  rw [List.length_map] at h2
  exact (args_iff (cdOk g (okE_yes h1)).lat).1 h2
theorem rr_fuel (cd : CdOk c) (h : ArgsOk c ps.length inn sid (ps.length : Int) fuel) {b : Bool} (hb : decide (W ((ps.length : Int) * (((c.instrs.map insC).length : Nat) : Int)) > fuel) = b) : decide (W (fuel - W ((ps.length : Int) * (c.instrs.length : Int))) < 0) = b := by
  rw [← hb, List.length_map]
  have h1 := cd.nI; have hn := h.hn; have hf := h.hf
  have h2 : 0 ≤ (ps.length : Int) * (c.instrs.length : Int) := Int.mul_nonneg hn.1 (by omega)
  have h3 : (ps.length : Int) * (c.instrs.length : Int) ≤ 65536 * 65536 := Int.mul_le_mul hn.2 (by omega) (by omega) (by omega)
  rw [W_ok (n := (ps.length : Int) * (c.instrs.length : Int)) (by omega) (by omega), W_ok (n := fuel - _) (by omega) (by omega)]
  by_cases hq : fuel - (ps.length : Int) * (c.instrs.length : Int) < 0
  · rw [decide_eq_true hq, decide_eq_true (by omega)]
  · rw [decide_eq_false hq, decide_eq_false (by omega)]
theorem rr_e1 {n : Int} (h1 : (okE (checkP c) != 0) = true) : D.tuple [.sl 1 [], .agg [.sl 1 [], .sl 1 []], .i 0, .i 200] = runD (runM c s ps inn sid n fuel) := by
  unfold runM; rw [okE_no h1]; rfl
theorem rr_e2 {n : Int} (h1 : (okE (checkP c) != 0) = false) (h2 : argsBad c (((ps.map lnC).length : Nat) : Int) inn sid n fuel = true) : D.tuple [.sl 1 [], .agg [.sl 1 [], .sl 1 []], .i 0, .i 1] = runD (runM c s ps inn sid n fuel) := by
  rw [List.length_map] at h2; unfold runM; rw [okE_yes h1, h2]; rfl
theorem rr_e3 (h1 : (okE (checkP c) != 0) = false) (hA : ArgsOk c ps.length inn sid (ps.length : Int) fuel) (g : c.Sm) (hI : firstC c ps 0 = firstC c (x :: r) i) (h3 : (!(controlsM c x)) = true) : D.tuple [.sl 1 [], .agg [.sl 1 [], .sl 1 []], .i 0, .i 1] = runD (runM c s ps inn sid (ps.length : Int) fuel) := by
  have e := firstC_hit hI h3
  unfold runM; rw [okE_yes h1, (args_iff (cdOk g (okE_yes h1)).lat).2 hA, e, decide_eq_true (by omega)]; rfl
theorem rr_c (hI : firstC c ps 0 = firstC c [] i) : decide (firstC c ps 0 ≥ 0) = false := by rw [hI, firstC]; rfl
theorem rr_e4 (h1 : (okE (checkP c) != 0) = false) (hA : ArgsOk c ps.length inn sid (ps.length : Int) fuel) (g : c.Sm) (hI : firstC c ps 0 = firstC c [] i) (h4 : (!(stateM c s)) = true) : D.tuple [.sl 1 [], .agg [.sl 1 [], .sl 1 []], .i 0, .i 180] = runD (runM c s ps inn sid (ps.length : Int) fuel) := by
  unfold runM; rw [okE_yes h1, (args_iff (cdOk g (okE_yes h1)).lat).2 hA, rr_c hI, h4]; rfl
theorem rr_e5 (h1 : (okE (checkP c) != 0) = false) (hA : ArgsOk c ps.length inn sid (ps.length : Int) fuel) (g : c.Sm) (hI : firstC c ps 0 = firstC c [] i) (h4 : (!(stateM c s)) = false) (h5 : decide (W ((ps.length : Int) * (((c.instrs.map insC).length : Nat) : Int)) > fuel) = true) : D.tuple [.sl 1 [], .agg [.sl 1 [], .sl 1 []], .i 0, .i 201] = runD (runM c s ps inn sid (ps.length : Int) fuel) := by
  have cd := cdOk g (okE_yes h1)
  unfold runM; rw [okE_yes h1, (args_iff cd.lat).2 hA, rr_c hI, h4, rr_fuel cd hA h5]; rfl
theorem rr_good (g : c.Sm) (h1 : (okE (checkP c) != 0) = false) (hA : ArgsOk c ps.length inn sid (ps.length : Int) fuel) (hI : firstC c ps 0 = firstC c [] i) (h4 : (!(stateM c s)) = false) (h5 : decide (W ((ps.length : Int) * (((c.instrs.map insC).length : Nat) : Int)) > fuel) = false) : RunGood c s ps inn sid (ps.length : Int) fuel := by
  have cd := cdOk g (okE_yes h1)
  have h6 := rr_fuel cd hA h5
  rw [(fuel_W cd hA.hn hA.hf).1] at h6
  have h6 := of_decide_eq_false h6
  exact ⟨okE_yes h1, hA, (firstC_iff c ps 0 (Int.le_refl _)).1 (rr_c hI), by simpa using h4, by omega⟩
theorem rr_E (g : c.Sm) (h : RunGood c s ps inn sid (ps.length : Int) fuel) (hk : k < ps.length) : EnvOk c (ps.getD k []) (inn.drop k) (sid.drop k) (stAt c ps inn sid s k).lines :=
  mAt_env (run_ok g h) hk (stAt_ok (run_ok g h) (Nat.le_of_lt hk)).ls
theorem rr_st (g : c.Sm) (h : RunGood c s ps inn sid (ps.length : Int) fuel) (hk : k < ps.length) : StOk c (stAt c ps inn sid s k) := stAt_ok (run_ok g h) (Nat.le_of_lt hk)
theorem rr_res (g : c.Sm) (h : RunGood c s ps inn sid (ps.length : Int) fuel) : D.tuple [ints ((List.range ps.length).map (outAt c ps inn sid s)), .agg [ints (stAt c ps inn sid s ps.length).values, .sl 1 ((stAt c ps inn sid s ps.length).lines.map lnC)], .i (W (fuel - W ((ps.length : Int) * (((c.instrs.map insC).length : Nat) : Int)))), .i 0] = runD (runM c s ps inn sid (ps.length : Int) fuel) := by
  rw [List.length_map, (fuel_W (cdOk g h.chk) h.args.hn h.args.hf).1, run_good g h]
end
end Go.Fw.Mac
namespace Go.Fw.Mac
set_option linter.unusedSectionVars false
open Go.Fw
def codeC (l : List (Int × Int)) : Cd := ⟨0, 0, [], [], [], [], 0, l⟩
def heldC : Cd := ⟨0, 0, [], [⟨[115], 2, 5⟩], [], [], 0, [(1, 9), (6, 0), (3, 0), (22, 0)]⟩
theorem codeC_sm {l : List (Int × Int)} (h : l.length ≤ 268435456) : (codeC l).Sm := ⟨Nat.zero_le _, Nat.zero_le _, Nat.zero_le _, Nat.zero_le _, h, fun t ht => by simp [codeC] at ht⟩
theorem heldC_sm : heldC.Sm := ⟨Nat.zero_le _, by decide, Nat.zero_le _, Nat.zero_le _, by decide, fun t ht => by simp [heldC] at ht⟩
theorem sta_sm {l : List Int} (h : l.length ≤ 268435456) : (⟨l, []⟩ : Sta).Sm := ⟨h, Nat.zero_le _, fun t ht => by simp at ht⟩
theorem sameI_self (a : List Int) : sameI a a = true := sameI_iff.2 rfl
theorem sameSt_self (a : Sta) : sameSt a a = true := sameSt_iff.2 rfl
theorem stOk_sm {c : Cd} {s : Sta} (cd : CdOk c) (h : StOk c s) : s.Sm := by
  refine ⟨by have := h.vs.v; have := cd.nS; omega, by have := h.ls.l; have := cd.nL; omega, fun t ht => ?_⟩
  obtain ⟨i, hi, rfl⟩ := List.mem_iff_getElem.1 ht
  have h1 := h.ls.l
  have h2 := (h.ls.line i (by omega)).1
  have h3 := (cd.lines _ (getD_mem (l := c.lines) (i := i) (d := default) (by omega))).2
  rw [List.getD_eq_getElem?_getD, List.getElem?_eq_getElem hi] at h2
  simp only [Option.getD_some] at h2
  omega
def startS (c : Cd) : Sta := bif checkP c then startM c else ⟨[], []⟩
theorem startS_sm {c : Cd} (g : c.Sm) : (startS c).Sm := by
  unfold startS
  cases h : checkP c with
  | false => exact sta_sm (by decide)
  | true =>
    have cd := cdOk g h
    refine ⟨by simp only [cond_true, startM, List.length_map]; have := cd.nS; omega, by simp only [cond_true, startM, List.length_map]; have := cd.nL; omega, fun t ht => ?_⟩
    simp only [cond_true, startM, List.mem_map] at ht
    obtain ⟨x, hx, rfl⟩ := ht
    have := (cd.lines x hx).2
    rw [List.length_replicate]; omega
section
variable {c : Cd} {s : Sta} {ps : List (List Int)} {inn sid par : List Int} {n fuel : Int}
theorem run_sm (g : c.Sm) : (runM c s ps inn sid n fuel).2.1.Sm := by
  rcases run_cases (s := s) (ps := ps) (inn := inn) (sid := sid) (n := n) (fuel := fuel) g with h | h
  · rw [run_good g h]; exact stOk_sm (cdOk g h.chk) (stAt_ok (run_ok g h) (Nat.le_refl _))
  · rw [h.2.1]; exact sta_sm (by decide)
theorem run_outs (g : c.Sm) : (runM c s ps inn sid n fuel).1.length ≤ ps.length := by
  rcases run_cases (s := s) (ps := ps) (inn := inn) (sid := sid) (n := n) (fuel := fuel) g with h | h
  · rw [run_good g h]; simp
  · rw [h.1]; exact Nat.zero_le _
theorem step_sm (g : c.Sm) : (stepM c par inn sid s).2.1.Sm := by
  unfold stepM
  cases ((runM c s [par] inn sid 1 16777216).2.2.2 != 0) <;> exact run_sm g
theorem fewR_hit {x : List Int} {r : List (List Int)} (h : anyLong ps = anyLong (x :: r)) (h1 : decide (((x.map intC).length : Int) > 40) = true) : fewR c s ps inn sid = false := by
  rw [List.length_map] at h1
  unfold fewR; rw [anyLong_hit h h1]; rfl
theorem fewR_next {x : List Int} {r : List (List Int)} {b : Bool} (h : b = anyLong (x :: r)) (h1 : decide (((x.map intC).length : Int) > 40) = false) : b = anyLong r := by
  rw [List.length_map] at h1; exact anyLong_next h h1
theorem fewR_end (h : anyLong ps = anyLong []) : (bif bif bif bif fewC c then fewSt s else false then decide (((ps.map lnC).length : Int) ≤ 40) else false then decide (((inn.map intC).length : Int) ≤ 80) else false then decide (((sid.map intC).length : Int) ≤ 80) else false) = fewR c s ps inn sid := by
  unfold fewR; rw [h, List.length_map, List.length_map, List.length_map]; rfl
end
theorem more_d {c : Cd} {v : Int} (hr : 0 ≤ c.regs ∧ c.regs ≤ 65536) : D.agg [.i c.latency, .i c.tail, .sl 3 (c.params.map Bd.cs), .sl 3 (c.states.map Bd.cs), .sl 4 (c.lines.map Ln.cs), .sl 1 (c.tables.map lnC), .i (W (c.regs + 1)), .sl 2 ([[D.i 1, D.i v], [D.i 16, D.i 0], [D.i 5, D.i c.regs]] ++ c.instrs.map insC)] = (moreM c v).d := by
  rw [W_ok (n := c.regs + 1) (by omega) (by omega)]; rfl
theorem unused_in {c : Cd} {a b d e : Bool} (h : (bif (bif (bif (bif (bif !(fewC c) then true else a) then true else b) then true else d) then true else e) then true else (okE (checkP c) != 0)) = false) : checkP c = true ∧ c.regs ≤ 60000 ∧ c.instrs.length ≤ 60000 := by
  obtain ⟨h, h1⟩ := or_no.1 h
  obtain ⟨h, -⟩ := or_no.1 h
  obtain ⟨h, -⟩ := or_no.1 h
  obtain ⟨h, -⟩ := or_no.1 h
  obtain ⟨h, -⟩ := or_no.1 h
  have hf := fewC_in (show fewC c = true by simpa using h)
  exact ⟨okE_yes h1, by omega, by omega⟩
end Go.Fw.Mac
namespace Go.Fw.Mac
set_option linter.unusedSectionVars false
open Go.Fw
variable [GlobInt]
section
variable {c : Cd} {s : Sta} {ps : List (List Int)} {inn sid : List Int} {fuel : Int} {K m : Nat}
end
end Go.Fw.Mac
