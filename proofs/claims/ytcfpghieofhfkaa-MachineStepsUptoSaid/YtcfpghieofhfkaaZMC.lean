/- The specification of the machine, in plain words: comparing, sizes. -/
import Derived.Test.YtcfpghieofhfkaaZMB
set_option linter.unusedSimpArgs false
set_option linter.unusedVariables false
namespace Go.Fw.Mac
set_option linter.unusedSectionVars false
open Go.Fw
def sameZ : List (Int × Int) → Bool
  | [] => true
  | (x, y) :: r => bif x != y then false else sameZ r
def sameI (a b : List Int) : Bool := bif (a.length : Int) != (b.length : Int) then false else sameZ (a.zip b)
def sameL : List (List Int × List Int) → Bool
  | [] => true
  | (x, y) :: r => bif !(sameI x y) then false else sameL r
def sameSt (a b : Sta) : Bool := bif (bif !(sameI a.values b.values) then true else (a.lines.length : Int) != (b.lines.length : Int)) then false else sameL (a.lines.zip b.lines)
section
variable {a b : List Int} {x : Int × Int} {r : List (Int × Int)} {t : Bool}
theorem sameZ_next (h : t = sameZ (x :: r)) (hb : (x.1 != x.2) = false) : t = sameZ r := by rw [h, sameZ, hb]; rfl
theorem sameI_len (h : ((a.length : Int) != (b.length : Int)) = true) : sameI a b = false := by unfold sameI; rw [h]; rfl
theorem sameI_no (heq : a.length = b.length) (hI : sameZ (a.zip b) = sameZ (x :: r)) (h : (x.1 != x.2) = true) : sameI a b = false := by
  unfold sameI; rw [heq, hI, sameZ, h]; simp
theorem sameI_yes (heq : a.length = b.length) (hI : sameZ (a.zip b) = sameZ []) : sameI a b = true := by
  unfold sameI; rw [heq, hI, sameZ]; simp
end
theorem sameZ_iff : ∀ {a b : List Int}, a.length = b.length → (sameZ (a.zip b) = true ↔ a = b)
  | [], [], _ => by simp [sameZ]
  | [], _ :: _, h => by simp at h
  | _ :: _, [], h => by simp at h
  | x :: a, y :: b, h => by
    have ih := @sameZ_iff a b (by simpa using h)
    rw [List.zip_cons_cons, sameZ]
    by_cases e : x = y
    · subst e; simp [ih]
    · have : (x != y) = true := by simpa using e
      rw [this]; simp [e]
theorem sameI_iff {a b : List Int} : sameI a b = true ↔ a = b := by
  unfold sameI
  by_cases h : a.length = b.length
  · rw [h]; simp only [bne_self_eq_false, cond_false]; exact sameZ_iff h
  · have : ((a.length : Int) != (b.length : Int)) = true := by simp; omega
    rw [this]; simp only [cond_true]
    exact ⟨fun h => absurd h (by decide), fun e => absurd (congrArg List.length e) h⟩
section
variable {a b : Sta} {x : List Int × List Int} {r : List (List Int × List Int)} {t : Bool}
theorem sameL_next (h : t = sameL (x :: r)) (hb : (!(sameI x.1 x.2)) = false) : t = sameL r := by rw [h, sameL, hb]; rfl
theorem sameSt_len (h : (bif !(sameI a.values b.values) then true else (a.lines.length : Int) != (b.lines.length : Int)) = false) : sameI a.values b.values = true ∧ a.lines.length = b.lines.length := by
  cases h1 : sameI a.values b.values with
  | false => rw [h1] at h; simp at h
  | true => rw [h1] at h; exact ⟨rfl, len_ne h⟩
theorem sameSt_no (h : (bif !(sameI a.values b.values) then true else (a.lines.length : Int) != (b.lines.length : Int)) = true) : sameSt a b = false := by unfold sameSt; rw [h]; rfl
theorem sameSt_bad (heq : sameI a.values b.values = true ∧ a.lines.length = b.lines.length) (hI : sameL (a.lines.zip b.lines) = sameL (x :: r)) (h : (!(sameI x.1 x.2)) = true) : sameSt a b = false := by
  unfold sameSt; rw [heq.1, heq.2, hI, sameL, h]; simp
theorem sameSt_yes (heq : sameI a.values b.values = true ∧ a.lines.length = b.lines.length) (hI : sameL (a.lines.zip b.lines) = sameL []) : sameSt a b = true := by
  unfold sameSt; rw [heq.1, heq.2, hI, sameL]; simp
end
theorem sameL_iff : ∀ {a b : List (List Int)}, a.length = b.length → (sameL (a.zip b) = true ↔ a = b)
  | [], [], _ => by simp [sameL]
  | [], _ :: _, h => by simp at h
  | _ :: _, [], h => by simp at h
  | x :: a, y :: b, h => by
    have ih := @sameL_iff a b (by simpa using h)
    have e := @sameI_iff x y
    rw [List.zip_cons_cons, sameL]
    cases h1 : sameI x y with
    | true => rw [h1] at e; simp [ih, e.1 rfl]
    | false =>
      rw [h1] at e
      have : x ≠ y := fun h => by simpa using e.2 h
      simp [this]
theorem sameSt_iff {a b : Sta} : sameSt a b = true ↔ a = b := by
  obtain ⟨v, l⟩ := a; obtain ⟨v', l'⟩ := b
  have e := @sameI_iff v v'
  unfold sameSt
  simp only [Sta.mk.injEq]
  cases h1 : sameI v v' with
  | false =>
    rw [h1] at e
    have : v ≠ v' := fun h => by simpa using e.2 h
    simp [this]
  | true =>
    rw [h1] at e
    have e := e.1 rfl
    simp only [Bool.not_true, cond_false, e, true_and]
    by_cases h : l.length = l'.length
    · rw [h]; simp only [bne_self_eq_false, cond_false]; exact sameL_iff h
    · have : ((l.length : Int) != (l'.length : Int)) = true := by simp; omega
      rw [this]; simp only [cond_true]
      exact ⟨fun h => absurd h (by decide), fun e => absurd (congrArg List.length e) h⟩
def fewN : Int → List Nat → Int
  | n, [] => n
  | n, x :: r => bif decide (n ≤ 500) then fewN (W (n + (x : Int))) r else n
def fewSt (s : Sta) : Bool := decide (fewN (W ((s.values.length : Int) + (s.lines.length : Int))) (s.lines.map List.length) ≤ 500)
def szBad (n : Int) : List Ln → Bool
  | [] => false
  | x :: r => bif decide (n ≤ 500) then (bif decide (x.size > 100) then true else szBad n r) else false
def fewCn (c : Cd) : Int := fewN (W (W (W ((c.params.length : Int) + (c.states.length : Int)) + (c.lines.length : Int)) + (c.tables.length : Int))) (c.tables.map List.length)
def fewF (c : Cd) (n : Int) : Bool := bif (bif (bif decide (n ≤ 500) then decide ((c.instrs.length : Int) ≤ 300) else false) then decide (c.regs ≤ 300) else false) then decide (c.latency ≤ 20) else false
def fewC (c : Cd) : Bool := bif szBad (fewCn c) c.lines then false else fewF c (fewCn c)
def anyLong : List (List Int) → Bool
  | [] => false
  | x :: r => bif decide ((x.length : Int) > 40) then true else anyLong r
def fewR (c : Cd) (s : Sta) (ps : List (List Int)) (inn sid : List Int) : Bool := bif anyLong ps then false else
  bif (bif (bif (bif fewC c then fewSt s else false) then decide ((ps.length : Int) ≤ 40) else false) then decide ((inn.length : Int) ≤ 80) else false) then decide ((sid.length : Int) ≤ 80) else false
theorem fewSt_start {s : Sta} : fewSt s = decide (fewN (W (((s.values.map intC).length : Int) + ((s.lines.map lnC).length : Int))) (s.lines.map List.length) ≤ 500) := by rw [List.length_map, List.length_map]; rfl
theorem fewSt_next {b : Bool} {n : Int} {x : List Int} {r : List (List Int)} (h : b = decide (fewN n ((x :: r).map List.length) ≤ 500)) (hb : decide (n ≤ 500) = true) : b = decide (fewN (W (n + ((x.map intC).length : Int))) (r.map List.length) ≤ 500) := by
  rw [h, List.map_cons, fewN, hb, List.length_map]; rfl
theorem fewSt_stop {b : Bool} {n : Int} {x : List Int} {r : List (List Int)} (h : b = decide (fewN n ((x :: r).map List.length) ≤ 500)) (hb : decide (n ≤ 500) = false) : b = decide (n ≤ 500) := by
  rw [h, List.map_cons, fewN, hb]; exact hb
theorem fewSt_end {b : Bool} {n : Int} (h : b = decide (fewN n (([] : List (List Int)).map List.length) ≤ 500)) : b = decide (n ≤ 500) := by
  rw [h, List.map_nil, fewN]
theorem szBad_next {n : Int} {x : Ln} {r : List Ln} {b : Bool} (h : b = szBad n (x :: r)) (h1 : decide (n ≤ 500) = true) (h2 : decide (x.size > 100) = false) : b = szBad n r := by rw [h, szBad, h1, h2]; rfl
theorem szBad_hit {n : Int} {x : Ln} {r : List Ln} {b : Bool} (h : b = szBad n (x :: r)) (h1 : decide (n ≤ 500) = true) (h2 : decide (x.size > 100) = true) : b = true := by rw [h, szBad, h1, h2]; rfl
theorem szBad_stop {n : Int} {x : Ln} {r : List Ln} {b : Bool} (h : b = szBad n (x :: r)) (h1 : decide (n ≤ 500) = false) : b = false := by rw [h, szBad, h1]; rfl
theorem anyLong_next {x : List Int} {r : List (List Int)} {b : Bool} (h : b = anyLong (x :: r)) (h1 : decide ((x.length : Int) > 40) = false) : b = anyLong r := by rw [h, anyLong, h1]; rfl
theorem anyLong_hit {x : List Int} {r : List (List Int)} {b : Bool} (h : b = anyLong (x :: r)) (h1 : decide ((x.length : Int) > 40) = true) : b = true := by rw [h, anyLong, h1]; rfl
theorem szBad_end {n : Int} {b : Bool} (h : b = szBad n []) : b = false := by rw [h, szBad]
theorem fewCn_start {c : Cd} : fewCn c = fewN (W (W (W (((c.params.map Bd.cs).length : Int) + ((c.states.map Bd.cs).length : Int)) + ((c.lines.map Ln.cs).length : Int)) + ((c.tables.map lnC).length : Int))) (c.tables.map List.length) := by
  rw [List.length_map, List.length_map, List.length_map, List.length_map]; rfl
theorem fewCn_next {m n : Int} {x : List Int} {r : List (List Int)} (h : m = fewN n ((x :: r).map List.length)) (hb : decide (n ≤ 500) = true) : m = fewN (W (n + ((x.map intC).length : Int))) (r.map List.length) := by
  rw [h, List.map_cons, fewN, hb, List.length_map]; rfl
theorem fewCn_stop {m n : Int} {x : List Int} {r : List (List Int)} (h : m = fewN n ((x :: r).map List.length)) (hb : decide (n ≤ 500) = false) : m = n := by
  rw [h, List.map_cons, fewN, hb]; rfl
theorem fewCn_end {m n : Int} (h : m = fewN n (([] : List (List Int)).map List.length)) : m = n := by rw [h, List.map_nil, fewN]
theorem fewC_bad {c : Cd} {n : Int} (h0 : fewCn c = n) (h1 : szBad n c.lines = true) : fewC c = false := by unfold fewC; rw [h0, h1]; rfl
theorem fewC_end {c : Cd} {n : Int} (h0 : fewCn c = n) (h1 : szBad n c.lines = false) : fewC c = (bif bif bif decide (n ≤ 500) then decide (((c.instrs.map insC).length : Int) ≤ 300) else false then decide (c.regs ≤ 300) else false then decide (c.latency ≤ 20) else false) := by
  unfold fewC; rw [h0, h1, List.length_map]; rfl
theorem fewC_in {c : Cd} (h : fewC c = true) : (c.instrs.length : Int) ≤ 300 ∧ c.regs ≤ 300 ∧ c.latency ≤ 20 := by
  unfold fewC fewF at h
  cases h0 : szBad (fewCn c) c.lines with
  | true => rw [h0] at h; simp at h
  | false =>
    rw [h0] at h
    simp only [cond_false] at h
    obtain ⟨h, h1⟩ := and_two h
    obtain ⟨h, h2⟩ := and_two h
    obtain ⟨h, h3⟩ := and_two h
    exact ⟨of_decide_eq_true h3, of_decide_eq_true h2, of_decide_eq_true h1⟩
theorem fewR_in {c : Cd} {s : Sta} {ps : List (List Int)} {inn sid : List Int} (h : fewR c s ps inn sid = true) : fewC c = true ∧ ps.length ≤ 40 := by
  unfold fewR at h
  cases h0 : anyLong ps with
  | true => rw [h0] at h; simp at h
  | false =>
    rw [h0] at h
    simp only [cond_false] at h
    obtain ⟨h, h1⟩ := and_two h
    obtain ⟨h, h2⟩ := and_two h
    obtain ⟨h, h3⟩ := and_two h
    obtain ⟨h, h4⟩ := and_two h
    have := of_decide_eq_true h3
    exact ⟨h, by omega⟩
end Go.Fw.Mac
namespace Go.Fw.Mac
set_option linter.unusedSectionVars false
open Go.Fw
end Go.Fw.Mac
namespace Go.Fw
theorem pcall_out [GlobInt] {P : _} {f : FuncId} {ds : List D} {o o' : DOut} (h : PCall P f ds o) (e : o = o') : PCall P f ds o' := e ▸ h
end Go.Fw
namespace Go.Fw.Mac
set_option linter.unusedSectionVars false
open Go.Fw
section
variable {c : Cd} {par inn sid : List Int} {lines : List (List Int)} {F : PS} {r : List (Int × Int)} {a : Int} {p : PS}
end
end Go.Fw.Mac
namespace Go.Fw.Mac
set_option linter.unusedSectionVars false
open Go.Fw
variable [GlobInt]
section
variable {c : Cd} {par inn sid : List Int} {s : Sta} {r : List (Int × Int)} {i : Nat} {p : PS} {x : Int × Int}
end
section
variable {c : Cd} {par inn sid : List Int} {s : Sta} {F : PS} {L : List (List Int)} {r : List (Int × Int)} {x : Int × Int} {i : Nat}
end
section
variable {c : Cd} {par inn sid : List Int} {s : Sta}
end
section
variable {c : Cd} {s : Sta} {ps : List (List Int)} {inn sid : List Int} {fuel : Int} {k i : Nat} {x : List Int} {r : List (List Int)}
theorem run_x (h : ps.drop i = x :: r) (hk : k = i ∧ k ≤ ps.length) : ps.getD k [] = x := by rw [hk.1]; exact drop_getD h
end
end Go.Fw.Mac
namespace Go.Fw.Mac
set_option linter.unusedSectionVars false
open Go.Fw
def codeC (l : List (Int × Int)) : Cd := ⟨0, 0, [], [], [], [], 0, l⟩
def heldC : Cd := ⟨0, 0, [], [⟨[115], 2, 5⟩], [], [], 0, [(1, 9), (6, 0), (3, 0), (22, 0)]⟩
theorem codeC_sm {l : List (Int × Int)} (h : l.length ≤ 268435456) : (codeC l).Sm := ⟨Nat.zero_le _, Nat.zero_le _, Nat.zero_le _, Nat.zero_le _, h, fun t ht => by simp [codeC] at ht⟩
theorem heldC_sm : heldC.Sm := ⟨Nat.zero_le _, by decide, Nat.zero_le _, Nat.zero_le _, by decide, fun t ht => by simp [heldC] at ht⟩
theorem sta_sm {l : List Int} (h : l.length ≤ 268435456) : (⟨l, []⟩ : Sta).Sm := ⟨h, Nat.zero_le _, fun t ht => by simp at ht⟩
theorem sameI_self (a : List Int) : sameI a a = true := sameI_iff.2 rfl
theorem sameSt_self (a : Sta) : sameSt a a = true := sameSt_iff.2 rfl
theorem stOk_sm {c : Cd} {s : Sta} (cd : CdOk c) (h : StOk c s) : s.Sm := by
  refine ⟨by have := h.vs.v; have := cd.nS; omega, by have := h.ls.l; have := cd.nL; omega, fun t ht => ?_⟩
  obtain ⟨i, hi, rfl⟩ := List.mem_iff_getElem.1 ht
  have h1 := h.ls.l
  have h2 := (h.ls.line i (by omega)).1
  have h3 := (cd.lines _ (getD_mem (l := c.lines) (i := i) (d := default) (by omega))).2
  rw [List.getD_eq_getElem?_getD, List.getElem?_eq_getElem hi] at h2
  simp only [Option.getD_some] at h2
  omega
section
variable {c : Cd} {s : Sta} {ps : List (List Int)} {inn sid par : List Int} {n fuel : Int}
theorem fewR_hit {x : List Int} {r : List (List Int)} (h : anyLong ps = anyLong (x :: r)) (h1 : decide (((x.map intC).length : Int) > 40) = true) : fewR c s ps inn sid = false := by
  rw [List.length_map] at h1
  unfold fewR; rw [anyLong_hit h h1]; rfl
theorem fewR_next {x : List Int} {r : List (List Int)} {b : Bool} (h : b = anyLong (x :: r)) (h1 : decide (((x.map intC).length : Int) > 40) = false) : b = anyLong r := by
  rw [List.length_map] at h1; exact anyLong_next h h1
theorem fewR_end (h : anyLong ps = anyLong []) : (bif bif bif bif fewC c then fewSt s else false then decide (((ps.map lnC).length : Int) ≤ 40) else false then decide (((inn.map intC).length : Int) ≤ 80) else false then decide (((sid.map intC).length : Int) ≤ 80) else false) = fewR c s ps inn sid := by
  unfold fewR; rw [h, List.length_map, List.length_map, List.length_map]; rfl
end
end Go.Fw.Mac
namespace Go.Fw.Mac
set_option linter.unusedSectionVars false
open Go.Fw
variable [GlobInt]
section
variable {c : Cd} {s : Sta} {ps : List (List Int)} {inn sid : List Int} {fuel : Int} {K m : Nat}
theorem few_in {q : Bool} (h : (!(fewR c s ps inn sid)) = q) (hq : q = false) : ps.length ≤ 40 ∧ (c.instrs.length : Int) ≤ 300 := by
  subst hq
  have h1 := fewR_in (show fewR c s ps inn sid = true by simpa using h)
  exact ⟨h1.2, (fewC_in h1.1).1⟩
theorem blk_good (g : c.Sm) (h : ((runM c s ps inn sid (ps.length : Int) fuel).2.2.2 != 0) = false) : RunGood c s ps inn sid (ps.length : Int) fuel := run_zero g (by simpa using h)
theorem blk_e (g : c.Sm) (h : ((runM c s ps inn sid (ps.length : Int) fuel).2.2.2 != 0) = true) : (bif ((((runM c s ps inn sid (ps.length : Int) fuel).1.map intC).length : Int) == 0) then ((runM c s ps inn sid (ps.length : Int) fuel).2.2.1 == 0) else false) = true := by
  rcases run_cases (s := s) (ps := ps) (inn := inn) (sid := sid) (n := (ps.length : Int)) (fuel := fuel) g with h1 | h1
  · rw [run_good g h1] at h; simp at h
  · rw [h1.1, h1.2.2.1]; rfl
theorem blk_no (g : c.Sm) (hG : RunGood c s ps inn sid (ps.length : Int) fuel) (h : (bif (bif (bif (okE (checkP c) != 0) then true else (((inn.map intC).length : Nat) : Int) != W ((((ps.map lnC).length : Nat) : Int) + c.latency)) then true else (((sid.map intC).length : Nat) : Int) != W ((((ps.map lnC).length : Nat) : Int) + c.latency)) then true else ((((runM c s ps inn sid (ps.length : Int) fuel).1.map intC).length : Nat) : Int) != (((ps.map lnC).length : Nat) : Int)) = true) : False := by
  have cd := cdOk g hG.chk
  have hl := cd.lat; have hn := hG.args.hn; have h1 := hG.args.hinn; have h2 := hG.args.hsid
  rw [hG.chk, run_good g hG] at h
  simp only [List.length_map, List.length_range] at h
  rw [W_ok (n := (ps.length : Int) + c.latency) (by omega) (by omega), h1, h2] at h
  simp [okE] at h
theorem stp_no (g : c.Sm) (hG : RunGood c s ps inn sid (ps.length : Int) fuel) (h : (bif (bif (bif (bif (bif (okE (checkP c) != 0) then true else (((inn.map intC).length : Nat) : Int) != W ((((ps.map lnC).length : Nat) : Int) + c.latency)) then true else (((sid.map intC).length : Nat) : Int) != W ((((ps.map lnC).length : Nat) : Int) + c.latency)) then true else ((((runM c s ps inn sid (ps.length : Int) fuel).1.map intC).length : Nat) : Int) != (((ps.map lnC).length : Nat) : Int)) then true else (runM c s ps inn sid (ps.length : Int) fuel).2.2.1 != W (fuel - W ((((ps.map lnC).length : Nat) : Int) * (((c.instrs.map insC).length : Nat) : Int)))) then true else decide ((runM c s ps inn sid (ps.length : Int) fuel).2.2.1 < 0)) = true) : False := by
  have cd := cdOk g hG.chk
  have hl := cd.lat; have hn := hG.args.hn; have h1 := hG.args.hinn; have h2 := hG.args.hsid; have he := hG.enough
  have hf := fuel_W cd hG.args.hn hG.args.hf
  rw [hG.chk, run_good g hG] at h
  simp only [List.length_map, List.length_range] at h
  rw [W_ok (n := (ps.length : Int) + c.latency) (by omega) (by omega), h1, h2, hf.1, decide_eq_false (by omega)] at h
  simp [okE] at h
theorem stp_e (g : c.Sm) (hF : ps.length ≤ 40 ∧ (c.instrs.length : Int) ≤ 300) (h : ((runM c s ps inn sid (ps.length : Int) fuel).2.2.2 != 0) = true) : (bif ((runM c s ps inn sid (ps.length : Int) fuel).2.2.2 != 201) then true else (bif (bif decide (fuel ≥ 0) then decide (fuel < W ((((ps.map lnC).length : Nat) : Int) * (((c.instrs.map insC).length : Nat) : Int))) else false) then ((((runM c s ps inn sid (ps.length : Int) fuel).1.map intC).length : Int) == 0) else false)) = true := by
  rcases run_cases (s := s) (ps := ps) (inn := inn) (sid := sid) (n := (ps.length : Int)) (fuel := fuel) g with h1 | h1
  · rw [run_good g h1] at h; simp at h
  · cases hb : ((runM c s ps inn sid (ps.length : Int) fuel).2.2.2 != 201) with
    | true => rfl
    | false =>
      have h2 := h1.2.2.2.2 (by simpa using hb)
      have h3 : 0 ≤ (ps.length : Int) * (c.instrs.length : Int) := Int.mul_nonneg (by omega) (by omega)
      have h4 : (ps.length : Int) * (c.instrs.length : Int) ≤ 40 * 300 := Int.mul_le_mul (by omega) (by omega) (by omega) (by omega)
      rw [List.length_map, List.length_map, W_ok (n := (ps.length : Int) * (c.instrs.length : Int)) (by omega) (by omega), decide_eq_true (show fuel ≥ 0 from h2.1), decide_eq_true h2.2.1, h1.1]; rfl
theorem blk_out (g : c.Sm) (hG : RunGood c s ps inn sid (ps.length : Int) fuel) : AV.data (ints (runM c s ps inn sid (ps.length : Int) fuel).1) = AV.data (ints ((List.range ps.length).map (outAt c ps inn sid s))) := by rw [run_good g hG]
theorem out_at {f : Nat → Int} {n i : Nat} (h : i < n) : 0 ≤ (i : Int) ∧ (((List.range n).map f).map intC)[(i : Int).toNat]? = some (intC (f i)) := by
  refine ⟨by omega, ?_⟩
  rw [Int.toNat_natCast, List.map_map, List.getElem?_map, List.getElem?_range h]; rfl
theorem blk_p {k : Nat} : D.sl 1 (cut none (some (k : Int)) (ps.map lnC)) = .sl 1 ((ps.take k).map lnC) := by simp only [cut, Int.toNat_natCast, List.map_take]
theorem blk_p2 {k : Nat} : D.sl 1 (cut (some (k : Int)) none (ps.map lnC)) = .sl 1 ((ps.drop k).map lnC) := by simp only [cut, Int.toNat_natCast, List.map_drop]
theorem blk_i {l : List Int} {x : Int} {k : Nat} (h : x = (k : Int)) : D.sl 1 (cut none (some x) (l.map intC)) = ints (l.take k) := by subst h; simp only [cut, Int.toNat_natCast, ints, List.map_take]
theorem blk_i2 {l : List Int} {k : Nat} : D.sl 1 (cut (some (k : Int)) none (l.map intC)) = ints (l.drop k) := by simp only [cut, Int.toNat_natCast, ints, List.map_drop]
theorem stp_i {l : List Int} {k m : Nat} {x : Int} (h : x = ((k + m : Nat) : Int)) : D.sl 1 (cut (some (k : Int)) (some x) (l.map intC)) = ints ((l.drop k).take m) := by
  subst h; simp only [cut, Int.toNat_natCast, ints, ← List.map_take, ← List.map_drop]
  rw [List.drop_take, Nat.add_sub_cancel_left]
theorem blk_k {q : Int} (hq : 0 ≤ q ∧ q ≤ 255) (hp : ps.length ≤ 40) (hK : K = q.toNat % (ps.length + 1)) : (W q).tmod (W ((((ps.map lnC).length : Nat) : Int) + 1)) = (K : Int) := by
  rw [List.length_map, W_ok (n := q) (by omega) (by omega), W_ok (n := (ps.length : Int) + 1) (by omega) (by omega)]
  have e : q = (q.toNat : Int) := by omega
  rw [e, show (ps.length : Int) + 1 = ((ps.length + 1 : Nat) : Int) by omega, show ((q.toNat : Nat) : Int).tmod ((ps.length + 1 : Nat) : Int) = ((q.toNat % (ps.length + 1) : Nat) : Int) from rfl, ← hK]
theorem blk_d (hp : ps.length ≤ 40) : W ((((ps.map lnC).length : Nat) : Int) + 1) ≠ 0 := by rw [List.length_map, W_ok (by omega) (by omega)]; omega
theorem blk_w (g : c.Sm) (hG : RunGood c s ps inn sid (ps.length : Int) fuel) (hK : K ≤ ps.length) : W ((K : Int) + c.latency) = (K : Int) + c.latency ∧ (K : Int) + c.latency ≤ inn.length ∧ (K : Int) + c.latency ≤ sid.length ∧ 0 ≤ c.latency := by
  have hl := (cdOk g hG.chk).lat; have hn := hG.args.hn; have h1 := hG.args.hinn; have h2 := hG.args.hsid
  exact ⟨W_ok (by omega) (by omega), by omega, by omega, by omega⟩
theorem blk_w1 (g : c.Sm) (hG : RunGood c s ps inn sid (ps.length : Int) fuel) (hK : K ≤ ps.length) : 0 ≤ W ((K : Int) + c.latency) := by have h := blk_w g hG hK; rw [h.1]; omega
theorem blk_w2 (g : c.Sm) (hG : RunGood c s ps inn sid (ps.length : Int) fuel) (hK : K ≤ ps.length) : W ((K : Int) + c.latency) ≤ (((inn.map intC).length : Nat) : Int) ∧ W ((K : Int) + c.latency) ≤ (((sid.map intC).length : Nat) : Int) := by have h := blk_w g hG hK; rw [h.1, List.length_map, List.length_map]; omega
theorem stp_w (g : c.Sm) (hG : RunGood c s ps inn sid (ps.length : Int) fuel) (hK : K < ps.length) : W (W ((K : Int) + c.latency) + 1) = (K : Int) + c.latency + 1 ∧ (K : Int) + c.latency + 1 ≤ inn.length ∧ (K : Int) + c.latency + 1 ≤ sid.length ∧ 0 ≤ c.latency := by
  have hl := (cdOk g hG.chk).lat; have hn := hG.args.hn; have h1 := hG.args.hinn; have h2 := hG.args.hsid
  exact ⟨by rw [W_ok (n := (K : Int) + c.latency) (by omega) (by omega), W_ok (by omega) (by omega)], by omega, by omega, by omega⟩
theorem stp_w1 (g : c.Sm) (hG : RunGood c s ps inn sid (ps.length : Int) fuel) {i : Nat} (hk : K = i ∧ K ≤ ps.length) (hK : i < ps.length) : (i : Int) ≤ W (W ((i : Int) + c.latency) + 1) ∧ W (W ((i : Int) + c.latency) + 1) ≤ (((inn.map intC).length : Nat) : Int) ∧ W (W ((i : Int) + c.latency) + 1) ≤ (((sid.map intC).length : Nat) : Int) := by have h := stp_w g hG hK; rw [h.1, List.length_map, List.length_map]; omega
theorem stp_x (hc : clipM (outAt c ps inn sid s K) = outAt c ps inn sid s K) {i : Nat} (hk : K = i) (h : (bif (bif (bif ((0 : Int) != 0) then true else (outAt c ps inn sid s K != outAt c ps inn sid s i)) then true else decide (outAt c ps inn sid s K < -2147483648)) then true else decide (outAt c ps inn sid s K > 2147483647)) = true) : False := by
  subst hk
  have := clipM_fix.1 hc
  rw [decide_eq_false (by omega), decide_eq_false (by omega)] at h
  simp at h
theorem blk_f (g : c.Sm) (hG : RunGood c s ps inn sid (ps.length : Int) fuel) : (bif (bif (bif (bif ((0 : Int) == 0) then ((0 : Int) == 0) else false) then true else false) then true else false) then (fuel - (ps.length : Int) * (c.instrs.length : Int) == (runM c s ps inn sid (ps.length : Int) fuel).2.2.1) else false) = true := by
  rw [run_good g hG]; simp
end
end Go.Fw.Mac
