/- Package lex and its reference, as plain functions. -/
import Derived.Lib.Join
import Derived.Lib.IndexLaws
import Derived.KernelRfl
import Derived.Test.YtanmpkhhmjfbnaaDoorZL
import Derived.Test.YtanmpkhhmjfbnaaDoorZLB
set_option linter.unusedSimpArgs false
set_option linter.unusedVariables false
namespace Go.Fw.Lx
set_option linter.unusedSectionVars false
variable [GlobInt]
structure Tk where
  kind : Int
  text : Str
  n : Int
  pos : Int
abbrev Tk.cs (t : Tk) : List D := [.i t.kind, .str t.text, .i t.n, .i t.pos]
abbrev Tk.d (t : Tk) : D := .agg [.i t.kind, .str t.text, .i t.n, .i t.pos]
abbrev iC (n : Int) : List D := [.i n]
abbrev toks (l : List Tk) : D := .sl 4 (l.map Tk.cs)
def signs : Str := [123, 125, 40, 41, 59, 44, 61, 58, 46, 60, 62, 33, 43, 45, 42, 47]
def cls (c : UInt8) : Int :=
  if Ref03.letter c then 2 else if Ref03.figure c then 3 else if (c.toNat : Int) == 95 then 5
  else if ((c.toNat : Int) == 32 || (c.toNat : Int) == 9 || (c.toNat : Int) == 10 || (c.toNat : Int) == 13) then 1
  else if decide (Lib.indexByte signs c ≥ 0) then 4 else 0
def clsOk (c : UInt8) : Bool := !(cls c != 2 && cls c != 3 && cls c != 5)
def lname (s : Str) : Bool := !((s == [] || decide ((s.length : Int) > 32)) || cls (s.getD 0 0) != 2) && s.all clsOk
def valid (t : Tk) : Bool :=
  if t.kind == 1 then lname t.text && t.n == 0
  else if t.kind == 2 then (t.text == [] && decide (t.n ≥ 0)) && decide (t.n ≤ 1099511627776)
  else if t.kind == 3 then ((t.text.length : Int) == 1 && cls (t.text.getD 0 0) == 4) && t.n == 0 else false
def idxFrom (v : Int) : List Int → Int → Int
  | [], _ => -1
  | x :: r, i => if v == x then i else idxFrom v r (i + 1)
def has (l : List Int) (v : Int) : Bool := decide (idxFrom v l 0 ≥ 0)
/-- The text from a place on whose bytes are of some classes. -/
def run (ks : List Int) (s : Str) (a : Nat) : Str := (s.drop a).takeWhile fun c => has ks (cls c)
def at' (t : Tk) (a : Nat) : Tk := { t with pos := a }
end Go.Fw.Lx
namespace Go.Fw.Lx
set_option linter.unusedSectionVars false
variable [GlobInt]
theorem str_at {l : List UInt8} {n : Nat} {q : UInt8 → Prop} (h : n < l.length) (h4 : q (l.getD n 0)) : ∃ c, (0 ≤ (n : Int) ∧ l[(n : Int).toNat]? = some c) ∧ q c :=
  ⟨_, ⟨by omega, by rw [Int.toNat_natCast, List.getD_eq_getElem?_getD, List.getElem?_eq_getElem h]; rfl⟩, h4⟩
theorem and_tt {p : Prop} [Decidable p] {b : Bool} (h : (bif decide p then b else false) = true) : p ∧ b = true := by
  by_cases hp : p
  · simp [hp] at h; exact ⟨hp, h⟩
  · simp [hp] at h
theorem and_ff {p : Prop} [Decidable p] {b : Bool} (h : (bif decide p then b else false) = false) : ¬ p ∨ (p ∧ b = false) := by
  by_cases hp : p
  · simp [hp] at h; exact .inr ⟨hp, h⟩
  · exact .inl hp
theorem lt_nat {a b : Nat} (h : wantB (decide ((a : Int) < (b : Int))) true = true) : a < b := by simpa [wantB] using h
abbrev Cmt (s : Str) (a : Nat) : Int := Lib.indexByte (s.drop a) 10
theorem cut_to {s : Str} {a n : Nat} : cut (some (a : Int)) (some (n : Int)) s = (s.take n).drop a := rfl
theorem cut_from {s : Str} {a : Nat} : cut (some (a : Int)) none s = s.drop a := rfl
theorem atoi_bounds {s : Str} {v : Int} (h : Lib.atoiAll s = .ok v) : -9223372036854775808 ≤ v ∧ v ≤ 9223372036854775807 := by
  cases s with
  | nil => cases h
  | cons c r =>
    simp only [Lib.atoiAll] at h
    rcases hp : Lib.parseMag (if c.toNat = 43 ∨ c.toNat = 45 then r else c :: r) with u | _ | _
    · rw [hp] at h
      simp only at h
      split at h
      · cases h
      · split at h
        · cases h
        · simp only [Lib.NumEnd.ok.injEq] at h
          subst h
          split <;> omega
    · rw [hp] at h; cases h
    · rw [hp] at h; cases h
end Go.Fw.Lx
namespace Go.Fw.Lx
set_option linter.unusedSectionVars false
variable [GlobInt]
theorem isC_step {x y : Operand} {q : Prop} (h1 : (isConst x || isConst y) = true) (h2 : q) : (isConst x || isConst y) = true ∧ q := ⟨h1, h2⟩
theorem arr_stop {k : Bool} {n : Int} {m : Nat} {q : Prop} (h : k = true ∧ (0 ≤ n ∧ n < (m : Int)) ∧ q) : k = true ∧ (0 ≤ n ∧ n < (m : Int)) ∧ q := h
/-- What is done at a place: so many bytes are passed over; a token of so many bytes; an error. -/
inductive St where
  | skip (k : Nat) | tok (k : Nat) (t : Tk) | bad
def tw (ks : List Int) (s : Str) : Str := s.takeWhile fun c => has ks (cls c)
def cmt (s : Str) : Nat := if 0 ≤ Lib.indexByte s 10 then (Lib.indexByte s 10).toNat else s.length
def numSt (t : Str) : St := match Lib.atoiAll t with
  | .ok v => if Lib.itoa v == t then (if valid ⟨2, [], v, 0⟩ then .tok t.length ⟨2, [], v, 0⟩ else .bad) else .bad
  | _ => .bad
def nameSt (t : Str) : St := if valid ⟨1, t, 0, 0⟩ then .tok t.length ⟨1, t, 0, 0⟩ else .bad
def signSt (s : Str) : St := if Lib.hasPrefix s [47, 47] then .skip (cmt s) else (if valid ⟨3, s.take 1, 0, 0⟩ then .tok 1 ⟨3, s.take 1, 0, 0⟩ else .bad)
def pStep (s : Str) : St := match cls (s.getD 0 0) with
  | 1 => .skip (tw [1] s).length
  | 2 => nameSt (tw [2, 3, 5] s)
  | 3 => numSt (tw [3] s)
  | 4 => signSt s
  | _ => .bad
def lexG (st : Str → St) : Nat → Str → Nat → Except Nat (List Tk)
  | 0, _, _ => .ok []
  | n + 1, s, a => match s with
    | [] => .ok []
    | c :: r => match st (c :: r) with
      | .skip k => lexG st n ((c :: r).drop k) (a + k)
      | .tok k t => (match lexG st n ((c :: r).drop k) (a + k) with | .ok l => .ok (at' t a :: l) | .error e => .error e)
      | .bad => .error a
def lexR (st : Str → St) (s : Str) (a : Nat) : Except Nat (List Tk) := lexG st s.length s a
/-- Each step goes on. -/
def Pos (st : Str → St) : Prop := ∀ c r, (∀ k, st (c :: r) = .skip k → 1 ≤ k) ∧ ∀ k t, st (c :: r) = .tok k t → 1 ≤ k
theorem lexG_fuel {st : Str → St} (hp : Pos st) : ∀ (n m : Nat) (s : Str) (a : Nat), s.length ≤ n → s.length ≤ m → lexG st n s a = lexG st m s a
  | 0, m, s, a, hn, hm => by
    have : s = [] := List.length_eq_zero_iff.1 (by omega)
    subst this
    cases m <;> rfl
  | n + 1, 0, s, a, hn, hm => by
    have : s = [] := List.length_eq_zero_iff.1 (by omega)
    subst this
    rfl
  | n + 1, m + 1, [], a, hn, hm => rfl
  | n + 1, m + 1, c :: r, a, hn, hm => by
    simp only [lexG]
    simp only [List.length_cons] at hn hm
    cases hs : st (c :: r) with
    | skip k =>
      have := (hp c r).1 k hs
      exact lexG_fuel hp n m _ _ (by simp only [List.length_drop, List.length_cons]; omega) (by simp only [List.length_drop, List.length_cons]; omega)
    | tok k t =>
      have := (hp c r).2 k t hs
      simp only [lexG_fuel hp n m ((c :: r).drop k) (a + k) (by simp only [List.length_drop, List.length_cons]; omega) (by simp only [List.length_drop, List.length_cons]; omega)]
    | bad => rfl
theorem lexR_nil {st : Str → St} {a : Nat} : lexR st [] a = .ok [] := rfl
theorem lexR_cons {st : Str → St} (hp : Pos st) {s : Str} (hs : s ≠ []) (a : Nat) : lexR st s a = match st s with
    | .skip k => lexR st (s.drop k) (a + k)
    | .tok k t => (match lexR st (s.drop k) (a + k) with | .ok l => .ok (at' t a :: l) | .error e => .error e)
    | .bad => .error a := by
  cases s with
  | nil => exact absurd rfl hs
  | cons c r =>
    simp only [lexR]
    show lexG st (r.length + 1) (c :: r) a = _
    simp only [lexG]
    cases hs : st (c :: r) with
    | skip k =>
      have := (hp c r).1 k hs
      exact lexG_fuel hp _ _ _ _ (by simp only [List.length_drop, List.length_cons]; omega) (Nat.le_refl _)
    | tok k t =>
      have := (hp c r).2 k t hs
      simp only [lexG_fuel hp r.length ((c :: r).drop k).length ((c :: r).drop k) (a + k) (by simp only [List.length_drop, List.length_cons]; omega) (Nat.le_refl _)]
    | bad => rfl
def fin (ts : List Tk) : Except Nat (List Tk) → Except Nat (List Tk)
  | .ok l => .ok (ts ++ l)
  | .error e => .error e
def lexOut : Except Nat (List Tk) → D
  | .ok l => .tuple [toks l, .i 0, .i 0]
  | .error a => .tuple [.sl 4 [], .i (a : Nat), .i 30]
def lexM (s : Str) : D := if decide ((s.length : Int) > 65536) then .tuple [.sl 4 [], .i 0, .i 2] else lexOut (lexR pStep s 0)
end Go.Fw.Lx
namespace Go.Fw.Lx
set_option linter.unusedSectionVars false
variable [GlobInt]
theorem index_le {c : UInt8} : ∀ s : Str, Lib.indexByte s c ≤ (s.length : Int)
  | [] => by simp only [Lib.indexByte]; decide
  | x :: r => by
    have := index_le (c := c) r
    simp only [Lib.indexByte, List.length_cons]
    split
    · omega
    · split <;> omega
theorem sign_lt {src : Str} {a : Nat} (ha : a ≤ src.length) (hs : src.length ≤ 1073741824) (h : decide (Lib.indexByte (src.drop a) 10 ≥ 0) = true) : D.val (.int .i64 (IntKind.i64.wrap ((a : Int) + Lib.indexByte (src.drop a) 10))) = D.i ((a + cmt (src.drop a) : Nat) : Int) := by
  have h := of_decide_eq_true h
  have h2 := index_le (c := 10) (src.drop a)
  rw [List.length_drop] at h2
  rw [wrap_ok (by omega) (by omega), cmt, if_pos h]
  exact congrArg D.i (by omega)
theorem sign_no {src : Str} {a : Nat} (ha : a ≤ src.length) (h : decide (Lib.indexByte (src.drop a) 10 ≥ 0) = false) : D.val (.int .i64 (src.length : Int)) = D.i ((a + cmt (src.drop a) : Nat) : Int) := by
  have h := of_decide_eq_false h
  rw [cmt, if_neg h, List.length_drop]
  exact congrArg D.i (by omega)
theorem incut_stop {l h : Option Int} {n : Nat} {q : Prop} (hh : inCut l h n ∧ q) : inCut l h n ∧ q := hh
theorem wrap1 {a : Nat} (h : a ≤ 1073741824) : IntKind.i64.wrap ((a : Int) + 1) = ((a + 1 : Nat) : Int) := by
  rw [wrap_ok (by omega) (by omega)]; rfl
end Go.Fw.Lx
namespace Go.Fw.Lx
set_option linter.unusedSectionVars false
variable [GlobInt]
theorem has1 (k v : Int) : has [k] v = (v == k) := by
  simp only [has, idxFrom]
  split <;> simp_all
theorem has3 (x y z v : Int) : has [x, y, z] v = (v == x || v == y || v == z) := by
  simp only [has, idxFrom]
  split
  · simp_all
  · split
    · simp_all
    · split <;> simp_all
theorem cls_range (c : UInt8) : cls c = 0 ∨ cls c = 1 ∨ cls c = 2 ∨ cls c = 3 ∨ cls c = 4 ∨ cls c = 5 := by
  unfold cls; repeat' split
  all_goals simp
theorem cls_fig {c : UInt8} (h : cls c = 3) : 48 ≤ c.toNat ∧ c.toNat ≤ 57 := by
  unfold cls at h
  split at h
  · simp at h
  split at h
  · rename_i hf
    simp only [Ref03.figure, Bool.and_eq_true, decide_eq_true_eq] at hf
    omega
  repeat' split at h
  all_goals simp at h
theorem cls_sign {c : UInt8} (h : cls c = 4) : decide (Lib.indexByte signs c ≥ 0) = true := by
  unfold cls at h
  repeat' split at h
  all_goals first | (simp at h; done) | assumption
def consE (t : Tk) : Except Nat (List Tk) → Except Nat (List Tk)
  | .ok l => .ok (t :: l)
  | .error e => .error e
theorem fin_cons (ts : List Tk) (t : Tk) (r : Except Nat (List Tk)) : fin ts (consE t r) = fin (ts ++ [t]) r := by
  cases r <;> simp [fin, consE]
theorem fin_nil (r : Except Nat (List Tk)) : fin [] r = r := by cases r <;> rfl
theorem tw_head {ks : List Int} {c : UInt8} {r : Str} (h : has ks (cls c) = true) : 1 ≤ (tw ks (c :: r)).length := by
  simp only [tw, List.takeWhile_cons, h, if_true, List.length_cons]; omega
theorem cmt_pos {s : Str} (h : Lib.hasPrefix s [47, 47] = true) : 1 ≤ cmt s := by
  cases s with
  | nil => simp [Lib.hasPrefix] at h
  | cons c r =>
    have hc : c = 47 := by
      simp only [Lib.hasPrefix, List.isPrefixOf, Bool.and_eq_true, beq_iff_eq] at h; exact h.1.symm
    subst hc
    have hi : Lib.indexByte (47 :: r) 10 = -1 ∨ 1 ≤ Lib.indexByte (47 :: r) 10 := by
      have := Lib.indexByte_ge r 10
      simp only [Lib.indexByte]
      rw [if_neg (by decide)]
      split
      · exact .inl rfl
      · rename_i h1
        have h1 : ¬ Lib.indexByte r 10 = -1 := by simpa using h1
        right; omega
    unfold cmt
    split
    · rcases hi with hi | hi
      · omega
      · omega
    · simp only [List.length_cons]; omega
theorem pos_p : Pos pStep := by
  intro c r
  have e : (c :: r).getD 0 0 = c := rfl
  constructor
  · intro k hk
    unfold pStep at hk
    rw [e] at hk
    split at hk
    · rename_i hc
      simp only [St.skip.injEq] at hk; subst hk
      exact tw_head (by rw [has1, hc]; rfl)
    · unfold nameSt at hk; split at hk <;> cases hk
    · unfold numSt at hk; split at hk
      · split at hk
        · split at hk <;> cases hk
        · cases hk
      · cases hk
    · unfold signSt at hk; split at hk
      · rename_i hp
        simp only [St.skip.injEq] at hk; subst hk
        exact cmt_pos hp
      · split at hk <;> cases hk
    · cases hk
  · intro k t hk
    unfold pStep at hk
    rw [e] at hk
    split at hk
    · cases hk
    · rename_i hc
      unfold nameSt at hk; split at hk
      · simp only [St.tok.injEq] at hk; rw [← hk.1]
        exact tw_head (by rw [has3, hc]; rfl)
      · cases hk
    · rename_i hc
      unfold numSt at hk; split at hk
      · split at hk
        · split at hk
          · simp only [St.tok.injEq] at hk; rw [← hk.1]
            exact tw_head (by rw [has1, hc]; rfl)
          · cases hk
        · cases hk
      · cases hk
    · unfold signSt at hk; split at hk
      · cases hk
      · split at hk
        · simp only [St.tok.injEq] at hk; omega
        · cases hk
    · cases hk
/-- Neither a number nor out of range. -/
def isNo {α : Type} : Lib.NumEnd α → Bool
  | .ok _ => false
  | .range => false
  | _ => true
theorem parse_digits : ∀ (l : Str) (acc : Nat), (∀ c ∈ l, cls c = 3) → isNo (Lib.parseUint10 acc l) = false
  | [], acc, _ => by simp [Lib.parseUint10, isNo]
  | c :: r, acc, h => by
    have hc := cls_fig (h c (by simp))
    simp only [Lib.parseUint10, hc, and_self, if_true]
    split
    · rfl
    · split
      · rfl
      · exact parse_digits r _ (fun x hx => h x (List.mem_cons_of_mem _ hx))
theorem atoi_digits {t : Str} (hne : t ≠ []) (h : ∀ c ∈ t, cls c = 3) : isNo (Lib.atoiAll t) = false := by
  cases t with
  | nil => exact absurd rfl hne
  | cons c r =>
    have hc := cls_fig (h c (by simp))
    have h0 : ¬ (c.toNat = 43 ∨ c.toNat = 45) := by omega
    have h1 : ¬ (c.toNat = 45) := by omega
    simp only [Lib.atoiAll, if_neg h0, Lib.parseMag, if_neg (List.cons_ne_nil c r)]
    have hn := parse_digits (c :: r) 0 h
    rcases hp : Lib.parseUint10 0 (c :: r) with u | _ | _
    · simp only
      split
      · rfl
      · split <;> rfl
    · rw [hp] at hn; cases hn
    · rfl
theorem mem_tw {p : UInt8 → Bool} {c : UInt8} : ∀ {l : Str}, c ∈ l.takeWhile p → p c = true
  | x :: r, h => by
    rw [List.takeWhile_cons] at h
    split at h
    · rename_i hx
      rcases List.mem_cons.1 h with rfl | h
      · exact hx
      · exact mem_tw h
    · simp at h
theorem valid_sign {c : UInt8} (h : cls c = 4) : valid ⟨3, [c], 0, 0⟩ = true := by simp [valid, h]
theorem tw_mem {ks : List Int} {s : Str} {c : UInt8} (h : c ∈ tw ks s) : has ks (cls c) = true := by
  exact mem_tw (p := fun c => has ks (cls c)) h
/-- What the scanner does at a place, and what is left. -/
inductive At (src : Str) (a : Nat) : Prop where
  | space (hc : cls (src.getD a 0) = 1) (hk : 1 ≤ (Lx.run [1] src a).length) (e : lexR pStep (src.drop a) a = lexR pStep (src.drop (a + (Lx.run [1] src a).length)) (a + (Lx.run [1] src a).length))
  | name (hc : cls (src.getD a 0) = 2) (hv : (!valid ⟨1, Lx.run [2, 3, 5] src a, 0, 0⟩) = false) (hk : 1 ≤ (Lx.run [2, 3, 5] src a).length) (e : lexR pStep (src.drop a) a = consE (at' ⟨1, Lx.run [2, 3, 5] src a, 0, 0⟩ a) (lexR pStep (src.drop (a + (Lx.run [2, 3, 5] src a).length)) (a + (Lx.run [2, 3, 5] src a).length)))
  | name' (hc : cls (src.getD a 0) = 2) (hv : (!valid ⟨1, Lx.run [2, 3, 5] src a, 0, 0⟩) = true) (e : lexR pStep (src.drop a) a = .error a)
  | num (v : Int) (hc : cls (src.getD a 0) = 3) (hv : Lib.atoiAll (Lx.run [3] src a) = .ok v) (hi : (!(Lib.itoa v == Lx.run [3] src a)) = false) (hw : (!valid ⟨2, [], v, 0⟩) = false) (hk : 1 ≤ (Lx.run [3] src a).length) (e : lexR pStep (src.drop a) a = consE (at' ⟨2, [], v, 0⟩ a) (lexR pStep (src.drop (a + (Lx.run [3] src a).length)) (a + (Lx.run [3] src a).length)))
  | num1 (v : Int) (hc : cls (src.getD a 0) = 3) (hv : Lib.atoiAll (Lx.run [3] src a) = .ok v) (hi : (!(Lib.itoa v == Lx.run [3] src a)) = true) (e : lexR pStep (src.drop a) a = .error a)
  | num2 (v : Int) (hc : cls (src.getD a 0) = 3) (hv : Lib.atoiAll (Lx.run [3] src a) = .ok v) (hi : (!(Lib.itoa v == Lx.run [3] src a)) = false) (hw : (!valid ⟨2, [], v, 0⟩) = true) (e : lexR pStep (src.drop a) a = .error a)
  | num3 (hc : cls (src.getD a 0) = 3) (hv : Lib.atoiAll (Lx.run [3] src a) = .range) (e : lexR pStep (src.drop a) a = .error a)
  | cmt (hc : cls (src.getD a 0) = 4) (hp : Lib.hasPrefix (src.drop a) [47, 47] = true) (hk : 1 ≤ Lx.cmt (src.drop a)) (hl : a + Lx.cmt (src.drop a) ≤ src.length) (e : lexR pStep (src.drop a) a = lexR pStep (src.drop (a + Lx.cmt (src.drop a))) (a + Lx.cmt (src.drop a)))
  | sign (hc : cls (src.getD a 0) = 4) (hp : Lib.hasPrefix (src.drop a) [47, 47] = false) (hw : (!valid ⟨3, (src.take (a + 1)).drop a, 0, 0⟩) = false) (hk : ((src.take (a + 1)).drop a).length = 1) (e : lexR pStep (src.drop a) a = consE (at' ⟨3, (src.take (a + 1)).drop a, 0, 0⟩ a) (lexR pStep (src.drop (a + ((src.take (a + 1)).drop a).length)) (a + ((src.take (a + 1)).drop a).length)))
  | low (hc : cls (src.getD a 0) = 5) (e : lexR pStep (src.drop a) a = .error a)
  | other (hc : cls (src.getD a 0) = 0) (e : lexR pStep (src.drop a) a = .error a)
theorem lexR_tok {src : Str} {a k : Nat} {t : Tk} (hlt : a < src.length) (h : pStep (src.drop a) = .tok k t) : lexR pStep (src.drop a) a = consE (at' t a) (lexR pStep (src.drop (a + k)) (a + k)) := by
  rw [lexR_cons pos_p (by rw [drop_cons hlt]; simp), h]
  simp only [List.drop_drop]
  cases lexR pStep (src.drop (a + k)) (a + k) <;> rfl
theorem lexR_skip {src : Str} {a k : Nat} (hlt : a < src.length) (h : pStep (src.drop a) = .skip k) : lexR pStep (src.drop a) a = lexR pStep (src.drop (a + k)) (a + k) := by
  rw [lexR_cons pos_p (by rw [drop_cons hlt]; simp), h]
  simp only [List.drop_drop]
theorem lexR_bad {src : Str} {a : Nat} (hlt : a < src.length) (h : pStep (src.drop a) = .bad) : lexR pStep (src.drop a) a = .error a := by
  rw [lexR_cons pos_p (by rw [drop_cons hlt]; simp), h]
theorem at_place {src : Str} {a : Nat} (hlt : a < src.length) : At src a := by
  have hd := drop_cons hlt
  have e0 : (src.drop a).getD 0 0 = src.getD a 0 := by rw [hd]; rfl
  have hp : pStep (src.drop a) = match cls (src.getD a 0) with
    | 1 => .skip (tw [1] (src.drop a)).length
    | 2 => nameSt (tw [2, 3, 5] (src.drop a))
    | 3 => numSt (tw [3] (src.drop a))
    | 4 => signSt (src.drop a)
    | _ => .bad := by rw [← e0]; rfl
  have t1 : (src.drop a).take 1 = (src.take (a + 1)).drop a := by rw [List.drop_take, Nat.add_sub_cancel_left]
  have t2 : ((src.take (a + 1)).drop a).length = 1 := by rw [← t1]; simp; omega
  have hd1 : ∀ ks, has ks (cls (src.getD a 0)) = true → 1 ≤ (Lx.run ks src a).length := fun ks h => by
    show 1 ≤ (tw ks (src.drop a)).length
    rw [hd]; exact tw_head h
  rcases cls_range (src.getD a 0) with hc | hc | hc | hc | hc | hc
  · rw [hc] at hp
    exact .other hc (lexR_bad hlt hp)
  · rw [hc] at hp
    exact .space hc (hd1 _ (by rw [has1, hc]; rfl)) (lexR_skip hlt hp)
  · rw [hc] at hp
    have hp : pStep (src.drop a) = nameSt (Lx.run [2, 3, 5] src a) := hp
    cases hv : valid ⟨1, Lx.run [2, 3, 5] src a, 0, 0⟩ with
    | true =>
      refine .name hc (by rw [hv]; rfl) (hd1 _ (by rw [has3, hc]; rfl)) (lexR_tok hlt (by rw [hp, nameSt, hv]; rfl))
    | false => exact .name' hc (by rw [hv]; rfl) (lexR_bad hlt (by rw [hp, nameSt, hv]; rfl))
  · rw [hc] at hp
    have hp : pStep (src.drop a) = numSt (Lx.run [3] src a) := hp
    have h1 := hd1 [3] (by rw [has1, hc]; rfl)
    have hdg : ∀ c ∈ Lx.run [3] src a, cls c = 3 := fun c hcm => by
      have := tw_mem (ks := [3]) (s := src.drop a) hcm
      rw [has1] at this; simpa using this
    have hn := atoi_digits (fun e => by rw [e] at h1; simp at h1) hdg
    rcases hv : Lib.atoiAll (Lx.run [3] src a) with v | _ | _
    rotate_left
    · rw [hv] at hn; cases hn
    · exact .num3 hc hv (lexR_bad hlt (by rw [hp, numSt, hv]))
    · cases hi : (Lib.itoa v == Lx.run [3] src a) with
      | false => exact .num1 v hc hv (by rw [hi]; rfl) (lexR_bad hlt (by rw [hp, numSt, hv]; simp only [hi]; rfl))
      | true =>
        cases hw : valid ⟨2, [], v, 0⟩ with
        | false => exact .num2 v hc hv (by rw [hi]; rfl) (by rw [hw]; rfl) (lexR_bad hlt (by rw [hp, numSt, hv]; simp only [hi, hw]; rfl))
        | true => exact .num v hc hv (by rw [hi]; rfl) (by rw [hw]; rfl) h1 (lexR_tok hlt (by rw [hp, numSt, hv]; simp only [hi, hw]; rfl))
  · rw [hc] at hp
    have hp : pStep (src.drop a) = signSt (src.drop a) := hp
    cases hq : Lib.hasPrefix (src.drop a) [47, 47] with
    | true =>
      refine .cmt hc hq (cmt_pos hq) ?_ (lexR_skip hlt (by rw [hp, signSt, hq]; rfl))
      have := index_le (c := 10) (src.drop a)
      rw [List.length_drop] at this
      simp only [Lx.cmt]
      split
      · omega
      · rw [List.length_drop]; omega
    | false =>
      have hw : valid ⟨3, (src.take (a + 1)).drop a, 0, 0⟩ = true := by
        rw [← t1, hd]
        exact valid_sign hc
      refine .sign hc hq (by rw [hw]; rfl) t2 ?_
      rw [t2]
      exact lexR_tok hlt (by rw [hp, signSt, hq, t1, hw]; rfl)
  · rw [hc] at hp
    exact .low hc (lexR_bad hlt hp)
theorem lt_src {src : Str} {a : Nat} (h : decide ((a : Int) < (src.length : Int)) = true) : a < src.length := by simpa using h
theorem out_end {src : Str} {a : Nat} {ts : List Tk} (hI : a ≤ src.length ∧ ts.length ≤ a ∧ lexR pStep src 0 = fin ts (lexR pStep (src.drop a) a)) (h : decide ((a : Int) < (src.length : Int)) = false) : D.tuple [toks ts, .i 0, .i 0] = lexOut (lexR pStep src 0) := by
  have h := of_decide_eq_false h
  rw [hI.2.2, List.drop_eq_nil_of_le (by omega), lexR_nil]
  simp only [fin, List.append_nil]; rfl
theorem out_err {src : Str} {a : Nat} {ts : List Tk} (hI : a ≤ src.length ∧ ts.length ≤ a ∧ lexR pStep src 0 = fin ts (lexR pStep (src.drop a) a)) (e : lexR pStep (src.drop a) a = .error a) : D.tuple [.sl 4 [], .i (a : Nat), .i 30] = lexOut (lexR pStep src 0) := by
  rw [hI.2.2, e]; rfl
end Go.Fw.Lx
namespace Go.Fw.Lx
set_option linter.unusedSectionVars false
variable [GlobInt]
def sameT (x y : Tk) : Bool := (x.kind == y.kind && x.text == y.text) && x.n == y.n
def sameM (a b : List Tk) : Bool := if (a.length : Int) != (b.length : Int) then false else (a.zip b).all fun q => sameT q.1 q.2
def word (t : Tk) : Str := if t.kind == 2 then Lib.itoa t.n else t.text
abbrev blankC (_ : Tk) : List D := [D.str []]
def textM (l : List Tk) : D := if l.all valid then .tuple [.str (Lib.join (l.map word) [32]), .i 0] else .tuple [.str [], .i 30]
theorem blank_init (l : List Tk) : List.replicate (((l.map Tk.cs).length : Int)).toNat [D.str []] = ([] : List Str).map strC ++ l.map blankC := by
  rw [Int.toNat_natCast, List.length_map]
  induction l with
  | nil => rfl
  | cons x r ih => simpa [List.replicate_succ] using ih
theorem word_idx {ws : List Str} {rs r0 : List Tk} {i0 : Nat} {x0 : Tk} (h : rs = x0 :: r0 ∧ ws.length = i0) : (ws.map strC ++ rs.map blankC)[0 + (i0 : Int).toNat]? = some [D.str []] := by
  obtain ⟨rfl, rfl⟩ := h
  simp
theorem word_set {ws : List Str} {rs r0 : List Tk} {i0 : Nat} {x0 : Tk} {s : Str} (h : rs = x0 :: r0 ∧ ws.length = i0) : (ws.map strC ++ rs.map blankC).set (0 + (i0 : Int).toNat) [D.str s] = (ws ++ [s]).map strC ++ r0.map blankC := by
  obtain ⟨rfl, rfl⟩ := h
  simp
theorem valid_num {t : Tk} (h : valid t = true) (hk : (t.kind == 2) = true) : -9223372036854775808 ≤ t.n ∧ t.n ≤ 9223372036854775807 := by
  have hk : t.kind = 2 := by simpa using hk
  simp [valid, hk] at h
  omega
theorem valid_num' {t : Tk} (h : (!valid t) = false) (hk : (t.kind == 2) = true) : -9223372036854775808 ≤ t.n ∧ t.n ≤ 9223372036854775807 := valid_num (by simpa using h) hk
theorem word_set' {ws : List Str} {rs r0 : List Tk} {i0 : Nat} {x0 : Tk} {s : Str} (h : rs = x0 :: r0 ∧ ws.length = i0) (hs : s = word x0) : (ws.map strC ++ rs.map blankC).set (0 + (i0 : Int).toNat) [D.str s] = (ws ++ [word x0]).map strC ++ r0.map blankC := by
  rw [hs]; exact word_set h
theorem word_fin {ws : List Str} {rs l : List Tk} (h : rs = []) (hw : ws ++ ([] : List Tk).map word = l.map word) : 0 + (((l.map Tk.cs).length : Int)).toNat ≤ (ws.map strC ++ rs.map blankC).length ∧ (l.map word).map strC = ((ws.map strC ++ rs.map blankC).drop 0).take (((l.map Tk.cs).length : Int)).toNat := by
  subst h
  have hw : ws = l.map word := by simpa using hw
  subst hw
  rw [Int.toNat_natCast]
  simp only [List.map_nil, List.append_nil, List.drop_zero, Nat.zero_add, List.length_map]
  exact ⟨Nat.le_refl _, (List.take_of_length_le (by simp)).symm⟩
theorem text_bad {l r0 : List Tk} {x0 : Tk} (h : l.all valid = (x0 :: r0).all valid) (hv : (!valid x0) = true) : D.tuple [.str [], .i 30] = textM l := by
  have hv : valid x0 = false := by simpa using hv
  rw [textM, h, List.all_cons, hv]; rfl
end Go.Fw.Lx
namespace Go.Fw.Lx
set_option linter.unusedSectionVars false
variable [GlobInt]
def space (c : UInt8) : Bool := (((c.toNat : Int) == 32 || (c.toNat : Int) == 9) || (c.toNat : Int) == 10) || (c.toNat : Int) == 13
def signR (c : UInt8) : Bool := signs.any fun x => (x.toNat : Int) == (c.toNat : Int)
def validR (t : Tk) : Bool :=
  if t.kind == 1 then Ref03.name t.text && t.n == 0
  else if t.kind == 2 then (t.text == [] && decide (t.n ≥ 0)) && decide (t.n ≤ 1099511627776)
  else if t.kind == 3 then ((t.text.length : Int) == 1 && signR (t.text.getD 0 0)) && t.n == 0 else false
def posM (a b : List Tk) : Bool := (a.zip b).all fun q => q.1.pos == q.2.pos
def equalM (a b : List Tk) : Bool := sameM a b && posM a b
def lens (l : List Tk) : Nat := (l.map fun t => t.text.length).sum
def fewM (l : List Tk) : Bool := decide ((l.length : Int) ≤ 200) && decide ((lens l : Int) ≤ 2000)
abbrev Dig (t : Str) : Prop := ∀ c ∈ t, 48 ≤ c.toNat ∧ c.toNat ≤ 57
def numF : Nat → Str → Option Nat
  | n, [] => some n
  | n, c :: r => if 10 * n + (c.toNat - 48) > 1099511627776 then none else numF (10 * n + (c.toNat - 48)) r
def numOut (t : Str) : D := match numF 0 t with
  | none => .tuple [.i 0, .b false]
  | some n => .tuple [.i (n : Nat), .b ((t.length : Int) == 1 || (((t.getD 0 0).toNat : Nat) : Int) != 48)]
theorem num_wrap {n : Nat} {c : UInt8} (hn : n ≤ 1099511627776) (hc : 48 ≤ c.toNat ∧ c.toNat ≤ 57) :
    IntKind.i64.wrap (IntKind.i64.wrap (10 * (n : Int)) + IntKind.i64.wrap (IntKind.u8.wrap ((c.toNat : Int) - 48))) = ((10 * n + (c.toNat - 48) : Nat) : Int) := by
  have h1 : IntKind.u8.wrap ((c.toNat : Int) - 48) = (c.toNat : Int) - 48 := by
    simp only [IntKind.wrap, IntKind.bits, IntKind.signed]
    simp; omega
  rw [h1, wrap_ok (n := 10 * (n : Int)) (by omega) (by omega), wrap_ok (n := (c.toNat : Int) - 48) (by omega) (by omega), wrap_ok (by omega) (by omega)]
  omega
def digI (m : Int) : UInt8 := UInt8.ofNat (48 + (m % 10).toNat)
theorem bytes_step {a : Nat} {es : List (List D)} {q : List UInt8 → Prop} (h1 : a = 1) (bs : List UInt8) (h2 : es = bs.map fun b => [D.val (.int .u8 (b.toNat : Int))]) (h : q bs) : a = 1 ∧ ∃ bs : List UInt8, es = bs.map (fun b => [D.val (.int .u8 (b.toNat : Int))]) ∧ q bs := ⟨h1, bs, h2, h⟩
theorem dig_wrap {m : Int} (h : 0 ≤ m) : IntKind.u8.wrap (IntKind.i64.wrap (48 + m.tmod 10)) = ((digI m).toNat : Int) := by
  have h1 : m.tmod 10 = m % 10 := Int.tmod_eq_emod_of_nonneg h
  have h2 := Int.emod_nonneg m (show (10 : Int) ≠ 0 by decide)
  have h3 := Int.emod_lt_of_pos m (show (0 : Int) < 10 by decide)
  rw [h1, wrap_ok (by omega) (by omega)]
  have h4 : (digI m).toNat = 48 + (m % 10).toNat := by
    simp only [digI, UInt8.toNat_ofNat']
    omega
  rw [h4]
  simp only [IntKind.wrap, IntKind.bits, IntKind.signed]
  simp; omega
theorem dig_bytes {m : Int} (h : 0 ≤ m) : [[D.val (.int .u8 (IntKind.u8.wrap (IntKind.i64.wrap (48 + m.tmod 10))))]] = [digI m].map fun b => [D.val (.int .u8 (b.toNat : Int))] := by
  rw [dig_wrap h]; rfl
theorem div_wrap {n : Nat} (h : n ≤ 9223372036854775807) : IntKind.i64.wrap ((n : Int).tdiv 10) = ((n / 10 : Nat) : Int) := by
  have e : (n : Int).tdiv 10 = ((n / 10 : Nat) : Int) := by rw [Int.tdiv_eq_ediv_of_nonneg (by omega)]; rfl
  rw [e, wrap_ok (by omega) (by omega)]
/-- What is still to be written ahead. -/
def ahead (n : Nat) : Str := if n < 10 then [] else Lib.decDigits (n / 10)
theorem digits_eq (n : Nat) : Lib.decDigits n = ahead n ++ [digI (n : Int)] := by
  rw [Lib.decDigits, ahead]
  have e : digI (n : Int) = UInt8.ofNat (48 + n % 10) := by
    simp only [digI]
    rw [show ((n : Int) % 10).toNat = n % 10 by omega]
  split
  · rename_i h
    rw [e, Nat.mod_eq_of_lt h]; rfl
  · rw [e]
theorem join_snoc {ws : List Str} {w : Str} : Lib.join (ws ++ [w]) [32] = if ws = [] then w else Lib.join ws [32] ++ [32] ++ w := by
  cases ws with
  | nil => simp [Lib.join_one]
  | cons x r =>
    simp only [List.cons_append, Lib.join_cons, Lib.joinTail, List.map_append, List.flatten_append, List.map_cons, List.map_nil, List.flatten_cons, List.flatten_nil, List.append_nil, reduceCtorEq, if_false]
    simp
theorem join_le : ∀ (rs ws : List Str), (Lib.join ws [32]).length ≤ (Lib.join (ws ++ rs) [32]).length
  | [], ws => by simp
  | w :: r, ws => by
    have := join_le r (ws ++ [w])
    rw [List.append_assoc] at this
    refine Nat.le_trans ?_ this
    rw [join_snoc]
    split
    · rename_i h; subst h; simp [Lib.join_nil]
    · simp
def textR (l : List Tk) : D := if l.all validR then .tuple [.str (Lib.join (l.map word) [32]), .i 0] else .tuple [.str [], .i 30]
end Go.Fw.Lx
namespace Go.Fw.Lx
set_option linter.unusedSectionVars false
variable [GlobInt]
theorem same_len {a b : List Tk} (h : sameM a b = true) : a.length = b.length := by
  unfold sameM at h
  split at h
  · simp at h
  · rename_i h1; simp at h1; omega
theorem few_end {l : List Tk} {n : Nat} (h : lens l = n + lens []) : D.val (.bool (bif decide (((l.map Tk.cs).length : Int) ≤ 200) then decide ((n : Int) ≤ 2000) else false)) = D.b (fewM l) := by
  have h : lens l = n := by simpa [lens] using h
  rw [fewM, h, List.length_map, Bool.cond_false_right]
theorem br_num {n : Nat} {c : UInt8} {p q : Prop} (hn : n ≤ 1099511627776) (hc : 48 ≤ c.toNat ∧ c.toNat ≤ 57) (h1 : 10 * n + (c.toNat - 48) > 1099511627776 → p) (h2 : ¬ 10 * n + (c.toNat - 48) > 1099511627776 → q) :
    BrI (decide (IntKind.i64.wrap (IntKind.i64.wrap (10 * (n : Int)) + IntKind.i64.wrap (IntKind.u8.wrap ((c.toNat : Int) - 48))) > 1099511627776)) p q := by
  rw [num_wrap hn hc]
  refine BrI.intro (fun h => h1 ?_) (fun h => h2 ?_)
  · have := of_decide_eq_true h; omega
  · have := of_decide_eq_false h; omega
theorem num_end {t : Str} {n : Nat} (h : numF 0 t = numF n []) : D.tuple [.val (.int .i64 (n : Int)), .val (.bool (bif (t.length : Int) == 1 then true else (((t.getD 0 0).toNat : Nat) : Int) != 48))] = numOut t := by
  rw [numOut, h, Bool.cond_true_left]; rfl
theorem dec_nn {N n : Nat} {s : Str} (hI : Lib.decDigits N = Lx.ahead n ++ s ∧ n ≤ N ∧ s.length + n ≤ N + 1) (hN : N ≤ 4611686018427387904) : 0 ≤ IntKind.i64.wrap ((n : Int).tdiv 10) := by
  rw [div_wrap (by omega)]; omega
theorem dec_len {N n : Nat} {s : Str} {c : UInt8} (hI : Lib.decDigits N = Lx.ahead n ++ s ∧ n ≤ N ∧ s.length + n ≤ N + 1) (hN : N ≤ 4611686018427387904) : ((([c] : Str).length + s.length : Nat) : Int) ≤ IntKind.i64.max := by
  show _ ≤ (9223372036854775807 : Int)
  simp only [List.length_cons, List.length_nil]; omega
theorem dec_next {N n : Nat} {s : Str} (hI : Lib.decDigits N = Lx.ahead n ++ s ∧ n ≤ N ∧ s.length + n ≤ N + 1) (h : decide ((n : Int) ≥ 10) = true) : Lib.decDigits N = Lx.ahead (n / 10) ++ ([digI ((n / 10 : Nat) : Int)] ++ s) := by
  have h := of_decide_eq_true h
  rw [hI.1, Lx.ahead, if_neg (by omega), digits_eq (n / 10), List.append_assoc]
theorem dec_end {N n : Nat} {s : Str} (hI : Lib.decDigits N = Lx.ahead n ++ s ∧ n ≤ N ∧ s.length + n ≤ N + 1) (h : decide ((n : Int) ≥ 10) = false) : D.str s = D.str (Lib.decDigits N) := by
  have h := of_decide_eq_false h
  rw [hI.1, Lx.ahead, if_pos (by omega), List.nil_append]
theorem valid_dec {t : Tk} (h : (!validR t) = false) (hk : (t.kind == 2) = true) : 0 ≤ t.n ∧ t.n ≤ 1099511627776 := by
  have h : validR t = true := by simpa using h
  have hk : t.kind = 2 := by simpa using hk
  simp [validR, hk] at h
  omega
theorem txt_len {l r0 : List Tk} {x0 : Tk} {ws : List Str} {s : Str} {i0 : Nat} (hI : s = Lib.join ws [32] ∧ ws.length = i0 ∧ l.all validR = (x0 :: r0).all validR ∧ ws ++ (x0 :: r0).map word = l.map word) (hj : (Lib.join (l.map word) [32]).length ≤ 140737488355328) : s.length + 1 + (word x0).length ≤ 140737488355330 := by
  obtain ⟨rfl, _, _, h⟩ := hI
  have h1 := join_le (r0.map word) (ws ++ [word x0])
  rw [List.append_assoc, show [word x0] ++ r0.map word = (x0 :: r0).map word from rfl, h, join_snoc] at h1
  split at h1
  · rename_i hw; subst hw
    simp only [Lib.join_nil, List.length_nil]; omega
  · simp only [List.length_append, List.length_cons, List.length_nil] at h1; omega
theorem txt_pos {l r0 : List Tk} {x0 : Tk} {ws : List Str} {s w : Str} {i0 : Nat} (hI : s = Lib.join ws [32] ∧ ws.length = i0 ∧ l.all validR = (x0 :: r0).all validR ∧ ws ++ (x0 :: r0).map word = l.map word) (h : decide ((i0 : Int) > 0) = true) (hw : w = word x0) : s ++ [32] ++ w = Lib.join (ws ++ [word x0]) [32] := by
  have h := of_decide_eq_true h
  obtain ⟨rfl, h1, _, _⟩ := hI
  rw [join_snoc, if_neg (by rintro rfl; simp at h1; omega), hw]
theorem txt_zero {l r0 : List Tk} {x0 : Tk} {ws : List Str} {s w : Str} {i0 : Nat} (hI : s = Lib.join ws [32] ∧ ws.length = i0 ∧ l.all validR = (x0 :: r0).all validR ∧ ws ++ (x0 :: r0).map word = l.map word) (h : decide ((i0 : Int) > 0) = false) (hw : w = word x0) : s ++ w = Lib.join (ws ++ [word x0]) [32] := by
  have h := of_decide_eq_false h
  obtain ⟨rfl, h1, _, _⟩ := hI
  have : ws = [] := List.length_eq_zero_iff.1 (by omega)
  subst this
  rw [join_snoc, if_pos rfl, hw]; rfl
theorem txt_end {l : List Tk} {ws : List Str} {s : Str} {i0 : Nat} (hI : s = Lib.join ws [32] ∧ ws.length = i0 ∧ l.all validR = ([] : List Tk).all validR ∧ ws ++ ([] : List Tk).map word = l.map word) : D.tuple [.str s, .i 0] = textR l := by
  obtain ⟨rfl, _, h1, h2⟩ := hI
  rw [textR, h1, ← h2]; simp
theorem txt_bad {l r0 : List Tk} {x0 : Tk} (h : l.all validR = (x0 :: r0).all validR) (hv : (!validR x0) = true) : D.tuple [.str [], .i 30] = textR l := by
  have hv : validR x0 = false := by simpa using hv
  rw [textR, h, List.all_cons, hv]; rfl
theorem all_next {f : Tk → Bool} {l r0 : List Tk} {x0 : Tk} (h : l.all f = (x0 :: r0).all f) (hv : (!f x0) = false) : l.all f = r0.all f := by
  have hv : f x0 = true := by simpa using hv
  rw [h, List.all_cons, hv, Bool.true_and]
end Go.Fw.Lx
namespace Go.Fw.Lx
set_option linter.unusedSectionVars false
variable [GlobInt]
/-! Classes. -/
theorem cls_space {c : UInt8} : space c = (cls c == 1) := by
  unfold cls space Ref03.letter Ref03.figure
  rw [Bool.eq_iff_iff]
  simp only [Bool.or_eq_true, Bool.and_eq_true, decide_eq_true_eq, beq_iff_eq]
  repeat' split
  all_goals simp_all
  all_goals omega
theorem cls_letter {c : UInt8} : Ref03.letter c = (cls c == 2) := by
  unfold cls
  split
  · simp_all
  · repeat' split
    all_goals simp_all
theorem cls_figure {c : UInt8} : Ref03.figure c = (cls c == 3) := by
  unfold cls
  split
  · rename_i h
    simp only [Ref03.letter, Ref03.figure, Bool.or_eq_true, Bool.and_eq_true, decide_eq_true_eq] at *
    rw [Bool.eq_iff_iff]; simp; omega
  · repeat' split
    all_goals simp_all
theorem cls_part {c : UInt8} : Ref03.part c = has [2, 3, 5] (cls c) := by
  rw [has3, Ref03.part, cls_letter, cls_figure]
  congr 1
  unfold cls
  split
  · rename_i h
    simp only [Ref03.letter, Bool.or_eq_true, Bool.and_eq_true, decide_eq_true_eq] at h
    rw [Bool.eq_iff_iff]; simp; omega
  · split
    · rename_i h
      simp only [Ref03.figure, Bool.and_eq_true, decide_eq_true_eq] at h
      rw [Bool.eq_iff_iff]; simp; omega
    · repeat' split
      all_goals simp_all
theorem index_any {c : UInt8} : ∀ l : Str, decide (Lib.indexByte l c ≥ 0) = l.any fun x => (x.toNat : Int) == (c.toNat : Int)
  | [] => by simp [Lib.indexByte]
  | x :: r => by
    have ih := index_any (c := c) r
    have hg := Lib.indexByte_ge r c
    have e : ((x.toNat : Int) == (c.toNat : Int)) = (x == c) := by
      rw [Bool.eq_iff_iff]; simp only [beq_iff_eq]
      constructor
      · intro h; exact UInt8.toNat_inj.1 (by omega)
      · rintro rfl; rfl
    simp only [Lib.indexByte, List.any_cons, e]
    by_cases hx : (x == c) = true
    · simp [hx]
    · have hx : (x == c) = false := by simpa using hx
      simp only [hx, Bool.false_eq_true, if_false, Bool.false_or]
      rw [← ih]
      by_cases h1 : Lib.indexByte r c = -1
      · simp [h1]
      · have h2 : (Lib.indexByte r c == -1) = false := by simpa using h1
        simp only [h2, Bool.false_eq_true, if_false]
        rw [Bool.eq_iff_iff]; simp only [decide_eq_true_eq]; omega
theorem cls_signR {c : UInt8} : signR c = (cls c == 4) := by
  have e : signR c = decide (Lib.indexByte signs c ≥ 0) := (index_any signs).symm
  rw [Bool.eq_iff_iff]
  constructor
  · intro h
    have hm : ∃ x ∈ signs, (x.toNat : Int) = (c.toNat : Int) := by
      simp only [signR, List.any_eq_true, beq_iff_eq] at h; exact h
    obtain ⟨x, hx, hc⟩ := hm
    have : x = c := UInt8.toNat_inj.1 (by omega)
    subst this
    rw [e] at h
    have hn : Ref03.letter x = false ∧ Ref03.figure x = false ∧ ((x.toNat : Int) == 95) = false ∧ (((x.toNat : Int) == 32 || (x.toNat : Int) == 9) || (x.toNat : Int) == 10 || (x.toNat : Int) == 13) = false := by
      simp only [signs, List.mem_cons, List.not_mem_nil, or_false] at hx
      rcases hx with h | h | h | h | h | h | h | h | h | h | h | h | h | h | h | h <;> subst h <;> decide
    unfold cls
    rw [hn.1, hn.2.1, hn.2.2.1, hn.2.2.2]
    simp [h]
  · intro h
    rw [e]; exact cls_sign (by simpa using h)
/-! White space one by one; comments. -/
theorem getD_lt {s : Str} {a : Nat} (h : s.getD a 0 ≠ 0) : a < s.length := by
  rcases Nat.lt_or_ge a s.length with h1 | h1
  · exact h1
  · rw [List.getD_eq_getElem?_getD, List.getElem?_eq_none h1] at h; simp at h
theorem pStep_at {src : Str} {a : Nat} (hlt : a < src.length) : pStep (src.drop a) = match cls (src.getD a 0) with
    | 1 => .skip (tw [1] (src.drop a)).length
    | 2 => nameSt (tw [2, 3, 5] (src.drop a))
    | 3 => numSt (tw [3] (src.drop a))
    | 4 => signSt (src.drop a)
    | _ => .bad := by
  have e0 : (src.drop a).getD 0 0 = src.getD a 0 := by rw [drop_cons hlt]; rfl
  rw [← e0]; rfl
theorem space_one {src : Str} {a : Nat} (hlt : a < src.length) (hc : cls (src.getD a 0) = 1) : lexR pStep (src.drop a) a = lexR pStep (src.drop (a + 1)) (a + 1) := by
  have h1 := lexR_skip hlt (show pStep (src.drop a) = .skip (tw [1] (src.drop a)).length by rw [pStep_at hlt, hc]; rfl)
  have e : tw [1] (src.drop a) = src.getD a 0 :: tw [1] (src.drop (a + 1)) := by
    rw [drop_cons hlt]
    show List.takeWhile _ _ = _
    rw [List.takeWhile_cons_of_pos (by rw [has1, hc]; rfl)]; rfl
  rw [h1, e, List.length_cons]
  rcases Nat.lt_or_ge (a + 1) src.length with hl | hl
  · by_cases hc' : cls (src.getD (a + 1) 0) = 1
    · have h2 := lexR_skip hl (show pStep (src.drop (a + 1)) = .skip (tw [1] (src.drop (a + 1))).length by rw [pStep_at hl, hc']; rfl)
      rw [h2, show a + ((tw [1] (src.drop (a + 1))).length + 1) = a + 1 + (tw [1] (src.drop (a + 1))).length by omega]
    · have : tw [1] (src.drop (a + 1)) = [] := by
        rw [drop_cons hl]
        show List.takeWhile _ _ = _
        rw [List.takeWhile_cons_of_neg]
        rw [has1]; simpa using hc'
      rw [this]; rfl
  · have : tw [1] (src.drop (a + 1)) = [] := by rw [List.drop_eq_nil_of_le hl]; rfl
    rw [this]; rfl
def notNl (c : UInt8) : Bool := !((c.toNat : Int) == 10)
theorem cmt_tw : ∀ s : Str, cmt s = (s.takeWhile notNl).length
  | [] => rfl
  | c :: r => by
    have ih := cmt_tw r
    have hg := Lib.indexByte_ge r 10
    have e : notNl c = !(c == 10) := by
      rw [notNl]; congr 1
      rw [Bool.eq_iff_iff]; simp only [beq_iff_eq]
      constructor
      · intro h; exact UInt8.toNat_inj.1 (show c.toNat = (10 : UInt8).toNat by show c.toNat = 10; omega)
      · rintro rfl; rfl
    unfold cmt at ih ⊢
    simp only [Lib.indexByte]
    by_cases hx : (c == 10) = true
    · rw [List.takeWhile_cons_of_neg (by rw [e, hx]; simp)]; simp [hx]
    · have hx : (c == 10) = false := by simpa using hx
      rw [List.takeWhile_cons_of_pos (by rw [e, hx]; rfl)]
      simp only [hx, Bool.false_eq_true, if_false, List.length_cons]
      rw [← ih]
      by_cases h1 : Lib.indexByte r 10 = -1
      · simp [h1]
      · have h2 : (Lib.indexByte r 10 == -1) = false := by simpa using h1
        have h3 : 0 ≤ Lib.indexByte r 10 := by omega
        simp only [h2, Bool.false_eq_true, if_false, h3, if_true, show (0 : Int) ≤ Lib.indexByte r 10 + 1 by omega]
        omega
/-! Numbers. -/
def dv (n : Nat) (t : Str) : Nat := t.foldl (fun a c => 10 * a + (c.toNat - 48)) n
theorem dv_ge : ∀ (t : Str) (n : Nat), n ≤ dv n t
  | [], n => Nat.le_refl _
  | c :: r, n => by
    have := dv_ge r (10 * n + (c.toNat - 48))
    simp only [dv, List.foldl_cons] at *
    omega
theorem numF_eq : ∀ (t : Str) (n : Nat), n ≤ 1099511627776 → numF n t = if dv n t > 1099511627776 then none else some (dv n t)
  | [], n, h => by rw [if_neg (show ¬ dv n [] > 1099511627776 by show ¬ n > _; omega)]; rfl
  | c :: r, n, h => by
    simp only [numF]
    split
    · have := dv_ge r (10 * n + (c.toNat - 48))
      rw [if_pos (by show dv (10 * n + (c.toNat - 48)) r > _; omega)]
    · exact numF_eq r _ (by omega)
theorem parse_eq : ∀ (t : Str) (n : Nat), Dig t → n < 18446744073709551616 → Lib.parseUint10 n t = if dv n t < 18446744073709551616 then .ok (dv n t) else .range
  | [], n, _, h => by rw [if_pos (show dv n [] < 18446744073709551616 from h)]; rfl
  | c :: r, n, hd, h => by
    have hc := hd c (by simp)
    have hge := dv_ge r (10 * n + (c.toNat - 48))
    have e : dv n (c :: r) = dv (10 * n + (c.toNat - 48)) r := rfl
    simp only [Lib.parseUint10, hc, and_self, if_true]
    split
    · rw [if_neg (by omega)]
    · split
      · rw [if_neg (by omega)]
      · rw [Nat.mul_comm n 10, parse_eq r _ (fun x hx => hd x (List.mem_cons_of_mem _ hx)) (by omega), e]
theorem atoi_eq {t : Str} (hd : Dig t) (hne : t ≠ []) : Lib.atoiAll t = if dv 0 t < 9223372036854775808 then .ok (dv 0 t : Int) else .range := by
  cases t with
  | nil => exact absurd rfl hne
  | cons c r =>
    have hc := hd c (by simp)
    have h0 : ¬ (c.toNat = 43 ∨ c.toNat = 45) := by omega
    have h1 : ¬ (c.toNat = 45) := by omega
    simp only [Lib.atoiAll, if_neg h0, Lib.parseMag, if_neg (List.cons_ne_nil c r), parse_eq (c :: r) 0 hd (by omega)]
    by_cases h2 : dv 0 (c :: r) < 18446744073709551616
    · simp only [if_pos h2, h1, not_false_eq_true, true_and, false_and, if_false]
      by_cases h3 : dv 0 (c :: r) < 9223372036854775808
      · rw [if_neg (by omega), if_pos h3]
      · rw [if_pos (by omega), if_neg h3]
    · simp only [if_neg h2]
      rw [if_neg (by omega)]
theorem dv_snoc (s : Str) (c : UInt8) (n : Nat) : dv n (s ++ [c]) = 10 * dv n s + (c.toNat - 48) := by simp [dv]
theorem ofNat_dig {c : UInt8} (h : 48 ≤ c.toNat ∧ c.toNat ≤ 57) : UInt8.ofNat (48 + (c.toNat - 48)) = c := by
  rw [show 48 + (c.toNat - 48) = c.toNat by omega]; simp
theorem dv_pos {c : UInt8} {r : Str} (hc : 48 ≤ c.toNat) (h : c ≠ 48) : 1 ≤ dv 0 (c :: r) := by
  have h48 : c.toNat ≠ 48 := fun e => h (UInt8.toNat_inj.1 e)
  have := dv_ge r (10 * 0 + (c.toNat - 48))
  show 1 ≤ dv (10 * 0 + (c.toNat - 48)) r
  omega
theorem dec_dv : ∀ (n : Nat) (t : Str), t.length = n → Dig t → t ≠ [] → (t.length = 1 ∨ t.getD 0 0 ≠ 48) → Lib.decDigits (dv 0 t) = t := by
  intro n
  induction n with
  | zero => intro t hl _ hne; exact absurd (List.length_eq_zero_iff.1 hl) hne
  | succ n ih =>
    intro t hl hd hne hz
    have ht : t = t.dropLast ++ [t.getLast hne] := (List.dropLast_concat_getLast hne).symm
    generalize t.getLast hne = c at ht
    generalize hs : t.dropLast = s at ht
    subst ht
    have hc := hd c (by simp)
    cases s with
    | nil =>
      rw [dv_snoc, show dv 0 [] = 0 from rfl, Lib.decDigits, dif_pos (by omega)]
      simp only [Nat.mul_zero, Nat.zero_add, List.nil_append]
      rw [ofNat_dig hc]
    | cons x r =>
      have hx := hd x (by simp)
      have hz : x ≠ 48 := by
        rcases hz with h | h
        · simp at h
        · simpa using h
      have h1 := dv_pos (r := r) hx.1 hz
      have := ih (x :: r) (by simp at hl ⊢; omega) (fun y hy => hd y (by simp at hy ⊢; rcases hy with h | h; exact .inl h; exact .inr (.inl h))) (by simp) (.inr (by simpa using hz))
      rw [dv_snoc, Lib.decDigits, dif_neg (by omega)]
      rw [show (10 * dv 0 (x :: r) + (c.toNat - 48)) / 10 = dv 0 (x :: r) by omega, show (10 * dv 0 (x :: r) + (c.toNat - 48)) % 10 = c.toNat - 48 by omega, this, ofNat_dig hc]
theorem dec_head : ∀ (u : Nat), 1 ≤ u → ∃ c r, Lib.decDigits u = c :: r ∧ c ≠ 48 := by
  intro u
  induction u using Nat.strongRecOn with
  | _ u ih =>
    intro h
    rw [Lib.decDigits]
    split
    · rename_i h9
      refine ⟨_, _, rfl, fun e => ?_⟩
      have := congrArg UInt8.toNat e
      simp at this
      omega
    · rename_i h9
      obtain ⟨c, r, e, hc⟩ := ih (u / 10) (by omega) (by omega)
      exact ⟨c, r ++ [UInt8.ofNat (48 + u % 10)], by rw [e]; rfl, hc⟩
theorem itoa_iff {t : Str} (hd : Dig t) (hne : t ≠ []) : (Lib.decDigits (dv 0 t) == t) = (decide (t.length = 1) || decide (t.getD 0 0 ≠ 48)) := by
  rw [Bool.eq_iff_iff]
  simp only [beq_iff_eq, Bool.or_eq_true, decide_eq_true_eq]
  constructor
  · intro h
    by_cases h1 : t.length = 1
    · exact .inl h1
    · right
      rcases Nat.eq_zero_or_pos (dv 0 t) with h0 | h0
      · rw [h0, Lib.decDigits, dif_pos (by omega)] at h
        rw [← h] at h1; simp at h1
      · obtain ⟨c, r, e, hc⟩ := dec_head _ h0
        rw [← h, e]; simpa using hc
  · intro h
    exact dec_dv _ t rfl hd hne h
def numV (t : Str) : Nat := match numF 0 t with | none => 0 | some n => n
def numB (t : Str) : Bool := match numF 0 t with | none => false | some _ => ((t.length : Int) == 1 || (((t.getD 0 0).toNat : Nat) : Int) != 48)
theorem numOut_eq (t : Str) : numOut t = .tuple [.i (numV t : Nat), .b (numB t)] := by
  unfold numOut numV numB
  cases numF 0 t <;> rfl
theorem num_eq {t : Str} (hd : Dig t) (hne : t ≠ []) : numSt t = if numB t then .tok t.length ⟨2, [], (numV t : Nat), 0⟩ else .bad := by
  have e1 := atoi_eq hd hne
  have e2 := itoa_iff hd hne
  have e3 : ((t.length : Int) == 1 || (((t.getD 0 0).toNat : Nat) : Int) != 48) = (decide (t.length = 1) || decide (t.getD 0 0 ≠ 48)) := by
    congr 1
    · rw [Bool.eq_iff_iff]; simp only [beq_iff_eq, decide_eq_true_eq]; omega
    · rw [Bool.eq_iff_iff]; simp only [bne_iff_ne, ne_eq, decide_eq_true_eq]
      refine not_congr ⟨fun h => UInt8.toNat_inj.1 (show _ = (48 : UInt8).toNat by show _ = 48; omega), fun h => by rw [h]; rfl⟩
  unfold numB numV
  rw [numF_eq t 0 (by omega), e3, ← e2]
  unfold numSt
  rw [e1]
  by_cases h1 : dv 0 t < 9223372036854775808
  · rw [if_pos h1]
    have hit : Lib.itoa (dv 0 t : Int) = Lib.decDigits (dv 0 t) := by rw [Lib.itoa, if_neg (by omega)]; simp
    simp only [hit]
    by_cases h2 : dv 0 t > 1099511627776
    · rw [if_pos h2]
      have hv : valid ⟨2, [], (dv 0 t : Int), 0⟩ = false := by
        simp [valid]; omega
      simp only [hv, Bool.false_eq_true, if_false, ite_self]
    · rw [if_neg h2]
      have hv : valid ⟨2, [], (dv 0 t : Int), 0⟩ = true := by
        simp [valid]; omega
      simp only [hv, if_true]
  · have h3 : dv 0 t > 1099511627776 := by omega
    rw [if_neg h1]; simp only [if_pos h3, Bool.false_eq_true, if_false]
end Go.Fw.Lx
namespace Go.Fw.Lx
set_option linter.unusedSectionVars false
variable [GlobInt]
theorem clsOk_eq (c : UInt8) : clsOk c = Ref03.part c := by
  rw [cls_part, has3, clsOk]
  simp only [bne, Bool.not_and, Bool.not_not, Bool.or_assoc]
theorem name_eq (s : Str) : lname s = Ref03.name s := by
  have e : s.all clsOk = s.all Ref03.part := by congr 1; funext c; exact clsOk_eq c
  rw [lname, Ref03.name, e, cls_letter]
  congr 2
  cases s with
  | nil => simp
  | cons c r =>
    have h1 : ((c :: r : Str) == []) = false := by simp
    have h2 : decide ((((c :: r : Str).length : Nat) : Int) < 1) = false := by simp only [List.length_cons, decide_eq_false_iff_not]; omega
    rw [h1, h2]; rfl
theorem valid_eq (t : Tk) : validR t = valid t := by
  simp only [validR, valid, name_eq, cls_signR]
theorem str_at1 {l : List UInt8} {a : Nat} {q : UInt8 → Prop} (ha : a ≤ 1073741824) (h : a + 1 < l.length) (h4 : q (l.getD (a + 1) 0)) : ∃ c, (0 ≤ IntKind.i64.wrap ((a : Int) + 1) ∧ l[(IntKind.i64.wrap ((a : Int) + 1)).toNat]? = some c) ∧ q c := by
  rw [wrap1 ha]; exact str_at h h4
abbrev Cw (src : Str) (a : Nat) : Bool := bif (bif (((src.getD a 0).toNat : Int) == 47) then decide (IntKind.i64.wrap ((a : Int) + 1) < (src.length : Int)) else false) then (((src.getD (a + 1) 0).toNat : Int) == 47) else false
theorem lt_next {src : Str} {a : Nat} (ha : a ≤ 1073741824) (hg : wantB (bif (((src.getD a 0).toNat : Int) == 47) then decide (IntKind.i64.wrap ((a : Int) + 1) < (src.length : Int)) else false) true = true) : a + 1 < src.length := by
  rw [wrap1 ha] at hg
  simp only [wantB, Bool.cond_false_right, Bool.and_eq_true, decide_eq_true_eq] at hg
  omega
theorem is47 (c : UInt8) : ((c.toNat : Int) == 47) = (47 == c) := by
  rw [Bool.eq_iff_iff]; simp only [beq_iff_eq]
  exact ⟨fun h => UInt8.toNat_inj.1 (show (47 : UInt8).toNat = _ by show 47 = _; omega), fun h => by rw [← h]; rfl⟩
theorem hp_eq {src : Str} {a : Nat} (hlt : a < src.length) (ha : a ≤ 1073741824) : Lib.hasPrefix (src.drop a) [47, 47] = Cw src a := by
  rw [Cw, wrap1 ha, is47, is47, drop_cons hlt]
  simp only [Lib.hasPrefix, List.isPrefixOf, Bool.cond_false_right]
  rcases Nat.lt_or_ge (a + 1) src.length with h | h
  · rw [drop_cons h]
    have : decide (((a + 1 : Nat) : Int) < (src.length : Int)) = true := by simp; omega
    simp only [List.isPrefixOf, this, Bool.and_true]
  · rw [List.drop_eq_nil_of_le h]
    have : decide (((a + 1 : Nat) : Int) < (src.length : Int)) = false := by simp; omega
    simp only [List.isPrefixOf, this, Bool.and_false, Bool.false_and]
theorem cls47 : cls 47 = 4 := by
  have h := cls_signR (c := 47)
  have : signR 47 = true := by decide
  rw [this] at h; simpa using h.symm
section
variable {src : Str} {a : Nat} (hlt : decide ((a : Int) < (src.length : Int)) = true) (hs : src.length ≤ 1073741824)
include hlt
theorem L_space (h : space (src.getD a 0) = true) : lexR pStep (src.drop a) a = lexR pStep (src.drop (a + 1)) (a + 1) :=
  space_one (lt_src hlt) (by rw [cls_space] at h; simpa using h)
theorem end_of {p : UInt8 → Bool} {b : Nat} {x : Bool} (hI : TwAt p src a b) (hx : (bif decide ((b : Int) < (src.length : Int)) then x else false) = false) (hp : x = p (src.getD b 0)) : b = a + ((src.drop a).takeWhile p).length := by
  subst hp
  refine twAt_end hI ?_
  rcases and_ff hx with h | h
  · exact .inl (by omega)
  · exact .inr ⟨by omega, h.2⟩
theorem cut_of {p : UInt8 → Bool} {b : Nat} (h : b = a + ((src.drop a).takeWhile p).length) : cut (some (a : Int)) (some (b : Int)) src = (src.drop a).takeWhile p := by
  rw [cut_to]; exact twAt_cut h
include hs
theorem L_cmt {b : Nat} (h : Cw src a = true) (hb : b = a + ((src.drop a).takeWhile notNl).length) : lexR pStep (src.drop a) a = lexR pStep (src.drop b) b := by
  have hl := lt_src hlt
  have hp := (hp_eq hl (by omega)).trans h
  have hc : src.getD a 0 = 47 := by
    rw [Cw, is47] at h
    cases he : (47 == src.getD a 0) with
    | true => exact (beq_iff_eq.1 he).symm
    | false => rw [he] at h; simp at h
  have := lexR_skip hl (show pStep (src.drop a) = .skip (cmt (src.drop a)) by rw [pStep_at hl, hc, cls47]; show signSt _ = _; rw [signSt, hp]; rfl)
  rw [cmt_tw, ← hb] at this; exact this
omit hs
theorem letter_run (h : Ref03.letter (src.getD a 0) = true) : pStep (src.drop a) = nameSt ((src.drop a).takeWhile Ref03.part) := by
  have hl := lt_src hlt
  rw [cls_letter] at h
  rw [pStep_at hl, show cls (src.getD a 0) = 2 by simpa using h]
  show nameSt (tw _ _) = _
  congr 1
  show List.takeWhile _ _ = _
  congr 1; funext c; exact cls_part.symm
theorem L_name {b : Nat} (h : Ref03.letter (src.getD a 0) = true) (hb : b = a + ((src.drop a).takeWhile Ref03.part).length) (hv : (!Ref03.name (cut (some (a : Int)) (some (b : Int)) src)) = false) :
    lexR pStep (src.drop a) a = consE ⟨1, cut (some (a : Int)) (some (b : Int)) src, 0, a⟩ (lexR pStep (src.drop b) b) := by
  have hl := lt_src hlt
  rw [cut_of hlt hb] at hv ⊢
  have hv : valid ⟨1, (src.drop a).takeWhile Ref03.part, 0, 0⟩ = true := by
    rw [← name_eq] at hv; simp [valid]; simpa using hv
  have := lexR_tok hl (show pStep (src.drop a) = .tok ((src.drop a).takeWhile Ref03.part).length ⟨1, (src.drop a).takeWhile Ref03.part, 0, 0⟩ by rw [letter_run hlt h, nameSt, hv]; rfl)
  rw [← hb] at this; exact this
theorem L_name' {b : Nat} (h : Ref03.letter (src.getD a 0) = true) (hb : b = a + ((src.drop a).takeWhile Ref03.part).length) (hv : (!Ref03.name (cut (some (a : Int)) (some (b : Int)) src)) = true) :
    lexR pStep (src.drop a) a = .error a := by
  rw [cut_of hlt hb] at hv
  have hv : valid ⟨1, (src.drop a).takeWhile Ref03.part, 0, 0⟩ = false := by
    rw [← name_eq] at hv; simp [valid]; simpa using hv
  exact lexR_bad (lt_src hlt) (by rw [letter_run hlt h, nameSt, hv]; rfl)
theorem fig_run (h : Ref03.figure (src.getD a 0) = true) : pStep (src.drop a) = numSt ((src.drop a).takeWhile Ref03.figure) ∧ Dig ((src.drop a).takeWhile Ref03.figure) ∧ (src.drop a).takeWhile Ref03.figure ≠ [] := by
  have hl := lt_src hlt
  refine ⟨?_, fun c hc => ?_, ?_⟩
  · rw [cls_figure] at h
    rw [pStep_at hl, show cls (src.getD a 0) = 3 by simpa using h]
    show numSt (tw _ _) = _
    congr 1
    show List.takeWhile _ _ = _
    congr 1; funext c; rw [has1, cls_figure]
  · have := mem_tw (p := Ref03.figure) hc
    simp only [Ref03.figure, Bool.and_eq_true, decide_eq_true_eq] at this
    omega
  · rw [drop_cons hl, List.takeWhile_cons_of_pos h]; simp
theorem L_num {b : Nat} (h : Ref03.figure (src.getD a 0) = true) (hb : b = a + ((src.drop a).takeWhile Ref03.figure).length) (hv : (!numB (cut (some (a : Int)) (some (b : Int)) src)) = false) :
    lexR pStep (src.drop a) a = consE ⟨2, [], (numV (cut (some (a : Int)) (some (b : Int)) src) : Nat), a⟩ (lexR pStep (src.drop b) b) := by
  obtain ⟨h1, h2, h3⟩ := fig_run hlt h
  rw [cut_of hlt hb] at hv ⊢
  have hv : numB ((src.drop a).takeWhile Ref03.figure) = true := by simpa using hv
  have := lexR_tok (lt_src hlt) (h1.trans ((num_eq h2 h3).trans (by rw [if_pos hv])))
  rw [← hb] at this; exact this
theorem L_num' {b : Nat} (h : Ref03.figure (src.getD a 0) = true) (hb : b = a + ((src.drop a).takeWhile Ref03.figure).length) (hv : (!numB (cut (some (a : Int)) (some (b : Int)) src)) = true) :
    lexR pStep (src.drop a) a = .error a := by
  obtain ⟨h1, h2, h3⟩ := fig_run hlt h
  rw [cut_of hlt hb] at hv
  have hv : numB ((src.drop a).takeWhile Ref03.figure) = false := by simpa using hv
  exact lexR_bad (lt_src hlt) (h1.trans ((num_eq h2 h3).trans (by rw [hv]; rfl)))
include hs
theorem L_sign (h : Cw src a = false) (hg : (!signR (src.getD a 0)) = false) :
    lexR pStep (src.drop a) a = consE ⟨3, cut (some (a : Int)) (some ((a + 1 : Nat) : Int)) src, 0, a⟩ (lexR pStep (src.drop (a + 1)) (a + 1)) := by
  have hl := lt_src hlt
  have hp := (hp_eq hl (by omega)).trans h
  have hc : cls (src.getD a 0) = 4 := by rw [cls_signR] at hg; simpa using hg
  have t1 : (src.drop a).take 1 = (src.take (a + 1)).drop a := by rw [List.drop_take, Nat.add_sub_cancel_left]
  have hw : valid ⟨3, (src.take (a + 1)).drop a, 0, 0⟩ = true := by
    rw [← t1, drop_cons hl]; exact valid_sign hc
  exact lexR_tok hl (show pStep (src.drop a) = .tok 1 ⟨3, (src.take (a + 1)).drop a, 0, 0⟩ by rw [pStep_at hl, hc]; show signSt _ = _; rw [signSt, hp, t1, hw]; rfl)
omit hs
theorem L_other (h1 : space (src.getD a 0) = false) (h2 : Ref03.letter (src.getD a 0) = false) (h3 : Ref03.figure (src.getD a 0) = false) (h4 : (!signR (src.getD a 0)) = true) : lexR pStep (src.drop a) a = .error a := by
  have hl := lt_src hlt
  rw [cls_space] at h1; rw [cls_letter] at h2; rw [cls_figure] at h3; rw [cls_signR] at h4
  refine lexR_bad hl ?_
  rw [pStep_at hl]
  simp at h1 h2 h3 h4
  rcases cls_range (src.getD a 0) with hc | hc | hc | hc | hc | hc
  · rw [show cls (src.getD a 0) = 0 from hc]; rfl
  · exact absurd hc (by simpa using h1)
  · exact absurd hc (by simpa using h2)
  · exact absurd hc (by simpa using h3)
  · exact absurd hc (by simpa using h4)
  · rw [show cls (src.getD a 0) = 5 from hc]; rfl
end
theorem fin_snoc {src : Str} {a b : Nat} {ts : List Tk} {t : Tk} (hI : lexR pStep src 0 = fin ts (lexR pStep (src.drop a) a)) (e : lexR pStep (src.drop a) a = consE t (lexR pStep (src.drop b) b)) : lexR pStep src 0 = fin (ts ++ [t]) (lexR pStep (src.drop b) b) := by
  rw [hI, e, fin_cons]
theorem fin_same {src : Str} {a b : Nat} {ts : List Tk} (hI : lexR pStep src 0 = fin ts (lexR pStep (src.drop a) a)) (e : lexR pStep (src.drop a) a = lexR pStep (src.drop b) b) : lexR pStep src 0 = fin ts (lexR pStep (src.drop b) b) := by rw [hI, e]
theorem adv {p : UInt8 → Bool} {src : Str} {a b : Nat} (hlt : decide ((a : Int) < (src.length : Int)) = true) (h : p (src.getD a 0) = true) (hb : b = a + ((src.drop a).takeWhile p).length) : a + 1 ≤ b := by
  rw [hb, drop_cons (lt_src hlt), List.takeWhile_cons_of_pos h, List.length_cons]; omega
/-- What holds at the head of the loop. -/
abbrev Hd (src : Str) (a : Nat) (ts : List Tk) : Prop := a ≤ src.length ∧ ts.length ≤ a ∧ lexR pStep src 0 = fin ts (lexR pStep (src.drop a) a)
abbrev Nx (src : Str) (a b : Nat) (ts : List Tk) : Prop := b ≤ src.length ∧ ts.length ≤ b ∧ lexR pStep src 0 = fin ts (lexR pStep (src.drop b) b) ∧ src.length - b < src.length - a
section
variable {src : Str} {a b : Nat} {ts : List Tk} (hI : Hd src a ts) (hlt : decide ((a : Int) < (src.length : Int)) = true) (hs : src.length ≤ 1073741824)
include hI hlt
theorem N_space (h : space (src.getD a 0) = true) : Nx src a (a + 1) ts := by
  have hl := lt_src hlt
  have := hI.2.1
  exact ⟨hl, by omega, fin_same hI.2.2 (L_space hlt h), by omega⟩
theorem N_name (h : Ref03.letter (src.getD a 0) = true) (hT : TwAt Ref03.part src a b) (hx : (bif decide ((b : Int) < (src.length : Int)) then Ref03.part (src.getD b 0) else false) = false) (hv : (!Ref03.name (cut (some (a : Int)) (some (b : Int)) src)) = false) : Nx src a b (ts ++ [⟨1, cut (some (a : Int)) (some (b : Int)) src, 0, a⟩]) := by
  have hl := lt_src hlt
  have hb := end_of hlt hT hx rfl
  have ha := adv hlt (p := Ref03.part) (by rw [Ref03.part, h]; rfl) hb
  have := hI.2.1
  exact ⟨hT.end_, by simp only [List.length_append, List.length_cons, List.length_nil]; omega, fin_snoc hI.2.2 (L_name hlt h hb hv), by omega⟩
theorem E_name (h : Ref03.letter (src.getD a 0) = true) (hT : TwAt Ref03.part src a b) (hx : (bif decide ((b : Int) < (src.length : Int)) then Ref03.part (src.getD b 0) else false) = false) (hv : (!Ref03.name (cut (some (a : Int)) (some (b : Int)) src)) = true) : D.tuple [.sl 4 [], .i (a : Nat), .i 30] = lexOut (lexR pStep src 0) :=
  out_err hI (L_name' hlt h (end_of hlt hT hx rfl) hv)
theorem N_num (h : Ref03.figure (src.getD a 0) = true) (hT : TwAt Ref03.figure src a b) (hx : (bif decide ((b : Int) < (src.length : Int)) then Ref03.figure (src.getD b 0) else false) = false) (hv : (!numB (cut (some (a : Int)) (some (b : Int)) src)) = false) : Nx src a b (ts ++ [⟨2, [], (numV (cut (some (a : Int)) (some (b : Int)) src) : Nat), a⟩]) := by
  have hl := lt_src hlt
  have hb := end_of hlt hT hx rfl
  have ha := adv hlt (p := Ref03.figure) h hb
  have := hI.2.1
  exact ⟨hT.end_, by simp only [List.length_append, List.length_cons, List.length_nil]; omega, fin_snoc hI.2.2 (L_num hlt h hb hv), by omega⟩
theorem E_num (h : Ref03.figure (src.getD a 0) = true) (hT : TwAt Ref03.figure src a b) (hx : (bif decide ((b : Int) < (src.length : Int)) then Ref03.figure (src.getD b 0) else false) = false) (hv : (!numB (cut (some (a : Int)) (some (b : Int)) src)) = true) : D.tuple [.sl 4 [], .i (a : Nat), .i 30] = lexOut (lexR pStep src 0) :=
  out_err hI (L_num' hlt h (end_of hlt hT hx rfl) hv)
theorem E_other (h1 : space (src.getD a 0) = false) (h2 : Ref03.letter (src.getD a 0) = false) (h3 : Ref03.figure (src.getD a 0) = false) (h4 : (!signR (src.getD a 0)) = true) : D.tuple [.sl 4 [], .i (a : Nat), .i 30] = lexOut (lexR pStep src 0) :=
  out_err hI (L_other hlt h1 h2 h3 h4)
include hs
theorem N_cmt (h : Cw src a = true) (hT : TwAt notNl src a b) (hx : (bif decide ((b : Int) < (src.length : Int)) then !(((src.getD b 0).toNat : Int) == 10) else false) = false) : Nx src a b ts := by
  have hl := lt_src hlt
  have hb := end_of hlt hT hx rfl
  have h47 : src.getD a 0 = 47 := by
    have h := h
    rw [Cw, is47] at h
    cases he : (47 == src.getD a 0) with
    | true => exact (beq_iff_eq.1 he).symm
    | false => rw [he] at h; simp at h
  have ha := adv hlt (p := notNl) (by rw [h47]; rfl) hb
  have := hI.2.1
  exact ⟨hT.end_, by omega, fin_same hI.2.2 (L_cmt hlt hs h hb), by omega⟩
theorem N_sign (h : Cw src a = false) (hg : (!signR (src.getD a 0)) = false) : Nx src a (a + 1) (ts ++ [⟨3, cut (some (a : Int)) (some ((a + 1 : Nat) : Int)) src, 0, a⟩]) := by
  have hl := lt_src hlt
  have := hI.2.1
  exact ⟨hl, by simp only [List.length_append, List.length_cons, List.length_nil]; omega, fin_snoc hI.2.2 (L_sign hlt hs h hg), by omega⟩
end
end Go.Fw.Lx
namespace Go.Fw.Lx
set_option linter.unusedSectionVars false
variable [GlobInt]
theorem br_f' {c : Bool} {p q : Prop} (h : c = false) (hq : q) : BrI c p q := by subst h; exact BrI.ff hq
theorem gi_step {g : Bool} {p : Prop} (h : g = true) (hp : p) : GuardI g p := GuardI.mk h hp
theorem idx_lit' {k : Bool} {a b : Nat} {n : Int} {es : List (List D)} {q : List D → Prop} (h1 : k = true) (h2 : a = b) (h3 : decide (0 ≤ n ∧ n.toNat < es.length) = true) (h : q (es.getD n.toNat [])) : (k = true ∧ a = b) ∧ ∃ c, (0 ≤ n ∧ es[n.toNat]? = some c) ∧ q c := by
  have h3 := of_decide_eq_true h3
  refine ⟨⟨h1, h2⟩, _, ⟨h3.1, ?_⟩, h⟩
  rw [List.getD_eq_getElem?_getD, List.getElem?_eq_getElem h3.2]; rfl
end Go.Fw.Lx
namespace Go.Fw.Lx
set_option linter.unusedSectionVars false
variable [GlobInt]
theorem sameT_refl (t : Tk) : sameT t t = true := by simp [sameT]
theorem zip_self {p : Tk × Tk → Bool} (h : ∀ t, p (t, t) = true) : ∀ l : List Tk, (l.zip l).all p = true
  | [] => rfl
  | x :: r => by rw [List.zip_cons_cons, List.all_cons, h x, zip_self h r]; rfl
theorem same_refl (l : List Tk) : sameM l l = true := by
  rw [sameM, if_neg (by simp)]
  exact zip_self (p := fun q => sameT q.1 q.2) sameT_refl l
theorem equal_refl (l : List Tk) : equalM l l = true := by
  rw [equalM, same_refl, posM, zip_self (p := fun q => q.1.pos == q.2.pos) (fun t => by simp) l]; rfl
end Go.Fw.Lx
