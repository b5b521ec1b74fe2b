/- Package lex in plain words: tokens with white space and comments between them. -/
import Derived.Test.YtanmpkhhmjfbnaaDoorZLD16
set_option linter.unusedSimpArgs false
set_option linter.unusedVariables false
namespace Go.Fw.Lx
set_option linter.unusedSectionVars false
variable [GlobInt]
/-- What may stand between two words. -/
def gapL (w : Str) : List Str := [[32], [9], [10], [13, 10], [32, 32], 47 :: 47 :: w ++ [10], [32, 47, 47, 32, 10], [10, 47, 47, 10]]
def gapW (w : Str) (k : Nat) : Str := (gapL w).getD k []
def gapAt (ts : Str) (w : Str) (i : Nat) : Str := if i < ts.length then gapW w ((ts.getD i 0).toNat % 8) else [32]
def spread (g : Nat → Str) : Nat → List Tk → List (Tk × Str)
  | _, [] => []
  | i, t :: r => (t, 32 :: g i) :: spread g (i + 1) r
theorem spread_fst (g : Nat → Str) : ∀ (l : List Tk) (i : Nat), (spread g i l).map Prod.fst = l
  | [], _ => rfl
  | t :: r, i => by simp only [spread, List.map_cons, spread_fst g r (i + 1)]
theorem spread_ok {g : Nat → Str} (hg : ∀ i, Gap (g i)) : ∀ (l : List Tk) (i : Nat), l.all valid = true → RenOk (spread g i l)
  | [], _, _ => trivial
  | t :: r, i, h => by
    simp only [List.all_cons, Bool.and_eq_true] at h
    refine ⟨h.1, ?_, .inr ⟨32, g i, rfl, cls32⟩, spread_ok hg r (i + 1) h.2⟩
    exact gap_app (gap_sp cls32) (hg i)
theorem cls9 : cls 9 = 1 := by decide
theorem cls13 : cls 13 = 1 := by decide
theorem gap_w {w : Str} (h : ∀ c ∈ w, c ≠ 10) (k : Nat) : Gap (gapW w k) := by
  match k with
  | 0 => rw [show gapW w 0 = [32] from rfl]; exact gap_sp cls32
  | 1 => rw [show gapW w 1 = [9] from rfl]; exact gap_sp cls9
  | 2 => rw [show gapW w 2 = [10] from rfl]; exact gap_sp cls10
  | 3 => rw [show gapW w 3 = [13] ++ [10] from rfl]; exact gap_app (gap_sp cls13) (gap_sp cls10)
  | 4 => rw [show gapW w 4 = [32] ++ [32] from rfl]; exact gap_app (gap_sp cls32) (gap_sp cls32)
  | 5 => rw [show gapW w 5 = 47 :: 47 :: w ++ [10] from rfl]; exact gap_cmt h
  | 6 => rw [show gapW w 6 = [32] ++ (47 :: 47 :: [32] ++ [10]) from rfl]; exact gap_app (gap_sp cls32) (gap_cmt fun c hc => by rw [List.mem_singleton.1 hc]; decide)
  | 7 => rw [show gapW w 7 = [10] ++ (47 :: 47 :: [] ++ [10]) from rfl]; exact gap_app (gap_sp cls10) (gap_cmt fun c hc => by simp at hc)
  | k + 8 => rw [show gapW w (k + 8) = [] from rfl]; exact gap_nil
theorem gap_at {w : Str} (h : ∀ c ∈ w, c ≠ 10) (ts : Str) (i : Nat) : Gap (gapAt ts w i) := by
  unfold gapAt
  split
  · exact gap_w h _
  · exact gap_sp cls32
theorem gap_len {w : Str} (hw : w.length ≤ 100) (k : Nat) : (gapW w k).length ≤ 103 := by
  match k with
  | 0 => show 1 ≤ 103; omega
  | 1 => show 1 ≤ 103; omega
  | 2 => show 1 ≤ 103; omega
  | 3 => show 2 ≤ 103; omega
  | 4 => show 2 ≤ 103; omega
  | 5 => show (47 :: 47 :: w ++ [10] : Str).length ≤ 103; simp only [List.length_append, List.length_cons, List.length_nil]; omega
  | 6 => show 5 ≤ 103; omega
  | 7 => show 4 ≤ 103; omega
  | k + 8 => show 0 ≤ 103; omega
theorem gap_at_len {w : Str} (hw : w.length ≤ 100) (ts : Str) (i : Nat) : (gapAt ts w i).length ≤ 103 := by
  unfold gapAt
  split
  · exact gap_len hw _
  · show 1 ≤ 103; omega
/-- The words of a note: no line feeds. -/
theorem note_words (note : Str) (n : Nat) : (∀ c ∈ (note.take n).filter notNl, c ≠ 10) ∧ ((note.take n).filter notNl).length ≤ note.length := by
  refine ⟨fun c hc => ?_, Nat.le_trans (List.length_filter_le _ _) (by rw [List.length_take]; omega)⟩
  have := (List.mem_filter.1 hc).2
  rintro rfl
  exact absurd this (by decide)
/-- What Text says of one token. -/
def tS (t : Tk) : Str := if valid t then word t else []
def tE (t : Tk) : Int := if valid t then 0 else 30
theorem text_one (t : Tk) : textM [t] = .tuple [.str (tS t), .i (tE t)] := by
  cases hv : valid t with
  | true =>
    rw [text_ok (l := [t]) (by simp [hv]), tS, tE, hv]
    simp only [List.map_cons, List.map_nil, Lib.join_one, if_true]
  | false =>
    rw [text_no (l := [t]) (by simp [hv]), tS, tE, hv]
    rfl
theorem tE_ok {t : Tk} (h : (tE t != 0) = false) : valid t = true := by
  unfold tE at h
  split at h
  · assumption
  · cases h
theorem tE_no {t : Tk} (h : (tE t != 0) = true) : valid t = false := by
  unfold tE at h
  split at h
  · cases h
  · rename_i hn; simpa using hn
theorem one_rd' {l : List Tk} {t : Tk} (hl : Rd l) (h : t ∈ l) : Rd [t] := by
  refine ⟨by simp, ?_, fun u hu => ?_⟩
  · have h1 := hl.lens
    have h2 : t.text.length ≤ lens l := by
      have : ∀ l : List Tk, t ∈ l → t.text.length ≤ lens l := by
        intro l
        induction l with
        | nil => intro h; simp at h
        | cons x r ih =>
          intro h
          simp only [lens, List.map_cons, List.sum_cons] at ih ⊢
          rcases List.mem_cons.1 h with rfl | h
          · omega
          · have := ih h; omega
      exact this l h
    simp only [lens, List.map_cons, List.map_nil, List.sum_cons, List.sum_nil]; omega
  · rcases List.mem_cons.1 hu with rfl | hu
    · exact hl.ini _ h
    · simp at hu
/-- What holds while the tokens are written. -/
structure SpI (l : List Tk) (ts w : Str) (i : Nat) (r : List Tk) (s : Str) : Prop where
  eq : s ++ ren (spread (gapAt ts w) i r) = 10 :: ren (spread (gapAt ts w) 0 l)
  all : l.all valid = r.all valid
  len : s.length + lens r + 130 * r.length ≤ 1 + lens l + 130 * l.length
theorem spI_start (l : List Tk) (ts w : Str) : SpI l ts w 0 l [10] := ⟨rfl, rfl, by simp only [List.length_cons, List.length_nil]; omega⟩
theorem spI_next {l r : List Tk} {ts w s : Str} {i : Nat} {t : Tk} (hl : Rd l) (hw : w.length ≤ 100) (ht : t ∈ l) (hI : SpI l ts w i (t :: r) s) (hE : (tE t != 0) = false) : SpI l ts w (i + 1) r (s ++ (tS t ++ [32] ++ gapAt ts w i)) := by
  have hv := tE_ok hE
  have hS : tS t = word t := by rw [tS, hv]; rfl
  obtain ⟨h1, h2, h3⟩ := hI
  refine ⟨?_, ?_, ?_⟩
  · rw [← h1, hS]
    simp only [spread, ren, List.append_assoc, List.cons_append, List.nil_append]
  · rw [h2, List.all_cons, hv, Bool.true_and]
  · have := gap_at_len hw ts i
    have h4 := word_short (hl.ini t ht)
    simp only [lens, List.map_cons, List.sum_cons, List.length_cons] at h3 ⊢
    simp only [hS, List.length_append, List.length_cons, List.length_nil]
    omega
theorem spI_bad {l r : List Tk} {ts w s : Str} {i : Nat} {t : Tk} (hI : SpI l ts w i (t :: r) s) (hE : (tE t != 0) = true) : l.all valid = false := by
  rw [hI.all, List.all_cons, tE_no hE]; rfl
theorem spI_len {l r : List Tk} {ts w s : Str} {i : Nat} (hf : fewM l = true) (hI : SpI l ts w i r s) : s.length ≤ 28001 := by
  have h1 := hI.len
  have := few_is2 hf
  omega
theorem spI_end {l : List Tk} {ts w s : Str} {i : Nat} (hw : ∀ c ∈ w, c ≠ 10) (hI : SpI l ts w i [] s) : lexR pStep s 0 = .ok (place 1 (spread (gapAt ts w) 0 l)) := by
  have e : s = 10 :: ren (spread (gapAt ts w) 0 l) := by
    have := hI.eq
    simpa [spread, ren] using this
  rw [lexR_eq, e, skip_sp cls10, lex_ren _ _ (spread_ok (gap_at hw ts) l 0 hI.all)]
theorem spI_same (l : List Tk) (g : Nat → Str) : sameM l (place 1 (spread g 0 l)) = true := by
  have := same_ren (spread g 0 l) 1
  rw [spread_fst] at this; exact this
theorem idx_ts {k : Bool} {a b i : Nat} {ts : Str} {q : List D → Prop} (h1 : k = true) (h2 : a = b) (h3 : decide ((i : Int) < ((ts.map fun c => [D.u8 c]).length : Int)) = true) (h : q [D.u8 (ts.getD i 0)]) :
    (k = true ∧ a = b) ∧ ∃ c, (0 ≤ (i : Int) ∧ (ts.map fun c => [D.u8 c])[(i : Int).toNat]? = some c) ∧ q c := by
  have h3 := of_decide_eq_true h3
  rw [List.length_map] at h3
  have h4 : i < ts.length := by omega
  refine ⟨⟨h1, h2⟩, _, ⟨by omega, ?_⟩, h⟩
  rw [Int.toNat_natCast, List.getElem?_map, List.getElem?_eq_getElem h4, List.getD_eq_getElem?_getD, List.getElem?_eq_getElem h4]; rfl
def spL (w : Str) : List (List D) := [[.str [32]], [.str [9]], [.str [10]], [.str [13, 10]], [.str [32, 32]], [.str ([47, 47] ++ w ++ [10])], [.str [32, 47, 47, 32, 10]], [.str [10, 47, 47, 10]]]
theorem idx_sp {k : Bool} {a b : Nat} (w : Str) (c : UInt8) {n : Int} {es : List (List D)} {q : List D → Prop} (h1 : k = true) (h2 : a = b) (he : es = spL w) (h3 : n = ((c.toNat % 8 : Nat) : Int)) (h : q [D.str (gapW w (c.toNat % 8))]) :
    (k = true ∧ a = b) ∧ ∃ e, (0 ≤ n ∧ es[n.toNat]? = some e) ∧ q e := by
  subst h3
  subst he
  refine ⟨⟨h1, h2⟩, _, ⟨by omega, ?_⟩, h⟩
  rw [Int.toNat_natCast]
  have hk : c.toNat % 8 < 8 := Nat.mod_lt _ (by decide)
  generalize c.toNat % 8 = k at hk
  match k, hk with
  | 0, _ => rfl
  | 1, _ => rfl
  | 2, _ => rfl
  | 3, _ => rfl
  | 4, _ => rfl
  | 5, _ => rfl
  | 6, _ => rfl
  | 7, _ => rfl
  | k + 8, h => omega
theorem rem_8 {c : UInt8} : (IntKind.i64.wrap (c.toNat : Int)).tmod 8 = ((c.toNat % 8 : Nat) : Int) := by
  have := c.toNat_lt
  rw [wrap_ok (n := (c.toNat : Int)) (by omega) (by omega), Int.tmod_eq_emod_of_nonneg (by omega)]
  omega
theorem tS_len {l : List Tk} {x : Tk} (hl : Rd l) (hx : x ∈ l) : (tS x).length ≤ 1048597 := by
  have h1 := (one_rd' hl hx).lens
  have h2 := word_short (hl.ini x hx)
  simp only [lens, List.map_cons, List.map_nil, List.sum_cons, List.sum_nil] at h1
  unfold tS
  split
  · omega
  · exact Nat.zero_le _
theorem len_1 {l : List Tk} {x : Tk} {b : Str} (hl : Rd l) (hx : x ∈ l) (hb : b.length = 1) : (((tS x).length + b.length : Nat) : Int) ≤ IntKind.i64.max := by
  have := tS_len hl hx
  show (((tS x).length + b.length : Nat) : Int) ≤ 9223372036854775807
  omega
theorem len_2 {l : List Tk} {x : Tk} {b g : Str} (hl : Rd l) (hx : x ∈ l) (hb : b.length = 1) (hg : g.length ≤ 103) : (((tS x ++ b).length + g.length : Nat) : Int) ≤ IntKind.i64.max := by
  have := tS_len hl hx
  rw [List.length_append]
  show (((tS x).length + b.length + g.length : Nat) : Int) ≤ 9223372036854775807
  omega
theorem len_3 {l : List Tk} {x : Tk} {b g s : Str} (hl : Rd l) (hx : x ∈ l) (hs : s.length ≤ 28001) (hb : b.length = 1) (hg : g.length ≤ 103) : ((s.length + (tS x ++ b ++ g).length : Nat) : Int) ≤ IntKind.i64.max := by
  have := tS_len hl hx
  rw [List.length_append, List.length_append]
  show ((s.length + ((tS x).length + b.length + g.length) : Nat) : Int) ≤ 9223372036854775807
  omega
theorem len_4 {b w : Str} (hb : b.length = 2) (hw : w.length ≤ 100) : ((b.length + w.length : Nat) : Int) ≤ IntKind.i64.max := by
  show ((b.length + w.length : Nat) : Int) ≤ 9223372036854775807
  omega
theorem len_5 {b w c : Str} (hb : b.length = 2) (hc : c.length = 1) (hw : w.length ≤ 100) : (((b ++ w).length + c.length : Nat) : Int) ≤ IntKind.i64.max := by
  rw [List.length_append]
  show ((b.length + w.length + c.length : Nat) : Int) ≤ 9223372036854775807
  omega
theorem len_6 {note : Str} {n : Nat} (hl : decide ((n : Int) < (note.length : Int)) = true) (hn : note.length ≤ 100) : ((((note.take n).filter notNl).length + (cut (some (n : Int)) (some ((n + 1 : Nat) : Int)) note).length : Nat) : Int) ≤ IntKind.i64.max := by
  have h1 := (note_words note n).2
  have h2 : (cut (some (n : Int)) (some ((n + 1 : Nat) : Int)) note).length ≤ note.length := by
    show ((note.take (n + 1)).drop n).length ≤ _
    rw [List.length_drop, List.length_take]; omega
  show (((_ : Nat) + _ : Nat) : Int) ≤ 9223372036854775807
  omega
theorem eight_ne : (8 : Int) ≠ 0 := by decide
theorem one_103 : ([32] : Str).length ≤ 103 := by show 1 ≤ 103; omega
theorem sp_no {s x w ts : Str} {i : Nat} (h : decide ((i : Int) < ((ts.map fun c => [D.u8 c]).length : Int)) = false) : AV.data (D.str (s ++ (x ++ [32] ++ [32]))) = AV.data (D.str (s ++ (x ++ [32] ++ gapAt ts w i))) := by
  have h := of_decide_eq_false h
  rw [List.length_map] at h
  rw [gapAt, if_neg (by omega)]
theorem sp_yes {s x w ts : Str} {i : Nat} (h : decide ((i : Int) < ((ts.map fun c => [D.u8 c]).length : Int)) = true) : AV.data (D.str (s ++ (x ++ [32] ++ gapW w ((ts.getD i 0).toNat % 8)))) = AV.data (D.str (s ++ (x ++ [32] ++ gapAt ts w i))) := by
  have h := of_decide_eq_true h
  rw [List.length_map] at h
  rw [gapAt, if_pos (by omega)]
theorem filter_yes {note : Str} {n : Nat} (h : n < note.length) (hc : notNl (note.getD n 0) = true) : (note.take n).filter notNl ++ (note.take (n + 1)).drop n = (note.take (n + 1)).filter notNl := by
  have e : (note.take (n + 1)).drop n = [note.getD n 0] := by
    rw [List.drop_take, Nat.add_sub_cancel_left, drop_cons h]; rfl
  have e2 : note.take (n + 1) = note.take n ++ [note.getD n 0] := by
    rw [List.take_succ_eq_append_getElem h, List.getD_eq_getElem?_getD, List.getElem?_eq_getElem h]; rfl
  rw [e, e2, List.filter_append, List.filter_cons, hc]; rfl
theorem filter_no {note : Str} {n : Nat} (h : n < note.length) (hc : notNl (note.getD n 0) = false) : (note.take n).filter notNl = (note.take (n + 1)).filter notNl := by
  have e2 : note.take (n + 1) = note.take n ++ [note.getD n 0] := by
    rw [List.take_succ_eq_append_getElem h, List.getD_eq_getElem?_getD, List.getElem?_eq_getElem h]; rfl
  rw [e2, List.filter_append, List.filter_cons, hc]; simp
theorem av_yes {note : Str} {n : Nat} (hl : decide ((n : Int) < (note.length : Int)) = true) (hc : (((note.getD n 0).toNat : Int) != 10) = true) : AV.data (D.str ((note.take n).filter notNl ++ cut (some (n : Int)) (some ((n + 1 : Nat) : Int)) note)) = AV.data (D.str ((note.take (n + 1)).filter notNl)) :=
  congrArg (fun z => AV.data (D.str z)) (filter_yes (lt_src hl) hc)
theorem av_no {note : Str} {n : Nat} (hl : decide ((n : Int) < (note.length : Int)) = true) (hc : (((note.getD n 0).toNat : Int) != 10) = false) : AV.data (D.str ((note.take n).filter notNl)) = AV.data (D.str ((note.take (n + 1)).filter notNl)) :=
  congrArg (fun z => AV.data (D.str z)) (filter_no (lt_src hl) hc)
end Go.Fw.Lx
