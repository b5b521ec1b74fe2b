/- Package ranges in plain words: the walk of a value. -/
import Derived.Test.YtjgponkgifopaaaGreatDoorZRB
set_option linter.unusedSimpArgs false
set_option linter.unusedVariables false
namespace Go.Fw.Rg
open Go.Fw Go.Fw.Ref15
set_option linter.unusedSectionVars false
variable [GlobInt]
theorem wstop {cl : List Nat} {n : Nat} {lo hi : Int} (h : (bif decide ((n : Int) ≥ ((cl.map u32C).length : Int)) then true else decide (hi ≤ lo)) = true) : withV cl n lo hi = lo ∧ withN cl n lo hi = n := by rw [List.length_map] at h; exact withV_stop h
theorem wgo {cl : List Nat} {n : Nat} {lo hi : Int} (h : (bif decide ((n : Int) ≥ ((cl.map u32C).length : Int)) then true else decide (hi ≤ lo)) = false) : n < cl.length ∧ lo < hi := by rw [List.length_map] at h; exact with_go h
theorem wrem {k c : Nat} {b : Bool} (h : (((k : Nat) : Int).tmod 4 == (c : Int)) = b) : (k % 4 == c) = b := by
  rw [Int.tmod_eq_emod_of_nonneg (by omega)] at h
  rw [← h, Bool.eq_iff_iff, beq_iff_eq, beq_iff_eq]; omega
theorem w0 {cl : List Nat} {n : Nat} {lo hi : Int} (h : n < cl.length ∧ lo < hi) (h0 : (((cl.getD n 0 : Nat) : Int).tmod 4 == 0) = true) : lo = withV cl n lo hi := (withV_0 h (by simpa using wrem (c := 0) h0)).symm
theorem w1 {cl : List Nat} {n : Nat} {lo hi : Int} (h : n < cl.length ∧ lo < hi) (h0 : (((cl.getD n 0 : Nat) : Int).tmod 4 == 1) = true) : hi = withV cl n lo hi := (withV_1 h (by simpa using wrem (c := 1) h0)).symm
theorem wnx {cl : List Nat} {n : Nat} {lo hi : Int} (hl : cl.length ≤ 1073741824) (h : n < cl.length ∧ lo < hi) : IntKind.i64.wrap ((n : Int) + 1) = ((withN cl n lo hi : Nat) : Int) := by
  rw [withN_go h, wrap_ok (by omega) (by omega)]; omega
theorem wkn {cl : List Nat} {n : Nat} (hc : ∀ k ∈ cl, k < 4294967296) : cl.getD n 0 < 4294967296 := by
  rw [List.getD_eq_getElem?_getD]
  cases h : cl[n]? with
  | none => decide
  | some k => exact hc k (List.mem_of_getElem? h)
theorem wlast {cl : List Nat} {n : Nat} {lo hi : Int} (hc : ∀ k ∈ cl, k < 4294967296) (h1 : inW lo = true) (h2 : inW hi = true) (h : n < cl.length ∧ lo < hi) (h0 : (((cl.getD n 0 : Nat) : Int).tmod 4 == 0) = false) (h3 : (((cl.getD n 0 : Nat) : Int).tmod 4 == 1) = false) : IntKind.i64.wrap (lo + (IntKind.i64.wrap ((cl.getD n 0 : Nat) : Int)).tmod (wminC lo hi)) = withV cl n lo hi := by
  have hs := with_step (k := cl.getD n 0) h1 h2 h.2 (wkn hc)
  have hk := wkn (n := n) hc
  have := inW_iff.1 h1; have := inW_iff.1 h2
  rw [wrap_ok (n := ((cl.getD n 0 : Nat) : Int)) (by omega) (by omega), wrap_ok (by omega) (by omega), withV_2 h (by simpa using wrem (c := 0) h0) (by simpa using wrem (c := 1) h3)]
def preV (a : List Int) (r : List Int × Nat) : List Int × Nat := (a ++ r.1, r.2)
theorem preV_next {p : Pr} {found : List Sp} {cl : List Nat} {a : List Int} {x : Ex} {r : List Ex} {n : Nat} : preV a (valL p found cl (x :: r) n) = preV (a ++ [(valM p found cl x n).1]) (valL p found cl r (valM p found cl x n).2) := by
  rw [valL]; simp [preV]
theorem preV_end {p : Pr} {found : List Sp} {cl : List Nat} {x : Ex} {vs : List Int} {m n : Nat} (h : preV vs (valL p found cl [] m) = valL p found cl x.l n) : valM p found cl x n = opV p found cl x.kind x.index x.n vs m := by
  rw [valM_eq, ← h, valL]; simp [preV]
theorem opV_k {p : Pr} {found : List Sp} {cl : List Nat} {l : List Int} {k i m : Int} {n : Nat} (c : Int) (hk : (k == c) = true) : opV p found cl k i m l n = opV p found cl c i m l n := by
  have : k = c := by simpa using hk
  rw [this]
theorem findL_each {p : Pr} {found : List Sp} : ∀ {l : List Ex} {t : List Sp}, findL p found l = .ok t → ∀ y ∈ l, ∃ s, findM p found y = .ok s
  | x :: r, t, h, y, hy => by
    rw [findL] at h
    cases hx : findM p found x with
    | error e => rw [hx] at h; cases h
    | ok s =>
      rw [hx] at h
      simp only at h
      cases hr : findL p found r with
      | error e => rw [hr] at h; cases h
      | ok u =>
        rcases List.mem_cons.1 hy with rfl | hy
        · exact ⟨s, hx⟩
        · exact findL_each hr y hy
structure VOk (p : Pr) (found : List Sp) (cl : List Nat) (x : Ex) : Prop where
  rng : Rng p
  fok : FOk found
  cho : ∀ k ∈ cl, k < 4294967296
  wf : wfX p found.length x = true
  ok : ∃ s, findM p found x = .ok s
theorem VOk.part {p : Pr} {found : List Sp} {cl : List Nat} {x y : Ex} (h : VOk p found cl x) (hy : y ∈ x.l) : VOk p found cl y := by
  obtain ⟨s, hs⟩ := h.ok
  rw [findM_eq] at hs
  cases hl : findL p found x.l with
  | error e => rw [hl] at hs; cases hs
  | ok t => exact ⟨h.rng, h.fok, h.cho, wfL_mem (wfX_parts h.wf).2.2 y hy, findL_each hl y hy⟩
theorem VOk.inW {p : Pr} {found : List Sp} {cl : List Nat} {x : Ex} (h : VOk p found cl x) (n : Nat) : inW (valM p found cl x n).1 = true := by
  obtain ⟨s, hs⟩ := h.ok
  have h1 := findM_in h.rng h.fok.ins x s h.wf hs
  have h2 := valM_in h.rng h.fok h.cho x s n h.wf hs
  have := inW_iff.1 h1.1; have := inW_iff.1 h1.2
  exact inW_iff.2 (by omega)
theorem val_fin {v w : Int} (hw : inW w = true) (h : v = w) : D.tuple [.i v, .b (bif decide (v ≥ -4611686018427387904) then decide (v ≤ 4611686018427387904) else false)] = D.tuple [.i w, .b true] := by
  subst h
  have := inW_iff.1 hw
  rw [decide_eq_true (show v ≥ -4611686018427387904 by omega), decide_eq_true (show v ≤ 4611686018427387904 by omega)]; rfl
theorem par_in {p : Pr} {n : Nat} {k i m : Int} (hR : Rng p) (h : ownW p n k i m = true) (hk : (k == 3) = true) : Rg.inW (paramAt p i).lo = true ∧ Rg.inW (paramAt p i).hi = true := by
  have hq := own_k3 h hk
  have : -2147483648 ≤ (paramAt p i).lo ∧ (paramAt p i).lo ≤ (paramAt p i).hi ∧ (paramAt p i).hi ≤ 2147483647 := hR.par _ (getD_mem' Bd.none hq.1 hq.2)
  exact ⟨small_in (by omega) (by omega), small_in (by omega) (by omega)⟩
theorem sta_in {p : Pr} {n : Nat} {k i m : Int} (hR : Rng p) (h : ownW p n k i m = true) (hk : (k == 4) = true) : Rg.inW (stateAt p i).lo = true ∧ Rg.inW (stateAt p i).hi = true := by
  have hq := own_k4 h hk
  have : -2147483648 ≤ (stateAt p i).lo ∧ (stateAt p i).lo ≤ (stateAt p i).hi ∧ (stateAt p i).hi ≤ 2147483647 := hR.sta _ (getD_mem' Bd.none hq.1 hq.2)
  exact ⟨small_in (by omega) (by omega), small_in (by omega) (by omega)⟩
theorem lin_in {p : Pr} {n : Nat} {k i m : Int} (hR : Rng p) (h : ownW p n k i m = true) (hk : (k == 8) = true) : Rg.inW (lineAt p i).lo = true ∧ Rg.inW (lineAt p i).hi = true := by
  have hq := own_k8 h hk
  have : -2147483648 ≤ (lineAt p i).lo ∧ (lineAt p i).lo ≤ (lineAt p i).hi ∧ (lineAt p i).hi ≤ 2147483647 := hR.lin _ (getD_mem' Ln.none hq.1 hq.2)
  exact ⟨small_in (by omega) (by omega), small_in (by omega) (by omega)⟩
theorem fnd_in {p : Pr} {found : List Sp} {k i m : Int} (hF : FOk found) (h : ownW p found.length k i m = true) (hk : (k == 5) = true) : Rg.inW (found.getD i.toNat (0, 0)).1 = true ∧ Rg.inW (found.getD i.toNat (0, 0)).2 = true := by
  have hq := own_k5 h hk
  exact hF.ins _ (getD_mem' ((0, 0) : Sp) hq.1 hq.2)
theorem let_no {p : Pr} {found : List Sp} {k i m : Int} (h : ownW p found.length k i m = true) (hk : (k == 5) = true) (hc : decide (i ≥ ((found.map Sp.cs).length : Int)) = true) : False := by
  have hq := own_k5 h hk
  have := of_decide_eq_true hc
  rw [List.length_map] at this; omega
theorem clamp_ok {l : List Int} {v : Int} (h : 0 < l.length) (hl : l.length ≤ 9223372036854775807) : mm2 true 0 (mm2 false v (IntKind.i64.wrap (((l.map intC).length : Int) - 1))) = clampI l.length v := by
  rw [List.length_map, wrap_ok (by omega) (by omega)]; rfl
theorem clamp_lt {l : List Int} {v : Int} (h : 0 < l.length) : 0 ≤ clampI l.length v ∧ clampI l.length v < l.length := by
  simp only [clampI, mm2]; (repeat' split) <;> omega
theorem tap_t {v w : Int} (h : (w == 5) = true) : 0 = tapV v w := by simp only [tapV, h, if_true]
theorem tap_f {v w : Int} (h : (w == 5) = false) : v = tapV v w := by simp only [tapV, h, Bool.false_eq_true, if_false]
theorem lt_t {a b c d : Int} (h : decide (a < b) = true) : c = if a < b then c else d := (if_pos (of_decide_eq_true h)).symm
theorem lt_f {a b c d : Int} (h : decide (a < b) = false) : d = if a < b then c else d := (if_neg (of_decide_eq_false h)).symm
theorem ne_of {a : Int} (h : wantB (a != 0) true = true) : a ≠ 0 := by
  have h : (a != 0) = true := h
  simpa using h
structure VEnd (p : Pr) (found : List Sp) (cl : List Nat) (x : Ex) (vs : List Int) (m n : Nat) : Prop where
  eq : valM p found cl x n = opV p found cl x.kind x.index x.n vs m
  len : vs.length = x.l.length
  ivs : ∃ t, findL p found x.l = .ok t ∧ InV vs t
theorem vend_of {p : Pr} {found : List Sp} {cl : List Nat} {x : Ex} {vs : List Int} {m n : Nat} (h : VOk p found cl x) (he : preV vs (valL p found cl [] m) = valL p found cl x.l n) : VEnd p found cl x vs m n := by
  have e : vs = (valL p found cl x.l n).1 := by rw [← he, valL]; simp [preV]
  obtain ⟨s, hs⟩ := h.ok
  rw [findM_eq] at hs
  cases hl : findL p found x.l with
  | error e => rw [hl] at hs; cases hs
  | ok t =>
    have hi := valL_in h.rng h.fok h.cho x.l t n (wfX_parts h.wf).2.2 hl
    refine ⟨preV_end he, ?_, t, hl, by rw [e]; exact hi⟩
    rw [e]
    have : ∀ (l : List Ex) (n : Nat), (valL p found cl l n).1.length = l.length := by
      intro l
      induction l with
      | nil => intro n; rw [valL]; rfl
      | cons y r ih => intro n; rw [valL]; simp only [List.length_cons, ih]
    exact this _ _
theorem VEnd.inW {p : Pr} {found : List Sp} {cl : List Nat} {x : Ex} {vs : List Int} {m n : Nat} (h : VOk p found cl x) (e : VEnd p found cl x vs m n) (i : Nat) : Rg.inW (vs.getD i 0) = true := by
  obtain ⟨t, ht, hv⟩ := e.ivs
  have hI := findL_in h.rng h.fok.ins (wfX_parts h.wf).2.2 ht
  have h1 := getD_in hI i
  have h2 := hv i
  have := inW_iff.1 h1.1; have := inW_iff.1 h1.2
  exact inW_iff.2 (by omega)
theorem VEnd.res {p : Pr} {found : List Sp} {cl : List Nat} {x : Ex} {vs : List Int} {m n : Nat} (h : VOk p found cl x) (e : VEnd p found cl x vs m n) {v : Int} (c : Int) (hk : (x.kind == c) = true) (hv : (opV p found cl c x.index x.n vs m).1 = v) : Rg.inW v = true := by
  have := h.inW n
  rw [e.eq, opV_k c hk, hv] at this; exact this
theorem VEnd.ahead {p : Pr} {found : List Sp} {cl : List Nat} {x : Ex} {vs : List Int} {m n : Nat} (h : VOk p found cl x) (e : VEnd p found cl x vs m n) (hk : (x.kind == 6) = true ∨ (x.kind == 7) = true) : 0 ≤ vs.getD 0 0 ∧ vs.getD 0 0 ≤ 4096 := by
  obtain ⟨t, ht, hv⟩ := e.ivs
  obtain ⟨s, hs⟩ := h.ok
  rw [findM_eq, ht] at hs
  have h0 := hv 0
  have ha : aheadM (t.getD 0 (0, 0)) = .ok s := by
    rcases hk with hk | hk
    · exact (opM_k 6 hk).symm.trans hs
    · exact (opM_k 7 hk).symm.trans hs
  rw [aheadM] at ha
  split at ha
  · cases ha
  · rename_i hq
    simp only [Bool.or_eq_true, decide_eq_true_eq, not_or] at hq
    omega
theorem VEnd.ahead_no {p : Pr} {found : List Sp} {cl : List Nat} {x : Ex} {vs : List Int} {m n : Nat} (h : VOk p found cl x) (e : VEnd p found cl x vs m n) (hk : (x.kind == 6) = true ∨ (x.kind == 7) = true) (hc : (bif decide (vs.getD 0 0 < 0) then true else decide (vs.getD 0 0 > 4096)) = true) : False := by
  have := e.ahead h hk
  rw [bif_or, Bool.or_eq_true, decide_eq_true_eq, decide_eq_true_eq] at hc; omega
theorem VEnd.mul_no {p : Pr} {found : List Sp} {cl : List Nat} {x : Ex} {vs : List Int} {m n : Nat} (h : VOk p found cl x) (e : VEnd p found cl x vs m n) (hk : (x.kind == 17) = true) (hc : (bif vs.getD 0 0 != 0 then mulO (vs.getD 1 0) (vs.getD 0 0) else false) = true) : False := by
  have hm := e.res (v := vs.getD 0 0 * vs.getD 1 0) h 17 hk rfl
  obtain ⟨h0, h1⟩ := bif_t hc
  rw [mulO_eq (e.inW h 1) (e.inW h 0) (by simpa using h0), Int.mul_comm, hm] at h1
  exact Bool.noConfusion h1
theorem VEnd.mul {p : Pr} {found : List Sp} {cl : List Nat} {x : Ex} {vs : List Int} {m n : Nat} (h : VOk p found cl x) (e : VEnd p found cl x vs m n) (hk : (x.kind == 17) = true) : Rg.inW (vs.getD 0 0 * vs.getD 1 0) = true := e.res h 17 hk rfl
end Go.Fw.Rg
namespace Go.Fw.Rg
open Go.Fw Go.Fw.Ref15
set_option linter.unusedSectionVars false
variable [GlobInt]
theorem stm_fok {p : Pr} (hR : Rng p) : ∀ (r : List Sm) (i : Nat) (fs F : List Sp), wfSL p i r = true → fs.length = i → FOk fs → stmtsM p r fs = .ok F → FOk F
  | [], i, fs, F, _, hl, hi, h => by rw [stmtsM] at h; cases h; exact hi
  | s :: r, i, fs, F, hw, hl, hi, h => by
    rw [stmtsM] at h
    cases hf : findM p fs s.x with
    | error e' => rw [hf] at h; cases h
    | ok f =>
      rw [hf] at h
      simp only at h
      have hx : wfX p fs.length s.x = true := by rw [hl]; exact wfSL_x hw
      split at h
      · refine stm_fok hR r (i + 1) (fs ++ [f]) F (wfSL_next hw) (by simp [hl]) ⟨inS_snoc hi.ins (findM_in hR hi.ins _ _ hx hf), fun s hs => ?_⟩ h
        rcases List.mem_append.1 hs with q | q
        · exact hi.ord s q
        · rw [List.mem_singleton.1 q]; exact findM_ord hR hi.sub hx hf
      · cases h
theorem BOk.fok {p : Pr} {F : List Sp} (h : BOk p F) : FOk F := stm_fok h.res.rng p.stmts 0 [] F h.res.wf rfl ⟨fun s hs => by simp at hs, fun s hs => by simp at hs⟩ h.run
theorem let_bad {F : List Sp} {s : Sp} (hF : FOk F) (hm : s ∈ F) (h : (bif (bif decide (s.1 > s.2) then true else decide (s.1 < -4611686018427387904)) then true else decide (s.2 > 4611686018427387904)) = true) : False := by
  have h1 := hF.ord s hm
  have h2 := inW_iff.1 (hF.ins s hm).1
  have h3 := inW_iff.1 (hF.ins s hm).2
  simp only [bif_or, Bool.or_eq_true, decide_eq_true_eq] at h; omega
theorem sound_no {a : Bool} {m n e : Int} (he : e = 0) (ha : a = true) (hmn : m = n) (h : (bif (bif (bif e != 0 then true else !a) then true else (0 : Int) != 0) then true else m != n) = true) : False := by
  subst he ha hmn; simp at h
theorem each_no {m n : Int} (hmn : m = n) (h : (bif (0 : Int) != 0 then true else m != n) = true) : False := by
  subst hmn; simp at h
theorem each_e {a b : Bool} {e : Int} (he : (e != 0) = true) (h : (bif (bif a then true else b) then true else e != 0) = false) : False := by rw [he] at h; cases a <;> cases b <;> exact Bool.noConfusion h
theorem lens_eq {p : Pr} {F : List Sp} (h : BOk p F) : ((F.map Sp.cs).length : Int) = ((p.stmts.map Sm.cs).length : Int) := by rw [List.length_map, List.length_map, h.len]
theorem intR_ne {p : Pr} {x : Ex} {e : Int} (h : intervalR p x = .error e) : (e != 0) = true := by
  rw [intervalR] at h
  split at h
  · rename_i hq; cases h; exact hq
  · split at h
    · exact find_ne0 h
    · cases h; rfl
theorem intR_ok {p : Pr} {x : Ex} {s : Sp} (h : intervalR p x = .ok s) : (boundsR p).2 = 0 ∧ fitsB p x = true ∧ findM p (boundsR p).1 x = .ok s := by
  rw [intervalR] at h
  split at h
  · cases h
  · rename_i hq
    split at h
    · rename_i hf; exact ⟨by simpa using hq, hf, h⟩
    · cases h
theorem bok_vok {p : Pr} {F : List Sp} {cl : List Nat} {x : Ex} {s : Sp} (h : BOk p F) (hc : ∀ k ∈ cl, k < 4294967296) (hx : fitsB p x = true) (hs : findM p F x = .ok s) : VOk p F cl x := ⟨h.res.rng, h.fok, hc, bok_wf h hx, s, hs⟩
theorem val_btw {v : Int} {s : Sp} (h : s.1 ≤ v ∧ v ≤ s.2) : (bif (bif true then decide (s.1 ≤ v) else false) then decide (v ≤ s.2) else false) = true := by
  rw [decide_eq_true h.1, decide_eq_true h.2]; rfl
theorem cut_take (F : List Sp) (i : Nat) : cut none (some (i : Int)) (F.map Sp.cs) = (F.take i).map Sp.cs := by
  simp [cut, List.map_take]
theorem stm_pre {p : Pr} : ∀ (r : List Sm) (fs F : List Sp), stmtsM p r fs = .ok F → ∃ t, F = fs ++ t
  | [], fs, F, h => by rw [stmtsM] at h; cases h; exact ⟨[], by simp⟩
  | s :: r, fs, F, h => by
    rw [stmtsM] at h
    cases hf : findM p fs s.x with
    | error e' => rw [hf] at h; cases h
    | ok f =>
      rw [hf] at h
      simp only at h
      split at h
      · obtain ⟨t, rfl⟩ := stm_pre r _ F h; exact ⟨f :: t, by simp⟩
      · cases h
theorem stm_reach {p : Pr} {F : List Sp} (h : stmtsM p p.stmts [] = .ok F) : ∀ i, i ≤ p.stmts.length → stmtsM p (p.stmts.drop i) (F.take i) = .ok F ∧ (F.take i).length = i
  | 0, _ => by simpa using h
  | i + 1, hi => by
    obtain ⟨h1, h2⟩ := stm_reach h i (by omega)
    have hd : p.stmts.drop i = p.stmts[i] :: p.stmts.drop (i + 1) := List.drop_eq_getElem_cons (by omega)
    rw [hd, stmtsM] at h1
    cases hf : findM p (F.take i) p.stmts[i].x with
    | error e' => rw [hf] at h1; cases h1
    | ok f =>
      rw [hf] at h1
      simp only at h1
      split at h1
      · obtain ⟨t, ht⟩ := stm_pre _ _ _ h1
        have e : F.take (i + 1) = F.take i ++ [f] := by
          have : F.take (i + 1) = (F.take i ++ [f] ++ t).take (i + 1) := by rw [← ht]
          rw [this, List.take_append_of_le_length (by simp [h2])]
          exact List.take_of_length_le (by simp [h2])
        rw [e]; exact ⟨h1, by simp [h2]⟩
      · cases h1
theorem wfSL_drop {p : Pr} : ∀ (r : List Sm) (k i : Nat), wfSL p k r = true → wfSL p (k + i) (r.drop i) = true
  | r, k, 0, h => by simpa using h
  | [], k, i + 1, _ => by simp [wfSL]
  | s :: r, k, i + 1, h => by
    have := wfSL_drop r (k + 1) i (wfSL_next h)
    rw [show k + 1 + i = k + (i + 1) by omega] at this
    simpa using this
structure StAt (p : Pr) (F : List Sp) (i : Nat) (s : Sm) : Prop where
  lt : i < F.length
  run : findM p (F.take i) s.x = .ok (F.getD i (0, 0))
  win : within p s (F.getD i (0, 0)) = true
  wf : wfS p i s = true
  len : (F.take i).length = i
theorem st_at {p : Pr} {F : List Sp} {i : Nat} {s : Sm} {r : List Sm} (h : BOk p F) (hd : p.stmts.drop i = s :: r) : StAt p F i s := by
  have hi : i < p.stmts.length := by
    by_cases hq : i < p.stmts.length
    · exact hq
    · rw [List.drop_eq_nil_iff.2 (by omega)] at hd; cases hd
  obtain ⟨h1, h2⟩ := stm_reach h.run i (by omega)
  have hw := wfSL_drop p.stmts 0 i h.res.wf
  rw [hd, Nat.zero_add] at hw
  rw [hd, stmtsM] at h1
  cases hf : findM p (F.take i) s.x with
  | error e' => rw [hf] at h1; cases h1
  | ok f =>
    rw [hf] at h1
    simp only at h1
    split at h1
    · rename_i hwi
      obtain ⟨t, ht⟩ := stm_pre _ _ _ h1
      have hl : i < F.length := by rw [h.len]; exact hi
      have e : F.getD i (0, 0) = f := by
        rw [List.getD_eq_getElem?_getD]
        have : F[i]? = some f := by
          rw [ht, List.append_assoc, List.getElem?_append_right (by omega), h2]; simp
        rw [this]; rfl
      refine ⟨hl, by rw [e]; exact hf, by rw [e]; exact hwi, ?_, h2⟩
      simp only [wfSL, Bool.and_eq_true] at hw; exact hw.1
    · cases h1
theorem StAt.mem {p : Pr} {F : List Sp} {i : Nat} {s : Sm} (h : StAt p F i s) : F.getD i (0, 0) ∈ F := by
  rw [List.getD_eq_getElem?_getD, List.getElem?_eq_getElem h.lt]; exact List.getElem_mem h.lt
theorem StAt.vok {p : Pr} {F : List Sp} {cl : List Nat} {i : Nat} {s : Sm} (h : BOk p F) (a : StAt p F i s) (hc : ∀ k ∈ cl, k < 4294967296) : VOk p (F.take i) cl s.x := by
  refine ⟨h.res.rng, ⟨fun s hs => h.fok.ins s (List.mem_of_mem_take hs), fun s hs => h.fok.ord s (List.mem_of_mem_take hs)⟩, hc, ?_, _, a.run⟩
  have := a.wf; simp only [wfS, Bool.and_eq_true] at this
  rw [a.len]; exact this.1
theorem StAt.val {p : Pr} {F : List Sp} {cl : List Nat} {i : Nat} {s : Sm} (h : BOk p F) (a : StAt p F i s) (hc : ∀ k ∈ cl, k < 4294967296) (n : Nat) : (F.getD i (0, 0)).1 ≤ (valM p (F.take i) cl s.x n).1 ∧ (valM p (F.take i) cl s.x n).1 ≤ (F.getD i (0, 0)).2 := by
  have v := a.vok (cl := cl) h hc
  exact valM_in v.rng v.fok hc s.x _ n v.wf a.run
theorem val_no {v : Int} {s : Sp} (h : s.1 ≤ v ∧ v ≤ s.2) (hc : (bif (bif !true then true else decide (v < s.1)) then true else decide (v > s.2)) = true) : False := by
  simp only [bif_or, Bool.not_true, Bool.false_or, Bool.or_eq_true, decide_eq_true_eq] at hc; omega
theorem win_2 {p : Pr} {s : Sm} {f : Sp} (h : within p s f = true) (hk : (s.kind == 2) = true) (hc : (!(bif decide ((stateAt p s.index).lo ≤ f.1) then decide (f.2 ≤ (stateAt p s.index).hi) else false)) = true) : False := by
  rw [within, bnd2 hk, Bool.and_eq_true, decide_eq_true_eq, decide_eq_true_eq] at h
  rw [decide_eq_true (show (stateAt p s.index).lo ≤ f.1 by omega), decide_eq_true (show f.2 ≤ (stateAt p s.index).hi by omega)] at hc
  exact Bool.noConfusion hc
theorem win_3 {p : Pr} {s : Sm} {f : Sp} (h : within p s f = true) (h2 : (s.kind == 2) = false) (hk : (s.kind == 3) = true) (hc : (!(bif decide ((lineAt p s.index).lo ≤ f.1) then decide (f.2 ≤ (lineAt p s.index).hi) else false)) = true) : False := by
  rw [within, bnd3 h2 hk, Bool.and_eq_true, decide_eq_true_eq, decide_eq_true_eq] at h
  rw [decide_eq_true (show (lineAt p s.index).lo ≤ f.1 by omega), decide_eq_true (show f.2 ≤ (lineAt p s.index).hi by omega)] at hc
  exact Bool.noConfusion hc
theorem win_4 {p : Pr} {s : Sm} {f : Sp} (h : within p s f = true) (h2 : (s.kind == 2) = false) (h3 : (s.kind == 3) = false) (hk : (s.kind == 4) = true) (hc : (!(bif decide (-2147483648 ≤ f.1) then decide (f.2 ≤ 2147483647) else false)) = true) : False := by
  rw [within, bnd4 h2 h3 hk, Bool.and_eq_true, decide_eq_true_eq, decide_eq_true_eq] at h
  rw [decide_eq_true (show -2147483648 ≤ f.1 by omega), decide_eq_true (show f.2 ≤ 2147483647 by omega)] at hc
  exact Bool.noConfusion hc
end Go.Fw.Rg
