/- Package ranges in plain words: the walk of a value. -/
import Derived.Test.YtjgponkgifopaaaGreatDoorZRB
set_option linter.unusedSimpArgs false
set_option linter.unusedVariables false
namespace Go.Fw.Rg
open Go.Fw Go.Fw.Ref15
set_option linter.unusedSectionVars false
variable [GlobInt]
theorem wrem {k c : Nat} {b : Bool} (h : (((k : Nat) : Int).tmod 4 == (c : Int)) = b) : (k % 4 == c) = b := by
  rw [Int.tmod_eq_emod_of_nonneg (by omega)] at h
  rw [← h, Bool.eq_iff_iff, beq_iff_eq, beq_iff_eq]; omega
theorem w0 {cl : List Nat} {n : Nat} {lo hi : Int} (h : n < cl.length ∧ lo < hi) (h0 : (((cl.getD n 0 : Nat) : Int).tmod 4 == 0) = true) : lo = withV cl n lo hi := (withV_0 h (by simpa using wrem (c := 0) h0)).symm
theorem w1 {cl : List Nat} {n : Nat} {lo hi : Int} (h : n < cl.length ∧ lo < hi) (h0 : (((cl.getD n 0 : Nat) : Int).tmod 4 == 1) = true) : hi = withV cl n lo hi := (withV_1 h (by simpa using wrem (c := 1) h0)).symm
theorem opV_k {p : Pr} {found : List Sp} {cl : List Nat} {l : List Int} {k i m : Int} {n : Nat} (c : Int) (hk : (k == c) = true) : opV p found cl k i m l n = opV p found cl c i m l n := by
  have : k = c := by simpa using hk
  rw [this]
theorem findL_each {p : Pr} {found : List Sp} : ∀ {l : List Ex} {t : List Sp}, findL p found l = .ok t → ∀ y ∈ l, ∃ s, findM p found y = .ok s
  | x :: r, t, h, y, hy => by
    rw [findL] at h
    cases hx : findM p found x with
    | error e => rw [hx] at h; cases h
    | ok s =>
      rw [hx] at h
      simp only at h
      cases hr : findL p found r with
      | error e => rw [hr] at h; cases h
      | ok u =>
        rcases List.mem_cons.1 hy with rfl | hy
        · exact ⟨s, hx⟩
        · exact findL_each hr y hy
structure VOk (p : Pr) (found : List Sp) (cl : List Nat) (x : Ex) : Prop where
  rng : Rng p
  fok : FOk found
  cho : ∀ k ∈ cl, k < 4294967296
  wf : wfX p found.length x = true
  ok : ∃ s, findM p found x = .ok s
theorem VOk.part {p : Pr} {found : List Sp} {cl : List Nat} {x y : Ex} (h : VOk p found cl x) (hy : y ∈ x.l) : VOk p found cl y := by
  obtain ⟨s, hs⟩ := h.ok
  rw [findM_eq] at hs
  cases hl : findL p found x.l with
  | error e => rw [hl] at hs; cases hs
  | ok t => exact ⟨h.rng, h.fok, h.cho, wfL_mem (wfX_parts h.wf).2.2 y hy, findL_each hl y hy⟩
theorem VOk.inW {p : Pr} {found : List Sp} {cl : List Nat} {x : Ex} (h : VOk p found cl x) (n : Nat) : inW (valM p found cl x n).1 = true := by
  obtain ⟨s, hs⟩ := h.ok
  have h1 := findM_in h.rng h.fok.ins x s h.wf hs
  have h2 := valM_in h.rng h.fok h.cho x s n h.wf hs
  have := inW_iff.1 h1.1; have := inW_iff.1 h1.2
  exact inW_iff.2 (by omega)
structure VEnd (p : Pr) (found : List Sp) (cl : List Nat) (x : Ex) (vs : List Int) (m n : Nat) : Prop where
  eq : valM p found cl x n = opV p found cl x.kind x.index x.n vs m
  len : vs.length = x.l.length
  ivs : ∃ t, findL p found x.l = .ok t ∧ InV vs t
theorem VEnd.inW {p : Pr} {found : List Sp} {cl : List Nat} {x : Ex} {vs : List Int} {m n : Nat} (h : VOk p found cl x) (e : VEnd p found cl x vs m n) (i : Nat) : Rg.inW (vs.getD i 0) = true := by
  obtain ⟨t, ht, hv⟩ := e.ivs
  have hI := findL_in h.rng h.fok.ins (wfX_parts h.wf).2.2 ht
  have h1 := getD_in hI i
  have h2 := hv i
  have := inW_iff.1 h1.1; have := inW_iff.1 h1.2
  exact inW_iff.2 (by omega)
theorem VEnd.res {p : Pr} {found : List Sp} {cl : List Nat} {x : Ex} {vs : List Int} {m n : Nat} (h : VOk p found cl x) (e : VEnd p found cl x vs m n) {v : Int} (c : Int) (hk : (x.kind == c) = true) (hv : (opV p found cl c x.index x.n vs m).1 = v) : Rg.inW v = true := by
  have := h.inW n
  rw [e.eq, opV_k c hk, hv] at this; exact this
theorem VEnd.ahead {p : Pr} {found : List Sp} {cl : List Nat} {x : Ex} {vs : List Int} {m n : Nat} (h : VOk p found cl x) (e : VEnd p found cl x vs m n) (hk : (x.kind == 6) = true ∨ (x.kind == 7) = true) : 0 ≤ vs.getD 0 0 ∧ vs.getD 0 0 ≤ 4096 := by
  obtain ⟨t, ht, hv⟩ := e.ivs
  obtain ⟨s, hs⟩ := h.ok
  rw [findM_eq, ht] at hs
  have h0 := hv 0
  have ha : aheadM (t.getD 0 (0, 0)) = .ok s := by
    rcases hk with hk | hk
    · exact (opM_k 6 hk).symm.trans hs
    · exact (opM_k 7 hk).symm.trans hs
  rw [aheadM] at ha
  split at ha
  · cases ha
  · rename_i hq
    simp only [Bool.or_eq_true, decide_eq_true_eq, not_or] at hq
    omega
theorem VEnd.mul {p : Pr} {found : List Sp} {cl : List Nat} {x : Ex} {vs : List Int} {m n : Nat} (h : VOk p found cl x) (e : VEnd p found cl x vs m n) (hk : (x.kind == 17) = true) : Rg.inW (vs.getD 0 0 * vs.getD 1 0) = true := e.res h 17 hk rfl
end Go.Fw.Rg
namespace Go.Fw.Rg
open Go.Fw Go.Fw.Ref15
set_option linter.unusedSectionVars false
variable [GlobInt]
theorem stm_fok {p : Pr} (hR : Rng p) : ∀ (r : List Sm) (i : Nat) (fs F : List Sp), wfSL p i r = true → fs.length = i → FOk fs → stmtsM p r fs = .ok F → FOk F
  | [], i, fs, F, _, hl, hi, h => by rw [stmtsM] at h; cases h; exact hi
  | s :: r, i, fs, F, hw, hl, hi, h => by
    rw [stmtsM] at h
    cases hf : findM p fs s.x with
    | error e' => rw [hf] at h; cases h
    | ok f =>
      rw [hf] at h
      simp only at h
      have hx : wfX p fs.length s.x = true := by rw [hl]; exact wfSL_x hw
      split at h
      · refine stm_fok hR r (i + 1) (fs ++ [f]) F (wfSL_next hw) (by simp [hl]) ⟨inS_snoc hi.ins (findM_in hR hi.ins _ _ hx hf), fun s hs => ?_⟩ h
        rcases List.mem_append.1 hs with q | q
        · exact hi.ord s q
        · rw [List.mem_singleton.1 q]; exact findM_ord hR hi.sub hx hf
      · cases h
theorem BOk.fok {p : Pr} {F : List Sp} (h : BOk p F) : FOk F := stm_fok h.res.rng p.stmts 0 [] F h.res.wf rfl ⟨fun s hs => by simp at hs, fun s hs => by simp at hs⟩ h.run
theorem intR_ne {p : Pr} {x : Ex} {e : Int} (h : intervalR p x = .error e) : (e != 0) = true := by
  rw [intervalR] at h
  split at h
  · rename_i hq; cases h; exact hq
  · split at h
    · exact find_ne0 h
    · cases h; rfl
structure StAt (p : Pr) (F : List Sp) (i : Nat) (s : Sm) : Prop where
  lt : i < F.length
  run : findM p (F.take i) s.x = .ok (F.getD i (0, 0))
  win : within p s (F.getD i (0, 0)) = true
  wf : wfS p i s = true
  len : (F.take i).length = i
theorem StAt.mem {p : Pr} {F : List Sp} {i : Nat} {s : Sm} (h : StAt p F i s) : F.getD i (0, 0) ∈ F := by
  rw [List.getD_eq_getElem?_getD, List.getElem?_eq_getElem h.lt]; exact List.getElem_mem h.lt
theorem StAt.vok {p : Pr} {F : List Sp} {cl : List Nat} {i : Nat} {s : Sm} (h : BOk p F) (a : StAt p F i s) (hc : ∀ k ∈ cl, k < 4294967296) : VOk p (F.take i) cl s.x := by
  refine ⟨h.res.rng, ⟨fun s hs => h.fok.ins s (List.mem_of_mem_take hs), fun s hs => h.fok.ord s (List.mem_of_mem_take hs)⟩, hc, ?_, _, a.run⟩
  have := a.wf; simp only [wfS, Bool.and_eq_true] at this
  rw [a.len]; exact this.1
theorem StAt.val {p : Pr} {F : List Sp} {cl : List Nat} {i : Nat} {s : Sm} (h : BOk p F) (a : StAt p F i s) (hc : ∀ k ∈ cl, k < 4294967296) (n : Nat) : (F.getD i (0, 0)).1 ≤ (valM p (F.take i) cl s.x n).1 ∧ (valM p (F.take i) cl s.x n).1 ≤ (F.getD i (0, 0)).2 := by
  have v := a.vok (cl := cl) h hc
  exact valM_in v.rng v.fok hc s.x _ n v.wf a.run
end Go.Fw.Rg
