/- The law functions of names, as plain functions. -/
import Derived.Test.YtgilgdfmohmbdaaZD
set_option linter.unusedSimpArgs false
set_option linter.unusedVariables false
namespace Go.Fw.Nam
set_option linter.unusedSectionVars false
variable [GlobInt]
open Ref15
def addP (p : Pr) (n : Str) : Pr := { p with params := p.params ++ [⟨n, 0, 0⟩] }
def addS (p : Pr) (n : Str) : Pr := { p with states := p.states ++ [⟨n, 0, 0⟩] }
def addL (p : Pr) (n : Str) : Pr := { p with lines := p.lines ++ [⟨n, 1, 0, 0⟩] }
def addT (p : Pr) (n : Str) : Pr := { p with tables := p.tables ++ [⟨n, [0]⟩] }
def twiceM (e n : Int) : Bool := if decide (n > 16) then e == 2 else e == 151
def nameAt (p : Pr) (k : Int) : Str := (Declared p).getD ((IntKind.i64.wrap k).tmod (Declared p).length).toNat []
def lawTwice (p : Pr) (k : Int) : Bool :=
  if !Few p then true
  else if (resolveC p).2 != 0 || (((Declared p).map strC).length : Int) == 0 then true
  else twiceM (resolveC (addP p (nameAt p k))).2 (addP p (nameAt p k)).params.length && (twiceM (resolveC (addS p (nameAt p k))).2 (addS p (nameAt p k)).states.length &&
    (twiceM (resolveC (addL p (nameAt p k))).2 (addL p (nameAt p k)).lines.length && twiceM (resolveC (addT p (nameAt p k))).2 (addT p (nameAt p k)).tables.length))
theorem lawTwice_no {p : Pr} {k : Int} (hF : (!Few p) = true) : lawTwice p k = true := by simp only [lawTwice, hF, if_true]
theorem lawTwice_tt {p : Pr} {k : Int} (hF : (!Few p) = false) (h : (bif (resolveC p).2 != 0 then true else (((Declared p).map strC).length : Int) == 0) = true) : lawTwice p k = true := by
  rw [Bool.cond_true_left] at h
  simp only [lawTwice, hF, h, if_true, Bool.false_eq_true, if_false]
theorem lawTwice_eq {p : Pr} {k : Int} (hF : (!Few p) = false) (h : (bif (resolveC p).2 != 0 then true else (((Declared p).map strC).length : Int) == 0) = false) : lawTwice p k = (twiceM (resolveC (addP p (nameAt p k))).2 (addP p (nameAt p k)).params.length && (twiceM (resolveC (addS p (nameAt p k))).2 (addS p (nameAt p k)).states.length &&
    (twiceM (resolveC (addL p (nameAt p k))).2 (addL p (nameAt p k)).lines.length && twiceM (resolveC (addT p (nameAt p k))).2 (addT p (nameAt p k)).tables.length))) := by
  rw [Bool.cond_true_left] at h
  simp only [lawTwice, hF, h, Bool.false_eq_true, if_false]
theorem name_idx {p : Pr} {k : Int} (h0 : 0 ≤ k) (h1 : k ≤ 255) (hl : ¬ (((Declared p).map strC).length : Int) = 0) :
    0 ≤ (IntKind.i64.wrap k).tmod (((Declared p).map strC).length : Int) ∧ ((Declared p).map strC)[((IntKind.i64.wrap k).tmod (((Declared p).map strC).length : Int)).toNat]? = some (strC (nameAt p k)) := by
  rw [wrap_ok (by omega) (by omega)]
  have hl' : 0 < (Declared p).length := by simp only [List.length_map] at hl; omega
  have a := Int.tmod_nonneg ((Declared p).length : Int) h0
  have b := Int.tmod_lt_of_pos k (show (0 : Int) < (Declared p).length by omega)
  refine ⟨by simpa using a, ?_⟩
  simp only [List.length_map, List.getElem?_map, nameAt]
  rw [wrap_ok (by omega) (by omega)]
  have c : (k.tmod ((Declared p).length : Int)).toNat < (Declared p).length := by omega
  rw [List.getElem?_eq_getElem c, List.getD_eq_getElem?_getD, List.getElem?_eq_getElem c]; rfl
theorem small_add {p : Pr} (h1 : p.params.length ≤ 1048576) (h2 : p.states.length ≤ 1048576) (h3 : p.lines.length ≤ 1048576) (h4 : p.tables.length ≤ 1048576) (h5 : p.stmts.length ≤ 1048576) (n : Str) : (addP p n).Small ∧ (addS p n).Small ∧ (addL p n).Small ∧ (addT p n).Small := by
  refine ⟨?_, ?_, ?_, ?_⟩ <;> constructor <;> simp [addP, addS, addL, addT] <;> omega
end Go.Fw.Nam
