/- Contracts of the library, from the kit's shelf, in this framework's words: what needs no program. -/
import Derived.Shelf.Spec.SlicesGrow
import Derived.Shelf.Strings.Search3
import Derived.Shelf.Small.Strs
import Derived.Shelf.SlGeneric
import Derived.Test.YtcfpghieofhfkaaProg
import Derived.Test.YtcfpghieofhfkaaZKA
set_option linter.unusedSimpArgs false
set_option linter.unusedVariables false
namespace Go.Fw
open Go.Shelf Go.Proofs
set_option linter.unusedSectionVars false
variable [GlobInt]
theorem args2 {args : Array Value} {a b : Value} (hl : args.size = 2) (h0 : args.getD 0 undef = a) (h1 : args.getD 1 undef = b) : args = #[a, b] := by
  obtain ⟨l⟩ := args
  match l, hl with
  | [x, y], _ => simp at h0 h1; subst h0; subst h1; rfl
theorem zeroCells_size (cs : Array Value) (n : Nat) : (Builtin.zeroCells cs n).size = n * cs.size := by
  simp [Builtin.zeroCells]
theorem grow_of {P : Program} {T : Tbl} (hT : TblOk P T) {ρ : Ren} (L : Lays8.n4 P ρ) (he : FnEnters P (ρ.f 4)) (hy : ρ.f 4 ≠ yldF) {sz sz' : Nat} (hk : T.known (ρ.t 25) = true) (hz : (T.at (ρ.t 25)).zero ≠ []) (hs : (T.at (ρ.t 25)).size = sz) (h0 : 0 < sz)
    (hzs : (T.at (ρ.t 25)).zero.length = sz) (n : Nat) (hn : n * (T.at (ρ.t 25)).bytes ≤ 140737488355328) (hn2 : n ≤ 4611686018427387904) :
    LCall P (ρ.f 4) [.nilsl sz', .data (.val (.int .i64 n))] [] (.ret (.gs 1000000 sz [])) [(1000000, .tok sz 0)] := by
  refine .inl ⟨hy, he, fun N M w args m hM hl ha _ => ?_⟩
  have a0 := ha 0 _ rfl
  have a1 := (ha 1 _ rfl).int
  have e0 : args.getD 0 undef = .slice none 0 0 := by generalize args.getD 0 undef = v at a0; cases a0; rfl
  rw [args2 hl e0 a1]
  have key : ∀ id ∈ keys [], Tr M M id := by simp [keys]
  have b1 : ∀ (M' : Mem) (w' : World), BRel N M' w' 1000000 (.tok sz 0) → ∀ id blk, Heap.get [(1000000, Block.tok sz 0)] id = some blk → BRel N M' w' id blk := by
    intro M' w' h id blk e
    rw [Heap.get_cons] at e
    split at e
    · rename_i q; subst q; simp only [Option.some.injEq] at e; subst e; exact h
    · simp [Heap.get] at e
  rcases Nat.eq_zero_or_pos n with hn0 | hn0
  · subst hn0
    refine (Any8.slices_Grow_room L none 0 0 0 w (by omega) (by omega) (by omega) (by omega)).mono fun e w' => ?_
    rintro ⟨rfl, rfl⟩
    refine ⟨M.set 1000000 (some .nil), ?_, by simp [keys], b1 _ _ (.inl ⟨Mem.set_same _ _ _, rfl⟩), _, rfl, .gs _ _ _ _ _ _ (.sl0 _ _ _ (by simp [maxLen])) (fun _ => ⟨rfl, rfl⟩) fun b lo e => ?_⟩
    · refine ⟨rfl, rfl, rfl, Nat.le_refl _, fun _ _ _ => rfl, fun _ _ _ _ h => h, fun b arr t h => ⟨arr, h, rfl⟩, fun id hid => Mem.set_other _ _ _ _ (by simpa [keys] using hid), ?_, ?_⟩
      · intro id hid ow' b o e1 e2
        simp only [keys, List.mem_singleton] at hid; subst hid
        rw [Mem.set_same] at e1; simp only [Option.some.injEq] at e1; subst e1; exact e2.elim
      · intro id hid id' hid' hne
        simp only [keys, List.mem_singleton] at hid hid'; exact absurd (hid.trans hid'.symm) hne
    · rw [Mem.set_same] at e; simp at e
  · obtain ⟨i, h1, h2, h3, h4⟩ := (hT (ρ.t 25)).info (tbl_known hk)
    obtain ⟨z, h5, h6, h7⟩ := h4 hz
    have hzc : z.cells.size = sz := by rw [← Array.length_toList, h6, List.length_map, hzs]
    have hle := grownCap_le_maxLen w (0 + n) 0 (ρ.t 25) (by unfold maxLen; omega)
    have hge := grownCap_ge w (0 + n) 0 (ρ.t 25)
    refine (Any8.slices_Grow_grow L i z h1 h5 (by omega) none 0 0 n [] w (by omega) (by omega) (by rw [h3]; simpa using hn) (by omega) (by simp) (fun _ => rfl) (by simp)).mono fun e w' => ?_
    rintro ⟨rfl, rfl⟩
    have hst := (Step.drew M w).trans0 (Step.alloc M w.drew 1000000 (.cells ((([] : List Value).toArray ++ Builtin.zeroCells z.cells (0 + n - 0)) ++ Builtin.zeroCells z.cells (grownCap w (0 + n) 0 (ρ.t 25) - (0 + n))) (ρ.t 25)) (.tail w.drew.heap.size (0 * sz)) fun b x h => h.1)
    have hrow := row_alloc w.drew ((([] : List Value).toArray ++ Builtin.zeroCells z.cells (0 + n - 0)) ++ Builtin.zeroCells z.cells (grownCap w (0 + n) 0 (ρ.t 25) - (0 + n))) (ρ.t 25)
    refine ⟨_, hst, by simp [keys], b1 _ _ (.inr ⟨_, _, _, Mem.set_same _ _ _, hrow⟩), _, rfl, .gs _ _ _ _ _ _ (.sl0 _ _ _ hle) (fun e => ?_) fun b lo e => ?_⟩
    · rw [Mem.set_same] at e; simp at e
    · rw [Mem.set_same] at e; simp only [Option.some.injEq, Own.tail.injEq] at e
      obtain ⟨rfl, rfl⟩ := e
      refine ⟨by simp, fun _ => ⟨rfl, _, _, hrow, ?_⟩⟩
      simp only [Array.size_append, zeroCells_size, hzc, List.size_toArray, List.length_nil]
      rw [Nat.zero_add, ← Nat.add_mul]
      congr 1; omega
end Go.Fw
namespace Go.Proofs
open Go.Shelf
def Try.growB_ren : Go.Shelf.Ren := ⟨fun | 4 => 65 | n => n, fun | 22 => 22 | 25 => 54 | 3 => 3 | 4 => 4 | 9 => 9 | 20 => 20 | 0 => 0 | n => n, fun | n => n⟩
theorem Try.growB : Go.Proofs.Lays8.n4 Try.prog Try.growB_ren := {
  mixed := by kernel_rfl
  f4 := ⟨Try.f65.name, by decide, Try.func65.trans (congrArg some (by kernel_rfl))⟩
  t0 := Try.underlying0
  a0 := Try.isAgg0
  z0 := Try.sizeOf0
  v0 := Try.zeroValue0
  t3 := Try.underlying3
  a3 := Try.isAgg3
  z3 := Try.sizeOf3
  v3 := Try.zeroValue3
  t4 := Try.underlying4
  a4 := Try.isAgg4
  z4 := Try.sizeOf4
  v4 := Try.zeroValue4
  t9 := Try.underlying9
  a9 := Try.isAgg9
  z9 := Try.sizeOf9
  v9 := Try.zeroValue9
  t20 := Try.underlying20
  a20 := Try.isAgg20
  z20 := Try.sizeOf20
  v20 := Try.zeroValue20
  t22 := Try.underlying22
  a22 := Try.isAgg22
  z22 := Try.sizeOf22
  v22 := Try.zeroValue22 }
end Go.Proofs
