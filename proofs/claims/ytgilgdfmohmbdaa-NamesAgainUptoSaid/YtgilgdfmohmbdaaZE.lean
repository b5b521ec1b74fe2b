/- Contracts of the library, from the kit's shelf, in this framework's words: what needs no program. -/
import Derived.Shelf.Spec.SlicesGrow
import Derived.Shelf.Strings.Search3
import Derived.Shelf.Small.Strs
import Derived.Shelf.SlGeneric
import Derived.Shelf.Strings.Search1
import Derived.Shelf.Strings.Search2
import Derived.Test.YtgilgdfmohmbdaaProg
import Derived.Test.YtgilgdfmohmbdaaZK5
import Derived.Test.YtgilgdfmohmbdaaZK6
set_option linter.unusedSimpArgs false
set_option linter.unusedVariables false
namespace Go.Fw
open Go.Shelf Go.Proofs
set_option linter.unusedSectionVars false
variable [GlobInt]

theorem args2 {args : Array Value} {a b : Value} (hl : args.size = 2) (h0 : args.getD 0 undef = a) (h1 : args.getD 1 undef = b) : args = #[a, b] := by
  obtain ⟨l⟩ := args
  match l, hl with
  | [x, y], _ => simp at h0 h1; subst h0; subst h1; rfl

theorem contains_of {P : Program} {f : FuncId} (he : FnEnters P f) (hg : ∃ m, gcells 0 = some [.int .i64 m])
    (h : ∀ (s sub : ByteArray) (m : Int) (w : World), s.size < 4294967281 → w.cell? ⟨0, 0, none⟩ = some (.int .i64 m) → Calls P f #[.string s, .string sub] w fun e w' => e = .returned (.bool (Lib.contains s.data.toList sub.data.toList)) ∧ w' = w)
    (s sub : List UInt8) (hs : s.length < 4294967281) : PCall P f [.str s, .str sub] (.ret (.b (Lib.contains s sub))) := by
  refine .inl ⟨he, fun N w args m hl hr => ?_⟩
  obtain ⟨i, hg⟩ := hg
  have h0 := hr 0 _ rfl
  have h1 := hr 1 _ rfl
  have e0 : args.getD 0 undef = .string ⟨s.toArray⟩ := by generalize args.getD 0 undef = v at h0; cases h0; rfl
  have e1 : args.getD 1 undef = .string ⟨sub.toArray⟩ := by generalize args.getD 1 undef = v at h1; cases h1; rfl
  rw [args2 hl e0 e1]
  refine (h ⟨s.toArray⟩ ⟨sub.toArray⟩ i w (by simpa [ByteArray.size] using hs) ((m.glob 0 _ hg).2.2 0 _ rfl).2.1).mono fun e w' => ?_
  rintro ⟨rfl, rfl⟩
  exact ⟨Step.refl _ _, _, rfl, .val _⟩

theorem indexByte_of {P : Program} {f : FuncId} (he : FnEnters P f)
    (h : ∀ (s : ByteArray) (c : Int) (w : World), Calls P f #[.string s, .int .u8 c] w fun e w' => e = .returned (.int .i64 (Lib.indexByte s.data.toList c.toNat.toUInt8)) ∧ w' = w)
    (s : List UInt8) (c : UInt8) : PCall P f [.str s, .val (.int .u8 c.toNat)] (.ret (.i (Lib.indexByte s c))) := by
  refine .inl ⟨he, fun N w args m hl hr => ?_⟩
  have h0 := hr 0 _ rfl
  have h1 := hr 1 _ rfl
  have e0 : args.getD 0 undef = .string ⟨s.toArray⟩ := by generalize args.getD 0 undef = v at h0; cases h0; rfl
  have e1 : args.getD 1 undef = .int .u8 c.toNat := by generalize args.getD 1 undef = v at h1; cases h1; rfl
  rw [args2 hl e0 e1]
  refine (h ⟨s.toArray⟩ c.toNat w).mono fun e w' => ?_
  rintro ⟨rfl, rfl⟩
  refine ⟨Step.refl _ _, _, rfl, ?_⟩
  simp only [Int.toNat_natCast, UInt8.ofNat_toNat, Nat.toUInt8_eq]
  exact .val _

theorem zeroCells_size (cs : Array Value) (n : Nat) : (Builtin.zeroCells cs n).size = n * cs.size := by
  simp [Builtin.zeroCells]

theorem grow_of {P : Program} {T : Tbl} (hT : TblOk P T) {ρ : Ren} (L : Lays8.n4 P ρ) (he : FnEnters P (ρ.f 4)) {sz sz' : Nat} (hk : T.known (ρ.t 25) = true) (hz : (T.at (ρ.t 25)).zero ≠ []) (hs : (T.at (ρ.t 25)).size = sz) (h0 : 0 < sz)
    (hzs : (T.at (ρ.t 25)).zero.length = sz) (n : Nat) (hn : n * (T.at (ρ.t 25)).bytes ≤ 140737488355328) (hn2 : n ≤ 4611686018427387904) :
    LCall P (ρ.f 4) [.nilsl sz', .data (.val (.int .i64 n))] [] (.ret (.gs 1000000 sz [])) [(1000000, .tok sz 0)] := by
  refine ⟨he, fun N M w args m hM hl ha _ => ?_⟩
  have a0 := ha 0 _ rfl
  have a1 := (ha 1 _ rfl).int
  have e0 : args.getD 0 undef = .slice none 0 0 := by generalize args.getD 0 undef = v at a0; cases a0; rfl
  rw [args2 hl e0 a1]
  have key : ∀ id ∈ keys [], Tr M M id := by simp [keys]
  have b1 : ∀ (M' : Mem) (w' : World), BRel N M' w' 1000000 (.tok sz 0) → ∀ id blk, Heap.get [(1000000, Block.tok sz 0)] id = some blk → BRel N M' w' id blk := by
    intro M' w' h id blk e
    rw [Heap.get_cons] at e
    split at e
    · rename_i q; subst q; simp only [Option.some.injEq] at e; subst e; exact h
    · simp [Heap.get] at e
  rcases Nat.eq_zero_or_pos n with hn0 | hn0
  · subst hn0
    refine (Any8.slices_Grow_room L none 0 0 0 w (by omega) (by omega) (by omega) (by omega)).mono fun e w' => ?_
    rintro ⟨rfl, rfl⟩
    refine ⟨M.set 1000000 (some .nil), ?_, by simp [keys], b1 _ _ (.inl ⟨Mem.set_same _ _ _, rfl⟩), _, rfl, .gs _ _ _ _ _ _ (.sl0 _ _ _ (by simp [maxLen])) (fun _ => ⟨rfl, rfl⟩) fun b lo e => ?_⟩
    · refine ⟨rfl, rfl, rfl, Nat.le_refl _, fun _ _ _ => rfl, fun _ _ _ _ h => h, fun b arr t h => ⟨arr, h, rfl⟩, fun id hid => Mem.set_other _ _ _ _ (by simpa [keys] using hid), ?_, ?_⟩
      · intro id hid ow' b o e1 e2
        simp only [keys, List.mem_singleton] at hid; subst hid
        rw [Mem.set_same] at e1; simp only [Option.some.injEq] at e1; subst e1; exact e2.elim
      · intro id hid id' hid' hne
        simp only [keys, List.mem_singleton] at hid hid'; exact absurd (hid.trans hid'.symm) hne
    · rw [Mem.set_same] at e; simp at e
  · obtain ⟨i, h1, h2, h3, h4⟩ := (hT (ρ.t 25)).info (tbl_known hk)
    obtain ⟨z, h5, h6, h7⟩ := h4 hz
    have hzc : z.cells.size = sz := by rw [← Array.length_toList, h6, List.length_map, hzs]
    have hle := grownCap_le_maxLen w (0 + n) 0 (ρ.t 25) (by unfold maxLen; omega)
    have hge := grownCap_ge w (0 + n) 0 (ρ.t 25)
    refine (Any8.slices_Grow_grow L i z h1 h5 (by omega) none 0 0 n [] w (by omega) (by omega) (by rw [h3]; simpa using hn) (by omega) (by simp) (fun _ => rfl) (by simp)).mono fun e w' => ?_
    rintro ⟨rfl, rfl⟩
    have hst := (Step.drew M w).trans0 (Step.alloc M w.drew 1000000 (.cells ((([] : List Value).toArray ++ Builtin.zeroCells z.cells (0 + n - 0)) ++ Builtin.zeroCells z.cells (grownCap w (0 + n) 0 (ρ.t 25) - (0 + n))) (ρ.t 25)) (.tail w.drew.heap.size (0 * sz)) fun b x h => h.1)
    have hrow := row_alloc w.drew ((([] : List Value).toArray ++ Builtin.zeroCells z.cells (0 + n - 0)) ++ Builtin.zeroCells z.cells (grownCap w (0 + n) 0 (ρ.t 25) - (0 + n))) (ρ.t 25)
    refine ⟨_, hst, by simp [keys], b1 _ _ (.inr ⟨_, _, _, Mem.set_same _ _ _, hrow⟩), _, rfl, .gs _ _ _ _ _ _ (.sl0 _ _ _ hle) (fun e => ?_) fun b lo e => ?_⟩
    · rw [Mem.set_same] at e; simp at e
    · rw [Mem.set_same] at e; simp only [Option.some.injEq, Own.tail.injEq] at e
      obtain ⟨rfl, rfl⟩ := e
      refine ⟨by simp, fun _ => ⟨rfl, _, _, hrow, ?_⟩⟩
      simp only [Array.size_append, zeroCells_size, hzc, List.size_toArray, List.length_nil]
      rw [Nat.zero_add, ← Nat.add_mul]
      congr 1; omega
end Go.Fw
namespace Go.Proofs
open Go.Shelf
def Try.lays137_ren : Go.Shelf.Ren := ⟨fun | 137 => 75 | 217 => 77 | 266 => 81 | n => n, fun | 9 => 9 | 5 => 5 | 3 => 3 | n => n, fun | n => n⟩
theorem Try.lays137 : Go.Proofs.Lays.n137 Try.prog Try.lays137_ren := {
  mixed := by kernel_rfl
  f137 := Try.func75.trans (congrArg some (by kernel_rfl))
  f217 := Try.func77.trans (congrArg some (by kernel_rfl))
  f266 := Try.func81.trans (congrArg some (by kernel_rfl))
  t3 := Try.underlying3
  a3 := Try.isAgg3
  z3 := Try.sizeOf3
  v3 := Try.zeroValue3
  t5 := Try.underlying5
  a5 := Try.isAgg5
  z5 := Try.sizeOf5
  v5 := Try.zeroValue5
  t9 := Try.underlying9
  a9 := Try.isAgg9
  z9 := Try.sizeOf9
  v9 := Try.zeroValue9 }
open Go.RowKit in
/-- strings.IndexByte: "IndexByte returns the index of the first instance of c in s, or -1 if c is not present in s.": IT RETURNS 'Lib.indexByte s c'; the world is as it was. (LAID: no walk: one application.) -/
theorem Try.strings_IndexByte (s : ByteArray) (c : Int) (w : World) :
    Calls Try.prog 75 #[.string s, .int .u8 c] w fun e w' => e = .returned (.int .i64 (Lib.indexByte s.data.toList c.toNat.toUInt8)) ∧ w' = w := Any.strings_IndexByte Try.lays137 s c w
def Try.lays144_ren : Go.Shelf.Ren := ⟨fun | 144 => 55 | 143 => 69 | 219 => 76 | 217 => 77 | 225 => 78 | 224 => 79 | 267 => 80 | 266 => 81 | 314 => 82 | n => n, fun | 9 => 9 | 4 => 4 | 3 => 3 | 5 => 5 | 46 => 105 | 146 => 107 | 51 => 106 | n => n, fun | 1 => 0 | n => n⟩
theorem Try.lays144 : Go.Proofs.Lays.n144 Try.prog Try.lays144_ren := {
  mixed := by kernel_rfl
  f143 := Try.func69.trans (congrArg some (by kernel_rfl))
  f144 := Try.func55.trans (congrArg some (by kernel_rfl))
  f217 := Try.func77.trans (congrArg some (by kernel_rfl))
  f219 := Try.func76.trans (congrArg some (by kernel_rfl))
  f224 := Try.func79.trans (congrArg some (by kernel_rfl))
  f225 := Try.func78.trans (congrArg some (by kernel_rfl))
  f266 := Try.func81.trans (congrArg some (by kernel_rfl))
  f267 := Try.func80.trans (congrArg some (by kernel_rfl))
  f314 := Try.func82.trans (congrArg some (by kernel_rfl))
  t3 := Try.underlying3
  a3 := Try.isAgg3
  z3 := Try.sizeOf3
  v3 := Try.zeroValue3
  t4 := Try.underlying4
  a4 := Try.isAgg4
  z4 := Try.sizeOf4
  v4 := Try.zeroValue4
  t5 := Try.underlying5
  a5 := Try.isAgg5
  z5 := Try.sizeOf5
  v5 := Try.zeroValue5
  t9 := Try.underlying9
  a9 := Try.isAgg9
  z9 := Try.sizeOf9
  v9 := Try.zeroValue9
  t46 := Try.underlying105
  a46 := Try.isAgg105
  z46 := Try.sizeOf105
  v46 := Try.zeroValue105
  t51 := Try.underlying106
  a51 := Try.isAgg106
  z51 := Try.sizeOf106
  v51 := Try.zeroValue106
  t146 := Try.underlying107
  a146 := Try.isAgg107
  z146 := Try.sizeOf107
  v146 := Try.zeroValue107
  g1 := by kernel_rfl }
open Go.RowKit Go.Lib in
/-- strings.Contains: "Contains reports whether substr is within s.": IT RETURNS 'Lib.contains s substr'; the world is as it was. (LAID: no walk: one application.) -/
theorem Try.strings_Contains (s sub : ByteArray) (m : Int) (w : World) (hs : s.size < 4294967281) (hm : w.cell? ⟨0, 0, none⟩ = some (.int .i64 m)) :
    Calls Try.prog 55 #[.string s, .string sub] w fun e w' => e = .returned (.bool (Lib.contains s.data.toList sub.data.toList)) ∧ w' = w := Any.strings_Contains Try.lays144 s sub m w hs hm
def Try.growB_ren : Go.Shelf.Ren := ⟨fun | 4 => 70 | n => n, fun | 22 => 22 | 25 => 42 | 3 => 3 | 4 => 4 | 9 => 9 | 20 => 20 | 0 => 0 | n => n, fun | n => n⟩
theorem Try.growB : Go.Proofs.Lays8.n4 Try.prog Try.growB_ren := {
  mixed := by kernel_rfl
  f4 := ⟨Try.f70.name, by decide, Try.func70.trans (congrArg some (by kernel_rfl))⟩
  t0 := Try.underlying0
  a0 := Try.isAgg0
  z0 := Try.sizeOf0
  v0 := Try.zeroValue0
  t3 := Try.underlying3
  a3 := Try.isAgg3
  z3 := Try.sizeOf3
  v3 := Try.zeroValue3
  t4 := Try.underlying4
  a4 := Try.isAgg4
  z4 := Try.sizeOf4
  v4 := Try.zeroValue4
  t9 := Try.underlying9
  a9 := Try.isAgg9
  z9 := Try.sizeOf9
  v9 := Try.zeroValue9
  t20 := Try.underlying20
  a20 := Try.isAgg20
  z20 := Try.sizeOf20
  v20 := Try.zeroValue20
  t22 := Try.underlying22
  a22 := Try.isAgg22
  z22 := Try.sizeOf22
  v22 := Try.zeroValue22 }
end Go.Proofs
namespace Go.Proofs.Ytgilgdfmohmbdaa
open Go.Fw
set_option maxRecDepth 10000
set_option linter.unusedSectionVars false
variable [GlobInt]
theorem contains_call (s sub : List UInt8) (hs : s.length < 4294967281) : PCall Try.prog 55 [.str s, .str sub] (.ret (.b (Lib.contains s sub))) :=
  contains_of ⟨_, Try.func55, by kernel_rfl, by kernel_rfl⟩ ⟨_, rfl⟩ (fun a b m w h1 h2 => Try.strings_Contains a b m w h1 h2) s sub hs
theorem indexByte_call (s : List UInt8) (c : UInt8) : PCall Try.prog 75 [.str s, .val (.int .u8 c.toNat)] (.ret (.i (Lib.indexByte s c))) :=
  indexByte_of ⟨_, Try.func75, by kernel_rfl, by kernel_rfl⟩ (fun a b w => Try.strings_IndexByte a b w) s c
theorem growB_call (n : Nat) (hn : n ≤ 1073741824) : LCall Try.prog 70 [.nilsl 3, .data (.val (.int .i64 n))] [] (.ret (.gs 1000000 3 [])) [(1000000, .tok 3 0)] :=
  grow_of tok Try.growB ⟨_, Try.func70, by kernel_rfl, by kernel_rfl⟩ (by kernel_rfl) (by decide +kernel) (by kernel_rfl) (by omega) (by kernel_rfl) n (by
    have : (Try.T.at (Try.growB_ren.t 25)).bytes = 32 := by kernel_rfl
    rw [this]; omega) (by omega)
end Go.Proofs.Ytgilgdfmohmbdaa
