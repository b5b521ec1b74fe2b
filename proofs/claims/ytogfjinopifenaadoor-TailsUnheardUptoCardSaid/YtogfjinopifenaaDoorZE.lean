/- Contracts of the library, from the kit's shelf, in this framework's words: what needs no program. -/
import Derived.Shelf.Spec.SlicesGrow
import Derived.Shelf.Strings.Search3
import Derived.Shelf.Small.Strs
import Derived.Shelf.SlGeneric
import Derived.Shelf.Strings.Search1
import Derived.Shelf.Strings.Search2
import Derived.Test.YtogfjinopifenaaDoorProg
import Derived.Test.YtogfjinopifenaaDoorZKA
set_option linter.unusedSectionVars false
set_option linter.unusedSimpArgs false
set_option linter.unusedVariables false
namespace Go.Fw
open Go.Shelf Go.Proofs
variable [af] {P : Program}
theorem Ya {args : Array Value} {a b : Value} (hl : args.size = 2) (h0 : args.getD 0 undef = a) (h1 : args.getD 1 undef = b) : args = #[a, b] := by
 obtain ⟨l⟩ := args
 match l, hl with
 | [x, y], _ => simp at h0 h1; subst h0; subst h1; rfl
theorem Ip {f : FuncId} {g : Nat} (he : jA P f) (hg : ∃ m, oO g = some [.int .i64 m])
  (h : ∀ (s sub : ByteArray) (m : Int) (w : World), s.size < 4294967281 → w.cell? ⟨g, 0, none⟩ = some (.int .i64 m) → Calls P f #[.string s, .string sub] w fun e w' => e = .returned (.bool (Lib.contains s.data.toList sub.data.toList)) ∧ w' = w)
  (s sub : List UInt8) (hs : s.length < 4294967281) : PCall P f [.str s, .str sub] (.ret (.b (Lib.contains s sub))) := by
 refine .inl ⟨he, fun N w args m hl hr => ?_⟩
 obtain ⟨i, hg⟩ := hg
 have h0 := hr 0 _ rfl
 have h1 := hr 1 _ rfl
 have e0 : args.getD 0 undef = .string ⟨s.toArray⟩ := by generalize args.getD 0 undef = v at h0; cases h0; rfl
 have e1 : args.getD 1 undef = .string ⟨sub.toArray⟩ := by generalize args.getD 1 undef = v at h1; cases h1; rfl
 rw [Ya hl e0 e1]
 refine (h ⟨s.toArray⟩ ⟨sub.toArray⟩ i w (by simpa [ByteArray.size] using hs) ((m.glob g _ hg).2.2 0 _ rfl).2.1).mono fun e w' => ?_
 rintro ⟨rfl, rfl⟩
 exact ⟨Step.refl _ _, _, rfl, .val _⟩
theorem FN {f : FuncId} (he : jA P f)
  (h : ∀ (s : ByteArray) (c : Int) (w : World), Calls P f #[.string s, .int .u8 c] w fun e w' => e = .returned (.int .i64 (Lib.indexByte s.data.toList c.toNat.toUInt8)) ∧ w' = w)
  (s : List UInt8) (c : UInt8) : PCall P f [.str s, .val (.int .u8 c.toNat)] (.ret (.i (Lib.indexByte s c))) := by
 refine .inl ⟨he, fun N w args m hl hr => ?_⟩
 have h0 := hr 0 _ rfl
 have h1 := hr 1 _ rfl
 have e0 : args.getD 0 undef = .string ⟨s.toArray⟩ := by generalize args.getD 0 undef = v at h0; cases h0; rfl
 have e1 : args.getD 1 undef = .int .u8 c.toNat := by generalize args.getD 1 undef = v at h1; cases h1; rfl
 rw [Ya hl e0 e1]
 refine (h ⟨s.toArray⟩ c.toNat w).mono fun e w' => ?_
 rintro ⟨rfl, rfl⟩
 refine ⟨Step.refl _ _, _, rfl, ?_⟩
 simp only [Int.toNat_natCast, UInt8.ofNat_toNat, Nat.toUInt8_eq]
 exact .val _
theorem zh (cs : Array Value) (n : Nat) : (Builtin.zeroCells cs n).size = n * cs.size := by
 simp [Builtin.zeroCells]
theorem Yb {T : Tbl} (hT : iW P T) {ρ : Ren} (L : Lays8.n4 P ρ) (he : jA P (ρ.f 4)) (hy : ρ.f 4 ≠ yQ) {sz sz' : Nat} (hk : T.known (ρ.t 25) = true) (hz : (T.at (ρ.t 25)).zero ≠ []) (hs : (T.at (ρ.t 25)).size = sz) (h0 : 0 < sz)
  (hzs : (T.at (ρ.t 25)).zero.length = sz) (n : Nat) (hn : n * (T.at (ρ.t 25)).bytes ≤ 140737488355328) (hn2 : n ≤ 4611686018427387904) :
  aZ P (ρ.f 4) [.nilsl sz', .data (.val (.int .i64 n))] [] (.ret (.gs 1000000 sz [])) [(1000000, .tok sz 0)] := by
 refine .inl ⟨hy, he, fun N M w args m hM hl ha _ => ?_⟩
 have a0 := ha 0 _ rfl
 have a1 := (ha 1 _ rfl).int
 have e0 : args.getD 0 undef = .slice none 0 0 := by generalize args.getD 0 undef = v at a0; cases a0; rfl
 rw [Ya hl e0 a1]
 have key : ∀ id ∈ keys [], Tr M M id := by simp [keys]
 have b1 : ∀ (M' : Mem) (w' : World), dV N M' w' 1000000 (.tok sz 0) → ∀ id blk, Heap.get [(1000000, Block.tok sz 0)] id = some blk → dV N M' w' id blk := by
  intro M' w' h id blk e
  rw [Heap.get_cons] at e
  split at e
  ·rename_i q; subst q; simp only [Option.some.injEq] at e; subst e; exact h
  ·simp [Heap.get] at e
 rcases Nat.eq_zero_or_pos n with hn0 | hn0
 ·subst hn0
  refine (Any8.slices_Grow_room L none 0 0 0 w (by omega) (by omega) (by omega) (by omega)).mono fun e w' => ?_
  rintro ⟨rfl, rfl⟩
  refine ⟨M.set 1000000 (some .nil), ?_, by simp [keys], b1 _ _ (.inl ⟨Mem.set_same _ _ _, rfl⟩), _, rfl, .gs _ _ _ _ _ _ (.sl0 _ _ _ (by simp [maxLen])) (fun _ => ⟨rfl, rfl⟩) fun b lo e => ?_⟩
  ·refine ⟨rfl, rfl, rfl, Nat.le_refl _, fun _ _ _ => rfl, fun _ _ _ _ h => h, fun b arr t h => ⟨arr, h, rfl⟩, fun id hid => Mem.set_other _ _ _ _ (by simpa [keys] using hid), ?_, ?_⟩
   ·intro id hid ow' b o e1 e2
    simp only [keys, List.mem_singleton] at hid; subst hid
    rw [Mem.set_same] at e1; simp only [Option.some.injEq] at e1; subst e1; exact e2.elim
   ·intro id hid id' hid' hne
    simp only [keys, List.mem_singleton] at hid hid'; exact absurd (hid.trans hid'.symm) hne
  ·rw [Mem.set_same] at e; simp at e
 ·obtain ⟨i, h1, h2, h3, h4⟩ := (hT (ρ.t 25)).info (bf hk)
  obtain ⟨z, h5, h6, h7⟩ := h4 hz
  have hzc : z.cells.size = sz := by rw [← Array.length_toList, h6, List.length_map, hzs]
  have hle := grownCap_le_maxLen w (0 + n) 0 (ρ.t 25) (by unfold maxLen; omega)
  have hge := grownCap_ge w (0 + n) 0 (ρ.t 25)
  refine (Any8.slices_Grow_grow L i z h1 h5 (by omega) none 0 0 n [] w (by omega) (by omega) (by rw [h3]; simpa using hn) (by omega) (by simp) (fun _ => rfl) (by simp)).mono fun e w' => ?_
  rintro ⟨rfl, rfl⟩
  have hst := (Step.drew M w).trans0 (Step.alloc M w.drew 1000000 (.cells ((([] : List Value).toArray ++ Builtin.zeroCells z.cells (0 + n - 0)) ++ Builtin.zeroCells z.cells (grownCap w (0 + n) 0 (ρ.t 25) - (0 + n))) (ρ.t 25)) (.tail w.drew.heap.size (0 * sz)) fun b x h => h.1)
  have hrow := nz w.drew ((([] : List Value).toArray ++ Builtin.zeroCells z.cells (0 + n - 0)) ++ Builtin.zeroCells z.cells (grownCap w (0 + n) 0 (ρ.t 25) - (0 + n))) (ρ.t 25)
  refine ⟨_, hst, by simp [keys], b1 _ _ (.inr ⟨_, _, _, Mem.set_same _ _ _, hrow⟩), _, rfl, .gs _ _ _ _ _ _ (.sl0 _ _ _ hle) (fun e => ?_) fun b lo e => ?_⟩
  ·rw [Mem.set_same] at e; simp at e
  ·rw [Mem.set_same] at e; simp only [Option.some.injEq, Own.tail.injEq] at e
   obtain ⟨rfl, rfl⟩ := e
   refine ⟨by simp, fun _ => ⟨rfl, _, _, hrow, ?_⟩⟩
   simp only [Array.size_append, zh, hzc, List.size_toArray, List.length_nil]
   rw [Nat.zero_add, ← Nat.add_mul]
   congr 1; omega
end Go.Fw
namespace Go.Proofs
open Go.Shelf
def Tryd.lays137_ren : Go.Shelf.Ren := ⟨fun | 137 => 71 | 217 => 94 | 266 => 99 | n => n, fun | 9 => 9 | 5 => 5 | 3 => 3 | n => n, fun | n => n⟩
theorem Tryd.lays137 : Go.Proofs.Lays.n137 Tryd.prog Tryd.lays137_ren := {
 mixed := by kernel_rfl
 f137 := Tryd.func71.trans (congrArg some (by kernel_rfl))
 f217 := Tryd.func94.trans (congrArg some (by kernel_rfl))
 f266 := Tryd.func99.trans (congrArg some (by kernel_rfl))
 t3 := Tryd.underlying3
 a3 := Tryd.isAgg3
 z3 := Tryd.sizeOf3
 v3 := Tryd.zeroValue3
 t5 := Tryd.underlying5
 a5 := Tryd.isAgg5
 z5 := Tryd.sizeOf5
 v5 := Tryd.zeroValue5
 t9 := Tryd.underlying9
 a9 := Tryd.isAgg9
 z9 := Tryd.sizeOf9
 v9 := Tryd.zeroValue9 }
open Go.RowKit in
theorem Tryd.strings_IndexByte (s : ByteArray) (c : Int) (w : World) :
  Calls Tryd.prog 71 #[.string s, .int .u8 c] w fun e w' => e = .returned (.int .i64 (Lib.indexByte s.data.toList c.toNat.toUInt8)) ∧ w' = w := Any.strings_IndexByte Tryd.lays137 s c w
def Tryd.lays144_ren : Go.Shelf.Ren := ⟨fun | 144 => 51 | 143 => 66 | 219 => 72 | 217 => 94 | 225 => 95 | 224 => 96 | 267 => 97 | 266 => 99 | 314 => 100 | n => n, fun | 9 => 9 | 4 => 4 | 3 => 3 | 5 => 5 | 46 => 132 | 146 => 135 | 51 => 134 | n => n, fun | 1 => 1 | n => n⟩
theorem Tryd.lays144 : Go.Proofs.Lays.n144 Tryd.prog Tryd.lays144_ren := {
 mixed := by kernel_rfl
 f143 := Tryd.func66.trans (congrArg some (by kernel_rfl))
 f144 := Tryd.func51.trans (congrArg some (by kernel_rfl))
 f217 := Tryd.func94.trans (congrArg some (by kernel_rfl))
 f219 := Tryd.func72.trans (congrArg some (by kernel_rfl))
 f224 := Tryd.func96.trans (congrArg some (by kernel_rfl))
 f225 := Tryd.func95.trans (congrArg some (by kernel_rfl))
 f266 := Tryd.func99.trans (congrArg some (by kernel_rfl))
 f267 := Tryd.func97.trans (congrArg some (by kernel_rfl))
 f314 := Tryd.func100.trans (congrArg some (by kernel_rfl))
 t3 := Tryd.underlying3
 a3 := Tryd.isAgg3
 z3 := Tryd.sizeOf3
 v3 := Tryd.zeroValue3
 t4 := Tryd.underlying4
 a4 := Tryd.isAgg4
 z4 := Tryd.sizeOf4
 v4 := Tryd.zeroValue4
 t5 := Tryd.underlying5
 a5 := Tryd.isAgg5
 z5 := Tryd.sizeOf5
 v5 := Tryd.zeroValue5
 t9 := Tryd.underlying9
 a9 := Tryd.isAgg9
 z9 := Tryd.sizeOf9
 v9 := Tryd.zeroValue9
 t46 := Tryd.underlying132
 a46 := Tryd.isAgg132
 z46 := Tryd.sizeOf132
 v46 := Tryd.zeroValue132
 t51 := Tryd.underlying134
 a51 := Tryd.isAgg134
 z51 := Tryd.sizeOf134
 v51 := Tryd.zeroValue134
 t146 := Tryd.underlying135
 a146 := Tryd.isAgg135
 z146 := Tryd.sizeOf135
 v146 := Tryd.zeroValue135
 g1 := by kernel_rfl }
open Go.RowKit Go.Lib in
theorem Tryd.strings_Contains (s sub : ByteArray) (m : Int) (w : World) (hs : s.size < 4294967281) (hm : w.cell? ⟨1, 0, none⟩ = some (.int .i64 m)) :
  Calls Tryd.prog 51 #[.string s, .string sub] w fun e w' => e = .returned (.bool (Lib.contains s.data.toList sub.data.toList)) ∧ w' = w := Any.strings_Contains Tryd.lays144 s sub m w hs hm
def Tryd.growB_ren : Go.Shelf.Ren := ⟨fun | 4 => 67 | n => n, fun | 22 => 22 | 25 => 46 | 3 => 3 | 4 => 4 | 9 => 9 | 20 => 20 | 0 => 0 | n => n, fun | n => n⟩
theorem Tryd.growB : Go.Proofs.Lays8.n4 Tryd.prog Tryd.growB_ren := {
 mixed := by kernel_rfl
 f4 := ⟨Tryd.f67.name, by decide, Tryd.func67.trans (congrArg some (by kernel_rfl))⟩
 t0 := Tryd.underlying0
 a0 := Tryd.isAgg0
 z0 := Tryd.sizeOf0
 v0 := Tryd.zeroValue0
 t3 := Tryd.underlying3
 a3 := Tryd.isAgg3
 z3 := Tryd.sizeOf3
 v3 := Tryd.zeroValue3
 t4 := Tryd.underlying4
 a4 := Tryd.isAgg4
 z4 := Tryd.sizeOf4
 v4 := Tryd.zeroValue4
 t9 := Tryd.underlying9
 a9 := Tryd.isAgg9
 z9 := Tryd.sizeOf9
 v9 := Tryd.zeroValue9
 t20 := Tryd.underlying20
 a20 := Tryd.isAgg20
 z20 := Tryd.sizeOf20
 v20 := Tryd.zeroValue20
 t22 := Tryd.underlying22
 a22 := Tryd.isAgg22
 z22 := Tryd.sizeOf22
 v22 := Tryd.zeroValue22 }
end Go.Proofs
