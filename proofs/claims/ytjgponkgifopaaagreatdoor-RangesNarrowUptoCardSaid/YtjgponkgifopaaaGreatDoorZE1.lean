/- Contracts of the library at this program: strings.Contains, strings.IndexByte, slices.Grow. -/
import Derived.Test.YtjgponkgifopaaaGreatDoorZE0
import Derived.Test.YtjgponkgifopaaaGreatDoorZK6
import Derived.Test.YtjgponkgifopaaaGreatDoorZSh
set_option linter.unusedSimpArgs false
set_option linter.unusedVariables false
namespace Go.Proofs.YtjgponkgifopaaaGreatDoor
open Go.Fw
set_option maxRecDepth 10000
set_option linter.unusedSectionVars false
variable [GlobInt]
theorem contains_call (s sub : List UInt8) (hs : s.length < 4294967281) : PCall Tryz.prog 115 [.str s, .str sub] (.ret (.b (Lib.contains s sub))) :=
  contains_of ⟨_, Tryz.func115, by kernel_rfl, by kernel_rfl⟩ ⟨_, rfl⟩ (fun a b m w h1 h2 => Tryz.strings_Contains a b m w h1 h2) s sub hs
theorem indexByte_call (s : List UInt8) (c : UInt8) : PCall Tryz.prog 130 [.str s, .val (.int .u8 c.toNat)] (.ret (.i (Lib.indexByte s c))) :=
  indexByte_of ⟨_, Tryz.func130, by kernel_rfl, by kernel_rfl⟩ (fun a b w => Tryz.strings_IndexByte a b w) s c
theorem growB_call (n : Nat) (hn : n ≤ 1073741824) : LCall Tryz.prog 128 [.nilsl 3, .data (.val (.int .i64 n))] [] (.ret (.gs 1000000 3 [])) [(1000000, .tok 3 0)] :=
  grow_of tok Tryz.growB ⟨_, Tryz.func128, by kernel_rfl, by kernel_rfl⟩ (by kernel_rfl) (by decide +kernel) (by kernel_rfl) (by omega) (by kernel_rfl) n (by
    have : (Tryz.T.at (Tryz.growB_ren.t 25)).bytes = 32 := by kernel_rfl
    rw [this]; omega) (by omega)
end Go.Proofs.YtjgponkgifopaaaGreatDoor
