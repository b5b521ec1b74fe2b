/- Contracts of the library at this program: strings.Contains, strings.IndexByte, slices.Grow. -/
import Derived.Test.YtogfjinopifenaaDoorZE
import Derived.Test.YtogfjinopifenaaDoorZK6
set_option linter.unusedSectionVars false
set_option linter.unusedSimpArgs false
set_option linter.unusedVariables false
namespace Go.Proofs.YtogfjinopifenaaDoor
open Go.Fw
set_option maxRecDepth 10000
variable [af]
theorem C9 (s sub : List UInt8) (hs : s.length < 4294967281) : PCall Tryd.prog 51 [.str s, .str sub] (.ret (.b (Lib.contains s sub))) :=
 Ip ⟨_, Tryd.func51, by kernel_rfl, by kernel_rfl⟩ ⟨_, rfl⟩ (fun a b m w h1 h2 => Tryd.strings_Contains a b m w h1 h2) s sub hs
theorem zi (s : List UInt8) (c : UInt8) : PCall Tryd.prog 71 [.str s, .val (.int .u8 c.toNat)] (.ret (.i (Lib.indexByte s c))) :=
 FN ⟨_, Tryd.func71, by kernel_rfl, by kernel_rfl⟩ (fun a b w => Tryd.strings_IndexByte a b w) s c
theorem Nc (n : Nat) (hn : n ≤ 1073741824) : aZ Tryd.prog 67 [.nilsl 3, .data (.val (.int .i64 n))] [] (.ret (.gs 1000000 3 [])) [(1000000, .tok 3 0)] :=
 Yb tok Tryd.growB ⟨_, Tryd.func67, by kernel_rfl, by kernel_rfl⟩ (Nat.ne_of_beq_eq_false rfl) (by kernel_rfl) (by decide +kernel) (by kernel_rfl) (by omega) (by kernel_rfl) n (by
  have : (Tryd.T.at (Tryd.growB_ren.t 25)).bytes = 32 := by kernel_rfl
  rw [this]; omega) (by omega)
end Go.Proofs.YtogfjinopifenaaDoor
