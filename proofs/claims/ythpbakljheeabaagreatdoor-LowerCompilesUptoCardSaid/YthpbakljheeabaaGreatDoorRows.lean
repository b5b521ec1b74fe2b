/-
  NARROWER THAN 'FOR EVERY INPUT', by the rows' own cells (each row's printed sentence says how): LowerCheckSpec: laid · LowerCompiles: loops, laid · LowerOperands: laid · LowerJoined: laid · LowerLess: laid.
  DERIVED. THE GIVEN ROWS OF THIS SEAT. 5 by the template 'for every input the law returns true; each argument reads behind the call as it read before'; 0 by the template 'total and deterministic' (their statements: YthpbakljheeabaaGreatDoorTotals.lean).
  GIVEN WITH THE SEED: the statements are not yours to turn. If you find one false, say at which input.
  Laid BY PROGRAM, IN A SANDBOX (cutbox-rows.mjs): the forced cells as the released guide's own fill.sh prints them over the translation 7e08cc8ae57ef10d… (all of the seat's roots in one cut). By AI agents, Wed Nov 11 2026. No macro, syntax, notation, axiom, sorry.
-/
import Derived.Test.YthpbakljheeabaaGreatDoorChecked
import GoSem.Claim
import GoSem.ClaimJoined
import GoSem.ClaimMapViews
import Derived.JoinedTies
import Derived.KernelRfl
namespace Go.Proofs.YthpbakljheeabaaGreatDoor
/- THE CELL 'sum', in the pinned program and in every row, IS THE sha256 OF THE DUMP (.gsa) THAT YthpbakljheeabaaGreatDoorProg.lean LOADS. Nothing in Lean hashes anything: it is a label: what it is worth is what the hold of that sum in a sandbox is worth. -/
noncomputable def Tryz.pinned : Pinned := { name := "ythpbakljheeabaagreatdoor", sum := "7e08cc8ae57ef10d140e73a59e24f50b5592985968f63e46e97b7ca9a6874032", checked := Tryz.checked }
namespace Rows
def none {H : Type} : Left H := { results := [], args := [] }

/- WHAT THE LISTED PACKAGE-LEVEL VARIABLES READ AS WHEN THE CALL BEGINS. Each datum BY PROGRAM (the guide's laid-datum.mjs) off the statement by which the dump's own 'gosem.cut.vars' lays the variable. In a bare row this is a premise. The card (YthpbakljheeabaaGreatDoorCards.lean) ties it to the program's text. -/
def laid_soundpost_ranges_samples {H : Type} : DataW H := .agg [.lit (.int .i64 (-2147483648)), .lit (.int .i64 2147483647)]

/-- 'soundpostlaw19.LowerCheckSpec': WHATEVER THE INPUT: true; the input reads as it did. -/
def lowerCheckSpecSpec : ChangeSpec := { name := "lowerCheckSpec", fn := fun _ => fun
  | [d] => { results := [.lit (.bool true)], args := [d] }
  | _ => none }
def lowerCheckSpecRow : OpenClaim := { program := "ythpbakljheeabaagreatdoor", sum := "7e08cc8ae57ef10d140e73a59e24f50b5592985968f63e46e97b7ca9a6874032", func := "soundpost/soundpostlaw19.LowerCheckSpec", spec := "lowerCheckSpec", inPlace := ["internal/bytealg.IndexByteString", "internal/bytealg.IndexString"], unfollowed := true, recurses := true, named := ["internal/bytealg.MaxLen", "soundpost/ranges.samples"], plainKeys := false, apart := false, laid := [("soundpost/ranges.samples", laid_soundpost_ranges_samples)] }
def LowerCheckSpecSaid : Prop := lowerCheckSpecRow.holds Tryz.pinned (OpenSpec.ofChange lowerCheckSpecSpec)

/-- ITS FALSE NEIGHBOUR: 'it returns false'. Refute it at one input. -/
def lowerCheckSpecWrong : ChangeSpec := { name := "lowerCheckSpec", fn := fun _ => fun
  | [d] => { results := [.lit (.bool false)], args := [d] }
  | _ => none }
def LowerCheckSpecWrongFalsely : Prop := lowerCheckSpecRow.holds Tryz.pinned (OpenSpec.ofChange lowerCheckSpecWrong)

/-- 'soundpostlaw19.LowerCompiles': WHATEVER THE INPUT: true; the input reads as it did. -/
def lowerCompilesSpec : ChangeSpec := { name := "lowerCompiles", fn := fun _ => fun
  | [d] => { results := [.lit (.bool true)], args := [d] }
  | _ => none }
def lowerCompilesRow : OpenClaim := { program := "ythpbakljheeabaagreatdoor", sum := "7e08cc8ae57ef10d140e73a59e24f50b5592985968f63e46e97b7ca9a6874032", func := "soundpost/soundpostlaw19.LowerCompiles", spec := "lowerCompiles", inPlace := ["internal/bytealg.IndexByteString", "internal/bytealg.IndexString"], unfollowed := true, recurses := true, named := ["internal/bytealg.MaxLen", "soundpost/ranges.samples"], loops := true, plainKeys := false, apart := false, laid := [("soundpost/ranges.samples", laid_soundpost_ranges_samples)] }
def LowerCompilesSaid : Prop := lowerCompilesRow.holds Tryz.pinned (OpenSpec.ofChange lowerCompilesSpec)

/-- ITS FALSE NEIGHBOUR: 'it returns false'. Refute it at one input. -/
def lowerCompilesWrong : ChangeSpec := { name := "lowerCompiles", fn := fun _ => fun
  | [d] => { results := [.lit (.bool false)], args := [d] }
  | _ => none }
def LowerCompilesWrongFalsely : Prop := lowerCompilesRow.holds Tryz.pinned (OpenSpec.ofChange lowerCompilesWrong)

/-- 'soundpostlaw19.LowerOperands': WHATEVER THE INPUT: true; the input reads as it did. -/
def lowerOperandsSpec : ChangeSpec := { name := "lowerOperands", fn := fun _ => fun
  | [d1, d2, d3] => { results := [.lit (.bool true)], args := [d1, d2, d3] }
  | _ => none }
def lowerOperandsRow : OpenClaim := { program := "ythpbakljheeabaagreatdoor", sum := "7e08cc8ae57ef10d140e73a59e24f50b5592985968f63e46e97b7ca9a6874032", func := "soundpost/soundpostlaw19.LowerOperands", spec := "lowerOperands", inPlace := ["internal/bytealg.IndexByteString", "internal/bytealg.IndexString"], unfollowed := true, recurses := true, named := ["internal/bytealg.MaxLen", "soundpost/ranges.samples"], plainKeys := false, apart := false, laid := [("soundpost/ranges.samples", laid_soundpost_ranges_samples)] }
def LowerOperandsSaid : Prop := lowerOperandsRow.holds Tryz.pinned (OpenSpec.ofChange lowerOperandsSpec)

/-- ITS FALSE NEIGHBOUR: 'it returns false'. Refute it at one input. -/
def lowerOperandsWrong : ChangeSpec := { name := "lowerOperands", fn := fun _ => fun
  | [d1, d2, d3] => { results := [.lit (.bool false)], args := [d1, d2, d3] }
  | _ => none }
def LowerOperandsWrongFalsely : Prop := lowerOperandsRow.holds Tryz.pinned (OpenSpec.ofChange lowerOperandsWrong)

/-- 'soundpostlaw19.LowerJoined': WHATEVER THE INPUT: true; the input reads as it did. -/
def lowerJoinedSpec : ChangeSpec := { name := "lowerJoined", fn := fun _ => fun
  | [d1, d2] => { results := [.lit (.bool true)], args := [d1, d2] }
  | _ => none }
def lowerJoinedRow : OpenClaim := { program := "ythpbakljheeabaagreatdoor", sum := "7e08cc8ae57ef10d140e73a59e24f50b5592985968f63e46e97b7ca9a6874032", func := "soundpost/soundpostlaw19.LowerJoined", spec := "lowerJoined", inPlace := ["internal/bytealg.IndexByteString", "internal/bytealg.IndexString"], unfollowed := true, recurses := true, named := ["internal/bytealg.MaxLen", "soundpost/ranges.samples"], plainKeys := false, apart := false, laid := [("soundpost/ranges.samples", laid_soundpost_ranges_samples)] }
def LowerJoinedSaid : Prop := lowerJoinedRow.holds Tryz.pinned (OpenSpec.ofChange lowerJoinedSpec)

/-- ITS FALSE NEIGHBOUR: 'it returns false'. Refute it at one input. -/
def lowerJoinedWrong : ChangeSpec := { name := "lowerJoined", fn := fun _ => fun
  | [d1, d2] => { results := [.lit (.bool false)], args := [d1, d2] }
  | _ => none }
def LowerJoinedWrongFalsely : Prop := lowerJoinedRow.holds Tryz.pinned (OpenSpec.ofChange lowerJoinedWrong)

/-- 'soundpostlaw19.LowerLess': WHATEVER THE INPUT: true; the input reads as it did. -/
def lowerLessSpec : ChangeSpec := { name := "lowerLess", fn := fun _ => fun
  | [d] => { results := [.lit (.bool true)], args := [d] }
  | _ => none }
def lowerLessRow : OpenClaim := { program := "ythpbakljheeabaagreatdoor", sum := "7e08cc8ae57ef10d140e73a59e24f50b5592985968f63e46e97b7ca9a6874032", func := "soundpost/soundpostlaw19.LowerLess", spec := "lowerLess", inPlace := ["internal/bytealg.IndexByteString", "internal/bytealg.IndexString"], unfollowed := true, recurses := true, named := ["internal/bytealg.MaxLen", "soundpost/ranges.samples"], plainKeys := false, apart := false, laid := [("soundpost/ranges.samples", laid_soundpost_ranges_samples)] }
def LowerLessSaid : Prop := lowerLessRow.holds Tryz.pinned (OpenSpec.ofChange lowerLessSpec)

/-- ITS FALSE NEIGHBOUR: 'it returns false'. Refute it at one input. -/
def lowerLessWrong : ChangeSpec := { name := "lowerLess", fn := fun _ => fun
  | [d] => { results := [.lit (.bool false)], args := [d] }
  | _ => none }
def LowerLessWrongFalsely : Prop := lowerLessRow.holds Tryz.pinned (OpenSpec.ofChange lowerLessWrong)

/- THE SECOND FORM. 'bulk': how many values and letters a reading holds, each counted each time it is reached (what is shared counts as often as it is met; a slice's spare places count too). A statement '..UptoSaid' is the law's where the arguments, and the package variables that the reading takes, are together of bulk at most 1048576: NARROWER than '..Said'. Prove '..Said' where nothing that the law and all that it calls make is longer than what came in: it says more and counts as full. Else prove '..UptoSaid'. A law counts once. -/
mutual
def uptoBulk {H : Type} : DataW H → Nat
  | .lit (.string bytes) => bytes.length + 1
  | .lit _ => 1
  | .nil => 1
  | .ptr d => uptoBulk d + 1
  | .slice elems spare => uptoBulkAll elems + uptoBulkAll spare + 1
  | .agg parts => uptoBulkAll parts + 1
  | .iface _ d => uptoBulk d + 1
  | .map entries => uptoBulkEntries entries + 1
  | .held _ => 1
def uptoBulkAll {H : Type} : List (DataW H) → Nat
  | [] => 0
  | d :: r => uptoBulk d + uptoBulkAll r
def uptoBulkEntries {H : Type} : List (Lit × DataW H) → Nat
  | [] => 0
  | x :: r => uptoBulkEntry x + uptoBulkEntries r
def uptoBulkEntry {H : Type} : Lit × DataW H → Nat
  | (.string bytes, d) => bytes.length + uptoBulk d + 1
  | (_, d) => uptoBulk d + 1
 end
def uptoSmall : (H : Type) → List (DataW H) → Bool := fun _ ds => decide (uptoBulkAll ds ≤ 1048576)
def OpenSpec.upto (s : _root_.Go.ChangeSpec) : _root_.Go.OpenSpec := { _root_.Go.OpenSpec.ofChange s with cond := some uptoSmall }

/-- 'soundpostlaw19.LowerCheckSpec', WHERE WHAT IT READS IS OF BULK AT MOST 1048576: true; the input reads as it did. -/
def lowerCheckSpecUptoRow : OpenClaim := { program := "ythpbakljheeabaagreatdoor", sum := "7e08cc8ae57ef10d140e73a59e24f50b5592985968f63e46e97b7ca9a6874032", func := "soundpost/soundpostlaw19.LowerCheckSpec", spec := "lowerCheckSpec", inPlace := ["internal/bytealg.IndexByteString", "internal/bytealg.IndexString"], unfollowed := true, recurses := true, named := ["internal/bytealg.MaxLen", "soundpost/ranges.samples"], plainKeys := false, apart := false, laid := [("soundpost/ranges.samples", laid_soundpost_ranges_samples)], narrowed := true }
def LowerCheckSpecUptoSaid : Prop := lowerCheckSpecUptoRow.holds Tryz.pinned (OpenSpec.upto lowerCheckSpecSpec)

/-- 'soundpostlaw19.LowerCompiles', WHERE WHAT IT READS IS OF BULK AT MOST 1048576: true; the input reads as it did. -/
def lowerCompilesUptoRow : OpenClaim := { program := "ythpbakljheeabaagreatdoor", sum := "7e08cc8ae57ef10d140e73a59e24f50b5592985968f63e46e97b7ca9a6874032", func := "soundpost/soundpostlaw19.LowerCompiles", spec := "lowerCompiles", inPlace := ["internal/bytealg.IndexByteString", "internal/bytealg.IndexString"], unfollowed := true, recurses := true, named := ["internal/bytealg.MaxLen", "soundpost/ranges.samples"], loops := true, plainKeys := false, apart := false, laid := [("soundpost/ranges.samples", laid_soundpost_ranges_samples)], narrowed := true }
def LowerCompilesUptoSaid : Prop := lowerCompilesUptoRow.holds Tryz.pinned (OpenSpec.upto lowerCompilesSpec)

/-- 'soundpostlaw19.LowerOperands', WHERE WHAT IT READS IS OF BULK AT MOST 1048576: true; the input reads as it did. -/
def lowerOperandsUptoRow : OpenClaim := { program := "ythpbakljheeabaagreatdoor", sum := "7e08cc8ae57ef10d140e73a59e24f50b5592985968f63e46e97b7ca9a6874032", func := "soundpost/soundpostlaw19.LowerOperands", spec := "lowerOperands", inPlace := ["internal/bytealg.IndexByteString", "internal/bytealg.IndexString"], unfollowed := true, recurses := true, named := ["internal/bytealg.MaxLen", "soundpost/ranges.samples"], plainKeys := false, apart := false, laid := [("soundpost/ranges.samples", laid_soundpost_ranges_samples)], narrowed := true }
def LowerOperandsUptoSaid : Prop := lowerOperandsUptoRow.holds Tryz.pinned (OpenSpec.upto lowerOperandsSpec)

/-- 'soundpostlaw19.LowerJoined', WHERE WHAT IT READS IS OF BULK AT MOST 1048576: true; the input reads as it did. -/
def lowerJoinedUptoRow : OpenClaim := { program := "ythpbakljheeabaagreatdoor", sum := "7e08cc8ae57ef10d140e73a59e24f50b5592985968f63e46e97b7ca9a6874032", func := "soundpost/soundpostlaw19.LowerJoined", spec := "lowerJoined", inPlace := ["internal/bytealg.IndexByteString", "internal/bytealg.IndexString"], unfollowed := true, recurses := true, named := ["internal/bytealg.MaxLen", "soundpost/ranges.samples"], plainKeys := false, apart := false, laid := [("soundpost/ranges.samples", laid_soundpost_ranges_samples)], narrowed := true }
def LowerJoinedUptoSaid : Prop := lowerJoinedUptoRow.holds Tryz.pinned (OpenSpec.upto lowerJoinedSpec)

/-- 'soundpostlaw19.LowerLess', WHERE WHAT IT READS IS OF BULK AT MOST 1048576: true; the input reads as it did. -/
def lowerLessUptoRow : OpenClaim := { program := "ythpbakljheeabaagreatdoor", sum := "7e08cc8ae57ef10d140e73a59e24f50b5592985968f63e46e97b7ca9a6874032", func := "soundpost/soundpostlaw19.LowerLess", spec := "lowerLess", inPlace := ["internal/bytealg.IndexByteString", "internal/bytealg.IndexString"], unfollowed := true, recurses := true, named := ["internal/bytealg.MaxLen", "soundpost/ranges.samples"], plainKeys := false, apart := false, laid := [("soundpost/ranges.samples", laid_soundpost_ranges_samples)], narrowed := true }
def LowerLessUptoSaid : Prop := lowerLessUptoRow.holds Tryz.pinned (OpenSpec.upto lowerLessSpec)

end Rows
end Go.Proofs.YthpbakljheeabaaGreatDoor
