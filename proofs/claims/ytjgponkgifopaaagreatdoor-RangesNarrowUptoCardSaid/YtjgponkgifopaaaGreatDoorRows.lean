/-
  NARROWER THAN 'FOR EVERY INPUT', by the rows' own cells (each row's printed sentence says how): RangesSpec: loops, laid · RangesIntervalSpec: loops, laid · RangesSound: loops, laid · RangesEach: loops, laid · RangesNarrow: loops, laid · RangesSat: loops, laid.
  DERIVED. THE GIVEN ROWS OF THIS SEAT. 6 by the template 'for every input the law returns true; each argument reads behind the call as it read before'; 0 by the template 'total and deterministic' (their statements: YtjgponkgifopaaaGreatDoorTotals.lean).
  GIVEN WITH THE SEED: the statements are not yours to turn. If you find one false, say at which input.
  Laid BY PROGRAM, IN A SANDBOX (cutbox-rows.mjs): the forced cells as the released guide's own fill.sh prints them over the translation 8a954b86db6c307c… (all of the seat's roots in one cut). By AI agents, Wed Nov 11 2026. No macro, syntax, notation, axiom, sorry.
-/
import Derived.Test.YtjgponkgifopaaaGreatDoorChecked
import GoSem.Claim
import GoSem.ClaimJoined
import GoSem.ClaimMapViews
import Derived.JoinedTies
import Derived.KernelRfl
namespace Go.Proofs.YtjgponkgifopaaaGreatDoor
/- THE CELL 'sum', in the pinned program and in every row, IS THE sha256 OF THE DUMP (.gsa) THAT YtjgponkgifopaaaGreatDoorProg.lean LOADS. Nothing in Lean hashes anything: it is a label: what it is worth is what the hold of that sum in a sandbox is worth. -/
noncomputable def Tryz.pinned : Pinned := { name := "ytjgponkgifopaaagreatdoor", sum := "8a954b86db6c307c68b6dce4eab4c0ec20b3c5e6f13654892b0b65897a483e5f", checked := Tryz.checked }
namespace Rows
def none {H : Type} : Left H := { results := [], args := [] }

/- WHAT THE LISTED PACKAGE-LEVEL VARIABLES READ AS WHEN THE CALL BEGINS. Each datum BY PROGRAM (the guide's laid-datum.mjs) off the statement by which the dump's own 'gosem.cut.vars' lays the variable. In a bare row this is a premise. The card (YtjgponkgifopaaaGreatDoorCards.lean) ties it to the program's text. -/
def laid_soundpost_ranges_samples {H : Type} : DataW H := .agg [.lit (.int .i64 (-2147483648)), .lit (.int .i64 2147483647)]

/-- 'soundpostlaw16.RangesSpec': WHATEVER THE INPUT: true; the input reads as it did. -/
def rangesSpecSpec : ChangeSpec := { name := "rangesSpec", fn := fun _ => fun
  | [d] => { results := [.lit (.bool true)], args := [d] }
  | _ => none }
def rangesSpecRow : OpenClaim := { program := "ytjgponkgifopaaagreatdoor", sum := "8a954b86db6c307c68b6dce4eab4c0ec20b3c5e6f13654892b0b65897a483e5f", func := "soundpost/soundpostlaw16.RangesSpec", spec := "rangesSpec", inPlace := ["internal/bytealg.IndexByteString", "internal/bytealg.IndexString"], unfollowed := true, recurses := true, named := ["internal/bytealg.MaxLen", "soundpost/ranges.samples"], loops := true, plainKeys := false, apart := false, laid := [("soundpost/ranges.samples", laid_soundpost_ranges_samples)] }
def RangesSpecSaid : Prop := rangesSpecRow.holds Tryz.pinned (OpenSpec.ofChange rangesSpecSpec)

/-- ITS FALSE NEIGHBOUR: 'it returns false'. Refute it at one input. -/
def rangesSpecWrong : ChangeSpec := { name := "rangesSpec", fn := fun _ => fun
  | [d] => { results := [.lit (.bool false)], args := [d] }
  | _ => none }
def RangesSpecWrongFalsely : Prop := rangesSpecRow.holds Tryz.pinned (OpenSpec.ofChange rangesSpecWrong)

/-- 'soundpostlaw16.RangesIntervalSpec': WHATEVER THE INPUT: true; the input reads as it did. -/
def rangesIntervalSpecSpec : ChangeSpec := { name := "rangesIntervalSpec", fn := fun _ => fun
  | [d1, d2] => { results := [.lit (.bool true)], args := [d1, d2] }
  | _ => none }
def rangesIntervalSpecRow : OpenClaim := { program := "ytjgponkgifopaaagreatdoor", sum := "8a954b86db6c307c68b6dce4eab4c0ec20b3c5e6f13654892b0b65897a483e5f", func := "soundpost/soundpostlaw16.RangesIntervalSpec", spec := "rangesIntervalSpec", inPlace := ["internal/bytealg.IndexByteString", "internal/bytealg.IndexString"], unfollowed := true, recurses := true, named := ["internal/bytealg.MaxLen", "soundpost/ranges.samples"], loops := true, plainKeys := false, apart := false, laid := [("soundpost/ranges.samples", laid_soundpost_ranges_samples)] }
def RangesIntervalSpecSaid : Prop := rangesIntervalSpecRow.holds Tryz.pinned (OpenSpec.ofChange rangesIntervalSpecSpec)

/-- ITS FALSE NEIGHBOUR: 'it returns false'. Refute it at one input. -/
def rangesIntervalSpecWrong : ChangeSpec := { name := "rangesIntervalSpec", fn := fun _ => fun
  | [d1, d2] => { results := [.lit (.bool false)], args := [d1, d2] }
  | _ => none }
def RangesIntervalSpecWrongFalsely : Prop := rangesIntervalSpecRow.holds Tryz.pinned (OpenSpec.ofChange rangesIntervalSpecWrong)

/-- 'soundpostlaw16.RangesSound': WHATEVER THE INPUT: true; the input reads as it did. -/
def rangesSoundSpec : ChangeSpec := { name := "rangesSound", fn := fun _ => fun
  | [d1, d2, d3] => { results := [.lit (.bool true)], args := [d1, d2, d3] }
  | _ => none }
def rangesSoundRow : OpenClaim := { program := "ytjgponkgifopaaagreatdoor", sum := "8a954b86db6c307c68b6dce4eab4c0ec20b3c5e6f13654892b0b65897a483e5f", func := "soundpost/soundpostlaw16.RangesSound", spec := "rangesSound", inPlace := ["internal/bytealg.IndexByteString", "internal/bytealg.IndexString"], unfollowed := true, recurses := true, named := ["internal/bytealg.MaxLen", "soundpost/ranges.samples"], loops := true, plainKeys := false, apart := false, laid := [("soundpost/ranges.samples", laid_soundpost_ranges_samples)] }
def RangesSoundSaid : Prop := rangesSoundRow.holds Tryz.pinned (OpenSpec.ofChange rangesSoundSpec)

/-- ITS FALSE NEIGHBOUR: 'it returns false'. Refute it at one input. -/
def rangesSoundWrong : ChangeSpec := { name := "rangesSound", fn := fun _ => fun
  | [d1, d2, d3] => { results := [.lit (.bool false)], args := [d1, d2, d3] }
  | _ => none }
def RangesSoundWrongFalsely : Prop := rangesSoundRow.holds Tryz.pinned (OpenSpec.ofChange rangesSoundWrong)

/-- 'soundpostlaw16.RangesEach': WHATEVER THE INPUT: true; the input reads as it did. -/
def rangesEachSpec : ChangeSpec := { name := "rangesEach", fn := fun _ => fun
  | [d1, d2] => { results := [.lit (.bool true)], args := [d1, d2] }
  | _ => none }
def rangesEachRow : OpenClaim := { program := "ytjgponkgifopaaagreatdoor", sum := "8a954b86db6c307c68b6dce4eab4c0ec20b3c5e6f13654892b0b65897a483e5f", func := "soundpost/soundpostlaw16.RangesEach", spec := "rangesEach", inPlace := ["internal/bytealg.IndexByteString", "internal/bytealg.IndexString"], unfollowed := true, recurses := true, named := ["internal/bytealg.MaxLen", "soundpost/ranges.samples"], loops := true, plainKeys := false, apart := false, laid := [("soundpost/ranges.samples", laid_soundpost_ranges_samples)] }
def RangesEachSaid : Prop := rangesEachRow.holds Tryz.pinned (OpenSpec.ofChange rangesEachSpec)

/-- ITS FALSE NEIGHBOUR: 'it returns false'. Refute it at one input. -/
def rangesEachWrong : ChangeSpec := { name := "rangesEach", fn := fun _ => fun
  | [d1, d2] => { results := [.lit (.bool false)], args := [d1, d2] }
  | _ => none }
def RangesEachWrongFalsely : Prop := rangesEachRow.holds Tryz.pinned (OpenSpec.ofChange rangesEachWrong)

/-- 'soundpostlaw16.RangesNarrow': WHATEVER THE INPUT: true; the input reads as it did. -/
def rangesNarrowSpec : ChangeSpec := { name := "rangesNarrow", fn := fun _ => fun
  | [d1, d2, d3] => { results := [.lit (.bool true)], args := [d1, d2, d3] }
  | _ => none }
def rangesNarrowRow : OpenClaim := { program := "ytjgponkgifopaaagreatdoor", sum := "8a954b86db6c307c68b6dce4eab4c0ec20b3c5e6f13654892b0b65897a483e5f", func := "soundpost/soundpostlaw16.RangesNarrow", spec := "rangesNarrow", inPlace := ["internal/bytealg.IndexByteString", "internal/bytealg.IndexString"], unfollowed := true, recurses := true, named := ["internal/bytealg.MaxLen", "soundpost/ranges.samples"], loops := true, plainKeys := false, apart := false, laid := [("soundpost/ranges.samples", laid_soundpost_ranges_samples)] }
def RangesNarrowSaid : Prop := rangesNarrowRow.holds Tryz.pinned (OpenSpec.ofChange rangesNarrowSpec)

/-- ITS FALSE NEIGHBOUR: 'it returns false'. Refute it at one input. -/
def rangesNarrowWrong : ChangeSpec := { name := "rangesNarrow", fn := fun _ => fun
  | [d1, d2, d3] => { results := [.lit (.bool false)], args := [d1, d2, d3] }
  | _ => none }
def RangesNarrowWrongFalsely : Prop := rangesNarrowRow.holds Tryz.pinned (OpenSpec.ofChange rangesNarrowWrong)

/-- 'soundpostlaw16.RangesSat': WHATEVER THE INPUT: true; the input reads as it did. -/
def rangesSatSpec : ChangeSpec := { name := "rangesSat", fn := fun _ => fun
  | [d] => { results := [.lit (.bool true)], args := [d] }
  | _ => none }
def rangesSatRow : OpenClaim := { program := "ytjgponkgifopaaagreatdoor", sum := "8a954b86db6c307c68b6dce4eab4c0ec20b3c5e6f13654892b0b65897a483e5f", func := "soundpost/soundpostlaw16.RangesSat", spec := "rangesSat", inPlace := ["internal/bytealg.IndexByteString", "internal/bytealg.IndexString"], unfollowed := true, recurses := true, named := ["internal/bytealg.MaxLen", "soundpost/ranges.samples"], loops := true, plainKeys := false, apart := false, laid := [("soundpost/ranges.samples", laid_soundpost_ranges_samples)] }
def RangesSatSaid : Prop := rangesSatRow.holds Tryz.pinned (OpenSpec.ofChange rangesSatSpec)

/-- ITS FALSE NEIGHBOUR: 'it returns false'. Refute it at one input. -/
def rangesSatWrong : ChangeSpec := { name := "rangesSat", fn := fun _ => fun
  | [d] => { results := [.lit (.bool false)], args := [d] }
  | _ => none }
def RangesSatWrongFalsely : Prop := rangesSatRow.holds Tryz.pinned (OpenSpec.ofChange rangesSatWrong)

/- THE SECOND FORM. 'bulk': how many values and letters a reading holds, each counted each time it is reached (what is shared counts as often as it is met; a slice's spare places count too). A statement '..UptoSaid' is the law's where the arguments, and the package variables that the reading takes, are together of bulk at most 1048576: NARROWER than '..Said'. Prove '..Said' where nothing that the law and all that it calls make is longer than what came in: it says more and counts as full. Else prove '..UptoSaid'. A law counts once. -/
mutual
def uptoBulk {H : Type} : DataW H → Nat
  | .lit (.string bytes) => bytes.length + 1
  | .lit _ => 1
  | .nil => 1
  | .ptr d => uptoBulk d + 1
  | .slice elems spare => uptoBulkAll elems + uptoBulkAll spare + 1
  | .agg parts => uptoBulkAll parts + 1
  | .iface _ d => uptoBulk d + 1
  | .map entries => uptoBulkEntries entries + 1
  | .held _ => 1
def uptoBulkAll {H : Type} : List (DataW H) → Nat
  | [] => 0
  | d :: r => uptoBulk d + uptoBulkAll r
def uptoBulkEntries {H : Type} : List (Lit × DataW H) → Nat
  | [] => 0
  | x :: r => uptoBulkEntry x + uptoBulkEntries r
def uptoBulkEntry {H : Type} : Lit × DataW H → Nat
  | (.string bytes, d) => bytes.length + uptoBulk d + 1
  | (_, d) => uptoBulk d + 1
 end
def uptoSmall : (H : Type) → List (DataW H) → Bool := fun _ ds => decide (uptoBulkAll ds ≤ 1048576)
def OpenSpec.upto (s : _root_.Go.ChangeSpec) : _root_.Go.OpenSpec := { _root_.Go.OpenSpec.ofChange s with cond := some uptoSmall }

/-- 'soundpostlaw16.RangesSpec', WHERE WHAT IT READS IS OF BULK AT MOST 1048576: true; the input reads as it did. -/
def rangesSpecUptoRow : OpenClaim := { program := "ytjgponkgifopaaagreatdoor", sum := "8a954b86db6c307c68b6dce4eab4c0ec20b3c5e6f13654892b0b65897a483e5f", func := "soundpost/soundpostlaw16.RangesSpec", spec := "rangesSpec", inPlace := ["internal/bytealg.IndexByteString", "internal/bytealg.IndexString"], unfollowed := true, recurses := true, named := ["internal/bytealg.MaxLen", "soundpost/ranges.samples"], loops := true, plainKeys := false, apart := false, laid := [("soundpost/ranges.samples", laid_soundpost_ranges_samples)], narrowed := true }
def RangesSpecUptoSaid : Prop := rangesSpecUptoRow.holds Tryz.pinned (OpenSpec.upto rangesSpecSpec)

/-- 'soundpostlaw16.RangesIntervalSpec', WHERE WHAT IT READS IS OF BULK AT MOST 1048576: true; the input reads as it did. -/
def rangesIntervalSpecUptoRow : OpenClaim := { program := "ytjgponkgifopaaagreatdoor", sum := "8a954b86db6c307c68b6dce4eab4c0ec20b3c5e6f13654892b0b65897a483e5f", func := "soundpost/soundpostlaw16.RangesIntervalSpec", spec := "rangesIntervalSpec", inPlace := ["internal/bytealg.IndexByteString", "internal/bytealg.IndexString"], unfollowed := true, recurses := true, named := ["internal/bytealg.MaxLen", "soundpost/ranges.samples"], loops := true, plainKeys := false, apart := false, laid := [("soundpost/ranges.samples", laid_soundpost_ranges_samples)], narrowed := true }
def RangesIntervalSpecUptoSaid : Prop := rangesIntervalSpecUptoRow.holds Tryz.pinned (OpenSpec.upto rangesIntervalSpecSpec)

/-- 'soundpostlaw16.RangesSound', WHERE WHAT IT READS IS OF BULK AT MOST 1048576: true; the input reads as it did. -/
def rangesSoundUptoRow : OpenClaim := { program := "ytjgponkgifopaaagreatdoor", sum := "8a954b86db6c307c68b6dce4eab4c0ec20b3c5e6f13654892b0b65897a483e5f", func := "soundpost/soundpostlaw16.RangesSound", spec := "rangesSound", inPlace := ["internal/bytealg.IndexByteString", "internal/bytealg.IndexString"], unfollowed := true, recurses := true, named := ["internal/bytealg.MaxLen", "soundpost/ranges.samples"], loops := true, plainKeys := false, apart := false, laid := [("soundpost/ranges.samples", laid_soundpost_ranges_samples)], narrowed := true }
def RangesSoundUptoSaid : Prop := rangesSoundUptoRow.holds Tryz.pinned (OpenSpec.upto rangesSoundSpec)

/-- 'soundpostlaw16.RangesEach', WHERE WHAT IT READS IS OF BULK AT MOST 1048576: true; the input reads as it did. -/
def rangesEachUptoRow : OpenClaim := { program := "ytjgponkgifopaaagreatdoor", sum := "8a954b86db6c307c68b6dce4eab4c0ec20b3c5e6f13654892b0b65897a483e5f", func := "soundpost/soundpostlaw16.RangesEach", spec := "rangesEach", inPlace := ["internal/bytealg.IndexByteString", "internal/bytealg.IndexString"], unfollowed := true, recurses := true, named := ["internal/bytealg.MaxLen", "soundpost/ranges.samples"], loops := true, plainKeys := false, apart := false, laid := [("soundpost/ranges.samples", laid_soundpost_ranges_samples)], narrowed := true }
def RangesEachUptoSaid : Prop := rangesEachUptoRow.holds Tryz.pinned (OpenSpec.upto rangesEachSpec)

/-- 'soundpostlaw16.RangesNarrow', WHERE WHAT IT READS IS OF BULK AT MOST 1048576: true; the input reads as it did. -/
def rangesNarrowUptoRow : OpenClaim := { program := "ytjgponkgifopaaagreatdoor", sum := "8a954b86db6c307c68b6dce4eab4c0ec20b3c5e6f13654892b0b65897a483e5f", func := "soundpost/soundpostlaw16.RangesNarrow", spec := "rangesNarrow", inPlace := ["internal/bytealg.IndexByteString", "internal/bytealg.IndexString"], unfollowed := true, recurses := true, named := ["internal/bytealg.MaxLen", "soundpost/ranges.samples"], loops := true, plainKeys := false, apart := false, laid := [("soundpost/ranges.samples", laid_soundpost_ranges_samples)], narrowed := true }
def RangesNarrowUptoSaid : Prop := rangesNarrowUptoRow.holds Tryz.pinned (OpenSpec.upto rangesNarrowSpec)

/-- 'soundpostlaw16.RangesSat', WHERE WHAT IT READS IS OF BULK AT MOST 1048576: true; the input reads as it did. -/
def rangesSatUptoRow : OpenClaim := { program := "ytjgponkgifopaaagreatdoor", sum := "8a954b86db6c307c68b6dce4eab4c0ec20b3c5e6f13654892b0b65897a483e5f", func := "soundpost/soundpostlaw16.RangesSat", spec := "rangesSat", inPlace := ["internal/bytealg.IndexByteString", "internal/bytealg.IndexString"], unfollowed := true, recurses := true, named := ["internal/bytealg.MaxLen", "soundpost/ranges.samples"], loops := true, plainKeys := false, apart := false, laid := [("soundpost/ranges.samples", laid_soundpost_ranges_samples)], narrowed := true }
def RangesSatUptoSaid : Prop := rangesSatUptoRow.holds Tryz.pinned (OpenSpec.upto rangesSatSpec)

end Rows
end Go.Proofs.YtjgponkgifopaaaGreatDoor
