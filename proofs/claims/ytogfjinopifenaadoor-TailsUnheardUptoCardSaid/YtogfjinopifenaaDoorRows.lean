/-
  NARROWER THAN 'FOR EVERY INPUT', by the rows' own cells (each row's printed sentence says how): TailsDeclared: loops, laid · TailsBound: loops, laid · TailsRow: laid · TailsUnheard: loops, laid.
  DERIVED. THE GIVEN ROWS OF THIS SEAT. 4 by the template 'for every input the law returns true; each argument reads behind the call as it read before'; 0 by the template 'total and deterministic' (their statements: YtogfjinopifenaaDoorTotals.lean).
  GIVEN WITH THE SEED: the statements are not yours to turn. If you find one false, say at which input.
  Laid BY PROGRAM, IN A SANDBOX (cutbox-rows.mjs): the forced cells as the released guide's own fill.sh prints them over the translation 4f1eaf36b6d8bca0… (all of the seat's roots in one cut). By AI agents, Wed Nov 11 2026. No macro, syntax, notation, axiom, sorry.
-/
import Derived.Test.YtogfjinopifenaaDoorChecked
import GoSem.Claim
import GoSem.ClaimJoined
import GoSem.ClaimMapViews
import Derived.JoinedTies
import Derived.KernelRfl
namespace Go.Proofs.YtogfjinopifenaaDoor
/- THE CELL 'sum', in the pinned program and in every row, IS THE sha256 OF THE DUMP (.gsa) THAT YtogfjinopifenaaDoorProg.lean LOADS. Nothing in Lean hashes anything: it is a label: what it is worth is what the hold of that sum in a sandbox is worth. -/
noncomputable def Tryd.pinned : Pinned := { name := "ytogfjinopifenaadoor", sum := "4f1eaf36b6d8bca08aab6dceed87376a80d007f0dd4e001c9ed4909fdce30f3b", checked := Tryd.checked }
namespace Rows
def none {H : Type} : Left H := { results := [], args := [] }

/- WHAT THE LISTED PACKAGE-LEVEL VARIABLES READ AS WHEN THE CALL BEGINS. Each datum BY PROGRAM (the guide's laid-datum.mjs) off the statement by which the dump's own 'gosem.cut.vars' lays the variable. In a bare row this is a premise. The card (YtogfjinopifenaaDoorCards.lean) ties it to the program's text. -/
def laid_soundpost_ranges_samples {H : Type} : DataW H := .agg [.lit (.int .i64 (-2147483648)), .lit (.int .i64 2147483647)]

/-- 'soundpostlaw17.TailsDeclared': WHATEVER THE INPUT: true; the input reads as it did. -/
def tailsDeclaredSpec : ChangeSpec := { name := "tailsDeclared", fn := fun _ => fun
  | [d] => { results := [.lit (.bool true)], args := [d] }
  | _ => none }
def tailsDeclaredRow : OpenClaim := { program := "ytogfjinopifenaadoor", sum := "4f1eaf36b6d8bca08aab6dceed87376a80d007f0dd4e001c9ed4909fdce30f3b", func := "soundpost/soundpostlaw17.TailsDeclared", spec := "tailsDeclared", inPlace := ["internal/bytealg.IndexByteString", "internal/bytealg.IndexString"], unfollowed := true, recurses := true, named := ["internal/bytealg.MaxLen", "soundpost/ranges.samples"], loops := true, plainKeys := false, apart := false, laid := [("soundpost/ranges.samples", laid_soundpost_ranges_samples)] }
def TailsDeclaredSaid : Prop := tailsDeclaredRow.holds Tryd.pinned (OpenSpec.ofChange tailsDeclaredSpec)

/-- ITS FALSE NEIGHBOUR: 'it returns false'. Refute it at one input. -/
def tailsDeclaredWrong : ChangeSpec := { name := "tailsDeclared", fn := fun _ => fun
  | [d] => { results := [.lit (.bool false)], args := [d] }
  | _ => none }
def TailsDeclaredWrongFalsely : Prop := tailsDeclaredRow.holds Tryd.pinned (OpenSpec.ofChange tailsDeclaredWrong)

/-- 'soundpostlaw17.TailsBound': WHATEVER THE INPUT: true; the input reads as it did. -/
def tailsBoundSpec : ChangeSpec := { name := "tailsBound", fn := fun _ => fun
  | [d1, d2, d3] => { results := [.lit (.bool true)], args := [d1, d2, d3] }
  | _ => none }
def tailsBoundRow : OpenClaim := { program := "ytogfjinopifenaadoor", sum := "4f1eaf36b6d8bca08aab6dceed87376a80d007f0dd4e001c9ed4909fdce30f3b", func := "soundpost/soundpostlaw17.TailsBound", spec := "tailsBound", inPlace := ["internal/bytealg.IndexByteString", "internal/bytealg.IndexString"], unfollowed := true, recurses := true, named := ["internal/bytealg.MaxLen", "soundpost/ranges.samples"], loops := true, plainKeys := false, apart := false, laid := [("soundpost/ranges.samples", laid_soundpost_ranges_samples)] }
def TailsBoundSaid : Prop := tailsBoundRow.holds Tryd.pinned (OpenSpec.ofChange tailsBoundSpec)

/-- ITS FALSE NEIGHBOUR: 'it returns false'. Refute it at one input. -/
def tailsBoundWrong : ChangeSpec := { name := "tailsBound", fn := fun _ => fun
  | [d1, d2, d3] => { results := [.lit (.bool false)], args := [d1, d2, d3] }
  | _ => none }
def TailsBoundWrongFalsely : Prop := tailsBoundRow.holds Tryd.pinned (OpenSpec.ofChange tailsBoundWrong)

/-- 'soundpostlaw17.TailsRow': WHATEVER THE INPUT: true; the input reads as it did. -/
def tailsRowSpec : ChangeSpec := { name := "tailsRow", fn := fun _ => fun
  | [d] => { results := [.lit (.bool true)], args := [d] }
  | _ => none }
def tailsRowRow : OpenClaim := { program := "ytogfjinopifenaadoor", sum := "4f1eaf36b6d8bca08aab6dceed87376a80d007f0dd4e001c9ed4909fdce30f3b", func := "soundpost/soundpostlaw17.TailsRow", spec := "tailsRow", inPlace := ["internal/bytealg.IndexByteString", "internal/bytealg.IndexString"], unfollowed := true, recurses := true, named := ["internal/bytealg.MaxLen", "soundpost/ranges.samples"], plainKeys := false, apart := false, laid := [("soundpost/ranges.samples", laid_soundpost_ranges_samples)] }
def TailsRowSaid : Prop := tailsRowRow.holds Tryd.pinned (OpenSpec.ofChange tailsRowSpec)

/-- ITS FALSE NEIGHBOUR: 'it returns false'. Refute it at one input. -/
def tailsRowWrong : ChangeSpec := { name := "tailsRow", fn := fun _ => fun
  | [d] => { results := [.lit (.bool false)], args := [d] }
  | _ => none }
def TailsRowWrongFalsely : Prop := tailsRowRow.holds Tryd.pinned (OpenSpec.ofChange tailsRowWrong)

/-- 'soundpostlaw17.TailsUnheard': WHATEVER THE INPUT: true; the input reads as it did. -/
def tailsUnheardSpec : ChangeSpec := { name := "tailsUnheard", fn := fun _ => fun
  | [d1, d2] => { results := [.lit (.bool true)], args := [d1, d2] }
  | _ => none }
def tailsUnheardRow : OpenClaim := { program := "ytogfjinopifenaadoor", sum := "4f1eaf36b6d8bca08aab6dceed87376a80d007f0dd4e001c9ed4909fdce30f3b", func := "soundpost/soundpostlaw17.TailsUnheard", spec := "tailsUnheard", inPlace := ["internal/bytealg.IndexByteString", "internal/bytealg.IndexString"], unfollowed := true, recurses := true, named := ["internal/bytealg.MaxLen", "soundpost/ranges.samples"], loops := true, plainKeys := false, apart := false, laid := [("soundpost/ranges.samples", laid_soundpost_ranges_samples)] }
def TailsUnheardSaid : Prop := tailsUnheardRow.holds Tryd.pinned (OpenSpec.ofChange tailsUnheardSpec)

/-- ITS FALSE NEIGHBOUR: 'it returns false'. Refute it at one input. -/
def tailsUnheardWrong : ChangeSpec := { name := "tailsUnheard", fn := fun _ => fun
  | [d1, d2] => { results := [.lit (.bool false)], args := [d1, d2] }
  | _ => none }
def TailsUnheardWrongFalsely : Prop := tailsUnheardRow.holds Tryd.pinned (OpenSpec.ofChange tailsUnheardWrong)

/- THE SECOND FORM. 'bulk': how many values and letters a reading holds, each counted each time it is reached (what is shared counts as often as it is met; a slice's spare places count too). A statement '..UptoSaid' is the law's where the arguments, and the package variables that the reading takes, are together of bulk at most 1048576: NARROWER than '..Said'. Prove '..Said' where nothing that the law and all that it calls make is longer than what came in: it says more and counts as full. Else prove '..UptoSaid'. A law counts once. -/
mutual
def uptoBulk {H : Type} : DataW H → Nat
  | .lit (.string bytes) => bytes.length + 1
  | .lit _ => 1
  | .nil => 1
  | .ptr d => uptoBulk d + 1
  | .slice elems spare => uptoBulkAll elems + uptoBulkAll spare + 1
  | .agg parts => uptoBulkAll parts + 1
  | .iface _ d => uptoBulk d + 1
  | .map entries => uptoBulkEntries entries + 1
  | .held _ => 1
def uptoBulkAll {H : Type} : List (DataW H) → Nat
  | [] => 0
  | d :: r => uptoBulk d + uptoBulkAll r
def uptoBulkEntries {H : Type} : List (Lit × DataW H) → Nat
  | [] => 0
  | x :: r => uptoBulkEntry x + uptoBulkEntries r
def uptoBulkEntry {H : Type} : Lit × DataW H → Nat
  | (.string bytes, d) => bytes.length + uptoBulk d + 1
  | (_, d) => uptoBulk d + 1
 end
def uptoSmall : (H : Type) → List (DataW H) → Bool := fun _ ds => decide (uptoBulkAll ds ≤ 1048576)
def OpenSpec.upto (s : _root_.Go.ChangeSpec) : _root_.Go.OpenSpec := { _root_.Go.OpenSpec.ofChange s with cond := some uptoSmall }

/-- 'soundpostlaw17.TailsDeclared', WHERE WHAT IT READS IS OF BULK AT MOST 1048576: true; the input reads as it did. -/
def tailsDeclaredUptoRow : OpenClaim := { program := "ytogfjinopifenaadoor", sum := "4f1eaf36b6d8bca08aab6dceed87376a80d007f0dd4e001c9ed4909fdce30f3b", func := "soundpost/soundpostlaw17.TailsDeclared", spec := "tailsDeclared", inPlace := ["internal/bytealg.IndexByteString", "internal/bytealg.IndexString"], unfollowed := true, recurses := true, named := ["internal/bytealg.MaxLen", "soundpost/ranges.samples"], loops := true, plainKeys := false, apart := false, laid := [("soundpost/ranges.samples", laid_soundpost_ranges_samples)], narrowed := true }
def TailsDeclaredUptoSaid : Prop := tailsDeclaredUptoRow.holds Tryd.pinned (OpenSpec.upto tailsDeclaredSpec)

/-- 'soundpostlaw17.TailsBound', WHERE WHAT IT READS IS OF BULK AT MOST 1048576: true; the input reads as it did. -/
def tailsBoundUptoRow : OpenClaim := { program := "ytogfjinopifenaadoor", sum := "4f1eaf36b6d8bca08aab6dceed87376a80d007f0dd4e001c9ed4909fdce30f3b", func := "soundpost/soundpostlaw17.TailsBound", spec := "tailsBound", inPlace := ["internal/bytealg.IndexByteString", "internal/bytealg.IndexString"], unfollowed := true, recurses := true, named := ["internal/bytealg.MaxLen", "soundpost/ranges.samples"], loops := true, plainKeys := false, apart := false, laid := [("soundpost/ranges.samples", laid_soundpost_ranges_samples)], narrowed := true }
def TailsBoundUptoSaid : Prop := tailsBoundUptoRow.holds Tryd.pinned (OpenSpec.upto tailsBoundSpec)

/-- 'soundpostlaw17.TailsRow', WHERE WHAT IT READS IS OF BULK AT MOST 1048576: true; the input reads as it did. -/
def tailsRowUptoRow : OpenClaim := { program := "ytogfjinopifenaadoor", sum := "4f1eaf36b6d8bca08aab6dceed87376a80d007f0dd4e001c9ed4909fdce30f3b", func := "soundpost/soundpostlaw17.TailsRow", spec := "tailsRow", inPlace := ["internal/bytealg.IndexByteString", "internal/bytealg.IndexString"], unfollowed := true, recurses := true, named := ["internal/bytealg.MaxLen", "soundpost/ranges.samples"], plainKeys := false, apart := false, laid := [("soundpost/ranges.samples", laid_soundpost_ranges_samples)], narrowed := true }
def TailsRowUptoSaid : Prop := tailsRowUptoRow.holds Tryd.pinned (OpenSpec.upto tailsRowSpec)

/-- 'soundpostlaw17.TailsUnheard', WHERE WHAT IT READS IS OF BULK AT MOST 1048576: true; the input reads as it did. -/
def tailsUnheardUptoRow : OpenClaim := { program := "ytogfjinopifenaadoor", sum := "4f1eaf36b6d8bca08aab6dceed87376a80d007f0dd4e001c9ed4909fdce30f3b", func := "soundpost/soundpostlaw17.TailsUnheard", spec := "tailsUnheard", inPlace := ["internal/bytealg.IndexByteString", "internal/bytealg.IndexString"], unfollowed := true, recurses := true, named := ["internal/bytealg.MaxLen", "soundpost/ranges.samples"], loops := true, plainKeys := false, apart := false, laid := [("soundpost/ranges.samples", laid_soundpost_ranges_samples)], narrowed := true }
def TailsUnheardUptoSaid : Prop := tailsUnheardUptoRow.holds Tryd.pinned (OpenSpec.upto tailsUnheardSpec)

end Rows
end Go.Proofs.YtogfjinopifenaaDoor
