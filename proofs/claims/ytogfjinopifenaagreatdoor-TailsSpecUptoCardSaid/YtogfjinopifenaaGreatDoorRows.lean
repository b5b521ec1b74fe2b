/-
  NARROWER THAN 'FOR EVERY INPUT', by the rows' own cells (each row's printed sentence says how): TailsSpec: loops, laid · TailsCheckSpec: loops, laid.
  DERIVED. THE GIVEN ROWS OF THIS SEAT. 2 by the template 'for every input the law returns true; each argument reads behind the call as it read before'; 0 by the template 'total and deterministic' (their statements: YtogfjinopifenaaGreatDoorTotals.lean).
  GIVEN WITH THE SEED: the statements are not yours to turn. If you find one false, say at which input.
  Laid BY PROGRAM, IN A SANDBOX (cutbox-rows.mjs): the forced cells as the released guide's own fill.sh prints them over the translation db634e4400012bd1… (all of the seat's roots in one cut). By AI agents, Wed Nov 11 2026. No macro, syntax, notation, axiom, sorry.
-/
import Derived.Test.YtogfjinopifenaaGreatDoorChecked
import GoSem.Claim
import GoSem.ClaimJoined
import GoSem.ClaimMapViews
import Derived.JoinedTies
import Derived.KernelRfl
namespace Go.Proofs.YtogfjinopifenaaGreatDoor
/- THE CELL 'sum', in the pinned program and in every row, IS THE sha256 OF THE DUMP (.gsa) THAT YtogfjinopifenaaGreatDoorProg.lean LOADS. Nothing in Lean hashes anything: it is a label: what it is worth is what the hold of that sum in a sandbox is worth. -/
noncomputable def Tryz.pinned : Pinned := { name := "ytogfjinopifenaagreatdoor", sum := "db634e4400012bd19b46208036940aab5b884ae7aa0a9db182a71cf77d035127", checked := Tryz.checked }
namespace Rows
def none {H : Type} : Left H := { results := [], args := [] }

/- WHAT THE LISTED PACKAGE-LEVEL VARIABLES READ AS WHEN THE CALL BEGINS. Each datum BY PROGRAM (the guide's laid-datum.mjs) off the statement by which the dump's own 'gosem.cut.vars' lays the variable. In a bare row this is a premise. The card (YtogfjinopifenaaGreatDoorCards.lean) ties it to the program's text. -/
def laid_soundpost_ranges_samples {H : Type} : DataW H := .agg [.lit (.int .i64 (-2147483648)), .lit (.int .i64 2147483647)]

/-- 'soundpostlaw17.TailsSpec': WHATEVER THE INPUT: true; the input reads as it did. -/
def tailsSpecSpec : ChangeSpec := { name := "tailsSpec", fn := fun _ => fun
  | [d] => { results := [.lit (.bool true)], args := [d] }
  | _ => none }
def tailsSpecRow : OpenClaim := { program := "ytogfjinopifenaagreatdoor", sum := "db634e4400012bd19b46208036940aab5b884ae7aa0a9db182a71cf77d035127", func := "soundpost/soundpostlaw17.TailsSpec", spec := "tailsSpec", inPlace := ["internal/bytealg.IndexByteString", "internal/bytealg.IndexString"], unfollowed := true, recurses := true, named := ["internal/bytealg.MaxLen", "soundpost/ranges.samples"], loops := true, plainKeys := false, apart := false, laid := [("soundpost/ranges.samples", laid_soundpost_ranges_samples)] }
def TailsSpecSaid : Prop := tailsSpecRow.holds Tryz.pinned (OpenSpec.ofChange tailsSpecSpec)

/-- ITS FALSE NEIGHBOUR: 'it returns false'. Refute it at one input. -/
def tailsSpecWrong : ChangeSpec := { name := "tailsSpec", fn := fun _ => fun
  | [d] => { results := [.lit (.bool false)], args := [d] }
  | _ => none }
def TailsSpecWrongFalsely : Prop := tailsSpecRow.holds Tryz.pinned (OpenSpec.ofChange tailsSpecWrong)

/-- 'soundpostlaw17.TailsCheckSpec': WHATEVER THE INPUT: true; the input reads as it did. -/
def tailsCheckSpecSpec : ChangeSpec := { name := "tailsCheckSpec", fn := fun _ => fun
  | [d] => { results := [.lit (.bool true)], args := [d] }
  | _ => none }
def tailsCheckSpecRow : OpenClaim := { program := "ytogfjinopifenaagreatdoor", sum := "db634e4400012bd19b46208036940aab5b884ae7aa0a9db182a71cf77d035127", func := "soundpost/soundpostlaw17.TailsCheckSpec", spec := "tailsCheckSpec", inPlace := ["internal/bytealg.IndexByteString", "internal/bytealg.IndexString"], unfollowed := true, recurses := true, named := ["internal/bytealg.MaxLen", "soundpost/ranges.samples"], loops := true, plainKeys := false, apart := false, laid := [("soundpost/ranges.samples", laid_soundpost_ranges_samples)] }
def TailsCheckSpecSaid : Prop := tailsCheckSpecRow.holds Tryz.pinned (OpenSpec.ofChange tailsCheckSpecSpec)

/-- ITS FALSE NEIGHBOUR: 'it returns false'. Refute it at one input. -/
def tailsCheckSpecWrong : ChangeSpec := { name := "tailsCheckSpec", fn := fun _ => fun
  | [d] => { results := [.lit (.bool false)], args := [d] }
  | _ => none }
def TailsCheckSpecWrongFalsely : Prop := tailsCheckSpecRow.holds Tryz.pinned (OpenSpec.ofChange tailsCheckSpecWrong)

/- THE SECOND FORM. 'bulk': how many values and letters a reading holds, each counted each time it is reached (what is shared counts as often as it is met; a slice's spare places count too). A statement '..UptoSaid' is the law's where the arguments, and the package variables that the reading takes, are together of bulk at most 1048576: NARROWER than '..Said'. Prove '..Said' where nothing that the law and all that it calls make is longer than what came in: it says more and counts as full. Else prove '..UptoSaid'. A law counts once. -/
mutual
def uptoBulk {H : Type} : DataW H → Nat
  | .lit (.string bytes) => bytes.length + 1
  | .lit _ => 1
  | .nil => 1
  | .ptr d => uptoBulk d + 1
  | .slice elems spare => uptoBulkAll elems + uptoBulkAll spare + 1
  | .agg parts => uptoBulkAll parts + 1
  | .iface _ d => uptoBulk d + 1
  | .map entries => uptoBulkEntries entries + 1
  | .held _ => 1
def uptoBulkAll {H : Type} : List (DataW H) → Nat
  | [] => 0
  | d :: r => uptoBulk d + uptoBulkAll r
def uptoBulkEntries {H : Type} : List (Lit × DataW H) → Nat
  | [] => 0
  | x :: r => uptoBulkEntry x + uptoBulkEntries r
def uptoBulkEntry {H : Type} : Lit × DataW H → Nat
  | (.string bytes, d) => bytes.length + uptoBulk d + 1
  | (_, d) => uptoBulk d + 1
 end
def uptoSmall : (H : Type) → List (DataW H) → Bool := fun _ ds => decide (uptoBulkAll ds ≤ 1048576)
def OpenSpec.upto (s : _root_.Go.ChangeSpec) : _root_.Go.OpenSpec := { _root_.Go.OpenSpec.ofChange s with cond := some uptoSmall }

/-- 'soundpostlaw17.TailsSpec', WHERE WHAT IT READS IS OF BULK AT MOST 1048576: true; the input reads as it did. -/
def tailsSpecUptoRow : OpenClaim := { program := "ytogfjinopifenaagreatdoor", sum := "db634e4400012bd19b46208036940aab5b884ae7aa0a9db182a71cf77d035127", func := "soundpost/soundpostlaw17.TailsSpec", spec := "tailsSpec", inPlace := ["internal/bytealg.IndexByteString", "internal/bytealg.IndexString"], unfollowed := true, recurses := true, named := ["internal/bytealg.MaxLen", "soundpost/ranges.samples"], loops := true, plainKeys := false, apart := false, laid := [("soundpost/ranges.samples", laid_soundpost_ranges_samples)], narrowed := true }
def TailsSpecUptoSaid : Prop := tailsSpecUptoRow.holds Tryz.pinned (OpenSpec.upto tailsSpecSpec)

/-- 'soundpostlaw17.TailsCheckSpec', WHERE WHAT IT READS IS OF BULK AT MOST 1048576: true; the input reads as it did. -/
def tailsCheckSpecUptoRow : OpenClaim := { program := "ytogfjinopifenaagreatdoor", sum := "db634e4400012bd19b46208036940aab5b884ae7aa0a9db182a71cf77d035127", func := "soundpost/soundpostlaw17.TailsCheckSpec", spec := "tailsCheckSpec", inPlace := ["internal/bytealg.IndexByteString", "internal/bytealg.IndexString"], unfollowed := true, recurses := true, named := ["internal/bytealg.MaxLen", "soundpost/ranges.samples"], loops := true, plainKeys := false, apart := false, laid := [("soundpost/ranges.samples", laid_soundpost_ranges_samples)], narrowed := true }
def TailsCheckSpecUptoSaid : Prop := tailsCheckSpecUptoRow.holds Tryz.pinned (OpenSpec.upto tailsCheckSpecSpec)

end Rows
end Go.Proofs.YtogfjinopifenaaGreatDoor
