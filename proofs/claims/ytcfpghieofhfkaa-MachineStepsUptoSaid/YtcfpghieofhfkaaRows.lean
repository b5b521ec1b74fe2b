/-
  No cell of these rows narrows 'for every input' (looked for: loops, veiled, ifaces, maps, wideKeys, modest, calm, conditions, laid).
  DERIVED. THE GIVEN ROWS OF THIS SEAT. 5 by the template 'for every input the law returns true; each argument reads behind the call as it read before'; 0 by the template 'total and deterministic' (their statements: YtcfpghieofhfkaaTotals.lean).
  GIVEN WITH THE SEED: the statements are not yours to turn. If you find one false, say at which input.
  Laid BY PROGRAM, IN A SANDBOX (cutbox-rows.mjs): the forced cells as the released guide's own fill.sh prints them over the translation cb3acd4004c04386… (all of the seat's roots in one cut). By AI agents, Wed Nov 11 2026. No macro, syntax, notation, axiom, sorry.
-/
import Derived.Test.YtcfpghieofhfkaaChecked
import GoSem.Claim
import GoSem.ClaimJoined
import GoSem.ClaimMapViews
import Derived.JoinedTies
import Derived.KernelRfl
namespace Go.Proofs.Ytcfpghieofhfkaa
/- THE CELL 'sum', in the pinned program and in every row, IS THE sha256 OF THE DUMP (.gsa) THAT YtcfpghieofhfkaaProg.lean LOADS. Nothing in Lean hashes anything: it is a label: what it is worth is what the hold of that sum in a sandbox is worth. -/
noncomputable def Try.pinned : Pinned := { name := "ytcfpghieofhfkaa", sum := "cb3acd4004c04386b94a0e5093c618ca7431e69d7de30749e6beb2027490148b", checked := Try.checked }
namespace Rows
def none {H : Type} : Left H := { results := [], args := [] }

/-- 'soundpostlaw20.MachineStepSpec': WHATEVER THE INPUT: true; the input reads as it did. -/
def machineStepSpecSpec : ChangeSpec := { name := "machineStepSpec", fn := fun _ => fun
  | [d1, d2, d3, d4, d5] => { results := [.lit (.bool true)], args := [d1, d2, d3, d4, d5] }
  | _ => none }
def machineStepSpecRow : OpenClaim := { program := "ytcfpghieofhfkaa", sum := "cb3acd4004c04386b94a0e5093c618ca7431e69d7de30749e6beb2027490148b", func := "soundpost/soundpostlaw20.MachineStepSpec", spec := "machineStepSpec", unfollowed := true, recurses := true, apart := false }
def MachineStepSpecSaid : Prop := machineStepSpecRow.holds Try.pinned (OpenSpec.ofChange machineStepSpecSpec)

/-- ITS FALSE NEIGHBOUR: 'it returns false'. Refute it at one input. -/
def machineStepSpecWrong : ChangeSpec := { name := "machineStepSpec", fn := fun _ => fun
  | [d1, d2, d3, d4, d5] => { results := [.lit (.bool false)], args := [d1, d2, d3, d4, d5] }
  | _ => none }
def MachineStepSpecWrongFalsely : Prop := machineStepSpecRow.holds Try.pinned (OpenSpec.ofChange machineStepSpecWrong)

/-- 'soundpostlaw20.MachineRunSpec': WHATEVER THE INPUT: true; the input reads as it did. -/
def machineRunSpecSpec : ChangeSpec := { name := "machineRunSpec", fn := fun _ => fun
  | [d1, d2, d3, d4, d5, d6, d7] => { results := [.lit (.bool true)], args := [d1, d2, d3, d4, d5, d6, d7] }
  | _ => none }
def machineRunSpecRow : OpenClaim := { program := "ytcfpghieofhfkaa", sum := "cb3acd4004c04386b94a0e5093c618ca7431e69d7de30749e6beb2027490148b", func := "soundpost/soundpostlaw20.MachineRunSpec", spec := "machineRunSpec", unfollowed := true, recurses := true, apart := false }
def MachineRunSpecSaid : Prop := machineRunSpecRow.holds Try.pinned (OpenSpec.ofChange machineRunSpecSpec)

/-- ITS FALSE NEIGHBOUR: 'it returns false'. Refute it at one input. -/
def machineRunSpecWrong : ChangeSpec := { name := "machineRunSpec", fn := fun _ => fun
  | [d1, d2, d3, d4, d5, d6, d7] => { results := [.lit (.bool false)], args := [d1, d2, d3, d4, d5, d6, d7] }
  | _ => none }
def MachineRunSpecWrongFalsely : Prop := machineRunSpecRow.holds Try.pinned (OpenSpec.ofChange machineRunSpecWrong)

/-- 'soundpostlaw20.MachineBlocks': WHATEVER THE INPUT: true; the input reads as it did. -/
def machineBlocksSpec : ChangeSpec := { name := "machineBlocks", fn := fun _ => fun
  | [d1, d2, d3, d4, d5, d6, d7] => { results := [.lit (.bool true)], args := [d1, d2, d3, d4, d5, d6, d7] }
  | _ => none }
def machineBlocksRow : OpenClaim := { program := "ytcfpghieofhfkaa", sum := "cb3acd4004c04386b94a0e5093c618ca7431e69d7de30749e6beb2027490148b", func := "soundpost/soundpostlaw20.MachineBlocks", spec := "machineBlocks", unfollowed := true, recurses := true, apart := false }
def MachineBlocksSaid : Prop := machineBlocksRow.holds Try.pinned (OpenSpec.ofChange machineBlocksSpec)

/-- ITS FALSE NEIGHBOUR: 'it returns false'. Refute it at one input. -/
def machineBlocksWrong : ChangeSpec := { name := "machineBlocks", fn := fun _ => fun
  | [d1, d2, d3, d4, d5, d6, d7] => { results := [.lit (.bool false)], args := [d1, d2, d3, d4, d5, d6, d7] }
  | _ => none }
def MachineBlocksWrongFalsely : Prop := machineBlocksRow.holds Try.pinned (OpenSpec.ofChange machineBlocksWrong)

/-- 'soundpostlaw20.MachineSteps': WHATEVER THE INPUT: true; the input reads as it did. -/
def machineStepsSpec : ChangeSpec := { name := "machineSteps", fn := fun _ => fun
  | [d1, d2, d3, d4, d5, d6] => { results := [.lit (.bool true)], args := [d1, d2, d3, d4, d5, d6] }
  | _ => none }
def machineStepsRow : OpenClaim := { program := "ytcfpghieofhfkaa", sum := "cb3acd4004c04386b94a0e5093c618ca7431e69d7de30749e6beb2027490148b", func := "soundpost/soundpostlaw20.MachineSteps", spec := "machineSteps", unfollowed := true, recurses := true, apart := false }
def MachineStepsSaid : Prop := machineStepsRow.holds Try.pinned (OpenSpec.ofChange machineStepsSpec)

/-- ITS FALSE NEIGHBOUR: 'it returns false'. Refute it at one input. -/
def machineStepsWrong : ChangeSpec := { name := "machineSteps", fn := fun _ => fun
  | [d1, d2, d3, d4, d5, d6] => { results := [.lit (.bool false)], args := [d1, d2, d3, d4, d5, d6] }
  | _ => none }
def MachineStepsWrongFalsely : Prop := machineStepsRow.holds Try.pinned (OpenSpec.ofChange machineStepsWrong)

/-- 'soundpostlaw20.MachineUnused': WHATEVER THE INPUT: true; the input reads as it did. -/
def machineUnusedSpec : ChangeSpec := { name := "machineUnused", fn := fun _ => fun
  | [d1, d2, d3, d4, d5, d6] => { results := [.lit (.bool true)], args := [d1, d2, d3, d4, d5, d6] }
  | _ => none }
def machineUnusedRow : OpenClaim := { program := "ytcfpghieofhfkaa", sum := "cb3acd4004c04386b94a0e5093c618ca7431e69d7de30749e6beb2027490148b", func := "soundpost/soundpostlaw20.MachineUnused", spec := "machineUnused", unfollowed := true, recurses := true, apart := false }
def MachineUnusedSaid : Prop := machineUnusedRow.holds Try.pinned (OpenSpec.ofChange machineUnusedSpec)

/-- ITS FALSE NEIGHBOUR: 'it returns false'. Refute it at one input. -/
def machineUnusedWrong : ChangeSpec := { name := "machineUnused", fn := fun _ => fun
  | [d1, d2, d3, d4, d5, d6] => { results := [.lit (.bool false)], args := [d1, d2, d3, d4, d5, d6] }
  | _ => none }
def MachineUnusedWrongFalsely : Prop := machineUnusedRow.holds Try.pinned (OpenSpec.ofChange machineUnusedWrong)

/- THE SECOND FORM. 'bulk': how many values and letters a reading holds, each counted each time it is reached (what is shared counts as often as it is met; a slice's spare places count too). A statement '..UptoSaid' is the law's where the arguments, and the package variables that the reading takes, are together of bulk at most 1048576: NARROWER than '..Said'. Prove '..Said' where nothing that the law and all that it calls make is longer than what came in: it says more and counts as full. Else prove '..UptoSaid'. A law counts once. -/
mutual
def uptoBulk {H : Type} : DataW H → Nat
  | .lit (.string bytes) => bytes.length + 1
  | .lit _ => 1
  | .nil => 1
  | .ptr d => uptoBulk d + 1
  | .slice elems spare => uptoBulkAll elems + uptoBulkAll spare + 1
  | .agg parts => uptoBulkAll parts + 1
  | .iface _ d => uptoBulk d + 1
  | .map entries => uptoBulkEntries entries + 1
  | .held _ => 1
def uptoBulkAll {H : Type} : List (DataW H) → Nat
  | [] => 0
  | d :: r => uptoBulk d + uptoBulkAll r
def uptoBulkEntries {H : Type} : List (Lit × DataW H) → Nat
  | [] => 0
  | x :: r => uptoBulkEntry x + uptoBulkEntries r
def uptoBulkEntry {H : Type} : Lit × DataW H → Nat
  | (.string bytes, d) => bytes.length + uptoBulk d + 1
  | (_, d) => uptoBulk d + 1
 end
def uptoSmall : (H : Type) → List (DataW H) → Bool := fun _ ds => decide (uptoBulkAll ds ≤ 1048576)
def OpenSpec.upto (s : _root_.Go.ChangeSpec) : _root_.Go.OpenSpec := { _root_.Go.OpenSpec.ofChange s with cond := some uptoSmall }

/-- 'soundpostlaw20.MachineStepSpec', WHERE WHAT IT READS IS OF BULK AT MOST 1048576: true; the input reads as it did. -/
def machineStepSpecUptoRow : OpenClaim := { program := "ytcfpghieofhfkaa", sum := "cb3acd4004c04386b94a0e5093c618ca7431e69d7de30749e6beb2027490148b", func := "soundpost/soundpostlaw20.MachineStepSpec", spec := "machineStepSpec", unfollowed := true, recurses := true, apart := false, narrowed := true }
def MachineStepSpecUptoSaid : Prop := machineStepSpecUptoRow.holds Try.pinned (OpenSpec.upto machineStepSpecSpec)

/-- 'soundpostlaw20.MachineRunSpec', WHERE WHAT IT READS IS OF BULK AT MOST 1048576: true; the input reads as it did. -/
def machineRunSpecUptoRow : OpenClaim := { program := "ytcfpghieofhfkaa", sum := "cb3acd4004c04386b94a0e5093c618ca7431e69d7de30749e6beb2027490148b", func := "soundpost/soundpostlaw20.MachineRunSpec", spec := "machineRunSpec", unfollowed := true, recurses := true, apart := false, narrowed := true }
def MachineRunSpecUptoSaid : Prop := machineRunSpecUptoRow.holds Try.pinned (OpenSpec.upto machineRunSpecSpec)

/-- 'soundpostlaw20.MachineBlocks', WHERE WHAT IT READS IS OF BULK AT MOST 1048576: true; the input reads as it did. -/
def machineBlocksUptoRow : OpenClaim := { program := "ytcfpghieofhfkaa", sum := "cb3acd4004c04386b94a0e5093c618ca7431e69d7de30749e6beb2027490148b", func := "soundpost/soundpostlaw20.MachineBlocks", spec := "machineBlocks", unfollowed := true, recurses := true, apart := false, narrowed := true }
def MachineBlocksUptoSaid : Prop := machineBlocksUptoRow.holds Try.pinned (OpenSpec.upto machineBlocksSpec)

/-- 'soundpostlaw20.MachineSteps', WHERE WHAT IT READS IS OF BULK AT MOST 1048576: true; the input reads as it did. -/
def machineStepsUptoRow : OpenClaim := { program := "ytcfpghieofhfkaa", sum := "cb3acd4004c04386b94a0e5093c618ca7431e69d7de30749e6beb2027490148b", func := "soundpost/soundpostlaw20.MachineSteps", spec := "machineSteps", unfollowed := true, recurses := true, apart := false, narrowed := true }
def MachineStepsUptoSaid : Prop := machineStepsUptoRow.holds Try.pinned (OpenSpec.upto machineStepsSpec)

/-- 'soundpostlaw20.MachineUnused', WHERE WHAT IT READS IS OF BULK AT MOST 1048576: true; the input reads as it did. -/
def machineUnusedUptoRow : OpenClaim := { program := "ytcfpghieofhfkaa", sum := "cb3acd4004c04386b94a0e5093c618ca7431e69d7de30749e6beb2027490148b", func := "soundpost/soundpostlaw20.MachineUnused", spec := "machineUnused", unfollowed := true, recurses := true, apart := false, narrowed := true }
def MachineUnusedUptoSaid : Prop := machineUnusedUptoRow.holds Try.pinned (OpenSpec.upto machineUnusedSpec)

end Rows
end Go.Proofs.Ytcfpghieofhfkaa
