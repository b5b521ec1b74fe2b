/-
  DERIVED. GIVEN WITH THE SEED: THE CARDS: each row of YtogfjinopifenaaGreatDoorRows.lean that lists a variable, with what it lists TIED to the program's text (the seventh form; the later family's looks); each row that meets fmt, with fmt's text TOLD by the authors' own Lean function (tested against real Go, not proved from fmt's source: count such statements apart). THE CARD IS WHAT COUNTS. Prove the row's statement (the work); the ties are given (YtogfjinopifenaaGreatDoorTie.lean); close each card by the builder's one call (the guide's Derived/Test/ToyasCard.lean, 'card_holds'). Laid BY PROGRAM, IN A SANDBOX (cutbox-door.mjs). By AI agents, Wed Nov 11 2026. No macro, syntax, notation, axiom, sorry.
-/
import Derived.Test.YtogfjinopifenaaGreatDoorRows
import GoSem.ClaimSeven
namespace Go.Proofs.YtogfjinopifenaaGreatDoor
namespace Rows

/-- THE TIED CARD OF 'soundpostlaw17.TailsSpec'. -/
def tailsSpecCard : Claim7 := { stood := { row := tailsSpecRow, standIns := [], harness := (true, "b9b103448f9d6f19ac537cf61e8ed8374af2bf748970393a375161cac02a7ed4"), looks := true }, kinds := [], alts := [], laidByText := true, laidKinds := [.data], laidTests := true, laidLooks := .later }
def TailsSpecCardSaid : Prop := Claim7.holds Tryz.pinned (.plain (OpenSpec.ofChange tailsSpecSpec)) tailsSpecCard

/-- THE TIED CARD OF 'soundpostlaw17.TailsCheckSpec'. -/
def tailsCheckSpecCard : Claim7 := { stood := { row := tailsCheckSpecRow, standIns := [], harness := (true, "b9b103448f9d6f19ac537cf61e8ed8374af2bf748970393a375161cac02a7ed4"), looks := true }, kinds := [], alts := [], laidByText := true, laidKinds := [.data], laidTests := true, laidLooks := .later }
def TailsCheckSpecCardSaid : Prop := Claim7.holds Tryz.pinned (.plain (OpenSpec.ofChange tailsCheckSpecSpec)) tailsCheckSpecCard

/-- THE SECOND FORM's CARD OF 'soundpostlaw17.TailsSpec'. -/
def tailsSpecUptoCard : Claim7 := { stood := { row := tailsSpecUptoRow, standIns := [], harness := (true, "b9b103448f9d6f19ac537cf61e8ed8374af2bf748970393a375161cac02a7ed4"), looks := true }, kinds := [], alts := [], laidByText := true, laidKinds := [.data], laidTests := true, laidLooks := .later }
def TailsSpecUptoCardSaid : Prop := Claim7.holds Tryz.pinned (.plain (OpenSpec.upto tailsSpecSpec)) tailsSpecUptoCard

/-- THE SECOND FORM's CARD OF 'soundpostlaw17.TailsCheckSpec'. -/
def tailsCheckSpecUptoCard : Claim7 := { stood := { row := tailsCheckSpecUptoRow, standIns := [], harness := (true, "b9b103448f9d6f19ac537cf61e8ed8374af2bf748970393a375161cac02a7ed4"), looks := true }, kinds := [], alts := [], laidByText := true, laidKinds := [.data], laidTests := true, laidLooks := .later }
def TailsCheckSpecUptoCardSaid : Prop := Claim7.holds Tryz.pinned (.plain (OpenSpec.upto tailsCheckSpecSpec)) tailsCheckSpecUptoCard
end Rows
end Go.Proofs.YtogfjinopifenaaGreatDoor
