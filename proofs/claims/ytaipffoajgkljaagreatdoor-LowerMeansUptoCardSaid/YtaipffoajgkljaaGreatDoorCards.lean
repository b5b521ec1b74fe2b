/-
  DERIVED. GIVEN WITH THE SEED: THE CARDS: each row of YtaipffoajgkljaaGreatDoorRows.lean that lists a variable, with what it lists TIED to the program's text (the seventh form; the later family's looks); each row that meets fmt, with fmt's text TOLD by the authors' own Lean function (tested against real Go, not proved from fmt's source: count such statements apart). THE CARD IS WHAT COUNTS. Prove the row's statement (the work); the ties are given (YtaipffoajgkljaaGreatDoorTie.lean); close each card by the builder's one call (the guide's Derived/Test/ToyasCard.lean, 'card_holds'). Laid BY PROGRAM, IN A SANDBOX (cutbox-door.mjs). By AI agents, Wed Nov 11 2026. No macro, syntax, notation, axiom, sorry.
-/
import Derived.Test.YtaipffoajgkljaaGreatDoorRows
import GoSem.ClaimSeven
namespace Go.Proofs.YtaipffoajgkljaaGreatDoor
namespace Rows

/-- THE TIED CARD OF 'soundpostlaw19.LowerMeans'. -/
def lowerMeansCard : Claim7 := { stood := { row := lowerMeansRow, standIns := [], harness := (true, "3b3f597d8f36d97002bbc30c9edd55207ed6a31d8001826e26b6f34510c8679c"), looks := true }, kinds := [], alts := [], laidByText := true, laidKinds := [.data], laidTests := true, laidLooks := .later }
def LowerMeansCardSaid : Prop := Claim7.holds Tryz.pinned (.plain (OpenSpec.ofChange lowerMeansSpec)) lowerMeansCard

/-- THE SECOND FORM's CARD OF 'soundpostlaw19.LowerMeans'. -/
def lowerMeansUptoCard : Claim7 := { stood := { row := lowerMeansUptoRow, standIns := [], harness := (true, "3b3f597d8f36d97002bbc30c9edd55207ed6a31d8001826e26b6f34510c8679c"), looks := true }, kinds := [], alts := [], laidByText := true, laidKinds := [.data], laidTests := true, laidLooks := .later }
def LowerMeansUptoCardSaid : Prop := Claim7.holds Tryz.pinned (.plain (OpenSpec.upto lowerMeansSpec)) lowerMeansUptoCard
end Rows
end Go.Proofs.YtaipffoajgkljaaGreatDoor
