/-
  DERIVED. GIVEN WITH THE SEED: THE CARDS: each row of YthpbakljheeabaaGreatDoorRows.lean that lists a variable, with what it lists TIED to the program's text (the seventh form; the later family's looks); each row that meets fmt, with fmt's text TOLD by the authors' own Lean function (tested against real Go, not proved from fmt's source: count such statements apart). THE CARD IS WHAT COUNTS. Prove the row's statement (the work); the ties are given (YthpbakljheeabaaGreatDoorTie.lean); close each card by the builder's one call (the guide's Derived/Test/ToyasCard.lean, 'card_holds'). Laid BY PROGRAM, IN A SANDBOX (cutbox-door.mjs). By AI agents, Wed Nov 11 2026. No macro, syntax, notation, axiom, sorry.
-/
import Derived.Test.YthpbakljheeabaaGreatDoorRows
import GoSem.ClaimSeven
namespace Go.Proofs.YthpbakljheeabaaGreatDoor
namespace Rows

/-- THE TIED CARD OF 'soundpostlaw19.LowerCheckSpec'. -/
def lowerCheckSpecCard : Claim7 := { stood := { row := lowerCheckSpecRow, standIns := [], harness := (true, "14f5dbee22e13ea8ce742d2bd2def79c64d507deab10ec18d5f158a4475714cd"), looks := true }, kinds := [], alts := [], laidByText := true, laidKinds := [.data], laidTests := true, laidLooks := .later }
def LowerCheckSpecCardSaid : Prop := Claim7.holds Tryz.pinned (.plain (OpenSpec.ofChange lowerCheckSpecSpec)) lowerCheckSpecCard

/-- THE TIED CARD OF 'soundpostlaw19.LowerCompiles'. -/
def lowerCompilesCard : Claim7 := { stood := { row := lowerCompilesRow, standIns := [], harness := (true, "14f5dbee22e13ea8ce742d2bd2def79c64d507deab10ec18d5f158a4475714cd"), looks := true }, kinds := [], alts := [], laidByText := true, laidKinds := [.data], laidTests := true, laidLooks := .later }
def LowerCompilesCardSaid : Prop := Claim7.holds Tryz.pinned (.plain (OpenSpec.ofChange lowerCompilesSpec)) lowerCompilesCard

/-- THE TIED CARD OF 'soundpostlaw19.LowerOperands'. -/
def lowerOperandsCard : Claim7 := { stood := { row := lowerOperandsRow, standIns := [], harness := (true, "14f5dbee22e13ea8ce742d2bd2def79c64d507deab10ec18d5f158a4475714cd"), looks := true }, kinds := [], alts := [], laidByText := true, laidKinds := [.data], laidTests := true, laidLooks := .later }
def LowerOperandsCardSaid : Prop := Claim7.holds Tryz.pinned (.plain (OpenSpec.ofChange lowerOperandsSpec)) lowerOperandsCard

/-- THE TIED CARD OF 'soundpostlaw19.LowerJoined'. -/
def lowerJoinedCard : Claim7 := { stood := { row := lowerJoinedRow, standIns := [], harness := (true, "14f5dbee22e13ea8ce742d2bd2def79c64d507deab10ec18d5f158a4475714cd"), looks := true }, kinds := [], alts := [], laidByText := true, laidKinds := [.data], laidTests := true, laidLooks := .later }
def LowerJoinedCardSaid : Prop := Claim7.holds Tryz.pinned (.plain (OpenSpec.ofChange lowerJoinedSpec)) lowerJoinedCard

/-- THE TIED CARD OF 'soundpostlaw19.LowerLess'. -/
def lowerLessCard : Claim7 := { stood := { row := lowerLessRow, standIns := [], harness := (true, "14f5dbee22e13ea8ce742d2bd2def79c64d507deab10ec18d5f158a4475714cd"), looks := true }, kinds := [], alts := [], laidByText := true, laidKinds := [.data], laidTests := true, laidLooks := .later }
def LowerLessCardSaid : Prop := Claim7.holds Tryz.pinned (.plain (OpenSpec.ofChange lowerLessSpec)) lowerLessCard

/-- THE SECOND FORM's CARD OF 'soundpostlaw19.LowerCheckSpec'. -/
def lowerCheckSpecUptoCard : Claim7 := { stood := { row := lowerCheckSpecUptoRow, standIns := [], harness := (true, "14f5dbee22e13ea8ce742d2bd2def79c64d507deab10ec18d5f158a4475714cd"), looks := true }, kinds := [], alts := [], laidByText := true, laidKinds := [.data], laidTests := true, laidLooks := .later }
def LowerCheckSpecUptoCardSaid : Prop := Claim7.holds Tryz.pinned (.plain (OpenSpec.upto lowerCheckSpecSpec)) lowerCheckSpecUptoCard

/-- THE SECOND FORM's CARD OF 'soundpostlaw19.LowerCompiles'. -/
def lowerCompilesUptoCard : Claim7 := { stood := { row := lowerCompilesUptoRow, standIns := [], harness := (true, "14f5dbee22e13ea8ce742d2bd2def79c64d507deab10ec18d5f158a4475714cd"), looks := true }, kinds := [], alts := [], laidByText := true, laidKinds := [.data], laidTests := true, laidLooks := .later }
def LowerCompilesUptoCardSaid : Prop := Claim7.holds Tryz.pinned (.plain (OpenSpec.upto lowerCompilesSpec)) lowerCompilesUptoCard

/-- THE SECOND FORM's CARD OF 'soundpostlaw19.LowerOperands'. -/
def lowerOperandsUptoCard : Claim7 := { stood := { row := lowerOperandsUptoRow, standIns := [], harness := (true, "14f5dbee22e13ea8ce742d2bd2def79c64d507deab10ec18d5f158a4475714cd"), looks := true }, kinds := [], alts := [], laidByText := true, laidKinds := [.data], laidTests := true, laidLooks := .later }
def LowerOperandsUptoCardSaid : Prop := Claim7.holds Tryz.pinned (.plain (OpenSpec.upto lowerOperandsSpec)) lowerOperandsUptoCard

/-- THE SECOND FORM's CARD OF 'soundpostlaw19.LowerJoined'. -/
def lowerJoinedUptoCard : Claim7 := { stood := { row := lowerJoinedUptoRow, standIns := [], harness := (true, "14f5dbee22e13ea8ce742d2bd2def79c64d507deab10ec18d5f158a4475714cd"), looks := true }, kinds := [], alts := [], laidByText := true, laidKinds := [.data], laidTests := true, laidLooks := .later }
def LowerJoinedUptoCardSaid : Prop := Claim7.holds Tryz.pinned (.plain (OpenSpec.upto lowerJoinedSpec)) lowerJoinedUptoCard

/-- THE SECOND FORM's CARD OF 'soundpostlaw19.LowerLess'. -/
def lowerLessUptoCard : Claim7 := { stood := { row := lowerLessUptoRow, standIns := [], harness := (true, "14f5dbee22e13ea8ce742d2bd2def79c64d507deab10ec18d5f158a4475714cd"), looks := true }, kinds := [], alts := [], laidByText := true, laidKinds := [.data], laidTests := true, laidLooks := .later }
def LowerLessUptoCardSaid : Prop := Claim7.holds Tryz.pinned (.plain (OpenSpec.upto lowerLessSpec)) lowerLessUptoCard
end Rows
end Go.Proofs.YthpbakljheeabaaGreatDoor
