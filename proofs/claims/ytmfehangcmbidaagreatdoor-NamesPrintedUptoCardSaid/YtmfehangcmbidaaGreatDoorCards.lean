/-
  DERIVED. GIVEN WITH THE SEED: THE CARDS: each row of YtmfehangcmbidaaGreatDoorRows.lean that lists a variable, with what it lists TIED to the program's text (the seventh form; the later family's looks); each row that meets fmt, with fmt's text TOLD by the authors' own Lean function (tested against real Go, not proved from fmt's source: count such statements apart). THE CARD IS WHAT COUNTS. Prove the row's statement (the work); the ties are given (YtmfehangcmbidaaGreatDoorTie.lean); close each card by the builder's one call (the guide's Derived/Test/ToyasCard.lean, 'card_holds'). Laid BY PROGRAM, IN A SANDBOX (cutbox-door.mjs). By AI agents, Wed Nov 11 2026. No macro, syntax, notation, axiom, sorry.
-/
import Derived.Test.YtmfehangcmbidaaGreatDoorRows
import GoSem.ClaimSeven
namespace Go.Proofs.YtmfehangcmbidaaGreatDoor
namespace Rows

/-- THE TIED CARD OF 'soundpostlaw14.SyntaxBack'. -/
def syntaxBackCard : Claim7 := { stood := { row := syntaxBackRow, standIns := [], harness := (true, "c2ce5afe6def44e4cb53236d5dd4065058bbe038239b3afd4c92b346c923944a"), looks := true }, kinds := [], alts := [], laidByText := true, laidKinds := [.data, .data, .data, .sentinel, .sentinel], laidTests := true, laidLooks := .later }
def SyntaxBackCardSaid : Prop := Claim7.holds Tryz.pinned (.plain (OpenSpec.ofChange syntaxBackSpec)) syntaxBackCard

/-- THE TIED CARD OF 'soundpostlaw14.SyntaxSpaces'. -/
def syntaxSpacesCard : Claim7 := { stood := { row := syntaxSpacesRow, standIns := [], harness := (true, "c2ce5afe6def44e4cb53236d5dd4065058bbe038239b3afd4c92b346c923944a"), looks := true }, kinds := [], alts := [], laidByText := true, laidKinds := [.data, .data, .data, .sentinel, .sentinel], laidTests := true, laidLooks := .later }
def SyntaxSpacesCardSaid : Prop := Claim7.holds Tryz.pinned (.plain (OpenSpec.ofChange syntaxSpacesSpec)) syntaxSpacesCard

/-- THE TIED CARD OF 'soundpostlaw14.SyntaxJoined'. -/
def syntaxJoinedCard : Claim7 := { stood := { row := syntaxJoinedRow, standIns := [], harness := (true, "c2ce5afe6def44e4cb53236d5dd4065058bbe038239b3afd4c92b346c923944a"), looks := true }, kinds := [], alts := [], laidByText := true, laidKinds := [.data, .data, .data, .sentinel, .sentinel], laidTests := true, laidLooks := .later }
def SyntaxJoinedCardSaid : Prop := Claim7.holds Tryz.pinned (.plain (OpenSpec.ofChange syntaxJoinedSpec)) syntaxJoinedCard

/-- THE TIED CARD OF 'soundpostlaw14.SyntaxChange'. -/
def syntaxChangeCard : Claim7 := { stood := { row := syntaxChangeRow, standIns := [], harness := (true, "c2ce5afe6def44e4cb53236d5dd4065058bbe038239b3afd4c92b346c923944a"), looks := true }, kinds := [], alts := [], laidByText := true, laidKinds := [.data, .data, .data, .sentinel, .sentinel], laidTests := true, laidLooks := .later }
def SyntaxChangeCardSaid : Prop := Claim7.holds Tryz.pinned (.plain (OpenSpec.ofChange syntaxChangeSpec)) syntaxChangeCard

/-- THE TIED CARD OF 'soundpostlaw14.SyntaxParentheses'. -/
def syntaxParenthesesCard : Claim7 := { stood := { row := syntaxParenthesesRow, standIns := [], harness := (true, "c2ce5afe6def44e4cb53236d5dd4065058bbe038239b3afd4c92b346c923944a"), looks := true }, kinds := [], alts := [], laidByText := true, laidKinds := [.data, .data, .data, .sentinel, .sentinel], laidTests := true, laidLooks := .later }
def SyntaxParenthesesCardSaid : Prop := Claim7.holds Tryz.pinned (.plain (OpenSpec.ofChange syntaxParenthesesSpec)) syntaxParenthesesCard

/-- THE TIED CARD OF 'soundpostlaw15.NamesPrinted'. -/
def namesPrintedCard : Claim7 := { stood := { row := namesPrintedRow, standIns := [], harness := (true, "c2ce5afe6def44e4cb53236d5dd4065058bbe038239b3afd4c92b346c923944a"), looks := true }, kinds := [], alts := [], laidByText := true, laidKinds := [.data, .data, .data, .sentinel, .sentinel], laidTests := true, laidLooks := .later }
def NamesPrintedCardSaid : Prop := Claim7.holds Tryz.pinned (.plain (OpenSpec.ofChange namesPrintedSpec)) namesPrintedCard

/-- THE SECOND FORM's CARD OF 'soundpostlaw14.SyntaxBack'. -/
def syntaxBackUptoCard : Claim7 := { stood := { row := syntaxBackUptoRow, standIns := [], harness := (true, "c2ce5afe6def44e4cb53236d5dd4065058bbe038239b3afd4c92b346c923944a"), looks := true }, kinds := [], alts := [], laidByText := true, laidKinds := [.data, .data, .data, .sentinel, .sentinel], laidTests := true, laidLooks := .later }
def SyntaxBackUptoCardSaid : Prop := Claim7.holds Tryz.pinned (.plain (OpenSpec.upto syntaxBackSpec)) syntaxBackUptoCard

/-- THE SECOND FORM's CARD OF 'soundpostlaw14.SyntaxSpaces'. -/
def syntaxSpacesUptoCard : Claim7 := { stood := { row := syntaxSpacesUptoRow, standIns := [], harness := (true, "c2ce5afe6def44e4cb53236d5dd4065058bbe038239b3afd4c92b346c923944a"), looks := true }, kinds := [], alts := [], laidByText := true, laidKinds := [.data, .data, .data, .sentinel, .sentinel], laidTests := true, laidLooks := .later }
def SyntaxSpacesUptoCardSaid : Prop := Claim7.holds Tryz.pinned (.plain (OpenSpec.upto syntaxSpacesSpec)) syntaxSpacesUptoCard

/-- THE SECOND FORM's CARD OF 'soundpostlaw14.SyntaxJoined'. -/
def syntaxJoinedUptoCard : Claim7 := { stood := { row := syntaxJoinedUptoRow, standIns := [], harness := (true, "c2ce5afe6def44e4cb53236d5dd4065058bbe038239b3afd4c92b346c923944a"), looks := true }, kinds := [], alts := [], laidByText := true, laidKinds := [.data, .data, .data, .sentinel, .sentinel], laidTests := true, laidLooks := .later }
def SyntaxJoinedUptoCardSaid : Prop := Claim7.holds Tryz.pinned (.plain (OpenSpec.upto syntaxJoinedSpec)) syntaxJoinedUptoCard

/-- THE SECOND FORM's CARD OF 'soundpostlaw14.SyntaxChange'. -/
def syntaxChangeUptoCard : Claim7 := { stood := { row := syntaxChangeUptoRow, standIns := [], harness := (true, "c2ce5afe6def44e4cb53236d5dd4065058bbe038239b3afd4c92b346c923944a"), looks := true }, kinds := [], alts := [], laidByText := true, laidKinds := [.data, .data, .data, .sentinel, .sentinel], laidTests := true, laidLooks := .later }
def SyntaxChangeUptoCardSaid : Prop := Claim7.holds Tryz.pinned (.plain (OpenSpec.upto syntaxChangeSpec)) syntaxChangeUptoCard

/-- THE SECOND FORM's CARD OF 'soundpostlaw14.SyntaxParentheses'. -/
def syntaxParenthesesUptoCard : Claim7 := { stood := { row := syntaxParenthesesUptoRow, standIns := [], harness := (true, "c2ce5afe6def44e4cb53236d5dd4065058bbe038239b3afd4c92b346c923944a"), looks := true }, kinds := [], alts := [], laidByText := true, laidKinds := [.data, .data, .data, .sentinel, .sentinel], laidTests := true, laidLooks := .later }
def SyntaxParenthesesUptoCardSaid : Prop := Claim7.holds Tryz.pinned (.plain (OpenSpec.upto syntaxParenthesesSpec)) syntaxParenthesesUptoCard

/-- THE SECOND FORM's CARD OF 'soundpostlaw15.NamesPrinted'. -/
def namesPrintedUptoCard : Claim7 := { stood := { row := namesPrintedUptoRow, standIns := [], harness := (true, "c2ce5afe6def44e4cb53236d5dd4065058bbe038239b3afd4c92b346c923944a"), looks := true }, kinds := [], alts := [], laidByText := true, laidKinds := [.data, .data, .data, .sentinel, .sentinel], laidTests := true, laidLooks := .later }
def NamesPrintedUptoCardSaid : Prop := Claim7.holds Tryz.pinned (.plain (OpenSpec.upto namesPrintedSpec)) namesPrintedUptoCard
end Rows
end Go.Proofs.YtmfehangcmbidaaGreatDoor
