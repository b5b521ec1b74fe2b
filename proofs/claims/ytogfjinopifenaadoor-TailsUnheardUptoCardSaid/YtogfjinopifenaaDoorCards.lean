/-
  DERIVED. GIVEN WITH THE SEED: THE CARDS: each row of YtogfjinopifenaaDoorRows.lean that lists a variable, with what it lists TIED to the program's text (the seventh form; the later family's looks); each row that meets fmt, with fmt's text TOLD by the authors' own Lean function (tested against real Go, not proved from fmt's source: count such statements apart). THE CARD IS WHAT COUNTS. Prove the row's statement (the work); the ties are given (YtogfjinopifenaaDoorTie.lean); close each card by the builder's one call (the guide's Derived/Test/ToyasCard.lean, 'card_holds'). Laid BY PROGRAM, IN A SANDBOX (cutbox-door.mjs). By AI agents, Wed Nov 11 2026. No macro, syntax, notation, axiom, sorry.
-/
import Derived.Test.YtogfjinopifenaaDoorRows
import GoSem.ClaimSeven
namespace Go.Proofs.YtogfjinopifenaaDoor
namespace Rows

/-- THE TIED CARD OF 'soundpostlaw17.TailsDeclared'. -/
def tailsDeclaredCard : Claim7 := { stood := { row := tailsDeclaredRow, standIns := [], harness := (true, "1cc27ecca34eb987e809ff647738aa2bfafd15c87a5b9c621dcd6dd9b218da79"), looks := true }, kinds := [], alts := [], laidByText := true, laidKinds := [.data], laidTests := true, laidLooks := .later }
def TailsDeclaredCardSaid : Prop := Claim7.holds Tryd.pinned (.plain (OpenSpec.ofChange tailsDeclaredSpec)) tailsDeclaredCard

/-- THE TIED CARD OF 'soundpostlaw17.TailsBound'. -/
def tailsBoundCard : Claim7 := { stood := { row := tailsBoundRow, standIns := [], harness := (true, "1cc27ecca34eb987e809ff647738aa2bfafd15c87a5b9c621dcd6dd9b218da79"), looks := true }, kinds := [], alts := [], laidByText := true, laidKinds := [.data], laidTests := true, laidLooks := .later }
def TailsBoundCardSaid : Prop := Claim7.holds Tryd.pinned (.plain (OpenSpec.ofChange tailsBoundSpec)) tailsBoundCard

/-- THE TIED CARD OF 'soundpostlaw17.TailsRow'. -/
def tailsRowCard : Claim7 := { stood := { row := tailsRowRow, standIns := [], harness := (true, "1cc27ecca34eb987e809ff647738aa2bfafd15c87a5b9c621dcd6dd9b218da79"), looks := true }, kinds := [], alts := [], laidByText := true, laidKinds := [.data], laidTests := true, laidLooks := .later }
def TailsRowCardSaid : Prop := Claim7.holds Tryd.pinned (.plain (OpenSpec.ofChange tailsRowSpec)) tailsRowCard

/-- THE TIED CARD OF 'soundpostlaw17.TailsUnheard'. -/
def tailsUnheardCard : Claim7 := { stood := { row := tailsUnheardRow, standIns := [], harness := (true, "1cc27ecca34eb987e809ff647738aa2bfafd15c87a5b9c621dcd6dd9b218da79"), looks := true }, kinds := [], alts := [], laidByText := true, laidKinds := [.data], laidTests := true, laidLooks := .later }
def TailsUnheardCardSaid : Prop := Claim7.holds Tryd.pinned (.plain (OpenSpec.ofChange tailsUnheardSpec)) tailsUnheardCard

/-- THE SECOND FORM's CARD OF 'soundpostlaw17.TailsDeclared'. -/
def tailsDeclaredUptoCard : Claim7 := { stood := { row := tailsDeclaredUptoRow, standIns := [], harness := (true, "1cc27ecca34eb987e809ff647738aa2bfafd15c87a5b9c621dcd6dd9b218da79"), looks := true }, kinds := [], alts := [], laidByText := true, laidKinds := [.data], laidTests := true, laidLooks := .later }
def TailsDeclaredUptoCardSaid : Prop := Claim7.holds Tryd.pinned (.plain (OpenSpec.upto tailsDeclaredSpec)) tailsDeclaredUptoCard

/-- THE SECOND FORM's CARD OF 'soundpostlaw17.TailsBound'. -/
def tailsBoundUptoCard : Claim7 := { stood := { row := tailsBoundUptoRow, standIns := [], harness := (true, "1cc27ecca34eb987e809ff647738aa2bfafd15c87a5b9c621dcd6dd9b218da79"), looks := true }, kinds := [], alts := [], laidByText := true, laidKinds := [.data], laidTests := true, laidLooks := .later }
def TailsBoundUptoCardSaid : Prop := Claim7.holds Tryd.pinned (.plain (OpenSpec.upto tailsBoundSpec)) tailsBoundUptoCard

/-- THE SECOND FORM's CARD OF 'soundpostlaw17.TailsRow'. -/
def tailsRowUptoCard : Claim7 := { stood := { row := tailsRowUptoRow, standIns := [], harness := (true, "1cc27ecca34eb987e809ff647738aa2bfafd15c87a5b9c621dcd6dd9b218da79"), looks := true }, kinds := [], alts := [], laidByText := true, laidKinds := [.data], laidTests := true, laidLooks := .later }
def TailsRowUptoCardSaid : Prop := Claim7.holds Tryd.pinned (.plain (OpenSpec.upto tailsRowSpec)) tailsRowUptoCard

/-- THE SECOND FORM's CARD OF 'soundpostlaw17.TailsUnheard'. -/
def tailsUnheardUptoCard : Claim7 := { stood := { row := tailsUnheardUptoRow, standIns := [], harness := (true, "1cc27ecca34eb987e809ff647738aa2bfafd15c87a5b9c621dcd6dd9b218da79"), looks := true }, kinds := [], alts := [], laidByText := true, laidKinds := [.data], laidTests := true, laidLooks := .later }
def TailsUnheardUptoCardSaid : Prop := Claim7.holds Tryd.pinned (.plain (OpenSpec.upto tailsUnheardSpec)) tailsUnheardUptoCard
end Rows
end Go.Proofs.YtogfjinopifenaaDoor
