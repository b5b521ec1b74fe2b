/-
  DERIVED. GIVEN WITH THE SEED: THE CARDS: each row of YtgehpmgkaeohaaaGreatDoorRows.lean that lists a variable, with what it lists TIED to the program's text (the seventh form; the later family's looks); each row that meets fmt, with fmt's text TOLD by the authors' own Lean function (tested against real Go, not proved from fmt's source: count such statements apart). THE CARD IS WHAT COUNTS. Prove the row's statement (the work); the ties are given (YtgehpmgkaeohaaaGreatDoorTie.lean); close each card by the builder's one call (the guide's Derived/Test/ToyasCard.lean, 'card_holds'). Laid BY PROGRAM, IN A SANDBOX (cutbox-door.mjs). By AI agents, Wed Nov 11 2026. No macro, syntax, notation, axiom, sorry.
-/
import Derived.Test.YtgehpmgkaeohaaaGreatDoorRows
import GoSem.ClaimSeven
namespace Go.Proofs.YtgehpmgkaeohaaaGreatDoor
namespace Rows

/-- THE TIED CARD OF 'soundpostlaw18.MeaningSpec'. -/
def meaningSpecCard : Claim7 := { stood := { row := meaningSpecRow, standIns := [], harness := (true, "869b862587e0a95d8946a080064027029a47eae18946c282aa518d24d949bc4d"), looks := true }, kinds := [], alts := [], laidByText := true, laidKinds := [.data, .data, .data, .sentinel, .sentinel, .data], laidTests := true, laidLooks := .later }
def MeaningSpecCardSaid : Prop := Claim7.holds Tryz.pinned (.plain (OpenSpec.ofChange meaningSpecSpec)) meaningSpecCard

/-- THE TIED CARD OF 'soundpostlaw18.MeaningStays'. -/
def meaningStaysCard : Claim7 := { stood := { row := meaningStaysRow, standIns := [], harness := (true, "869b862587e0a95d8946a080064027029a47eae18946c282aa518d24d949bc4d"), looks := true }, kinds := [], alts := [], laidByText := true, laidKinds := [.data, .data, .data, .sentinel, .sentinel, .data], laidTests := true, laidLooks := .later }
def MeaningStaysCardSaid : Prop := Claim7.holds Tryz.pinned (.plain (OpenSpec.ofChange meaningStaysSpec)) meaningStaysCard

/-- THE TIED CARD OF 'soundpostlaw18.MeaningTail'. -/
def meaningTailCard : Claim7 := { stood := { row := meaningTailRow, standIns := [], harness := (true, "869b862587e0a95d8946a080064027029a47eae18946c282aa518d24d949bc4d"), looks := true }, kinds := [], alts := [], laidByText := true, laidKinds := [.data, .data, .data, .sentinel, .sentinel, .data], laidTests := true, laidLooks := .later }
def MeaningTailCardSaid : Prop := Claim7.holds Tryz.pinned (.plain (OpenSpec.ofChange meaningTailSpec)) meaningTailCard

/-- THE TIED CARD OF 'soundpostlaw18.MeaningAhead'. -/
def meaningAheadCard : Claim7 := { stood := { row := meaningAheadRow, standIns := [], harness := (true, "869b862587e0a95d8946a080064027029a47eae18946c282aa518d24d949bc4d"), looks := true }, kinds := [], alts := [], laidByText := true, laidKinds := [.data, .data, .data, .sentinel, .sentinel, .data], laidTests := true, laidLooks := .later }
def MeaningAheadCardSaid : Prop := Claim7.holds Tryz.pinned (.plain (OpenSpec.ofChange meaningAheadSpec)) meaningAheadCard

/-- THE TIED CARD OF 'soundpostlaw18.MeaningKeeps'. -/
def meaningKeepsCard : Claim7 := { stood := { row := meaningKeepsRow, standIns := [], harness := (true, "869b862587e0a95d8946a080064027029a47eae18946c282aa518d24d949bc4d"), looks := true }, kinds := [], alts := [], laidByText := true, laidKinds := [.data, .data, .data, .sentinel, .sentinel, .data], laidTests := true, laidLooks := .later }
def MeaningKeepsCardSaid : Prop := Claim7.holds Tryz.pinned (.plain (OpenSpec.ofChange meaningKeepsSpec)) meaningKeepsCard

/-- THE TIED CARD OF 'soundpostlaw18.MeaningDelay'. -/
def meaningDelayCard : Claim7 := { stood := { row := meaningDelayRow, standIns := [], harness := (true, "869b862587e0a95d8946a080064027029a47eae18946c282aa518d24d949bc4d"), looks := true }, kinds := [], alts := [], laidByText := true, laidKinds := [.data, .data, .data, .sentinel, .sentinel, .data], laidTests := true, laidLooks := .later }
def MeaningDelayCardSaid : Prop := Claim7.holds Tryz.pinned (.plain (OpenSpec.ofChange meaningDelaySpec)) meaningDelayCard

/-- THE SECOND FORM's CARD OF 'soundpostlaw18.MeaningSpec'. -/
def meaningSpecUptoCard : Claim7 := { stood := { row := meaningSpecUptoRow, standIns := [], harness := (true, "869b862587e0a95d8946a080064027029a47eae18946c282aa518d24d949bc4d"), looks := true }, kinds := [], alts := [], laidByText := true, laidKinds := [.data, .data, .data, .sentinel, .sentinel, .data], laidTests := true, laidLooks := .later }
def MeaningSpecUptoCardSaid : Prop := Claim7.holds Tryz.pinned (.plain (OpenSpec.upto meaningSpecSpec)) meaningSpecUptoCard

/-- THE SECOND FORM's CARD OF 'soundpostlaw18.MeaningStays'. -/
def meaningStaysUptoCard : Claim7 := { stood := { row := meaningStaysUptoRow, standIns := [], harness := (true, "869b862587e0a95d8946a080064027029a47eae18946c282aa518d24d949bc4d"), looks := true }, kinds := [], alts := [], laidByText := true, laidKinds := [.data, .data, .data, .sentinel, .sentinel, .data], laidTests := true, laidLooks := .later }
def MeaningStaysUptoCardSaid : Prop := Claim7.holds Tryz.pinned (.plain (OpenSpec.upto meaningStaysSpec)) meaningStaysUptoCard

/-- THE SECOND FORM's CARD OF 'soundpostlaw18.MeaningTail'. -/
def meaningTailUptoCard : Claim7 := { stood := { row := meaningTailUptoRow, standIns := [], harness := (true, "869b862587e0a95d8946a080064027029a47eae18946c282aa518d24d949bc4d"), looks := true }, kinds := [], alts := [], laidByText := true, laidKinds := [.data, .data, .data, .sentinel, .sentinel, .data], laidTests := true, laidLooks := .later }
def MeaningTailUptoCardSaid : Prop := Claim7.holds Tryz.pinned (.plain (OpenSpec.upto meaningTailSpec)) meaningTailUptoCard

/-- THE SECOND FORM's CARD OF 'soundpostlaw18.MeaningAhead'. -/
def meaningAheadUptoCard : Claim7 := { stood := { row := meaningAheadUptoRow, standIns := [], harness := (true, "869b862587e0a95d8946a080064027029a47eae18946c282aa518d24d949bc4d"), looks := true }, kinds := [], alts := [], laidByText := true, laidKinds := [.data, .data, .data, .sentinel, .sentinel, .data], laidTests := true, laidLooks := .later }
def MeaningAheadUptoCardSaid : Prop := Claim7.holds Tryz.pinned (.plain (OpenSpec.upto meaningAheadSpec)) meaningAheadUptoCard

/-- THE SECOND FORM's CARD OF 'soundpostlaw18.MeaningKeeps'. -/
def meaningKeepsUptoCard : Claim7 := { stood := { row := meaningKeepsUptoRow, standIns := [], harness := (true, "869b862587e0a95d8946a080064027029a47eae18946c282aa518d24d949bc4d"), looks := true }, kinds := [], alts := [], laidByText := true, laidKinds := [.data, .data, .data, .sentinel, .sentinel, .data], laidTests := true, laidLooks := .later }
def MeaningKeepsUptoCardSaid : Prop := Claim7.holds Tryz.pinned (.plain (OpenSpec.upto meaningKeepsSpec)) meaningKeepsUptoCard

/-- THE SECOND FORM's CARD OF 'soundpostlaw18.MeaningDelay'. -/
def meaningDelayUptoCard : Claim7 := { stood := { row := meaningDelayUptoRow, standIns := [], harness := (true, "869b862587e0a95d8946a080064027029a47eae18946c282aa518d24d949bc4d"), looks := true }, kinds := [], alts := [], laidByText := true, laidKinds := [.data, .data, .data, .sentinel, .sentinel, .data], laidTests := true, laidLooks := .later }
def MeaningDelayUptoCardSaid : Prop := Claim7.holds Tryz.pinned (.plain (OpenSpec.upto meaningDelaySpec)) meaningDelayUptoCard
end Rows
end Go.Proofs.YtgehpmgkaeohaaaGreatDoor
