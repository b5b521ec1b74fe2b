/-
  DERIVED. GIVEN WITH THE SEED: THE CARDS: each row of YtjgponkgifopaaaGreatDoorRows.lean that lists a variable, with what it lists TIED to the program's text (the seventh form; the later family's looks); each row that meets fmt, with fmt's text TOLD by the authors' own Lean function (tested against real Go, not proved from fmt's source: count such statements apart). THE CARD IS WHAT COUNTS. Prove the row's statement (the work); the ties are given (YtjgponkgifopaaaGreatDoorTie.lean); close each card by the builder's one call (the guide's Derived/Test/ToyasCard.lean, 'card_holds'). Laid BY PROGRAM, IN A SANDBOX (cutbox-door.mjs). By AI agents, Wed Nov 11 2026. No macro, syntax, notation, axiom, sorry.
-/
import Derived.Test.YtjgponkgifopaaaGreatDoorRows
import GoSem.ClaimSeven
namespace Go.Proofs.YtjgponkgifopaaaGreatDoor
namespace Rows

/-- THE TIED CARD OF 'soundpostlaw16.RangesSpec'. -/
def rangesSpecCard : Claim7 := { stood := { row := rangesSpecRow, standIns := [], harness := (true, "f3eda294b7fa0d289c8b6e61a9f71512f5368f9884992bf5a211c0d82f313e9e"), looks := true }, kinds := [], alts := [], laidByText := true, laidKinds := [.data], laidTests := true, laidLooks := .later }
def RangesSpecCardSaid : Prop := Claim7.holds Tryz.pinned (.plain (OpenSpec.ofChange rangesSpecSpec)) rangesSpecCard

/-- THE TIED CARD OF 'soundpostlaw16.RangesIntervalSpec'. -/
def rangesIntervalSpecCard : Claim7 := { stood := { row := rangesIntervalSpecRow, standIns := [], harness := (true, "f3eda294b7fa0d289c8b6e61a9f71512f5368f9884992bf5a211c0d82f313e9e"), looks := true }, kinds := [], alts := [], laidByText := true, laidKinds := [.data], laidTests := true, laidLooks := .later }
def RangesIntervalSpecCardSaid : Prop := Claim7.holds Tryz.pinned (.plain (OpenSpec.ofChange rangesIntervalSpecSpec)) rangesIntervalSpecCard

/-- THE TIED CARD OF 'soundpostlaw16.RangesSound'. -/
def rangesSoundCard : Claim7 := { stood := { row := rangesSoundRow, standIns := [], harness := (true, "f3eda294b7fa0d289c8b6e61a9f71512f5368f9884992bf5a211c0d82f313e9e"), looks := true }, kinds := [], alts := [], laidByText := true, laidKinds := [.data], laidTests := true, laidLooks := .later }
def RangesSoundCardSaid : Prop := Claim7.holds Tryz.pinned (.plain (OpenSpec.ofChange rangesSoundSpec)) rangesSoundCard

/-- THE TIED CARD OF 'soundpostlaw16.RangesEach'. -/
def rangesEachCard : Claim7 := { stood := { row := rangesEachRow, standIns := [], harness := (true, "f3eda294b7fa0d289c8b6e61a9f71512f5368f9884992bf5a211c0d82f313e9e"), looks := true }, kinds := [], alts := [], laidByText := true, laidKinds := [.data], laidTests := true, laidLooks := .later }
def RangesEachCardSaid : Prop := Claim7.holds Tryz.pinned (.plain (OpenSpec.ofChange rangesEachSpec)) rangesEachCard

/-- THE TIED CARD OF 'soundpostlaw16.RangesNarrow'. -/
def rangesNarrowCard : Claim7 := { stood := { row := rangesNarrowRow, standIns := [], harness := (true, "f3eda294b7fa0d289c8b6e61a9f71512f5368f9884992bf5a211c0d82f313e9e"), looks := true }, kinds := [], alts := [], laidByText := true, laidKinds := [.data], laidTests := true, laidLooks := .later }
def RangesNarrowCardSaid : Prop := Claim7.holds Tryz.pinned (.plain (OpenSpec.ofChange rangesNarrowSpec)) rangesNarrowCard

/-- THE TIED CARD OF 'soundpostlaw16.RangesSat'. -/
def rangesSatCard : Claim7 := { stood := { row := rangesSatRow, standIns := [], harness := (true, "f3eda294b7fa0d289c8b6e61a9f71512f5368f9884992bf5a211c0d82f313e9e"), looks := true }, kinds := [], alts := [], laidByText := true, laidKinds := [.data], laidTests := true, laidLooks := .later }
def RangesSatCardSaid : Prop := Claim7.holds Tryz.pinned (.plain (OpenSpec.ofChange rangesSatSpec)) rangesSatCard

/-- THE SECOND FORM's CARD OF 'soundpostlaw16.RangesSpec'. -/
def rangesSpecUptoCard : Claim7 := { stood := { row := rangesSpecUptoRow, standIns := [], harness := (true, "f3eda294b7fa0d289c8b6e61a9f71512f5368f9884992bf5a211c0d82f313e9e"), looks := true }, kinds := [], alts := [], laidByText := true, laidKinds := [.data], laidTests := true, laidLooks := .later }
def RangesSpecUptoCardSaid : Prop := Claim7.holds Tryz.pinned (.plain (OpenSpec.upto rangesSpecSpec)) rangesSpecUptoCard

/-- THE SECOND FORM's CARD OF 'soundpostlaw16.RangesIntervalSpec'. -/
def rangesIntervalSpecUptoCard : Claim7 := { stood := { row := rangesIntervalSpecUptoRow, standIns := [], harness := (true, "f3eda294b7fa0d289c8b6e61a9f71512f5368f9884992bf5a211c0d82f313e9e"), looks := true }, kinds := [], alts := [], laidByText := true, laidKinds := [.data], laidTests := true, laidLooks := .later }
def RangesIntervalSpecUptoCardSaid : Prop := Claim7.holds Tryz.pinned (.plain (OpenSpec.upto rangesIntervalSpecSpec)) rangesIntervalSpecUptoCard

/-- THE SECOND FORM's CARD OF 'soundpostlaw16.RangesSound'. -/
def rangesSoundUptoCard : Claim7 := { stood := { row := rangesSoundUptoRow, standIns := [], harness := (true, "f3eda294b7fa0d289c8b6e61a9f71512f5368f9884992bf5a211c0d82f313e9e"), looks := true }, kinds := [], alts := [], laidByText := true, laidKinds := [.data], laidTests := true, laidLooks := .later }
def RangesSoundUptoCardSaid : Prop := Claim7.holds Tryz.pinned (.plain (OpenSpec.upto rangesSoundSpec)) rangesSoundUptoCard

/-- THE SECOND FORM's CARD OF 'soundpostlaw16.RangesEach'. -/
def rangesEachUptoCard : Claim7 := { stood := { row := rangesEachUptoRow, standIns := [], harness := (true, "f3eda294b7fa0d289c8b6e61a9f71512f5368f9884992bf5a211c0d82f313e9e"), looks := true }, kinds := [], alts := [], laidByText := true, laidKinds := [.data], laidTests := true, laidLooks := .later }
def RangesEachUptoCardSaid : Prop := Claim7.holds Tryz.pinned (.plain (OpenSpec.upto rangesEachSpec)) rangesEachUptoCard

/-- THE SECOND FORM's CARD OF 'soundpostlaw16.RangesNarrow'. -/
def rangesNarrowUptoCard : Claim7 := { stood := { row := rangesNarrowUptoRow, standIns := [], harness := (true, "f3eda294b7fa0d289c8b6e61a9f71512f5368f9884992bf5a211c0d82f313e9e"), looks := true }, kinds := [], alts := [], laidByText := true, laidKinds := [.data], laidTests := true, laidLooks := .later }
def RangesNarrowUptoCardSaid : Prop := Claim7.holds Tryz.pinned (.plain (OpenSpec.upto rangesNarrowSpec)) rangesNarrowUptoCard

/-- THE SECOND FORM's CARD OF 'soundpostlaw16.RangesSat'. -/
def rangesSatUptoCard : Claim7 := { stood := { row := rangesSatUptoRow, standIns := [], harness := (true, "f3eda294b7fa0d289c8b6e61a9f71512f5368f9884992bf5a211c0d82f313e9e"), looks := true }, kinds := [], alts := [], laidByText := true, laidKinds := [.data], laidTests := true, laidLooks := .later }
def RangesSatUptoCardSaid : Prop := Claim7.holds Tryz.pinned (.plain (OpenSpec.upto rangesSatSpec)) rangesSatUptoCard
end Rows
end Go.Proofs.YtjgponkgifopaaaGreatDoor
