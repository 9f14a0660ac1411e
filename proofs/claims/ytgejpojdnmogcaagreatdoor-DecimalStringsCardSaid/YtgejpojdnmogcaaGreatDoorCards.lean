/-
  DERIVED. GIVEN WITH THE SEED: THE CARDS: each row of YtgejpojdnmogcaaGreatDoorRows.lean that lists a variable, with what it lists TIED to the program's text (the seventh form; the later family's looks); each row that meets fmt, with fmt's text TOLD by the authors' own Lean function (tested against real Go, not proved from fmt's source: count such statements apart). THE CARD IS WHAT COUNTS. Prove the row's statement (the work); the ties are given (YtgejpojdnmogcaaGreatDoorTie.lean); close each card by the builder's one call (the guide's Derived/Test/ToyasCard.lean, 'card_holds'). Laid BY PROGRAM, IN A SANDBOX (cutbox-door.mjs). By AI agents, Wed Nov 11 2026. No macro, syntax, notation, axiom, sorry.
-/
import Derived.Test.YtgejpojdnmogcaaGreatDoorRows
import GoSem.ClaimSeven
namespace Go.Proofs.YtgejpojdnmogcaaGreatDoor
namespace Rows

/-- THE TIED CARD OF 'formularylaw09.DecimalStrings'. -/
def decimalStringsCard : Claim7 := { stood := { row := decimalStringsRow, standIns := [], harness := (true, "e83aeafa13891114cd559f57ef083dd605cbc309afea0b1a114dd7f053f5ec64"), looks := true }, kinds := [], alts := [], laidByText := true, laidKinds := [.data, .data, .widerDeep, .widerDeep, .data, .data, .data, .data, .data, .data, .sentinel, .sentinel, .pinned, .pinned, .pinned], laidTests := true, laidLooks := .later }
def DecimalStringsCardSaid : Prop := Claim7.holds Tryz.pinned (.plain (OpenSpec.ofChange decimalStringsSpec)) decimalStringsCard

/-- THE TIED CARD OF 'formularylaw09.DecimalReads'. -/
def decimalReadsCard : Claim7 := { stood := { row := decimalReadsRow, standIns := [], harness := (true, "e83aeafa13891114cd559f57ef083dd605cbc309afea0b1a114dd7f053f5ec64"), looks := true }, kinds := [], alts := [], laidByText := true, laidKinds := [.data, .data, .widerDeep, .widerDeep, .data, .data, .data, .data, .data, .data, .sentinel, .sentinel, .pinned, .pinned, .pinned], laidTests := true, laidLooks := .later }
def DecimalReadsCardSaid : Prop := Claim7.holds Tryz.pinned (.plain (OpenSpec.ofChange decimalReadsSpec)) decimalReadsCard

/-- THE TIED CARD OF 'formularylaw09.DecimalExact'. -/
def decimalExactCard : Claim7 := { stood := { row := decimalExactRow, standIns := [], harness := (true, "e83aeafa13891114cd559f57ef083dd605cbc309afea0b1a114dd7f053f5ec64"), looks := true }, kinds := [], alts := [], laidByText := true, laidKinds := [.data, .data, .widerDeep, .widerDeep, .data, .data, .data, .data, .data, .data, .sentinel, .sentinel, .pinned, .pinned, .pinned], laidTests := true, laidLooks := .later }
def DecimalExactCardSaid : Prop := Claim7.holds Tryz.pinned (.plain (OpenSpec.ofChange decimalExactSpec)) decimalExactCard

/-- THE TIED CARD OF 'formularylaw09.DecimalShortest'. -/
def decimalShortestCard : Claim7 := { stood := { row := decimalShortestRow, standIns := [], harness := (true, "e83aeafa13891114cd559f57ef083dd605cbc309afea0b1a114dd7f053f5ec64"), looks := true }, kinds := [], alts := [], laidByText := true, laidKinds := [.data, .data, .widerDeep, .widerDeep, .data, .data, .data, .data, .data, .data, .sentinel, .sentinel, .pinned, .pinned, .pinned], laidTests := true, laidLooks := .later }
def DecimalShortestCardSaid : Prop := Claim7.holds Tryz.pinned (.plain (OpenSpec.ofChange decimalShortestSpec)) decimalShortestCard

/-- THE TIED CARD OF 'formularylaw09.DecimalPlaces'. -/
def decimalPlacesCard : Claim7 := { stood := { row := decimalPlacesRow, standIns := [], harness := (true, "e83aeafa13891114cd559f57ef083dd605cbc309afea0b1a114dd7f053f5ec64"), looks := true }, kinds := [], alts := [], laidByText := true, laidKinds := [.data, .data, .widerDeep, .widerDeep, .data, .data, .data, .data, .data, .data, .sentinel, .sentinel, .pinned, .pinned, .pinned], laidTests := true, laidLooks := .later }
def DecimalPlacesCardSaid : Prop := Claim7.holds Tryz.pinned (.plain (OpenSpec.ofChange decimalPlacesSpec)) decimalPlacesCard

/-- THE TIED CARD OF 'formularylaw09.DecimalBack'. -/
def decimalBackCard : Claim7 := { stood := { row := decimalBackRow, standIns := [], harness := (true, "e83aeafa13891114cd559f57ef083dd605cbc309afea0b1a114dd7f053f5ec64"), looks := true }, kinds := [], alts := [], laidByText := true, laidKinds := [.data, .data, .widerDeep, .widerDeep, .data, .data, .data, .data, .data, .data, .sentinel, .sentinel, .pinned, .pinned, .pinned], laidTests := true, laidLooks := .later }
def DecimalBackCardSaid : Prop := Claim7.holds Tryz.pinned (.plain (OpenSpec.ofChange decimalBackSpec)) decimalBackCard

/-- THE TIED CARD OF 'formularylaw09.DecimalNumbers'. -/
def decimalNumbersCard : Claim7 := { stood := { row := decimalNumbersRow, standIns := [], harness := (true, "e83aeafa13891114cd559f57ef083dd605cbc309afea0b1a114dd7f053f5ec64"), looks := true }, kinds := [], alts := [], laidByText := true, laidKinds := [.data, .data, .widerDeep, .widerDeep, .data, .data, .data, .data, .data, .data, .sentinel, .sentinel, .pinned, .pinned, .pinned], laidTests := true, laidLooks := .later }
def DecimalNumbersCardSaid : Prop := Claim7.holds Tryz.pinned (.plain (OpenSpec.ofChange decimalNumbersSpec)) decimalNumbersCard

/-- THE TIED CARD OF 'formularylaw09.DecimalNearest'. -/
def decimalNearestCard : Claim7 := { stood := { row := decimalNearestRow, standIns := [], harness := (true, "e83aeafa13891114cd559f57ef083dd605cbc309afea0b1a114dd7f053f5ec64"), looks := true }, kinds := [], alts := [], laidByText := true, laidKinds := [.data, .data, .widerDeep, .widerDeep, .data, .data, .data, .data, .data, .data, .sentinel, .sentinel, .pinned, .pinned, .pinned], laidTests := true, laidLooks := .later }
def DecimalNearestCardSaid : Prop := Claim7.holds Tryz.pinned (.plain (OpenSpec.ofChange decimalNearestSpec)) decimalNearestCard

/-- THE TIED CARD OF 'formularylaw09.DecimalBetween'. -/
def decimalBetweenCard : Claim7 := { stood := { row := decimalBetweenRow, standIns := [], harness := (true, "e83aeafa13891114cd559f57ef083dd605cbc309afea0b1a114dd7f053f5ec64"), looks := true }, kinds := [], alts := [], laidByText := true, laidKinds := [.data, .data, .widerDeep, .widerDeep, .data, .data, .data, .data, .data, .data, .sentinel, .sentinel, .pinned, .pinned, .pinned], laidTests := true, laidLooks := .later }
def DecimalBetweenCardSaid : Prop := Claim7.holds Tryz.pinned (.plain (OpenSpec.ofChange decimalBetweenSpec)) decimalBetweenCard

/-- THE SECOND FORM's CARD OF 'formularylaw09.DecimalStrings'. -/
def decimalStringsUptoCard : Claim7 := { stood := { row := decimalStringsUptoRow, standIns := [], harness := (true, "e83aeafa13891114cd559f57ef083dd605cbc309afea0b1a114dd7f053f5ec64"), looks := true }, kinds := [], alts := [], laidByText := true, laidKinds := [.data, .data, .widerDeep, .widerDeep, .data, .data, .data, .data, .data, .data, .sentinel, .sentinel, .pinned, .pinned, .pinned], laidTests := true, laidLooks := .later }
def DecimalStringsUptoCardSaid : Prop := Claim7.holds Tryz.pinned (.plain (OpenSpec.upto decimalStringsSpec)) decimalStringsUptoCard

/-- THE SECOND FORM's CARD OF 'formularylaw09.DecimalReads'. -/
def decimalReadsUptoCard : Claim7 := { stood := { row := decimalReadsUptoRow, standIns := [], harness := (true, "e83aeafa13891114cd559f57ef083dd605cbc309afea0b1a114dd7f053f5ec64"), looks := true }, kinds := [], alts := [], laidByText := true, laidKinds := [.data, .data, .widerDeep, .widerDeep, .data, .data, .data, .data, .data, .data, .sentinel, .sentinel, .pinned, .pinned, .pinned], laidTests := true, laidLooks := .later }
def DecimalReadsUptoCardSaid : Prop := Claim7.holds Tryz.pinned (.plain (OpenSpec.upto decimalReadsSpec)) decimalReadsUptoCard

/-- THE SECOND FORM's CARD OF 'formularylaw09.DecimalExact'. -/
def decimalExactUptoCard : Claim7 := { stood := { row := decimalExactUptoRow, standIns := [], harness := (true, "e83aeafa13891114cd559f57ef083dd605cbc309afea0b1a114dd7f053f5ec64"), looks := true }, kinds := [], alts := [], laidByText := true, laidKinds := [.data, .data, .widerDeep, .widerDeep, .data, .data, .data, .data, .data, .data, .sentinel, .sentinel, .pinned, .pinned, .pinned], laidTests := true, laidLooks := .later }
def DecimalExactUptoCardSaid : Prop := Claim7.holds Tryz.pinned (.plain (OpenSpec.upto decimalExactSpec)) decimalExactUptoCard

/-- THE SECOND FORM's CARD OF 'formularylaw09.DecimalShortest'. -/
def decimalShortestUptoCard : Claim7 := { stood := { row := decimalShortestUptoRow, standIns := [], harness := (true, "e83aeafa13891114cd559f57ef083dd605cbc309afea0b1a114dd7f053f5ec64"), looks := true }, kinds := [], alts := [], laidByText := true, laidKinds := [.data, .data, .widerDeep, .widerDeep, .data, .data, .data, .data, .data, .data, .sentinel, .sentinel, .pinned, .pinned, .pinned], laidTests := true, laidLooks := .later }
def DecimalShortestUptoCardSaid : Prop := Claim7.holds Tryz.pinned (.plain (OpenSpec.upto decimalShortestSpec)) decimalShortestUptoCard

/-- THE SECOND FORM's CARD OF 'formularylaw09.DecimalPlaces'. -/
def decimalPlacesUptoCard : Claim7 := { stood := { row := decimalPlacesUptoRow, standIns := [], harness := (true, "e83aeafa13891114cd559f57ef083dd605cbc309afea0b1a114dd7f053f5ec64"), looks := true }, kinds := [], alts := [], laidByText := true, laidKinds := [.data, .data, .widerDeep, .widerDeep, .data, .data, .data, .data, .data, .data, .sentinel, .sentinel, .pinned, .pinned, .pinned], laidTests := true, laidLooks := .later }
def DecimalPlacesUptoCardSaid : Prop := Claim7.holds Tryz.pinned (.plain (OpenSpec.upto decimalPlacesSpec)) decimalPlacesUptoCard

/-- THE SECOND FORM's CARD OF 'formularylaw09.DecimalBack'. -/
def decimalBackUptoCard : Claim7 := { stood := { row := decimalBackUptoRow, standIns := [], harness := (true, "e83aeafa13891114cd559f57ef083dd605cbc309afea0b1a114dd7f053f5ec64"), looks := true }, kinds := [], alts := [], laidByText := true, laidKinds := [.data, .data, .widerDeep, .widerDeep, .data, .data, .data, .data, .data, .data, .sentinel, .sentinel, .pinned, .pinned, .pinned], laidTests := true, laidLooks := .later }
def DecimalBackUptoCardSaid : Prop := Claim7.holds Tryz.pinned (.plain (OpenSpec.upto decimalBackSpec)) decimalBackUptoCard

/-- THE SECOND FORM's CARD OF 'formularylaw09.DecimalNumbers'. -/
def decimalNumbersUptoCard : Claim7 := { stood := { row := decimalNumbersUptoRow, standIns := [], harness := (true, "e83aeafa13891114cd559f57ef083dd605cbc309afea0b1a114dd7f053f5ec64"), looks := true }, kinds := [], alts := [], laidByText := true, laidKinds := [.data, .data, .widerDeep, .widerDeep, .data, .data, .data, .data, .data, .data, .sentinel, .sentinel, .pinned, .pinned, .pinned], laidTests := true, laidLooks := .later }
def DecimalNumbersUptoCardSaid : Prop := Claim7.holds Tryz.pinned (.plain (OpenSpec.upto decimalNumbersSpec)) decimalNumbersUptoCard

/-- THE SECOND FORM's CARD OF 'formularylaw09.DecimalNearest'. -/
def decimalNearestUptoCard : Claim7 := { stood := { row := decimalNearestUptoRow, standIns := [], harness := (true, "e83aeafa13891114cd559f57ef083dd605cbc309afea0b1a114dd7f053f5ec64"), looks := true }, kinds := [], alts := [], laidByText := true, laidKinds := [.data, .data, .widerDeep, .widerDeep, .data, .data, .data, .data, .data, .data, .sentinel, .sentinel, .pinned, .pinned, .pinned], laidTests := true, laidLooks := .later }
def DecimalNearestUptoCardSaid : Prop := Claim7.holds Tryz.pinned (.plain (OpenSpec.upto decimalNearestSpec)) decimalNearestUptoCard

/-- THE SECOND FORM's CARD OF 'formularylaw09.DecimalBetween'. -/
def decimalBetweenUptoCard : Claim7 := { stood := { row := decimalBetweenUptoRow, standIns := [], harness := (true, "e83aeafa13891114cd559f57ef083dd605cbc309afea0b1a114dd7f053f5ec64"), looks := true }, kinds := [], alts := [], laidByText := true, laidKinds := [.data, .data, .widerDeep, .widerDeep, .data, .data, .data, .data, .data, .data, .sentinel, .sentinel, .pinned, .pinned, .pinned], laidTests := true, laidLooks := .later }
def DecimalBetweenUptoCardSaid : Prop := Claim7.holds Tryz.pinned (.plain (OpenSpec.upto decimalBetweenSpec)) decimalBetweenUptoCard
end Rows
end Go.Proofs.YtgejpojdnmogcaaGreatDoor
