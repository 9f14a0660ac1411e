/-
  DERIVED. GIVEN WITH THE SEED: THE CARDS: each row of YtcafgoomipkljaaGreatDoorRows.lean that lists a variable, with what it lists TIED to the program's text (the seventh form; the later family's looks); each row that meets fmt, with fmt's text TOLD by the authors' own Lean function (tested against real Go, not proved from fmt's source: count such statements apart). THE CARD IS WHAT COUNTS. Prove the row's statement (the work); the ties are given (YtcafgoomipkljaaGreatDoorTie.lean); close each card by the builder's one call (the guide's Derived/Test/ToyasCard.lean, 'card_holds'). Laid BY PROGRAM, IN A SANDBOX (cutbox-door.mjs). By AI agents, Wed Nov 11 2026. No macro, syntax, notation, axiom, sorry.
-/
import Derived.Test.YtcafgoomipkljaaGreatDoorRows
import GoSem.ClaimSeven
namespace Go.Proofs.YtcafgoomipkljaaGreatDoor
namespace Rows

/-- THE TIED CARD OF 'formularylaw02.ClassifyProofs'. -/
def classifyProofsCard : Claim7 := { stood := { row := classifyProofsRow, standIns := [], harness := (true, "e30fcafc4ecf1ee755a3a7d9ebb98f345db895e53c099684ea632638602cf59f"), looks := true }, kinds := [], alts := [], laidByText := true, laidKinds := [.data, .data, .data, .data, .sentinel, .sentinel, .pinned], laidTests := true, laidLooks := .later }
def ClassifyProofsCardSaid : Prop := Claim7.holds Tryz.pinned (.plain (OpenSpec.ofChange classifyProofsSpec)) classifyProofsCard

/-- THE TIED CARD OF 'formularylaw02.ClassifyTwo'. -/
def classifyTwoCard : Claim7 := { stood := { row := classifyTwoRow, standIns := [], harness := (true, "e30fcafc4ecf1ee755a3a7d9ebb98f345db895e53c099684ea632638602cf59f"), looks := true }, kinds := [], alts := [], laidByText := true, laidKinds := [.data, .data, .data, .data, .sentinel, .sentinel, .pinned], laidTests := true, laidLooks := .later }
def ClassifyTwoCardSaid : Prop := Claim7.holds Tryz.pinned (.plain (OpenSpec.ofChange classifyTwoSpec)) classifyTwoCard

/-- THE TIED CARD OF 'formularylaw02.ClassifyBlanks'. -/
def classifyBlanksCard : Claim7 := { stood := { row := classifyBlanksRow, standIns := [], harness := (true, "e30fcafc4ecf1ee755a3a7d9ebb98f345db895e53c099684ea632638602cf59f"), looks := true }, kinds := [], alts := [], laidByText := true, laidKinds := [.data, .data, .data, .data, .sentinel, .sentinel, .pinned], laidTests := true, laidLooks := .later }
def ClassifyBlanksCardSaid : Prop := Claim7.holds Tryz.pinned (.plain (OpenSpec.ofChange classifyBlanksSpec)) classifyBlanksCard

/-- THE TIED CARD OF 'formularylaw02.ClassifyLevels'. -/
def classifyLevelsCard : Claim7 := { stood := { row := classifyLevelsRow, standIns := [], harness := (true, "e30fcafc4ecf1ee755a3a7d9ebb98f345db895e53c099684ea632638602cf59f"), looks := true }, kinds := [], alts := [], laidByText := true, laidKinds := [.data, .data, .data, .data, .sentinel, .sentinel, .pinned], laidTests := true, laidLooks := .later }
def ClassifyLevelsCardSaid : Prop := Claim7.holds Tryz.pinned (.plain (OpenSpec.ofChange classifyLevelsSpec)) classifyLevelsCard

/-- THE TIED CARD OF 'formularylaw02.ClassifyReadings'. -/
def classifyReadingsCard : Claim7 := { stood := { row := classifyReadingsRow, standIns := [], harness := (true, "e30fcafc4ecf1ee755a3a7d9ebb98f345db895e53c099684ea632638602cf59f"), looks := true }, kinds := [], alts := [], laidByText := true, laidKinds := [.data, .data, .data, .data, .sentinel, .sentinel, .pinned], laidTests := true, laidLooks := .later }
def ClassifyReadingsCardSaid : Prop := Claim7.holds Tryz.pinned (.plain (OpenSpec.ofChange classifyReadingsSpec)) classifyReadingsCard

/-- THE TIED CARD OF 'formularylaw02.ClassifyKinds'. -/
def classifyKindsCard : Claim7 := { stood := { row := classifyKindsRow, standIns := [], harness := (true, "e30fcafc4ecf1ee755a3a7d9ebb98f345db895e53c099684ea632638602cf59f"), looks := true }, kinds := [], alts := [], laidByText := true, laidKinds := [.data, .data, .data, .data, .sentinel, .sentinel, .pinned], laidTests := true, laidLooks := .later }
def ClassifyKindsCardSaid : Prop := Claim7.holds Tryz.pinned (.plain (OpenSpec.ofChange classifyKindsSpec)) classifyKindsCard

/-- THE TIED CARD OF 'formularylaw02.ClassifyTexts'. -/
def classifyTextsCard : Claim7 := { stood := { row := classifyTextsRow, standIns := [], harness := (true, "e30fcafc4ecf1ee755a3a7d9ebb98f345db895e53c099684ea632638602cf59f"), looks := true }, kinds := [], alts := [], laidByText := true, laidKinds := [.data, .data, .data, .data, .sentinel, .sentinel, .pinned], laidTests := true, laidLooks := .later }
def ClassifyTextsCardSaid : Prop := Claim7.holds Tryz.pinned (.plain (OpenSpec.ofChange classifyTextsSpec)) classifyTextsCard

/-- THE TIED CARD OF 'formularylaw02.ClassifyNames'. -/
def classifyNamesCard : Claim7 := { stood := { row := classifyNamesRow, standIns := [], harness := (true, "e30fcafc4ecf1ee755a3a7d9ebb98f345db895e53c099684ea632638602cf59f"), looks := true }, kinds := [], alts := [], laidByText := true, laidKinds := [.data, .data, .data, .data, .sentinel, .sentinel, .pinned], laidTests := true, laidLooks := .later }
def ClassifyNamesCardSaid : Prop := Claim7.holds Tryz.pinned (.plain (OpenSpec.ofChange classifyNamesSpec)) classifyNamesCard

/-- THE SECOND FORM's CARD OF 'formularylaw02.ClassifyProofs'. -/
def classifyProofsUptoCard : Claim7 := { stood := { row := classifyProofsUptoRow, standIns := [], harness := (true, "e30fcafc4ecf1ee755a3a7d9ebb98f345db895e53c099684ea632638602cf59f"), looks := true }, kinds := [], alts := [], laidByText := true, laidKinds := [.data, .data, .data, .data, .sentinel, .sentinel, .pinned], laidTests := true, laidLooks := .later }
def ClassifyProofsUptoCardSaid : Prop := Claim7.holds Tryz.pinned (.plain (OpenSpec.upto classifyProofsSpec)) classifyProofsUptoCard

/-- THE SECOND FORM's CARD OF 'formularylaw02.ClassifyTwo'. -/
def classifyTwoUptoCard : Claim7 := { stood := { row := classifyTwoUptoRow, standIns := [], harness := (true, "e30fcafc4ecf1ee755a3a7d9ebb98f345db895e53c099684ea632638602cf59f"), looks := true }, kinds := [], alts := [], laidByText := true, laidKinds := [.data, .data, .data, .data, .sentinel, .sentinel, .pinned], laidTests := true, laidLooks := .later }
def ClassifyTwoUptoCardSaid : Prop := Claim7.holds Tryz.pinned (.plain (OpenSpec.upto classifyTwoSpec)) classifyTwoUptoCard

/-- THE SECOND FORM's CARD OF 'formularylaw02.ClassifyBlanks'. -/
def classifyBlanksUptoCard : Claim7 := { stood := { row := classifyBlanksUptoRow, standIns := [], harness := (true, "e30fcafc4ecf1ee755a3a7d9ebb98f345db895e53c099684ea632638602cf59f"), looks := true }, kinds := [], alts := [], laidByText := true, laidKinds := [.data, .data, .data, .data, .sentinel, .sentinel, .pinned], laidTests := true, laidLooks := .later }
def ClassifyBlanksUptoCardSaid : Prop := Claim7.holds Tryz.pinned (.plain (OpenSpec.upto classifyBlanksSpec)) classifyBlanksUptoCard

/-- THE SECOND FORM's CARD OF 'formularylaw02.ClassifyLevels'. -/
def classifyLevelsUptoCard : Claim7 := { stood := { row := classifyLevelsUptoRow, standIns := [], harness := (true, "e30fcafc4ecf1ee755a3a7d9ebb98f345db895e53c099684ea632638602cf59f"), looks := true }, kinds := [], alts := [], laidByText := true, laidKinds := [.data, .data, .data, .data, .sentinel, .sentinel, .pinned], laidTests := true, laidLooks := .later }
def ClassifyLevelsUptoCardSaid : Prop := Claim7.holds Tryz.pinned (.plain (OpenSpec.upto classifyLevelsSpec)) classifyLevelsUptoCard

/-- THE SECOND FORM's CARD OF 'formularylaw02.ClassifyReadings'. -/
def classifyReadingsUptoCard : Claim7 := { stood := { row := classifyReadingsUptoRow, standIns := [], harness := (true, "e30fcafc4ecf1ee755a3a7d9ebb98f345db895e53c099684ea632638602cf59f"), looks := true }, kinds := [], alts := [], laidByText := true, laidKinds := [.data, .data, .data, .data, .sentinel, .sentinel, .pinned], laidTests := true, laidLooks := .later }
def ClassifyReadingsUptoCardSaid : Prop := Claim7.holds Tryz.pinned (.plain (OpenSpec.upto classifyReadingsSpec)) classifyReadingsUptoCard

/-- THE SECOND FORM's CARD OF 'formularylaw02.ClassifyKinds'. -/
def classifyKindsUptoCard : Claim7 := { stood := { row := classifyKindsUptoRow, standIns := [], harness := (true, "e30fcafc4ecf1ee755a3a7d9ebb98f345db895e53c099684ea632638602cf59f"), looks := true }, kinds := [], alts := [], laidByText := true, laidKinds := [.data, .data, .data, .data, .sentinel, .sentinel, .pinned], laidTests := true, laidLooks := .later }
def ClassifyKindsUptoCardSaid : Prop := Claim7.holds Tryz.pinned (.plain (OpenSpec.upto classifyKindsSpec)) classifyKindsUptoCard

/-- THE SECOND FORM's CARD OF 'formularylaw02.ClassifyTexts'. -/
def classifyTextsUptoCard : Claim7 := { stood := { row := classifyTextsUptoRow, standIns := [], harness := (true, "e30fcafc4ecf1ee755a3a7d9ebb98f345db895e53c099684ea632638602cf59f"), looks := true }, kinds := [], alts := [], laidByText := true, laidKinds := [.data, .data, .data, .data, .sentinel, .sentinel, .pinned], laidTests := true, laidLooks := .later }
def ClassifyTextsUptoCardSaid : Prop := Claim7.holds Tryz.pinned (.plain (OpenSpec.upto classifyTextsSpec)) classifyTextsUptoCard

/-- THE SECOND FORM's CARD OF 'formularylaw02.ClassifyNames'. -/
def classifyNamesUptoCard : Claim7 := { stood := { row := classifyNamesUptoRow, standIns := [], harness := (true, "e30fcafc4ecf1ee755a3a7d9ebb98f345db895e53c099684ea632638602cf59f"), looks := true }, kinds := [], alts := [], laidByText := true, laidKinds := [.data, .data, .data, .data, .sentinel, .sentinel, .pinned], laidTests := true, laidLooks := .later }
def ClassifyNamesUptoCardSaid : Prop := Claim7.holds Tryz.pinned (.plain (OpenSpec.upto classifyNamesSpec)) classifyNamesUptoCard
end Rows
end Go.Proofs.YtcafgoomipkljaaGreatDoor
