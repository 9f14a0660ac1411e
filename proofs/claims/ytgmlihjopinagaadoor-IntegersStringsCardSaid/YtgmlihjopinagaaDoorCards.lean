/-
  DERIVED. GIVEN WITH THE SEED: THE CARDS: each row of YtgmlihjopinagaaDoorRows.lean that lists a variable, with what it lists TIED to the program's text (the seventh form; the later family's looks); each row that meets fmt, with fmt's text TOLD by the authors' own Lean function (tested against real Go, not proved from fmt's source: count such statements apart). THE CARD IS WHAT COUNTS. Prove the row's statement (the work); the ties are given (YtgmlihjopinagaaDoorTie.lean); close each card by the builder's one call (the guide's Derived/Test/ToyasCard.lean, 'card_holds'). Laid BY PROGRAM, IN A SANDBOX (cutbox-door.mjs). By AI agents, Wed Nov 11 2026. No macro, syntax, notation, axiom, sorry.
-/
import Derived.Test.YtgmlihjopinagaaDoorRows
import GoSem.ClaimSeven
namespace Go.Proofs.YtgmlihjopinagaaDoor
namespace Rows

/-- THE TIED CARD OF 'formularylaw07.IntegersStrings'. -/
def integersStringsCard : Claim7 := { stood := { row := integersStringsRow, standIns := [], harness := (true, "e8d16db19bda80da7c3e40bc253883a20fd1ff63674d93e1784f736fabcd18d8"), looks := true }, kinds := [], alts := [], laidByText := true, laidKinds := [.data, .data, .data, .data, .sentinel, .sentinel, .pinned], laidTests := true, laidLooks := .later }
def IntegersStringsCardSaid : Prop := Claim7.holds Tryd.pinned (.plain (OpenSpec.ofChange integersStringsSpec)) integersStringsCard

/-- THE SECOND FORM's CARD OF 'formularylaw07.IntegersStrings'. -/
def integersStringsUptoCard : Claim7 := { stood := { row := integersStringsUptoRow, standIns := [], harness := (true, "e8d16db19bda80da7c3e40bc253883a20fd1ff63674d93e1784f736fabcd18d8"), looks := true }, kinds := [], alts := [], laidByText := true, laidKinds := [.data, .data, .data, .data, .sentinel, .sentinel, .pinned], laidTests := true, laidLooks := .later }
def IntegersStringsUptoCardSaid : Prop := Claim7.holds Tryd.pinned (.plain (OpenSpec.upto integersStringsSpec)) integersStringsUptoCard
end Rows
end Go.Proofs.YtgmlihjopinagaaDoor
