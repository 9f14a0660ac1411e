/-
  DERIVED. GIVEN WITH THE SEED: THE CARDS: each row of YtjcbhbncncbdjaaGreatDoorRows.lean that lists a variable, with what it lists TIED to the program's text (the seventh form; the later family's looks); each row that meets fmt, with fmt's text TOLD by the authors' own Lean function (tested against real Go, not proved from fmt's source: count such statements apart). THE CARD IS WHAT COUNTS. Prove the row's statement (the work); the ties are given (YtjcbhbncncbdjaaGreatDoorTie.lean); close each card by the builder's one call (the guide's Derived/Test/ToyasCard.lean, 'card_holds'). Laid BY PROGRAM, IN A SANDBOX (cutbox-door.mjs). By AI agents, Wed Nov 11 2026. No macro, syntax, notation, axiom, sorry.
-/
import Derived.Test.YtjcbhbncncbdjaaGreatDoorRows
import GoSem.ClaimSeven
namespace Go.Proofs.YtjcbhbncncbdjaaGreatDoor
namespace Rows

/-- THE TIED CARD OF 'formularylaw01.SourceSqueezes'. -/
def sourceSqueezesCard : Claim7 := { stood := { row := sourceSqueezesRow, standIns := [], harness := (true, "6a9b8470e9c1abbfb5634444d4ff59c6081a95c1f21eaba5f573f32312b4e925"), looks := true }, kinds := [], alts := [], laidByText := true, laidKinds := [.data, .data, .data, .data, .sentinel, .sentinel, .pinned], laidTests := true, laidLooks := .later }
def SourceSqueezesCardSaid : Prop := Claim7.holds Tryz.pinned (.plain (OpenSpec.ofChange sourceSqueezesSpec)) sourceSqueezesCard

/-- THE TIED CARD OF 'formularylaw01.SourceAgain'. -/
def sourceAgainCard : Claim7 := { stood := { row := sourceAgainRow, standIns := [], harness := (true, "6a9b8470e9c1abbfb5634444d4ff59c6081a95c1f21eaba5f573f32312b4e925"), looks := true }, kinds := [], alts := [], laidByText := true, laidKinds := [.data, .data, .data, .data, .sentinel, .sentinel, .pinned], laidTests := true, laidLooks := .later }
def SourceAgainCardSaid : Prop := Claim7.holds Tryz.pinned (.plain (OpenSpec.ofChange sourceAgainSpec)) sourceAgainCard

/-- THE TIED CARD OF 'formularylaw01.SourceComments'. -/
def sourceCommentsCard : Claim7 := { stood := { row := sourceCommentsRow, standIns := [], harness := (true, "6a9b8470e9c1abbfb5634444d4ff59c6081a95c1f21eaba5f573f32312b4e925"), looks := true }, kinds := [], alts := [], laidByText := true, laidKinds := [.data, .data, .data, .data, .sentinel, .sentinel, .pinned], laidTests := true, laidLooks := .later }
def SourceCommentsCardSaid : Prop := Claim7.holds Tryz.pinned (.plain (OpenSpec.ofChange sourceCommentsSpec)) sourceCommentsCard

/-- THE TIED CARD OF 'formularylaw01.SourceTexts'. -/
def sourceTextsCard : Claim7 := { stood := { row := sourceTextsRow, standIns := [], harness := (true, "6a9b8470e9c1abbfb5634444d4ff59c6081a95c1f21eaba5f573f32312b4e925"), looks := true }, kinds := [], alts := [], laidByText := true, laidKinds := [.data, .data, .data, .data, .sentinel, .sentinel, .pinned], laidTests := true, laidLooks := .later }
def SourceTextsCardSaid : Prop := Claim7.holds Tryz.pinned (.plain (OpenSpec.ofChange sourceTextsSpec)) sourceTextsCard

/-- THE TIED CARD OF 'formularylaw01.SourcePlaces'. -/
def sourcePlacesCard : Claim7 := { stood := { row := sourcePlacesRow, standIns := [], harness := (true, "6a9b8470e9c1abbfb5634444d4ff59c6081a95c1f21eaba5f573f32312b4e925"), looks := true }, kinds := [], alts := [], laidByText := true, laidKinds := [.data, .data, .data, .data, .sentinel, .sentinel, .pinned], laidTests := true, laidLooks := .later }
def SourcePlacesCardSaid : Prop := Claim7.holds Tryz.pinned (.plain (OpenSpec.ofChange sourcePlacesSpec)) sourcePlacesCard

/-- THE TIED CARD OF 'formularylaw01.SourcePrints'. -/
def sourcePrintsCard : Claim7 := { stood := { row := sourcePrintsRow, standIns := [], harness := (true, "6a9b8470e9c1abbfb5634444d4ff59c6081a95c1f21eaba5f573f32312b4e925"), looks := true }, kinds := [], alts := [], laidByText := true, laidKinds := [.data, .data, .data, .data, .sentinel, .sentinel, .pinned], laidTests := true, laidLooks := .later }
def SourcePrintsCardSaid : Prop := Claim7.holds Tryz.pinned (.plain (OpenSpec.ofChange sourcePrintsSpec)) sourcePrintsCard

/-- THE TIED CARD OF 'formularylaw01.SourceBack'. -/
def sourceBackCard : Claim7 := { stood := { row := sourceBackRow, standIns := [], harness := (true, "6a9b8470e9c1abbfb5634444d4ff59c6081a95c1f21eaba5f573f32312b4e925"), looks := true }, kinds := [], alts := [], laidByText := true, laidKinds := [.data, .data, .data, .data, .sentinel, .sentinel, .pinned], laidTests := true, laidLooks := .later }
def SourceBackCardSaid : Prop := Claim7.holds Tryz.pinned (.plain (OpenSpec.ofChange sourceBackSpec)) sourceBackCard

/-- THE TIED CARD OF 'formularylaw01.SourceIncludes'. -/
def sourceIncludesCard : Claim7 := { stood := { row := sourceIncludesRow, standIns := [], harness := (true, "6a9b8470e9c1abbfb5634444d4ff59c6081a95c1f21eaba5f573f32312b4e925"), looks := true }, kinds := [], alts := [], laidByText := true, laidKinds := [.data, .data, .data, .data, .sentinel, .sentinel, .data, .data, .pinned, .pinned], laidTests := true, laidLooks := .later }
def SourceIncludesCardSaid : Prop := Claim7.holds Tryz.pinned (.plain (OpenSpec.ofChange sourceIncludesSpec)) sourceIncludesCard

/-- THE SECOND FORM's CARD OF 'formularylaw01.SourceSqueezes'. -/
def sourceSqueezesUptoCard : Claim7 := { stood := { row := sourceSqueezesUptoRow, standIns := [], harness := (true, "6a9b8470e9c1abbfb5634444d4ff59c6081a95c1f21eaba5f573f32312b4e925"), looks := true }, kinds := [], alts := [], laidByText := true, laidKinds := [.data, .data, .data, .data, .sentinel, .sentinel, .pinned], laidTests := true, laidLooks := .later }
def SourceSqueezesUptoCardSaid : Prop := Claim7.holds Tryz.pinned (.plain (OpenSpec.upto sourceSqueezesSpec)) sourceSqueezesUptoCard

/-- THE SECOND FORM's CARD OF 'formularylaw01.SourceAgain'. -/
def sourceAgainUptoCard : Claim7 := { stood := { row := sourceAgainUptoRow, standIns := [], harness := (true, "6a9b8470e9c1abbfb5634444d4ff59c6081a95c1f21eaba5f573f32312b4e925"), looks := true }, kinds := [], alts := [], laidByText := true, laidKinds := [.data, .data, .data, .data, .sentinel, .sentinel, .pinned], laidTests := true, laidLooks := .later }
def SourceAgainUptoCardSaid : Prop := Claim7.holds Tryz.pinned (.plain (OpenSpec.upto sourceAgainSpec)) sourceAgainUptoCard

/-- THE SECOND FORM's CARD OF 'formularylaw01.SourceComments'. -/
def sourceCommentsUptoCard : Claim7 := { stood := { row := sourceCommentsUptoRow, standIns := [], harness := (true, "6a9b8470e9c1abbfb5634444d4ff59c6081a95c1f21eaba5f573f32312b4e925"), looks := true }, kinds := [], alts := [], laidByText := true, laidKinds := [.data, .data, .data, .data, .sentinel, .sentinel, .pinned], laidTests := true, laidLooks := .later }
def SourceCommentsUptoCardSaid : Prop := Claim7.holds Tryz.pinned (.plain (OpenSpec.upto sourceCommentsSpec)) sourceCommentsUptoCard

/-- THE SECOND FORM's CARD OF 'formularylaw01.SourceTexts'. -/
def sourceTextsUptoCard : Claim7 := { stood := { row := sourceTextsUptoRow, standIns := [], harness := (true, "6a9b8470e9c1abbfb5634444d4ff59c6081a95c1f21eaba5f573f32312b4e925"), looks := true }, kinds := [], alts := [], laidByText := true, laidKinds := [.data, .data, .data, .data, .sentinel, .sentinel, .pinned], laidTests := true, laidLooks := .later }
def SourceTextsUptoCardSaid : Prop := Claim7.holds Tryz.pinned (.plain (OpenSpec.upto sourceTextsSpec)) sourceTextsUptoCard

/-- THE SECOND FORM's CARD OF 'formularylaw01.SourcePlaces'. -/
def sourcePlacesUptoCard : Claim7 := { stood := { row := sourcePlacesUptoRow, standIns := [], harness := (true, "6a9b8470e9c1abbfb5634444d4ff59c6081a95c1f21eaba5f573f32312b4e925"), looks := true }, kinds := [], alts := [], laidByText := true, laidKinds := [.data, .data, .data, .data, .sentinel, .sentinel, .pinned], laidTests := true, laidLooks := .later }
def SourcePlacesUptoCardSaid : Prop := Claim7.holds Tryz.pinned (.plain (OpenSpec.upto sourcePlacesSpec)) sourcePlacesUptoCard

/-- THE SECOND FORM's CARD OF 'formularylaw01.SourcePrints'. -/
def sourcePrintsUptoCard : Claim7 := { stood := { row := sourcePrintsUptoRow, standIns := [], harness := (true, "6a9b8470e9c1abbfb5634444d4ff59c6081a95c1f21eaba5f573f32312b4e925"), looks := true }, kinds := [], alts := [], laidByText := true, laidKinds := [.data, .data, .data, .data, .sentinel, .sentinel, .pinned], laidTests := true, laidLooks := .later }
def SourcePrintsUptoCardSaid : Prop := Claim7.holds Tryz.pinned (.plain (OpenSpec.upto sourcePrintsSpec)) sourcePrintsUptoCard

/-- THE SECOND FORM's CARD OF 'formularylaw01.SourceBack'. -/
def sourceBackUptoCard : Claim7 := { stood := { row := sourceBackUptoRow, standIns := [], harness := (true, "6a9b8470e9c1abbfb5634444d4ff59c6081a95c1f21eaba5f573f32312b4e925"), looks := true }, kinds := [], alts := [], laidByText := true, laidKinds := [.data, .data, .data, .data, .sentinel, .sentinel, .pinned], laidTests := true, laidLooks := .later }
def SourceBackUptoCardSaid : Prop := Claim7.holds Tryz.pinned (.plain (OpenSpec.upto sourceBackSpec)) sourceBackUptoCard

/-- THE SECOND FORM's CARD OF 'formularylaw01.SourceIncludes'. -/
def sourceIncludesUptoCard : Claim7 := { stood := { row := sourceIncludesUptoRow, standIns := [], harness := (true, "6a9b8470e9c1abbfb5634444d4ff59c6081a95c1f21eaba5f573f32312b4e925"), looks := true }, kinds := [], alts := [], laidByText := true, laidKinds := [.data, .data, .data, .data, .sentinel, .sentinel, .data, .data, .pinned, .pinned], laidTests := true, laidLooks := .later }
def SourceIncludesUptoCardSaid : Prop := Claim7.holds Tryz.pinned (.plain (OpenSpec.upto sourceIncludesSpec)) sourceIncludesUptoCard
end Rows
end Go.Proofs.YtjcbhbncncbdjaaGreatDoor
