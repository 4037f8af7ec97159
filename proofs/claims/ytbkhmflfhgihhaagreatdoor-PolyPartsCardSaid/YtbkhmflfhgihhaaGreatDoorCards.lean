/-
  DERIVED. GIVEN WITH THE SEED: THE CARDS: each row of YtbkhmflfhgihhaaGreatDoorRows.lean that lists a variable, with what it lists TIED to the program's text (the seventh form; the later family's looks); each row that meets fmt, with fmt's text TOLD by the authors' own Lean function (tested against real Go, not proved from fmt's source: count such statements apart). THE CARD IS WHAT COUNTS. Prove the row's statement (the work); the ties are given (YtbkhmflfhgihhaaGreatDoorTie.lean); close each card by the builder's one call (the guide's Derived/Test/ToyasCard.lean, 'card_holds'). Laid BY PROGRAM, IN A SANDBOX (cutbox-door.mjs). By AI agents, Wed Nov 11 2026. No macro, syntax, notation, axiom, sorry.
-/
import Derived.Test.YtbkhmflfhgihhaaGreatDoorRows
import GoSem.ClaimSeven
namespace Go.Proofs.YtbkhmflfhgihhaaGreatDoor
namespace Rows

/-- THE TIED CARD OF 'arithmancylaw02.PolyParts'. -/
def polyPartsCard : Claim7 := { stood := { row := polyPartsRow, standIns := [], harness := (true, "18cee0e2597100d74543019d416136d9d722b722972087bf6043bfc422a1bfc8"), looks := true }, kinds := [], alts := [], laidByText := true, laidKinds := [.data, .data, .data, .data, .sentinel, .sentinel, .pinned], laidTests := true, laidLooks := .later }
def PolyPartsCardSaid : Prop := Claim7.holds Tryz.pinned (.plain (OpenSpec.ofChange polyPartsSpec)) polyPartsCard

/-- THE TIED CARD OF 'arithmancylaw02.PolySums'. -/
def polySumsCard : Claim7 := { stood := { row := polySumsRow, standIns := [], harness := (true, "18cee0e2597100d74543019d416136d9d722b722972087bf6043bfc422a1bfc8"), looks := true }, kinds := [], alts := [], laidByText := true, laidKinds := [.data, .data, .data, .data, .sentinel, .sentinel, .pinned], laidTests := true, laidLooks := .later }
def PolySumsCardSaid : Prop := Claim7.holds Tryz.pinned (.plain (OpenSpec.ofChange polySumsSpec)) polySumsCard

/-- THE TIED CARD OF 'arithmancylaw02.PolyRing'. -/
def polyRingCard : Claim7 := { stood := { row := polyRingRow, standIns := [], harness := (true, "18cee0e2597100d74543019d416136d9d722b722972087bf6043bfc422a1bfc8"), looks := true }, kinds := [], alts := [], laidByText := true, laidKinds := [.data, .data, .data, .data, .sentinel, .sentinel, .pinned], laidTests := true, laidLooks := .later }
def PolyRingCardSaid : Prop := Claim7.holds Tryz.pinned (.plain (OpenSpec.ofChange polyRingSpec)) polyRingCard

/-- THE TIED CARD OF 'arithmancylaw02.PolyPuts'. -/
def polyPutsCard : Claim7 := { stood := { row := polyPutsRow, standIns := [], harness := (true, "18cee0e2597100d74543019d416136d9d722b722972087bf6043bfc422a1bfc8"), looks := true }, kinds := [], alts := [], laidByText := true, laidKinds := [.data, .data, .data, .data, .sentinel, .sentinel, .pinned], laidTests := true, laidLooks := .later }
def PolyPutsCardSaid : Prop := Claim7.holds Tryz.pinned (.plain (OpenSpec.ofChange polyPutsSpec)) polyPutsCard

/-- THE TIED CARD OF 'arithmancylaw02.PolyValues'. -/
def polyValuesCard : Claim7 := { stood := { row := polyValuesRow, standIns := [], harness := (true, "18cee0e2597100d74543019d416136d9d722b722972087bf6043bfc422a1bfc8"), looks := true }, kinds := [], alts := [], laidByText := true, laidKinds := [.data, .data, .data, .data, .sentinel, .sentinel, .pinned], laidTests := true, laidLooks := .later }
def PolyValuesCardSaid : Prop := Claim7.holds Tryz.pinned (.plain (OpenSpec.ofChange polyValuesSpec)) polyValuesCard

/-- THE SECOND FORM's CARD OF 'arithmancylaw02.PolyParts'. -/
def polyPartsUptoCard : Claim7 := { stood := { row := polyPartsUptoRow, standIns := [], harness := (true, "18cee0e2597100d74543019d416136d9d722b722972087bf6043bfc422a1bfc8"), looks := true }, kinds := [], alts := [], laidByText := true, laidKinds := [.data, .data, .data, .data, .sentinel, .sentinel, .pinned], laidTests := true, laidLooks := .later }
def PolyPartsUptoCardSaid : Prop := Claim7.holds Tryz.pinned (.plain (OpenSpec.upto polyPartsSpec)) polyPartsUptoCard

/-- THE SECOND FORM's CARD OF 'arithmancylaw02.PolySums'. -/
def polySumsUptoCard : Claim7 := { stood := { row := polySumsUptoRow, standIns := [], harness := (true, "18cee0e2597100d74543019d416136d9d722b722972087bf6043bfc422a1bfc8"), looks := true }, kinds := [], alts := [], laidByText := true, laidKinds := [.data, .data, .data, .data, .sentinel, .sentinel, .pinned], laidTests := true, laidLooks := .later }
def PolySumsUptoCardSaid : Prop := Claim7.holds Tryz.pinned (.plain (OpenSpec.upto polySumsSpec)) polySumsUptoCard

/-- THE SECOND FORM's CARD OF 'arithmancylaw02.PolyRing'. -/
def polyRingUptoCard : Claim7 := { stood := { row := polyRingUptoRow, standIns := [], harness := (true, "18cee0e2597100d74543019d416136d9d722b722972087bf6043bfc422a1bfc8"), looks := true }, kinds := [], alts := [], laidByText := true, laidKinds := [.data, .data, .data, .data, .sentinel, .sentinel, .pinned], laidTests := true, laidLooks := .later }
def PolyRingUptoCardSaid : Prop := Claim7.holds Tryz.pinned (.plain (OpenSpec.upto polyRingSpec)) polyRingUptoCard

/-- THE SECOND FORM's CARD OF 'arithmancylaw02.PolyPuts'. -/
def polyPutsUptoCard : Claim7 := { stood := { row := polyPutsUptoRow, standIns := [], harness := (true, "18cee0e2597100d74543019d416136d9d722b722972087bf6043bfc422a1bfc8"), looks := true }, kinds := [], alts := [], laidByText := true, laidKinds := [.data, .data, .data, .data, .sentinel, .sentinel, .pinned], laidTests := true, laidLooks := .later }
def PolyPutsUptoCardSaid : Prop := Claim7.holds Tryz.pinned (.plain (OpenSpec.upto polyPutsSpec)) polyPutsUptoCard

/-- THE SECOND FORM's CARD OF 'arithmancylaw02.PolyValues'. -/
def polyValuesUptoCard : Claim7 := { stood := { row := polyValuesUptoRow, standIns := [], harness := (true, "18cee0e2597100d74543019d416136d9d722b722972087bf6043bfc422a1bfc8"), looks := true }, kinds := [], alts := [], laidByText := true, laidKinds := [.data, .data, .data, .data, .sentinel, .sentinel, .pinned], laidTests := true, laidLooks := .later }
def PolyValuesUptoCardSaid : Prop := Claim7.holds Tryz.pinned (.plain (OpenSpec.upto polyValuesSpec)) polyValuesUptoCard
end Rows
end Go.Proofs.YtbkhmflfhgihhaaGreatDoor
