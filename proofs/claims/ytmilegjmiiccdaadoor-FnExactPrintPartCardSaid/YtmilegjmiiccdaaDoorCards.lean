/-
  DERIVED. GIVEN WITH THE SEED: THE CARDS: each row of YtmilegjmiiccdaaDoorRows.lean that lists a variable, with what it lists TIED to the program's text (the seventh form; the later family's looks); each row that meets fmt, with fmt's text TOLD by the authors' own Lean function (tested against real Go, not proved from fmt's source: count such statements apart). THE CARD IS WHAT COUNTS. Prove the row's statement (the work); the ties are given (YtmilegjmiiccdaaDoorTie.lean); close each card by the builder's one call (the guide's Derived/Test/ToyasCard.lean, 'card_holds'). Laid BY PROGRAM, IN A SANDBOX (cutbox-door.mjs). By AI agents, Wed Nov 11 2026. No macro, syntax, notation, axiom, sorry.
-/
import Derived.Test.YtmilegjmiiccdaaDoorRows
import GoSem.ClaimSeven
namespace Go.Proofs.YtmilegjmiiccdaaDoor
namespace Rows

/-- THE TIED CARD OF 'laws.FnExactPrint'. -/
def fnExactPrintCard : Claim7 := { stood := { row := fnExactPrintRow, standIns := [], harness := (true, "abb72f7de5dc0812e781960b267c0ff15ab0724c9d00d3119c15044412e99edd"), looks := false }, kinds := [], alts := [], laidByText := true, laidKinds := [.data, .data, .data, .data, .pinned], laidTests := true, laidLooks := .later }
def FnExactPrintCardSaid : Prop := Claim7.holds Tryd.pinned (.plain (OpenSpec.ofChange fnExactPrintSpec)) fnExactPrintCard

/-- THE TIED CARD OF 'laws.FnExactPrintPart'. -/
def fnExactPrintPartCard : Claim7 := { stood := { row := fnExactPrintPartRow, standIns := [], harness := (true, "abb72f7de5dc0812e781960b267c0ff15ab0724c9d00d3119c15044412e99edd"), looks := false }, kinds := [], alts := [], laidByText := true, laidKinds := [.data, .data, .data, .data, .pinned], laidTests := true, laidLooks := .later }
def FnExactPrintPartCardSaid : Prop := Claim7.holds Tryd.pinned (.plain (OpenSpec.ofChange fnExactPrintPartSpec)) fnExactPrintPartCard

/-- THE TIED CARD OF 'laws.FnExactClosed'. -/
def fnExactClosedCard : Claim7 := { stood := { row := fnExactClosedRow, standIns := [], harness := (true, "abb72f7de5dc0812e781960b267c0ff15ab0724c9d00d3119c15044412e99edd"), looks := false }, kinds := [], alts := [], laidByText := true, laidKinds := [.data, .pinned], laidTests := true, laidLooks := .later }
def FnExactClosedCardSaid : Prop := Claim7.holds Tryd.pinned (.plain (OpenSpec.ofChange fnExactClosedSpec)) fnExactClosedCard

/-- THE TIED CARD OF 'laws.FnExactVisible'. -/
def fnExactVisibleCard : Claim7 := { stood := { row := fnExactVisibleRow, standIns := [], harness := (true, "abb72f7de5dc0812e781960b267c0ff15ab0724c9d00d3119c15044412e99edd"), looks := false }, kinds := [], alts := [], laidByText := true, laidKinds := [.data, .pinned], laidTests := true, laidLooks := .later }
def FnExactVisibleCardSaid : Prop := Claim7.holds Tryd.pinned (.plain (OpenSpec.ofChange fnExactVisibleSpec)) fnExactVisibleCard

/-- THE TIED CARD OF 'laws.FnExactFreeNames'. -/
def fnExactFreeNamesCard : Claim7 := { stood := { row := fnExactFreeNamesRow, standIns := [], harness := (true, "abb72f7de5dc0812e781960b267c0ff15ab0724c9d00d3119c15044412e99edd"), looks := false }, kinds := [], alts := [], laidByText := true, laidKinds := [.data, .pinned], laidTests := true, laidLooks := .later }
def FnExactFreeNamesCardSaid : Prop := Claim7.holds Tryd.pinned (.plain (OpenSpec.ofChange fnExactFreeNamesSpec)) fnExactFreeNamesCard

/-- THE TIED CARD OF 'laws.FnExactAlphaSame'. -/
def fnExactAlphaSameCard : Claim7 := { stood := { row := fnExactAlphaSameRow, standIns := [], harness := (true, "abb72f7de5dc0812e781960b267c0ff15ab0724c9d00d3119c15044412e99edd"), looks := false }, kinds := [], alts := [], laidByText := true, laidKinds := [.data, .pinned], laidTests := true, laidLooks := .later }
def FnExactAlphaSameCardSaid : Prop := Claim7.holds Tryd.pinned (.plain (OpenSpec.ofChange fnExactAlphaSameSpec)) fnExactAlphaSameCard

/-- THE TIED CARD OF 'laws.FnExactCanon'. -/
def fnExactCanonCard : Claim7 := { stood := { row := fnExactCanonRow, standIns := [], harness := (true, "abb72f7de5dc0812e781960b267c0ff15ab0724c9d00d3119c15044412e99edd"), looks := false }, kinds := [], alts := [], laidByText := true, laidKinds := [.data, .pinned], laidTests := true, laidLooks := .later }
def FnExactCanonCardSaid : Prop := Claim7.holds Tryd.pinned (.plain (OpenSpec.ofChange fnExactCanonSpec)) fnExactCanonCard

/-- THE SECOND FORM's CARD OF 'laws.FnExactPrint'. -/
def fnExactPrintUptoCard : Claim7 := { stood := { row := fnExactPrintUptoRow, standIns := [], harness := (true, "abb72f7de5dc0812e781960b267c0ff15ab0724c9d00d3119c15044412e99edd"), looks := false }, kinds := [], alts := [], laidByText := true, laidKinds := [.data, .data, .data, .data, .pinned], laidTests := true, laidLooks := .later }
def FnExactPrintUptoCardSaid : Prop := Claim7.holds Tryd.pinned (.plain (OpenSpec.upto fnExactPrintSpec)) fnExactPrintUptoCard

/-- THE SECOND FORM's CARD OF 'laws.FnExactPrintPart'. -/
def fnExactPrintPartUptoCard : Claim7 := { stood := { row := fnExactPrintPartUptoRow, standIns := [], harness := (true, "abb72f7de5dc0812e781960b267c0ff15ab0724c9d00d3119c15044412e99edd"), looks := false }, kinds := [], alts := [], laidByText := true, laidKinds := [.data, .data, .data, .data, .pinned], laidTests := true, laidLooks := .later }
def FnExactPrintPartUptoCardSaid : Prop := Claim7.holds Tryd.pinned (.plain (OpenSpec.upto fnExactPrintPartSpec)) fnExactPrintPartUptoCard

/-- THE SECOND FORM's CARD OF 'laws.FnExactClosed'. -/
def fnExactClosedUptoCard : Claim7 := { stood := { row := fnExactClosedUptoRow, standIns := [], harness := (true, "abb72f7de5dc0812e781960b267c0ff15ab0724c9d00d3119c15044412e99edd"), looks := false }, kinds := [], alts := [], laidByText := true, laidKinds := [.data, .pinned], laidTests := true, laidLooks := .later }
def FnExactClosedUptoCardSaid : Prop := Claim7.holds Tryd.pinned (.plain (OpenSpec.upto fnExactClosedSpec)) fnExactClosedUptoCard

/-- THE SECOND FORM's CARD OF 'laws.FnExactVisible'. -/
def fnExactVisibleUptoCard : Claim7 := { stood := { row := fnExactVisibleUptoRow, standIns := [], harness := (true, "abb72f7de5dc0812e781960b267c0ff15ab0724c9d00d3119c15044412e99edd"), looks := false }, kinds := [], alts := [], laidByText := true, laidKinds := [.data, .pinned], laidTests := true, laidLooks := .later }
def FnExactVisibleUptoCardSaid : Prop := Claim7.holds Tryd.pinned (.plain (OpenSpec.upto fnExactVisibleSpec)) fnExactVisibleUptoCard

/-- THE SECOND FORM's CARD OF 'laws.FnExactFreeNames'. -/
def fnExactFreeNamesUptoCard : Claim7 := { stood := { row := fnExactFreeNamesUptoRow, standIns := [], harness := (true, "abb72f7de5dc0812e781960b267c0ff15ab0724c9d00d3119c15044412e99edd"), looks := false }, kinds := [], alts := [], laidByText := true, laidKinds := [.data, .pinned], laidTests := true, laidLooks := .later }
def FnExactFreeNamesUptoCardSaid : Prop := Claim7.holds Tryd.pinned (.plain (OpenSpec.upto fnExactFreeNamesSpec)) fnExactFreeNamesUptoCard

/-- THE SECOND FORM's CARD OF 'laws.FnExactAlphaSame'. -/
def fnExactAlphaSameUptoCard : Claim7 := { stood := { row := fnExactAlphaSameUptoRow, standIns := [], harness := (true, "abb72f7de5dc0812e781960b267c0ff15ab0724c9d00d3119c15044412e99edd"), looks := false }, kinds := [], alts := [], laidByText := true, laidKinds := [.data, .pinned], laidTests := true, laidLooks := .later }
def FnExactAlphaSameUptoCardSaid : Prop := Claim7.holds Tryd.pinned (.plain (OpenSpec.upto fnExactAlphaSameSpec)) fnExactAlphaSameUptoCard

/-- THE SECOND FORM's CARD OF 'laws.FnExactCanon'. -/
def fnExactCanonUptoCard : Claim7 := { stood := { row := fnExactCanonUptoRow, standIns := [], harness := (true, "abb72f7de5dc0812e781960b267c0ff15ab0724c9d00d3119c15044412e99edd"), looks := false }, kinds := [], alts := [], laidByText := true, laidKinds := [.data, .pinned], laidTests := true, laidLooks := .later }
def FnExactCanonUptoCardSaid : Prop := Claim7.holds Tryd.pinned (.plain (OpenSpec.upto fnExactCanonSpec)) fnExactCanonUptoCard
end Rows
end Go.Proofs.YtmilegjmiiccdaaDoor
