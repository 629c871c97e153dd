/-
  DERIVED. GIVEN WITH THE SEED: THE CARDS: each row of YtcmoaigneafojaaDoorRows.lean that lists a variable, with what it lists TIED to the program's text (the seventh form; the later family's looks); each row that meets fmt, with fmt's text TOLD by the authors' own Lean function (tested against real Go, not proved from fmt's source: count such statements apart). THE CARD IS WHAT COUNTS. Prove the row's statement (the work); the ties are given (YtcmoaigneafojaaDoorTie.lean); close each card by the builder's one call (the guide's Derived/Test/ToyasCard.lean, 'card_holds'). Laid BY PROGRAM, IN A SANDBOX (cutbox-door.mjs). By AI agents, Wed Nov 11 2026. No macro, syntax, notation, axiom, sorry.
-/
import Derived.Test.YtcmoaigneafojaaDoorRows
import GoSem.ClaimSeven
namespace Go.Proofs.YtcmoaigneafojaaDoor
namespace Rows

/-- THE TIED CARD OF 'laws.FnExactDec'. -/
def fnExactDecCard : Claim7 := { stood := { row := fnExactDecRow, standIns := [], harness := (true, "9b104e986866cc520feb75d6dcbc16a1c8fcb3b87937dc70a0f9cafed002c9d9"), looks := false }, kinds := [], alts := [], laidByText := true, laidKinds := [.data, .data, .data], laidTests := true, laidLooks := .later }
def FnExactDecCardSaid : Prop := Claim7.holds Tryd.pinned (.plain (OpenSpec.ofChange fnExactDecSpec)) fnExactDecCard

/-- THE TIED CARD OF 'laws.FnExactCodeWord'. -/
def fnExactCodeWordCard : Claim7 := { stood := { row := fnExactCodeWordRow, standIns := [], harness := (true, "9b104e986866cc520feb75d6dcbc16a1c8fcb3b87937dc70a0f9cafed002c9d9"), looks := false }, kinds := [], alts := [], laidByText := true, laidKinds := [.data, .pinned], laidTests := true, laidLooks := .later }
def FnExactCodeWordCardSaid : Prop := Claim7.holds Tryd.pinned (.plain (OpenSpec.ofChange fnExactCodeWordSpec)) fnExactCodeWordCard

/-- THE TIED CARD OF 'laws.FnExactIsKey'. -/
def fnExactIsKeyCard : Claim7 := { stood := { row := fnExactIsKeyRow, standIns := [], harness := (true, "9b104e986866cc520feb75d6dcbc16a1c8fcb3b87937dc70a0f9cafed002c9d9"), looks := false }, kinds := [], alts := [], laidByText := true, laidKinds := [.data, .pinned], laidTests := true, laidLooks := .later }
def FnExactIsKeyCardSaid : Prop := Claim7.holds Tryd.pinned (.plain (OpenSpec.ofChange fnExactIsKeySpec)) fnExactIsKeyCard

/-- THE TIED CARD OF 'laws.FnExactKeyOf'. -/
def fnExactKeyOfCard : Claim7 := { stood := { row := fnExactKeyOfRow, standIns := [], harness := (true, "9b104e986866cc520feb75d6dcbc16a1c8fcb3b87937dc70a0f9cafed002c9d9"), looks := false }, kinds := [], alts := [], laidByText := true, laidKinds := [.data, .pinned], laidTests := true, laidLooks := .later }
def FnExactKeyOfCardSaid : Prop := Claim7.holds Tryd.pinned (.plain (OpenSpec.ofChange fnExactKeyOfSpec)) fnExactKeyOfCard

/-- THE SECOND FORM's CARD OF 'laws.FnExactDec'. -/
def fnExactDecUptoCard : Claim7 := { stood := { row := fnExactDecUptoRow, standIns := [], harness := (true, "9b104e986866cc520feb75d6dcbc16a1c8fcb3b87937dc70a0f9cafed002c9d9"), looks := false }, kinds := [], alts := [], laidByText := true, laidKinds := [.data, .data, .data], laidTests := true, laidLooks := .later }
def FnExactDecUptoCardSaid : Prop := Claim7.holds Tryd.pinned (.plain (OpenSpec.upto fnExactDecSpec)) fnExactDecUptoCard

/-- THE SECOND FORM's CARD OF 'laws.FnExactCodeWord'. -/
def fnExactCodeWordUptoCard : Claim7 := { stood := { row := fnExactCodeWordUptoRow, standIns := [], harness := (true, "9b104e986866cc520feb75d6dcbc16a1c8fcb3b87937dc70a0f9cafed002c9d9"), looks := false }, kinds := [], alts := [], laidByText := true, laidKinds := [.data, .pinned], laidTests := true, laidLooks := .later }
def FnExactCodeWordUptoCardSaid : Prop := Claim7.holds Tryd.pinned (.plain (OpenSpec.upto fnExactCodeWordSpec)) fnExactCodeWordUptoCard

/-- THE SECOND FORM's CARD OF 'laws.FnExactIsKey'. -/
def fnExactIsKeyUptoCard : Claim7 := { stood := { row := fnExactIsKeyUptoRow, standIns := [], harness := (true, "9b104e986866cc520feb75d6dcbc16a1c8fcb3b87937dc70a0f9cafed002c9d9"), looks := false }, kinds := [], alts := [], laidByText := true, laidKinds := [.data, .pinned], laidTests := true, laidLooks := .later }
def FnExactIsKeyUptoCardSaid : Prop := Claim7.holds Tryd.pinned (.plain (OpenSpec.upto fnExactIsKeySpec)) fnExactIsKeyUptoCard

/-- THE SECOND FORM's CARD OF 'laws.FnExactKeyOf'. -/
def fnExactKeyOfUptoCard : Claim7 := { stood := { row := fnExactKeyOfUptoRow, standIns := [], harness := (true, "9b104e986866cc520feb75d6dcbc16a1c8fcb3b87937dc70a0f9cafed002c9d9"), looks := false }, kinds := [], alts := [], laidByText := true, laidKinds := [.data, .pinned], laidTests := true, laidLooks := .later }
def FnExactKeyOfUptoCardSaid : Prop := Claim7.holds Tryd.pinned (.plain (OpenSpec.upto fnExactKeyOfSpec)) fnExactKeyOfUptoCard
end Rows
end Go.Proofs.YtcmoaigneafojaaDoor
