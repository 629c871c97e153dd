/-
  DERIVED. GIVEN WITH THE SEED: THE CARDS: each row of YtdjamdnjkdllgaaDoorRows.lean that lists a variable, with what it lists TIED to the program's text (the seventh form; the later family's looks); each row that meets fmt, with fmt's text TOLD by the authors' own Lean function (tested against real Go, not proved from fmt's source: count such statements apart). THE CARD IS WHAT COUNTS. Prove the row's statement (the work); the ties are given (YtdjamdnjkdllgaaDoorTie.lean); close each card by the builder's one call (the guide's Derived/Test/ToyasCard.lean, 'card_holds'). Laid BY PROGRAM, IN A SANDBOX (cutbox-door.mjs). By AI agents, Wed Nov 11 2026. No macro, syntax, notation, axiom, sorry.
-/
import Derived.Test.YtdjamdnjkdllgaaDoorRows
import GoSem.ClaimSeven
namespace Go.Proofs.YtdjamdnjkdllgaaDoor
namespace Rows

/-- THE TIED CARD OF 'laws.FnExactReadDec'. -/
def fnExactReadDecCard : Claim7 := { stood := { row := fnExactReadDecRow, standIns := [], harness := (true, "f2709f39e4ed9d268764ec15fa4885121df03c6acd7abc23f294f50ceb46741a"), looks := true }, kinds := [], alts := [], laidByText := true, laidKinds := [.data, .data, .data, .sentinel, .sentinel], laidTests := true, laidLooks := .later }
def FnExactReadDecCardSaid : Prop := Claim7.holds Tryd.pinned (.plain (OpenSpec.ofChange fnExactReadDecSpec)) fnExactReadDecCard

/-- THE TIED CARD OF 'laws.FnNumbers'. -/
def fnNumbersCard : Claim7 := { stood := { row := fnNumbersRow, standIns := [], harness := (true, "f2709f39e4ed9d268764ec15fa4885121df03c6acd7abc23f294f50ceb46741a"), looks := true }, kinds := [], alts := [], laidByText := true, laidKinds := [.data, .data, .data, .sentinel, .sentinel], laidTests := true, laidLooks := .later }
def FnNumbersCardSaid : Prop := Claim7.holds Tryd.pinned (.plain (OpenSpec.ofChange fnNumbersSpec)) fnNumbersCard

/-- THE TIED CARD OF 'laws.FnExactLex'. -/
def fnExactLexCard : Claim7 := { stood := { row := fnExactLexRow, standIns := [], harness := (true, "f2709f39e4ed9d268764ec15fa4885121df03c6acd7abc23f294f50ceb46741a"), looks := true }, kinds := [], alts := [], laidByText := true, laidKinds := [.data, .data, .data, .sentinel, .sentinel], laidTests := true, laidLooks := .later }
def FnExactLexCardSaid : Prop := Claim7.holds Tryd.pinned (.plain (OpenSpec.ofChange fnExactLexSpec)) fnExactLexCard

/-- THE TIED CARD OF 'laws.FnLexed'. -/
def fnLexedCard : Claim7 := { stood := { row := fnLexedRow, standIns := [], harness := (true, "f2709f39e4ed9d268764ec15fa4885121df03c6acd7abc23f294f50ceb46741a"), looks := true }, kinds := [], alts := [], laidByText := true, laidKinds := [.data, .data, .data, .sentinel, .sentinel], laidTests := true, laidLooks := .later }
def FnLexedCardSaid : Prop := Claim7.holds Tryd.pinned (.plain (OpenSpec.ofChange fnLexedSpec)) fnLexedCard

/-- THE SECOND FORM's CARD OF 'laws.FnExactReadDec'. -/
def fnExactReadDecUptoCard : Claim7 := { stood := { row := fnExactReadDecUptoRow, standIns := [], harness := (true, "f2709f39e4ed9d268764ec15fa4885121df03c6acd7abc23f294f50ceb46741a"), looks := true }, kinds := [], alts := [], laidByText := true, laidKinds := [.data, .data, .data, .sentinel, .sentinel], laidTests := true, laidLooks := .later }
def FnExactReadDecUptoCardSaid : Prop := Claim7.holds Tryd.pinned (.plain (OpenSpec.upto fnExactReadDecSpec)) fnExactReadDecUptoCard

/-- THE SECOND FORM's CARD OF 'laws.FnNumbers'. -/
def fnNumbersUptoCard : Claim7 := { stood := { row := fnNumbersUptoRow, standIns := [], harness := (true, "f2709f39e4ed9d268764ec15fa4885121df03c6acd7abc23f294f50ceb46741a"), looks := true }, kinds := [], alts := [], laidByText := true, laidKinds := [.data, .data, .data, .sentinel, .sentinel], laidTests := true, laidLooks := .later }
def FnNumbersUptoCardSaid : Prop := Claim7.holds Tryd.pinned (.plain (OpenSpec.upto fnNumbersSpec)) fnNumbersUptoCard

/-- THE SECOND FORM's CARD OF 'laws.FnExactLex'. -/
def fnExactLexUptoCard : Claim7 := { stood := { row := fnExactLexUptoRow, standIns := [], harness := (true, "f2709f39e4ed9d268764ec15fa4885121df03c6acd7abc23f294f50ceb46741a"), looks := true }, kinds := [], alts := [], laidByText := true, laidKinds := [.data, .data, .data, .sentinel, .sentinel], laidTests := true, laidLooks := .later }
def FnExactLexUptoCardSaid : Prop := Claim7.holds Tryd.pinned (.plain (OpenSpec.upto fnExactLexSpec)) fnExactLexUptoCard

/-- THE SECOND FORM's CARD OF 'laws.FnLexed'. -/
def fnLexedUptoCard : Claim7 := { stood := { row := fnLexedUptoRow, standIns := [], harness := (true, "f2709f39e4ed9d268764ec15fa4885121df03c6acd7abc23f294f50ceb46741a"), looks := true }, kinds := [], alts := [], laidByText := true, laidKinds := [.data, .data, .data, .sentinel, .sentinel], laidTests := true, laidLooks := .later }
def FnLexedUptoCardSaid : Prop := Claim7.holds Tryd.pinned (.plain (OpenSpec.upto fnLexedSpec)) fnLexedUptoCard
end Rows
end Go.Proofs.YtdjamdnjkdllgaaDoor
