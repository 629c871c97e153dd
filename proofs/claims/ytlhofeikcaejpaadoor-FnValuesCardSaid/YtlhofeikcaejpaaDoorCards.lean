/-
  DERIVED. GIVEN WITH THE SEED: THE CARDS: each row of YtlhofeikcaejpaaDoorRows.lean that lists a variable, with what it lists TIED to the program's text (the seventh form; the later family's looks); each row that meets fmt, with fmt's text TOLD by the authors' own Lean function (tested against real Go, not proved from fmt's source: count such statements apart). THE CARD IS WHAT COUNTS. Prove the row's statement (the work); the ties are given (YtlhofeikcaejpaaDoorTie.lean); close each card by the builder's one call (the guide's Derived/Test/ToyasCard.lean, 'card_holds'). Laid BY PROGRAM, IN A SANDBOX (cutbox-door.mjs). By AI agents, Wed Nov 11 2026. No macro, syntax, notation, axiom, sorry.
-/
import Derived.Test.YtlhofeikcaejpaaDoorRows
import GoSem.ClaimSeven
namespace Go.Proofs.YtlhofeikcaejpaaDoor
namespace Rows

/-- THE TIED CARD OF 'laws.FnValues'. -/
def fnValuesCard : Claim7 := { stood := { row := fnValuesRow, standIns := [], harness := (true, "f59e5b1a7855c1ac323bfe8c4320a2d6e88d966a959f0c1d2a1666acd1c27535"), looks := false }, kinds := [], alts := [], laidByText := true, laidKinds := [.data, .data, .data], laidTests := true, laidLooks := .later }
def FnValuesCardSaid : Prop := Claim7.holds Tryd.pinned (.plain (OpenSpec.ofChange fnValuesSpec)) fnValuesCard

/-- THE TIED CARD OF 'laws.FnSizes'. -/
def fnSizesCard : Claim7 := { stood := { row := fnSizesRow, standIns := [], harness := (true, "f59e5b1a7855c1ac323bfe8c4320a2d6e88d966a959f0c1d2a1666acd1c27535"), looks := false }, kinds := [], alts := [], laidByText := true, laidKinds := [.data, .data, .data], laidTests := true, laidLooks := .later }
def FnSizesCardSaid : Prop := Claim7.holds Tryd.pinned (.plain (OpenSpec.ofChange fnSizesSpec)) fnSizesCard

/-- THE TIED CARD OF 'laws.FnExactShowType'. -/
def fnExactShowTypeCard : Claim7 := { stood := { row := fnExactShowTypeRow, standIns := [], harness := (true, "f59e5b1a7855c1ac323bfe8c4320a2d6e88d966a959f0c1d2a1666acd1c27535"), looks := false }, kinds := [], alts := [], laidByText := true, laidKinds := [.data, .data, .data], laidTests := true, laidLooks := .later }
def FnExactShowTypeCardSaid : Prop := Claim7.holds Tryd.pinned (.plain (OpenSpec.ofChange fnExactShowTypeSpec)) fnExactShowTypeCard

/-- THE TIED CARD OF 'laws.FnUnified'. -/
def fnUnifiedCard : Claim7 := { stood := { row := fnUnifiedRow, standIns := [], harness := (true, "f59e5b1a7855c1ac323bfe8c4320a2d6e88d966a959f0c1d2a1666acd1c27535"), looks := false }, kinds := [], alts := [], laidByText := true, laidKinds := [.data, .data, .data], laidTests := true, laidLooks := .later }
def FnUnifiedCardSaid : Prop := Claim7.holds Tryd.pinned (.plain (OpenSpec.ofChange fnUnifiedSpec)) fnUnifiedCard

/-- THE TIED CARD OF 'laws.FnExactShowVal'. -/
def fnExactShowValCard : Claim7 := { stood := { row := fnExactShowValRow, standIns := [], harness := (true, "f59e5b1a7855c1ac323bfe8c4320a2d6e88d966a959f0c1d2a1666acd1c27535"), looks := false }, kinds := [], alts := [], laidByText := true, laidKinds := [.data, .data, .data], laidTests := true, laidLooks := .later }
def FnExactShowValCardSaid : Prop := Claim7.holds Tryd.pinned (.plain (OpenSpec.ofChange fnExactShowValSpec)) fnExactShowValCard

/-- THE TIED CARD OF 'laws.FnExactUnified'. -/
def fnExactUnifiedCard : Claim7 := { stood := { row := fnExactUnifiedRow, standIns := [], harness := (true, "f59e5b1a7855c1ac323bfe8c4320a2d6e88d966a959f0c1d2a1666acd1c27535"), looks := false }, kinds := [], alts := [], laidByText := true, laidKinds := [.data, .data, .data], laidTests := true, laidLooks := .later }
def FnExactUnifiedCardSaid : Prop := Claim7.holds Tryd.pinned (.plain (OpenSpec.ofChange fnExactUnifiedSpec)) fnExactUnifiedCard

/-- THE SECOND FORM's CARD OF 'laws.FnValues'. -/
def fnValuesUptoCard : Claim7 := { stood := { row := fnValuesUptoRow, standIns := [], harness := (true, "f59e5b1a7855c1ac323bfe8c4320a2d6e88d966a959f0c1d2a1666acd1c27535"), looks := false }, kinds := [], alts := [], laidByText := true, laidKinds := [.data, .data, .data], laidTests := true, laidLooks := .later }
def FnValuesUptoCardSaid : Prop := Claim7.holds Tryd.pinned (.plain (OpenSpec.upto fnValuesSpec)) fnValuesUptoCard

/-- THE SECOND FORM's CARD OF 'laws.FnSizes'. -/
def fnSizesUptoCard : Claim7 := { stood := { row := fnSizesUptoRow, standIns := [], harness := (true, "f59e5b1a7855c1ac323bfe8c4320a2d6e88d966a959f0c1d2a1666acd1c27535"), looks := false }, kinds := [], alts := [], laidByText := true, laidKinds := [.data, .data, .data], laidTests := true, laidLooks := .later }
def FnSizesUptoCardSaid : Prop := Claim7.holds Tryd.pinned (.plain (OpenSpec.upto fnSizesSpec)) fnSizesUptoCard

/-- THE SECOND FORM's CARD OF 'laws.FnExactShowType'. -/
def fnExactShowTypeUptoCard : Claim7 := { stood := { row := fnExactShowTypeUptoRow, standIns := [], harness := (true, "f59e5b1a7855c1ac323bfe8c4320a2d6e88d966a959f0c1d2a1666acd1c27535"), looks := false }, kinds := [], alts := [], laidByText := true, laidKinds := [.data, .data, .data], laidTests := true, laidLooks := .later }
def FnExactShowTypeUptoCardSaid : Prop := Claim7.holds Tryd.pinned (.plain (OpenSpec.upto fnExactShowTypeSpec)) fnExactShowTypeUptoCard

/-- THE SECOND FORM's CARD OF 'laws.FnUnified'. -/
def fnUnifiedUptoCard : Claim7 := { stood := { row := fnUnifiedUptoRow, standIns := [], harness := (true, "f59e5b1a7855c1ac323bfe8c4320a2d6e88d966a959f0c1d2a1666acd1c27535"), looks := false }, kinds := [], alts := [], laidByText := true, laidKinds := [.data, .data, .data], laidTests := true, laidLooks := .later }
def FnUnifiedUptoCardSaid : Prop := Claim7.holds Tryd.pinned (.plain (OpenSpec.upto fnUnifiedSpec)) fnUnifiedUptoCard

/-- THE SECOND FORM's CARD OF 'laws.FnExactShowVal'. -/
def fnExactShowValUptoCard : Claim7 := { stood := { row := fnExactShowValUptoRow, standIns := [], harness := (true, "f59e5b1a7855c1ac323bfe8c4320a2d6e88d966a959f0c1d2a1666acd1c27535"), looks := false }, kinds := [], alts := [], laidByText := true, laidKinds := [.data, .data, .data], laidTests := true, laidLooks := .later }
def FnExactShowValUptoCardSaid : Prop := Claim7.holds Tryd.pinned (.plain (OpenSpec.upto fnExactShowValSpec)) fnExactShowValUptoCard

/-- THE SECOND FORM's CARD OF 'laws.FnExactUnified'. -/
def fnExactUnifiedUptoCard : Claim7 := { stood := { row := fnExactUnifiedUptoRow, standIns := [], harness := (true, "f59e5b1a7855c1ac323bfe8c4320a2d6e88d966a959f0c1d2a1666acd1c27535"), looks := false }, kinds := [], alts := [], laidByText := true, laidKinds := [.data, .data, .data], laidTests := true, laidLooks := .later }
def FnExactUnifiedUptoCardSaid : Prop := Claim7.holds Tryd.pinned (.plain (OpenSpec.upto fnExactUnifiedSpec)) fnExactUnifiedUptoCard
end Rows
end Go.Proofs.YtlhofeikcaejpaaDoor
