/-
  DERIVED. GIVEN WITH THE SEED: THE CARDS: each row of YthmpgocaoccnaaaGreatDoorRows.lean that lists a variable, with what it lists TIED to the program's text (the seventh form; the later family's looks); each row that meets fmt, with fmt's text TOLD by the authors' own Lean function (tested against real Go, not proved from fmt's source: count such statements apart). THE CARD IS WHAT COUNTS. Prove the row's statement (the work); the ties are given (YthmpgocaoccnaaaGreatDoorTie.lean); close each card by the builder's one call (the guide's Derived/Test/ToyasCard.lean, 'card_holds'). Laid BY PROGRAM, IN A SANDBOX (cutbox-door.mjs). By AI agents, Wed Nov 11 2026. No macro, syntax, notation, axiom, sorry.
-/
import Derived.Test.YthmpgocaoccnaaaGreatDoorRows
import GoSem.ClaimSeven
namespace Go.Proofs.YthmpgocaoccnaaaGreatDoor
namespace Rows

/-- THE TIED CARD OF 'laws.FnExactRenameOne'. -/
def fnExactRenameOneCard : Claim7 := { stood := { row := fnExactRenameOneRow, standIns := [], harness := (true, "54e6ad759c07c62de7cc5a4958491200fa3d65109fb64ef42c542f6c596f58fe"), looks := false }, kinds := [], alts := [], laidByText := true, laidKinds := [.data, .pinned], laidTests := true, laidLooks := .later }
def FnExactRenameOneCardSaid : Prop := Claim7.holds Tryz.pinned (.plain (OpenSpec.ofChange fnExactRenameOneSpec)) fnExactRenameOneCard

/-- THE TIED CARD OF 'laws.FnFresh'. -/
def fnFreshCard : Claim7 := { stood := { row := fnFreshRow, standIns := [], harness := (true, "54e6ad759c07c62de7cc5a4958491200fa3d65109fb64ef42c542f6c596f58fe"), looks := false }, kinds := [], alts := [], laidByText := true, laidKinds := [.data, .pinned], laidTests := true, laidLooks := .later }
def FnFreshCardSaid : Prop := Claim7.holds Tryz.pinned (.plain (OpenSpec.ofChange fnFreshSpec)) fnFreshCard

/-- THE SECOND FORM's CARD OF 'laws.FnExactRenameOne'. -/
def fnExactRenameOneUptoCard : Claim7 := { stood := { row := fnExactRenameOneUptoRow, standIns := [], harness := (true, "54e6ad759c07c62de7cc5a4958491200fa3d65109fb64ef42c542f6c596f58fe"), looks := false }, kinds := [], alts := [], laidByText := true, laidKinds := [.data, .pinned], laidTests := true, laidLooks := .later }
def FnExactRenameOneUptoCardSaid : Prop := Claim7.holds Tryz.pinned (.plain (OpenSpec.upto fnExactRenameOneSpec)) fnExactRenameOneUptoCard

/-- THE SECOND FORM's CARD OF 'laws.FnFresh'. -/
def fnFreshUptoCard : Claim7 := { stood := { row := fnFreshUptoRow, standIns := [], harness := (true, "54e6ad759c07c62de7cc5a4958491200fa3d65109fb64ef42c542f6c596f58fe"), looks := false }, kinds := [], alts := [], laidByText := true, laidKinds := [.data, .pinned], laidTests := true, laidLooks := .later }
def FnFreshUptoCardSaid : Prop := Claim7.holds Tryz.pinned (.plain (OpenSpec.upto fnFreshSpec)) fnFreshUptoCard
end Rows
end Go.Proofs.YthmpgocaoccnaaaGreatDoor
