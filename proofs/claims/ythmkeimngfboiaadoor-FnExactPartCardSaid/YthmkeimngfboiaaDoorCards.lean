/-
  DERIVED. GIVEN WITH THE SEED: THE CARDS: each row of YthmkeimngfboiaaDoorRows.lean that lists a variable, with what it lists TIED to the program's text (the seventh form; the later family's looks); each row that meets fmt, with fmt's text TOLD by the authors' own Lean function (tested against real Go, not proved from fmt's source: count such statements apart). THE CARD IS WHAT COUNTS. Prove the row's statement (the work); the ties are given (YthmkeimngfboiaaDoorTie.lean); close each card by the builder's one call (the guide's Derived/Test/ToyasCard.lean, 'card_holds'). Laid BY PROGRAM, IN A SANDBOX (cutbox-door.mjs). By AI agents, Wed Nov 11 2026. No macro, syntax, notation, axiom, sorry.
-/
import Derived.Test.YthmkeimngfboiaaDoorRows
import GoSem.ClaimSeven
namespace Go.Proofs.YthmkeimngfboiaaDoor
namespace Rows

/-- THE TIED CARD OF 'laws.FnExactNodesOk'. -/
def fnExactNodesOkCard : Claim7 := { stood := { row := fnExactNodesOkRow, standIns := [], harness := (true, "3ca98bb547209f92c1177d51ad1db59499ea0c55414bdb14fa2919b3fd3549f5"), looks := false }, kinds := [], alts := [], laidByText := true, laidKinds := [.data, .pinned], laidTests := true, laidLooks := .later }
def FnExactNodesOkCardSaid : Prop := Claim7.holds Tryd.pinned (.plain (OpenSpec.ofChange fnExactNodesOkSpec)) fnExactNodesOkCard

/-- THE TIED CARD OF 'laws.FnExactStartOf'. -/
def fnExactStartOfCard : Claim7 := { stood := { row := fnExactStartOfRow, standIns := [], harness := (true, "3ca98bb547209f92c1177d51ad1db59499ea0c55414bdb14fa2919b3fd3549f5"), looks := false }, kinds := [], alts := [], laidByText := true, laidKinds := [.data, .pinned], laidTests := true, laidLooks := .later }
def FnExactStartOfCardSaid : Prop := Claim7.holds Tryd.pinned (.plain (OpenSpec.ofChange fnExactStartOfSpec)) fnExactStartOfCard

/-- THE TIED CARD OF 'laws.FnExactIsValue'. -/
def fnExactIsValueCard : Claim7 := { stood := { row := fnExactIsValueRow, standIns := [], harness := (true, "3ca98bb547209f92c1177d51ad1db59499ea0c55414bdb14fa2919b3fd3549f5"), looks := false }, kinds := [], alts := [], laidByText := true, laidKinds := [.data, .pinned], laidTests := true, laidLooks := .later }
def FnExactIsValueCardSaid : Prop := Claim7.holds Tryd.pinned (.plain (OpenSpec.ofChange fnExactIsValueSpec)) fnExactIsValueCard

/-- THE TIED CARD OF 'laws.FnExactParentOf'. -/
def fnExactParentOfCard : Claim7 := { stood := { row := fnExactParentOfRow, standIns := [], harness := (true, "3ca98bb547209f92c1177d51ad1db59499ea0c55414bdb14fa2919b3fd3549f5"), looks := false }, kinds := [], alts := [], laidByText := true, laidKinds := [.data, .pinned], laidTests := true, laidLooks := .later }
def FnExactParentOfCardSaid : Prop := Claim7.holds Tryd.pinned (.plain (OpenSpec.ofChange fnExactParentOfSpec)) fnExactParentOfCard

/-- THE TIED CARD OF 'laws.FnExactSites'. -/
def fnExactSitesCard : Claim7 := { stood := { row := fnExactSitesRow, standIns := [], harness := (true, "3ca98bb547209f92c1177d51ad1db59499ea0c55414bdb14fa2919b3fd3549f5"), looks := false }, kinds := [], alts := [], laidByText := true, laidKinds := [.data, .pinned], laidTests := true, laidLooks := .later }
def FnExactSitesCardSaid : Prop := Claim7.holds Tryd.pinned (.plain (OpenSpec.ofChange fnExactSitesSpec)) fnExactSitesCard

/-- THE TIED CARD OF 'laws.FnExactBinderOf'. -/
def fnExactBinderOfCard : Claim7 := { stood := { row := fnExactBinderOfRow, standIns := [], harness := (true, "3ca98bb547209f92c1177d51ad1db59499ea0c55414bdb14fa2919b3fd3549f5"), looks := false }, kinds := [], alts := [], laidByText := true, laidKinds := [.data, .pinned], laidTests := true, laidLooks := .later }
def FnExactBinderOfCardSaid : Prop := Claim7.holds Tryd.pinned (.plain (OpenSpec.ofChange fnExactBinderOfSpec)) fnExactBinderOfCard

/-- THE TIED CARD OF 'laws.FnExactPart'. -/
def fnExactPartCard : Claim7 := { stood := { row := fnExactPartRow, standIns := [], harness := (true, "3ca98bb547209f92c1177d51ad1db59499ea0c55414bdb14fa2919b3fd3549f5"), looks := false }, kinds := [], alts := [], laidByText := true, laidKinds := [.data, .pinned], laidTests := true, laidLooks := .later }
def FnExactPartCardSaid : Prop := Claim7.holds Tryd.pinned (.plain (OpenSpec.ofChange fnExactPartSpec)) fnExactPartCard

/-- THE TIED CARD OF 'laws.FnExactUsesOf'. -/
def fnExactUsesOfCard : Claim7 := { stood := { row := fnExactUsesOfRow, standIns := [], harness := (true, "3ca98bb547209f92c1177d51ad1db59499ea0c55414bdb14fa2919b3fd3549f5"), looks := false }, kinds := [], alts := [], laidByText := true, laidKinds := [.data, .pinned], laidTests := true, laidLooks := .later }
def FnExactUsesOfCardSaid : Prop := Claim7.holds Tryd.pinned (.plain (OpenSpec.ofChange fnExactUsesOfSpec)) fnExactUsesOfCard

/-- THE SECOND FORM's CARD OF 'laws.FnExactNodesOk'. -/
def fnExactNodesOkUptoCard : Claim7 := { stood := { row := fnExactNodesOkUptoRow, standIns := [], harness := (true, "3ca98bb547209f92c1177d51ad1db59499ea0c55414bdb14fa2919b3fd3549f5"), looks := false }, kinds := [], alts := [], laidByText := true, laidKinds := [.data, .pinned], laidTests := true, laidLooks := .later }
def FnExactNodesOkUptoCardSaid : Prop := Claim7.holds Tryd.pinned (.plain (OpenSpec.upto fnExactNodesOkSpec)) fnExactNodesOkUptoCard

/-- THE SECOND FORM's CARD OF 'laws.FnExactStartOf'. -/
def fnExactStartOfUptoCard : Claim7 := { stood := { row := fnExactStartOfUptoRow, standIns := [], harness := (true, "3ca98bb547209f92c1177d51ad1db59499ea0c55414bdb14fa2919b3fd3549f5"), looks := false }, kinds := [], alts := [], laidByText := true, laidKinds := [.data, .pinned], laidTests := true, laidLooks := .later }
def FnExactStartOfUptoCardSaid : Prop := Claim7.holds Tryd.pinned (.plain (OpenSpec.upto fnExactStartOfSpec)) fnExactStartOfUptoCard

/-- THE SECOND FORM's CARD OF 'laws.FnExactIsValue'. -/
def fnExactIsValueUptoCard : Claim7 := { stood := { row := fnExactIsValueUptoRow, standIns := [], harness := (true, "3ca98bb547209f92c1177d51ad1db59499ea0c55414bdb14fa2919b3fd3549f5"), looks := false }, kinds := [], alts := [], laidByText := true, laidKinds := [.data, .pinned], laidTests := true, laidLooks := .later }
def FnExactIsValueUptoCardSaid : Prop := Claim7.holds Tryd.pinned (.plain (OpenSpec.upto fnExactIsValueSpec)) fnExactIsValueUptoCard

/-- THE SECOND FORM's CARD OF 'laws.FnExactParentOf'. -/
def fnExactParentOfUptoCard : Claim7 := { stood := { row := fnExactParentOfUptoRow, standIns := [], harness := (true, "3ca98bb547209f92c1177d51ad1db59499ea0c55414bdb14fa2919b3fd3549f5"), looks := false }, kinds := [], alts := [], laidByText := true, laidKinds := [.data, .pinned], laidTests := true, laidLooks := .later }
def FnExactParentOfUptoCardSaid : Prop := Claim7.holds Tryd.pinned (.plain (OpenSpec.upto fnExactParentOfSpec)) fnExactParentOfUptoCard

/-- THE SECOND FORM's CARD OF 'laws.FnExactSites'. -/
def fnExactSitesUptoCard : Claim7 := { stood := { row := fnExactSitesUptoRow, standIns := [], harness := (true, "3ca98bb547209f92c1177d51ad1db59499ea0c55414bdb14fa2919b3fd3549f5"), looks := false }, kinds := [], alts := [], laidByText := true, laidKinds := [.data, .pinned], laidTests := true, laidLooks := .later }
def FnExactSitesUptoCardSaid : Prop := Claim7.holds Tryd.pinned (.plain (OpenSpec.upto fnExactSitesSpec)) fnExactSitesUptoCard

/-- THE SECOND FORM's CARD OF 'laws.FnExactBinderOf'. -/
def fnExactBinderOfUptoCard : Claim7 := { stood := { row := fnExactBinderOfUptoRow, standIns := [], harness := (true, "3ca98bb547209f92c1177d51ad1db59499ea0c55414bdb14fa2919b3fd3549f5"), looks := false }, kinds := [], alts := [], laidByText := true, laidKinds := [.data, .pinned], laidTests := true, laidLooks := .later }
def FnExactBinderOfUptoCardSaid : Prop := Claim7.holds Tryd.pinned (.plain (OpenSpec.upto fnExactBinderOfSpec)) fnExactBinderOfUptoCard

/-- THE SECOND FORM's CARD OF 'laws.FnExactPart'. -/
def fnExactPartUptoCard : Claim7 := { stood := { row := fnExactPartUptoRow, standIns := [], harness := (true, "3ca98bb547209f92c1177d51ad1db59499ea0c55414bdb14fa2919b3fd3549f5"), looks := false }, kinds := [], alts := [], laidByText := true, laidKinds := [.data, .pinned], laidTests := true, laidLooks := .later }
def FnExactPartUptoCardSaid : Prop := Claim7.holds Tryd.pinned (.plain (OpenSpec.upto fnExactPartSpec)) fnExactPartUptoCard

/-- THE SECOND FORM's CARD OF 'laws.FnExactUsesOf'. -/
def fnExactUsesOfUptoCard : Claim7 := { stood := { row := fnExactUsesOfUptoRow, standIns := [], harness := (true, "3ca98bb547209f92c1177d51ad1db59499ea0c55414bdb14fa2919b3fd3549f5"), looks := false }, kinds := [], alts := [], laidByText := true, laidKinds := [.data, .pinned], laidTests := true, laidLooks := .later }
def FnExactUsesOfUptoCardSaid : Prop := Claim7.holds Tryd.pinned (.plain (OpenSpec.upto fnExactUsesOfSpec)) fnExactUsesOfUptoCard
end Rows
end Go.Proofs.YthmkeimngfboiaaDoor
