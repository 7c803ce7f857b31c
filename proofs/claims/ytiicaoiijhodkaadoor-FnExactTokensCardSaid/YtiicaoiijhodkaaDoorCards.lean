/-
  DERIVED. GIVEN WITH THE SEED: THE CARDS: each row of YtiicaoiijhodkaaDoorRows.lean that lists a variable, with what it lists TIED to the program's text (the seventh form; the later family's looks); each row that meets fmt, with fmt's text TOLD by the authors' own Lean function (tested against real Go, not proved from fmt's source: count such statements apart). THE CARD IS WHAT COUNTS. Prove the row's statement (the work); the ties are given (YtiicaoiijhodkaaDoorTie.lean); close each card by the builder's one call (the guide's Derived/Test/ToyasCard.lean, 'card_holds'). Laid BY PROGRAM, IN A SANDBOX (cutbox-door.mjs). By AI agents, Wed Nov 11 2026. No macro, syntax, notation, axiom, sorry.
-/
import Derived.Test.YtiicaoiijhodkaaDoorRows
import GoSem.ClaimSeven
namespace Go.Proofs.YtiicaoiijhodkaaDoor
namespace Rows

/-- THE TIED CARD OF 'laws.FnExactValidSources'. -/
def fnExactValidSourcesCard : Claim7 := { stood := { row := fnExactValidSourcesRow, standIns := [], harness := (true, "bca3894f9df7363319649c84c8464b5780f8aae22baa05957bbe6f5a247a7827"), looks := false }, kinds := [], alts := [], laidByText := true, laidKinds := [.mapped], laidTests := true, laidLooks := .later }
def FnExactValidSourcesCardSaid : Prop := Claim7.holds Tryd.pinned (.plain (OpenSpec.ofChange fnExactValidSourcesSpec)) fnExactValidSourcesCard

/-- THE TIED CARD OF 'laws.FnExactValidGraph'. -/
def fnExactValidGraphCard : Claim7 := { stood := { row := fnExactValidGraphRow, standIns := [], harness := (true, "bca3894f9df7363319649c84c8464b5780f8aae22baa05957bbe6f5a247a7827"), looks := false }, kinds := [], alts := [], laidByText := true, laidKinds := [.mapped], laidTests := true, laidLooks := .later }
def FnExactValidGraphCardSaid : Prop := Claim7.holds Tryd.pinned (.plain (OpenSpec.ofChange fnExactValidGraphSpec)) fnExactValidGraphCard

/-- THE TIED CARD OF 'laws.FnExactTokens'. -/
def fnExactTokensCard : Claim7 := { stood := { row := fnExactTokensRow, standIns := [], harness := (true, "bca3894f9df7363319649c84c8464b5780f8aae22baa05957bbe6f5a247a7827"), looks := false }, kinds := [], alts := [], laidByText := true, laidKinds := [.mapped], laidTests := true, laidLooks := .later }
def FnExactTokensCardSaid : Prop := Claim7.holds Tryd.pinned (.plain (OpenSpec.ofChange fnExactTokensSpec)) fnExactTokensCard

/-- THE TIED CARD OF 'laws.FnExactValidTable'. -/
def fnExactValidTableCard : Claim7 := { stood := { row := fnExactValidTableRow, standIns := [], harness := (true, "bca3894f9df7363319649c84c8464b5780f8aae22baa05957bbe6f5a247a7827"), looks := false }, kinds := [], alts := [], laidByText := true, laidKinds := [.mapped], laidTests := true, laidLooks := .later }
def FnExactValidTableCardSaid : Prop := Claim7.holds Tryd.pinned (.plain (OpenSpec.ofChange fnExactValidTableSpec)) fnExactValidTableCard

/-- THE SECOND FORM's CARD OF 'laws.FnExactValidSources'. -/
def fnExactValidSourcesUptoCard : Claim7 := { stood := { row := fnExactValidSourcesUptoRow, standIns := [], harness := (true, "bca3894f9df7363319649c84c8464b5780f8aae22baa05957bbe6f5a247a7827"), looks := false }, kinds := [], alts := [], laidByText := true, laidKinds := [.mapped], laidTests := true, laidLooks := .later }
def FnExactValidSourcesUptoCardSaid : Prop := Claim7.holds Tryd.pinned (.plain (OpenSpec.upto fnExactValidSourcesSpec)) fnExactValidSourcesUptoCard

/-- THE SECOND FORM's CARD OF 'laws.FnExactValidGraph'. -/
def fnExactValidGraphUptoCard : Claim7 := { stood := { row := fnExactValidGraphUptoRow, standIns := [], harness := (true, "bca3894f9df7363319649c84c8464b5780f8aae22baa05957bbe6f5a247a7827"), looks := false }, kinds := [], alts := [], laidByText := true, laidKinds := [.mapped], laidTests := true, laidLooks := .later }
def FnExactValidGraphUptoCardSaid : Prop := Claim7.holds Tryd.pinned (.plain (OpenSpec.upto fnExactValidGraphSpec)) fnExactValidGraphUptoCard

/-- THE SECOND FORM's CARD OF 'laws.FnExactTokens'. -/
def fnExactTokensUptoCard : Claim7 := { stood := { row := fnExactTokensUptoRow, standIns := [], harness := (true, "bca3894f9df7363319649c84c8464b5780f8aae22baa05957bbe6f5a247a7827"), looks := false }, kinds := [], alts := [], laidByText := true, laidKinds := [.mapped], laidTests := true, laidLooks := .later }
def FnExactTokensUptoCardSaid : Prop := Claim7.holds Tryd.pinned (.plain (OpenSpec.upto fnExactTokensSpec)) fnExactTokensUptoCard

/-- THE SECOND FORM's CARD OF 'laws.FnExactValidTable'. -/
def fnExactValidTableUptoCard : Claim7 := { stood := { row := fnExactValidTableUptoRow, standIns := [], harness := (true, "bca3894f9df7363319649c84c8464b5780f8aae22baa05957bbe6f5a247a7827"), looks := false }, kinds := [], alts := [], laidByText := true, laidKinds := [.mapped], laidTests := true, laidLooks := .later }
def FnExactValidTableUptoCardSaid : Prop := Claim7.holds Tryd.pinned (.plain (OpenSpec.upto fnExactValidTableSpec)) fnExactValidTableUptoCard
end Rows
end Go.Proofs.YtiicaoiijhodkaaDoor
