/-
  DERIVED. GIVEN WITH THE SEED: THE CARDS: each row of YtnbohlcibgfjaaaDoorRows.lean that lists a variable, with what it lists TIED to the program's text (the seventh form; the later family's looks); each row that meets fmt, with fmt's text TOLD by the authors' own Lean function (tested against real Go, not proved from fmt's source: count such statements apart). THE CARD IS WHAT COUNTS. Prove the row's statement (the work); the ties are given (YtnbohlcibgfjaaaDoorTie.lean); close each card by the builder's one call (the guide's Derived/Test/ToyasCard.lean, 'card_holds'). Laid BY PROGRAM, IN A SANDBOX (cutbox-door.mjs). By AI agents, Wed Nov 11 2026. No macro, syntax, notation, axiom, sorry.
-/
import Derived.Test.YtnbohlcibgfjaaaDoorRows
import GoSem.ClaimSeven
namespace Go.Proofs.YtnbohlcibgfjaaaDoor
namespace Rows

/-- THE TIED CARD OF 'laws.FnExactFind'. -/
def fnExactFindCard : Claim7 := { stood := { row := fnExactFindRow, standIns := [], harness := (true, "e55137bcc3ad8627656c7e21cdcdec0e298f43cd9cf507469471c2f2878a5ad0"), looks := false }, kinds := [], alts := [], laidByText := true, laidKinds := [.mapped], laidTests := true, laidLooks := .later }
def FnExactFindCardSaid : Prop := Claim7.holds Tryd.pinned (.plain (OpenSpec.ofChange fnExactFindSpec)) fnExactFindCard

/-- THE TIED CARD OF 'laws.FnExactCircle'. -/
def fnExactCircleCard : Claim7 := { stood := { row := fnExactCircleRow, standIns := [], harness := (true, "e55137bcc3ad8627656c7e21cdcdec0e298f43cd9cf507469471c2f2878a5ad0"), looks := false }, kinds := [], alts := [], laidByText := true, laidKinds := [.mapped], laidTests := true, laidLooks := .later }
def FnExactCircleCardSaid : Prop := Claim7.holds Tryd.pinned (.plain (OpenSpec.ofChange fnExactCircleSpec)) fnExactCircleCard

/-- THE TIED CARD OF 'laws.FnExactRelease'. -/
def fnExactReleaseCard : Claim7 := { stood := { row := fnExactReleaseRow, standIns := [], harness := (true, "e55137bcc3ad8627656c7e21cdcdec0e298f43cd9cf507469471c2f2878a5ad0"), looks := false }, kinds := [], alts := [], laidByText := true, laidKinds := [.mapped], laidTests := true, laidLooks := .later }
def FnExactReleaseCardSaid : Prop := Claim7.holds Tryd.pinned (.plain (OpenSpec.ofChange fnExactReleaseSpec)) fnExactReleaseCard

/-- THE TIED CARD OF 'laws.FnExactConfirm'. -/
def fnExactConfirmCard : Claim7 := { stood := { row := fnExactConfirmRow, standIns := [], harness := (true, "e55137bcc3ad8627656c7e21cdcdec0e298f43cd9cf507469471c2f2878a5ad0"), looks := false }, kinds := [], alts := [], laidByText := true, laidKinds := [.mapped], laidTests := true, laidLooks := .later }
def FnExactConfirmCardSaid : Prop := Claim7.holds Tryd.pinned (.plain (OpenSpec.ofChange fnExactConfirmSpec)) fnExactConfirmCard

/-- THE TIED CARD OF 'laws.FnExactFinish'. -/
def fnExactFinishCard : Claim7 := { stood := { row := fnExactFinishRow, standIns := [], harness := (true, "e55137bcc3ad8627656c7e21cdcdec0e298f43cd9cf507469471c2f2878a5ad0"), looks := false }, kinds := [], alts := [], laidByText := true, laidKinds := [.mapped], laidTests := true, laidLooks := .later }
def FnExactFinishCardSaid : Prop := Claim7.holds Tryd.pinned (.plain (OpenSpec.ofChange fnExactFinishSpec)) fnExactFinishCard

/-- THE TIED CARD OF 'laws.FnExactClaim'. -/
def fnExactClaimCard : Claim7 := { stood := { row := fnExactClaimRow, standIns := [], harness := (true, "e55137bcc3ad8627656c7e21cdcdec0e298f43cd9cf507469471c2f2878a5ad0"), looks := false }, kinds := [], alts := [], laidByText := true, laidKinds := [.mapped], laidTests := true, laidLooks := .later }
def FnExactClaimCardSaid : Prop := Claim7.holds Tryd.pinned (.plain (OpenSpec.ofChange fnExactClaimSpec)) fnExactClaimCard

/-- THE TIED CARD OF 'laws.FnTable'. -/
def fnTableCard : Claim7 := { stood := { row := fnTableRow, standIns := [], harness := (true, "e55137bcc3ad8627656c7e21cdcdec0e298f43cd9cf507469471c2f2878a5ad0"), looks := false }, kinds := [], alts := [], laidByText := true, laidKinds := [.mapped], laidTests := true, laidLooks := .later }
def FnTableCardSaid : Prop := Claim7.holds Tryd.pinned (.plain (OpenSpec.ofChange fnTableSpec)) fnTableCard

/-- THE TIED CARD OF 'laws.FnExactSame'. -/
def fnExactSameCard : Claim7 := { stood := { row := fnExactSameRow, standIns := [], harness := (true, "e55137bcc3ad8627656c7e21cdcdec0e298f43cd9cf507469471c2f2878a5ad0"), looks := false }, kinds := [], alts := [], laidByText := true, laidKinds := [.mapped], laidTests := true, laidLooks := .later }
def FnExactSameCardSaid : Prop := Claim7.holds Tryd.pinned (.plain (OpenSpec.ofChange fnExactSameSpec)) fnExactSameCard

/-- THE TIED CARD OF 'laws.FnExactSub'. -/
def fnExactSubCard : Claim7 := { stood := { row := fnExactSubRow, standIns := [], harness := (true, "e55137bcc3ad8627656c7e21cdcdec0e298f43cd9cf507469471c2f2878a5ad0"), looks := false }, kinds := [], alts := [], laidByText := true, laidKinds := [.mapped], laidTests := true, laidLooks := .later }
def FnExactSubCardSaid : Prop := Claim7.holds Tryd.pinned (.plain (OpenSpec.ofChange fnExactSubSpec)) fnExactSubCard

/-- THE TIED CARD OF 'laws.FnSub'. -/
def fnSubCard : Claim7 := { stood := { row := fnSubRow, standIns := [], harness := (true, "e55137bcc3ad8627656c7e21cdcdec0e298f43cd9cf507469471c2f2878a5ad0"), looks := false }, kinds := [], alts := [], laidByText := true, laidKinds := [.mapped], laidTests := true, laidLooks := .later }
def FnSubCardSaid : Prop := Claim7.holds Tryd.pinned (.plain (OpenSpec.ofChange fnSubSpec)) fnSubCard

/-- THE SECOND FORM's CARD OF 'laws.FnExactFind'. -/
def fnExactFindUptoCard : Claim7 := { stood := { row := fnExactFindUptoRow, standIns := [], harness := (true, "e55137bcc3ad8627656c7e21cdcdec0e298f43cd9cf507469471c2f2878a5ad0"), looks := false }, kinds := [], alts := [], laidByText := true, laidKinds := [.mapped], laidTests := true, laidLooks := .later }
def FnExactFindUptoCardSaid : Prop := Claim7.holds Tryd.pinned (.plain (OpenSpec.upto fnExactFindSpec)) fnExactFindUptoCard

/-- THE SECOND FORM's CARD OF 'laws.FnExactCircle'. -/
def fnExactCircleUptoCard : Claim7 := { stood := { row := fnExactCircleUptoRow, standIns := [], harness := (true, "e55137bcc3ad8627656c7e21cdcdec0e298f43cd9cf507469471c2f2878a5ad0"), looks := false }, kinds := [], alts := [], laidByText := true, laidKinds := [.mapped], laidTests := true, laidLooks := .later }
def FnExactCircleUptoCardSaid : Prop := Claim7.holds Tryd.pinned (.plain (OpenSpec.upto fnExactCircleSpec)) fnExactCircleUptoCard

/-- THE SECOND FORM's CARD OF 'laws.FnExactRelease'. -/
def fnExactReleaseUptoCard : Claim7 := { stood := { row := fnExactReleaseUptoRow, standIns := [], harness := (true, "e55137bcc3ad8627656c7e21cdcdec0e298f43cd9cf507469471c2f2878a5ad0"), looks := false }, kinds := [], alts := [], laidByText := true, laidKinds := [.mapped], laidTests := true, laidLooks := .later }
def FnExactReleaseUptoCardSaid : Prop := Claim7.holds Tryd.pinned (.plain (OpenSpec.upto fnExactReleaseSpec)) fnExactReleaseUptoCard

/-- THE SECOND FORM's CARD OF 'laws.FnExactConfirm'. -/
def fnExactConfirmUptoCard : Claim7 := { stood := { row := fnExactConfirmUptoRow, standIns := [], harness := (true, "e55137bcc3ad8627656c7e21cdcdec0e298f43cd9cf507469471c2f2878a5ad0"), looks := false }, kinds := [], alts := [], laidByText := true, laidKinds := [.mapped], laidTests := true, laidLooks := .later }
def FnExactConfirmUptoCardSaid : Prop := Claim7.holds Tryd.pinned (.plain (OpenSpec.upto fnExactConfirmSpec)) fnExactConfirmUptoCard

/-- THE SECOND FORM's CARD OF 'laws.FnExactFinish'. -/
def fnExactFinishUptoCard : Claim7 := { stood := { row := fnExactFinishUptoRow, standIns := [], harness := (true, "e55137bcc3ad8627656c7e21cdcdec0e298f43cd9cf507469471c2f2878a5ad0"), looks := false }, kinds := [], alts := [], laidByText := true, laidKinds := [.mapped], laidTests := true, laidLooks := .later }
def FnExactFinishUptoCardSaid : Prop := Claim7.holds Tryd.pinned (.plain (OpenSpec.upto fnExactFinishSpec)) fnExactFinishUptoCard

/-- THE SECOND FORM's CARD OF 'laws.FnExactClaim'. -/
def fnExactClaimUptoCard : Claim7 := { stood := { row := fnExactClaimUptoRow, standIns := [], harness := (true, "e55137bcc3ad8627656c7e21cdcdec0e298f43cd9cf507469471c2f2878a5ad0"), looks := false }, kinds := [], alts := [], laidByText := true, laidKinds := [.mapped], laidTests := true, laidLooks := .later }
def FnExactClaimUptoCardSaid : Prop := Claim7.holds Tryd.pinned (.plain (OpenSpec.upto fnExactClaimSpec)) fnExactClaimUptoCard

/-- THE SECOND FORM's CARD OF 'laws.FnTable'. -/
def fnTableUptoCard : Claim7 := { stood := { row := fnTableUptoRow, standIns := [], harness := (true, "e55137bcc3ad8627656c7e21cdcdec0e298f43cd9cf507469471c2f2878a5ad0"), looks := false }, kinds := [], alts := [], laidByText := true, laidKinds := [.mapped], laidTests := true, laidLooks := .later }
def FnTableUptoCardSaid : Prop := Claim7.holds Tryd.pinned (.plain (OpenSpec.upto fnTableSpec)) fnTableUptoCard

/-- THE SECOND FORM's CARD OF 'laws.FnExactSame'. -/
def fnExactSameUptoCard : Claim7 := { stood := { row := fnExactSameUptoRow, standIns := [], harness := (true, "e55137bcc3ad8627656c7e21cdcdec0e298f43cd9cf507469471c2f2878a5ad0"), looks := false }, kinds := [], alts := [], laidByText := true, laidKinds := [.mapped], laidTests := true, laidLooks := .later }
def FnExactSameUptoCardSaid : Prop := Claim7.holds Tryd.pinned (.plain (OpenSpec.upto fnExactSameSpec)) fnExactSameUptoCard

/-- THE SECOND FORM's CARD OF 'laws.FnExactSub'. -/
def fnExactSubUptoCard : Claim7 := { stood := { row := fnExactSubUptoRow, standIns := [], harness := (true, "e55137bcc3ad8627656c7e21cdcdec0e298f43cd9cf507469471c2f2878a5ad0"), looks := false }, kinds := [], alts := [], laidByText := true, laidKinds := [.mapped], laidTests := true, laidLooks := .later }
def FnExactSubUptoCardSaid : Prop := Claim7.holds Tryd.pinned (.plain (OpenSpec.upto fnExactSubSpec)) fnExactSubUptoCard

/-- THE SECOND FORM's CARD OF 'laws.FnSub'. -/
def fnSubUptoCard : Claim7 := { stood := { row := fnSubUptoRow, standIns := [], harness := (true, "e55137bcc3ad8627656c7e21cdcdec0e298f43cd9cf507469471c2f2878a5ad0"), looks := false }, kinds := [], alts := [], laidByText := true, laidKinds := [.mapped], laidTests := true, laidLooks := .later }
def FnSubUptoCardSaid : Prop := Claim7.holds Tryd.pinned (.plain (OpenSpec.upto fnSubSpec)) fnSubUptoCard
end Rows
end Go.Proofs.YtnbohlcibgfjaaaDoor
