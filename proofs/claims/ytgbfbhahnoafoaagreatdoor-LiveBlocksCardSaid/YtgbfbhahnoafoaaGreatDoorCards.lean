/-
  DERIVED. GIVEN WITH THE SEED: THE CARDS: each row of YtgbfbhahnoafoaaGreatDoorRows.lean that lists a variable, with what it lists TIED to the program's text (the seventh form; the later family's looks); each row that meets fmt, with fmt's text TOLD by the authors' own Lean function (tested against real Go, not proved from fmt's source: count such statements apart). THE CARD IS WHAT COUNTS. Prove the row's statement (the work); the ties are given (YtgbfbhahnoafoaaGreatDoorTie.lean); close each card by the builder's one call (the guide's Derived/Test/ToyasCard.lean, 'card_holds'). Laid BY PROGRAM, IN A SANDBOX (cutbox-door.mjs). By AI agents, Wed Nov 11 2026. No macro, syntax, notation, axiom, sorry.
-/
import Derived.Test.YtgbfbhahnoafoaaGreatDoorRows
import GoSem.ClaimSeven
namespace Go.Proofs.YtgbfbhahnoafoaaGreatDoor
namespace Rows

/-- THE TIED CARD OF 'hearthlaw12.LiveClashes'. -/
def liveClashesCard : Claim7 := { stood := { row := liveClashesRow, standIns := [], harness := (true, "8deb698748b883f86c9a6f4f450b38cba300de8fd33dc198a5133c1916ddcee4"), looks := true }, kinds := [], alts := [], laidByText := true, laidKinds := [.data], laidTests := true, laidLooks := .later }
def LiveClashesCardSaid : Prop := Claim7.holds Tryz.pinned (.plain (OpenSpec.ofChange liveClashesSpec)) liveClashesCard

/-- THE TIED CARD OF 'hearthlaw12.LiveChecks'. -/
def liveChecksCard : Claim7 := { stood := { row := liveChecksRow, standIns := [], harness := (true, "8deb698748b883f86c9a6f4f450b38cba300de8fd33dc198a5133c1916ddcee4"), looks := true }, kinds := [], alts := [], laidByText := true, laidKinds := [.data], laidTests := true, laidLooks := .later }
def LiveChecksCardSaid : Prop := Claim7.holds Tryz.pinned (.plain (OpenSpec.ofChange liveChecksSpec)) liveChecksCard

/-- THE TIED CARD OF 'hearthlaw12.LiveDoes'. -/
def liveDoesCard : Claim7 := { stood := { row := liveDoesRow, standIns := [], harness := (true, "8deb698748b883f86c9a6f4f450b38cba300de8fd33dc198a5133c1916ddcee4"), looks := true }, kinds := [], alts := [], laidByText := true, laidKinds := [.data], laidTests := true, laidLooks := .later }
def LiveDoesCardSaid : Prop := Claim7.holds Tryz.pinned (.plain (OpenSpec.ofChange liveDoesSpec)) liveDoesCard

/-- THE TIED CARD OF 'hearthlaw12.LivePaths'. -/
def livePathsCard : Claim7 := { stood := { row := livePathsRow, standIns := [], harness := (true, "8deb698748b883f86c9a6f4f450b38cba300de8fd33dc198a5133c1916ddcee4"), looks := true }, kinds := [], alts := [], laidByText := true, laidKinds := [.data], laidTests := true, laidLooks := .later }
def LivePathsCardSaid : Prop := Claim7.holds Tryz.pinned (.plain (OpenSpec.ofChange livePathsSpec)) livePathsCard

/-- THE TIED CARD OF 'hearthlaw12.LiveBlocks'. -/
def liveBlocksCard : Claim7 := { stood := { row := liveBlocksRow, standIns := [], harness := (true, "8deb698748b883f86c9a6f4f450b38cba300de8fd33dc198a5133c1916ddcee4"), looks := true }, kinds := [], alts := [], laidByText := true, laidKinds := [.data], laidTests := true, laidLooks := .later }
def LiveBlocksCardSaid : Prop := Claim7.holds Tryz.pinned (.plain (OpenSpec.ofChange liveBlocksSpec)) liveBlocksCard

/-- THE TIED CARD OF 'hearthlaw12.LiveCuts'. -/
def liveCutsCard : Claim7 := { stood := { row := liveCutsRow, standIns := [], harness := (true, "8deb698748b883f86c9a6f4f450b38cba300de8fd33dc198a5133c1916ddcee4"), looks := true }, kinds := [], alts := [], laidByText := true, laidKinds := [.data], laidTests := true, laidLooks := .later }
def LiveCutsCardSaid : Prop := Claim7.holds Tryz.pinned (.plain (OpenSpec.ofChange liveCutsSpec)) liveCutsCard

/-- THE TIED CARD OF 'hearthlaw12.LiveRight'. -/
def liveRightCard : Claim7 := { stood := { row := liveRightRow, standIns := [], harness := (true, "8deb698748b883f86c9a6f4f450b38cba300de8fd33dc198a5133c1916ddcee4"), looks := true }, kinds := [], alts := [], laidByText := true, laidKinds := [.data], laidTests := true, laidLooks := .later }
def LiveRightCardSaid : Prop := Claim7.holds Tryz.pinned (.plain (OpenSpec.ofChange liveRightSpec)) liveRightCard

/-- THE TIED CARD OF 'hearthlaw12.LiveFew'. -/
def liveFewCard : Claim7 := { stood := { row := liveFewRow, standIns := [], harness := (true, "8deb698748b883f86c9a6f4f450b38cba300de8fd33dc198a5133c1916ddcee4"), looks := true }, kinds := [], alts := [], laidByText := true, laidKinds := [.data], laidTests := true, laidLooks := .later }
def LiveFewCardSaid : Prop := Claim7.holds Tryz.pinned (.plain (OpenSpec.ofChange liveFewSpec)) liveFewCard

/-- THE SECOND FORM's CARD OF 'hearthlaw12.LiveClashes'. -/
def liveClashesUptoCard : Claim7 := { stood := { row := liveClashesUptoRow, standIns := [], harness := (true, "8deb698748b883f86c9a6f4f450b38cba300de8fd33dc198a5133c1916ddcee4"), looks := true }, kinds := [], alts := [], laidByText := true, laidKinds := [.data], laidTests := true, laidLooks := .later }
def LiveClashesUptoCardSaid : Prop := Claim7.holds Tryz.pinned (.plain (OpenSpec.upto liveClashesSpec)) liveClashesUptoCard

/-- THE SECOND FORM's CARD OF 'hearthlaw12.LiveChecks'. -/
def liveChecksUptoCard : Claim7 := { stood := { row := liveChecksUptoRow, standIns := [], harness := (true, "8deb698748b883f86c9a6f4f450b38cba300de8fd33dc198a5133c1916ddcee4"), looks := true }, kinds := [], alts := [], laidByText := true, laidKinds := [.data], laidTests := true, laidLooks := .later }
def LiveChecksUptoCardSaid : Prop := Claim7.holds Tryz.pinned (.plain (OpenSpec.upto liveChecksSpec)) liveChecksUptoCard

/-- THE SECOND FORM's CARD OF 'hearthlaw12.LiveDoes'. -/
def liveDoesUptoCard : Claim7 := { stood := { row := liveDoesUptoRow, standIns := [], harness := (true, "8deb698748b883f86c9a6f4f450b38cba300de8fd33dc198a5133c1916ddcee4"), looks := true }, kinds := [], alts := [], laidByText := true, laidKinds := [.data], laidTests := true, laidLooks := .later }
def LiveDoesUptoCardSaid : Prop := Claim7.holds Tryz.pinned (.plain (OpenSpec.upto liveDoesSpec)) liveDoesUptoCard

/-- THE SECOND FORM's CARD OF 'hearthlaw12.LivePaths'. -/
def livePathsUptoCard : Claim7 := { stood := { row := livePathsUptoRow, standIns := [], harness := (true, "8deb698748b883f86c9a6f4f450b38cba300de8fd33dc198a5133c1916ddcee4"), looks := true }, kinds := [], alts := [], laidByText := true, laidKinds := [.data], laidTests := true, laidLooks := .later }
def LivePathsUptoCardSaid : Prop := Claim7.holds Tryz.pinned (.plain (OpenSpec.upto livePathsSpec)) livePathsUptoCard

/-- THE SECOND FORM's CARD OF 'hearthlaw12.LiveBlocks'. -/
def liveBlocksUptoCard : Claim7 := { stood := { row := liveBlocksUptoRow, standIns := [], harness := (true, "8deb698748b883f86c9a6f4f450b38cba300de8fd33dc198a5133c1916ddcee4"), looks := true }, kinds := [], alts := [], laidByText := true, laidKinds := [.data], laidTests := true, laidLooks := .later }
def LiveBlocksUptoCardSaid : Prop := Claim7.holds Tryz.pinned (.plain (OpenSpec.upto liveBlocksSpec)) liveBlocksUptoCard

/-- THE SECOND FORM's CARD OF 'hearthlaw12.LiveCuts'. -/
def liveCutsUptoCard : Claim7 := { stood := { row := liveCutsUptoRow, standIns := [], harness := (true, "8deb698748b883f86c9a6f4f450b38cba300de8fd33dc198a5133c1916ddcee4"), looks := true }, kinds := [], alts := [], laidByText := true, laidKinds := [.data], laidTests := true, laidLooks := .later }
def LiveCutsUptoCardSaid : Prop := Claim7.holds Tryz.pinned (.plain (OpenSpec.upto liveCutsSpec)) liveCutsUptoCard

/-- THE SECOND FORM's CARD OF 'hearthlaw12.LiveRight'. -/
def liveRightUptoCard : Claim7 := { stood := { row := liveRightUptoRow, standIns := [], harness := (true, "8deb698748b883f86c9a6f4f450b38cba300de8fd33dc198a5133c1916ddcee4"), looks := true }, kinds := [], alts := [], laidByText := true, laidKinds := [.data], laidTests := true, laidLooks := .later }
def LiveRightUptoCardSaid : Prop := Claim7.holds Tryz.pinned (.plain (OpenSpec.upto liveRightSpec)) liveRightUptoCard

/-- THE SECOND FORM's CARD OF 'hearthlaw12.LiveFew'. -/
def liveFewUptoCard : Claim7 := { stood := { row := liveFewUptoRow, standIns := [], harness := (true, "8deb698748b883f86c9a6f4f450b38cba300de8fd33dc198a5133c1916ddcee4"), looks := true }, kinds := [], alts := [], laidByText := true, laidKinds := [.data], laidTests := true, laidLooks := .later }
def LiveFewUptoCardSaid : Prop := Claim7.holds Tryz.pinned (.plain (OpenSpec.upto liveFewSpec)) liveFewUptoCard
end Rows
end Go.Proofs.YtgbfbhahnoafoaaGreatDoor
