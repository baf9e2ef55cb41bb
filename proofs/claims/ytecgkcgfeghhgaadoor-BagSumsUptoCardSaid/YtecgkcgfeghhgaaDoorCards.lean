/-
  DERIVED. GIVEN WITH THE SEED: THE CARDS: each row of YtecgkcgfeghhgaaDoorRows.lean that lists a variable, with what it lists TIED to the program's text (the seventh form; the later family's looks); each row that meets fmt, with fmt's text TOLD by the authors' own Lean function (tested against real Go, not proved from fmt's source: count such statements apart). THE CARD IS WHAT COUNTS. Prove the row's statement (the work); the ties are given (YtecgkcgfeghhgaaDoorTie.lean); close each card by the builder's one call (the guide's Derived/Test/ToyasCard.lean, 'card_holds'). Laid BY PROGRAM, IN A SANDBOX (cutbox-door.mjs). By AI agents, Wed Nov 11 2026. No macro, syntax, notation, axiom, sorry.
-/
import Derived.Test.YtecgkcgfeghhgaaDoorRows
import GoSem.ClaimSeven
namespace Go.Proofs.YtecgkcgfeghhgaaDoor
namespace Rows

/-- THE TIED CARD OF 'jointerlaw06.BagSums'. -/
def bagSumsCard : Claim7 := { stood := { row := bagSumsRow, standIns := [], harness := (true, "1be8b6c5a8876856b4a74f50ffb8aefe6db3b38353e19bdda4eb75dbc8a1d5c5"), looks := false }, kinds := [], alts := [], laidByText := true, laidKinds := [.data, .data, .data], laidTests := true, laidLooks := .later }
def BagSumsCardSaid : Prop := Claim7.holds Tryd.pinned (.plain (OpenSpec.ofChange bagSumsSpec)) bagSumsCard

/-- THE TIED CARD OF 'jointerlaw06.BagMeans'. -/
def bagMeansCard : Claim7 := { stood := { row := bagMeansRow, standIns := [], harness := (true, "1be8b6c5a8876856b4a74f50ffb8aefe6db3b38353e19bdda4eb75dbc8a1d5c5"), looks := false }, kinds := [], alts := [], laidByText := true, laidKinds := [.data, .data, .data], laidTests := true, laidLooks := .later }
def BagMeansCardSaid : Prop := Claim7.holds Tryd.pinned (.plain (OpenSpec.ofChange bagMeansSpec)) bagMeansCard

/-- THE TIED CARD OF 'jointerlaw06.BagGroupsTurn'. -/
def bagGroupsTurnCard : Claim7 := { stood := { row := bagGroupsTurnRow, standIns := [], harness := (true, "1be8b6c5a8876856b4a74f50ffb8aefe6db3b38353e19bdda4eb75dbc8a1d5c5"), looks := false }, kinds := [], alts := [], laidByText := true, laidKinds := [.data, .data, .data], laidTests := true, laidLooks := .later }
def BagGroupsTurnCardSaid : Prop := Claim7.holds Tryd.pinned (.plain (OpenSpec.ofChange bagGroupsTurnSpec)) bagGroupsTurnCard

/-- THE TIED CARD OF 'jointerlaw06.BagGroupsInside'. -/
def bagGroupsInsideCard : Claim7 := { stood := { row := bagGroupsInsideRow, standIns := [], harness := (true, "1be8b6c5a8876856b4a74f50ffb8aefe6db3b38353e19bdda4eb75dbc8a1d5c5"), looks := false }, kinds := [], alts := [], laidByText := true, laidKinds := [.data, .data, .data], laidTests := true, laidLooks := .later }
def BagGroupsInsideCardSaid : Prop := Claim7.holds Tryd.pinned (.plain (OpenSpec.ofChange bagGroupsInsideSpec)) bagGroupsInsideCard

/-- THE TIED CARD OF 'jointerlaw06.BagOneList'. -/
def bagOneListCard : Claim7 := { stood := { row := bagOneListRow, standIns := [], harness := (true, "1be8b6c5a8876856b4a74f50ffb8aefe6db3b38353e19bdda4eb75dbc8a1d5c5"), looks := false }, kinds := [], alts := [], laidByText := true, laidKinds := [.data, .data, .data], laidTests := true, laidLooks := .later }
def BagOneListCardSaid : Prop := Claim7.holds Tryd.pinned (.plain (OpenSpec.ofChange bagOneListSpec)) bagOneListCard

/-- THE TIED CARD OF 'jointerlaw06.BagPages'. -/
def bagPagesCard : Claim7 := { stood := { row := bagPagesRow, standIns := [], harness := (true, "1be8b6c5a8876856b4a74f50ffb8aefe6db3b38353e19bdda4eb75dbc8a1d5c5"), looks := false }, kinds := [], alts := [], laidByText := true, laidKinds := [.data, .data, .data], laidTests := true, laidLooks := .later }
def BagPagesCardSaid : Prop := Claim7.holds Tryd.pinned (.plain (OpenSpec.ofChange bagPagesSpec)) bagPagesCard

/-- THE TIED CARD OF 'jointerlaw06.BagParts'. -/
def bagPartsCard : Claim7 := { stood := { row := bagPartsRow, standIns := [], harness := (true, "1be8b6c5a8876856b4a74f50ffb8aefe6db3b38353e19bdda4eb75dbc8a1d5c5"), looks := false }, kinds := [], alts := [], laidByText := true, laidKinds := [.data, .data, .data], laidTests := true, laidLooks := .later }
def BagPartsCardSaid : Prop := Claim7.holds Tryd.pinned (.plain (OpenSpec.ofChange bagPartsSpec)) bagPartsCard

/-- THE TIED CARD OF 'jointerlaw06.BagGroupsCover'. -/
def bagGroupsCoverCard : Claim7 := { stood := { row := bagGroupsCoverRow, standIns := [], harness := (true, "1be8b6c5a8876856b4a74f50ffb8aefe6db3b38353e19bdda4eb75dbc8a1d5c5"), looks := false }, kinds := [], alts := [], laidByText := true, laidKinds := [.data, .data, .data], laidTests := true, laidLooks := .later }
def BagGroupsCoverCardSaid : Prop := Claim7.holds Tryd.pinned (.plain (OpenSpec.ofChange bagGroupsCoverSpec)) bagGroupsCoverCard

/-- THE SECOND FORM's CARD OF 'jointerlaw06.BagSums'. -/
def bagSumsUptoCard : Claim7 := { stood := { row := bagSumsUptoRow, standIns := [], harness := (true, "1be8b6c5a8876856b4a74f50ffb8aefe6db3b38353e19bdda4eb75dbc8a1d5c5"), looks := false }, kinds := [], alts := [], laidByText := true, laidKinds := [.data, .data, .data], laidTests := true, laidLooks := .later }
def BagSumsUptoCardSaid : Prop := Claim7.holds Tryd.pinned (.plain (OpenSpec.upto bagSumsSpec)) bagSumsUptoCard

/-- THE SECOND FORM's CARD OF 'jointerlaw06.BagMeans'. -/
def bagMeansUptoCard : Claim7 := { stood := { row := bagMeansUptoRow, standIns := [], harness := (true, "1be8b6c5a8876856b4a74f50ffb8aefe6db3b38353e19bdda4eb75dbc8a1d5c5"), looks := false }, kinds := [], alts := [], laidByText := true, laidKinds := [.data, .data, .data], laidTests := true, laidLooks := .later }
def BagMeansUptoCardSaid : Prop := Claim7.holds Tryd.pinned (.plain (OpenSpec.upto bagMeansSpec)) bagMeansUptoCard

/-- THE SECOND FORM's CARD OF 'jointerlaw06.BagGroupsTurn'. -/
def bagGroupsTurnUptoCard : Claim7 := { stood := { row := bagGroupsTurnUptoRow, standIns := [], harness := (true, "1be8b6c5a8876856b4a74f50ffb8aefe6db3b38353e19bdda4eb75dbc8a1d5c5"), looks := false }, kinds := [], alts := [], laidByText := true, laidKinds := [.data, .data, .data], laidTests := true, laidLooks := .later }
def BagGroupsTurnUptoCardSaid : Prop := Claim7.holds Tryd.pinned (.plain (OpenSpec.upto bagGroupsTurnSpec)) bagGroupsTurnUptoCard

/-- THE SECOND FORM's CARD OF 'jointerlaw06.BagGroupsInside'. -/
def bagGroupsInsideUptoCard : Claim7 := { stood := { row := bagGroupsInsideUptoRow, standIns := [], harness := (true, "1be8b6c5a8876856b4a74f50ffb8aefe6db3b38353e19bdda4eb75dbc8a1d5c5"), looks := false }, kinds := [], alts := [], laidByText := true, laidKinds := [.data, .data, .data], laidTests := true, laidLooks := .later }
def BagGroupsInsideUptoCardSaid : Prop := Claim7.holds Tryd.pinned (.plain (OpenSpec.upto bagGroupsInsideSpec)) bagGroupsInsideUptoCard

/-- THE SECOND FORM's CARD OF 'jointerlaw06.BagOneList'. -/
def bagOneListUptoCard : Claim7 := { stood := { row := bagOneListUptoRow, standIns := [], harness := (true, "1be8b6c5a8876856b4a74f50ffb8aefe6db3b38353e19bdda4eb75dbc8a1d5c5"), looks := false }, kinds := [], alts := [], laidByText := true, laidKinds := [.data, .data, .data], laidTests := true, laidLooks := .later }
def BagOneListUptoCardSaid : Prop := Claim7.holds Tryd.pinned (.plain (OpenSpec.upto bagOneListSpec)) bagOneListUptoCard

/-- THE SECOND FORM's CARD OF 'jointerlaw06.BagPages'. -/
def bagPagesUptoCard : Claim7 := { stood := { row := bagPagesUptoRow, standIns := [], harness := (true, "1be8b6c5a8876856b4a74f50ffb8aefe6db3b38353e19bdda4eb75dbc8a1d5c5"), looks := false }, kinds := [], alts := [], laidByText := true, laidKinds := [.data, .data, .data], laidTests := true, laidLooks := .later }
def BagPagesUptoCardSaid : Prop := Claim7.holds Tryd.pinned (.plain (OpenSpec.upto bagPagesSpec)) bagPagesUptoCard

/-- THE SECOND FORM's CARD OF 'jointerlaw06.BagParts'. -/
def bagPartsUptoCard : Claim7 := { stood := { row := bagPartsUptoRow, standIns := [], harness := (true, "1be8b6c5a8876856b4a74f50ffb8aefe6db3b38353e19bdda4eb75dbc8a1d5c5"), looks := false }, kinds := [], alts := [], laidByText := true, laidKinds := [.data, .data, .data], laidTests := true, laidLooks := .later }
def BagPartsUptoCardSaid : Prop := Claim7.holds Tryd.pinned (.plain (OpenSpec.upto bagPartsSpec)) bagPartsUptoCard

/-- THE SECOND FORM's CARD OF 'jointerlaw06.BagGroupsCover'. -/
def bagGroupsCoverUptoCard : Claim7 := { stood := { row := bagGroupsCoverUptoRow, standIns := [], harness := (true, "1be8b6c5a8876856b4a74f50ffb8aefe6db3b38353e19bdda4eb75dbc8a1d5c5"), looks := false }, kinds := [], alts := [], laidByText := true, laidKinds := [.data, .data, .data], laidTests := true, laidLooks := .later }
def BagGroupsCoverUptoCardSaid : Prop := Claim7.holds Tryd.pinned (.plain (OpenSpec.upto bagGroupsCoverSpec)) bagGroupsCoverUptoCard
end Rows
end Go.Proofs.YtecgkcgfeghhgaaDoor
