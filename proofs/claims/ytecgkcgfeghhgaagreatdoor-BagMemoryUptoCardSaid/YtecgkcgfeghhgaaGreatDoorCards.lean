/-
  DERIVED. GIVEN WITH THE SEED: THE CARDS: each row of YtecgkcgfeghhgaaGreatDoorRows.lean that lists a variable, with what it lists TIED to the program's text (the seventh form; the later family's looks); each row that meets fmt, with fmt's text TOLD by the authors' own Lean function (tested against real Go, not proved from fmt's source: count such statements apart). THE CARD IS WHAT COUNTS. Prove the row's statement (the work); the ties are given (YtecgkcgfeghhgaaGreatDoorTie.lean); close each card by the builder's one call (the guide's Derived/Test/ToyasCard.lean, 'card_holds'). Laid BY PROGRAM, IN A SANDBOX (cutbox-door.mjs). By AI agents, Wed Nov 11 2026. No macro, syntax, notation, axiom, sorry.
-/
import Derived.Test.YtecgkcgfeghhgaaGreatDoorRows
import GoSem.ClaimSeven
namespace Go.Proofs.YtecgkcgfeghhgaaGreatDoor
namespace Rows

/-- THE TIED CARD OF 'jointerlaw06.BagValids'. -/
def bagValidsCard : Claim7 := { stood := { row := bagValidsRow, standIns := [], harness := (true, "55ffab1a68426a73a5ab40f6704ac395d066b4b477c5e6f8cd93d277e40467cc"), looks := false }, kinds := [], alts := [], laidByText := true, laidKinds := [.data, .data, .data], laidTests := true, laidLooks := .later }
def BagValidsCardSaid : Prop := Claim7.holds Tryz.pinned (.plain (OpenSpec.ofChange bagValidsSpec)) bagValidsCard

/-- THE TIED CARD OF 'jointerlaw06.BagSame'. -/
def bagSameCard : Claim7 := { stood := { row := bagSameRow, standIns := [], harness := (true, "55ffab1a68426a73a5ab40f6704ac395d066b4b477c5e6f8cd93d277e40467cc"), looks := false }, kinds := [], alts := [], laidByText := true, laidKinds := [.data, .data, .data], laidTests := true, laidLooks := .later }
def BagSameCardSaid : Prop := Claim7.holds Tryz.pinned (.plain (OpenSpec.ofChange bagSameSpec)) bagSameCard

/-- THE TIED CARD OF 'jointerlaw06.BagCuts'. -/
def bagCutsCard : Claim7 := { stood := { row := bagCutsRow, standIns := [], harness := (true, "55ffab1a68426a73a5ab40f6704ac395d066b4b477c5e6f8cd93d277e40467cc"), looks := false }, kinds := [], alts := [], laidByText := true, laidKinds := [.data, .data, .data], laidTests := true, laidLooks := .later }
def BagCutsCardSaid : Prop := Claim7.holds Tryz.pinned (.plain (OpenSpec.ofChange bagCutsSpec)) bagCutsCard

/-- THE TIED CARD OF 'jointerlaw06.BagAggregates'. -/
def bagAggregatesCard : Claim7 := { stood := { row := bagAggregatesRow, standIns := [], harness := (true, "55ffab1a68426a73a5ab40f6704ac395d066b4b477c5e6f8cd93d277e40467cc"), looks := false }, kinds := [], alts := [], laidByText := true, laidKinds := [.data, .data, .data], laidTests := true, laidLooks := .later }
def BagAggregatesCardSaid : Prop := Claim7.holds Tryz.pinned (.plain (OpenSpec.ofChange bagAggregatesSpec)) bagAggregatesCard

/-- THE TIED CARD OF 'jointerlaw06.BagGroups'. -/
def bagGroupsCard : Claim7 := { stood := { row := bagGroupsRow, standIns := [], harness := (true, "55ffab1a68426a73a5ab40f6704ac395d066b4b477c5e6f8cd93d277e40467cc"), looks := false }, kinds := [], alts := [], laidByText := true, laidKinds := [.data, .data, .data], laidTests := true, laidLooks := .later }
def BagGroupsCardSaid : Prop := Claim7.holds Tryz.pinned (.plain (OpenSpec.ofChange bagGroupsSpec)) bagGroupsCard

/-- THE TIED CARD OF 'jointerlaw06.BagSorts'. -/
def bagSortsCard : Claim7 := { stood := { row := bagSortsRow, standIns := [], harness := (true, "55ffab1a68426a73a5ab40f6704ac395d066b4b477c5e6f8cd93d277e40467cc"), looks := false }, kinds := [], alts := [], laidByText := true, laidKinds := [.data, .data, .data], laidTests := true, laidLooks := .later }
def BagSortsCardSaid : Prop := Claim7.holds Tryz.pinned (.plain (OpenSpec.ofChange bagSortsSpec)) bagSortsCard

/-- THE TIED CARD OF 'jointerlaw06.BagSets'. -/
def bagSetsCard : Claim7 := { stood := { row := bagSetsRow, standIns := [], harness := (true, "55ffab1a68426a73a5ab40f6704ac395d066b4b477c5e6f8cd93d277e40467cc"), looks := false }, kinds := [], alts := [], laidByText := true, laidKinds := [.data, .data, .data], laidTests := true, laidLooks := .later }
def BagSetsCardSaid : Prop := Claim7.holds Tryz.pinned (.plain (OpenSpec.ofChange bagSetsSpec)) bagSetsCard

/-- THE TIED CARD OF 'jointerlaw06.BagMemory'. -/
def bagMemoryCard : Claim7 := { stood := { row := bagMemoryRow, standIns := [], harness := (true, "55ffab1a68426a73a5ab40f6704ac395d066b4b477c5e6f8cd93d277e40467cc"), looks := false }, kinds := [], alts := [], laidByText := true, laidKinds := [.data, .data, .data], laidTests := true, laidLooks := .later }
def BagMemoryCardSaid : Prop := Claim7.holds Tryz.pinned (.plain (OpenSpec.ofChange bagMemorySpec)) bagMemoryCard

/-- THE SECOND FORM's CARD OF 'jointerlaw06.BagValids'. -/
def bagValidsUptoCard : Claim7 := { stood := { row := bagValidsUptoRow, standIns := [], harness := (true, "55ffab1a68426a73a5ab40f6704ac395d066b4b477c5e6f8cd93d277e40467cc"), looks := false }, kinds := [], alts := [], laidByText := true, laidKinds := [.data, .data, .data], laidTests := true, laidLooks := .later }
def BagValidsUptoCardSaid : Prop := Claim7.holds Tryz.pinned (.plain (OpenSpec.upto bagValidsSpec)) bagValidsUptoCard

/-- THE SECOND FORM's CARD OF 'jointerlaw06.BagSame'. -/
def bagSameUptoCard : Claim7 := { stood := { row := bagSameUptoRow, standIns := [], harness := (true, "55ffab1a68426a73a5ab40f6704ac395d066b4b477c5e6f8cd93d277e40467cc"), looks := false }, kinds := [], alts := [], laidByText := true, laidKinds := [.data, .data, .data], laidTests := true, laidLooks := .later }
def BagSameUptoCardSaid : Prop := Claim7.holds Tryz.pinned (.plain (OpenSpec.upto bagSameSpec)) bagSameUptoCard

/-- THE SECOND FORM's CARD OF 'jointerlaw06.BagCuts'. -/
def bagCutsUptoCard : Claim7 := { stood := { row := bagCutsUptoRow, standIns := [], harness := (true, "55ffab1a68426a73a5ab40f6704ac395d066b4b477c5e6f8cd93d277e40467cc"), looks := false }, kinds := [], alts := [], laidByText := true, laidKinds := [.data, .data, .data], laidTests := true, laidLooks := .later }
def BagCutsUptoCardSaid : Prop := Claim7.holds Tryz.pinned (.plain (OpenSpec.upto bagCutsSpec)) bagCutsUptoCard

/-- THE SECOND FORM's CARD OF 'jointerlaw06.BagAggregates'. -/
def bagAggregatesUptoCard : Claim7 := { stood := { row := bagAggregatesUptoRow, standIns := [], harness := (true, "55ffab1a68426a73a5ab40f6704ac395d066b4b477c5e6f8cd93d277e40467cc"), looks := false }, kinds := [], alts := [], laidByText := true, laidKinds := [.data, .data, .data], laidTests := true, laidLooks := .later }
def BagAggregatesUptoCardSaid : Prop := Claim7.holds Tryz.pinned (.plain (OpenSpec.upto bagAggregatesSpec)) bagAggregatesUptoCard

/-- THE SECOND FORM's CARD OF 'jointerlaw06.BagGroups'. -/
def bagGroupsUptoCard : Claim7 := { stood := { row := bagGroupsUptoRow, standIns := [], harness := (true, "55ffab1a68426a73a5ab40f6704ac395d066b4b477c5e6f8cd93d277e40467cc"), looks := false }, kinds := [], alts := [], laidByText := true, laidKinds := [.data, .data, .data], laidTests := true, laidLooks := .later }
def BagGroupsUptoCardSaid : Prop := Claim7.holds Tryz.pinned (.plain (OpenSpec.upto bagGroupsSpec)) bagGroupsUptoCard

/-- THE SECOND FORM's CARD OF 'jointerlaw06.BagSorts'. -/
def bagSortsUptoCard : Claim7 := { stood := { row := bagSortsUptoRow, standIns := [], harness := (true, "55ffab1a68426a73a5ab40f6704ac395d066b4b477c5e6f8cd93d277e40467cc"), looks := false }, kinds := [], alts := [], laidByText := true, laidKinds := [.data, .data, .data], laidTests := true, laidLooks := .later }
def BagSortsUptoCardSaid : Prop := Claim7.holds Tryz.pinned (.plain (OpenSpec.upto bagSortsSpec)) bagSortsUptoCard

/-- THE SECOND FORM's CARD OF 'jointerlaw06.BagSets'. -/
def bagSetsUptoCard : Claim7 := { stood := { row := bagSetsUptoRow, standIns := [], harness := (true, "55ffab1a68426a73a5ab40f6704ac395d066b4b477c5e6f8cd93d277e40467cc"), looks := false }, kinds := [], alts := [], laidByText := true, laidKinds := [.data, .data, .data], laidTests := true, laidLooks := .later }
def BagSetsUptoCardSaid : Prop := Claim7.holds Tryz.pinned (.plain (OpenSpec.upto bagSetsSpec)) bagSetsUptoCard

/-- THE SECOND FORM's CARD OF 'jointerlaw06.BagMemory'. -/
def bagMemoryUptoCard : Claim7 := { stood := { row := bagMemoryUptoRow, standIns := [], harness := (true, "55ffab1a68426a73a5ab40f6704ac395d066b4b477c5e6f8cd93d277e40467cc"), looks := false }, kinds := [], alts := [], laidByText := true, laidKinds := [.data, .data, .data], laidTests := true, laidLooks := .later }
def BagMemoryUptoCardSaid : Prop := Claim7.holds Tryz.pinned (.plain (OpenSpec.upto bagMemorySpec)) bagMemoryUptoCard
end Rows
end Go.Proofs.YtecgkcgfeghhgaaGreatDoor
