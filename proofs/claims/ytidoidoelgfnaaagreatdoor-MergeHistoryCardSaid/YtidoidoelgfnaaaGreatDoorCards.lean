/-
  DERIVED. GIVEN WITH THE SEED: THE CARDS: each row of YtidoidoelgfnaaaGreatDoorRows.lean that lists a variable, with what it lists TIED to the program's text (the seventh form; the later family's looks); each row that meets fmt, with fmt's text TOLD by the authors' own Lean function (tested against real Go, not proved from fmt's source: count such statements apart). THE CARD IS WHAT COUNTS. Prove the row's statement (the work); the ties are given (YtidoidoelgfnaaaGreatDoorTie.lean); close each card by the builder's one call (the guide's Derived/Test/ToyasCard.lean, 'card_holds'). Laid BY PROGRAM, IN A SANDBOX (cutbox-door.mjs). By AI agents, Wed Nov 11 2026. No macro, syntax, notation, axiom, sorry.
-/
import Derived.Test.YtidoidoelgfnaaaGreatDoorRows
import GoSem.ClaimSeven
namespace Go.Proofs.YtidoidoelgfnaaaGreatDoor
namespace Rows

/-- THE TIED CARD OF 'barographlaw16.MergeAsks'. -/
def mergeAsksCard : Claim7 := { stood := { row := mergeAsksRow, standIns := [], harness := (true, "253a86262bc0787e15d5e455142ccd1bff8f397ff6ece23bb75d795b46451c79"), looks := true }, kinds := [], alts := [], laidByText := true, laidKinds := [.data, .pinned], laidTests := true, laidLooks := .later }
def MergeAsksCardSaid : Prop := Claim7.holds Tryz.pinned (.plain (OpenSpec.ofChange mergeAsksSpec)) mergeAsksCard

/-- THE TIED CARD OF 'barographlaw16.MergeTells'. -/
def mergeTellsCard : Claim7 := { stood := { row := mergeTellsRow, standIns := [], harness := (true, "253a86262bc0787e15d5e455142ccd1bff8f397ff6ece23bb75d795b46451c79"), looks := true }, kinds := [], alts := [], laidByText := true, laidKinds := [.data, .pinned], laidTests := true, laidLooks := .later }
def MergeTellsCardSaid : Prop := Claim7.holds Tryz.pinned (.plain (OpenSpec.ofChange mergeTellsSpec)) mergeTellsCard

/-- THE TIED CARD OF 'barographlaw13.HeadDeletes'. -/
def headDeletesCard : Claim7 := { stood := { row := headDeletesRow, standIns := [], harness := (true, "253a86262bc0787e15d5e455142ccd1bff8f397ff6ece23bb75d795b46451c79"), looks := true }, kinds := [], alts := [], laidByText := true, laidKinds := [.data, .pinned], laidTests := true, laidLooks := .later }
def HeadDeletesCardSaid : Prop := Claim7.holds Tryz.pinned (.plain (OpenSpec.ofChange headDeletesSpec)) headDeletesCard

/-- THE TIED CARD OF 'barographlaw13.HeadHistory'. -/
def headHistoryCard : Claim7 := { stood := { row := headHistoryRow, standIns := [], harness := (true, "253a86262bc0787e15d5e455142ccd1bff8f397ff6ece23bb75d795b46451c79"), looks := true }, kinds := [], alts := [], laidByText := true, laidKinds := [.data, .pinned], laidTests := true, laidLooks := .later }
def HeadHistoryCardSaid : Prop := Claim7.holds Tryz.pinned (.plain (OpenSpec.ofChange headHistorySpec)) headHistoryCard

/-- THE TIED CARD OF 'barographlaw13.HeadCopies'. -/
def headCopiesCard : Claim7 := { stood := { row := headCopiesRow, standIns := [], harness := (true, "253a86262bc0787e15d5e455142ccd1bff8f397ff6ece23bb75d795b46451c79"), looks := true }, kinds := [], alts := [], laidByText := true, laidKinds := [.data, .pinned], laidTests := true, laidLooks := .later }
def HeadCopiesCardSaid : Prop := Claim7.holds Tryz.pinned (.plain (OpenSpec.ofChange headCopiesSpec)) headCopiesCard

/-- THE TIED CARD OF 'barographlaw13.HeadDoes'. -/
def headDoesCard : Claim7 := { stood := { row := headDoesRow, standIns := [], harness := (true, "253a86262bc0787e15d5e455142ccd1bff8f397ff6ece23bb75d795b46451c79"), looks := true }, kinds := [], alts := [], laidByText := true, laidKinds := [.data, .pinned], laidTests := true, laidLooks := .later }
def HeadDoesCardSaid : Prop := Claim7.holds Tryz.pinned (.plain (OpenSpec.ofChange headDoesSpec)) headDoesCard

/-- THE TIED CARD OF 'barographlaw16.MergeHistory'. -/
def mergeHistoryCard : Claim7 := { stood := { row := mergeHistoryRow, standIns := [], harness := (true, "253a86262bc0787e15d5e455142ccd1bff8f397ff6ece23bb75d795b46451c79"), looks := true }, kinds := [], alts := [], laidByText := true, laidKinds := [.data, .pinned], laidTests := true, laidLooks := .later }
def MergeHistoryCardSaid : Prop := Claim7.holds Tryz.pinned (.plain (OpenSpec.ofChange mergeHistorySpec)) mergeHistoryCard

/-- THE TIED CARD OF 'barographlaw16.MergeTwice'. -/
def mergeTwiceCard : Claim7 := { stood := { row := mergeTwiceRow, standIns := [], harness := (true, "253a86262bc0787e15d5e455142ccd1bff8f397ff6ece23bb75d795b46451c79"), looks := true }, kinds := [], alts := [], laidByText := true, laidKinds := [.data, .pinned], laidTests := true, laidLooks := .later }
def MergeTwiceCardSaid : Prop := Claim7.holds Tryz.pinned (.plain (OpenSpec.ofChange mergeTwiceSpec)) mergeTwiceCard

/-- THE TIED CARD OF 'barographlaw16.MergeLasts'. -/
def mergeLastsCard : Claim7 := { stood := { row := mergeLastsRow, standIns := [], harness := (true, "253a86262bc0787e15d5e455142ccd1bff8f397ff6ece23bb75d795b46451c79"), looks := true }, kinds := [], alts := [], laidByText := true, laidKinds := [.data, .pinned], laidTests := true, laidLooks := .later }
def MergeLastsCardSaid : Prop := Claim7.holds Tryz.pinned (.plain (OpenSpec.ofChange mergeLastsSpec)) mergeLastsCard

/-- THE SECOND FORM's CARD OF 'barographlaw16.MergeAsks'. -/
def mergeAsksUptoCard : Claim7 := { stood := { row := mergeAsksUptoRow, standIns := [], harness := (true, "253a86262bc0787e15d5e455142ccd1bff8f397ff6ece23bb75d795b46451c79"), looks := true }, kinds := [], alts := [], laidByText := true, laidKinds := [.data, .pinned], laidTests := true, laidLooks := .later }
def MergeAsksUptoCardSaid : Prop := Claim7.holds Tryz.pinned (.plain (OpenSpec.upto mergeAsksSpec)) mergeAsksUptoCard

/-- THE SECOND FORM's CARD OF 'barographlaw16.MergeTells'. -/
def mergeTellsUptoCard : Claim7 := { stood := { row := mergeTellsUptoRow, standIns := [], harness := (true, "253a86262bc0787e15d5e455142ccd1bff8f397ff6ece23bb75d795b46451c79"), looks := true }, kinds := [], alts := [], laidByText := true, laidKinds := [.data, .pinned], laidTests := true, laidLooks := .later }
def MergeTellsUptoCardSaid : Prop := Claim7.holds Tryz.pinned (.plain (OpenSpec.upto mergeTellsSpec)) mergeTellsUptoCard

/-- THE SECOND FORM's CARD OF 'barographlaw13.HeadDeletes'. -/
def headDeletesUptoCard : Claim7 := { stood := { row := headDeletesUptoRow, standIns := [], harness := (true, "253a86262bc0787e15d5e455142ccd1bff8f397ff6ece23bb75d795b46451c79"), looks := true }, kinds := [], alts := [], laidByText := true, laidKinds := [.data, .pinned], laidTests := true, laidLooks := .later }
def HeadDeletesUptoCardSaid : Prop := Claim7.holds Tryz.pinned (.plain (OpenSpec.upto headDeletesSpec)) headDeletesUptoCard

/-- THE SECOND FORM's CARD OF 'barographlaw13.HeadHistory'. -/
def headHistoryUptoCard : Claim7 := { stood := { row := headHistoryUptoRow, standIns := [], harness := (true, "253a86262bc0787e15d5e455142ccd1bff8f397ff6ece23bb75d795b46451c79"), looks := true }, kinds := [], alts := [], laidByText := true, laidKinds := [.data, .pinned], laidTests := true, laidLooks := .later }
def HeadHistoryUptoCardSaid : Prop := Claim7.holds Tryz.pinned (.plain (OpenSpec.upto headHistorySpec)) headHistoryUptoCard

/-- THE SECOND FORM's CARD OF 'barographlaw13.HeadCopies'. -/
def headCopiesUptoCard : Claim7 := { stood := { row := headCopiesUptoRow, standIns := [], harness := (true, "253a86262bc0787e15d5e455142ccd1bff8f397ff6ece23bb75d795b46451c79"), looks := true }, kinds := [], alts := [], laidByText := true, laidKinds := [.data, .pinned], laidTests := true, laidLooks := .later }
def HeadCopiesUptoCardSaid : Prop := Claim7.holds Tryz.pinned (.plain (OpenSpec.upto headCopiesSpec)) headCopiesUptoCard

/-- THE SECOND FORM's CARD OF 'barographlaw13.HeadDoes'. -/
def headDoesUptoCard : Claim7 := { stood := { row := headDoesUptoRow, standIns := [], harness := (true, "253a86262bc0787e15d5e455142ccd1bff8f397ff6ece23bb75d795b46451c79"), looks := true }, kinds := [], alts := [], laidByText := true, laidKinds := [.data, .pinned], laidTests := true, laidLooks := .later }
def HeadDoesUptoCardSaid : Prop := Claim7.holds Tryz.pinned (.plain (OpenSpec.upto headDoesSpec)) headDoesUptoCard

/-- THE SECOND FORM's CARD OF 'barographlaw16.MergeHistory'. -/
def mergeHistoryUptoCard : Claim7 := { stood := { row := mergeHistoryUptoRow, standIns := [], harness := (true, "253a86262bc0787e15d5e455142ccd1bff8f397ff6ece23bb75d795b46451c79"), looks := true }, kinds := [], alts := [], laidByText := true, laidKinds := [.data, .pinned], laidTests := true, laidLooks := .later }
def MergeHistoryUptoCardSaid : Prop := Claim7.holds Tryz.pinned (.plain (OpenSpec.upto mergeHistorySpec)) mergeHistoryUptoCard

/-- THE SECOND FORM's CARD OF 'barographlaw16.MergeTwice'. -/
def mergeTwiceUptoCard : Claim7 := { stood := { row := mergeTwiceUptoRow, standIns := [], harness := (true, "253a86262bc0787e15d5e455142ccd1bff8f397ff6ece23bb75d795b46451c79"), looks := true }, kinds := [], alts := [], laidByText := true, laidKinds := [.data, .pinned], laidTests := true, laidLooks := .later }
def MergeTwiceUptoCardSaid : Prop := Claim7.holds Tryz.pinned (.plain (OpenSpec.upto mergeTwiceSpec)) mergeTwiceUptoCard

/-- THE SECOND FORM's CARD OF 'barographlaw16.MergeLasts'. -/
def mergeLastsUptoCard : Claim7 := { stood := { row := mergeLastsUptoRow, standIns := [], harness := (true, "253a86262bc0787e15d5e455142ccd1bff8f397ff6ece23bb75d795b46451c79"), looks := true }, kinds := [], alts := [], laidByText := true, laidKinds := [.data, .pinned], laidTests := true, laidLooks := .later }
def MergeLastsUptoCardSaid : Prop := Claim7.holds Tryz.pinned (.plain (OpenSpec.upto mergeLastsSpec)) mergeLastsUptoCard
end Rows
end Go.Proofs.YtidoidoelgfnaaaGreatDoor
