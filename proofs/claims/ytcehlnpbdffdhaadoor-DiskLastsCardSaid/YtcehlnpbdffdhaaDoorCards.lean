/-
  DERIVED. GIVEN WITH THE SEED: THE CARDS: each row of YtcehlnpbdffdhaaDoorRows.lean that lists a variable, with what it lists TIED to the program's text (the seventh form; the later family's looks); each row that meets fmt, with fmt's text TOLD by the authors' own Lean function (tested against real Go, not proved from fmt's source: count such statements apart). THE CARD IS WHAT COUNTS. Prove the row's statement (the work); the ties are given (YtcehlnpbdffdhaaDoorTie.lean); close each card by the builder's one call (the guide's Derived/Test/ToyasCard.lean, 'card_holds'). Laid BY PROGRAM, IN A SANDBOX (cutbox-door.mjs). By AI agents, Wed Nov 11 2026. No macro, syntax, notation, axiom, sorry.
-/
import Derived.Test.YtcehlnpbdffdhaaDoorRows
import GoSem.ClaimSeven
namespace Go.Proofs.YtcehlnpbdffdhaaDoor
namespace Rows

/-- THE TIED CARD OF 'barographlaw17.ManifestChecks'. -/
def manifestChecksCard : Claim7 := { stood := { row := manifestChecksRow, standIns := [], harness := (true, "34d5e7bb02834bf6a3460a8372d100f291e01d718d8b9c6fae977cc6850d0ddd"), looks := true }, kinds := [], alts := [], laidByText := true, laidKinds := [.data, .pinned], laidTests := true, laidLooks := .later }
def ManifestChecksCardSaid : Prop := Claim7.holds Tryd.pinned (.plain (OpenSpec.ofChange manifestChecksSpec)) manifestChecksCard

/-- THE TIED CARD OF 'barographlaw04.DiskFuse'. -/
def diskFuseCard : Claim7 := { stood := { row := diskFuseRow, standIns := [], harness := (true, "34d5e7bb02834bf6a3460a8372d100f291e01d718d8b9c6fae977cc6850d0ddd"), looks := true }, kinds := [], alts := [], laidByText := true, laidKinds := [.data, .pinned], laidTests := true, laidLooks := .later }
def DiskFuseCardSaid : Prop := Claim7.holds Tryd.pinned (.plain (OpenSpec.ofChange diskFuseSpec)) diskFuseCard

/-- THE TIED CARD OF 'barographlaw04.DiskRoom'. -/
def diskRoomCard : Claim7 := { stood := { row := diskRoomRow, standIns := [], harness := (true, "34d5e7bb02834bf6a3460a8372d100f291e01d718d8b9c6fae977cc6850d0ddd"), looks := true }, kinds := [], alts := [], laidByText := true, laidKinds := [.data, .pinned], laidTests := true, laidLooks := .later }
def DiskRoomCardSaid : Prop := Claim7.holds Tryd.pinned (.plain (OpenSpec.ofChange diskRoomSpec)) diskRoomCard

/-- THE TIED CARD OF 'barographlaw04.DiskSwaps'. -/
def diskSwapsCard : Claim7 := { stood := { row := diskSwapsRow, standIns := [], harness := (true, "34d5e7bb02834bf6a3460a8372d100f291e01d718d8b9c6fae977cc6850d0ddd"), looks := true }, kinds := [], alts := [], laidByText := true, laidKinds := [.data, .pinned], laidTests := true, laidLooks := .later }
def DiskSwapsCardSaid : Prop := Claim7.holds Tryd.pinned (.plain (OpenSpec.ofChange diskSwapsSpec)) diskSwapsCard

/-- THE TIED CARD OF 'barographlaw04.DiskDoes'. -/
def diskDoesCard : Claim7 := { stood := { row := diskDoesRow, standIns := [], harness := (true, "34d5e7bb02834bf6a3460a8372d100f291e01d718d8b9c6fae977cc6850d0ddd"), looks := true }, kinds := [], alts := [], laidByText := true, laidKinds := [.data, .pinned], laidTests := true, laidLooks := .later }
def DiskDoesCardSaid : Prop := Claim7.holds Tryd.pinned (.plain (OpenSpec.ofChange diskDoesSpec)) diskDoesCard

/-- THE TIED CARD OF 'barographlaw04.DiskLasts'. -/
def diskLastsCard : Claim7 := { stood := { row := diskLastsRow, standIns := [], harness := (true, "34d5e7bb02834bf6a3460a8372d100f291e01d718d8b9c6fae977cc6850d0ddd"), looks := true }, kinds := [], alts := [], laidByText := true, laidKinds := [.data, .pinned], laidTests := true, laidLooks := .later }
def DiskLastsCardSaid : Prop := Claim7.holds Tryd.pinned (.plain (OpenSpec.ofChange diskLastsSpec)) diskLastsCard

/-- THE SECOND FORM's CARD OF 'barographlaw17.ManifestChecks'. -/
def manifestChecksUptoCard : Claim7 := { stood := { row := manifestChecksUptoRow, standIns := [], harness := (true, "34d5e7bb02834bf6a3460a8372d100f291e01d718d8b9c6fae977cc6850d0ddd"), looks := true }, kinds := [], alts := [], laidByText := true, laidKinds := [.data, .pinned], laidTests := true, laidLooks := .later }
def ManifestChecksUptoCardSaid : Prop := Claim7.holds Tryd.pinned (.plain (OpenSpec.upto manifestChecksSpec)) manifestChecksUptoCard

/-- THE SECOND FORM's CARD OF 'barographlaw04.DiskFuse'. -/
def diskFuseUptoCard : Claim7 := { stood := { row := diskFuseUptoRow, standIns := [], harness := (true, "34d5e7bb02834bf6a3460a8372d100f291e01d718d8b9c6fae977cc6850d0ddd"), looks := true }, kinds := [], alts := [], laidByText := true, laidKinds := [.data, .pinned], laidTests := true, laidLooks := .later }
def DiskFuseUptoCardSaid : Prop := Claim7.holds Tryd.pinned (.plain (OpenSpec.upto diskFuseSpec)) diskFuseUptoCard

/-- THE SECOND FORM's CARD OF 'barographlaw04.DiskRoom'. -/
def diskRoomUptoCard : Claim7 := { stood := { row := diskRoomUptoRow, standIns := [], harness := (true, "34d5e7bb02834bf6a3460a8372d100f291e01d718d8b9c6fae977cc6850d0ddd"), looks := true }, kinds := [], alts := [], laidByText := true, laidKinds := [.data, .pinned], laidTests := true, laidLooks := .later }
def DiskRoomUptoCardSaid : Prop := Claim7.holds Tryd.pinned (.plain (OpenSpec.upto diskRoomSpec)) diskRoomUptoCard

/-- THE SECOND FORM's CARD OF 'barographlaw04.DiskSwaps'. -/
def diskSwapsUptoCard : Claim7 := { stood := { row := diskSwapsUptoRow, standIns := [], harness := (true, "34d5e7bb02834bf6a3460a8372d100f291e01d718d8b9c6fae977cc6850d0ddd"), looks := true }, kinds := [], alts := [], laidByText := true, laidKinds := [.data, .pinned], laidTests := true, laidLooks := .later }
def DiskSwapsUptoCardSaid : Prop := Claim7.holds Tryd.pinned (.plain (OpenSpec.upto diskSwapsSpec)) diskSwapsUptoCard

/-- THE SECOND FORM's CARD OF 'barographlaw04.DiskDoes'. -/
def diskDoesUptoCard : Claim7 := { stood := { row := diskDoesUptoRow, standIns := [], harness := (true, "34d5e7bb02834bf6a3460a8372d100f291e01d718d8b9c6fae977cc6850d0ddd"), looks := true }, kinds := [], alts := [], laidByText := true, laidKinds := [.data, .pinned], laidTests := true, laidLooks := .later }
def DiskDoesUptoCardSaid : Prop := Claim7.holds Tryd.pinned (.plain (OpenSpec.upto diskDoesSpec)) diskDoesUptoCard

/-- THE SECOND FORM's CARD OF 'barographlaw04.DiskLasts'. -/
def diskLastsUptoCard : Claim7 := { stood := { row := diskLastsUptoRow, standIns := [], harness := (true, "34d5e7bb02834bf6a3460a8372d100f291e01d718d8b9c6fae977cc6850d0ddd"), looks := true }, kinds := [], alts := [], laidByText := true, laidKinds := [.data, .pinned], laidTests := true, laidLooks := .later }
def DiskLastsUptoCardSaid : Prop := Claim7.holds Tryd.pinned (.plain (OpenSpec.upto diskLastsSpec)) diskLastsUptoCard
end Rows
end Go.Proofs.YtcehlnpbdffdhaaDoor
