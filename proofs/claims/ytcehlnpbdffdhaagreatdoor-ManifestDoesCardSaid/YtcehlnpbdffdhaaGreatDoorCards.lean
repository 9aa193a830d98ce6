/-
  DERIVED. GIVEN WITH THE SEED: THE CARDS: each row of YtcehlnpbdffdhaaGreatDoorRows.lean that lists a variable, with what it lists TIED to the program's text (the seventh form; the later family's looks); each row that meets fmt, with fmt's text TOLD by the authors' own Lean function (tested against real Go, not proved from fmt's source: count such statements apart). THE CARD IS WHAT COUNTS. Prove the row's statement (the work); the ties are given (YtcehlnpbdffdhaaGreatDoorTie.lean); close each card by the builder's one call (the guide's Derived/Test/ToyasCard.lean, 'card_holds'). Laid BY PROGRAM, IN A SANDBOX (cutbox-door.mjs). By AI agents, Wed Nov 11 2026. No macro, syntax, notation, axiom, sorry.
-/
import Derived.Test.YtcehlnpbdffdhaaGreatDoorRows
import GoSem.ClaimSeven
namespace Go.Proofs.YtcehlnpbdffdhaaGreatDoor
namespace Rows

/-- THE TIED CARD OF 'barographlaw17.ManifestBack'. -/
def manifestBackCard : Claim7 := { stood := { row := manifestBackRow, standIns := [], harness := (true, "b683d96f7eb907410f0317da371b1700261aaac3894b0bcf6094137d7e5d5695"), looks := true }, kinds := [], alts := [], laidByText := true, laidKinds := [.data, .pinned], laidTests := true, laidLooks := .later }
def ManifestBackCardSaid : Prop := Claim7.holds Tryz.pinned (.plain (OpenSpec.ofChange manifestBackSpec)) manifestBackCard

/-- THE TIED CARD OF 'barographlaw17.ManifestEither'. -/
def manifestEitherCard : Claim7 := { stood := { row := manifestEitherRow, standIns := [], harness := (true, "b683d96f7eb907410f0317da371b1700261aaac3894b0bcf6094137d7e5d5695"), looks := true }, kinds := [], alts := [], laidByText := true, laidKinds := [.data, .pinned], laidTests := true, laidLooks := .later }
def ManifestEitherCardSaid : Prop := Claim7.holds Tryz.pinned (.plain (OpenSpec.ofChange manifestEitherSpec)) manifestEitherCard

/-- THE TIED CARD OF 'barographlaw17.ManifestLast'. -/
def manifestLastCard : Claim7 := { stood := { row := manifestLastRow, standIns := [], harness := (true, "b683d96f7eb907410f0317da371b1700261aaac3894b0bcf6094137d7e5d5695"), looks := true }, kinds := [], alts := [], laidByText := true, laidKinds := [.data, .pinned], laidTests := true, laidLooks := .later }
def ManifestLastCardSaid : Prop := Claim7.holds Tryz.pinned (.plain (OpenSpec.ofChange manifestLastSpec)) manifestLastCard

/-- THE TIED CARD OF 'barographlaw17.ManifestTorn'. -/
def manifestTornCard : Claim7 := { stood := { row := manifestTornRow, standIns := [], harness := (true, "b683d96f7eb907410f0317da371b1700261aaac3894b0bcf6094137d7e5d5695"), looks := true }, kinds := [], alts := [], laidByText := true, laidKinds := [.data, .pinned], laidTests := true, laidLooks := .later }
def ManifestTornCardSaid : Prop := Claim7.holds Tryz.pinned (.plain (OpenSpec.ofChange manifestTornSpec)) manifestTornCard

/-- THE TIED CARD OF 'barographlaw17.ManifestDoes'. -/
def manifestDoesCard : Claim7 := { stood := { row := manifestDoesRow, standIns := [], harness := (true, "b683d96f7eb907410f0317da371b1700261aaac3894b0bcf6094137d7e5d5695"), looks := true }, kinds := [], alts := [], laidByText := true, laidKinds := [.data, .pinned], laidTests := true, laidLooks := .later }
def ManifestDoesCardSaid : Prop := Claim7.holds Tryz.pinned (.plain (OpenSpec.ofChange manifestDoesSpec)) manifestDoesCard

/-- THE SECOND FORM's CARD OF 'barographlaw17.ManifestBack'. -/
def manifestBackUptoCard : Claim7 := { stood := { row := manifestBackUptoRow, standIns := [], harness := (true, "b683d96f7eb907410f0317da371b1700261aaac3894b0bcf6094137d7e5d5695"), looks := true }, kinds := [], alts := [], laidByText := true, laidKinds := [.data, .pinned], laidTests := true, laidLooks := .later }
def ManifestBackUptoCardSaid : Prop := Claim7.holds Tryz.pinned (.plain (OpenSpec.upto manifestBackSpec)) manifestBackUptoCard

/-- THE SECOND FORM's CARD OF 'barographlaw17.ManifestEither'. -/
def manifestEitherUptoCard : Claim7 := { stood := { row := manifestEitherUptoRow, standIns := [], harness := (true, "b683d96f7eb907410f0317da371b1700261aaac3894b0bcf6094137d7e5d5695"), looks := true }, kinds := [], alts := [], laidByText := true, laidKinds := [.data, .pinned], laidTests := true, laidLooks := .later }
def ManifestEitherUptoCardSaid : Prop := Claim7.holds Tryz.pinned (.plain (OpenSpec.upto manifestEitherSpec)) manifestEitherUptoCard

/-- THE SECOND FORM's CARD OF 'barographlaw17.ManifestLast'. -/
def manifestLastUptoCard : Claim7 := { stood := { row := manifestLastUptoRow, standIns := [], harness := (true, "b683d96f7eb907410f0317da371b1700261aaac3894b0bcf6094137d7e5d5695"), looks := true }, kinds := [], alts := [], laidByText := true, laidKinds := [.data, .pinned], laidTests := true, laidLooks := .later }
def ManifestLastUptoCardSaid : Prop := Claim7.holds Tryz.pinned (.plain (OpenSpec.upto manifestLastSpec)) manifestLastUptoCard

/-- THE SECOND FORM's CARD OF 'barographlaw17.ManifestTorn'. -/
def manifestTornUptoCard : Claim7 := { stood := { row := manifestTornUptoRow, standIns := [], harness := (true, "b683d96f7eb907410f0317da371b1700261aaac3894b0bcf6094137d7e5d5695"), looks := true }, kinds := [], alts := [], laidByText := true, laidKinds := [.data, .pinned], laidTests := true, laidLooks := .later }
def ManifestTornUptoCardSaid : Prop := Claim7.holds Tryz.pinned (.plain (OpenSpec.upto manifestTornSpec)) manifestTornUptoCard

/-- THE SECOND FORM's CARD OF 'barographlaw17.ManifestDoes'. -/
def manifestDoesUptoCard : Claim7 := { stood := { row := manifestDoesUptoRow, standIns := [], harness := (true, "b683d96f7eb907410f0317da371b1700261aaac3894b0bcf6094137d7e5d5695"), looks := true }, kinds := [], alts := [], laidByText := true, laidKinds := [.data, .pinned], laidTests := true, laidLooks := .later }
def ManifestDoesUptoCardSaid : Prop := Claim7.holds Tryz.pinned (.plain (OpenSpec.upto manifestDoesSpec)) manifestDoesUptoCard
end Rows
end Go.Proofs.YtcehlnpbdffdhaaGreatDoor
