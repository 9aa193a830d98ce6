/-
  DERIVED. GIVEN WITH THE SEED: THE CARDS: each row of YtogidmceomlkeaaDoorRows.lean that lists a variable, with what it lists TIED to the program's text (the seventh form; the later family's looks); each row that meets fmt, with fmt's text TOLD by the authors' own Lean function (tested against real Go, not proved from fmt's source: count such statements apart). THE CARD IS WHAT COUNTS. Prove the row's statement (the work); the ties are given (YtogidmceomlkeaaDoorTie.lean); close each card by the builder's one call (the guide's Derived/Test/ToyasCard.lean, 'card_holds'). Laid BY PROGRAM, IN A SANDBOX (cutbox-door.mjs). By AI agents, Wed Nov 11 2026. No macro, syntax, notation, axiom, sorry.
-/
import Derived.Test.YtogidmceomlkeaaDoorRows
import GoSem.ClaimSeven
namespace Go.Proofs.YtogidmceomlkeaaDoor
namespace Rows

/-- THE TIED CARD OF 'barographlaw14.PostingsFinds'. -/
def postingsFindsCard : Claim7 := { stood := { row := postingsFindsRow, standIns := [], harness := (true, "609e21ccbef14317a9b80266f1c01e7f0ab72e445e8e659a91d9175b2f96e91c"), looks := false }, kinds := [], alts := [], laidByText := true, laidKinds := [.data, .pinned], laidTests := true, laidLooks := .later }
def PostingsFindsCardSaid : Prop := Claim7.holds Tryd.pinned (.plain (OpenSpec.ofChange postingsFindsSpec)) postingsFindsCard

/-- THE TIED CARD OF 'barographlaw17.ManifestChecks'. -/
def manifestChecksCard : Claim7 := { stood := { row := manifestChecksRow, standIns := [], harness := (true, "609e21ccbef14317a9b80266f1c01e7f0ab72e445e8e659a91d9175b2f96e91c"), looks := false }, kinds := [], alts := [], laidByText := true, laidKinds := [.data, .pinned], laidTests := true, laidLooks := .later }
def ManifestChecksCardSaid : Prop := Claim7.holds Tryd.pinned (.plain (OpenSpec.ofChange manifestChecksSpec)) manifestChecksCard

/-- THE SECOND FORM's CARD OF 'barographlaw14.PostingsFinds'. -/
def postingsFindsUptoCard : Claim7 := { stood := { row := postingsFindsUptoRow, standIns := [], harness := (true, "609e21ccbef14317a9b80266f1c01e7f0ab72e445e8e659a91d9175b2f96e91c"), looks := false }, kinds := [], alts := [], laidByText := true, laidKinds := [.data, .pinned], laidTests := true, laidLooks := .later }
def PostingsFindsUptoCardSaid : Prop := Claim7.holds Tryd.pinned (.plain (OpenSpec.upto postingsFindsSpec)) postingsFindsUptoCard

/-- THE SECOND FORM's CARD OF 'barographlaw17.ManifestChecks'. -/
def manifestChecksUptoCard : Claim7 := { stood := { row := manifestChecksUptoRow, standIns := [], harness := (true, "609e21ccbef14317a9b80266f1c01e7f0ab72e445e8e659a91d9175b2f96e91c"), looks := false }, kinds := [], alts := [], laidByText := true, laidKinds := [.data, .pinned], laidTests := true, laidLooks := .later }
def ManifestChecksUptoCardSaid : Prop := Claim7.holds Tryd.pinned (.plain (OpenSpec.upto manifestChecksSpec)) manifestChecksUptoCard
end Rows
end Go.Proofs.YtogidmceomlkeaaDoor
