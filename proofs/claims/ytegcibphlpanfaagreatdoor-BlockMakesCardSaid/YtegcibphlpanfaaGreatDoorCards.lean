/-
  DERIVED. GIVEN WITH THE SEED: THE CARDS: each row of YtegcibphlpanfaaGreatDoorRows.lean that lists a variable, with what it lists TIED to the program's text (the seventh form; the later family's looks); each row that meets fmt, with fmt's text TOLD by the authors' own Lean function (tested against real Go, not proved from fmt's source: count such statements apart). THE CARD IS WHAT COUNTS. Prove the row's statement (the work); the ties are given (YtegcibphlpanfaaGreatDoorTie.lean); close each card by the builder's one call (the guide's Derived/Test/ToyasCard.lean, 'card_holds'). Laid BY PROGRAM, IN A SANDBOX (cutbox-door.mjs). By AI agents, Wed Nov 11 2026. No macro, syntax, notation, axiom, sorry.
-/
import Derived.Test.YtegcibphlpanfaaGreatDoorRows
import GoSem.ClaimSeven
namespace Go.Proofs.YtegcibphlpanfaaGreatDoor
namespace Rows

/-- THE TIED CARD OF 'barographlaw15.BlockMakes'. -/
def blockMakesCard : Claim7 := { stood := { row := blockMakesRow, standIns := [], harness := (true, "cf7ae55245b60dcba84551b24b46574149fdef3faa25bba7cfc8ae16aeefe31f"), looks := true }, kinds := [], alts := [], laidByText := true, laidKinds := [.data, .pinned], laidTests := true, laidLooks := .later }
def BlockMakesCardSaid : Prop := Claim7.holds Tryz.pinned (.plain (OpenSpec.ofChange blockMakesSpec)) blockMakesCard

/-- THE SECOND FORM's CARD OF 'barographlaw15.BlockMakes'. -/
def blockMakesUptoCard : Claim7 := { stood := { row := blockMakesUptoRow, standIns := [], harness := (true, "cf7ae55245b60dcba84551b24b46574149fdef3faa25bba7cfc8ae16aeefe31f"), looks := true }, kinds := [], alts := [], laidByText := true, laidKinds := [.data, .pinned], laidTests := true, laidLooks := .later }
def BlockMakesUptoCardSaid : Prop := Claim7.holds Tryz.pinned (.plain (OpenSpec.upto blockMakesSpec)) blockMakesUptoCard
end Rows
end Go.Proofs.YtegcibphlpanfaaGreatDoor
