/-
  DERIVED. GIVEN WITH THE SEED: THE CARDS: each row of YtiggkfaonnnjoaaGreatDoorRows.lean that lists a variable, with what it lists TIED to the program's text (the seventh form; the later family's looks); each row that meets fmt, with fmt's text TOLD by the authors' own Lean function (tested against real Go, not proved from fmt's source: count such statements apart). THE CARD IS WHAT COUNTS. Prove the row's statement (the work); the ties are given (YtiggkfaonnnjoaaGreatDoorTie.lean); close each card by the builder's one call (the guide's Derived/Test/ToyasCard.lean, 'card_holds'). Laid BY PROGRAM, IN A SANDBOX (cutbox-door.mjs). By AI agents, Wed Nov 11 2026. No macro, syntax, notation, axiom, sorry.
-/
import Derived.Test.YtiggkfaonnnjoaaGreatDoorRows
import GoSem.ClaimSeven
namespace Go.Proofs.YtiggkfaonnnjoaaGreatDoor
namespace Rows

/-- THE TIED CARD OF 'barographlaw05.WalCuts'. -/
def walCutsCard : Claim7 := { stood := { row := walCutsRow, standIns := [], harness := (true, "55ab18790ba8bd6f2412849323d1f99d2071ef37351843218df2fddc9b5d8a6b"), looks := true }, kinds := [], alts := [], laidByText := true, laidKinds := [.data, .pinned], laidTests := true, laidLooks := .later }
def WalCutsCardSaid : Prop := Claim7.holds Tryz.pinned (.plain (OpenSpec.ofChange walCutsSpec)) walCutsCard

/-- THE SECOND FORM's CARD OF 'barographlaw05.WalCuts'. -/
def walCutsUptoCard : Claim7 := { stood := { row := walCutsUptoRow, standIns := [], harness := (true, "55ab18790ba8bd6f2412849323d1f99d2071ef37351843218df2fddc9b5d8a6b"), looks := true }, kinds := [], alts := [], laidByText := true, laidKinds := [.data, .pinned], laidTests := true, laidLooks := .later }
def WalCutsUptoCardSaid : Prop := Claim7.holds Tryz.pinned (.plain (OpenSpec.upto walCutsSpec)) walCutsUptoCard
end Rows
end Go.Proofs.YtiggkfaonnnjoaaGreatDoor
