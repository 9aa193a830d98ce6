/-
  DERIVED. GIVEN WITH THE SEED: THE CARDS: each row of YtidoidoelgfnaaaDoorRows.lean that lists a variable, with what it lists TIED to the program's text (the seventh form; the later family's looks); each row that meets fmt, with fmt's text TOLD by the authors' own Lean function (tested against real Go, not proved from fmt's source: count such statements apart). THE CARD IS WHAT COUNTS. Prove the row's statement (the work); the ties are given (YtidoidoelgfnaaaDoorTie.lean); close each card by the builder's one call (the guide's Derived/Test/ToyasCard.lean, 'card_holds'). Laid BY PROGRAM, IN A SANDBOX (cutbox-door.mjs). By AI agents, Wed Nov 11 2026. No macro, syntax, notation, axiom, sorry.
-/
import Derived.Test.YtidoidoelgfnaaaDoorRows
import GoSem.ClaimSeven
namespace Go.Proofs.YtidoidoelgfnaaaDoor
namespace Rows

/-- THE TIED CARD OF 'barographlaw13.HeadWhole'. -/
def headWholeCard : Claim7 := { stood := { row := headWholeRow, standIns := [], harness := (true, "1e12693ee9de567070bc63e8c3ed7d01a7d1a2f7b0b0ab6c56607584366607ed"), looks := true }, kinds := [], alts := [], laidByText := true, laidKinds := [.data, .pinned], laidTests := true, laidLooks := .later }
def HeadWholeCardSaid : Prop := Claim7.holds Tryd.pinned (.plain (OpenSpec.ofChange headWholeSpec)) headWholeCard

/-- THE TIED CARD OF 'barographlaw13.HeadTops'. -/
def headTopsCard : Claim7 := { stood := { row := headTopsRow, standIns := [], harness := (true, "1e12693ee9de567070bc63e8c3ed7d01a7d1a2f7b0b0ab6c56607584366607ed"), looks := true }, kinds := [], alts := [], laidByText := true, laidKinds := [.data, .pinned], laidTests := true, laidLooks := .later }
def HeadTopsCardSaid : Prop := Claim7.holds Tryd.pinned (.plain (OpenSpec.ofChange headTopsSpec)) headTopsCard

/-- THE SECOND FORM's CARD OF 'barographlaw13.HeadWhole'. -/
def headWholeUptoCard : Claim7 := { stood := { row := headWholeUptoRow, standIns := [], harness := (true, "1e12693ee9de567070bc63e8c3ed7d01a7d1a2f7b0b0ab6c56607584366607ed"), looks := true }, kinds := [], alts := [], laidByText := true, laidKinds := [.data, .pinned], laidTests := true, laidLooks := .later }
def HeadWholeUptoCardSaid : Prop := Claim7.holds Tryd.pinned (.plain (OpenSpec.upto headWholeSpec)) headWholeUptoCard

/-- THE SECOND FORM's CARD OF 'barographlaw13.HeadTops'. -/
def headTopsUptoCard : Claim7 := { stood := { row := headTopsUptoRow, standIns := [], harness := (true, "1e12693ee9de567070bc63e8c3ed7d01a7d1a2f7b0b0ab6c56607584366607ed"), looks := true }, kinds := [], alts := [], laidByText := true, laidKinds := [.data, .pinned], laidTests := true, laidLooks := .later }
def HeadTopsUptoCardSaid : Prop := Claim7.holds Tryd.pinned (.plain (OpenSpec.upto headTopsSpec)) headTopsUptoCard
end Rows
end Go.Proofs.YtidoidoelgfnaaaDoor
