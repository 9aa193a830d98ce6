/-
  DERIVED. GIVEN WITH THE SEED: THE CARDS: each row of YtiggkfaonnnjoaaDoorRows.lean that lists a variable, with what it lists TIED to the program's text (the seventh form; the later family's looks); each row that meets fmt, with fmt's text TOLD by the authors' own Lean function (tested against real Go, not proved from fmt's source: count such statements apart). THE CARD IS WHAT COUNTS. Prove the row's statement (the work); the ties are given (YtiggkfaonnnjoaaDoorTie.lean); close each card by the builder's one call (the guide's Derived/Test/ToyasCard.lean, 'card_holds'). Laid BY PROGRAM, IN A SANDBOX (cutbox-door.mjs). By AI agents, Wed Nov 11 2026. No macro, syntax, notation, axiom, sorry.
-/
import Derived.Test.YtiggkfaonnnjoaaDoorRows
import GoSem.ClaimSeven
namespace Go.Proofs.YtiggkfaonnnjoaaDoor
namespace Rows

/-- THE TIED CARD OF 'barographlaw05.WalLasts'. -/
def walLastsCard : Claim7 := { stood := { row := walLastsRow, standIns := [], harness := (true, "6ffcd05deb82c51d349e618d01693699390a96d72e42ef4bb1562150cefe9e39"), looks := true }, kinds := [], alts := [], laidByText := true, laidKinds := [.data, .pinned], laidTests := true, laidLooks := .later }
def WalLastsCardSaid : Prop := Claim7.holds Tryd.pinned (.plain (OpenSpec.ofChange walLastsSpec)) walLastsCard

/-- THE TIED CARD OF 'barographlaw05.WalGoesOn'. -/
def walGoesOnCard : Claim7 := { stood := { row := walGoesOnRow, standIns := [], harness := (true, "6ffcd05deb82c51d349e618d01693699390a96d72e42ef4bb1562150cefe9e39"), looks := true }, kinds := [], alts := [], laidByText := true, laidKinds := [.data, .pinned], laidTests := true, laidLooks := .later }
def WalGoesOnCardSaid : Prop := Claim7.holds Tryd.pinned (.plain (OpenSpec.ofChange walGoesOnSpec)) walGoesOnCard

/-- THE TIED CARD OF 'barographlaw05.WalDrops'. -/
def walDropsCard : Claim7 := { stood := { row := walDropsRow, standIns := [], harness := (true, "6ffcd05deb82c51d349e618d01693699390a96d72e42ef4bb1562150cefe9e39"), looks := true }, kinds := [], alts := [], laidByText := true, laidKinds := [.data, .pinned], laidTests := true, laidLooks := .later }
def WalDropsCardSaid : Prop := Claim7.holds Tryd.pinned (.plain (OpenSpec.ofChange walDropsSpec)) walDropsCard

/-- THE TIED CARD OF 'barographlaw05.WalReset'. -/
def walResetCard : Claim7 := { stood := { row := walResetRow, standIns := [], harness := (true, "6ffcd05deb82c51d349e618d01693699390a96d72e42ef4bb1562150cefe9e39"), looks := true }, kinds := [], alts := [], laidByText := true, laidKinds := [.data, .pinned], laidTests := true, laidLooks := .later }
def WalResetCardSaid : Prop := Claim7.holds Tryd.pinned (.plain (OpenSpec.ofChange walResetSpec)) walResetCard

/-- THE SECOND FORM's CARD OF 'barographlaw05.WalLasts'. -/
def walLastsUptoCard : Claim7 := { stood := { row := walLastsUptoRow, standIns := [], harness := (true, "6ffcd05deb82c51d349e618d01693699390a96d72e42ef4bb1562150cefe9e39"), looks := true }, kinds := [], alts := [], laidByText := true, laidKinds := [.data, .pinned], laidTests := true, laidLooks := .later }
def WalLastsUptoCardSaid : Prop := Claim7.holds Tryd.pinned (.plain (OpenSpec.upto walLastsSpec)) walLastsUptoCard

/-- THE SECOND FORM's CARD OF 'barographlaw05.WalGoesOn'. -/
def walGoesOnUptoCard : Claim7 := { stood := { row := walGoesOnUptoRow, standIns := [], harness := (true, "6ffcd05deb82c51d349e618d01693699390a96d72e42ef4bb1562150cefe9e39"), looks := true }, kinds := [], alts := [], laidByText := true, laidKinds := [.data, .pinned], laidTests := true, laidLooks := .later }
def WalGoesOnUptoCardSaid : Prop := Claim7.holds Tryd.pinned (.plain (OpenSpec.upto walGoesOnSpec)) walGoesOnUptoCard

/-- THE SECOND FORM's CARD OF 'barographlaw05.WalDrops'. -/
def walDropsUptoCard : Claim7 := { stood := { row := walDropsUptoRow, standIns := [], harness := (true, "6ffcd05deb82c51d349e618d01693699390a96d72e42ef4bb1562150cefe9e39"), looks := true }, kinds := [], alts := [], laidByText := true, laidKinds := [.data, .pinned], laidTests := true, laidLooks := .later }
def WalDropsUptoCardSaid : Prop := Claim7.holds Tryd.pinned (.plain (OpenSpec.upto walDropsSpec)) walDropsUptoCard

/-- THE SECOND FORM's CARD OF 'barographlaw05.WalReset'. -/
def walResetUptoCard : Claim7 := { stood := { row := walResetUptoRow, standIns := [], harness := (true, "6ffcd05deb82c51d349e618d01693699390a96d72e42ef4bb1562150cefe9e39"), looks := true }, kinds := [], alts := [], laidByText := true, laidKinds := [.data, .pinned], laidTests := true, laidLooks := .later }
def WalResetUptoCardSaid : Prop := Claim7.holds Tryd.pinned (.plain (OpenSpec.upto walResetSpec)) walResetUptoCard
end Rows
end Go.Proofs.YtiggkfaonnnjoaaDoor
