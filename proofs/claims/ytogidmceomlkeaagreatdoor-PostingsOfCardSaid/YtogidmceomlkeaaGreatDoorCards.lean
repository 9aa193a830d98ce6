/-
  DERIVED. GIVEN WITH THE SEED: THE CARDS: each row of YtogidmceomlkeaaGreatDoorRows.lean that lists a variable, with what it lists TIED to the program's text (the seventh form; the later family's looks); each row that meets fmt, with fmt's text TOLD by the authors' own Lean function (tested against real Go, not proved from fmt's source: count such statements apart). THE CARD IS WHAT COUNTS. Prove the row's statement (the work); the ties are given (YtogidmceomlkeaaGreatDoorTie.lean); close each card by the builder's one call (the guide's Derived/Test/ToyasCard.lean, 'card_holds'). Laid BY PROGRAM, IN A SANDBOX (cutbox-door.mjs). By AI agents, Wed Nov 11 2026. No macro, syntax, notation, axiom, sorry.
-/
import Derived.Test.YtogidmceomlkeaaGreatDoorRows
import GoSem.ClaimSeven
namespace Go.Proofs.YtogidmceomlkeaaGreatDoor
namespace Rows

/-- THE TIED CARD OF 'barographlaw14.PostingsLaws'. -/
def postingsLawsCard : Claim7 := { stood := { row := postingsLawsRow, standIns := [], harness := (true, "df625bc0af502dba237f1622f0be7a08a86691f364e28f03c92ccc596649acba"), looks := false }, kinds := [], alts := [], laidByText := true, laidKinds := [.data, .pinned], laidTests := true, laidLooks := .later }
def PostingsLawsCardSaid : Prop := Claim7.holds Tryz.pinned (.plain (OpenSpec.ofChange postingsLawsSpec)) postingsLawsCard

/-- THE TIED CARD OF 'barographlaw14.PostingsMore'. -/
def postingsMoreCard : Claim7 := { stood := { row := postingsMoreRow, standIns := [], harness := (true, "df625bc0af502dba237f1622f0be7a08a86691f364e28f03c92ccc596649acba"), looks := false }, kinds := [], alts := [], laidByText := true, laidKinds := [.data, .pinned], laidTests := true, laidLooks := .later }
def PostingsMoreCardSaid : Prop := Claim7.holds Tryz.pinned (.plain (OpenSpec.ofChange postingsMoreSpec)) postingsMoreCard

/-- THE TIED CARD OF 'barographlaw14.PostingsOf'. -/
def postingsOfCard : Claim7 := { stood := { row := postingsOfRow, standIns := [], harness := (true, "df625bc0af502dba237f1622f0be7a08a86691f364e28f03c92ccc596649acba"), looks := false }, kinds := [], alts := [], laidByText := true, laidKinds := [.data, .pinned], laidTests := true, laidLooks := .later }
def PostingsOfCardSaid : Prop := Claim7.holds Tryz.pinned (.plain (OpenSpec.ofChange postingsOfSpec)) postingsOfCard

/-- THE SECOND FORM's CARD OF 'barographlaw14.PostingsLaws'. -/
def postingsLawsUptoCard : Claim7 := { stood := { row := postingsLawsUptoRow, standIns := [], harness := (true, "df625bc0af502dba237f1622f0be7a08a86691f364e28f03c92ccc596649acba"), looks := false }, kinds := [], alts := [], laidByText := true, laidKinds := [.data, .pinned], laidTests := true, laidLooks := .later }
def PostingsLawsUptoCardSaid : Prop := Claim7.holds Tryz.pinned (.plain (OpenSpec.upto postingsLawsSpec)) postingsLawsUptoCard

/-- THE SECOND FORM's CARD OF 'barographlaw14.PostingsMore'. -/
def postingsMoreUptoCard : Claim7 := { stood := { row := postingsMoreUptoRow, standIns := [], harness := (true, "df625bc0af502dba237f1622f0be7a08a86691f364e28f03c92ccc596649acba"), looks := false }, kinds := [], alts := [], laidByText := true, laidKinds := [.data, .pinned], laidTests := true, laidLooks := .later }
def PostingsMoreUptoCardSaid : Prop := Claim7.holds Tryz.pinned (.plain (OpenSpec.upto postingsMoreSpec)) postingsMoreUptoCard

/-- THE SECOND FORM's CARD OF 'barographlaw14.PostingsOf'. -/
def postingsOfUptoCard : Claim7 := { stood := { row := postingsOfUptoRow, standIns := [], harness := (true, "df625bc0af502dba237f1622f0be7a08a86691f364e28f03c92ccc596649acba"), looks := false }, kinds := [], alts := [], laidByText := true, laidKinds := [.data, .pinned], laidTests := true, laidLooks := .later }
def PostingsOfUptoCardSaid : Prop := Claim7.holds Tryz.pinned (.plain (OpenSpec.upto postingsOfSpec)) postingsOfUptoCard
end Rows
end Go.Proofs.YtogidmceomlkeaaGreatDoor
