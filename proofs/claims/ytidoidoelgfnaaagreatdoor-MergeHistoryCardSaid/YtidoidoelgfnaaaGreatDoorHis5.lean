/- MergeLasts: the law. -/
import Derived.Test.YtidoidoelgfnaaaGreatDoorMhM
import Derived.Test.YtidoidoelgfnaaaGreatDoorHis1M
import Derived.Test.YtidoidoelgfnaaaGreatDoorKj1M
import Derived.Test.YtidoidoelgfnaaaGreatDoorRhM
namespace Go.Proofs.YtidoidoelgfnaaaGreatDoor.SL
open Go.RowKit Go.Proofs.YtidoidoelgfnaaaGreatDoor
open Go.Proofs.YtidoidoelgfnaaaGreatDoorW.PrintLast (rtab opsOf)
set_option linter.unusedVariables false
set_option linter.unusedSimpArgs false

theorem HistOk.j2 {bs : List BlkV} {L : List RcP} {A : List RowP} (h : HistOk bs L A) (hn : bs ≠ []) (mark : Int) : (joinV bs mark).2 = 0 := by rw [h.join hn mark]
theorem HistOk.j1 {bs : List BlkV} {L : List RcP} {A : List RowP} (h : HistOk bs L A) (hn : bs ≠ []) (mark : Int) : (joinV bs mark).1 = ⟨1, (L.length : Int), A.map (flt (inF mark 9223372036854775807)), []⟩ := by rw [h.join hn mark]
theorem run_cons {r : RcP} {l : List RcP} {W A : List RowP} (h : runP W (r :: l) = (0, A)) : tryP W r = 0 ∧ runP (applyP W r) l = (0, A) := by
  rw [runP] at h
  split at h
  · exact ⟨by assumption, h⟩
  · rename_i ht; exact absurd (congrArg Prod.fst h) ht
end Go.Proofs.YtidoidoelgfnaaaGreatDoor.SL
