/- MergeAsks: the law. -/
import Derived.Test.YtidoidoelgfnaaaGreatDoorKk1M
import Derived.Test.YtidoidoelgfnaaaGreatDoorKp1M
import Derived.Test.YtidoidoelgfnaaaGreatDoorKrmM
namespace Go.Proofs.YtidoidoelgfnaaaGreatDoor.SL
open Go.RowKit Go.Proofs.YtidoidoelgfnaaaGreatDoor
open Go.Proofs.YtidoidoelgfnaaaGreatDoorW.PrintLast (rtab opsOf)
set_option linter.unusedVariables false
set_option linter.unusedSimpArgs false

structure AskV where
  ms : SlV Mt
  fr : Int
  to : Int
def askc (q : AskV) : List Value := [.slice q.ms.a q.ms.l.length q.ms.cap, .int .i64 q.fr, .int .i64 q.to]
theorem MRow.of_p {r s : MRow} (h : r.p = s.p) : r.lb.l = s.lb.l ∧ r.last = s.last ∧ r.pt.l = s.pt.l := ⟨congrArg RowP.lb h, congrArg RowP.last h, congrArg RowP.pts h⟩
theorem BlkV.of_p {b c : BlkV} (h : b.p = c.p) : b.first = c.first ∧ b.to = c.to ∧ b.rs.l.map MRow.p = c.rs.l.map MRow.p ∧ b.ds.l.map Rcd.p = c.ds.l.map Rcd.p := ⟨congrArg BlkP.first h, congrArg BlkP.to h, congrArg BlkP.rows h, congrArg BlkP.dels h⟩
theorem map_len {α β : Type} {f : α → β} {l m : List α} (h : l.map f = m.map f) : l.length = m.length := by have := congrArg List.length h; simpa using this
theorem rsum_mem : ∀ {l : List MRow} {r : MRow}, r ∈ l → r.pt.l.length ≤ rsum l
  | s :: l, r, h => by
    rcases List.mem_cons.1 h with e | h
    · subst e; rw [rsum]; omega
    · have := rsum_mem h; rw [rsum]; omega
theorem szB_of {b : BlkV} (z : MzB b) (h : checkB b = 0) (hw : wgt b ≤ 1000000) : SzB b := by
  have h1 := wsum_ge (checkB_chk h)
  unfold wgt at hw
  exact ⟨z.nr, z.nd, fun r hr => ⟨(z.r r hr).1, by have := rsum_mem hr; omega, (z.r r hr).2.2⟩, z.d⟩
theorem allA_base {α : Type} {f : α → HP} {B : World} : ∀ {l : List α}, (∀ x ∈ l, ∀ {L : List HP} {w : World}, St B L w → St B (f x :: L) w) → ∀ {L : List HP} {w : World}, St B L w → St B (allA f l :: L) w
  | [], _, _, _, h => h.addPure trivial
  | x :: l, hf, L, w, h => St.join (hf x (by simp) (allA_base (fun y hy => hf y (by simp [hy])) h))
end Go.Proofs.YtidoidoelgfnaaaGreatDoor.SL
