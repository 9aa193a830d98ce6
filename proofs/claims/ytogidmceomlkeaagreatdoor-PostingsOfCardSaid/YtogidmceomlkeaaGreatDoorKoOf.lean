/- The arguments' types of a law, opened. -/
import Derived.Test.YtogidmceomlkeaaGreatDoorKw5
import Derived.Test.YtogidmceomlkeaaGreatDoorXr
namespace Go.Proofs.YtogidmceomlkeaaGreatDoor.SL
set_option maxRecDepth 100000
set_option linter.unusedVariables false
theorem opens35 {H : Type} {ec : TypeId × Value → H} {W : World} {base : Nat} {spare : Nat → Bool} {held : Bool} : Opens ec Tryz.prog W base spare held 35 prc (fun x : Pr => (x.n.length ≤ reachBytes) ∧ (x.v.length ≤ reachBytes)) := fun n cs y h hw => by
  have hl := Opens.cells Tryz.underlying35 h
  rw [show Tryz.prog.cellsOf 35 = 2 by kernel_rfl] at hl
  obtain ⟨c0, c1, rfl⟩ : ∃ c0 c1, cs = [c0, c1] := by
    match cs, hl with
    | [c0, c1], _ => exact ⟨c0, c1, rfl⟩
  obtain ⟨x0, e0, g0⟩ := Opens.field Tryz.underlying35 h hw 0 0 1 _ rfl rfl (show Tryz.prog.cellsOf 9 = 1 by kernel_rfl) (Opens.string Tryz.underlying9)
  replace e0 : [c0] = (fun x : List UInt8 => [str x]) x0 := e0
  obtain ⟨x1, e1, g1⟩ := Opens.field Tryz.underlying35 h hw 1 1 1 _ rfl rfl (show Tryz.prog.cellsOf 9 = 1 by kernel_rfl) (Opens.string Tryz.underlying9)
  replace e1 : [c1] = (fun x : List UInt8 => [str x]) x1 := e1
  refine ⟨⟨x0, x1⟩, ?_, g0, g1⟩
  show [c0] ++ ([c1]) = _
  rw [e0, e1]; rfl
theorem opensP27 {H : Type} {ec : TypeId × Value → H} {W : World} {base : Nat} {spare : Nat → Bool} {held : Bool} : Opens ec Tryz.prog W base spare held 27 SlV.enc (fun x : SlV (SlV (Pr)) => Rd W x.a x.l.length 1 (x.l.flatMap SlV.enc) ∧ x.l.length * Tryz.prog.bytesOf 29 ≤ reachBytes ∧ ∀ xx ∈ x.l, Rd W xx.a xx.l.length 2 (xx.l.flatMap prc) ∧ xx.l.length * Tryz.prog.bytesOf 35 ≤ reachBytes ∧ ∀ xxx ∈ xx.l, (xxx.n.length ≤ reachBytes) ∧ (xxx.v.length ≤ reachBytes)) := (Opens.slice Tryz.underlying27 (show Tryz.prog.cellsOf 29 = 1 by kernel_rfl) (by decide) (fun _ => rfl) (Opens.slice Tryz.underlying29 (show Tryz.prog.cellsOf 35 = 2 by kernel_rfl) (by decide) (fun _ => rfl) opens35))
def toRow (s : SlV Pr) : RowV := ⟨s.a, s.l, s.cap⟩
theorem rdRows_of {W : World} {x : SlV (SlV Pr)} (h1 : Rd W x.a x.l.length 1 (x.l.flatMap SlV.enc)) (h2 : ∀ s ∈ x.l, Rd W s.a s.l.length 2 (s.l.flatMap prc)) : RdRows W x.a (x.l.map toRow) := by
  refine ⟨?_, fun r hr => ?_⟩
  · rw [List.length_map, List.flatMap_map]; exact h1
  · obtain ⟨s, hs, rfl⟩ := List.mem_map.1 hr
    exact h2 s hs
theorem of_core {B w : World} {L : List HP} {x : SlV (SlV Pr)} (h1 : Rd B x.a x.l.length 1 (x.l.flatMap SlV.enc)) (h2 : ∀ s ∈ x.l, Rd B s.a s.l.length 2 (s.l.flatMap prc)) (p : Pr) (h3 : p.n.length ≤ 140737488355328 ∧ p.v.length ≤ 140737488355328) (h7 : ∀ s ∈ x.l, s.l.length ≤ 4398046511104) (hS : St B L w) :
    Does Tryz.prog 5 [.slice x.a x.l.length x.cap, .agg (prc p).toArray] w (fun v w1 => v = .bool true ∧ St B L w1) := by
  have h := postingsOf_core (cap := x.cap) (rdRows_of h1 h2) p h3 (fun r hr => by obtain ⟨s, hs, rfl⟩ := List.mem_map.1 hr; exact h7 s hs) hS
  rw [List.length_map] at h
  exact h
end Go.Proofs.YtogidmceomlkeaaGreatDoor.SL
