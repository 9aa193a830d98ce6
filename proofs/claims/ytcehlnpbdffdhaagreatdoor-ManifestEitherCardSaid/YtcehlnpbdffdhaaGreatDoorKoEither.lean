/- The arguments' types of a law, opened. -/
import Derived.Test.YtcehlnpbdffdhaaGreatDoorPb8
import Derived.Test.YtcehlnpbdffdhaaGreatDoorXr
namespace Go.Proofs.YtcehlnpbdffdhaaGreatDoor.SL
set_option maxRecDepth 100000
set_option linter.unusedVariables false
structure ManA where
  e : Int
  b : Int
  p : Int
  k : Int
  c : Int
  bl : SlV (List UInt8)
def mac (x : ManA) : List Value := [.int .i64 x.e, .int .i64 x.b, .int .i64 x.p, .int .i64 x.k, .int .i64 x.c, .slice x.bl.a x.bl.l.length x.bl.cap]
def ManA.man (x : ManA) : Man := ⟨x.e, x.b, x.p, x.k, x.c, x.bl.l⟩
theorem flatMap_str (l : List (List UInt8)) : l.flatMap (fun x : List UInt8 => [str x]) = l.map str := by
  induction l with
  | nil => rfl
  | cons x l ih => rw [List.flatMap_cons, ih]; rfl

theorem opens24 {H : Type} {ec : TypeId × Value → H} {W : World} {base : Nat} {spare : Nat → Bool} {held : Bool} : Opens ec Tryz.prog W base spare held 24 mac (fun x : ManA => (-9223372036854775808 ≤ x.e ∧ x.e ≤ 9223372036854775807) ∧ (-9223372036854775808 ≤ x.b ∧ x.b ≤ 9223372036854775807) ∧ (-9223372036854775808 ≤ x.p ∧ x.p ≤ 9223372036854775807) ∧ (-9223372036854775808 ≤ x.k ∧ x.k ≤ 9223372036854775807) ∧ (-9223372036854775808 ≤ x.c ∧ x.c ≤ 9223372036854775807) ∧ (Rd W x.bl.a x.bl.l.length 1 (x.bl.l.flatMap (fun x : List UInt8 => [str x])) ∧ x.bl.l.length * Tryz.prog.bytesOf 9 ≤ reachBytes ∧ ∀ xx ∈ x.bl.l, xx.length ≤ reachBytes)) := fun n cs y h hw => by
  have hl := Opens.cells Tryz.underlying24 h
  rw [show Tryz.prog.cellsOf 24 = 6 by kernel_rfl] at hl
  obtain ⟨c0, c1, c2, c3, c4, c5, rfl⟩ : ∃ c0 c1 c2 c3 c4 c5, cs = [c0, c1, c2, c3, c4, c5] := by
    match cs, hl with
    | [c0, c1, c2, c3, c4, c5], _ => exact ⟨c0, c1, c2, c3, c4, c5, rfl⟩
  obtain ⟨x0, e0, g0⟩ := Opens.field Tryz.underlying24 h hw 0 0 1 _ rfl rfl (show Tryz.prog.cellsOf 3 = 1 by kernel_rfl) (Opens.i64 Tryz.underlying3)
  replace e0 : [c0] = (fun x : Int => [.int .i64 x]) x0 := e0
  obtain ⟨x1, e1, g1⟩ := Opens.field Tryz.underlying24 h hw 1 1 1 _ rfl rfl (show Tryz.prog.cellsOf 3 = 1 by kernel_rfl) (Opens.i64 Tryz.underlying3)
  replace e1 : [c1] = (fun x : Int => [.int .i64 x]) x1 := e1
  obtain ⟨x2, e2, g2⟩ := Opens.field Tryz.underlying24 h hw 2 2 1 _ rfl rfl (show Tryz.prog.cellsOf 3 = 1 by kernel_rfl) (Opens.i64 Tryz.underlying3)
  replace e2 : [c2] = (fun x : Int => [.int .i64 x]) x2 := e2
  obtain ⟨x3, e3, g3⟩ := Opens.field Tryz.underlying24 h hw 3 3 1 _ rfl rfl (show Tryz.prog.cellsOf 2 = 1 by kernel_rfl) (Opens.i64 Tryz.underlying2)
  replace e3 : [c3] = (fun x : Int => [.int .i64 x]) x3 := e3
  obtain ⟨x4, e4, g4⟩ := Opens.field Tryz.underlying24 h hw 4 4 1 _ rfl rfl (show Tryz.prog.cellsOf 3 = 1 by kernel_rfl) (Opens.i64 Tryz.underlying3)
  replace e4 : [c4] = (fun x : Int => [.int .i64 x]) x4 := e4
  obtain ⟨x5, e5, g5⟩ := Opens.field Tryz.underlying24 h hw 5 5 1 _ rfl rfl (show Tryz.prog.cellsOf 22 = 1 by kernel_rfl) (Opens.slice Tryz.underlying22 (show Tryz.prog.cellsOf 9 = 1 by kernel_rfl) (by decide) (fun _ => rfl) (Opens.string Tryz.underlying9))
  replace e5 : [c5] = SlV.enc x5 := e5
  refine ⟨⟨x0, x1, x2, x3, x4, x5⟩, ?_, g0, g1, g2, g3, g4, g5⟩
  show [c0] ++ ([c1] ++ ([c2] ++ ([c3] ++ ([c4] ++ ([c5]))))) = _
  rw [e0, e1, e2, e3, e4, e5]; rfl
theorem opensP37 {H : Type} {ec : TypeId × Value → H} {W : World} {base : Nat} {spare : Nat → Bool} {held : Bool} : Opens ec Tryz.prog W base spare held 37 SlV.enc (fun x : SlV (Int) => Rd W x.a x.l.length 1 (x.l.flatMap (fun x : Int => [.int .i64 x])) ∧ x.l.length * Tryz.prog.bytesOf 3 ≤ reachBytes ∧ ∀ xx ∈ x.l, -9223372036854775808 ≤ xx ∧ xx ≤ 9223372036854775807) := (Opens.slice Tryz.underlying37 (show Tryz.prog.cellsOf 3 = 1 by kernel_rfl) (by decide) (fun _ => rfl) (Opens.i64 Tryz.underlying3))
theorem man_of {W : World} {x : ManA} (h : (-9223372036854775808 ≤ x.e ∧ x.e ≤ 9223372036854775807) ∧ (-9223372036854775808 ≤ x.b ∧ x.b ≤ 9223372036854775807) ∧ (-9223372036854775808 ≤ x.p ∧ x.p ≤ 9223372036854775807) ∧ (-9223372036854775808 ≤ x.k ∧ x.k ≤ 9223372036854775807) ∧ (-9223372036854775808 ≤ x.c ∧ x.c ≤ 9223372036854775807) ∧ (Rd W x.bl.a x.bl.l.length 1 (x.bl.l.flatMap (fun x : List UInt8 => [str x])) ∧ x.bl.l.length * Tryz.prog.bytesOf 9 ≤ reachBytes ∧ ∀ xx ∈ x.bl.l, xx.length ≤ reachBytes)) : Rd W x.bl.a x.man.bl.length 1 (x.man.bl.map str) ∧ RngM x.man := by
  obtain ⟨h1, h2, h3, h4, h5, h6, h7, h8⟩ := h
  have hby : Tryz.prog.bytesOf 9 = 16 := by kernel_rfl
  have e : reachBytes = 140737488351232 := by decide
  rw [hby] at h7
  refine ⟨?_, ⟨h1, h2, h3, h4, h5, by show x.bl.l.length ≤ _; omega, fun t ht => Nat.le_trans (h8 t ht) (by decide)⟩⟩
  rw [← flatMap_str]; exact h6
theorem either_row {B w : World} {L : List HP} {ka : Option Addr} {kc : Nat} {x y : ManA} {zs : List Int} (h : (-9223372036854775808 ≤ x.e ∧ x.e ≤ 9223372036854775807) ∧ (-9223372036854775808 ≤ x.b ∧ x.b ≤ 9223372036854775807) ∧ (-9223372036854775808 ≤ x.p ∧ x.p ≤ 9223372036854775807) ∧ (-9223372036854775808 ≤ x.k ∧ x.k ≤ 9223372036854775807) ∧ (-9223372036854775808 ≤ x.c ∧ x.c ≤ 9223372036854775807) ∧ (Rd B x.bl.a x.bl.l.length 1 (x.bl.l.flatMap (fun x : List UInt8 => [str x])) ∧ x.bl.l.length * Tryz.prog.bytesOf 9 ≤ reachBytes ∧ ∀ xx ∈ x.bl.l, xx.length ≤ reachBytes)) (h2 : (-9223372036854775808 ≤ y.e ∧ y.e ≤ 9223372036854775807) ∧ (-9223372036854775808 ≤ y.b ∧ y.b ≤ 9223372036854775807) ∧ (-9223372036854775808 ≤ y.p ∧ y.p ≤ 9223372036854775807) ∧ (-9223372036854775808 ≤ y.k ∧ y.k ≤ 9223372036854775807) ∧ (-9223372036854775808 ≤ y.c ∧ y.c ≤ 9223372036854775807) ∧ (Rd B y.bl.a y.bl.l.length 1 (y.bl.l.flatMap (fun x : List UInt8 => [str x])) ∧ y.bl.l.length * Tryz.prog.bytesOf 9 ≤ reachBytes ∧ ∀ yx ∈ y.bl.l, yx.length ≤ reachBytes)) (fz : Int) (hK : Rd B ka zs.length 1 (ri zs)) (hS : St B L w) :
    Does Tryz.prog 4 [.agg (mac x).toArray, .agg (mac y).toArray, .int .i64 fz, .slice ka zs.length kc] w (fun v w1 => v = .bool true ∧ St B L w1) :=
  manifestEither_core (mx := x.man) (my := y.man) (xc := x.bl.cap) (yc := y.bl.cap) fz (man_of h).1 (man_of h).2 (man_of h2).1 (man_of h2).2 hK hS
end Go.Proofs.YtcehlnpbdffdhaaGreatDoor.SL
