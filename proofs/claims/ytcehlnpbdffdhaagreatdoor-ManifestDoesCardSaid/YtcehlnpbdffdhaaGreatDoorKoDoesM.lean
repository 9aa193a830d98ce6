/- The arguments' types of a law, opened. -/
import Derived.Test.YtcehlnpbdffdhaaGreatDoorPb10
import Derived.Test.YtcehlnpbdffdhaaGreatDoorXr
namespace Go.Proofs.YtcehlnpbdffdhaaGreatDoor.SL
set_option maxRecDepth 100000
set_option linter.unusedVariables false
structure ManA where
  e : Int
  b : Int
  p : Int
  k : Int
  c : Int
  bl : SlV (List UInt8)
def mac (x : ManA) : List Value := [.int .i64 x.e, .int .i64 x.b, .int .i64 x.p, .int .i64 x.k, .int .i64 x.c, .slice x.bl.a x.bl.l.length x.bl.cap]
def ManA.man (x : ManA) : Man := ⟨x.e, x.b, x.p, x.k, x.c, x.bl.l⟩
theorem flatMap_str (l : List (List UInt8)) : l.flatMap (fun x : List UInt8 => [str x]) = l.map str := by
  induction l with
  | nil => rfl
  | cons x l ih => rw [List.flatMap_cons, ih]; rfl
structure MOpA where
  m : ManA
  crash : Bool
  keep : SlV Int
  fuse : Int
  name : List UInt8
  s : List UInt8
def moA (x : MOpA) : List Value := mac x.m ++ ([.bool x.crash] ++ ([.slice x.keep.a x.keep.l.length x.keep.cap] ++ ([.int .i64 x.fuse] ++ ([str x.name] ++ [str x.s]))))
def moOf (x : MOpA) : MO := ⟨x.m.man, x.m.bl.a, x.m.bl.cap, x.crash, x.keep, x.fuse, x.name, x.s⟩
theorem moA_eq : ∀ l : List MOpA, (l.map moOf).flatMap moc = l.flatMap moA
  | [] => rfl
  | x :: l => by rw [List.map_cons, List.flatMap_cons, List.flatMap_cons, moA_eq l]; rfl

theorem opens24 {H : Type} {ec : TypeId × Value → H} {W : World} {base : Nat} {spare : Nat → Bool} {held : Bool} : Opens ec Tryz.prog W base spare held 24 mac (fun x : ManA => (-9223372036854775808 ≤ x.e ∧ x.e ≤ 9223372036854775807) ∧ (-9223372036854775808 ≤ x.b ∧ x.b ≤ 9223372036854775807) ∧ (-9223372036854775808 ≤ x.p ∧ x.p ≤ 9223372036854775807) ∧ (-9223372036854775808 ≤ x.k ∧ x.k ≤ 9223372036854775807) ∧ (-9223372036854775808 ≤ x.c ∧ x.c ≤ 9223372036854775807) ∧ (Rd W x.bl.a x.bl.l.length 1 (x.bl.l.flatMap (fun x : List UInt8 => [str x])) ∧ x.bl.l.length * Tryz.prog.bytesOf 9 ≤ reachBytes ∧ ∀ xx ∈ x.bl.l, xx.length ≤ reachBytes)) := fun n cs y h hw => by
  have hl := Opens.cells Tryz.underlying24 h
  rw [show Tryz.prog.cellsOf 24 = 6 by kernel_rfl] at hl
  obtain ⟨c0, c1, c2, c3, c4, c5, rfl⟩ : ∃ c0 c1 c2 c3 c4 c5, cs = [c0, c1, c2, c3, c4, c5] := by
    match cs, hl with
    | [c0, c1, c2, c3, c4, c5], _ => exact ⟨c0, c1, c2, c3, c4, c5, rfl⟩
  obtain ⟨x0, e0, g0⟩ := Opens.field Tryz.underlying24 h hw 0 0 1 _ rfl rfl (show Tryz.prog.cellsOf 3 = 1 by kernel_rfl) (Opens.i64 Tryz.underlying3)
  replace e0 : [c0] = (fun x : Int => [.int .i64 x]) x0 := e0
  obtain ⟨x1, e1, g1⟩ := Opens.field Tryz.underlying24 h hw 1 1 1 _ rfl rfl (show Tryz.prog.cellsOf 3 = 1 by kernel_rfl) (Opens.i64 Tryz.underlying3)
  replace e1 : [c1] = (fun x : Int => [.int .i64 x]) x1 := e1
  obtain ⟨x2, e2, g2⟩ := Opens.field Tryz.underlying24 h hw 2 2 1 _ rfl rfl (show Tryz.prog.cellsOf 3 = 1 by kernel_rfl) (Opens.i64 Tryz.underlying3)
  replace e2 : [c2] = (fun x : Int => [.int .i64 x]) x2 := e2
  obtain ⟨x3, e3, g3⟩ := Opens.field Tryz.underlying24 h hw 3 3 1 _ rfl rfl (show Tryz.prog.cellsOf 2 = 1 by kernel_rfl) (Opens.i64 Tryz.underlying2)
  replace e3 : [c3] = (fun x : Int => [.int .i64 x]) x3 := e3
  obtain ⟨x4, e4, g4⟩ := Opens.field Tryz.underlying24 h hw 4 4 1 _ rfl rfl (show Tryz.prog.cellsOf 3 = 1 by kernel_rfl) (Opens.i64 Tryz.underlying3)
  replace e4 : [c4] = (fun x : Int => [.int .i64 x]) x4 := e4
  obtain ⟨x5, e5, g5⟩ := Opens.field Tryz.underlying24 h hw 5 5 1 _ rfl rfl (show Tryz.prog.cellsOf 22 = 1 by kernel_rfl) (Opens.slice Tryz.underlying22 (show Tryz.prog.cellsOf 9 = 1 by kernel_rfl) (by decide) (fun _ => rfl) (Opens.string Tryz.underlying9))
  replace e5 : [c5] = SlV.enc x5 := e5
  refine ⟨⟨x0, x1, x2, x3, x4, x5⟩, ?_, g0, g1, g2, g3, g4, g5⟩
  show [c0] ++ ([c1] ++ ([c2] ++ ([c3] ++ ([c4] ++ ([c5]))))) = _
  rw [e0, e1, e2, e3, e4, e5]; rfl
theorem opens57 {H : Type} {ec : TypeId × Value → H} {W : World} {base : Nat} {spare : Nat → Bool} {held : Bool} : Opens ec Tryz.prog W base spare held 57 moA (fun x : MOpA => ((-9223372036854775808 ≤ x.m.e ∧ x.m.e ≤ 9223372036854775807) ∧ (-9223372036854775808 ≤ x.m.b ∧ x.m.b ≤ 9223372036854775807) ∧ (-9223372036854775808 ≤ x.m.p ∧ x.m.p ≤ 9223372036854775807) ∧ (-9223372036854775808 ≤ x.m.k ∧ x.m.k ≤ 9223372036854775807) ∧ (-9223372036854775808 ≤ x.m.c ∧ x.m.c ≤ 9223372036854775807) ∧ (Rd W x.m.bl.a x.m.bl.l.length 1 (x.m.bl.l.flatMap (fun x : List UInt8 => [str x])) ∧ x.m.bl.l.length * Tryz.prog.bytesOf 9 ≤ reachBytes ∧ ∀ xx ∈ x.m.bl.l, xx.length ≤ reachBytes)) ∧ (True) ∧ (Rd W x.keep.a x.keep.l.length 1 (x.keep.l.flatMap (fun x : Int => [.int .i64 x])) ∧ x.keep.l.length * Tryz.prog.bytesOf 3 ≤ reachBytes ∧ ∀ xx ∈ x.keep.l, -9223372036854775808 ≤ xx ∧ xx ≤ 9223372036854775807) ∧ (-9223372036854775808 ≤ x.fuse ∧ x.fuse ≤ 9223372036854775807) ∧ (x.name.length ≤ reachBytes) ∧ (x.s.length ≤ reachBytes)) := fun n cs y h hw => by
  have hl := Opens.cells Tryz.underlying57 h
  rw [show Tryz.prog.cellsOf 57 = 11 by kernel_rfl] at hl
  obtain ⟨c0, c1, c2, c3, c4, c5, c6, c7, c8, c9, c10, rfl⟩ : ∃ c0 c1 c2 c3 c4 c5 c6 c7 c8 c9 c10, cs = [c0, c1, c2, c3, c4, c5, c6, c7, c8, c9, c10] := by
    match cs, hl with
    | [c0, c1, c2, c3, c4, c5, c6, c7, c8, c9, c10], _ => exact ⟨c0, c1, c2, c3, c4, c5, c6, c7, c8, c9, c10, rfl⟩
  obtain ⟨x0, e0, g0⟩ := Opens.field Tryz.underlying57 h hw 0 0 6 _ rfl rfl (show Tryz.prog.cellsOf 24 = 6 by kernel_rfl) opens24
  replace e0 : [c0, c1, c2, c3, c4, c5] = mac x0 := e0
  obtain ⟨x1, e1, g1⟩ := Opens.field Tryz.underlying57 h hw 1 6 1 _ rfl rfl (show Tryz.prog.cellsOf 4 = 1 by kernel_rfl) (Opens.bool Tryz.underlying4)
  replace e1 : [c6] = (fun x : Bool => [.bool x]) x1 := e1
  obtain ⟨x2, e2, g2⟩ := Opens.field Tryz.underlying57 h hw 2 7 1 _ rfl rfl (show Tryz.prog.cellsOf 37 = 1 by kernel_rfl) (Opens.slice Tryz.underlying37 (show Tryz.prog.cellsOf 3 = 1 by kernel_rfl) (by decide) (fun _ => rfl) (Opens.i64 Tryz.underlying3))
  replace e2 : [c7] = SlV.enc x2 := e2
  obtain ⟨x3, e3, g3⟩ := Opens.field Tryz.underlying57 h hw 3 8 1 _ rfl rfl (show Tryz.prog.cellsOf 3 = 1 by kernel_rfl) (Opens.i64 Tryz.underlying3)
  replace e3 : [c8] = (fun x : Int => [.int .i64 x]) x3 := e3
  obtain ⟨x4, e4, g4⟩ := Opens.field Tryz.underlying57 h hw 4 9 1 _ rfl rfl (show Tryz.prog.cellsOf 9 = 1 by kernel_rfl) (Opens.string Tryz.underlying9)
  replace e4 : [c9] = (fun x : List UInt8 => [str x]) x4 := e4
  obtain ⟨x5, e5, g5⟩ := Opens.field Tryz.underlying57 h hw 5 10 1 _ rfl rfl (show Tryz.prog.cellsOf 9 = 1 by kernel_rfl) (Opens.string Tryz.underlying9)
  replace e5 : [c10] = (fun x : List UInt8 => [str x]) x5 := e5
  refine ⟨⟨x0, x1, x2, x3, x4, x5⟩, ?_, g0, g1, g2, g3, g4, g5⟩
  show [c0, c1, c2, c3, c4, c5] ++ ([c6] ++ ([c7] ++ ([c8] ++ ([c9] ++ ([c10]))))) = _
  rw [e0, e1, e2, e3, e4, e5]; rfl
theorem opensP53 {H : Type} {ec : TypeId × Value → H} {W : World} {base : Nat} {spare : Nat → Bool} {held : Bool} : Opens ec Tryz.prog W base spare held 53 SlV.enc (fun x : SlV (MOpA) => Rd W x.a x.l.length 11 (x.l.flatMap moA) ∧ x.l.length * Tryz.prog.bytesOf 57 ≤ reachBytes ∧ ∀ xx ∈ x.l, ((-9223372036854775808 ≤ xx.m.e ∧ xx.m.e ≤ 9223372036854775807) ∧ (-9223372036854775808 ≤ xx.m.b ∧ xx.m.b ≤ 9223372036854775807) ∧ (-9223372036854775808 ≤ xx.m.p ∧ xx.m.p ≤ 9223372036854775807) ∧ (-9223372036854775808 ≤ xx.m.k ∧ xx.m.k ≤ 9223372036854775807) ∧ (-9223372036854775808 ≤ xx.m.c ∧ xx.m.c ≤ 9223372036854775807) ∧ (Rd W xx.m.bl.a xx.m.bl.l.length 1 (xx.m.bl.l.flatMap (fun x : List UInt8 => [str x])) ∧ xx.m.bl.l.length * Tryz.prog.bytesOf 9 ≤ reachBytes ∧ ∀ xxx ∈ xx.m.bl.l, xxx.length ≤ reachBytes)) ∧ (True) ∧ (Rd W xx.keep.a xx.keep.l.length 1 (xx.keep.l.flatMap (fun x : Int => [.int .i64 x])) ∧ xx.keep.l.length * Tryz.prog.bytesOf 3 ≤ reachBytes ∧ ∀ xxx ∈ xx.keep.l, -9223372036854775808 ≤ xxx ∧ xxx ≤ 9223372036854775807) ∧ (-9223372036854775808 ≤ xx.fuse ∧ xx.fuse ≤ 9223372036854775807) ∧ (xx.name.length ≤ reachBytes) ∧ (xx.s.length ≤ reachBytes)) := (Opens.slice Tryz.underlying53 (show Tryz.prog.cellsOf 57 = 11 by kernel_rfl) (by decide) (fun _ => rfl) opens57)
theorem man_of {W : World} {x : ManA} (h : (-9223372036854775808 ≤ x.e ∧ x.e ≤ 9223372036854775807) ∧ (-9223372036854775808 ≤ x.b ∧ x.b ≤ 9223372036854775807) ∧ (-9223372036854775808 ≤ x.p ∧ x.p ≤ 9223372036854775807) ∧ (-9223372036854775808 ≤ x.k ∧ x.k ≤ 9223372036854775807) ∧ (-9223372036854775808 ≤ x.c ∧ x.c ≤ 9223372036854775807) ∧ (Rd W x.bl.a x.bl.l.length 1 (x.bl.l.flatMap (fun x : List UInt8 => [str x])) ∧ x.bl.l.length * Tryz.prog.bytesOf 9 ≤ reachBytes ∧ ∀ xx ∈ x.bl.l, xx.length ≤ reachBytes)) : Rd W x.bl.a x.man.bl.length 1 (x.man.bl.map str) ∧ RngM x.man := by
  obtain ⟨h1, h2, h3, h4, h5, h6, h7, h8⟩ := h
  have hby : Tryz.prog.bytesOf 9 = 16 := by kernel_rfl
  have e : reachBytes = 140737488351232 := by decide
  rw [hby] at h7
  refine ⟨?_, ⟨h1, h2, h3, h4, h5, by show x.bl.l.length ≤ _; omega, fun t ht => Nat.le_trans (h8 t ht) (by decide)⟩⟩
  rw [← flatMap_str]; exact h6
theorem mo_of {W : World} {x : MOpA} (h : ((-9223372036854775808 ≤ x.m.e ∧ x.m.e ≤ 9223372036854775807) ∧ (-9223372036854775808 ≤ x.m.b ∧ x.m.b ≤ 9223372036854775807) ∧ (-9223372036854775808 ≤ x.m.p ∧ x.m.p ≤ 9223372036854775807) ∧ (-9223372036854775808 ≤ x.m.k ∧ x.m.k ≤ 9223372036854775807) ∧ (-9223372036854775808 ≤ x.m.c ∧ x.m.c ≤ 9223372036854775807) ∧ (Rd W x.m.bl.a x.m.bl.l.length 1 (x.m.bl.l.flatMap (fun x : List UInt8 => [str x])) ∧ x.m.bl.l.length * Tryz.prog.bytesOf 9 ≤ reachBytes ∧ ∀ xx ∈ x.m.bl.l, xx.length ≤ reachBytes)) ∧ (True) ∧ (Rd W x.keep.a x.keep.l.length 1 (x.keep.l.flatMap (fun x : Int => [.int .i64 x])) ∧ x.keep.l.length * Tryz.prog.bytesOf 3 ≤ reachBytes ∧ ∀ xx ∈ x.keep.l, -9223372036854775808 ≤ xx ∧ xx ≤ 9223372036854775807) ∧ (-9223372036854775808 ≤ x.fuse ∧ x.fuse ≤ 9223372036854775807) ∧ (x.name.length ≤ reachBytes) ∧ (x.s.length ≤ reachBytes)) : MOk W (moOf x) := by
  obtain ⟨h1, _, ⟨h2, h3, _⟩, h4, h5, h6⟩ := h
  have hby : Tryz.prog.bytesOf 3 = 8 := by kernel_rfl
  have e : reachBytes = 140737488351232 := by decide
  rw [hby] at h3
  have hm := man_of h1
  exact ⟨hm.1, hm.2, h2.map1, by show x.keep.l.length ≤ _; omega, by show x.name.length ≤ _; omega, by show x.s.length ≤ _; omega, h4⟩
theorem doesm_row {B w : World} {L : List HP} {room : Int} {aa : Option Addr} {ac : Nat} {l : List MOpA} (h0 : (Lit.int .i64 room).wf = true) (hA : Rd B aa l.length 11 (l.flatMap moA)) (hall : ∀ x ∈ l, ((-9223372036854775808 ≤ x.m.e ∧ x.m.e ≤ 9223372036854775807) ∧ (-9223372036854775808 ≤ x.m.b ∧ x.m.b ≤ 9223372036854775807) ∧ (-9223372036854775808 ≤ x.m.p ∧ x.m.p ≤ 9223372036854775807) ∧ (-9223372036854775808 ≤ x.m.k ∧ x.m.k ≤ 9223372036854775807) ∧ (-9223372036854775808 ≤ x.m.c ∧ x.m.c ≤ 9223372036854775807) ∧ (Rd B x.m.bl.a x.m.bl.l.length 1 (x.m.bl.l.flatMap (fun x : List UInt8 => [str x])) ∧ x.m.bl.l.length * Tryz.prog.bytesOf 9 ≤ reachBytes ∧ ∀ xx ∈ x.m.bl.l, xx.length ≤ reachBytes)) ∧ (True) ∧ (Rd B x.keep.a x.keep.l.length 1 (x.keep.l.flatMap (fun x : Int => [.int .i64 x])) ∧ x.keep.l.length * Tryz.prog.bytesOf 3 ≤ reachBytes ∧ ∀ xx ∈ x.keep.l, -9223372036854775808 ≤ xx ∧ xx ≤ 9223372036854775807) ∧ (-9223372036854775808 ≤ x.fuse ∧ x.fuse ≤ 9223372036854775807) ∧ (x.name.length ≤ reachBytes) ∧ (x.s.length ≤ reachBytes)) (hS : St B L w) :
    Does Tryz.prog 7 [.int .i64 room, .slice aa l.length ac] w (fun v w1 => v = .bool true ∧ St B L w1) := by
  have h := manifestDoes_core (l := l.map moOf) (aa := aa) (ac := ac) (wf_i64 h0) (by rw [List.length_map, moA_eq]; exact hA) (fun q hq => by obtain ⟨x, hx, rfl⟩ := List.mem_map.1 hq; exact mo_of (hall x hx)) hS
  rw [List.length_map] at h; exact h
end Go.Proofs.YtcehlnpbdffdhaaGreatDoor.SL
