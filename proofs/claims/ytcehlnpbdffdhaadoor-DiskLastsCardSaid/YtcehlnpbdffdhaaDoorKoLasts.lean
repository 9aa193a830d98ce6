/- The arguments' types of a law, opened. -/
import Derived.Test.YtcehlnpbdffdhaaDoorRe10
import Derived.Test.YtcehlnpbdffdhaaDoorXr
namespace Go.Proofs.YtcehlnpbdffdhaaDoor.SL
set_option maxRecDepth 100000
set_option linter.unusedVariables false
theorem opens63 {H : Type} {ec : TypeId × Value → H} {W : World} {base : Nat} {spare : Nat → Bool} {held : Bool} : Opens ec Tryd.prog W base spare held 63 aac (fun x : ActA => (-9223372036854775808 ≤ x.kind ∧ x.kind ≤ 9223372036854775807) ∧ (x.name.length ≤ reachBytes) ∧ (x.to_.length ≤ reachBytes) ∧ (x.text.length ≤ reachBytes) ∧ (-9223372036854775808 ≤ x.fuse ∧ x.fuse ≤ 9223372036854775807) ∧ (Rd W x.keep.a x.keep.l.length 1 (x.keep.l.flatMap (fun x : Int => [.int .i64 x])) ∧ x.keep.l.length * Tryd.prog.bytesOf 3 ≤ reachBytes ∧ ∀ xx ∈ x.keep.l, -9223372036854775808 ≤ xx ∧ xx ≤ 9223372036854775807)) := fun n cs y h hw => by
  have hl := Opens.cells Tryd.underlying63 h
  rw [show Tryd.prog.cellsOf 63 = 6 by kernel_rfl] at hl
  obtain ⟨c0, c1, c2, c3, c4, c5, rfl⟩ : ∃ c0 c1 c2 c3 c4 c5, cs = [c0, c1, c2, c3, c4, c5] := by
    match cs, hl with
    | [c0, c1, c2, c3, c4, c5], _ => exact ⟨c0, c1, c2, c3, c4, c5, rfl⟩
  obtain ⟨x0, e0, g0⟩ := Opens.field Tryd.underlying63 h hw 0 0 1 _ rfl rfl (show Tryd.prog.cellsOf 3 = 1 by kernel_rfl) (Opens.i64 Tryd.underlying3)
  replace e0 : [c0] = (fun x : Int => [.int .i64 x]) x0 := e0
  obtain ⟨x1, e1, g1⟩ := Opens.field Tryd.underlying63 h hw 1 1 1 _ rfl rfl (show Tryd.prog.cellsOf 9 = 1 by kernel_rfl) (Opens.string Tryd.underlying9)
  replace e1 : [c1] = (fun x : List UInt8 => [str x]) x1 := e1
  obtain ⟨x2, e2, g2⟩ := Opens.field Tryd.underlying63 h hw 2 2 1 _ rfl rfl (show Tryd.prog.cellsOf 9 = 1 by kernel_rfl) (Opens.string Tryd.underlying9)
  replace e2 : [c2] = (fun x : List UInt8 => [str x]) x2 := e2
  obtain ⟨x3, e3, g3⟩ := Opens.field Tryd.underlying63 h hw 3 3 1 _ rfl rfl (show Tryd.prog.cellsOf 9 = 1 by kernel_rfl) (Opens.string Tryd.underlying9)
  replace e3 : [c3] = (fun x : List UInt8 => [str x]) x3 := e3
  obtain ⟨x4, e4, g4⟩ := Opens.field Tryd.underlying63 h hw 4 4 1 _ rfl rfl (show Tryd.prog.cellsOf 3 = 1 by kernel_rfl) (Opens.i64 Tryd.underlying3)
  replace e4 : [c4] = (fun x : Int => [.int .i64 x]) x4 := e4
  obtain ⟨x5, e5, g5⟩ := Opens.field Tryd.underlying63 h hw 5 5 1 _ rfl rfl (show Tryd.prog.cellsOf 50 = 1 by kernel_rfl) (Opens.slice Tryd.underlying50 (show Tryd.prog.cellsOf 3 = 1 by kernel_rfl) (by decide) (fun _ => rfl) (Opens.i64 Tryd.underlying3))
  replace e5 : [c5] = SlV.enc x5 := e5
  refine ⟨⟨x0, x1, x2, x3, x4, x5⟩, ?_, g0, g1, g2, g3, g4, g5⟩
  show [c0] ++ ([c1] ++ ([c2] ++ ([c3] ++ ([c4] ++ ([c5]))))) = _
  rw [e0, e1, e2, e3, e4, e5]; rfl
theorem opensP59 {H : Type} {ec : TypeId × Value → H} {W : World} {base : Nat} {spare : Nat → Bool} {held : Bool} : Opens ec Tryd.prog W base spare held 59 SlV.enc (fun x : SlV (ActA) => Rd W x.a x.l.length 6 (x.l.flatMap aac) ∧ x.l.length * Tryd.prog.bytesOf 63 ≤ reachBytes ∧ ∀ xx ∈ x.l, (-9223372036854775808 ≤ xx.kind ∧ xx.kind ≤ 9223372036854775807) ∧ (xx.name.length ≤ reachBytes) ∧ (xx.to_.length ≤ reachBytes) ∧ (xx.text.length ≤ reachBytes) ∧ (-9223372036854775808 ≤ xx.fuse ∧ xx.fuse ≤ 9223372036854775807) ∧ (Rd W xx.keep.a xx.keep.l.length 1 (xx.keep.l.flatMap (fun x : Int => [.int .i64 x])) ∧ xx.keep.l.length * Tryd.prog.bytesOf 3 ≤ reachBytes ∧ ∀ xxx ∈ xx.keep.l, -9223372036854775808 ≤ xxx ∧ xxx ≤ 9223372036854775807)) := (Opens.slice Tryd.underlying59 (show Tryd.prog.cellsOf 63 = 6 by kernel_rfl) (by decide) (fun _ => rfl) opens63)
theorem opensP50 {H : Type} {ec : TypeId × Value → H} {W : World} {base : Nat} {spare : Nat → Bool} {held : Bool} : Opens ec Tryd.prog W base spare held 50 SlV.enc (fun x : SlV (Int) => Rd W x.a x.l.length 1 (x.l.flatMap (fun x : Int => [.int .i64 x])) ∧ x.l.length * Tryd.prog.bytesOf 3 ≤ reachBytes ∧ ∀ xx ∈ x.l, -9223372036854775808 ≤ xx ∧ xx ≤ 9223372036854775807) := (Opens.slice Tryd.underlying50 (show Tryd.prog.cellsOf 3 = 1 by kernel_rfl) (by decide) (fun _ => rfl) (Opens.i64 Tryd.underlying3))
theorem act_of {W : World} {x : ActA} (h : (-9223372036854775808 ≤ x.kind ∧ x.kind ≤ 9223372036854775807) ∧ (x.name.length ≤ reachBytes) ∧ (x.to_.length ≤ reachBytes) ∧ (x.text.length ≤ reachBytes) ∧ (-9223372036854775808 ≤ x.fuse ∧ x.fuse ≤ 9223372036854775807) ∧ (Rd W x.keep.a x.keep.l.length 1 (x.keep.l.flatMap (fun x : Int => [.int .i64 x])) ∧ x.keep.l.length * Tryd.prog.bytesOf 3 ≤ reachBytes ∧ ∀ xx ∈ x.keep.l, -9223372036854775808 ≤ xx ∧ xx ≤ 9223372036854775807)) : ActOk W x := by
  obtain ⟨h1, h2, h3, h4, h5, h6, h7, h8⟩ := h
  have hby : Tryd.prog.bytesOf 3 = 8 := by kernel_rfl
  have e : reachBytes = 140737488351232 := by decide
  rw [hby] at h7
  exact ⟨h6.map1, by omega, by omega, by omega, by omega, h5⟩
theorem lasts_row {B w : World} {L : List HP} {aa ka : Option Addr} {ac kc : Nat} {l : List ActA} {zs : List Int} (s t : ByteArray) (hA : Rd B aa l.length 6 (l.flatMap aac)) (hall : ∀ x ∈ l, (-9223372036854775808 ≤ x.kind ∧ x.kind ≤ 9223372036854775807) ∧ (x.name.length ≤ reachBytes) ∧ (x.to_.length ≤ reachBytes) ∧ (x.text.length ≤ reachBytes) ∧ (-9223372036854775808 ≤ x.fuse ∧ x.fuse ≤ 9223372036854775807) ∧ (Rd B x.keep.a x.keep.l.length 1 (x.keep.l.flatMap (fun x : Int => [.int .i64 x])) ∧ x.keep.l.length * Tryd.prog.bytesOf 3 ≤ reachBytes ∧ ∀ xx ∈ x.keep.l, -9223372036854775808 ≤ xx ∧ xx ≤ 9223372036854775807)) (hK : Rd B ka zs.length 1 (ri zs)) (hS : St B L w) :
    Does Tryd.prog 8 [.slice aa l.length ac, .string s, .string t, .slice ka zs.length kc] w (fun v w1 => v = .bool true ∧ St B L w1) :=
  diskLasts_core s.data.toList t.data.toList hA (fun x hx => act_of (hall x hx)) hK hS
end Go.Proofs.YtcehlnpbdffdhaaDoor.SL
