/- The arguments' types of a law, opened. -/
import Derived.Test.YtcdbnbdeinhokaaKn6
import Derived.Test.YtcdbnbdeinhokaaXr
namespace Go.Proofs.Ytcdbnbdeinhokaa.SL
set_option maxRecDepth 100000
set_option linter.unusedVariables false
theorem opens45 {H : Type} {ec : TypeId × Value → H} {W : World} {base : Nat} {spare : Nat → Bool} {held : Bool} : Opens ec Try.prog W base spare held 45 ocell (fun x : OpV => (-9223372036854775808 ≤ x.kind ∧ x.kind ≤ 9223372036854775807) ∧ (-9223372036854775808 ≤ x.who ∧ x.who ≤ 9223372036854775807) ∧ (x.s.length ≤ reachBytes) ∧ (-9223372036854775808 ≤ x.n ∧ x.n ≤ 9223372036854775807) ∧ (-9223372036854775808 ≤ x.at_ ∧ x.at_ ≤ 9223372036854775807) ∧ (True) ∧ (-9223372036854775808 ≤ x.more ∧ x.more ≤ 9223372036854775807)) := fun n cs y h hw => by
  have hl := Opens.cells Try.underlying45 h
  rw [show Try.prog.cellsOf 45 = 7 by kernel_rfl] at hl
  obtain ⟨c0, c1, c2, c3, c4, c5, c6, rfl⟩ : ∃ c0 c1 c2 c3 c4 c5 c6, cs = [c0, c1, c2, c3, c4, c5, c6] := by
    match cs, hl with
    | [c0, c1, c2, c3, c4, c5, c6], _ => exact ⟨c0, c1, c2, c3, c4, c5, c6, rfl⟩
  obtain ⟨x0, e0, g0⟩ := Opens.field Try.underlying45 h hw 0 0 1 _ rfl rfl (show Try.prog.cellsOf 3 = 1 by kernel_rfl) (Opens.i64 Try.underlying3)
  replace e0 : [c0] = (fun x : Int => [.int .i64 x]) x0 := e0
  obtain ⟨x1, e1, g1⟩ := Opens.field Try.underlying45 h hw 1 1 1 _ rfl rfl (show Try.prog.cellsOf 3 = 1 by kernel_rfl) (Opens.i64 Try.underlying3)
  replace e1 : [c1] = (fun x : Int => [.int .i64 x]) x1 := e1
  obtain ⟨x2, e2, g2⟩ := Opens.field Try.underlying45 h hw 2 2 1 _ rfl rfl (show Try.prog.cellsOf 9 = 1 by kernel_rfl) (Opens.string Try.underlying9)
  replace e2 : [c2] = (fun x : List UInt8 => [str x]) x2 := e2
  obtain ⟨x3, e3, g3⟩ := Opens.field Try.underlying45 h hw 3 3 1 _ rfl rfl (show Try.prog.cellsOf 3 = 1 by kernel_rfl) (Opens.i64 Try.underlying3)
  replace e3 : [c3] = (fun x : Int => [.int .i64 x]) x3 := e3
  obtain ⟨x4, e4, g4⟩ := Opens.field Try.underlying45 h hw 4 4 1 _ rfl rfl (show Try.prog.cellsOf 3 = 1 by kernel_rfl) (Opens.i64 Try.underlying3)
  replace e4 : [c4] = (fun x : Int => [.int .i64 x]) x4 := e4
  obtain ⟨x5, e5, g5⟩ := Opens.field Try.underlying45 h hw 5 5 1 _ rfl rfl (show Try.prog.cellsOf 5 = 1 by kernel_rfl) (Opens.u8 Try.underlying5)
  replace e5 : [c5] = (fun x : UInt8 => [.int .u8 (x.toNat : Int)]) x5 := e5
  obtain ⟨x6, e6, g6⟩ := Opens.field Try.underlying45 h hw 6 6 1 _ rfl rfl (show Try.prog.cellsOf 3 = 1 by kernel_rfl) (Opens.i64 Try.underlying3)
  replace e6 : [c6] = (fun x : Int => [.int .i64 x]) x6 := e6
  refine ⟨⟨x0, x1, x2, x3, x4, x5, x6⟩, ?_, g0, g1, g2, g3, g4, g5, g6⟩
  show [c0] ++ ([c1] ++ ([c2] ++ ([c3] ++ ([c4] ++ ([c5] ++ ([c6])))))) = _
  rw [e0, e1, e2, e3, e4, e5, e6]; rfl
theorem opensP39 {H : Type} {ec : TypeId × Value → H} {W : World} {base : Nat} {spare : Nat → Bool} {held : Bool} : Opens ec Try.prog W base spare held 39 SlV.enc (fun x : SlV (OpV) => Rd W x.a x.l.length 7 (x.l.flatMap ocell) ∧ x.l.length * Try.prog.bytesOf 45 ≤ reachBytes ∧ ∀ xx ∈ x.l, (-9223372036854775808 ≤ xx.kind ∧ xx.kind ≤ 9223372036854775807) ∧ (-9223372036854775808 ≤ xx.who ∧ xx.who ≤ 9223372036854775807) ∧ (xx.s.length ≤ reachBytes) ∧ (-9223372036854775808 ≤ xx.n ∧ xx.n ≤ 9223372036854775807) ∧ (-9223372036854775808 ≤ xx.at_ ∧ xx.at_ ≤ 9223372036854775807) ∧ (True) ∧ (-9223372036854775808 ≤ xx.more ∧ xx.more ≤ 9223372036854775807)) := (Opens.slice Try.underlying39 (show Try.prog.cellsOf 45 = 7 by kernel_rfl) (by decide) (fun _ => rfl) opens45)
end Go.Proofs.Ytcdbnbdeinhokaa.SL
