/- The arguments' types of a law, opened. -/
import Derived.Test.YtiggkfaonnnjoaaGreatDoorWq6
import Derived.Test.YtiggkfaonnnjoaaGreatDoorXr
namespace Go.Proofs.YtiggkfaonnnjoaaGreatDoor.SL
set_option maxRecDepth 100000
set_option linter.unusedVariables false
theorem opensP22 {H : Type} {ec : TypeId × Value → H} {W : World} {base : Nat} {spare : Nat → Bool} {held : Bool} : Opens ec Tryz.prog W base spare held 22 SlV.enc (fun x : SlV (Int) => Rd W x.a x.l.length 1 (x.l.flatMap (fun x : Int => [.int .i64 x])) ∧ x.l.length * Tryz.prog.bytesOf 3 ≤ reachBytes ∧ ∀ xx ∈ x.l, -9223372036854775808 ≤ xx ∧ xx ≤ 9223372036854775807) := (Opens.slice Tryz.underlying22 (show Tryz.prog.cellsOf 3 = 1 by kernel_rfl) (by decide) (fun _ => rfl) (Opens.i64 Tryz.underlying3))
theorem cuts_row {B w : World} {L : List HP} (n0 a0 : Int) {ka : Option Addr} {kc : Nat} {zs : List Int} (hK : Rd B ka zs.length 1 (ri zs)) (hkl : zs.length * Tryz.prog.bytesOf 3 ≤ reachBytes) (hS : St B L w) :
    Does Tryz.prog 3 [.int .i64 n0, .int .i64 a0, .slice ka zs.length kc] w (fun v w1 => v = .bool true ∧ St B L w1) := by
  have hby : Tryz.prog.bytesOf 3 = 8 := by kernel_rfl
  have e : reachBytes = 140737488351232 := by decide
  rw [hby] at hkl
  exact walCuts_core n0 a0 hK (by omega) hS
end Go.Proofs.YtiggkfaonnnjoaaGreatDoor.SL
