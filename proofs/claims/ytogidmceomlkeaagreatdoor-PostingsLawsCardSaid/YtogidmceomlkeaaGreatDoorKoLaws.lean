/- The arguments' types of a law, opened. -/
import Derived.Test.YtogidmceomlkeaaGreatDoorKw2
import Derived.Test.YtogidmceomlkeaaGreatDoorXr
namespace Go.Proofs.YtogidmceomlkeaaGreatDoor.SL
set_option maxRecDepth 100000
set_option linter.unusedVariables false
theorem opensP22 {H : Type} {ec : TypeId × Value → H} {W : World} {base : Nat} {spare : Nat → Bool} {held : Bool} : Opens ec Tryz.prog W base spare held 22 SlV.enc (fun x : SlV (Int) => Rd W x.a x.l.length 1 (x.l.flatMap (fun x : Int => [.int .i64 x])) ∧ x.l.length * Tryz.prog.bytesOf 3 ≤ reachBytes ∧ ∀ xx ∈ x.l, -9223372036854775808 ≤ xx ∧ xx ≤ 9223372036854775807) := (Opens.slice Tryz.underlying22 (show Tryz.prog.cellsOf 3 = 1 by kernel_rfl) (by decide) (fun _ => rfl) (Opens.i64 Tryz.underlying3))
end Go.Proofs.YtogidmceomlkeaaGreatDoor.SL
