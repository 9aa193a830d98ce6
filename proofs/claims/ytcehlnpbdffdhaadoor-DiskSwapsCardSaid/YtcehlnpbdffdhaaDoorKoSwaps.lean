/- The arguments' types of a law, opened. -/
import Derived.Test.YtcehlnpbdffdhaaDoorKa4
import Derived.Test.YtcehlnpbdffdhaaDoorXr
namespace Go.Proofs.YtcehlnpbdffdhaaDoor.SL
set_option maxRecDepth 100000
set_option linter.unusedVariables false
theorem opensP50 {H : Type} {ec : TypeId × Value → H} {W : World} {base : Nat} {spare : Nat → Bool} {held : Bool} : Opens ec Tryd.prog W base spare held 50 SlV.enc (fun x : SlV (Int) => Rd W x.a x.l.length 1 (x.l.flatMap (fun x : Int => [.int .i64 x])) ∧ x.l.length * Tryd.prog.bytesOf 3 ≤ reachBytes ∧ ∀ xx ∈ x.l, -9223372036854775808 ≤ xx ∧ xx ≤ 9223372036854775807) := (Opens.slice Tryd.underlying50 (show Tryd.prog.cellsOf 3 = 1 by kernel_rfl) (by decide) (fun _ => rfl) (Opens.i64 Tryd.underlying3))
theorem swaps_core {B w : World} {L : List HP} (s t : ByteArray) (a : Int) {ka : Option Addr} {kc : Nat} {l : List Int} (hA : Rd B ka l.length 1 (ri l)) (hS : St B L w) :
    Does Tryd.prog 6 [.string s, .string t, .int .i64 a, .slice ka l.length kc] w (fun v w1 => v = .bool true ∧ St B L w1) :=
  diskSwaps_core s.data.toList t.data.toList a hA hS
end Go.Proofs.YtcehlnpbdffdhaaDoor.SL
