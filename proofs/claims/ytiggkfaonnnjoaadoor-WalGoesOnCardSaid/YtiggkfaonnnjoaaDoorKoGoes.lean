/- The arguments' types of a law, opened. -/
import Derived.Test.YtiggkfaonnnjoaaDoorWq3
import Derived.Test.YtiggkfaonnnjoaaDoorXr
namespace Go.Proofs.YtiggkfaonnnjoaaDoor.SL
set_option maxRecDepth 100000
set_option linter.unusedVariables false
theorem opensP22 {H : Type} {ec : TypeId × Value → H} {W : World} {base : Nat} {spare : Nat → Bool} {held : Bool} : Opens ec Tryd.prog W base spare held 22 SlV.enc (fun x : SlV (List UInt8) => Rd W x.a x.l.length 1 (x.l.flatMap (fun x : List UInt8 => [str x])) ∧ x.l.length * Tryd.prog.bytesOf 9 ≤ reachBytes ∧ ∀ xx ∈ x.l, xx.length ≤ reachBytes) := (Opens.slice Tryd.underlying22 (show Tryd.prog.cellsOf 9 = 1 by kernel_rfl) (by decide) (fun _ => rfl) (Opens.string Tryd.underlying9))
theorem opensP23 {H : Type} {ec : TypeId × Value → H} {W : World} {base : Nat} {spare : Nat → Bool} {held : Bool} : Opens ec Tryd.prog W base spare held 23 SlV.enc (fun x : SlV (Bool) => Rd W x.a x.l.length 1 (x.l.flatMap (fun x : Bool => [.bool x])) ∧ x.l.length * Tryd.prog.bytesOf 4 ≤ reachBytes ∧ ∀ xx ∈ x.l, True) := (Opens.slice Tryd.underlying23 (show Tryd.prog.cellsOf 4 = 1 by kernel_rfl) (by decide) (fun _ => rfl) (Opens.bool Tryd.underlying4))
theorem flatMap_str (l : List (List UInt8)) : l.flatMap (fun x : List UInt8 => [str x]) = l.map str := by
  induction l with
  | nil => rfl
  | cons x l ih => rw [List.flatMap_cons, ih]; rfl
theorem flatMap_bool (l : List Bool) : l.flatMap (fun x : Bool => [Value.bool x]) = l.map Value.bool := by
  induction l with
  | nil => rfl
  | cons x l ih => rw [List.flatMap_cons, ih]; rfl
theorem goes_row {B w : World} {L : List HP} {la ba : Option Addr} {lc bc : Nat} {l : List (List UInt8)} {bl : List Bool} (hA : Rd B la l.length 1 (l.flatMap (fun x : List UInt8 => [str x]))) (hB : Rd B ba bl.length 1 (bl.flatMap (fun x : Bool => [Value.bool x]))) (hS : St B L w) :
    Does Tryd.prog 4 [.slice la l.length lc, .slice ba bl.length bc] w (fun v w1 => v = .bool true ∧ St B L w1) := by
  rw [flatMap_str] at hA; rw [flatMap_bool] at hB
  exact walGoesOn_core hA hB hS
end Go.Proofs.YtiggkfaonnnjoaaDoor.SL
