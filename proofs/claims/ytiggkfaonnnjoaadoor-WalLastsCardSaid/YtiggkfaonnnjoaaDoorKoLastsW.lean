/- The arguments' types of a law, opened. -/
import Derived.Test.YtiggkfaonnnjoaaDoorWq5
import Derived.Test.YtiggkfaonnnjoaaDoorXr
namespace Go.Proofs.YtiggkfaonnnjoaaDoor.SL
set_option maxRecDepth 100000
set_option linter.unusedVariables false
theorem opensP22 {H : Type} {ec : TypeId × Value → H} {W : World} {base : Nat} {spare : Nat → Bool} {held : Bool} : Opens ec Tryd.prog W base spare held 22 SlV.enc (fun x : SlV (List UInt8) => Rd W x.a x.l.length 1 (x.l.flatMap (fun x : List UInt8 => [str x])) ∧ x.l.length * Tryd.prog.bytesOf 9 ≤ reachBytes ∧ ∀ xx ∈ x.l, xx.length ≤ reachBytes) := (Opens.slice Tryd.underlying22 (show Tryd.prog.cellsOf 9 = 1 by kernel_rfl) (by decide) (fun _ => rfl) (Opens.string Tryd.underlying9))
theorem opensP23 {H : Type} {ec : TypeId × Value → H} {W : World} {base : Nat} {spare : Nat → Bool} {held : Bool} : Opens ec Tryd.prog W base spare held 23 SlV.enc (fun x : SlV (Bool) => Rd W x.a x.l.length 1 (x.l.flatMap (fun x : Bool => [.bool x])) ∧ x.l.length * Tryd.prog.bytesOf 4 ≤ reachBytes ∧ ∀ xx ∈ x.l, True) := (Opens.slice Tryd.underlying23 (show Tryd.prog.cellsOf 4 = 1 by kernel_rfl) (by decide) (fun _ => rfl) (Opens.bool Tryd.underlying4))
theorem opensP24 {H : Type} {ec : TypeId × Value → H} {W : World} {base : Nat} {spare : Nat → Bool} {held : Bool} : Opens ec Tryd.prog W base spare held 24 SlV.enc (fun x : SlV (Int) => Rd W x.a x.l.length 1 (x.l.flatMap (fun x : Int => [.int .i64 x])) ∧ x.l.length * Tryd.prog.bytesOf 3 ≤ reachBytes ∧ ∀ xx ∈ x.l, -9223372036854775808 ≤ xx ∧ xx ≤ 9223372036854775807) := (Opens.slice Tryd.underlying24 (show Tryd.prog.cellsOf 3 = 1 by kernel_rfl) (by decide) (fun _ => rfl) (Opens.i64 Tryd.underlying3))
theorem flatMap_str (l : List (List UInt8)) : l.flatMap (fun x : List UInt8 => [str x]) = l.map str := by
  induction l with
  | nil => rfl
  | cons x l ih => rw [List.flatMap_cons, ih]; rfl
theorem flatMap_bool (l : List Bool) : l.flatMap (fun x : Bool => [Value.bool x]) = l.map Value.bool := by
  induction l with
  | nil => rfl
  | cons x l ih => rw [List.flatMap_cons, ih]; rfl
theorem lasts_row {B w : World} {L : List HP} {la ba ka : Option Addr} {lc bc kc : Nat} {l : List (List UInt8)} {bl : List Bool} {zs : List Int} (fz : Int) (hA : Rd B la l.length 1 (l.flatMap (fun x : List UInt8 => [str x]))) (hB : Rd B ba bl.length 1 (bl.flatMap (fun x : Bool => [Value.bool x]))) (hK : Rd B ka zs.length 1 (ri zs)) (hkl : zs.length * Tryd.prog.bytesOf 3 ≤ reachBytes) (hS : St B L w) :
    Does Tryd.prog 3 [.slice la l.length lc, .slice ba bl.length bc, .int .i64 fz, .slice ka zs.length kc] w (fun v w1 => v = .bool true ∧ St B L w1) := by
  rw [flatMap_str] at hA; rw [flatMap_bool] at hB
  have hby : Tryd.prog.bytesOf 3 = 8 := by kernel_rfl
  have e : reachBytes = 140737488351232 := by decide
  rw [hby] at hkl
  exact walLasts_core fz hA hB hK (by omega) hS
end Go.Proofs.YtiggkfaonnnjoaaDoor.SL
