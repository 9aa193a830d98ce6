/- Ranges over a function: rounds and iterators. -/
import Derived.Test.YtidoidoelgfnaaaGreatDoorSl12
import Derived.RangeFuncRecord
import Derived.OrdersIn
import Derived.TacticsIn
namespace Go.Proofs.YtidoidoelgfnaaaGreatDoor.SL
open Go.RowKit
open Go.Proofs.YtidoidoelgfnaaaGreatDoorW.PrintLast
set_option linter.unusedVariables false
set_option linter.unusedSimpArgs false
section
variable {P : Program} {n : Nat} {D : List Deferred} {Q : Exit → Act → World → Prop} {T : Tm} {w : World} {ops : Array Oper} {rest : List Oper} {r : Option Nat} {B : World} {L : List HP}
/-! Exits that are not let out. -/
/-! Code. -/
/-! Functions. -/
/-! The loop's record. -/
end
end Go.Proofs.YtidoidoelgfnaaaGreatDoor.SL
