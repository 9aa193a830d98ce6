/- Rules: a range over a string. -/
import Derived.Test.YtcehlnpbdffdhaaGreatDoorSl8
import Derived.Laws.RangeString
namespace Go.Proofs.YtcehlnpbdffdhaaGreatDoor.SL
open Go.RowKit
set_option linter.unusedVariables false
section
variable {P : Program} {n : Nat} {D : List Deferred} {T : Tm} {ty : TypeId} {pos : String} {aft : Array Edge} {ops : Array Oper} {rest : List Oper} {Q : Exit → Act → World → Prop} {B w : World} {L : List HP}
end
end Go.Proofs.YtcehlnpbdffdhaaGreatDoor.SL
