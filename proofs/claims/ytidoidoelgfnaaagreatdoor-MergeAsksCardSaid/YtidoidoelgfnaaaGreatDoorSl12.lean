/- Calls that throw, deferred calls, and what recovers. -/
import Derived.Test.YtidoidoelgfnaaaGreatDoorSl11
import Derived.Recover
namespace Go.Proofs.YtidoidoelgfnaaaGreatDoor.SL
open Go.RowKit
set_option linter.unusedVariables false
set_option linter.unusedSimpArgs false
section
variable {P : Program} {n : Nat} {D : List Deferred} {Q : Exit → Act → World → Prop} {T : Tm} {w : World} {ops : Array Oper} {rest : List Oper}
/-! Deferred calls. -/
variable {fn : Func} {R : Ending → World → Prop} {ds : List Deferred}
/-! What recovers. -/
end
end Go.Proofs.YtidoidoelgfnaaaGreatDoor.SL
