/- Arguments opened: slices of structs and of other elements, element by element. -/
import Derived.WalkKit
import Derived.ProofKit
import Derived.OpenShut
import Derived.Deep.Slices
import Derived.DataReads
import Derived.ChangeArms
namespace Go.Proofs.YtidoidoelgfnaaaGreatDoor.Xo
open Go.Deep
variable {P : Program} {H : Type} {enc : TypeId × Value → H} {w : World} {base : Nat} {spare : Nat → Bool} {held : Bool}
end Go.Proofs.YtidoidoelgfnaaaGreatDoor.Xo
