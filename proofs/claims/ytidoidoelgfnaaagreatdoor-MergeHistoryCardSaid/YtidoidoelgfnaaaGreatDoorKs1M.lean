import Derived.Test.YtidoidoelgfnaaaGreatDoorKg1M
import Derived.Test.YtidoidoelgfnaaaGreatDoorKc
import Derived.Test.YtidoidoelgfnaaaGreatDoorKmM
/- Records, compared. -/
namespace Go.Proofs.YtidoidoelgfnaaaGreatDoor.SL
open Go.RowKit Go.Proofs.YtidoidoelgfnaaaGreatDoor
open Go.Proofs.YtidoidoelgfnaaaGreatDoorW.PrintLast (rtab opsOf)
set_option linter.unusedVariables false
set_option linter.unusedSimpArgs false

end Go.Proofs.YtidoidoelgfnaaaGreatDoor.SL

/- Blocks, compared. -/
namespace Go.Proofs.YtidoidoelgfnaaaGreatDoor.SL
open Go.RowKit Go.Proofs.YtidoidoelgfnaaaGreatDoor
open Go.Proofs.YtidoidoelgfnaaaGreatDoorW.PrintLast (rtab opsOf)
set_option linter.unusedVariables false
set_option linter.unusedSimpArgs false

end Go.Proofs.YtidoidoelgfnaaaGreatDoor.SL

/- The document's block of the program's. -/
namespace Go.Proofs.YtidoidoelgfnaaaGreatDoor.SL
open Go.RowKit Go.Proofs.YtidoidoelgfnaaaGreatDoor
open Go.Proofs.YtidoidoelgfnaaaGreatDoorW.PrintLast (rtab opsOf)
set_option linter.unusedVariables false
set_option linter.unusedSimpArgs false
end Go.Proofs.YtidoidoelgfnaaaGreatDoor.SL
