/- The arguments' types of a law, opened. -/
import Derived.Test.YtiggkfaonnnjoaaDoorWq4
import Derived.Test.YtiggkfaonnnjoaaDoorXr
namespace Go.Proofs.YtiggkfaonnnjoaaDoor.SL
set_option maxRecDepth 100000
set_option linter.unusedVariables false
end Go.Proofs.YtiggkfaonnnjoaaDoor.SL
