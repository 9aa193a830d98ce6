/- The arguments' types of a law, opened. -/
import Derived.Test.YtcehlnpbdffdhaaDoorKa2
import Derived.Test.YtcehlnpbdffdhaaDoorXr
namespace Go.Proofs.YtcehlnpbdffdhaaDoor.SL
set_option maxRecDepth 100000
set_option linter.unusedVariables false
end Go.Proofs.YtcehlnpbdffdhaaDoor.SL
