import Derived.Test.YtgleokjlebkdcaaDoorProg
import Derived.Test.YtgleokjlebkdcaaDoorVsPek5
set_option linter.all false
namespace Go.Vs
open Go.Proofs
set_option maxRecDepth 100000
set_option linter.unusedVariables false
end Go.Vs
