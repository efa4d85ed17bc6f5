import Derived.Test.YtgleokjlebkdcaaProg
import Derived.Test.YtgleokjlebkdcaaVsPd
set_option linter.all false
namespace Go.Vs
open Go.Proofs
set_option maxRecDepth 100000
set_option linter.unusedVariables false
theorem mixed_Pd : Try.prog.follows .mixedOrders = true := by kernel_rfl
end Go.Vs
