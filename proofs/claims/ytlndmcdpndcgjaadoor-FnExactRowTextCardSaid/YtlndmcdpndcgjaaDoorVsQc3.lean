import Derived.Test.YtlndmcdpndcgjaaDoorVsW4
import Derived.Test.YtlndmcdpndcgjaaDoorVsQc2
set_option linter.all false
namespace Go.Vs
set_option linter.unusedVariables false
set_option linter.unusedSimpArgs false
noncomputable section
/-! ## RowOk, both ways -/
/-! ## rows are marked; CutRow, BackRow -/
end
end Go.Vs
