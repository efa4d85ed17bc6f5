/-
  The closed facts of the row fnExactReadSec (types, entries, names), by computation. Condition: none.
-/
import Derived.Test.YtgbapgjdkoojdaaRows
import Derived.JoinedOf
import Derived.WalkKit
set_option linter.unusedVariables false
set_option linter.unusedSimpArgs false
namespace Go.Proofs.Ytgbapgjdkoojdaa.fnExactReadSec
theorem fact : joinedFacts Try.pinned.checked.prog 12 Try.f12 Rows.fnExactReadSecSpec Rows.fnExactReadSecRow = true := by kernel_rfl
end Go.Proofs.Ytgbapgjdkoojdaa.fnExactReadSec
