/-
  The closed facts of the row fnExactWriteSec (types, entries, names), by computation. Condition: none.
-/
import Derived.Test.YtgbapgjdkoojdaaRows
import Derived.JoinedOf
import Derived.WalkKit
set_option linter.unusedVariables false
set_option linter.unusedSimpArgs false
namespace Go.Proofs.Ytgbapgjdkoojdaa.fnExactWriteSec
theorem fact : joinedFacts Try.pinned.checked.prog 15 Try.f15 Rows.fnExactWriteSecSpec Rows.fnExactWriteSecRow = true := by kernel_rfl
end Go.Proofs.Ytgbapgjdkoojdaa.fnExactWriteSec
