/-
  The closed facts of the row fnExactDevOk (types, entries, names), by computation. Condition: none.
-/
import Derived.Test.YtgbapgjdkoojdaaRows
import Derived.JoinedOf
import Derived.WalkKit
set_option linter.unusedVariables false
set_option linter.unusedSimpArgs false
namespace Go.Proofs.Ytgbapgjdkoojdaa.fnExactDevOk
theorem fact : joinedFacts Try.pinned.checked.prog 8 Try.f8 Rows.fnExactDevOkSpec Rows.fnExactDevOkRow = true := by kernel_rfl
end Go.Proofs.Ytgbapgjdkoojdaa.fnExactDevOk
