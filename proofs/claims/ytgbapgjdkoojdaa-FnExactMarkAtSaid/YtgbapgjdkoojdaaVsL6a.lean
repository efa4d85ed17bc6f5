/-
  The closed facts of the row fnExactMarkAt (types, entries, names), by computation. Condition: none.
-/
import Derived.Test.YtgbapgjdkoojdaaRows
import Derived.JoinedOf
import Derived.WalkKit
set_option linter.unusedVariables false
set_option linter.unusedSimpArgs false
namespace Go.Proofs.Ytgbapgjdkoojdaa.fnExactMarkAt
theorem fact : joinedFacts Try.pinned.checked.prog 10 Try.f10 Rows.fnExactMarkAtSpec Rows.fnExactMarkAtRow = true := by kernel_rfl
end Go.Proofs.Ytgbapgjdkoojdaa.fnExactMarkAt
