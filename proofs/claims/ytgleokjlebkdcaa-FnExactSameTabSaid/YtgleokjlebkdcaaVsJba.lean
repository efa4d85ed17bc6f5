/-
  The closed facts of the row fnExactSameTab (types, entries, names), by computation. Condition: none.
-/import Derived.Test.YtgleokjlebkdcaaRows
import Derived.JoinedOf
import Derived.WalkKit
set_option linter.all false
namespace Go.Proofs.Ytgleokjlebkdcaa.fnExactSameTab
theorem fact : joinedFacts Try.pinned.checked.prog 6 Try.f6 Rows.fnExactSameTabSpec Rows.fnExactSameTabRow = true := by kernel_rfl
end Go.Proofs.Ytgleokjlebkdcaa.fnExactSameTab
