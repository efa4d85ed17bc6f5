/-
  The closed facts of the row fnDevsBent (types, entries, names), by computation. Condition: none.
-/import Derived.Test.YtgleokjlebkdcaaRows
import Derived.JoinedOf
import Derived.WalkKit
set_option linter.all false
namespace Go.Proofs.Ytgleokjlebkdcaa.fnDevsBent
theorem fact : joinedFacts Try.pinned.checked.prog 7 Try.f7 Rows.fnDevsBentSpec Rows.fnDevsBentRow = true := by kernel_rfl
end Go.Proofs.Ytgleokjlebkdcaa.fnDevsBent
