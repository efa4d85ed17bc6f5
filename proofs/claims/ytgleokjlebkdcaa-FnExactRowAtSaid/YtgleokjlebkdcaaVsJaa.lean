/-
  The closed facts of the row fnExactRowAt (types, entries, names), by computation. Condition: none.
-/import Derived.Test.YtgleokjlebkdcaaRows
import Derived.JoinedOf
import Derived.WalkKit
set_option linter.all false
namespace Go.Proofs.Ytgleokjlebkdcaa.fnExactRowAt
theorem fact : joinedFacts Try.pinned.checked.prog 5 Try.f5 Rows.fnExactRowAtSpec Rows.fnExactRowAtRow = true := by kernel_rfl
end Go.Proofs.Ytgleokjlebkdcaa.fnExactRowAt
