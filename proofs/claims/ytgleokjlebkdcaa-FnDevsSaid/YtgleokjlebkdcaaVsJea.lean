/-
  The closed facts of the row fnDevs (types, entries, names), by computation. Condition: none.
-/import Derived.Test.YtgleokjlebkdcaaRows
import Derived.JoinedOf
import Derived.WalkKit
set_option linter.all false
namespace Go.Proofs.Ytgleokjlebkdcaa.fnDevs
theorem fact : joinedFacts Try.pinned.checked.prog 4 Try.f4 Rows.fnDevsSpec Rows.fnDevsRow = true := by kernel_rfl
end Go.Proofs.Ytgleokjlebkdcaa.fnDevs
