/-
  The closed facts of the row fnHeads (types, entries, names), by computation. Condition: none.
-/import Derived.Test.YtgleokjlebkdcaaRows
import Derived.JoinedOf
import Derived.WalkKit
set_option linter.all false
namespace Go.Proofs.Ytgleokjlebkdcaa.fnHeads
theorem fact : joinedFacts Try.pinned.checked.prog 3 Try.f3 Rows.fnHeadsSpec Rows.fnHeadsRow = true := by kernel_rfl
end Go.Proofs.Ytgleokjlebkdcaa.fnHeads
