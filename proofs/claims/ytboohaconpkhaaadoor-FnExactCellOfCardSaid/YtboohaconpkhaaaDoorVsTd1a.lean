/-
  The closed facts of the row fnExactCellOf (types, entries, names), by computation. Condition: none.
-/import Derived.Test.YtboohaconpkhaaaDoorRows
import Derived.JoinedOf
import Derived.WalkKit
set_option linter.all false
namespace Go.Proofs.YtboohaconpkhaaaDoor.fnExactCellOf
theorem fact : joinedFacts Tryd.pinned.checked.prog 3 Tryd.f3 Rows.fnExactCellOfSpec Rows.fnExactCellOfRow = true := by kernel_rfl
end Go.Proofs.YtboohaconpkhaaaDoor.fnExactCellOf
