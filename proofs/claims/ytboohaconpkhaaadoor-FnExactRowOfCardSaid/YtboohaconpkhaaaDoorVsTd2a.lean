/-
  The closed facts of the row fnExactRowOf (types, entries, names), by computation. Condition: none.
-/import Derived.Test.YtboohaconpkhaaaDoorRows
import Derived.JoinedOf
import Derived.WalkKit
set_option linter.all false
namespace Go.Proofs.YtboohaconpkhaaaDoor.fnExactRowOf
theorem fact : joinedFacts Tryd.pinned.checked.prog 4 Tryd.f4 Rows.fnExactRowOfSpec Rows.fnExactRowOfRow = true := by kernel_rfl
end Go.Proofs.YtboohaconpkhaaaDoor.fnExactRowOf
