/-
  The closed facts of the row fnExactFillRow (types, entries, names), by computation. Condition: none.
-/import Derived.Test.YtboohaconpkhaaaDoorRows
import Derived.JoinedOf
import Derived.WalkKit
set_option linter.all false
namespace Go.Proofs.YtboohaconpkhaaaDoor.fnExactFillRow
theorem fact : joinedFacts Tryd.pinned.checked.prog 9 Tryd.f9 Rows.fnExactFillRowSpec Rows.fnExactFillRowRow = true := by kernel_rfl
end Go.Proofs.YtboohaconpkhaaaDoor.fnExactFillRow
