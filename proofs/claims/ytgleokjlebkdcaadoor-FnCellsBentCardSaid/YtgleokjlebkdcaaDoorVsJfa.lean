/-
  The closed facts of the row fnCellsBent (types, entries, names), by computation. Condition: none.
-/import Derived.Test.YtgleokjlebkdcaaDoorRows
import Derived.JoinedOf
import Derived.WalkKit
set_option linter.all false
namespace Go.Proofs.YtgleokjlebkdcaaDoor.fnCellsBent
theorem fact : joinedFacts Tryd.pinned.checked.prog 3 Tryd.f3 Rows.fnCellsBentSpec Rows.fnCellsBentRow = true := by kernel_rfl
end Go.Proofs.YtgleokjlebkdcaaDoor.fnCellsBent
