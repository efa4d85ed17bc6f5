/-
  The closed facts of the row fnCells (types, entries, names), by computation. Condition: none.
-/import Derived.Test.YtgleokjlebkdcaaDoorRows
import Derived.JoinedOf
import Derived.WalkKit
set_option linter.all false
namespace Go.Proofs.YtgleokjlebkdcaaDoor.fnCells
theorem fact : joinedFacts Tryd.pinned.checked.prog 4 Tryd.f4 Rows.fnCellsSpec Rows.fnCellsRow = true := by kernel_rfl
end Go.Proofs.YtgleokjlebkdcaaDoor.fnCells
