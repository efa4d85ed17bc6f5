/-
  The closed facts of the row fnRows (types, entries, names), by computation. Condition: none.
-/import Derived.Test.YtgleokjlebkdcaaDoorRows
import Derived.JoinedOf
import Derived.WalkKit
set_option linter.all false
namespace Go.Proofs.YtgleokjlebkdcaaDoor.fnRows
theorem fact:joinedFacts Tryd.pinned.checked.prog 5 Tryd.f5 Rows.fnRowsSpec Rows.fnRowsRow = true:=by kernel_rfl
end Go.Proofs.YtgleokjlebkdcaaDoor.fnRows
