/-
  The closed facts of the row fnExactGetRow (types, entries, names), by computation. Condition: none.
-/
import Derived.Test.YtlndmcdpndcgjaaDoorRows
import Derived.JoinedOf
import Derived.WalkKit
set_option linter.all false
namespace Go.Proofs.YtlndmcdpndcgjaaDoor.fnExactGetRow
theorem fact : joinedFacts Tryd.pinned.checked.prog 10 Tryd.f10 Rows.fnExactGetRowSpec Rows.fnExactGetRowRow = true := by kernel_rfl
end Go.Proofs.YtlndmcdpndcgjaaDoor.fnExactGetRow
