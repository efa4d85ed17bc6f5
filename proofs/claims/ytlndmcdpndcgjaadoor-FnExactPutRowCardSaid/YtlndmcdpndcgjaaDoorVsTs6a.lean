/-
  The closed facts of the row fnExactPutRow (types, entries, names), by computation. Condition: none.
-/
import Derived.Test.YtlndmcdpndcgjaaDoorRows
import Derived.JoinedOf
import Derived.WalkKit
set_option linter.all false
namespace Go.Proofs.YtlndmcdpndcgjaaDoor.fnExactPutRow
theorem fact : joinedFacts Tryd.pinned.checked.prog 8 Tryd.f8 Rows.fnExactPutRowSpec Rows.fnExactPutRowRow = true := by kernel_rfl
end Go.Proofs.YtlndmcdpndcgjaaDoor.fnExactPutRow
