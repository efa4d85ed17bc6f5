/-
  The closed facts of the row fnExactCutRow (types, entries, names), by computation. Condition: none.
-/
import Derived.Test.YtlndmcdpndcgjaaDoorRows
import Derived.JoinedOf
import Derived.WalkKit
set_option linter.all false
namespace Go.Proofs.YtlndmcdpndcgjaaDoor.fnExactCutRow
theorem fact : joinedFacts Tryd.pinned.checked.prog 6 Tryd.f6 Rows.fnExactCutRowSpec Rows.fnExactCutRowRow = true := by kernel_rfl
end Go.Proofs.YtlndmcdpndcgjaaDoor.fnExactCutRow
