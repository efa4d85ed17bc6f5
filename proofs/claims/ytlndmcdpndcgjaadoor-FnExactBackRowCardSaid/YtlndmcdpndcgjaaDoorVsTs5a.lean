/-
  The closed facts of the row fnExactBackRow (types, entries, names), by computation. Condition: none.
-/
import Derived.Test.YtlndmcdpndcgjaaDoorRows
import Derived.JoinedOf
import Derived.WalkKit
set_option linter.all false
namespace Go.Proofs.YtlndmcdpndcgjaaDoor.fnExactBackRow
theorem fact : joinedFacts Tryd.pinned.checked.prog 7 Tryd.f7 Rows.fnExactBackRowSpec Rows.fnExactBackRowRow = true := by kernel_rfl
end Go.Proofs.YtlndmcdpndcgjaaDoor.fnExactBackRow
