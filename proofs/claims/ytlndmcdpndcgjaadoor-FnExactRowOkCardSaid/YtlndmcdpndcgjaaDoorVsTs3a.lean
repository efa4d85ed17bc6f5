/-
  The closed facts of the row fnExactRowOk (types, entries, names), by computation. Condition: none.
-/
import Derived.Test.YtlndmcdpndcgjaaDoorRows
import Derived.JoinedOf
import Derived.WalkKit
set_option linter.all false
namespace Go.Proofs.YtlndmcdpndcgjaaDoor.fnExactRowOk
theorem fact : joinedFacts Tryd.pinned.checked.prog 5 Tryd.f5 Rows.fnExactRowOkSpec Rows.fnExactRowOkRow = true := by kernel_rfl
end Go.Proofs.YtlndmcdpndcgjaaDoor.fnExactRowOk
