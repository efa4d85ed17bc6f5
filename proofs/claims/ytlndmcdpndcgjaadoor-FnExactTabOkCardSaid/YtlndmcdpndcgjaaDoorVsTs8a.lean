/-
  The closed facts of the row fnExactTabOk (types, entries, names), by computation. Condition: none.
-/
import Derived.Test.YtlndmcdpndcgjaaDoorRows
import Derived.JoinedOf
import Derived.WalkKit
set_option linter.all false
namespace Go.Proofs.YtlndmcdpndcgjaaDoor.fnExactTabOk
theorem fact : joinedFacts Tryd.pinned.checked.prog 11 Tryd.f11 Rows.fnExactTabOkSpec Rows.fnExactTabOkRow = true := by kernel_rfl
end Go.Proofs.YtlndmcdpndcgjaaDoor.fnExactTabOk
