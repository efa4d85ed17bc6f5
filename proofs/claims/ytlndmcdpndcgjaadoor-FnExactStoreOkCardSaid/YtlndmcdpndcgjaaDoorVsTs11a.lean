/-
  The closed facts of the row fnExactStoreOk (types, entries, names), by computation. Condition: none.
-/import Derived.Test.YtlndmcdpndcgjaaDoorRows
import Derived.JoinedOf
import Derived.WalkKit
set_option linter.all false
namespace Go.Proofs.YtlndmcdpndcgjaaDoor.fnExactStoreOk
theorem fact : joinedFacts Tryd.pinned.checked.prog 13 Tryd.f13 Rows.fnExactStoreOkSpec Rows.fnExactStoreOkRow = true := by kernel_rfl
end Go.Proofs.YtlndmcdpndcgjaaDoor.fnExactStoreOk
