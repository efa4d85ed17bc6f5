/-
  The closed facts of the row fnExactPutRec (types, entries, names), by computation. Condition: none.
-/import Derived.Test.YtboohaconpkhaaaDoorRows
import Derived.JoinedOf
import Derived.WalkKit
set_option linter.all false
namespace Go.Proofs.YtboohaconpkhaaaDoor.fnExactPutRec
theorem fact : joinedFacts Tryd.pinned.checked.prog 8 Tryd.f8 Rows.fnExactPutRecSpec Rows.fnExactPutRecRow = true := by kernel_rfl
end Go.Proofs.YtboohaconpkhaaaDoor.fnExactPutRec
