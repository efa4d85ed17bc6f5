/-
  The closed facts of the row fnExactGetRec (types, entries, names), by computation. Condition: none.
-/import Derived.Test.YtlndmcdpndcgjaaDoorRows
import Derived.JoinedOf
import Derived.WalkKit
set_option linter.all false
namespace Go.Proofs.YtlndmcdpndcgjaaDoor.fnExactGetRec
theorem fact : joinedFacts Tryd.pinned.checked.prog 12 Tryd.f12 Rows.fnExactGetRecSpec Rows.fnExactGetRecRow = true := by kernel_rfl
end Go.Proofs.YtlndmcdpndcgjaaDoor.fnExactGetRec
