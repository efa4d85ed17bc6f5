/-
  The closed facts of the row fnExactRecOk (types, entries, names), by computation. Condition: none.
-/
import Derived.Test.YtlndmcdpndcgjaaDoorRows
import Derived.JoinedOf
import Derived.WalkKit
set_option linter.all false
namespace Go.Proofs.YtlndmcdpndcgjaaDoor.fnExactRecOk
theorem fact : joinedFacts Tryd.pinned.checked.prog 9 Tryd.f9 Rows.fnExactRecOkSpec Rows.fnExactRecOkRow = true := by kernel_rfl
end Go.Proofs.YtlndmcdpndcgjaaDoor.fnExactRecOk
