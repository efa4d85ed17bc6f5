/-
  The closed facts of the row fnExactTurn (types, entries, names), by computation. Condition: none.
-/import Derived.Test.YtboohaconpkhaaaDoorRows
import Derived.JoinedOf
import Derived.WalkKit
set_option linter.all false
namespace Go.Proofs.YtboohaconpkhaaaDoor.fnExactTurn
theorem fact : joinedFacts Tryd.pinned.checked.prog 6 Tryd.f6 Rows.fnExactTurnSpec Rows.fnExactTurnRow = true := by kernel_rfl
end Go.Proofs.YtboohaconpkhaaaDoor.fnExactTurn
