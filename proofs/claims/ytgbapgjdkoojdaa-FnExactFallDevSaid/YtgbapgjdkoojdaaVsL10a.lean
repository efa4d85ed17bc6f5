/-
  The closed facts of the row fnExactFallDev (types, entries, names), by computation. Condition: none.
-/
import Derived.Test.YtgbapgjdkoojdaaRows
import Derived.JoinedOf
import Derived.WalkKit
set_option linter.unusedVariables false
set_option linter.unusedSimpArgs false
namespace Go.Proofs.Ytgbapgjdkoojdaa.fnExactFallDev
theorem fact : joinedFacts Try.pinned.checked.prog 14 Try.f14 Rows.fnExactFallDevSpec Rows.fnExactFallDevRow = true := by kernel_rfl
end Go.Proofs.Ytgbapgjdkoojdaa.fnExactFallDev
