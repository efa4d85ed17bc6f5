/-
  The closed facts of the row fnExactFlushDev (types, entries, names), by computation. Condition: none.
-/
import Derived.Test.YtgbapgjdkoojdaaRows
import Derived.JoinedOf
import Derived.WalkKit
set_option linter.unusedVariables false
set_option linter.unusedSimpArgs false
namespace Go.Proofs.Ytgbapgjdkoojdaa.fnExactFlushDev
theorem fact : joinedFacts Try.pinned.checked.prog 17 Try.f17 Rows.fnExactFlushDevSpec Rows.fnExactFlushDevRow = true := by kernel_rfl
end Go.Proofs.Ytgbapgjdkoojdaa.fnExactFlushDev
