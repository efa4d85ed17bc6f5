/-
  The closed facts of the row fnExactRecsOf (types, entries, names), by computation. Condition: none.
-/
import Derived.Test.YtfjaomkejcpgfaaRows
import Derived.JoinedOf
import Derived.WalkKit
set_option linter.unusedVariables false
set_option linter.unusedSimpArgs false
namespace Go.Proofs.Ytfjaomkejcpgfaa.fnExactRecsOf
theorem fact : joinedFacts Try.pinned.checked.prog 8 Try.f8 Rows.fnExactRecsOfSpec Rows.fnExactRecsOfRow = true := by kernel_rfl
end Go.Proofs.Ytfjaomkejcpgfaa.fnExactRecsOf
