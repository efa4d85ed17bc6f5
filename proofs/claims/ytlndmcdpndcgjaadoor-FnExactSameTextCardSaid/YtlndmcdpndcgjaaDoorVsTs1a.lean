/-
  The closed facts of the row fnExactSameText (types, entries, names), by computation. Condition: none.
-/
import Derived.Test.YtlndmcdpndcgjaaDoorRows
import Derived.JoinedOf
import Derived.WalkKit
set_option linter.all false
namespace Go.Proofs.YtlndmcdpndcgjaaDoor.fnExactSameText
theorem fact : joinedFacts Tryd.pinned.checked.prog 3 Tryd.f3 Rows.fnExactSameTextSpec Rows.fnExactSameTextRow = true := by kernel_rfl
end Go.Proofs.YtlndmcdpndcgjaaDoor.fnExactSameText
