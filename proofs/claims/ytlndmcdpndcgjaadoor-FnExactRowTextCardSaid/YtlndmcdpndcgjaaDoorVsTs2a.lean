/-
  The closed facts of the row fnExactRowText (types, entries, names), by computation. Condition: none.
-/
import Derived.Test.YtlndmcdpndcgjaaDoorRows
import Derived.JoinedOf
import Derived.WalkKit
set_option linter.all false
namespace Go.Proofs.YtlndmcdpndcgjaaDoor.fnExactRowText
theorem fact : joinedFacts Tryd.pinned.checked.prog 4 Tryd.f4 Rows.fnExactRowTextSpec Rows.fnExactRowTextRow = true := by kernel_rfl
end Go.Proofs.YtlndmcdpndcgjaaDoor.fnExactRowText
