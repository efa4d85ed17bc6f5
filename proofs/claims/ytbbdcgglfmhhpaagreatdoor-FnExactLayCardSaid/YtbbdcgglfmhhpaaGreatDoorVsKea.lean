/-
  The closed facts of the row fnExactLay (types, entries, names), by computation. Condition: none.
-/import Derived.Test.YtbbdcgglfmhhpaaGreatDoorRows
import Derived.JoinedOf
import Derived.WalkKit
set_option linter.all false
namespace Go.Proofs.YtbbdcgglfmhhpaaGreatDoor.fnExactLay
theorem fact:joinedFacts Tryz.pinned.checked.prog 3 Tryz.f3 Rows.fnExactLaySpec Rows.fnExactLayRow=true:=by kernel_rfl
end Go.Proofs.YtbbdcgglfmhhpaaGreatDoor.fnExactLay
