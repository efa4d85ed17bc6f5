/-
  The closed facts of the row fnExactFormat (types, entries, names), by computation. Condition: none.
-/import Derived.Test.YtggfmlobpmndoaaGreatDoorRows
import Derived.JoinedOf
import Derived.WalkKit
set_option linter.all false
namespace Go.Proofs.YtggfmlobpmndoaaGreatDoor.fnExactFormat
theorem fact:joinedFacts Tryz.pinned.checked.prog 8 Tryz.f8 Rows.fnExactFormatSpec Rows.fnExactFormatRow=true:=by kernel_rfl
end Go.Proofs.YtggfmlobpmndoaaGreatDoor.fnExactFormat
