/-
  The closed facts of the row fnRecs (types, entries, names), by computation. Condition: none.
-/import Derived.Test.YtggfmlobpmndoaaGreatDoorRows
import Derived.JoinedOf
import Derived.WalkKit
set_option linter.all false
namespace Go.Proofs.YtggfmlobpmndoaaGreatDoor.fnRecs
theorem fact:joinedFacts Tryz.pinned.checked.prog 9 Tryz.f9 Rows.fnRecsSpec Rows.fnRecsRow=true:=by kernel_rfl
end Go.Proofs.YtggfmlobpmndoaaGreatDoor.fnRecs
