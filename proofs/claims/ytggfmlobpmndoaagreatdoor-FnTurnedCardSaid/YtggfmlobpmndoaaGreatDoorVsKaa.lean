/-
  The closed facts of the row fnTurned (types, entries, names), by computation. Condition: none.
-/import Derived.Test.YtggfmlobpmndoaaGreatDoorRows
import Derived.JoinedOf
import Derived.WalkKit
set_option linter.all false
namespace Go.Proofs.YtggfmlobpmndoaaGreatDoor.fnTurned
theorem fact:joinedFacts Tryz.pinned.checked.prog 4 Tryz.f4 Rows.fnTurnedSpec Rows.fnTurnedRow = true:=by kernel_rfl
end Go.Proofs.YtggfmlobpmndoaaGreatDoor.fnTurned
