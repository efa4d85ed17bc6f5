/-
  The closed facts of the row fnRowBytes (types, entries, names), by computation. Condition: none.
-/import Derived.Test.YtggfmlobpmndoaaGreatDoorRows
import Derived.JoinedOf
import Derived.WalkKit
set_option linter.all false
namespace Go.Proofs.YtggfmlobpmndoaaGreatDoor.fnRowBytes
theorem fact:joinedFacts Tryz.pinned.checked.prog 3 Tryz.f3 Rows.fnRowBytesSpec Rows.fnRowBytesRow = true:=by kernel_rfl
end Go.Proofs.YtggfmlobpmndoaaGreatDoor.fnRowBytes
