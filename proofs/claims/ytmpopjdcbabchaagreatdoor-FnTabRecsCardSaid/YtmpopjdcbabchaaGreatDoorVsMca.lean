/-
  The closed facts of the row fnTabRecs (types, entries, names), by computation. Condition: none.
-/import Derived.Test.YtmpopjdcbabchaaGreatDoorRows
import Derived.JoinedOf
import Derived.WalkKit
set_option linter.all false
namespace Go.Proofs.YtmpopjdcbabchaaGreatDoor.fnTabRecs
theorem fact:joinedFacts Tryz.pinned.checked.prog 4 Tryz.f4 Rows.fnTabRecsSpec Rows.fnTabRecsRow=true:=by kernel_rfl
end Go.Proofs.YtmpopjdcbabchaaGreatDoor.fnTabRecs
