/-
  The closed facts of the row fnTabsBent (types, entries, names), by computation. Condition: none.
-/import Derived.Test.YtmpopjdcbabchaaGreatDoorRows
import Derived.JoinedOf
import Derived.WalkKit
set_option linter.all false
namespace Go.Proofs.YtmpopjdcbabchaaGreatDoor.fnTabsBent
theorem fact:joinedFacts Tryz.pinned.checked.prog 6 Tryz.f6 Rows.fnTabsBentSpec Rows.fnTabsBentRow=true:=by kernel_rfl
end Go.Proofs.YtmpopjdcbabchaaGreatDoor.fnTabsBent
