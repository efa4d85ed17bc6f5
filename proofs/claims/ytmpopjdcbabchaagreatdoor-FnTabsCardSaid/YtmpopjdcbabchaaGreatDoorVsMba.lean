/-
  The closed facts of the row fnTabs (types, entries, names), by computation. Condition: none.
-/import Derived.Test.YtmpopjdcbabchaaGreatDoorRows
import Derived.JoinedOf
import Derived.WalkKit
set_option linter.all false
namespace Go.Proofs.YtmpopjdcbabchaaGreatDoor.fnTabs
theorem fact:joinedFacts Tryz.pinned.checked.prog 3 Tryz.f3 Rows.fnTabsSpec Rows.fnTabsRow=true:=by kernel_rfl
end Go.Proofs.YtmpopjdcbabchaaGreatDoor.fnTabs
