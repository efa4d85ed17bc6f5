/-
  The closed facts of the row fnExactApply (types, entries, names), by computation. Condition: none.
-/import Derived.Test.YtmpopjdcbabchaaGreatDoorRows
import Derived.JoinedOf
import Derived.WalkKit
set_option linter.all false
namespace Go.Proofs.YtmpopjdcbabchaaGreatDoor.fnExactApply
theorem fact:joinedFacts Tryz.pinned.checked.prog 5 Tryz.f5 Rows.fnExactApplySpec Rows.fnExactApplyRow=true:=by kernel_rfl
end Go.Proofs.YtmpopjdcbabchaaGreatDoor.fnExactApply
