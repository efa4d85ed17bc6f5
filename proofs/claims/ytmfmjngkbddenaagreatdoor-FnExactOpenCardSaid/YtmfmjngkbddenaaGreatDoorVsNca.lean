/-
  The closed facts of the row fnExactOpen (types, entries, names), by computation. Condition: none.
-/
import Derived.Test.YtmfmjngkbddenaaGreatDoorRows
import Derived.JoinedOf
import Derived.WalkKit
set_option linter.all false
namespace Go.Proofs.YtmfmjngkbddenaaGreatDoor.fnExactOpen
theorem fact:joinedFacts Tryz.pinned.checked.prog 4 Tryz.f4 Rows.fnExactOpenSpec Rows.fnExactOpenRow=true:=by kernel_rfl
end Go.Proofs.YtmfmjngkbddenaaGreatDoor.fnExactOpen
