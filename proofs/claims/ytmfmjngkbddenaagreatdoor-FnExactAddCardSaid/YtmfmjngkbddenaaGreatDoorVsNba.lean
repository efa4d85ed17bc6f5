/-
  The closed facts of the row fnExactAdd (types, entries, names), by computation. Condition: none.
-/
import Derived.Test.YtmfmjngkbddenaaGreatDoorRows
import Derived.JoinedOf
import Derived.WalkKit
set_option linter.all false
namespace Go.Proofs.YtmfmjngkbddenaaGreatDoor.fnExactAdd
theorem fact:joinedFacts Tryz.pinned.checked.prog 3 Tryz.f3 Rows.fnExactAddSpec Rows.fnExactAddRow=true:=by kernel_rfl
end Go.Proofs.YtmfmjngkbddenaaGreatDoor.fnExactAdd
