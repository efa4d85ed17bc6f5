/-
  The closed facts of the row fnStores (types, entries, names), by computation. Condition: none.
-/
import Derived.Test.YtmfmjngkbddenaaGreatDoorRows
import Derived.JoinedOf
import Derived.WalkKit
set_option linter.all false
namespace Go.Proofs.YtmfmjngkbddenaaGreatDoor.fnStores
theorem fact:joinedFacts Tryz.pinned.checked.prog 7 Tryz.f7 Rows.fnStoresSpec Rows.fnStoresRow=true:=by kernel_rfl
end Go.Proofs.YtmfmjngkbddenaaGreatDoor.fnStores
