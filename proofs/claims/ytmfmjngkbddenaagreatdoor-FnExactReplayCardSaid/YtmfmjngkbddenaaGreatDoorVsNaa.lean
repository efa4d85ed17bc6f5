/-
  The closed facts of the row fnExactReplay (types, entries, names), by computation. Condition: none.
-/
import Derived.Test.YtmfmjngkbddenaaGreatDoorRows
import Derived.JoinedOf
import Derived.WalkKit
set_option linter.all false
namespace Go.Proofs.YtmfmjngkbddenaaGreatDoor.fnExactReplay
theorem fact:joinedFacts Tryz.pinned.checked.prog 6 Tryz.f6 Rows.fnExactReplaySpec Rows.fnExactReplayRow=true:=by kernel_rfl
end Go.Proofs.YtmfmjngkbddenaaGreatDoor.fnExactReplay
