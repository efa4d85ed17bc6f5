import Derived.Test.YtmfmjngkbddenaaGreatDoorRows
import Derived.JoinedOf
import Derived.WalkKit
set_option linter.all false
namespace Go.Proofs.YtmfmjngkbddenaaGreatDoor.fnTorn
theorem fact:joinedFacts Tryz.pinned.checked.prog 8 Tryz.f8 Rows.fnTornSpec Rows.fnTornRow=true:=by kernel_rfl
end Go.Proofs.YtmfmjngkbddenaaGreatDoor.fnTorn
