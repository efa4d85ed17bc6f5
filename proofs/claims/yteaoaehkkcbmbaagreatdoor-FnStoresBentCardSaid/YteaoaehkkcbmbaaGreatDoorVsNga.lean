import Derived.Test.YteaoaehkkcbmbaaGreatDoorRows
import Derived.JoinedOf
import Derived.WalkKit
set_option linter.all false
namespace Go.Proofs.YteaoaehkkcbmbaaGreatDoor.fnStoresBent
theorem fact:joinedFacts Tryz.pinned.checked.prog 3 Tryz.f3 Rows.fnStoresBentSpec Rows.fnStoresBentRow=true:=by kernel_rfl
end Go.Proofs.YteaoaehkkcbmbaaGreatDoor.fnStoresBent
