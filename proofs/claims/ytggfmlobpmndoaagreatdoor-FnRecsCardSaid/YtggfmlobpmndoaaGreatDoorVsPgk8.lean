import Derived.Test.YtggfmlobpmndoaaGreatDoorProg
import Derived.Test.YtggfmlobpmndoaaGreatDoorVsPgk7
set_option linter.all false
namespace Go.Vs
open Go.Proofs
set_option maxRecDepth 100000
end Go.Vs
