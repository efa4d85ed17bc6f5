import Derived.Test.YtmfmjngkbddenaaGreatDoorVsW5
import Derived.Test.YtmfmjngkbddenaaGreatDoorVsQod
set_option linter.all false
namespace Go.Vs
noncomputable section
end
end Go.Vs
