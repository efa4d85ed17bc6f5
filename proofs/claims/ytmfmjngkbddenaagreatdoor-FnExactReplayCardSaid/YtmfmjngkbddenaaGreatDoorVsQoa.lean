import Derived.Test.YtmfmjngkbddenaaGreatDoorVsW5
import Derived.Test.YtmfmjngkbddenaaGreatDoorVsQo9
set_option linter.all false
namespace Go.Vs
noncomputable section
end
end Go.Vs
