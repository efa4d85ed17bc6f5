import Derived.Test.YtmfmjngkbddenaaGreatDoorVsW5
import Derived.Test.YtmfmjngkbddenaaGreatDoorVsQob
set_option linter.all false
namespace Go.Vs
noncomputable section
def N0:Row:=([],((0,[]),((0,[]),(0,false))))
theorem Rd.of {l:List UInt8}{a:Int}(h:0<=a/\a<=l.length):Rd l a (suf l a):=⟨h.1,h.2,rfl⟩
end
end Go.Vs
