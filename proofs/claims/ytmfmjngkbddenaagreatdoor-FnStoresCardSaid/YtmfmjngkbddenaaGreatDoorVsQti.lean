import Derived.Test.YtmfmjngkbddenaaGreatDoorVsW5
import Derived.Test.YtmfmjngkbddenaaGreatDoorVsQth
set_option linter.all false
namespace Go.Vs
noncomputable section
theorem Zx6 {c:Ba}(h:Ey c=true):c.2.length=0:=by rw[Q4 h];rfl
theorem Zzz {r:Row}(h:Bn r=true):smR 60 r:=by
 obtain⟨a,b,c,d,e,_⟩:=I7 h;have h1:=(O0 a).2;refine⟨by omega, ?_, ?_⟩
 ·by_cases h2:r.2.2.2.1=2
  ·rw[Fp,if_pos h2]at d;have:=Zx6 d;omega
  ·have:=(Ti d h2).2.2.1;omega
 ·by_cases h2:r.2.2.2.1=1
  ·rw[Gh,if_pos h2]at e;have:=Zx6 e;omega
  ·have:=(Zav e h2).2.2;omega
theorem Rd.of {l:List UInt8}{a:Int}(h:0<=a/\a<=l.length):Rd l a (suf l a):=⟨h.1,h.2,rfl⟩
end
end Go.Vs
