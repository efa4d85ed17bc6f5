import Derived.Test.YtmfmjngkbddenaaGreatDoorVsQth
set_option linter.all false
namespace Go.Vs
noncomputable section
theorem Zyk {c:Bb}(h:Ex c=true):c.2.length=0:=by rw[Q9 h];rfl
theorem Yad {r:Row}(h:Bo r=true):smR 60 r:=by
 obtain⟨a,b,c,d,e,_⟩:=I9 h;have h1:=(O3 a).2;refine⟨by omega, ?_, ?_⟩
 ·by_cases h2:r.2.2.2.1=2
  ·rw[Fp,if_pos h2]at d;have:=Zyk d;omega
  have:=(Tw d h2).2.2.1;omega
 by_cases h2:r.2.2.2.1=1
 ·rw[Gi,if_pos h2]at e;have:=Zyk e;omega
 have:=(Za5 e h2).2.2;omega
theorem Rd.of {l:List UInt8}{a:Int}(h:0<=a/\a<=l.length):Rd l a (suf l a):=⟨h.1,h.2,rfl⟩
end
end Go.Vs
