import Derived.Test.YtmfmjngkbddenaaGreatDoorVsW5
import Derived.Test.YtmfmjngkbddenaaGreatDoorVsQob
set_option linter.all false
namespace Go.Vs
noncomputable section
def Lz:Row:=([],((0,[]),((0,[]),(0,false))))
theorem Zwy {c:Ce}(h:E1 c=true):c.2.length=0:=by rw[Sp h];rfl
theorem Zyr {r:Row}(h:Ci r=true):smR 60 r:=by
 obtain⟨a,b,c,d,e,_⟩:=Mw h;have h1:=(Zw a).2;refine⟨by omega, ?_, ?_⟩
 ·by_cases h2:r.2.2.2.1=2
  ·rw[Im,if_pos h2]at d;have:=Zwy d;omega
  ·have:=(Zgo d h2).2.2.1;omega
 ·by_cases h2:r.2.2.2.1=1
  ·rw[Il,if_pos h2]at e;have:=Zwy e;omega
  ·have:=(Zgn e h2).2.2;omega
theorem Zxm {t q:List UInt8}{r:Row}(h:Eu t=some (r,q)):Fk t=if Ci r=true then some (r,q) else none:=by
 unfold Fk;rw[h]
theorem Yq5 {t:List UInt8}(h:Eu t=none):Fk t=none:=by
 unfold Fk;rw[h]
theorem Rd.of {l:List UInt8}{a:Int}(h:0<=a/\a<=l.length):Rd l a (suf l a):=⟨h.1,h.2,rfl⟩
theorem Yq3 {t q:List UInt8}{r:Row}(h:Eu t=some (r,q)):r.1.length<=60:=by
 unfold Eu at h;split at h
 ·cases h
 ·rename_i hk;have:=(Tl hk).2
  repeat (first|(split at h;· cases h)|split at h)
  all_goals first|(cases h;done)|(simp only[Ka,Kb]at h;obtain⟨rfl,rfl⟩:=h;exact this)
end
end Go.Vs
