import Derived.Test.YtmfmjngkbddenaaGreatDoorVsW5
import Derived.Test.YtmfmjngkbddenaaGreatDoorVsQob
set_option linter.all false
namespace Go.Vs
noncomputable section
def J2:Row:=([],((0,[]),((0,[]),(0,false))))
theorem Zrx {c:Cc}(h:Eh c=true):c.2.length=0:=by rw[Qr h];rfl
theorem Ztg {r:Row}(h:C3 r=true):smR 60 r:=by
 obtain⟨a,b,c,d,e,_⟩:=Zdo h;have h1:=(Xf a).2;refine⟨by omega, ?_, ?_⟩
 ·by_cases h2:r.2.2.2.1=2
  ·rw[Hh,if_pos h2]at d;have:=Zrx d;omega
  ·have:=(Zjx d h2).2.2.1;omega
 ·by_cases h2:r.2.2.2.1=1
  ·rw[Hg,if_pos h2]at e;have:=Zrx e;omega
  ·have:=(Zjw e h2).2.2;omega
theorem Zsj {t q:List UInt8}{r:Row}(h:Eb t=some (r,q)):Ex t=if C3 r=true then some (r,q) else none:=by
 unfold Ex;rw[h]
theorem Yji {t:List UInt8}(h:Eb t=none):Ex t=none:=by
 unfold Ex;rw[h]
theorem Rd.of {l:List UInt8}{a:Int}(h:0<=a/\a<=l.length):Rd l a (suf l a):=⟨h.1,h.2,rfl⟩
theorem Yjg {t q:List UInt8}{r:Row}(h:Eb t=some (r,q)):r.1.length<=60:=by
 unfold Eb at h;split at h
 ·cases h
 ·rename_i hk;have:=(Re hk).2
  repeat (first|(split at h;· cases h)|split at h)
  all_goals first|(cases h;done)|(simp only[Ka,Kb]at h;obtain⟨rfl,rfl⟩:=h;exact this)
end
end Go.Vs
