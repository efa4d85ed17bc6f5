import Derived.Test.YteaoaehkkcbmbaaGreatDoorVsQvh
set_option linter.all false
namespace Go.Vs
noncomputable section
def sL{c:BI}(h:FV c=true):c.2.length=0:=by rw[OV h];rfl
def te{r:A8}(h:Co r=true):Fz 60 r:=by
 obtain⟨a,b,c,d,e,_⟩:=JL h;have g:=(Q8 a).2;refine⟨by omega, ?_, ?_⟩
 .by_cases f:r.2.2.2.1=2
  .rw[GF,Af f]at d;have:=sL d;omega
  have:=(Ti d f).2.2.1;omega
 by_cases f:r.2.2.2.1=1
 .rw[Hr,Af f]at e;have:=sL e;omega
 have:=(bZ e f).2.2;omega
def sn{t q:List UInt8}{r:A8}(h:FX t=some (r,q)):GD t=if Co r=true then some (r,q) else none:=by
 unfold GD;rw[h]
def Zky{t:List UInt8}(h:FX t=none):GD t=none:=by
 unfold GD;rw[h]
def Rd.of{l:List UInt8}{a:Int}(h:0<=a/\a<=l.length):Rd l a (FE l a):=⟨h.1,h.2,rfl⟩
def Zkw{t q:List UInt8}{r:A8}(h:FX t=some (r,q)):r.1.length<=60:=by
 unfold FX at h;split at h
 .cases h
 rename_i a;have:=(Rc a).2
 repeat (first|(split at h;· cases h)|split at h)
 all_goals first|(cases h;done)|(simp only[Ac,A5]at h;obtain⟨rfl,rfl⟩:=h;exact this)
end
end Go.Vs
