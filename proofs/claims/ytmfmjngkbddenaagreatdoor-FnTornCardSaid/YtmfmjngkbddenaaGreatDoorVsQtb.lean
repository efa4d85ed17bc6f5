import Derived.Test.YtmfmjngkbddenaaGreatDoorVsQta
set_option linter.all false
namespace Go.Vs
noncomputable section
theorem Xg {t:Tab}(h:B7 t=true):smT 100 t:=by
 obtain⟨o1,o2,o3,o4,o5,o6⟩:=Zbw h;exact⟨by omega,fun r hr=>by obtain⟨i,hi,rfl⟩:=Krc hr;exact Zoq (Ze1 o1 hi),by omega⟩
theorem Yeq {t:Tab}{r:Rec}(h:B7 t=true):B7 (Cj t r).1=true:=by
 unfold Cj;split
 ·rename_i h1;simp only[Kd]at h1;exact h1.2.2
 exact h
end
end Go.Vs
