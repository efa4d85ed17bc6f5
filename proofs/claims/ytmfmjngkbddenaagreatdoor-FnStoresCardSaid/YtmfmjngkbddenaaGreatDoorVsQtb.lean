import Derived.Test.YtmfmjngkbddenaaGreatDoorVsW5
import Derived.Test.YtmfmjngkbddenaaGreatDoorVsQta
set_option linter.all false
namespace Go.Vs
noncomputable section
theorem Zbn {t:Tab}(h:Ca t=true):smT 100 t:=by
 obtain⟨o1,o2,o3,o4,o5,o6⟩:=Zbm h;exact⟨by omega,fun r hr=>by obtain⟨i,hi,rfl⟩:=Kpc hr;exact Zn8 (Zer o1 hi),by omega⟩
theorem Yeb {t:Tab}{r:Rec}(h:Ca t=true):Ca (Da t r).1=true:=by
 unfold Da;split
 ·rename_i h1;simp only[Kd]at h1;exact h1.2.2
 ·exact h
end
end Go.Vs
