import Derived.Test.YtgleokjlebkdcaaDoorVsW5
import Derived.Test.YtgleokjlebkdcaaDoorVsQe5
set_option linter.all false
namespace Go.Vs
noncomputable section
theorem sameCell_r (c:Cell):F_l_sameCell (c,c) = some true:=by unfold F_l_sameCell;simp only [iEq_r,cnd_t,sEq_r]
theorem text_of {cs:Int} {t:List UInt8} {c:Cell} (h:cellOf cs t = some c):cellText c = some t ∧ c.1 = cs:=by
 unfold cellOf at h
 cases he:encV cs t with
 | none => rw [he] at h;cases h
 | some b =>
  rw [he] at h
  have hc:=encV_cs he
  unfold encV at he
  rw [if_pos hc] at he
  simp only at h
  split at h
  ·rename_i hl
   simp only [Option.some.injEq] at h;subst h
   refine ⟨?_,rfl⟩
   unfold cellText cellOk
   rw [if_pos (by simp [hc,hl])]
   exact decode_of_encode (by omega) he
  ·cases h
end
end Go.Vs
