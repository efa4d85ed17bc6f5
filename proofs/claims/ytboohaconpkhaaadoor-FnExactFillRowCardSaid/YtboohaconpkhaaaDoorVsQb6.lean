import Derived.Test.YtboohaconpkhaaaDoorVsW5
import Derived.Test.YtboohaconpkhaaaDoorVsQb5
set_option linter.all false
namespace Go.Vs
set_option linter.unusedVariables false
set_option linter.unusedSimpArgs false
noncomputable section
theorem cellText_len {c : Cell} {t : List UInt8} (h : cellText c = some t) : t.length ≤ 80 := by
 obtain ⟨h1, h2⟩ := cellText_ok h
 simp only [cellOk, Bool.and_eq_true, decide_eq_true_eq] at h1
 simp only [decodeT, Option.map_eq_some_iff] at h2
 obtain ⟨ns, h3, rfl⟩ := h2
 have hc : c.1.toNat ≤ 5 := by omega
 have h4 := putAll_len hc (putAll_of hc _ (Nat.le_refl _) h3).1
 have := textOf_len ns
 omega
def turn (c : Cell) (cs : Int) : Cell × Bool := match cellText c with
 | none => (c, false)
 | some t => match cellOf cs t with
  | none => (c, false)
  | some d => (d, true)
theorem s_Turn {c : Cell} {cs : Int} (h : c.2.length ≤ 1048576) : F_s_Turn (c, cs) = some (turn c cs) := by
 have e1 : F_s_l8Copy (c.1, c.2) = some c := by unfold F_s_l8Copy; rw [room_ok (by simp only; omega)]; rfl
 unfold F_s_Turn turn
 simp only
 rw [show F_s_CellText (c.1, c.2) = some (optR (cellText c)) from s_CellText c, bnd_s]
 cases hc : cellText c with
 | none =>
  simp only [optR, bNot_f, cnd_t, e1, bnd_s]
  rw [s_CellOf (by simp), bnd_s]
 | some t =>
  have hl := cellText_len hc
  simp only [optR, bNot_t, cnd_f, e1, bnd_s]
  rw [s_CellOf (by omega), bnd_s]
  cases cellOf cs t with
  | none => rfl
  | some d => rfl
theorem i_Turn {c : Cell} {cs : Int} (h : c.2.length ≤ 1048576) : F_i_Turn (c, cs) = some (turn c cs) := by
 have e1 : F_i_copyCell (c.1, c.2) = some c := by unfold F_i_copyCell; rw [joined1_ok (by simp only; omega)]; rfl
 unfold F_i_Turn turn
 simp only
 rw [show F_i_CellText (c.1, c.2) = some (optR (cellText c)) from i_CellText c, bnd_s]
 cases hc : cellText c with
 | none => simp only [optR, bNot_f, cnd_t, e1, bnd_s]
 | some t =>
  have hl := cellText_len hc
  simp only [optR, bNot_t, cnd_f, e1]
  rw [i_CellOf (by omega), bnd_s]
  cases cellOf cs t with
  | none => simp only [cR, bNot_f, cnd_t, bnd_s]
  | some d => rfl
theorem turn_len {c : Cell} {cs : Int} (h : c.2.length ≤ 1048576) : (turn c cs).1.2.length ≤ 1048576 := by
 unfold turn
 split
 ·exact h
 ·rename_i t ht
  have := cellOf_len cs t
  split
  ·exact h
  ·rename_i d hd
   rw [hd] at this
   have : d.2.length ≤ 20 := this
   show d.2.length ≤ _; omega
end
end Go.Vs
