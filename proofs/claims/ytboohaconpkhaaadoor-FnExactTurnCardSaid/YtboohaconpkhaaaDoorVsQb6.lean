import Derived.Test.YtboohaconpkhaaaDoorVsW5
import Derived.Test.YtboohaconpkhaaaDoorVsQb5
set_option linter.all false
namespace Go.Vs
set_option linter.unusedVariables false
set_option linter.unusedSimpArgs false
noncomputable section
theorem cellText_len {c : Cell} {t : List UInt8} (h : cellText c = some t) : t.length ≤ 80 := by
 obtain ⟨h1, h2⟩ := cellText_ok h
 simp only [cellOk, Bool.and_eq_true, decide_eq_true_eq] at h1
 simp only [decodeT, Option.map_eq_some_iff] at h2
 obtain ⟨ns, h3, rfl⟩ := h2
 have hc : c.1.toNat ≤ 5 := by omega
 have h4 := putAll_len hc (putAll_of hc _ (Nat.le_refl _) h3).1
 have := textOf_len ns
 omega
def turn (c : Cell) (cs : Int) : Cell × Bool := match cellText c with
 | none => (c, false)
 | some t => match cellOf cs t with
  | none => (c, false)
  | some d => (d, true)
theorem s_Turn {c : Cell} {cs : Int} (h : c.2.length ≤ 1048576) : F_s_Turn (c, cs) = some (turn c cs) := by
 have e1 : F_s_l8Copy (c.1, c.2) = some c := by unfold F_s_l8Copy; rw [room_ok (by simp only; omega)]; rfl
 unfold F_s_Turn turn
 simp only
 rw [show F_s_CellText (c.1, c.2) = some (optR (cellText c)) from s_CellText c, bnd_s]
 cases hc : cellText c with
 | none =>
  simp only [optR, bNot_f, cnd_t, e1, bnd_s]
  rw [s_CellOf (by simp), bnd_s]
 | some t =>
  have hl := cellText_len hc
  simp only [optR, bNot_t, cnd_f, e1, bnd_s]
  rw [s_CellOf (by omega), bnd_s]
  cases cellOf cs t with
  | none => rfl
  | some d => rfl
theorem i_Turn {c : Cell} {cs : Int} (h : c.2.length ≤ 1048576) : F_i_Turn (c, cs) = some (turn c cs) := by
 have e1 : F_i_copyCell (c.1, c.2) = some c := by unfold F_i_copyCell; rw [joined1_ok (by simp only; omega)]; rfl
 unfold F_i_Turn turn
 simp only
 rw [show F_i_CellText (c.1, c.2) = some (optR (cellText c)) from i_CellText c, bnd_s]
 cases hc : cellText c with
 | none => simp only [optR, bNot_f, cnd_t, e1, bnd_s]
 | some t =>
  have hl := cellText_len hc
  simp only [optR, bNot_t, cnd_f, e1]
  rw [i_CellOf (by omega), bnd_s]
  cases cellOf cs t with
  | none => simp only [cR, bNot_f, cnd_t, bnd_s]
  | some d => rfl
theorem turn_len {c : Cell} {cs : Int} (h : c.2.length ≤ 1048576) : (turn c cs).1.2.length ≤ 1048576 := by
 unfold turn
 split
 ·exact h
 ·rename_i t ht
  have := cellOf_len cs t
  split
  ·exact h
  ·rename_i d hd
   rw [hd] at this
   have : d.2.length ≤ 20 := this
   show d.2.length ≤ _; omega
theorem law_Turn {x : Cell × Int} (h : x.1.2.length ≤ 9223372036854775807) : F_l_FnExactTurn x = some true := by
 obtain ⟨c, cs⟩ := x
 simp only at h
 unfold F_l_FnExactTurn
 simp only
 obtain ⟨z, h1, h2, h3⟩ := szCell_ok (c := c) (k := 1048576) (by omega) (by omega) h
 rw [show F_l_szCell ((c.1, c.2), 1048576) = some z from h1, bnd_s]
 by_cases hz : z < 0
 ·rw [iLt_y hz]; rfl
 rw [iLt_n (by omega), cnd_f]
 have hs := h3 (by omega)
 have e0 : F_l_toCell (c.1, c.2) = some c := toCell_ok (c := c) (by omega)
 have e1 : F_s_Turn ((c.1, c.2), cs) = some (turn c cs) := s_Turn (c := c) (by omega)
 have e2 : F_i_Turn ((c.1, c.2), cs) = some (turn c cs) := i_Turn (c := c) (by omega)
 have ht := turn_len (c := c) (cs := cs) (by omega)
 generalize turn c cs = v at e1 e2 ht
 obtain ⟨d, ok⟩ := v
 simp only at ht
 obtain ⟨m1, x1, a1, a2, a3, a4, a5⟩ := markCell_ok (c := c) (m := 1) (by omega) (by omega) (by omega)
 obtain ⟨m2, x2, b1, b2, b3, b4, b5⟩ := markCell_ok (c := d) (m := 1) (by omega) (by omega) (by omega)
 have e3 : F_l_eqCell ((c.1, c.2), (c.1, c.2)) = some true := eqCell_ok (c := c) (by omega)
 have e4 : F_l_eqCell ((d.1, d.2), (d.1, d.2)) = some true := eqCell_ok (c := d) (by omega)
 have e5 : F_l_markCell ((c.1, c.2), 1) = some (m1, x1) := a1
 have e6 : F_l_markCell ((d.1, d.2), 1) = some (m2, x2) := b1
 simp (disch := omega) only [e0, e1, e2, e3, e4, e5, e6, a3, b2, b3, bnd_s, cnd_f, bNot_t, nEq_r, chk_t, iLt_n, iNe_r, bNe_r]
end
end Go.Vs
