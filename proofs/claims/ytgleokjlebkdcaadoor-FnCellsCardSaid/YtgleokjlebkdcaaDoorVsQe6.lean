import Derived.Test.YtgleokjlebkdcaaDoorVsW5
import Derived.Test.YtgleokjlebkdcaaDoorVsQe5
set_option linter.all false
namespace Go.Vs
set_option linter.unusedVariables false
set_option linter.unusedSimpArgs false
noncomputable section
theorem sameCell_r (c : Cell) : F_l_sameCell (c, c) = some true := by unfold F_l_sameCell; simp only [iEq_r, cnd_t, sEq_r]
theorem sameText_c (a b : Cell) : sameText a b = sameText b a := by
 unfold sameText
 cases cellText a <;> cases cellText b <;> simp only
 exact Bool.beq_comm ..
theorem text_of {cs : Int} {t : List UInt8} {c : Cell} (h : cellOf cs t = some c) : cellText c = some t ∧ c.1 = cs := by
 unfold cellOf at h
 cases he : encV cs t with
 | none => rw [he] at h; cases h
 | some b =>
  rw [he] at h
  have hc := encV_cs he
  unfold encV at he
  rw [if_pos hc] at he
  simp only at h
  split at h
  ·rename_i hl
   simp only [Option.some.injEq] at h; subst h
   refine ⟨?_, rfl⟩
   unfold cellText cellOk
   rw [if_pos (by simp [hc, hl])]
   exact decode_of_encode (by omega) he
  ·cases h
theorem of_text {c : Cell} {t : List UInt8} (h : cellText c = some t) : cellOf c.1 t = some c := by
 obtain ⟨h1, h2⟩ := cellText_ok h
 simp only [cellOk, Bool.and_eq_true, decide_eq_true_eq] at h1
 unfold cellOf encV
 rw [if_pos h1.1, encode_of_decode (by omega) h2]
 simp only
 rw [if_pos h1.2]
theorem law_Cells {x : List UInt8} (hx : x.length ≤ 9223372036854775807) : F_l_FnCells x = some true := by
 unfold F_l_FnCells
 by_cases hb : 1048576 < x.length
 ·rw [big_y hb]; rfl
 have hx : B20 x := by unfold B20; omega
 rw [big_n (by unfold B20 at hx; omega), bnd_s, cnd_f]
 obtain ⟨h, e0⟩ := l1New_ok hx
 obtain ⟨c, s1, e1, m1, k1⟩ := l8Any_ok (s := (0, h)) hx (Int.le_refl _)
 obtain ⟨tag, s2, e2, _, k2⟩ := l1Int_ok (s := (s1.1, s1.2)) [0, 0, 1, 2, 3, 4, 5, 6] hx k1 (by simp)
 have a1 : F_s_DrawTurn x = some (c, tag) := by unfold F_s_DrawTurn; rw [e0, bnd_s, e1, bnd_s]; simp only [e2, bnd_s]
 obtain ⟨ct, cx, a2, hcx⟩ : ∃ (ct : Int) (cx : List UInt8), F_s_DrawCellOf x = some (ct, cx) ∧ cx.length ≤ 1000 := by
  unfold F_s_DrawCellOf
  rw [e0, bnd_s]
  obtain ⟨cs, s3, e3, _, k3⟩ := l3Any_ok (s := (0, h)) hx (Int.le_refl _)
  rw [e3, bnd_s]
  obtain ⟨t, s4, e4, k4⟩ := l1Once_ok (s := (s3.1, s3.2)) 6 hx k3
  simp only [e4, bnd_s]
  cases t with
  | true =>
   obtain ⟨ns, s5, e5, l5, _, k5⟩ := l5Text_ok (s := (s4.1, s4.2)) cs 12 hx k4 (by omega)
   have hl := textOf_len ns
   simp only [show ((12 : Nat) : Int) = 12 from rfl] at e5
   simp only [cnd_t, e5, bnd_s]
   exact ⟨_, _, rfl, by (try simp only); omega⟩
  | false =>
   rw [cnd_f]
   unfold F_s_DrawEncode
   rw [e0, bnd_s, e3, bnd_s]
   obtain ⟨ns, s5, e5, l5, _, k5⟩ := l5Text_ok (s := (s3.1, s3.2)) cs 5 hx k3 (by omega)
   have hl := textOf_len ns
   simp only [show ((5 : Nat) : Int) = 5 from rfl] at e5
   simp only [e5, bnd_s]
   obtain ⟨v6, s6, e6, _, _, k6⟩ := l1Below_ok (s := (s5.1, s5.2)) 4 hx k5
   simp only [e6, bnd_s, iEq_x]
   by_cases c0 : (v6 : Int) = 0
   ·rw [decide_eq_true c0, cnd_t]
    obtain ⟨v, s7, e7, h7, k7⟩ := l2Bent_ok (s := (s6.1, s6.2)) hx k6
    simp only [e7, bnd_s]
    exact ⟨_, _, rfl, by (try simp only); omega⟩
   rw [decide_eq_false c0, cnd_f]
   by_cases c1 : (v6 : Int) = 1
   ·rw [decide_eq_true c1, cnd_t]
    obtain ⟨v, s7, e7, h7, k7⟩ := l1Str_ok (s := (s6.1, s6.2)) [[195, 169], [226, 130, 172], [255], [208, 176]] hx k6 (by simp)
    have h4 : v.length ≤ 4 := by
     have : ([[195, 169], [226, 130, 172], [255], [208, 176]] : List (List UInt8)).all (fun v => decide (v.length ≤ 4)) = true := by decide +kernel
     exact of_decide_eq_true (List.all_eq_true.1 this v h7)
    simp only [e7, bnd_s]
    rw [smallB_ok (by omega) (by omega), chk_t, bnd_s]
    exact ⟨_, _, rfl, by simp only [lApp, List.length_append]; omega⟩
   ·rw [decide_eq_false c1, cnd_f, bnd_s]
    exact ⟨_, _, rfl, by (try simp only); omega⟩
 obtain ⟨p, q, a3⟩ : ∃ p q : Cell, F_s_DrawSameText x = some (p, q) := by
  unfold F_s_DrawSameText
  rw [e0, bnd_s, e1, bnd_s]
  obtain ⟨t, s4, e4, k4⟩ := l1Once_ok (s := (s1.1, s1.2)) 2 hx k1
  simp only [e4, bnd_s]
  cases t with
  | true =>
   rw [cnd_t, show F_s_Turn ((c.1, c.2), 0) = _ from s_Turn (c := c) (by unfold cellL at m1; omega), bnd_s]
   exact ⟨_, _, rfl⟩
  | false =>
   rw [cnd_f]
   obtain ⟨c', s5, e5, _, k5⟩ := l8Any_ok (s := (s4.1, s4.2)) hx k4
   simp only [e5, bnd_s]
   exact ⟨_, _, rfl⟩
 have hc : c.2.length ≤ 1048576 := by unfold cellL at m1; omega
 have hs : ∀ a b : Cell, F_l_sameCell ((a.1, a.2), (b.1, b.2)) = F_l_sameCell (a, b) := fun _ _ => rfl
 rw [a1, bnd_s]
 simp only
 rw [show F_i_Turn ((c.1, c.2), tag) = _ from i_Turn (c := c) hc, bnd_s, show F_s_Turn ((c.1, c.2), tag) = _ from s_Turn (c := c) hc, bnd_s, a2, bnd_s]
 simp only
 rw [i_CellOf (by omega), bnd_s, s_CellOf (by omega), bnd_s, a3, bnd_s]
 simp only [hs, sameCell_r, bnd_s, bNot_t, bNe_r, cnd_f, show F_i_SameText ((p.1, p.2), (q.1, q.2)) = _ from i_SameText p q, show F_s_SameText ((p.1, p.2), (q.1, q.2)) = _ from s_SameText p q, show F_i_SameText ((q.1, q.2), (p.1, p.2)) = _ from i_SameText q p, sameText_c q p]
 have mid : ∀ (k : Unit → Option Bool), (joinX (cnd (cR (cellOf ct cx)).2 (bnd (F_i_CellText ((cR (cellOf ct cx)).1.1, (cR (cellOf ct cx)).1.2)) (fun (z15 : ((List UInt8) × Bool)) => (cnd (bNot z15.2) (some (.inr false)) (cnd (bNot (sEq z15.1 cx)) (some (.inr false)) (bnd (F_i_CellOk ((cR (cellOf ct cx)).1.1, (cR (cellOf ct cx)).1.2)) (fun (z16 : Bool) => (cnd (bNot z16) (some (.inr false)) (some (.inl ()))))))))) (some (.inl ()))) k) = k () := by
  intro k
  cases hq : cellOf ct cx with
  | none => rfl
  | some d =>
   have ht := (text_of hq).1
   simp only [cR, cnd_t]
   rw [show F_i_CellText (d.1, d.2) = _ from i_CellText d, bnd_s, ht]
   simp only [optR, bNot_t, cnd_f, sEq_r]
   rw [show F_i_CellOk (d.1, d.2) = _ from i_CellOk d, bnd_s, (cellText_ok ht).1]
   rfl
 rw [mid]
 cases hc1 : cellText c with
 | none =>
  have et : turn c tag = (c, false) := by unfold turn; rw [hc1]
  rw [et]
  simp only [bNot_f, cnd_t]
  rw [hs, sameCell_r]; rfl
 | some t =>
  cases hc2 : cellOf tag t with
  | none =>
   have et : turn c tag = (c, false) := by unfold turn; rw [hc1]; simp only [hc2]
   rw [et]
   simp only [bNot_f, cnd_t]
   rw [hs, sameCell_r]; rfl
  | some d =>
   have et : turn c tag = (d, true) := by unfold turn; rw [hc1]; simp only [hc2]
   obtain ⟨h1, h2⟩ := text_of hc2
   have hd : d.2.length ≤ 1048576 := by
    have := cellOf_len tag t
    rw [hc2] at this
    have : d.2.length ≤ 20 := this
    omega
   have eb : turn d c.1 = (c, true) := by unfold turn; rw [h1]; simp only [of_text hc1]
   rw [et]
   simp only [bNot_t, cnd_f]
   rw [show F_i_Turn ((d.1, d.2), c.1) = _ from i_Turn (c := d) hd, bnd_s, eb, show F_i_SameText ((d.1, d.2), (c.1, c.2)) = _ from i_SameText d c, bnd_s]
   have es : sameText d c = true := by unfold sameText; rw [h1, hc1]; simp
   rw [es]
   simp only [cnd_t]
   rw [hs, sameCell_r, bnd_s, cnd_t, h2, iEq_r]
end
end Go.Vs
