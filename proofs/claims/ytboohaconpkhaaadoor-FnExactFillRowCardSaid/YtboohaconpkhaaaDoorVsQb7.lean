import Derived.Test.YtboohaconpkhaaaDoorVsW5
import Derived.Test.YtboohaconpkhaaaDoorVsQb6
set_option linter.all false
namespace Go.Vs
set_option linter.unusedVariables false
set_option linter.unusedSimpArgs false
noncomputable section
theorem s_l9None (c : Cell) : F_s_l9None c = some (noCell c) := by
 obtain ⟨t, b⟩ := c
 unfold F_s_l9None noCell
 simp only [iEq, lLen_def]
 by_cases h : t = 0
 ·subst h
  rw [show ((0 : Int) == 0) = true from rfl, cnd_t, decide_eq_true rfl, Bool.true_and]
  cases b with
  | nil => rfl
  | cons x l =>
   have : (((x :: l).length : Int) == 0) = false := by simp; omega
   rw [this]; rfl
 ·have : (t == 0) = false := by simpa using h
  rw [this, cnd_f, decide_eq_false h]; rfl
theorem i_sameZero (c : Cell) : F_i_sameCell ((c.1, c.2), (0, [])) = some (noCell c) := by
 obtain ⟨t, b⟩ := c
 unfold F_i_sameCell noCell
 simp only [iEq, sEq]
 by_cases h : t = 0
 ·subst h
  rw [show ((0 : Int) == 0) = true from rfl, cnd_t, decide_eq_true rfl, Bool.true_and]
  cases b <;> rfl
 ·have : (t == 0) = false := by simpa using h
  rw [this, cnd_f, decide_eq_false h]; rfl
theorem optR_2 (o : Option (List UInt8)) : (optR o).2 = o.isSome := by cases o <;> rfl
theorem cellOk_old {o : Cell} (h : 1 ≤ o.1 ∧ o.1 ≤ 5) : cellOk o = decide (o.2.length ≤ 20) := by
 unfold cellOk
 rw [decide_eq_true (show 0 ≤ o.1 ∧ o.1 ≤ 5 by omega), Bool.true_and]
theorem s_RowOk {r : Row} (hl : r.1.length < 9223372036854775807) : F_s_RowOk r = some (rowOk r) := by
 obtain ⟨key, ⟨ot, ob⟩, ⟨nt, nb⟩, has, aside⟩ := r
 have n1 : F_s_NameOk key = some (nameOk key) := s_NameOk hl
 have n2 := s_CellText (ot, ob)
 have n3 := s_CellText (nt, nb)
 have n4 := s_l9None (ot, ob)
 have n5 := s_l9None (nt, nb)
 have n6 := s_SameText (ot, ob) (nt, nb)
 have n7 := s_CellOk (ot, ob)
 have nI : F_s_l1In (has, (1, 3)) = some (decide (1 ≤ has ∧ has ≤ 3)) := s_In _ _ _
 have nT : F_s_l1In (ot, (1, 5)) = some (decide (1 ≤ ot ∧ ot ≤ 5)) := s_In _ _ _
 unfold F_s_RowOk rowOk
 dsimp only
 rw [n1, bnd_s]
 cases hn : nameOk key with
 | false => rfl
 | true =>
 rw [bNot_t, cnd_f, nI, bnd_s]
 by_cases hh : 1 ≤ has ∧ has ≤ 3
 case neg => rw [decide_eq_false hh]; rfl
 rw [decide_eq_true hh, bNot_t, cnd_f]
 rcases (show has = 1 ∨ has = 2 ∨ has = 3 by omega) with rfl | rfl | rfl
 ·have o1 : F_s_l9Old (key, (ot, ob), (nt, nb), 1, aside) = some true := congrArg some (show iEq (iAnd .i64 1 1) 1 = true by decide +kernel)
  have o2 : F_s_l9New (key, (ot, ob), (nt, nb), 1, aside) = some false := congrArg some (show iEq (iAnd .i64 1 2) 2 = false by decide +kernel)
  simp only [o1, o2, n2, n3, n4, n5, n6, n7, nT, bnd_s, bNot_t, bNot_f, cnd_t, cnd_f, optR_2]
  rw [show iNe 1 3 = true from rfl, cnd_t]
  unfold rOldOk rNewOk
  rw [if_neg (by decide), if_pos rfl]
  by_cases hT : 1 ≤ ot ∧ ot ≤ 5
  ·rw [cellOk_old (o := (ot, ob)) hT]
   generalize noCell (nt, nb) = b1
   generalize decide (ob.length ≤ 20) = b2
   generalize (cellText (ot, ob)).isSome = b3
   simp only [decide_eq_true hT]
   cases b1 <;> cases b2 <;> cases b3 <;> cases aside <;> rfl
  ·simp only [decide_eq_false hT]
   generalize noCell (nt, nb) = b1
   cases b1 <;> rfl
 ·have o1 : F_s_l9Old (key, (ot, ob), (nt, nb), 2, aside) = some false := congrArg some (show iEq (iAnd .i64 2 1) 1 = false by decide +kernel)
  have o2 : F_s_l9New (key, (ot, ob), (nt, nb), 2, aside) = some true := congrArg some (show iEq (iAnd .i64 2 2) 2 = true by decide +kernel)
  simp only [o1, o2, n2, n3, n4, n5, n6, n7, nT, bnd_s, bNot_t, bNot_f, cnd_t, cnd_f, optR_2]
  rw [show iNe 2 3 = true from rfl, cnd_t]
  unfold rOldOk rNewOk
  rw [if_pos rfl, if_neg (by decide)]
  have e0 : iNe nt 0 = !decide (nt = 0) := by
   by_cases h : nt = 0
   ·subst h; rfl
   ·rw [iNe_y h, decide_eq_false h]; rfl
  rw [e0]
  generalize noCell (ot, ob) = b1
  generalize decide (nt = 0) = b2
  generalize (cellText (nt, nb)).isSome = b3
  cases b1 <;> cases b2 <;> cases b3 <;> rfl
 ·have o1 : F_s_l9Old (key, (ot, ob), (nt, nb), 3, aside) = some true := congrArg some (show iEq (iAnd .i64 3 1) 1 = true by decide +kernel)
  have o2 : F_s_l9New (key, (ot, ob), (nt, nb), 3, aside) = some true := congrArg some (show iEq (iAnd .i64 3 2) 2 = true by decide +kernel)
  simp only [o1, o2, n2, n3, n4, n5, n6, n7, nT, bnd_s, bNot_t, bNot_f, cnd_t, cnd_f, optR_2]
  rw [show iNe 3 3 = false from rfl]
  simp only [cnd_f]
  unfold rOldOk rNewOk
  rw [if_neg (by decide), if_neg (by decide)]
  have e0 : iNe nt 0 = !decide (nt = 0) := by
   by_cases h : nt = 0
   ·subst h; rfl
   ·rw [iNe_y h, decide_eq_false h]; rfl
  rw [e0]
  by_cases hT : 1 ≤ ot ∧ ot ≤ 5
  ·rw [cellOk_old (o := (ot, ob)) hT]
   simp only [decide_eq_true hT]
   generalize decide (nt = 0) = b1
   generalize decide (ob.length ≤ 20) = b2
   generalize (cellText (ot, ob)).isSome = b3
   generalize (cellText (nt, nb)).isSome = b4
   generalize sameText (ot, ob) (nt, nb) = b5
   cases b1 <;> cases b2 <;> cases b3 <;> cases b4 <;> cases b5 <;> cases aside <;> rfl
  ·simp only [decide_eq_false hT]
   generalize decide (nt = 0) = b1
   generalize (cellText (nt, nb)).isSome = b4
   cases b1 <;> cases b4 <;> rfl
theorem i_RowOk {r : Row} (hl : r.1.length < 9223372036854775807) : F_i_RowOk r = some (rowOk r) := by
 obtain ⟨key, ⟨ot, ob⟩, ⟨nt, nb⟩, has, aside⟩ := r
 have n1 : F_i_NameOk key = some (nameOk key) := i_NameOk hl
 have n2 := i_CellText (ot, ob)
 have n3 := i_CellText (nt, nb)
 have n4 : F_i_sameCell ((ot, ob), (0, [])) = some (noCell (ot, ob)) := i_sameZero (ot, ob)
 have n5 : F_i_sameCell ((nt, nb), (0, [])) = some (noCell (nt, nb)) := i_sameZero (nt, nb)
 have n6 := i_SameText (ot, ob) (nt, nb)
 have n7 := i_CellOk (ot, ob)
 have nI : F_i_within (has, (1, 3)) = some (decide (1 ≤ has ∧ has ≤ 3)) := i_In _ _ _
 unfold F_i_RowOk rowOk
 dsimp only
 rw [n1, bnd_s]
 cases hn : nameOk key with
 | false => rfl
 | true =>
 rw [bNot_t, cnd_f, nI, bnd_s]
 by_cases hh : 1 ≤ has ∧ has ≤ 3
 case neg => rw [decide_eq_false hh]; rfl
 rw [decide_eq_true hh, bNot_t, cnd_f]
 simp only [n2, n3, n4, n5, n6, n7, bnd_s, optR_2]
 have e0 : iEq nt 0 = decide (nt = 0) := by
  by_cases h : nt = 0
  ·subst h; rfl
  ·rw [iEq_n h, decide_eq_false h]
 have eC : cnd (cellOk (ot, ob)) (cnd (iNe ot 0) (cnd (cellText (ot, ob)).isSome (some (Sum.inl (β := Bool) true)) (cnd aside (some (.inl (iEq has 1))) (some (.inl false)))) (some (.inl false))) (some (.inl false)) = some (.inl (decide (1 ≤ ot ∧ ot ≤ 5) && decide (ob.length ≤ 20) && ((cellText (ot, ob)).isSome || (aside && iEq has 1)))) := by
  by_cases hT : 1 ≤ ot ∧ ot ≤ 5
  ·rw [cellOk_old (o := (ot, ob)) hT, decide_eq_true hT, iNe_y (by omega)]
   generalize decide (ob.length ≤ 20) = b2
   generalize (cellText (ot, ob)).isSome = b3
   generalize iEq has 1 = b4
   cases b2 <;> cases b3 <;> cases b4 <;> cases aside <;> rfl
  ·rw [decide_eq_false hT]
   by_cases h0 : ot = 0
   ·subst h0
    rw [show iNe 0 0 = false from rfl]
    cases cellOk (0, ob) <;> rfl
   ·have : cellOk (ot, ob) = false := by
     unfold cellOk
     rw [decide_eq_false (by simp only; omega)]; rfl
    rw [this]; rfl
 rw [eC, e0]
 rcases (show has = 1 ∨ has = 2 ∨ has = 3 by omega) with rfl | rfl | rfl
 ·unfold rOldOk rNewOk
  rw [if_neg (by decide), if_pos rfl, show iNe 1 2 = true from rfl, show iNe 1 1 = false from rfl, show iNe 1 3 = true from rfl, show iEq 1 1 = true from rfl]
  generalize (decide (1 ≤ ot ∧ ot ≤ 5)) = b0
  generalize noCell (nt, nb) = b1
  generalize decide (ob.length ≤ 20) = b2
  generalize (cellText (ot, ob)).isSome = b3
  cases b0 <;> cases b1 <;> cases b2 <;> cases b3 <;> cases aside <;> rfl
 ·unfold rOldOk rNewOk
  rw [if_pos rfl, if_neg (by decide), show iNe 2 2 = false from rfl, show iNe 2 1 = true from rfl, show iNe 2 3 = true from rfl]
  generalize noCell (ot, ob) = b1
  generalize decide (nt = 0) = b2
  generalize (cellText (nt, nb)).isSome = b3
  cases b1 <;> cases b2 <;> cases b3 <;> rfl
 ·unfold rOldOk rNewOk
  rw [if_neg (by decide), if_neg (by decide), show iNe 3 2 = true from rfl, show iNe 3 1 = true from rfl, show iNe 3 3 = false from rfl, show iEq 3 1 = false from rfl]
  generalize (decide (1 ≤ ot ∧ ot ≤ 5)) = b0
  generalize decide (nt = 0) = b1
  generalize decide (ob.length ≤ 20) = b2
  generalize (cellText (ot, ob)).isSome = b3
  generalize (cellText (nt, nb)).isSome = b4
  generalize sameText (ot, ob) (nt, nb) = b5
  cases b0 <;> cases b1 <;> cases b2 <;> cases b3 <;> cases b4 <;> cases b5 <;> cases aside <;> rfl
theorem s_l9New (r : Row) (h : rowOk r = true) : F_s_l9New r = some (decide (r.2.2.2.1 ≠ 1)) := by
 obtain ⟨_, h1, h3, _⟩ := rowOk_has h
 unfold F_s_l9New
 rcases (show r.2.2.2.1 = 1 ∨ r.2.2.2.1 = 2 ∨ r.2.2.2.1 = 3 by omega) with e | e | e <;> rw [e]
 ·exact congrArg some (show iEq (iAnd .i64 1 2) 2 = false by decide +kernel)
 ·exact congrArg some (show iEq (iAnd .i64 2 2) 2 = true by decide +kernel)
 ·exact congrArg some (show iEq (iAnd .i64 3 2) 2 = true by decide +kernel)
def fillRow (r : Row) : Row := if rowOk r = true ∧ r.2.2.2.1 = 1 then (match turn r.2.1 0 with
 | (_, false) => (r.1, r.2.1, r.2.2.1, r.2.2.2.1, true)
 | (d, true) => (r.1, r.2.1, d, 3, r.2.2.2.2)) else r
theorem fillRow_sm {r : Row} (h : smR 1048576 r) : smR 1048576 (fillRow r) := by
 have ht := turn_len (c := r.2.1) (cs := 0) h.2.1
 unfold fillRow
 split
 case isFalse => exact h
 cases hv : turn r.2.1 0 with
 | mk d ok =>
  rw [hv] at ht
  cases ok with
  | false => exact ⟨h.1, h.2.1, h.2.2⟩
  | true => exact ⟨h.1, h.2.1, ht⟩
theorem s_FillRow {r : Row} (h : smR 1048576 r) : F_s_FillRow r = some (fillRow r) := by
 have hk := h.1
 have e0 : F_s_l9Copy (r.1, ((r.2.1.1, r.2.1.2), ((r.2.2.1.1, r.2.2.1.2), (r.2.2.2.1, r.2.2.2.2)))) = some r := sCopyRow_ok h
 have e1 : F_s_RowOk (r.1, ((r.2.1.1, r.2.1.2), ((r.2.2.1.1, r.2.2.1.2), (r.2.2.2.1, r.2.2.2.2)))) = some (rowOk r) := s_RowOk (r := r) (by omega)
 have e2 : F_s_Turn ((r.2.1.1, r.2.1.2), 0) = some (turn r.2.1 0) := s_Turn (c := r.2.1) h.2.1
 unfold F_s_FillRow fillRow
 simp only [e0, e1, e2, bnd_s]
 cases hr : rowOk r with
 | false => rw [if_neg (fun k => by cases k.1)]; rfl
 | true =>
  rw [bNot_t, cnd_f, show F_s_l9New (r.1, ((r.2.1.1, r.2.1.2), ((r.2.2.1.1, r.2.2.1.2), (r.2.2.2.1, r.2.2.2.2)))) = some (decide (r.2.2.2.1 ≠ 1)) from s_l9New r hr, bnd_s]
  by_cases h1 : r.2.2.2.1 = 1
  ·rw [decide_eq_false (by simpa using h1), cnd_f, if_pos ⟨rfl, h1⟩]
   cases hv : turn r.2.1 0 with
   | mk d ok =>
    cases ok with
    | false => rfl
    | true => rfl
  ·rw [decide_eq_true h1, cnd_t, if_neg (fun k => h1 k.2)]
theorem i_FillRow {r : Row} (h : smR 1048576 r) : F_i_FillRow r = some (fillRow r) := by
 have hk := h.1
 have e0 : F_i_copyRow (r.1, ((r.2.1.1, r.2.1.2), ((r.2.2.1.1, r.2.2.1.2), (r.2.2.2.1, r.2.2.2.2)))) = some r := iCopyRow_ok h
 have e1 : F_i_RowOk (r.1, ((r.2.1.1, r.2.1.2), ((r.2.2.1.1, r.2.2.1.2), (r.2.2.2.1, r.2.2.2.2)))) = some (rowOk r) := i_RowOk (r := r) (by omega)
 have e2 : F_i_Turn ((r.2.1.1, r.2.1.2), 0) = some (turn r.2.1 0) := i_Turn (c := r.2.1) h.2.1
 unfold F_i_FillRow fillRow
 simp only [e0, e1, e2, bnd_s]
 cases hr : rowOk r with
 | false => rw [if_neg (fun k => by cases k.1)]; rfl
 | true =>
  rw [bNot_t, cnd_f]
  by_cases h1 : r.2.2.2.1 = 1
  ·rw [h1, iNe_r, cnd_f, if_pos ⟨rfl, rfl⟩]
   cases hv : turn r.2.1 0 with
   | mk d ok =>
    cases ok with
    | false => simp only [bNot_f, cnd_t, h1]
    | true => rfl
  ·rw [iNe_y h1, cnd_t, if_neg (fun k => h1 k.2)]
theorem law_rows {Fs Fi : Row → Option Row} {g : Row → Row} (hs : ∀ r, smR 1048576 r → Fs r = some (g r)) (hi : ∀ r, smR 1048576 r → Fi r = some (g r)) (hg : ∀ r, smR 1048576 r → smR 1048576 (g r)) {r : Row} (h : smR 9223372036854775807 r) :
  (bnd (F_l_szRow ((r.1, ((r.2.1.1, r.2.1.2), ((r.2.2.1.1, r.2.2.1.2), (r.2.2.2.1, r.2.2.2.2)))), 1048576)) (fun (z1 : Int) => (cnd (iLt z1 0) (some true) (bnd (F_l_toRow (r.1, ((r.2.1.1, r.2.1.2), ((r.2.2.1.1, r.2.2.1.2), (r.2.2.2.1, r.2.2.2.2))))) (fun (z2 : Row) => (bnd (Fs (z2.1, ((z2.2.1.1,
 z2.2.1.2), ((z2.2.2.1.1, z2.2.2.1.2), (z2.2.2.2.1, z2.2.2.2.2))))) (fun (z3 : Row) => (bnd (F_l_toRow
 (r.1, ((r.2.1.1, r.2.1.2), ((r.2.2.1.1, r.2.2.1.2), (r.2.2.2.1, r.2.2.2.2))))) (fun (z4 : Row) => (bnd
 (Fi (z4.1, ((z4.2.1.1, z4.2.1.2), ((z4.2.2.1.1, z4.2.2.1.2), (z4.2.2.2.1, z4.2.2.2.2))))) (fun (z5 : Row) => (bnd (F_l_eqRow ((z5.1, ((z5.2.1.1, z5.2.1.2), ((z5.2.2.1.1, z5.2.2.1.2), (z5.2.2.2.1, z5.2.2.2.2)))), (z3.1, ((z3.2.1.1, z3.2.1.2), ((z3.2.2.1.1, z3.2.2.1.2),
 (z3.2.2.2.1, z3.2.2.2.2)))))) (fun (z6 : Bool) => (cnd (bNot z6) (some false) (bnd (F_l_toRow (r.1, ((r.2.1.1, r.2.1.2), ((r.2.2.1.1, r.2.2.1.2), (r.2.2.2.1, r.2.2.2.2))))) (fun
 (z7 : Row) => (bnd (F_l_eqRow ((z4.1, ((z4.2.1.1, z4.2.1.2), ((z4.2.2.1.1, z4.2.2.1.2), (z4.2.2.2.1,
 z4.2.2.2.2)))), (z7.1, ((z7.2.1.1, z7.2.1.2), ((z7.2.2.1.1, z7.2.2.1.2), (z7.2.2.2.1, z7.2.2.2.2)))))) (fun (z8 : Bool) => (cnd (bNot z8) (some false) (bnd (F_l_markRow ((z4.1,
 ((z4.2.1.1, z4.2.1.2), ((z4.2.2.1.1, z4.2.2.1.2), (z4.2.2.2.1, z4.2.2.2.2)))), 1)) (fun (z9 : (Int × ((List UInt8) × (List UInt8)))) => (chk (nEq z9.2.1.length z4.2.1.2.length)
 (chk (nEq z9.2.2.length z4.2.2.1.2.length) (cnd (iLt z9.1 0) (some false) (bnd (F_l_eqRow ((z5.1, ((z5.2.1.1, z5.2.1.2), ((z5.2.2.1.1, z5.2.2.1.2), (z5.2.2.2.1, z5.2.2.2.2)))),
 (z3.1, ((z3.2.1.1, z3.2.1.2), ((z3.2.2.1.1, z3.2.2.1.2), (z3.2.2.2.1, z3.2.2.2.2)))))) (fun (z10 : Bool) => (cnd (bNot z10) (some false) (bnd (F_l_markRow ((z5.1, ((z5.2.1.1,
 z5.2.1.2), ((z5.2.2.1.1, z5.2.2.1.2), (z5.2.2.2.1, z5.2.2.2.2)))), 1)) (fun (z11 : (Int × ((List UInt8) × (List UInt8)))) => (chk (nEq z11.2.1.length z5.2.1.2.length) (chk (nEq
 z11.2.2.length z5.2.2.1.2.length) (bnd (F_l_heldRow ((z5.1, ((z5.2.1.1, z11.2.1), ((z5.2.2.1.1, z11.2.2), (z5.2.2.2.1, z5.2.2.2.2)))), 1)) (fun (z12 : Int) => (cnd (iLt z12 0)
 (some false) (cnd (iNe z12 z11.1) (some false) (bnd (F_l_toRow (r.1, ((r.2.1.1, r.2.1.2), ((r.2.2.1.1, r.2.2.1.2), (r.2.2.2.1, r.2.2.2.2))))) (fun (z13 : Row) => (bnd (Fi (z13.1, ((z13.2.1.1, z13.2.1.2), ((z13.2.2.1.1, z13.2.2.1.2), (z13.2.2.2.1, z13.2.2.2.2))))) (fun
 (z14 : Row) => (bnd (F_l_eqRow ((z14.1, ((z14.2.1.1, z14.2.1.2), ((z14.2.2.1.1, z14.2.2.1.2),
 (z14.2.2.2.1, z14.2.2.2.2)))), (z3.1, ((z3.2.1.1, z3.2.1.2), ((z3.2.2.1.1, z3.2.2.1.2), (z3.2.2.2.1, z3.2.2.2.2)))))) (fun (z15 : Bool) => (cnd (bNot z15) (some false) (bnd
 (F_l_heldRow ((z5.1, ((z5.2.1.1, z11.2.1), ((z5.2.2.1.1, z11.2.2), (z5.2.2.2.1, z5.2.2.2.2)))), 1)) (fun (z16 : Int) => (cnd (iLt z16 0) (some false) (cnd (iNe z16 z11.1) (some
 false) (some true))))))))))))))))))))))))))))))))))))))))))))))) = some true := by
 obtain ⟨z, h1, h2, h3⟩ := szRow_ok (k := 1048576) (by omega) (by omega) h
 rw [show F_l_szRow ((r.1, ((r.2.1.1, r.2.1.2), ((r.2.2.1.1, r.2.2.1.2), (r.2.2.2.1, r.2.2.2.2)))), 1048576) = some z from h1, bnd_s]
 by_cases hz : z < 0
 ·rw [iLt_y hz]; rfl
 have hs' := h3 (by omega)
 have hq := hg r hs'
 obtain ⟨m1, x1, y1, a1, a2, a3, a4, a5⟩ := markRow_ok hs'
 obtain ⟨m2, x2, y2, b1, b2, b3, b4, b5⟩ := markRow_ok hq
 have e1 : F_l_toRow (r.1, ((r.2.1.1, r.2.1.2), ((r.2.2.1.1, r.2.2.1.2), (r.2.2.2.1, r.2.2.2.2)))) = some r := toRow_ok (hs'.mono (by omega))
 have e2 : Fs (r.1, ((r.2.1.1, r.2.1.2), ((r.2.2.1.1, r.2.2.1.2), (r.2.2.2.1, r.2.2.2.2)))) = some (g r) := hs r hs'
 have e3 : Fi (r.1, ((r.2.1.1, r.2.1.2), ((r.2.2.1.1, r.2.2.1.2), (r.2.2.2.1, r.2.2.2.2)))) = some (g r) := hi r hs'
 have e4 : F_l_eqRow ((r.1, ((r.2.1.1, r.2.1.2), ((r.2.2.1.1, r.2.2.1.2), (r.2.2.2.1, r.2.2.2.2)))), (r.1, ((r.2.1.1, r.2.1.2), ((r.2.2.1.1, r.2.2.1.2), (r.2.2.2.1, r.2.2.2.2))))) = some true := eqRow_ok (hs'.mono (by omega))
 have e5 : F_l_eqRow (((g r).1, (((g r).2.1.1, (g r).2.1.2), (((g r).2.2.1.1, (g r).2.2.1.2), ((g r).2.2.2.1, (g r).2.2.2.2)))), ((g r).1, (((g r).2.1.1, (g r).2.1.2), (((g r).2.2.1.1, (g r).2.2.1.2), ((g r).2.2.2.1, (g r).2.2.2.2))))) = some true := eqRow_ok (hq.mono (by omega))
 have e6 : F_l_markRow ((r.1, ((r.2.1.1, r.2.1.2), ((r.2.2.1.1, r.2.2.1.2), (r.2.2.2.1, r.2.2.2.2)))), 1) = some (m1, x1, y1) := a1
 have e7 : F_l_markRow (((g r).1, (((g r).2.1.1, (g r).2.1.2), (((g r).2.2.1.1, (g r).2.2.1.2), ((g r).2.2.2.1, (g r).2.2.2.2)))), 1) = some (m2, x2, y2) := b1
 rw [iLt_n (by omega), cnd_f]
 simp (disch := omega) only [e1, e2, e3, e4, e5, e6, e7, bnd_s, cnd_f, bNot_t, a3, a4, b3, b4, nEq_r, chk_t, iLt_n, b2, iNe_r]
theorem law_FillRow {r : Row} (h : smR 9223372036854775807 r) : F_l_FnExactFillRow r = some true :=
 law_rows (Fs := F_s_FillRow) (Fi := F_i_FillRow) (g := fillRow) (fun r h => s_FillRow h) (fun r h => i_FillRow h) (fun r h => fillRow_sm h) h
end
end Go.Vs
