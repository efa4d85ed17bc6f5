import Derived.Test.YtlndmcdpndcgjaaDoorVsW5
import Derived.Test.YtlndmcdpndcgjaaDoorVsQc2
set_option linter.all false
namespace Go.Vs
set_option linter.unusedVariables false
set_option linter.unusedSimpArgs false
noncomputable section
theorem s_l9None (c : Cell) : F_s_l9None c = some (noCell c) := by
 obtain ⟨t, b⟩ := c
 unfold F_s_l9None noCell
 simp only [iEq, lLen_def]
 by_cases h : t = 0
 ·subst h
  rw [show ((0 : Int) == 0) = true from rfl, cnd_t, decide_eq_true rfl, Bool.true_and]
  cases b with
  | nil => rfl
  | cons x l =>
   have : (((x :: l).length : Int) == 0) = false := by simp; omega
   rw [this]; rfl
 ·have : (t == 0) = false := by simpa using h
  rw [this, cnd_f, decide_eq_false h]; rfl
theorem i_sameZero (c : Cell) : F_i_sameCell ((c.1, c.2), (0, [])) = some (noCell c) := by
 obtain ⟨t, b⟩ := c
 unfold F_i_sameCell noCell
 simp only [iEq, sEq]
 by_cases h : t = 0
 ·subst h
  rw [show ((0 : Int) == 0) = true from rfl, cnd_t, decide_eq_true rfl, Bool.true_and]
  cases b <;> rfl
 ·have : (t == 0) = false := by simpa using h
  rw [this, cnd_f, decide_eq_false h]; rfl
theorem optR_2 (o : Option (List UInt8)) : (optR o).2 = o.isSome := by cases o <;> rfl
theorem cellOk_old {o : Cell} (h : 1 ≤ o.1 ∧ o.1 ≤ 5) : cellOk o = decide (o.2.length ≤ 20) := by
 unfold cellOk
 rw [decide_eq_true (show 0 ≤ o.1 ∧ o.1 ≤ 5 by omega), Bool.true_and]
theorem s_RowOk {r : Row} (hl : r.1.length < 9223372036854775807) : F_s_RowOk r = some (rowOk r) := by
 obtain ⟨key, ⟨ot, ob⟩, ⟨nt, nb⟩, has, aside⟩ := r
 have n1 : F_s_NameOk key = some (nameOk key) := s_NameOk hl
 have n2 := s_CellText (ot, ob)
 have n3 := s_CellText (nt, nb)
 have n4 := s_l9None (ot, ob)
 have n5 := s_l9None (nt, nb)
 have n6 := s_SameText (ot, ob) (nt, nb)
 have n7 := s_CellOk (ot, ob)
 have nI : F_s_l1In (has, (1, 3)) = some (decide (1 ≤ has ∧ has ≤ 3)) := s_In _ _ _
 have nT : F_s_l1In (ot, (1, 5)) = some (decide (1 ≤ ot ∧ ot ≤ 5)) := s_In _ _ _
 unfold F_s_RowOk rowOk
 dsimp only
 rw [n1, bnd_s]
 cases hn : nameOk key with
 | false => rfl
 | true =>
 rw [bNot_t, cnd_f, nI, bnd_s]
 by_cases hh : 1 ≤ has ∧ has ≤ 3
 case neg => rw [decide_eq_false hh]; rfl
 rw [decide_eq_true hh, bNot_t, cnd_f]
 rcases (show has = 1 ∨ has = 2 ∨ has = 3 by omega) with rfl | rfl | rfl
 ·have o1 : F_s_l9Old (key, (ot, ob), (nt, nb), 1, aside) = some true := congrArg some (show iEq (iAnd .i64 1 1) 1 = true by decide +kernel)
  have o2 : F_s_l9New (key, (ot, ob), (nt, nb), 1, aside) = some false := congrArg some (show iEq (iAnd .i64 1 2) 2 = false by decide +kernel)
  simp only [o1, o2, n2, n3, n4, n5, n6, n7, nT, bnd_s, bNot_t, bNot_f, cnd_t, cnd_f, optR_2]
  rw [show iNe 1 3 = true from rfl, cnd_t]
  unfold rOldOk rNewOk
  rw [if_neg (by decide), if_pos rfl]
  by_cases hT : 1 ≤ ot ∧ ot ≤ 5
  ·rw [cellOk_old (o := (ot, ob)) hT]
   generalize noCell (nt, nb) = b1
   generalize decide (ob.length ≤ 20) = b2
   generalize (cellText (ot, ob)).isSome = b3
   simp only [decide_eq_true hT]
   cases b1 <;> cases b2 <;> cases b3 <;> cases aside <;> rfl
  ·simp only [decide_eq_false hT]
   generalize noCell (nt, nb) = b1
   cases b1 <;> rfl
 ·have o1 : F_s_l9Old (key, (ot, ob), (nt, nb), 2, aside) = some false := congrArg some (show iEq (iAnd .i64 2 1) 1 = false by decide +kernel)
  have o2 : F_s_l9New (key, (ot, ob), (nt, nb), 2, aside) = some true := congrArg some (show iEq (iAnd .i64 2 2) 2 = true by decide +kernel)
  simp only [o1, o2, n2, n3, n4, n5, n6, n7, nT, bnd_s, bNot_t, bNot_f, cnd_t, cnd_f, optR_2]
  rw [show iNe 2 3 = true from rfl, cnd_t]
  unfold rOldOk rNewOk
  rw [if_pos rfl, if_neg (by decide)]
  have e0 : iNe nt 0 = !decide (nt = 0) := by
   by_cases h : nt = 0
   ·subst h; rfl
   ·rw [iNe_y h, decide_eq_false h]; rfl
  rw [e0]
  generalize noCell (ot, ob) = b1
  generalize decide (nt = 0) = b2
  generalize (cellText (nt, nb)).isSome = b3
  cases b1 <;> cases b2 <;> cases b3 <;> rfl
 ·have o1 : F_s_l9Old (key, (ot, ob), (nt, nb), 3, aside) = some true := congrArg some (show iEq (iAnd .i64 3 1) 1 = true by decide +kernel)
  have o2 : F_s_l9New (key, (ot, ob), (nt, nb), 3, aside) = some true := congrArg some (show iEq (iAnd .i64 3 2) 2 = true by decide +kernel)
  simp only [o1, o2, n2, n3, n4, n5, n6, n7, nT, bnd_s, bNot_t, bNot_f, cnd_t, cnd_f, optR_2]
  rw [show iNe 3 3 = false from rfl]
  simp only [cnd_f]
  unfold rOldOk rNewOk
  rw [if_neg (by decide), if_neg (by decide)]
  have e0 : iNe nt 0 = !decide (nt = 0) := by
   by_cases h : nt = 0
   ·subst h; rfl
   ·rw [iNe_y h, decide_eq_false h]; rfl
  rw [e0]
  by_cases hT : 1 ≤ ot ∧ ot ≤ 5
  ·rw [cellOk_old (o := (ot, ob)) hT]
   simp only [decide_eq_true hT]
   generalize decide (nt = 0) = b1
   generalize decide (ob.length ≤ 20) = b2
   generalize (cellText (ot, ob)).isSome = b3
   generalize (cellText (nt, nb)).isSome = b4
   generalize sameText (ot, ob) (nt, nb) = b5
   cases b1 <;> cases b2 <;> cases b3 <;> cases b4 <;> cases b5 <;> cases aside <;> rfl
  ·simp only [decide_eq_false hT]
   generalize decide (nt = 0) = b1
   generalize (cellText (nt, nb)).isSome = b4
   cases b1 <;> cases b4 <;> rfl
theorem i_RowOk {r : Row} (hl : r.1.length < 9223372036854775807) : F_i_RowOk r = some (rowOk r) := by
 obtain ⟨key, ⟨ot, ob⟩, ⟨nt, nb⟩, has, aside⟩ := r
 have n1 : F_i_NameOk key = some (nameOk key) := i_NameOk hl
 have n2 := i_CellText (ot, ob)
 have n3 := i_CellText (nt, nb)
 have n4 : F_i_sameCell ((ot, ob), (0, [])) = some (noCell (ot, ob)) := i_sameZero (ot, ob)
 have n5 : F_i_sameCell ((nt, nb), (0, [])) = some (noCell (nt, nb)) := i_sameZero (nt, nb)
 have n6 := i_SameText (ot, ob) (nt, nb)
 have n7 := i_CellOk (ot, ob)
 have nI : F_i_within (has, (1, 3)) = some (decide (1 ≤ has ∧ has ≤ 3)) := i_In _ _ _
 unfold F_i_RowOk rowOk
 dsimp only
 rw [n1, bnd_s]
 cases hn : nameOk key with
 | false => rfl
 | true =>
 rw [bNot_t, cnd_f, nI, bnd_s]
 by_cases hh : 1 ≤ has ∧ has ≤ 3
 case neg => rw [decide_eq_false hh]; rfl
 rw [decide_eq_true hh, bNot_t, cnd_f]
 simp only [n2, n3, n4, n5, n6, n7, bnd_s, optR_2]
 have e0 : iEq nt 0 = decide (nt = 0) := by
  by_cases h : nt = 0
  ·subst h; rfl
  ·rw [iEq_n h, decide_eq_false h]
 have eC : cnd (cellOk (ot, ob)) (cnd (iNe ot 0) (cnd (cellText (ot, ob)).isSome (some (Sum.inl (β := Bool) true)) (cnd aside (some (.inl (iEq has 1))) (some (.inl false)))) (some (.inl false))) (some (.inl false)) = some (.inl (decide (1 ≤ ot ∧ ot ≤ 5) && decide (ob.length ≤ 20) && ((cellText (ot, ob)).isSome || (aside && iEq has 1)))) := by
  by_cases hT : 1 ≤ ot ∧ ot ≤ 5
  ·rw [cellOk_old (o := (ot, ob)) hT, decide_eq_true hT, iNe_y (by omega)]
   generalize decide (ob.length ≤ 20) = b2
   generalize (cellText (ot, ob)).isSome = b3
   generalize iEq has 1 = b4
   cases b2 <;> cases b3 <;> cases b4 <;> cases aside <;> rfl
  ·rw [decide_eq_false hT]
   by_cases h0 : ot = 0
   ·subst h0
    rw [show iNe 0 0 = false from rfl]
    cases cellOk (0, ob) <;> rfl
   ·have : cellOk (ot, ob) = false := by
     unfold cellOk
     rw [decide_eq_false (by simp only; omega)]; rfl
    rw [this]; rfl
 rw [eC, e0]
 rcases (show has = 1 ∨ has = 2 ∨ has = 3 by omega) with rfl | rfl | rfl
 ·unfold rOldOk rNewOk
  rw [if_neg (by decide), if_pos rfl, show iNe 1 2 = true from rfl, show iNe 1 1 = false from rfl, show iNe 1 3 = true from rfl, show iEq 1 1 = true from rfl]
  generalize (decide (1 ≤ ot ∧ ot ≤ 5)) = b0
  generalize noCell (nt, nb) = b1
  generalize decide (ob.length ≤ 20) = b2
  generalize (cellText (ot, ob)).isSome = b3
  cases b0 <;> cases b1 <;> cases b2 <;> cases b3 <;> cases aside <;> rfl
 ·unfold rOldOk rNewOk
  rw [if_pos rfl, if_neg (by decide), show iNe 2 2 = false from rfl, show iNe 2 1 = true from rfl, show iNe 2 3 = true from rfl]
  generalize noCell (ot, ob) = b1
  generalize decide (nt = 0) = b2
  generalize (cellText (nt, nb)).isSome = b3
  cases b1 <;> cases b2 <;> cases b3 <;> rfl
 ·unfold rOldOk rNewOk
  rw [if_neg (by decide), if_neg (by decide), show iNe 3 2 = true from rfl, show iNe 3 1 = true from rfl, show iNe 3 3 = false from rfl, show iEq 3 1 = false from rfl]
  generalize (decide (1 ≤ ot ∧ ot ≤ 5)) = b0
  generalize decide (nt = 0) = b1
  generalize decide (ob.length ≤ 20) = b2
  generalize (cellText (ot, ob)).isSome = b3
  generalize (cellText (nt, nb)).isSome = b4
  generalize sameText (ot, ob) (nt, nb) = b5
  cases b0 <;> cases b1 <;> cases b2 <;> cases b3 <;> cases b4 <;> cases b5 <;> cases aside <;> rfl
end
end Go.Vs
