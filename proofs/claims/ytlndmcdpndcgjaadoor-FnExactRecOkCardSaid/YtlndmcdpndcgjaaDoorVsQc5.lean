import Derived.Test.YtlndmcdpndcgjaaDoorVsW4
import Derived.Test.YtlndmcdpndcgjaaDoorVsQc4
set_option linter.all false
namespace Go.Vs
set_option linter.unusedVariables false
set_option linter.unusedSimpArgs false
noncomputable section
/-! ## records -/
abbrev Rec := Int × Row × List UInt8 × Int × Int × Int × Int
def noRow (r : Row) : Bool := r.1.isEmpty && noCell r.2.1 && noCell r.2.2.1 && decide (r.2.2.2.1 = 0) && !r.2.2.2.2
def bodyOk (k : Int) (R : Row) (key : List UInt8) (n : Int) : Bool :=
  if k = 1 then rowOk R && key.isEmpty && decide (n = 0)
  else if k = 2 then noRow R && nameOk key && decide (n = 0)
  else if k = 3 then noRow R && key.isEmpty && decide (0 ≤ n ∧ n ≤ 7)
  else if k = 4 then noRow R && key.isEmpty && decide (n = 0)
  else false
def whoOk (k who seq code : Int) : Bool := if who = 0 then decide (seq = 0 ∧ code = 0 ∧ k ≠ 4) else decide (1 ≤ who ∧ who ≤ 9 ∧ 0 ≤ seq ∧ seq ≤ 65535 ∧ 0 ≤ code ∧ code ≤ 6)
def recOk (r : Rec) : Bool := bodyOk r.1 r.2.1 r.2.2.1 r.2.2.2.1 && whoOk r.1 r.2.2.2.2.1 r.2.2.2.2.2.1 r.2.2.2.2.2.2
/-! ## RecOk -/
theorem cnd_and (a b : Bool) : cnd a (some b) (some false) = some (a && b) := by cases a <;> rfl
theorem cnd_andL {ρ : Type} (a b : Bool) : cnd a (some (.inl b)) (some (.inl false)) = (some (.inl (a && b)) : Option (Bool ⊕ ρ)) := by cases a <;> rfl
theorem sEq_nil (l : List UInt8) : sEq l [] = l.isEmpty := by cases l <;> rfl
theorem iEq_d (a b : Int) : iEq a b = decide (a = b) := by simp only [iEq]; rfl
theorem s_noRow (r : Row) : F_s_l11NoRow r = some (noRow r) := by
  obtain ⟨key, ⟨ot, ob⟩, ⟨nt, nb⟩, has, aside⟩ := r
  unfold F_s_l11NoRow noRow
  have e1 := s_l9None (ot, ob)
  have e2 := s_l9None (nt, nb)
  simp only [e1, e2, bnd_s, cnd_and, sEq_nil, iEq_d]
  congr 1
  cases aside <;> simp [bNot, Bool.and_assoc]
theorem i_noRow (r : Row) : F_i_sameRow ((r.1, ((r.2.1.1, r.2.1.2), ((r.2.2.1.1, r.2.2.1.2), (r.2.2.2.1, r.2.2.2.2)))), ([], ((0, []), ((0, []), (0, false))))) = some (noRow r) := by
  obtain ⟨key, ⟨ot, ob⟩, ⟨nt, nb⟩, has, aside⟩ := r
  unfold F_i_sameRow noRow
  have e1 : F_i_sameCell ((ot, ob), (0, [])) = _ := i_sameZero (ot, ob)
  have e2 : F_i_sameCell ((nt, nb), (0, [])) = _ := i_sameZero (nt, nb)
  simp only [e1, e2, bnd_s, cnd_and, sEq_nil, iEq_d]
  congr 1
  cases aside <;> simp [bEq, Bool.and_assoc]
theorem who_s (k w sq cd : Int) : cnd (decide (w = 0)) (some (decide (sq = 0) && (decide (cd = 0) && iNe k 4))) (some (decide (1 ≤ w ∧ w ≤ 9) && (decide (0 ≤ sq ∧ sq ≤ 65535) && decide (0 ≤ cd ∧ cd ≤ 6)))) = some (whoOk k w sq cd) := by
  unfold whoOk
  by_cases h : w = 0
  · rw [decide_eq_true h, cnd_t, if_pos h]
    simp only [iNe]
    congr 1
    rw [Bool.eq_iff_iff]
    simp
  · rw [decide_eq_false h, cnd_f, if_neg h]
    congr 1
    rw [Bool.eq_iff_iff]
    simp only [Bool.and_eq_true, decide_eq_true_eq]
    omega
theorem body_s (k n : Int) (R : Row) (key : List UInt8) (f : Bool) : (joinX (cnd (decide (k = 1)) (some (.inl (rowOk R, (key.isEmpty, decide (n = 0))))) (cnd (decide (k = 2)) (some (.inl (noRow R, (nameOk key, decide (n = 0))))) (cnd (decide (k = 3)) (some (.inl (noRow R, (key.isEmpty, decide (0 ≤ n ∧ n ≤ 7))))) (some (.inl (noRow R, (key.isEmpty, decide (n = 0))))))) : Option ((Bool × Bool × Bool) ⊕ Bool)) fun z => some (decide (1 ≤ k ∧ k ≤ 4) && (z.1 && (z.2.1 && (z.2.2 && f))))) = some (bodyOk k R key n && f) := by
  unfold bodyOk
  rcases (show k = 1 ∨ k = 2 ∨ k = 3 ∨ k = 4 ∨ ¬ (1 ≤ k ∧ k ≤ 4) by omega) with rfl | rfl | rfl | rfl | h
  · generalize rowOk R = a; generalize key.isEmpty = b; generalize decide (n = 0) = c
    cases a <;> cases b <;> cases c <;> cases f <;> rfl
  · generalize noRow R = a; generalize nameOk key = b; generalize decide (n = 0) = c
    cases a <;> cases b <;> cases c <;> cases f <;> rfl
  · generalize noRow R = a; generalize key.isEmpty = b; generalize decide (0 ≤ n ∧ n ≤ 7) = c
    cases a <;> cases b <;> cases c <;> cases f <;> rfl
  · generalize noRow R = a; generalize key.isEmpty = b; generalize decide (n = 0) = c
    cases a <;> cases b <;> cases c <;> cases f <;> rfl
  · rw [decide_eq_false h, decide_eq_false (show ¬ k = 1 by omega), decide_eq_false (show ¬ k = 2 by omega), decide_eq_false (show ¬ k = 3 by omega), if_neg (by omega), if_neg (by omega), if_neg (by omega), if_neg (by omega)]
    rfl
theorem s_RecOk {r : Rec} (h1 : r.2.1.1.length < 9223372036854775807) (h2 : r.2.2.1.length < 9223372036854775807) : F_s_RecOk r = some (recOk r) := by
  obtain ⟨k, ⟨key, ⟨ot, ob⟩, ⟨nt, nb⟩, has, aside⟩, name, n, w, sq, cd⟩ := r
  simp only at h1 h2
  have e1 := s_noRow (key, ((ot, ob), ((nt, nb), (has, aside))))
  have e2 : F_s_RowOk (key, ((ot, ob), ((nt, nb), (has, aside)))) = _ := s_RowOk (by simp only; omega)
  have e3 := s_NameOk h2
  have e4 : ∀ x l h : Int, F_s_l1In (x, (l, h)) = some (decide (l ≤ x ∧ x ≤ h)) := s_In
  unfold F_s_RecOk recOk F_s_l11Who F_s_l1Word
  simp only [e1, e2, e3, e4, bnd_s, cnd_and, sEq_nil, iEq_d, who_s, body_s]
theorem body_i (k n w : Int) (R : Row) (key : List UInt8) : cnd (decide (k = 1)) (some (.inl (rowOk R && (key.isEmpty && decide (n = 0))))) (cnd (decide (k = 2)) (some (.inl (noRow R && (nameOk key && decide (n = 0))))) (cnd (decide (k = 3)) (some (.inl (noRow R && (key.isEmpty && decide (0 ≤ n ∧ n ≤ 7))))) (some (.inl (decide (k = 4) && (noRow R && (key.isEmpty && (decide (n = 0) && iNe w 0)))))))) = (some (.inl (bodyOk k R key n && !(decide (k = 4 ∧ w = 0)))) : Option (Bool ⊕ Bool)) := by
  unfold bodyOk
  rcases (show k = 1 ∨ k = 2 ∨ k = 3 ∨ k = 4 ∨ ¬ (1 ≤ k ∧ k ≤ 4) by omega) with rfl | rfl | rfl | rfl | h
  · generalize rowOk R = a; generalize key.isEmpty = b; generalize decide (n = 0) = c
    rw [decide_eq_false (show ¬ ((1 : Int) = 4 ∧ w = 0) by omega)]
    cases a <;> cases b <;> cases c <;> rfl
  · generalize noRow R = a; generalize nameOk key = b; generalize decide (n = 0) = c
    rw [decide_eq_false (show ¬ ((2 : Int) = 4 ∧ w = 0) by omega)]
    cases a <;> cases b <;> cases c <;> rfl
  · generalize noRow R = a; generalize key.isEmpty = b; generalize decide (0 ≤ n ∧ n ≤ 7) = c
    rw [decide_eq_false (show ¬ ((3 : Int) = 4 ∧ w = 0) by omega)]
    cases a <;> cases b <;> cases c <;> rfl
  · generalize noRow R = a; generalize key.isEmpty = b; generalize decide (n = 0) = c
    rw [show decide ((4 : Int) = 4 ∧ w = 0) = !iNe w 0 by rw [Bool.eq_iff_iff]; simp [iNe]]
    generalize iNe w 0 = d
    cases a <;> cases b <;> cases c <;> cases d <;> rfl
  · rw [decide_eq_false (show ¬ k = 1 by omega), decide_eq_false (show ¬ k = 2 by omega), decide_eq_false (show ¬ k = 3 by omega), decide_eq_false (show ¬ k = 4 by omega), if_neg (by omega), if_neg (by omega), if_neg (by omega), if_neg (by omega)]
    rfl
theorem who_i (k w sq cd : Int) (b : Bool) : cnd (decide (w = 0)) (some ((b && !(decide (k = 4 ∧ w = 0))) && (decide (sq = 0) && decide (cd = 0)))) (some ((b && !(decide (k = 4 ∧ w = 0))) && (decide (1 ≤ w ∧ w ≤ 9) && (decide (0 ≤ sq ∧ sq ≤ 65535) && decide (0 ≤ cd ∧ cd ≤ 6))))) = some (b && whoOk k w sq cd) := by
  unfold whoOk
  by_cases h : w = 0
  · rw [decide_eq_true h, cnd_t, if_pos h]
    congr 1
    rw [Bool.and_assoc]; congr 1
    rw [Bool.eq_iff_iff]
    simp only [Bool.and_eq_true, decide_eq_true_eq, Bool.not_eq_true', decide_eq_false_iff_not]
    omega
  · rw [decide_eq_false h, cnd_f, if_neg h]
    congr 1
    rw [Bool.and_assoc]; congr 1
    rw [Bool.eq_iff_iff]
    simp only [Bool.and_eq_true, decide_eq_true_eq, Bool.not_eq_true', decide_eq_false_iff_not]
    omega
theorem i_RecOk {r : Rec} (h1 : r.2.1.1.length < 9223372036854775807) (h2 : r.2.2.1.length < 9223372036854775807) : F_i_RecOk r = some (recOk r) := by
  obtain ⟨k, ⟨key, ⟨ot, ob⟩, ⟨nt, nb⟩, has, aside⟩, name, n, w, sq, cd⟩ := r
  simp only at h1 h2
  have e1 := i_noRow (key, ((ot, ob), ((nt, nb), (has, aside))))
  have e2 : F_i_RowOk (key, ((ot, ob), ((nt, nb), (has, aside)))) = _ := i_RowOk (by simp only; omega)
  have e3 := i_NameOk h2
  have e4 : ∀ x l h : Int, F_i_within (x, (l, h)) = some (decide (l ≤ x ∧ x ≤ h)) := i_In
  simp only at e1
  unfold F_i_RecOk recOk F_i_isWord
  simp only [e1, e2, e3, e4, bnd_s, cnd_and, cnd_andL, sEq_nil, iEq_d, body_i, joinX_l, who_i]
/-! records: bytes, copies, marks -/
def smC (B : Nat) (r : Rec) : Prop := smR B r.2.1 ∧ r.2.2.1.length ≤ B
theorem smC.mono {A B : Nat} {r : Rec} (h : smC A r) (hab : A ≤ B) : smC B r := ⟨h.1.mono hab, Nat.le_trans h.2 hab⟩
theorem szRec_ok {r : Rec} {k : Int} (h0 : 0 ≤ k) (hk : k ≤ 1048576) (hl : smC 9223372036854775807 r) : SzR (F_l_szRec (r, k)) k (smC 1048576 r) := by
  unfold F_l_szRec
  refine SzR.seq h0 (szRow_ok (r := r.2.1) h0 hk hl.1) fun z hz hz2 => ?_
  have e : iSub .i64 z (lLen r.2.2.1) = z - r.2.2.1.length := iSub_ok (by have := hl.2; simp only [lLen_def]; omega) (by simp only [lLen_def]; omega)
  refine (SzR.sub (P := True) hz (by omega) hl.2 fun h => by simp only [e]; exact SzR.done).mono (Int.le_refl _) fun h => by have := h.1; omega
theorem toRec_ok {r : Rec} (h : smC 140737488355328 r) : F_l_toRec r = some r := by
  unfold F_l_toRec
  rw [show F_l_toRow (r.2.1.1, ((r.2.1.2.1.1, r.2.1.2.1.2), ((r.2.1.2.2.1.1, r.2.1.2.2.1.2), (r.2.1.2.2.2.1, r.2.1.2.2.2.2)))) = some r.2.1 from toRow_ok h.1]; rfl
theorem eqRec_ok {r : Rec} (h : smC 9223372036854775806 r) : F_l_eqRec (r, r) = some true := by
  have e : F_l_eqRow ((r.2.1.1, ((r.2.1.2.1.1, r.2.1.2.1.2), ((r.2.1.2.2.1.1, r.2.1.2.2.1.2), (r.2.1.2.2.2.1, r.2.1.2.2.2.2)))), (r.2.1.1, ((r.2.1.2.1.1, r.2.1.2.1.2), ((r.2.1.2.2.1.1, r.2.1.2.2.1.2), (r.2.1.2.2.2.1, r.2.1.2.2.2.2))))) = some true := eqRow_ok h.1
  unfold F_l_eqRec
  simp only [iNe_r, cnd_f, sEq_r, bNot_t, e, bnd_s]
theorem law_RecOk {r : Rec} (h : smC 9223372036854775807 r) : F_l_FnExactRecOk r = some true := by
  obtain ⟨z, h1, h2, h3⟩ := szRec_ok (k := 1048576) (by omega) (by omega) h
  unfold F_l_FnExactRecOk
  rw [show F_l_szRec ((r.1, ((r.2.1.1, ((r.2.1.2.1.1, r.2.1.2.1.2), ((r.2.1.2.2.1.1, r.2.1.2.2.1.2), (r.2.1.2.2.2.1, r.2.1.2.2.2.2)))), (r.2.2.1, (r.2.2.2.1, (r.2.2.2.2.1, (r.2.2.2.2.2.1, r.2.2.2.2.2.2)))))), 1048576) = some z from h1, bnd_s]
  by_cases hz : z < 0
  · rw [iLt_y hz]; rfl
  rw [iLt_n (by omega), cnd_f]
  have hs := h3 (by omega)
  have e1 : F_l_toRec (r.1, ((r.2.1.1, ((r.2.1.2.1.1, r.2.1.2.1.2), ((r.2.1.2.2.1.1, r.2.1.2.2.1.2), (r.2.1.2.2.2.1, r.2.1.2.2.2.2)))), (r.2.2.1, (r.2.2.2.1, (r.2.2.2.2.1, (r.2.2.2.2.2.1, r.2.2.2.2.2.2)))))) = some r := toRec_ok (hs.mono (by omega))
  have k1 := hs.1.1
  have k2 := hs.2
  have e2 : F_s_RecOk (r.1, ((r.2.1.1, ((r.2.1.2.1.1, r.2.1.2.1.2), ((r.2.1.2.2.1.1, r.2.1.2.2.1.2), (r.2.1.2.2.2.1, r.2.1.2.2.2.2)))), (r.2.2.1, (r.2.2.2.1, (r.2.2.2.2.1, (r.2.2.2.2.2.1, r.2.2.2.2.2.2)))))) = some (recOk r) := s_RecOk (r := r) (by omega) (by omega)
  have e3 : F_i_RecOk (r.1, ((r.2.1.1, ((r.2.1.2.1.1, r.2.1.2.1.2), ((r.2.1.2.2.1.1, r.2.1.2.2.1.2), (r.2.1.2.2.2.1, r.2.1.2.2.2.2)))), (r.2.2.1, (r.2.2.2.1, (r.2.2.2.2.1, (r.2.2.2.2.2.1, r.2.2.2.2.2.2)))))) = some (recOk r) := i_RecOk (r := r) (by omega) (by omega)
  have e4 : F_l_eqRec ((r.1, ((r.2.1.1, ((r.2.1.2.1.1, r.2.1.2.1.2), ((r.2.1.2.2.1.1, r.2.1.2.2.1.2), (r.2.1.2.2.2.1, r.2.1.2.2.2.2)))), (r.2.2.1, (r.2.2.2.1, (r.2.2.2.2.1, (r.2.2.2.2.2.1, r.2.2.2.2.2.2)))))), (r.1, ((r.2.1.1, ((r.2.1.2.1.1, r.2.1.2.1.2), ((r.2.1.2.2.1.1, r.2.1.2.2.1.2), (r.2.1.2.2.2.1, r.2.1.2.2.2.2)))), (r.2.2.1, (r.2.2.2.1, (r.2.2.2.2.1, (r.2.2.2.2.2.1, r.2.2.2.2.2.2))))))) = some true := eqRec_ok (r := r) (hs.mono (by omega))
  simp only [e1, e2, e3, e4, bnd_s, cnd_f, bNot_t, bNe_r]
end
end Go.Vs
