import Derived.Test.YtboohaconpkhaaaDoorVsW5
import Derived.Test.YtboohaconpkhaaaDoorVsQb5
set_option linter.all false
namespace Go.Vs
set_option linter.unusedVariables false
set_option linter.unusedSimpArgs false
noncomputable section
theorem iEq_d (a b : Int) : iEq a b = decide (a = b) := by simp only [iEq]; rfl
def rowOf (ph : Int) (key : List UInt8) (cs : Int) (t : List UInt8) : Row × Int :=
 if (0 ≤ ph ∧ ph ≤ 7) ∧ nameOk key = true ∧ (1 ≤ cs ∧ cs ≤ 5) then
  match cellOf 0 t with
  | none => (([], ((0, []), ((0, []), (0, false)))), 1)
  | some n =>
   if ph = 0 ∨ ph = 7 then (match cellOf cs t with
    | none => (([], ((0, []), ((0, []), (0, false)))), 3)
    | some o => ((key, (o, ((0, []), (1, false)))), 0))
   else if ph = 4 ∨ ph = 5 then ((key, ((0, []), (n, (2, false)))), 0)
   else if ph = 6 then (match cellOf cs t with
    | none => ((key, ((0, []), (n, (2, true)))), 0)
    | some o => ((key, (o, ((0, []), (1, false)))), 0))
   else (match cellOf cs t with
    | none => ((key, ((0, []), (n, (2, true)))), 0)
    | some o => ((key, (o, (n, (3, false)))), 0))
 else (([], ((0, []), ((0, []), (0, false)))), 1)
theorem s_RowOf {ph cs : Int} {key t : List UInt8} (hk : key.length < 9223372036854775807) (ht : t.length ≤ 1048576) : F_s_RowOf (ph, (key, (cs, t))) = some (rowOf ph key cs t) := by
 unfold F_s_RowOf rowOf
 simp only [s_CellOf ht, bnd_s, s_In, s_NameOk hk, iEq_d]
 by_cases h1 : 0 ≤ ph ∧ ph ≤ 7
 case neg => rw [decide_eq_false h1, if_neg (fun h => h1 h.1)]; rfl
 rw [decide_eq_true h1, bNot_t, cnd_f]
 cases h2 : nameOk key with
 | false => rw [if_neg (fun h => by cases h.2.1)]; rfl
 | true =>
 rw [bNot_t, cnd_f]
 by_cases h3 : 1 ≤ cs ∧ cs ≤ 5
 case neg => rw [decide_eq_false h3, if_neg (fun h => h3 h.2.2)]; rfl
 rw [decide_eq_true h3, bNot_t, cnd_f, if_pos ⟨h1, rfl, h3⟩]
 cases h4 : cellOf 0 t with
 | none => rfl
 | some n =>
 simp only [cR, bNot_t, cnd_f]
 by_cases p0 : ph = 0
 ·subst p0; cases cellOf cs t <;> rfl
 by_cases p7 : ph = 7
 ·subst p7; cases cellOf cs t <;> rfl
 by_cases p4 : ph = 4
 ·subst p4; cases cellOf cs t <;> rfl
 by_cases p5 : ph = 5
 ·subst p5; cases cellOf cs t <;> rfl
 by_cases p6 : ph = 6
 ·subst p6; cases cellOf cs t <;> rfl
 rw [decide_eq_false p0, decide_eq_false p7, decide_eq_false p4, decide_eq_false p5, decide_eq_false p6, if_neg (by omega), if_neg (by omega), if_neg p6]
 cases cellOf cs t <;> rfl
theorem i_RowOf {ph cs : Int} {key t : List UInt8} (hk : key.length < 9223372036854775807) (ht : t.length ≤ 1048576) : F_i_RowOf (ph, (key, (cs, t))) = some (rowOf ph key cs t) := by
 unfold F_i_RowOf rowOf
 simp only [i_CellOf ht, bnd_s, i_In, i_NameOk hk, iEq_d]
 by_cases h1 : 0 ≤ ph ∧ ph ≤ 7
 case neg => rw [decide_eq_false h1, if_neg (fun h => h1 h.1)]; rfl
 rw [decide_eq_true h1, bNot_t, cnd_f]
 cases h2 : nameOk key with
 | false => rw [if_neg (fun h => by cases h.2.1)]; rfl
 | true =>
 rw [bNot_t, cnd_f]
 by_cases h3 : 1 ≤ cs ∧ cs ≤ 5
 case neg => rw [decide_eq_false h3, if_neg (fun h => h3 h.2.2)]; rfl
 rw [decide_eq_true h3, bNot_t, cnd_f, if_pos ⟨h1, rfl, h3⟩]
 cases h4 : cellOf 0 t with
 | none => rfl
 | some n =>
 simp only [cR, bNot_t, cnd_f]
 by_cases p0 : ph = 0
 ·subst p0; cases cellOf cs t <;> rfl
 by_cases p7 : ph = 7
 ·subst p7; cases cellOf cs t <;> rfl
 by_cases p4 : ph = 4
 ·subst p4; cases cellOf cs t <;> rfl
 by_cases p5 : ph = 5
 ·subst p5; cases cellOf cs t <;> rfl
 by_cases p6 : ph = 6
 ·subst p6; cases cellOf cs t <;> rfl
 rw [decide_eq_false p0, decide_eq_false p7, decide_eq_false p4, decide_eq_false p5, decide_eq_false p6, if_neg (by omega), if_neg (by omega), if_neg p6]
 cases cellOf cs t <;> rfl
theorem rowOf_sm (ph cs : Int) (key t : List UInt8) : smR 1048576 (rowOf ph key cs t).1 := by
 have z : smR 1048576 (([], ((0, []), ((0, []), (0, false)))) : Row) := ⟨by decide, by decide, by decide⟩
 have c1 := cellOf_len 0 t
 have c2 := cellOf_len cs t
 unfold rowOf
 split
 case isFalse => exact z
 rename_i h
 have hk := (nameOk_len h.2.1).2
 cases h1 : cellOf 0 t with
 | none => exact z
 | some n =>
  rw [h1] at c1
  have c1 : n.2.length ≤ 20 := c1
  cases h2 : cellOf cs t with
  | none =>
   simp only
   repeat' split
   all_goals first | exact z | exact ⟨by show key.length ≤ _; omega, by show ([] : List UInt8).length ≤ _; simp, by show n.2.length ≤ _; omega⟩
  | some o =>
   rw [h2] at c2
   have c2 : o.2.length ≤ 20 := c2
   simp only
   repeat' split
   all_goals first | exact ⟨by show key.length ≤ _; omega, by show o.2.length ≤ _; omega, by show n.2.length ≤ _; omega⟩ | exact ⟨by show key.length ≤ _; omega, by show ([] : List UInt8).length ≤ _; simp, by show n.2.length ≤ _; omega⟩ | exact ⟨by show key.length ≤ _; omega, by show o.2.length ≤ _; omega, by show ([] : List UInt8).length ≤ _; simp⟩
theorem law_RowOf {x : Int × List UInt8 × Int × List UInt8} : F_l_FnExactRowOf x = some true := by
 obtain ⟨ph, key, cs, t⟩ := x
 unfold F_l_FnExactRowOf
 simp only
 by_cases hk : (key.length : Int) ≤ 1048576
 case neg => rw [iGt_y (by simp only [lLen_def]; omega)]; rfl
 rw [iGt_n (by simp only [lLen_def]; omega), cnd_f]
 by_cases hl : (t.length : Int) ≤ 1048576
 case neg => rw [iGt_y (by simp only [lLen_def]; omega)]; rfl
 rw [iGt_n (by simp only [lLen_def]; omega), cnd_f]
 have e1 := s_RowOf (ph := ph) (cs := cs) (key := key) (t := t) (by omega) (by omega)
 have e2 := i_RowOf (ph := ph) (cs := cs) (key := key) (t := t) (by omega) (by omega)
 have hs := rowOf_sm ph cs key t
 generalize rowOf ph key cs t = v at e1 e2 hs
 obtain ⟨r, ok⟩ := v
 simp only at hs
 obtain ⟨m2, x2, y2, b1, b2, b3, b4, b5⟩ := markRow_at (r := r) (m := 1) hs (by omega) (by omega)
 have e4 : F_l_eqRow ((r.1, ((r.2.1.1, r.2.1.2), ((r.2.2.1.1, r.2.2.1.2), (r.2.2.2.1, r.2.2.2.2)))), (r.1, ((r.2.1.1, r.2.1.2), ((r.2.2.1.1, r.2.2.1.2), (r.2.2.2.1, r.2.2.2.2))))) = some true := eqRow_ok (hs.mono (by omega))
 have e7 : F_l_markRow ((r.1, ((r.2.1.1, r.2.1.2), ((r.2.2.1.1, r.2.2.1.2), (r.2.2.2.1, r.2.2.2.2)))), 1) = some (m2, x2, y2) := b1
 simp (disch := omega) only [e1, e2, e4, e7, b2, b3, b4, bnd_s, cnd_f, bNot_t, nEq_r, chk_t, iLt_n, iNe_r, bNe_r]
end
end Go.Vs
