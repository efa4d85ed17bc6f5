import Derived.Test.YtlndmcdpndcgjaaDoorVsW5
import Derived.Test.YtlndmcdpndcgjaaDoorVsQc5
set_option linter.all false
namespace Go.Vs
set_option linter.unusedVariables false
set_option linter.unusedSimpArgs false
noncomputable section
abbrev Mark := Int × Int × Int
abbrev Tab := List Row × Int × List Mark
def smT (B : Nat) (t : Tab) : Prop := t.1.length ≤ B ∧ (∀ r ∈ t.1, smR B r) ∧ t.2.2.length ≤ B
theorem smT.mono {A B : Nat} {t : Tab} (h : smT A t) (hab : A ≤ B) : smT B t := ⟨Nat.le_trans h.1 hab, fun r hr => (h.2.1 r hr).mono hab, Nat.le_trans h.2.2 hab⟩
theorem szRowS_ok {l : List Row} {k : Int} (h0 : 0 ≤ k) (hk : k ≤ 1048576) (hl : l.length ≤ 9223372036854775807) (hr : ∀ r ∈ l, smR 9223372036854775807 r) : SzR (F_l_szRowS (l, k)) k (l.length ≤ 1048576 ∧ ∀ r ∈ l, smR 1048576 r) := by
 have e : F_l_szRowS (l, k) = szLst F_l_szRow (l, k) := rfl
 rw [e]
 refine (szLst_ok' (B := 1048576) h0 hk (by omega) hl (P := smR 1048576) fun e he k h0 hk => szRow_ok h0 hk (hr e he)).mono (Int.le_refl _) fun h => ⟨by omega, h.2⟩
theorem szTab_ok {t : Tab} {k : Int} (h0 : 0 ≤ k) (hk : k ≤ 1048576) (h : smT 9223372036854775807 t) : SzR (F_l_szTab (t, k)) k (smT 1048576 t) := by
 unfold F_l_szTab
 refine (SzR.seq h0 (szRowS_ok h0 hk h.1 h.2.1) (Q := t.2.2.length ≤ 1048576) fun z hz hz2 => ?_).mono (Int.le_refl _) fun h => ⟨h.1.1, h.1.2, h.2⟩
 have e : iSub .i64 z (lLen t.2.2) = z - t.2.2.length := iSub_ok (by have := h.2.2; simp only [lLen_def]; omega) (by simp only [lLen_def]; omega)
 have e2 : F_l_szMarkS (t.2.2, z) = cnd (iLt (iSub .i64 z (lLen t.2.2)) 0) (some (-1)) (some (iSub .i64 z (lLen t.2.2))) := rfl
 refine SzR.one hz ?_
 rw [e2]
 refine (SzR.sub (P := True) hz (by omega) h.2.2 fun h => by simp only [e]; exact SzR.done).mono (Int.le_refl _) fun h => by have := h.1; omega
theorem toTab_ok {t : Tab} (h : smT 1048576 t) : F_l_toTab t = some t := by
 have e1 : F_l_toRowS t.1 = some t.1 := by
  have : F_l_toRowS t.1 = toLst F_l_toRow ([], ((0, []), ((0, []), (0, false)))) 96 t.1 := rfl
  rw [this]
  exact toLst_ok (by have := h.1; omega) (by have := h.1; omega) fun r hr => toRow_ok ((h.2.1 r hr).mono (by decide))
 have e2 : F_l_toMarkS t.2.2 = some t.2.2 := by
  have : F_l_toMarkS t.2.2 = toLst F_l_toMark (0, (0, 0)) 24 t.2.2 := rfl
  rw [this]
  exact toLst_ok (by have := h.2.2; omega) (by have := h.2.2; omega) fun r hr => rfl
 unfold F_l_toTab
 rw [e1, bnd_s, e2]; rfl
theorem eqTab_ok {t : Tab} (h : smT 1048576 t) : F_l_eqTab (t, t) = some true := by
 have e1 : F_l_eqRowS (t.1, t.1) = some true := by
  have : F_l_eqRowS (t.1, t.1) = eqLst F_l_eqRow (t.1, t.1) := rfl
  rw [this]
  exact eqLst_ok (by have := h.1; omega) fun r hr => eqRow_ok ((h.2.1 r hr).mono (by decide))
 have e2 : F_l_eqMarkS (t.2.2, t.2.2) = some true := by
  have : F_l_eqMarkS (t.2.2, t.2.2) = eqLst F_l_eqMark (t.2.2, t.2.2) := rfl
  rw [this]
  exact eqLst_ok (by have := h.2.2; omega) fun r hr => by unfold F_l_eqMark; simp only [iNe_r, cnd_f]
 unfold F_l_eqTab
 simp only [e1, e2, bnd_s, bNot_t, cnd_f, iNe_r]
def chk1 {α : Type} (ok : α → Bool) (lt : α → α → Bool) (l : List α) (i : Nat) : Bool := match l[i]? with
 | none => true
 | some y => ok y && (match i with
  | 0 => true
  | j + 1 => match l[j]? with
   | some x => lt x y
   | none => true)
def chainB {α : Type} (ok : α → Bool) (lt : α → α → Bool) (l : List α) : Bool := (List.range l.length).all (chk1 ok lt l)
theorem chain_loop {α : Type} {ok : α → Bool} {lt : α → α → Bool} {l : List α} {step : Int → Option (Int ⊕ (Unit ⊕ Bool))}
  (hs : ∀ i, i < l.length → step (i : Int) = some (if chk1 ok lt l i = true then .inl ((i : Int) + 1) else .inr (.inr false)))
  (he : step (l.length : Int) = some (.inr (.inl ()))) : loopX step 0 = some (if chainB ok lt l = true then .inl () else .inr false) := by
 obtain ⟨r, h1, rfl⟩ := loop_inv (step := step) (fun i s => s = (i : Int) ∧ ∀ j, j < i → chk1 ok lt l j = true) l.length (fun r => r = if chainB ok lt l = true then .inl () else .inr false) (by
  rintro i s hi ⟨rfl, h⟩
  rw [hs i hi]
  by_cases hc : chk1 ok lt l i = true
  ·left
   refine ⟨_, by rw [if_pos hc], by omega, fun j hj => ?_⟩
   rcases Nat.lt_succ_iff_lt_or_eq.1 hj with a | rfl
   ·exact h j a
   ·exact hc
  ·right
   refine ⟨_, by rw [if_neg hc], ?_⟩
   rw [if_neg]
   intro k
   exact hc (List.all_eq_true.1 k i (List.mem_range.2 hi))) (by
  rintro s ⟨rfl, h⟩
  refine ⟨_, he, ?_⟩
  rw [if_pos]
  exact List.all_eq_true.2 fun j hj => h j (List.mem_range.1 hj)) 0 ⟨rfl, fun j hj => by omega⟩
 exact h1
def rowLt (x y : Row) : Bool := sLt x.1 y.1
def markOk (m : Mark) : Bool := decide (1 ≤ m.1 ∧ m.1 ≤ 9) && (decide (0 ≤ m.2.1 ∧ m.2.1 ≤ 65535) && decide (0 ≤ m.2.2 ∧ m.2.2 ≤ 6))
def markLt (x y : Mark) : Bool := decide (x.1 < y.1)
def tabOk (t : Tab) : Bool := chainB rowOk rowLt t.1 && (chainB markOk markLt t.2.2 && (decide (t.1.length ≤ 8) && decide (0 ≤ t.2.1 ∧ t.2.1 ≤ 7)))
theorem chk1_0 {α : Type} {ok : α → Bool} {lt : α → α → Bool} {l : List α} (h : 0 < l.length) : chk1 ok lt l 0 = ok l[0] := by
 unfold chk1; rw [List.getElem?_eq_getElem h]; simp
theorem chk1_s {α : Type} {ok : α → Bool} {lt : α → α → Bool} {l : List α} {j : Nat} (h : j + 1 < l.length) : chk1 ok lt l (j + 1) = (ok l[j + 1] && lt l[j] l[j + 1]) := by
 unfold chk1; rw [List.getElem?_eq_getElem h]; simp only [List.getElem?_eq_getElem (show j < l.length by omega)]
theorem s_TabOk0 {t : Tab} (h : smT 1048576 t) : loopX (S_s_TabOk_0 t) 0 = some (if chainB rowOk rowLt t.1 = true then .inl () else .inr false) := by
 refine chain_loop (fun i hi => ?_) ?_
 ·have hl := h.1
  have e : F_s_RowOk ((t.1[i]).1, (((t.1[i]).2.1.1, (t.1[i]).2.1.2), (((t.1[i]).2.2.1.1, (t.1[i]).2.2.1.2), ((t.1[i]).2.2.2.1, (t.1[i]).2.2.2.2)))) = some (rowOk t.1[i]) := s_RowOk (r := t.1[i]) (by have := (h.2.1 _ (List.getElem_mem hi)).1; omega)
  unfold S_s_TabOk_0
  rw [iLt_y (by simp only [lLen_def]; omega), cnd_t, idx_at hi, bnd_s, e, bnd_s]
  cases i with
  | zero =>
   rw [chk1_0 hi]
   cases hr : rowOk t.1[0] with
   | false => rfl
   | true => rfl
  | succ j =>
   rw [chk1_s hi]
   cases hr : rowOk t.1[j + 1] with
   | false => rfl
   | true =>
    rw [bNot_t, cnd_f, iGt_y (by omega), cnd_t, show iSub .i64 ((j + 1 : Nat) : Int) 1 = (j : Int) from by rw [iSub_ok (by omega) (by omega)]; omega, idx_at (show j < t.1.length by omega), bnd_s, bnd_s]
    unfold rowLt
    cases sLt t.1[j].1 t.1[j + 1].1 with
    | false => rfl
    | true => rw [bNot_t, cnd_f, iAdd_ok (by omega) (by omega)]; rfl
 ·have hl := h.1
  unfold S_s_TabOk_0
  rw [iLt_n (by simp only [lLen_def]; omega), cnd_f]
theorem i_TabOk0 {t : Tab} (h : smT 1048576 t) : loopX (S_i_TabOk_0 t) 0 = some (if chainB rowOk rowLt t.1 = true then .inl () else .inr false) := by
 refine chain_loop (fun i hi => ?_) ?_
 ·have hl := h.1
  have e : F_i_RowOk ((t.1[i]).1, (((t.1[i]).2.1.1, (t.1[i]).2.1.2), (((t.1[i]).2.2.1.1, (t.1[i]).2.2.1.2), ((t.1[i]).2.2.2.1, (t.1[i]).2.2.2.2)))) = some (rowOk t.1[i]) := i_RowOk (r := t.1[i]) (by have := (h.2.1 _ (List.getElem_mem hi)).1; omega)
  unfold S_i_TabOk_0
  rw [iLt_y (by simp only [lLen_def]; omega), cnd_t, idx_at hi, bnd_s, e, bnd_s]
  cases i with
  | zero =>
   rw [chk1_0 hi]
   cases hr : rowOk t.1[0] with
   | false => rfl
   | true => rfl
  | succ j =>
   rw [chk1_s hi]
   cases hr : rowOk t.1[j + 1] with
   | false => rfl
   | true =>
    rw [bNot_t, cnd_f, iGt_y (by omega), cnd_t, show iSub .i64 ((j + 1 : Nat) : Int) 1 = (j : Int) from by rw [iSub_ok (by omega) (by omega)]; omega, idx_at (show j < t.1.length by omega), bnd_s]
    unfold rowLt
    cases sLt t.1[j].1 t.1[j + 1].1 with
    | false => rfl
    | true => rw [bNot_t, cnd_f, iAdd_ok (by omega) (by omega)]; rfl
 ·have hl := h.1
  unfold S_i_TabOk_0
  rw [iLt_n (by simp only [lLen_def]; omega), cnd_f]
theorem s_l12Mark (m : Mark) : F_s_l12Mark m = some (markOk m) := by
 unfold F_s_l12Mark markOk F_s_l1Word
 simp only [s_In, bnd_s, cnd_and]
theorem s_TabOk1 {t : Tab} (h : smT 1048576 t) : loopX (S_s_TabOk_1 t) 0 = some (if chainB markOk markLt t.2.2 = true then .inl () else .inr false) := by
 refine chain_loop (fun i hi => ?_) ?_
 ·have hl := h.2.2
  have e : F_s_l12Mark (t.2.2[i].1, (t.2.2[i].2.1, t.2.2[i].2.2)) = some (markOk t.2.2[i]) := s_l12Mark _
  unfold S_s_TabOk_1
  rw [iLt_y (by simp only [lLen_def]; omega), cnd_t, idx_at hi, bnd_s, e, bnd_s]
  cases i with
  | zero =>
   rw [chk1_0 hi]
   cases hr : markOk t.2.2[0] with
   | false => rfl
   | true => rfl
  | succ j =>
   rw [chk1_s hi]
   cases hr : markOk t.2.2[j + 1] with
   | false => rfl
   | true =>
    rw [bNot_t, cnd_f, iGt_y (by omega), cnd_t, show iSub .i64 ((j + 1 : Nat) : Int) 1 = (j : Int) from by rw [iSub_ok (by omega) (by omega)]; omega, idx_at (show j < t.2.2.length by omega), bnd_s, bnd_s]
    unfold markLt
    by_cases hlt : t.2.2[j].1 < t.2.2[j + 1].1
    ·rw [iGe_n (by omega), cnd_f, iAdd_ok (by omega) (by omega), decide_eq_true hlt]; rfl
    ·rw [iGe_y (by omega), cnd_t, decide_eq_false hlt]; rfl
 ·have hl := h.2.2
  unfold S_s_TabOk_1
  rw [iLt_n (by simp only [lLen_def]; omega), cnd_f]
theorem i_TabOk1 {t : Tab} (h : smT 1048576 t) : loopX (S_i_TabOk_1 t) 0 = some (if chainB markOk markLt t.2.2 = true then .inl () else .inr false) := by
 refine chain_loop (fun i hi => ?_) ?_
 ·have hl := h.2.2
  unfold S_i_TabOk_1 F_i_isWord
  rw [iLt_y (by simp only [lLen_def]; omega), cnd_t, idx_at hi, bnd_s]
  simp only [i_In, bnd_s]
  have key : ∀ a b c : Bool, ∀ rest : Option (Int ⊕ (Unit ⊕ Bool)), cnd (bNot a) (some (.inr (.inr false))) (cnd (bNot b) (some (.inr (.inr false))) (cnd (bNot c) (some (.inr (.inr false))) rest)) = if (a && (b && c)) = true then rest else some (.inr (.inr false)) := by
   intro a b c rest; cases a <;> cases b <;> cases c <;> rfl
  rw [key]
  have mk : ∀ m : Mark, (decide (1 ≤ m.1 ∧ m.1 ≤ 9) && (decide (0 ≤ m.2.1 ∧ m.2.1 ≤ 65535) && decide (0 ≤ m.2.2 ∧ m.2.2 ≤ 6))) = markOk m := fun m => rfl
  cases i with
  | zero =>
   rw [chk1_0 hi, mk]
   cases hr : markOk t.2.2[0] with
   | false => rfl
   | true => rfl
  | succ j =>
   rw [chk1_s hi, mk]
   cases hr : markOk t.2.2[j + 1] with
   | false => rfl
   | true =>
    rw [if_pos rfl, iGt_y (by omega), cnd_t, show iSub .i64 ((j + 1 : Nat) : Int) 1 = (j : Int) from by rw [iSub_ok (by omega) (by omega)]; omega, idx_at (show j < t.2.2.length by omega), bnd_s]
    unfold markLt
    by_cases hlt : t.2.2[j].1 < t.2.2[j + 1].1
    ·rw [iGe_n (by omega), cnd_f, iAdd_ok (by omega) (by omega), decide_eq_true hlt]; rfl
    ·rw [iGe_y (by omega), cnd_t, decide_eq_false hlt]; rfl
 ·have hl := h.2.2
  unfold S_i_TabOk_1
  rw [iLt_n (by simp only [lLen_def]; omega), cnd_f]
theorem tab_end (a b : Bool) (n : Nat) (c : Int) : (joinX (some (if a = true then .inl () else .inr false) : Option (Unit ⊕ Bool)) fun _ => joinX (some (if b = true then .inl () else .inr false) : Option (Unit ⊕ Bool)) fun _ => cnd (iLe (n : Int) 8) (some (decide (0 ≤ c ∧ c ≤ 7))) (some false)) = some (a && (b && (decide (n ≤ 8) && decide (0 ≤ c ∧ c ≤ 7)))) := by
 rw [cnd_and, show iLe (n : Int) 8 = decide (n ≤ 8) by simp only [iLe]; rw [Bool.eq_iff_iff]; simp; omega]
 cases a <;> cases b <;> rfl
theorem s_TabOk {t : Tab} (h : smT 1048576 t) : F_s_TabOk t = some (tabOk t) := by
 unfold F_s_TabOk tabOk
 rw [s_TabOk0 h, s_TabOk1 h]
 simp only [s_In, bnd_s, lLen_def, tab_end]
theorem i_TabOk {t : Tab} (h : smT 1048576 t) : F_i_TabOk t = some (tabOk t) := by
 unfold F_i_TabOk tabOk
 rw [i_TabOk0 h, i_TabOk1 h]
 simp only [i_In, bnd_s, lLen_def, tab_end]
end
end Go.Vs
