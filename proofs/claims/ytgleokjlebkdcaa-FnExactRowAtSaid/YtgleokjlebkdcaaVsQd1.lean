import Derived.Test.YtgleokjlebkdcaaVsW5
import Derived.Test.YtgleokjlebkdcaaVsPd
set_option linter.all false
namespace Go.Vs
set_option linter.unusedVariables false
set_option linter.unusedSimpArgs false
noncomputable section
abbrev Cell := Int × List UInt8
theorem szByteS_ok {l : List UInt8} {k : Int} (h0 : 0 ≤ k) (hk : k ≤ 4611686018427387904) (hl : l.length ≤ 9223372036854775807) : SzR (F_l_szByteS (l, k)) k ((l.length : Int) ≤ k) := by
 have e : iSub .i64 k (lLen l) = k - l.length := iSub_ok (by simp only [lLen_def]; omega) (by simp only [lLen_def]; omega)
 exact (SzR.sub (P := True) h0 hk hl fun h => by simp only [e]; exact SzR.done).mono (Int.le_refl _) fun h => h.1
theorem toByteS_ok {x : List UInt8} (hl : x.length ≤ 140737488355328) : F_l_toByteS x = some x := by
 have : F_l_toByteS x = toLst (fun b => some b) 0 1 x := rfl
 rw [this]
 exact toLst_ok (by omega) (by omega) fun _ _ => rfl
theorem eqByteS_ok {x : List UInt8} (hl : x.length < 9223372036854775807) : F_l_eqByteS (x, x) = some true := by
 unfold F_l_eqByteS
 simp only [iNe_r, cnd_f]
 refine loop_exact (fun i => (i : Int)) x.length true ?_ ?_ 0 rfl
 ·intro i hi
  unfold S_l_eqByteS_0
  rw [iLt_y (by simp only [lLen_def]; omega), cnd_t, idx_at hi, bnd_s, bnd_s, iNe_r, cnd_f, iAdd_1 (by omega)]
 ·unfold S_l_eqByteS_0
  rw [iLt_n (by simp only [lLen_def]; omega), cnd_f]
theorem szCell_ok {c : Cell} {k : Int} (h0 : 0 ≤ k) (hk : k ≤ 4611686018427387904) (hl : c.2.length ≤ 9223372036854775807) : SzR (F_l_szCell (c, k)) k ((c.2.length : Int) ≤ k) := SzR.one h0 (szByteS_ok h0 hk hl)
theorem toCell_ok {c : Cell} (hl : c.2.length ≤ 140737488355328) : F_l_toCell c = some c := by
 unfold F_l_toCell; rw [toByteS_ok hl]; rfl
theorem eqCell_ok {c : Cell} (hl : c.2.length < 9223372036854775807) : F_l_eqCell (c, c) = some true := by
 unfold F_l_eqCell
 simp only [iNe_r, cnd_f, eqByteS_ok hl, bnd_s, bNot_t]
abbrev Row := List UInt8 × Cell × Cell × Int × Bool
def smR (B : Nat) (r : Row) : Prop := r.1.length ≤ B ∧ r.2.1.2.length ≤ B ∧ r.2.2.1.2.length ≤ B
theorem szRow_ok {r : Row} {k : Int} (h0 : 0 ≤ k) (hk : k ≤ 1048576) (hl : smR 9223372036854775807 r) : SzR (F_l_szRow (r, k)) k (smR 1048576 r) := by
 obtain ⟨a, b, c⟩ := hl
 have e : iSub .i64 k (lLen r.1) = k - r.1.length := iSub_ok (by simp only [lLen_def]; omega) (by simp only [lLen_def]; omega)
 unfold F_l_szRow
 refine (SzR.sub (P := r.2.1.2.length ≤ 1048576 ∧ r.2.2.1.2.length ≤ 1048576) h0 (by omega) a fun h => ?_).mono (Int.le_refl _) fun h => ⟨by have := h.1; omega, h.2⟩
 simp only [e]
 refine SzR.seq (by omega) ((szCell_ok (c := r.2.1) (by omega) (by omega) b).mono (Int.le_refl _) fun h => by omega) fun z hz hz2 => ?_
 exact SzR.one hz ((szCell_ok (c := r.2.2.1) hz (by omega) c).mono (Int.le_refl _) fun h => by omega)
theorem toRow_ok {r : Row} (h : smR 140737488355328 r) : F_l_toRow r = some r := by
 unfold F_l_toRow
 rw [toCell_ok (c := (r.2.1.1, r.2.1.2)) h.2.1, bnd_s, toCell_ok (c := (r.2.2.1.1, r.2.2.1.2)) h.2.2]; rfl
theorem eqRow_ok {r : Row} (h : smR 9223372036854775806 r) : F_l_eqRow (r, r) = some true := by
 have e1 := eqCell_ok (c := (r.2.1.1, r.2.1.2)) (Nat.lt_succ_of_le h.2.1)
 have e2 := eqCell_ok (c := (r.2.2.1.1, r.2.2.1.2)) (Nat.lt_succ_of_le h.2.2)
 unfold F_l_eqRow
 simp only [iNe_r, cnd_f, sEq_r, bNot_t, e1, e2, bnd_s, bNe_r]
theorem smR.mono {A B : Nat} {r : Row} (h : smR A r) (hab : A ≤ B) : smR B r := ⟨Nat.le_trans h.1 hab, Nat.le_trans h.2.1 hab, Nat.le_trans h.2.2 hab⟩
theorem cnd_b {β : Type} (b : Bool) (x y : Option β) : cnd b x y = if b = true then x else y := by cases b <;> rfl
theorem sEq_d (a b : List UInt8) : sEq a b = (a == b) := rfl
theorem find_loop {α σ ρ : Type} {step : σ → Option (σ ⊕ ρ)} (st : Nat → σ) (x : List α) (p : α → Bool) (found : Nat → ρ) (no : ρ)
    (hs : ∀ (i : Nat) (h : i < x.length), step (st i) = if p x[i] = true then some (.inr (found i)) else some (.inl (st (i + 1)))) (he : step (st x.length) = some (.inr no)) (s0 : σ) (h0 : s0 = st 0) :
    loopX step s0 = some (match x.findIdx? p with | some i => found i | none => no) := by
  obtain ⟨r, h1, h2⟩ := loop_inv (step := step) (fun i s => s = st i ∧ ∀ (j : Nat) (h : j < x.length), j < i → p x[j] = false) x.length (fun r => r = match x.findIdx? p with | some i => found i | none => no)
    (fun i s hi h => by
      obtain ⟨rfl, hp⟩ := h
      rw [hs i hi]
      by_cases hq : p x[i] = true
      · refine .inr ⟨_, by rw [if_pos hq], ?_⟩
        have : x.findIdx? p = some i := by
          rw [List.findIdx?_eq_some_iff_getElem]
          exact ⟨hi, hq, fun j hj => by simpa using hp j (by omega) hj⟩
        rw [this]
      · refine .inl ⟨_, by rw [if_neg hq], rfl, fun j hj hji => ?_⟩
        by_cases e : j = i
        · subst e; simpa using hq
        · exact hp j hj (by omega))
    (fun s h => by
      obtain ⟨rfl, hp⟩ := h
      refine ⟨_, he, ?_⟩
      have : x.findIdx? p = none := by
        rw [List.findIdx?_eq_none_iff]
        intro y hy
        obtain ⟨j, hj, rfl⟩ := List.getElem_of_mem hy
        exact hp j hj hj
      rw [this]) s0 ⟨h0, fun j _ h => absurd h (Nat.not_lt_zero _)⟩
  rw [h1, h2]
abbrev Mark := Int × Int × Int
abbrev Tab := List Row × Int × List Mark
def smT (B : Nat) (t : Tab) : Prop := t.1.length ≤ B ∧ (∀ r ∈ t.1, smR B r) ∧ t.2.2.length ≤ B
theorem smT.mono {A B : Nat} {t : Tab} (h : smT A t) (hab : A ≤ B) : smT B t := ⟨Nat.le_trans h.1 hab, fun r hr => (h.2.1 r hr).mono hab, Nat.le_trans h.2.2 hab⟩
theorem szRowS_ok {l : List Row} {k : Int} (h0 : 0 ≤ k) (hk : k ≤ 1048576) (hl : l.length ≤ 9223372036854775807) (hr : ∀ r ∈ l, smR 9223372036854775807 r) : SzR (F_l_szRowS (l, k)) k (l.length ≤ 1048576 ∧ ∀ r ∈ l, smR 1048576 r) := by
 have e : F_l_szRowS (l, k) = szLst F_l_szRow (l, k) := rfl
 rw [e]
 refine (szLst_ok' (B := 1048576) h0 hk (by omega) hl (P := smR 1048576) fun e he k h0 hk => szRow_ok h0 hk (hr e he)).mono (Int.le_refl _) fun h => ⟨by omega, h.2⟩
theorem szTab_ok {t : Tab} {k : Int} (h0 : 0 ≤ k) (hk : k ≤ 1048576) (h : smT 9223372036854775807 t) : SzR (F_l_szTab (t, k)) k (smT 1048576 t) := by
 unfold F_l_szTab
 refine (SzR.seq h0 (szRowS_ok h0 hk h.1 h.2.1) (Q := t.2.2.length ≤ 1048576) fun z hz hz2 => ?_).mono (Int.le_refl _) fun h => ⟨h.1.1, h.1.2, h.2⟩
 have e : iSub .i64 z (lLen t.2.2) = z - t.2.2.length := iSub_ok (by have := h.2.2; simp only [lLen_def]; omega) (by simp only [lLen_def]; omega)
 have e2 : F_l_szMarkS (t.2.2, z) = cnd (iLt (iSub .i64 z (lLen t.2.2)) 0) (some (-1)) (some (iSub .i64 z (lLen t.2.2))) := rfl
 refine SzR.one hz ?_
 rw [e2]
 refine (SzR.sub (P := True) hz (by omega) h.2.2 fun h => by simp only [e]; exact SzR.done).mono (Int.le_refl _) fun h => by have := h.1; omega
theorem toTab_ok {t : Tab} (h : smT 1048576 t) : F_l_toTab t = some t := by
 have e1 : F_l_toRowS t.1 = some t.1 := by
  have : F_l_toRowS t.1 = toLst F_l_toRow ([], ((0, []), ((0, []), (0, false)))) 96 t.1 := rfl
  rw [this]
  exact toLst_ok (by have := h.1; omega) (by have := h.1; omega) fun r hr => toRow_ok ((h.2.1 r hr).mono (by decide))
 have e2 : F_l_toMarkS t.2.2 = some t.2.2 := by
  have : F_l_toMarkS t.2.2 = toLst F_l_toMark (0, (0, 0)) 24 t.2.2 := rfl
  rw [this]
  exact toLst_ok (by have := h.2.2; omega) (by have := h.2.2; omega) fun r hr => rfl
 unfold F_l_toTab
 rw [e1, bnd_s, e2]; rfl
theorem eqTab_ok {t : Tab} (h : smT 1048576 t) : F_l_eqTab (t, t) = some true := by
 have e1 : F_l_eqRowS (t.1, t.1) = some true := by
  have : F_l_eqRowS (t.1, t.1) = eqLst F_l_eqRow (t.1, t.1) := rfl
  rw [this]
  exact eqLst_ok (by have := h.1; omega) fun r hr => eqRow_ok ((h.2.1 r hr).mono (by decide))
 have e2 : F_l_eqMarkS (t.2.2, t.2.2) = some true := by
  have : F_l_eqMarkS (t.2.2, t.2.2) = eqLst F_l_eqMark (t.2.2, t.2.2) := rfl
  rw [this]
  exact eqLst_ok (by have := h.2.2; omega) fun r hr => by unfold F_l_eqMark; simp only [iNe_r, cnd_f]
 unfold F_l_eqTab
 simp only [e1, e2, bnd_s, bNot_t, cnd_f, iNe_r]
theorem okTab {t : Tab} (h : okT (.P (.L (.P .S (.P (.P (.I .i64) (.L .Y)) (.P (.P (.I .i64) (.L .Y)) (.P (.I .i64) .B))))) (.P (.I .i64) (.L (.P (.I .i64) (.P (.I .i64) (.I .i64)))))) t) : smT 9223372036854775807 t :=
 ⟨h.1.1, fun r hr => ⟨(h.1.2 r hr).1, (h.1.2 r hr).2.1.2.1, (h.1.2 r hr).2.2.1.2.1⟩, h.2.2.1⟩
def rowAt (l : List Row) (key : List UInt8) : Int := match l.findIdx? (fun r => r.1 == key) with
 | some i => (i : Int)
 | none => -1
theorem s_RowAt {t : Tab} {key : List UInt8} (h : t.1.length < 9223372036854775807) : F_s_RowAt (t, key) = some (rowAt t.1 key) := by
 unfold F_s_RowAt rowAt
 exact find_loop (fun i => (i : Int)) t.1 (fun r => r.1 == key) (fun i => (i : Int)) (-1) (fun i hi => by
  unfold S_s_RowAt_0
  simp only
  rw [iLt_y (by simp only [lLen_def]; omega), cnd_t, idx_at hi, bnd_s, sEq_d, cnd_b, iAdd_1 (by omega)]) (by
  unfold S_s_RowAt_0
  simp only
  rw [iLt_n (by simp only [lLen_def]; omega), cnd_f]) _ rfl
theorem i_RowAt {t : Tab} {key : List UInt8} (h : t.1.length < 9223372036854775807) : F_i_RowAt (t, key) = some (rowAt t.1 key) := by
 have e : F_slices_IndexFunc_i_RowAt_1 (t.1, key) = some (rowAt t.1 key, key) := by
  unfold F_slices_IndexFunc_i_RowAt_1 rowAt
  rw [show ((t.1, key).2, (0 : Int)) = ((fun i : Nat => (key, (i : Int))) 0) from rfl, find_loop (step := S_slices_IndexFunc_i_RowAt_1_0 (t.1, key)) (fun i => (key, (i : Int))) t.1 (fun r => r.1 == key) (fun i => ((i : Int), key)) (-1, key) (fun i hi => by
   unfold S_slices_IndexFunc_i_RowAt_1_0
   simp only
   rw [iLt_y (by simp only [lLen_def]; omega), cnd_t, idx_at hi, bnd_s]
   simp only [F_i_RowAt_1, bnd_s, sEq_d]
   rw [cnd_b, iAdd_1 (by omega)]) (by
   unfold S_slices_IndexFunc_i_RowAt_1_0
   simp only
   rw [iLt_n (by simp only [lLen_def]; omega), cnd_f]) _ rfl]
  cases t.1.findIdx? fun r => r.1 == key <;> rfl
 unfold F_i_RowAt
 simp only [e, bnd_s]
theorem law_RowAt {x : Tab × List UInt8} (h : smT 9223372036854775807 x.1) (hk : x.2.length ≤ 9223372036854775807) : F_l_FnExactRowAt x = some true := by
 obtain ⟨t, key⟩ := x
 simp only at h hk
 unfold F_l_FnExactRowAt
 simp only
 by_cases hb : 1048576 < key.length
 ·rw [iGt_y (by simp only [lLen_def]; omega)]; rfl
 rw [iGt_n (by simp only [lLen_def]; omega), cnd_f]
 obtain ⟨z, h1, h2, h3⟩ := szTab_ok (t := t) (k := 1048576) (by omega) (by omega) h
 rw [show F_l_szTab ((t.1, (t.2.1, t.2.2)), 1048576) = some z from h1, bnd_s]
 by_cases hz : z < 0
 ·rw [iLt_y hz]; rfl
 have hs := h3 (by omega)
 have hl := hs.1
 have e1 : F_l_toTab (t.1, (t.2.1, t.2.2)) = some t := toTab_ok hs
 have e2 : F_s_RowAt ((t.1, (t.2.1, t.2.2)), key) = some (rowAt t.1 key) := s_RowAt (t := t) (by omega)
 have e3 : F_i_RowAt ((t.1, (t.2.1, t.2.2)), key) = some (rowAt t.1 key) := i_RowAt (t := t) (by omega)
 have e4 : F_l_eqTab ((t.1, (t.2.1, t.2.2)), (t.1, (t.2.1, t.2.2))) = some true := eqTab_ok hs
 rw [iLt_n (by omega), cnd_f]
 simp only [e1, e2, e3, e4, bnd_s, iNe_r, cnd_f, bNot_t]
end
end Go.Vs
