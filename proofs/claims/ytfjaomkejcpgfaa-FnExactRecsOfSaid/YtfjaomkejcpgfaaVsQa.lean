import Derived.Test.YtfjaomkejcpgfaaVsW5
import Derived.Test.YtfjaomkejcpgfaaVsPa
set_option linter.unusedVariables false
set_option linter.unusedSimpArgs false
namespace Go.Vs
set_option linter.unusedVariables false
set_option linter.unusedSimpArgs false
noncomputable section
/-! ## bytes, cells: sizes, copies, comparing, marks -/
abbrev Cell := Int × List UInt8
theorem szByteS_ok {l : List UInt8} {k : Int} (h0 : 0 ≤ k) (hk : k ≤ 4611686018427387904) (hl : l.length ≤ 9223372036854775807) : SzR (F_l_szByteS (l, k)) k ((l.length : Int) ≤ k) := by
  have e : iSub .i64 k (lLen l) = k - l.length := iSub_ok (by simp only [lLen_def]; omega) (by simp only [lLen_def]; omega)
  exact (SzR.sub (P := True) h0 hk hl fun h => by simp only [e]; exact SzR.done).mono (Int.le_refl _) fun h => h.1
theorem toByteS_ok {x : List UInt8} (hl : x.length ≤ 140737488355328) : F_l_toByteS x = some x := by
  have : F_l_toByteS x = toLst (fun b => some b) 0 1 x := rfl
  rw [this]
  exact toLst_ok (by omega) (by omega) fun _ _ => rfl
theorem eqByteS_ok {x : List UInt8} (hl : x.length < 9223372036854775807) : F_l_eqByteS (x, x) = some true := by
  unfold F_l_eqByteS
  simp only [iNe_r, cnd_f]
  refine loop_exact (fun i => (i : Int)) x.length true ?_ ?_ 0 rfl
  · intro i hi
    unfold S_l_eqByteS_0
    rw [iLt_y (by simp only [lLen_def]; omega), cnd_t, idx_at hi, bnd_s, bnd_s, iNe_r, cnd_f, iAdd_1 (by omega)]
  · unfold S_l_eqByteS_0
    rw [iLt_n (by simp only [lLen_def]; omega), cnd_f]
theorem markText_ok {m : Int} (h : m < 9223372036854775808) : ∃ s, F_l_markText m = some s := by
  unfold F_l_markText
  by_cases h0 : m ≤ 0
  · rw [iLe_y h0]; exact ⟨_, rfl⟩
  rw [iLe_n (by omega), cnd_f]
  have hin : 0 ≤ ((m, []) : Int × List UInt8).1 ∧ ((m, []) : Int × List UInt8).1 < 2 ^ (63 - 0) ∧ ((m, []) : Int × List UInt8).2.length = 0 := by
    have e63 : (2 : Int) ^ 63 = 9223372036854775808 := by decide
    rw [Nat.sub_zero, e63]
    exact ⟨by simp only; omega, h, rfl⟩
  obtain ⟨r, h1, s, rfl, h2⟩ := loop_inv (step := S_l_markText_0)
    (fun i s => 0 ≤ s.1 ∧ s.1 < 2 ^ (63 - i) ∧ s.2.length = i) 63 (fun r => ∃ s, r = .inl s ∧ s.length ≤ 63) (by
      rintro i ⟨z, l⟩ hi ⟨a, b, c⟩
      simp only [S_l_markText_0] at a b c ⊢
      by_cases hz : 0 < z
      · rw [iGt_y hz, cnd_t, small_ok (by simp only [List.length_cons, List.length_nil]; omega), chk_t]
        left
        have e : iQuo .i64 z 10 = z.tdiv 10 := by
          have : z.tdiv 10 = z / 10 := Int.tdiv_eq_ediv_of_nonneg a
          have h63 : (2 : Int) ^ (63 - i) ≤ 2 ^ 63 := by
            have := Nat.pow_le_pow_right (n := 2) (by decide) (show 63 - i ≤ 63 by omega)
            exact_mod_cast this
          have e63 : (2 : Int) ^ 63 = 9223372036854775808 := by decide
          refine wrap_i64 ?_ ?_ <;> omega
        refine ⟨_, rfl, ?_, ?_, ?_⟩
        · simp only [e]; rw [Int.tdiv_eq_ediv_of_nonneg a]; omega
        · simp only [e]; rw [Int.tdiv_eq_ediv_of_nonneg a]
          have : (2 : Int) ^ (63 - i) = 2 * 2 ^ (63 - (i + 1)) := by
            rw [show 63 - i = (63 - (i + 1)) + 1 by omega, Int.pow_succ]; omega
          omega
        · simp only [lApp, List.length_append, List.length_cons, List.length_nil, c]; omega
      · rw [iGt_n (by omega), cnd_f]
        exact .inr ⟨_, rfl, l, rfl, by omega⟩)
    (by
      rintro ⟨z, l⟩ ⟨a, b, c⟩
      simp only [S_l_markText_0, Nat.sub_self, Int.pow_zero] at a b c ⊢
      rw [iGt_n (by omega), cnd_f]
      exact ⟨_, rfl, l, rfl, by omega⟩) (m, []) hin
  rw [h1, joinX_l, small_ok (by simp only [List.length_cons, List.length_nil]; omega)]
  exact ⟨_, rfl⟩
/-- The marks that bytes hold. -/
def HB (m : Int) (b : UInt8) (m' : Int) : Prop := m < 9223372036854775807 ∧ 0 ≤ m ∧ b = u8 (iConv .u8 m) ∧ m' = m + 1
theorem markByteS_ok {x : List UInt8} {m : Int} (h0 : 0 ≤ m) (hm : m ≤ 1152921504606846976) (hl : x.length ≤ 1048576) : ∃ m' x', F_l_markByteS (x, m) = some (m', x') ∧ F_l_heldByteS (x', m) = some m' ∧ x'.length = x.length ∧ m ≤ m' ∧ m' ≤ m + 1048576 := by
  obtain ⟨l', m', h1, h2, h3, h4, h5⟩ := mark_loop (H := HB) (K := 1) (x := x) (m0 := m) (step := S_l_markByteS_0) (by omega) (by omega) (by
    intro l k i hi hll hx hk1 hk2
    refine ⟨u8 (iConv .u8 k), k + 1, ?_, ⟨by omega, by omega, rfl, rfl⟩, ?_, ?_⟩
    · simp only [S_l_markByteS_0]
      rw [iLt_y (by simp only [lLen_def]; omega), cnd_t]
      simp (disch := omega) only [idx_n, hx, bnd_s, nOf_n, iAdd_ok]
    · omega
    · omega) (by
    intro l k hll
    simp only [S_l_markByteS_0]
    rw [iLt_n (by simp only [lLen_def]; omega), cnd_f])
  refine ⟨m', l', ?_, ?_, h3, h4, by omega⟩
  · unfold F_l_markByteS
    simp only [h1, joinX_l, h3, nEq_r, chk_t]
  · unfold F_l_heldByteS
    simp only
    rw [held_loop (H := HB) (m1 := m') (by omega) h2 (by
      rintro k k' i hi ⟨q1, q2, a, b⟩
      simp only [S_l_heldByteS_0]
      rw [iLt_y (by simp only [lLen_def]; omega), cnd_t, idx_at hi, bnd_s, a, iNe_r, cnd_f, b, iAdd_ok (by omega) (by omega), iAdd_ok (by omega) (by omega)]) (by
      intro k
      simp only [S_l_heldByteS_0]
      rw [iLt_n (by simp only [lLen_def]; omega), cnd_f])]
    rfl
theorem szCell_ok {c : Cell} {k : Int} (h0 : 0 ≤ k) (hk : k ≤ 4611686018427387904) (hl : c.2.length ≤ 9223372036854775807) : SzR (F_l_szCell (c, k)) k ((c.2.length : Int) ≤ k) := SzR.one h0 (szByteS_ok h0 hk hl)
theorem toCell_ok {c : Cell} (hl : c.2.length ≤ 140737488355328) : F_l_toCell c = some c := by
  unfold F_l_toCell; rw [toByteS_ok hl]; rfl
theorem eqCell_ok {c : Cell} (hl : c.2.length < 9223372036854775807) : F_l_eqCell (c, c) = some true := by
  unfold F_l_eqCell
  simp only [iNe_r, cnd_f, eqByteS_ok hl, bnd_s, bNot_t]
/-! ## rows -/
abbrev Row := List UInt8 × Cell × Cell × Int × Bool
def smR (B : Nat) (r : Row) : Prop := r.1.length ≤ B ∧ r.2.1.2.length ≤ B ∧ r.2.2.1.2.length ≤ B
theorem szRow_ok {r : Row} {k : Int} (h0 : 0 ≤ k) (hk : k ≤ 1048576) (hl : smR 9223372036854775807 r) : SzR (F_l_szRow (r, k)) k (smR 1048576 r) := by
  obtain ⟨a, b, c⟩ := hl
  have e : iSub .i64 k (lLen r.1) = k - r.1.length := iSub_ok (by simp only [lLen_def]; omega) (by simp only [lLen_def]; omega)
  unfold F_l_szRow
  refine (SzR.sub (P := r.2.1.2.length ≤ 1048576 ∧ r.2.2.1.2.length ≤ 1048576) h0 (by omega) a fun h => ?_).mono (Int.le_refl _) fun h => ⟨by have := h.1; omega, h.2⟩
  simp only [e]
  refine SzR.seq (by omega) ((szCell_ok (c := r.2.1) (by omega) (by omega) b).mono (Int.le_refl _) fun h => by omega) fun z hz hz2 => ?_
  exact SzR.one hz ((szCell_ok (c := r.2.2.1) hz (by omega) c).mono (Int.le_refl _) fun h => by omega)
theorem toRow_ok {r : Row} (h : smR 140737488355328 r) : F_l_toRow r = some r := by
  unfold F_l_toRow
  rw [toCell_ok (c := (r.2.1.1, r.2.1.2)) h.2.1, bnd_s, toCell_ok (c := (r.2.2.1.1, r.2.2.1.2)) h.2.2]; rfl
theorem eqRow_ok {r : Row} (h : smR 9223372036854775806 r) : F_l_eqRow (r, r) = some true := by
  have e1 := eqCell_ok (c := (r.2.1.1, r.2.1.2)) (Nat.lt_succ_of_le h.2.1)
  have e2 := eqCell_ok (c := (r.2.2.1.1, r.2.2.1.2)) (Nat.lt_succ_of_le h.2.2)
  unfold F_l_eqRow
  simp only [iNe_r, cnd_f, sEq_r, bNot_t, e1, e2, bnd_s, bNe_r]
theorem smR.mono {A B : Nat} {r : Row} (h : smR A r) (hab : A ≤ B) : smR B r := ⟨Nat.le_trans h.1 hab, Nat.le_trans h.2.1 hab, Nat.le_trans h.2.2 hab⟩
/-! ## tabs -/
abbrev Mark := Int × Int × Int
abbrev Tab := List Row × Int × List Mark
def smT (B : Nat) (t : Tab) : Prop := t.1.length ≤ B ∧ (∀ r ∈ t.1, smR B r) ∧ t.2.2.length ≤ B
theorem smT.mono {A B : Nat} {t : Tab} (h : smT A t) (hab : A ≤ B) : smT B t := ⟨Nat.le_trans h.1 hab, fun r hr => (h.2.1 r hr).mono hab, Nat.le_trans h.2.2 hab⟩
theorem szRowS_ok {l : List Row} {k : Int} (h0 : 0 ≤ k) (hk : k ≤ 1048576) (hl : l.length ≤ 9223372036854775807) (hr : ∀ r ∈ l, smR 9223372036854775807 r) : SzR (F_l_szRowS (l, k)) k (l.length ≤ 1048576 ∧ ∀ r ∈ l, smR 1048576 r) := by
  have e : F_l_szRowS (l, k) = szLst F_l_szRow (l, k) := rfl
  rw [e]
  refine (szLst_ok' (B := 1048576) h0 hk (by omega) hl (P := smR 1048576) fun e he k h0 hk => szRow_ok h0 hk (hr e he)).mono (Int.le_refl _) fun h => ⟨by omega, h.2⟩
theorem szTab_ok {t : Tab} {k : Int} (h0 : 0 ≤ k) (hk : k ≤ 1048576) (h : smT 9223372036854775807 t) : SzR (F_l_szTab (t, k)) k (smT 1048576 t) := by
  unfold F_l_szTab
  refine (SzR.seq h0 (szRowS_ok h0 hk h.1 h.2.1) (Q := t.2.2.length ≤ 1048576) fun z hz hz2 => ?_).mono (Int.le_refl _) fun h => ⟨h.1.1, h.1.2, h.2⟩
  have e : iSub .i64 z (lLen t.2.2) = z - t.2.2.length := iSub_ok (by have := h.2.2; simp only [lLen_def]; omega) (by simp only [lLen_def]; omega)
  have e2 : F_l_szMarkS (t.2.2, z) = cnd (iLt (iSub .i64 z (lLen t.2.2)) 0) (some (-1)) (some (iSub .i64 z (lLen t.2.2))) := rfl
  refine SzR.one hz ?_
  rw [e2]
  refine (SzR.sub (P := True) hz (by omega) h.2.2 fun h => by simp only [e]; exact SzR.done).mono (Int.le_refl _) fun h => by have := h.1; omega
theorem toTab_ok {t : Tab} (h : smT 1048576 t) : F_l_toTab t = some t := by
  have e1 : F_l_toRowS t.1 = some t.1 := by
    have : F_l_toRowS t.1 = toLst F_l_toRow ([], ((0, []), ((0, []), (0, false)))) 96 t.1 := rfl
    rw [this]
    exact toLst_ok (by have := h.1; omega) (by have := h.1; omega) fun r hr => toRow_ok ((h.2.1 r hr).mono (by decide))
  have e2 : F_l_toMarkS t.2.2 = some t.2.2 := by
    have : F_l_toMarkS t.2.2 = toLst F_l_toMark (0, (0, 0)) 24 t.2.2 := rfl
    rw [this]
    exact toLst_ok (by have := h.2.2; omega) (by have := h.2.2; omega) fun r hr => rfl
  unfold F_l_toTab
  rw [e1, bnd_s, e2]; rfl
theorem eqTab_ok {t : Tab} (h : smT 1048576 t) : F_l_eqTab (t, t) = some true := by
  have e1 : F_l_eqRowS (t.1, t.1) = some true := by
    have : F_l_eqRowS (t.1, t.1) = eqLst F_l_eqRow (t.1, t.1) := rfl
    rw [this]
    exact eqLst_ok (by have := h.1; omega) fun r hr => eqRow_ok ((h.2.1 r hr).mono (by decide))
  have e2 : F_l_eqMarkS (t.2.2, t.2.2) = some true := by
    have : F_l_eqMarkS (t.2.2, t.2.2) = eqLst F_l_eqMark (t.2.2, t.2.2) := rfl
    rw [this]
    exact eqLst_ok (by have := h.2.2; omega) fun r hr => by unfold F_l_eqMark; simp only [iNe_r, cnd_f]
  unfold F_l_eqTab
  simp only [e1, e2, bnd_s, bNot_t, cnd_f, iNe_r]
/-! ## recs -/
abbrev Rec := Int × Row × List UInt8 × Int × Int × Int × Int
def smC (B : Nat) (r : Rec) : Prop := smR B r.2.1 ∧ r.2.2.1.length ≤ B
theorem eqRecS_ok {l : List Rec} (h : l.length ≤ 4194304) (hr : ∀ r ∈ l, smC 1048576 r) : F_l_eqRecS (l, l) = some true := by
  have : F_l_eqRecS (l, l) = eqLst F_l_eqRec (l, l) := rfl
  rw [this]
  refine eqLst_ok (by omega) fun r hr' => ?_
  have e1 := eqRow_ok (r := r.2.1) ((hr r hr').1.mono (by decide))
  unfold F_l_eqRec
  simp only [iNe_r, cnd_f, e1, bnd_s, bNot_t, sEq_r]
def HRec (m : Int) (e : Rec) (m' : Int) : Prop := ∀ (x : List Rec × Int) (i : Nat), x.1.length ≤ 4194304 → i < x.1.length → x.1[i]? = some e → S_l_heldRecS_0 x (m, (i : Int)) = some (.inl (m', (i : Int) + 1))
theorem markRecS_ok {x : List Rec} {m : Int} (h0 : 0 ≤ m) (hm : m ≤ 1048576) (hl : x.length ≤ 4194304) (hr : ∀ r ∈ x, smC 1048576 r) : ∃ m' x', F_l_markRecS (x, m) = some (m', x') ∧ F_l_heldRecS (x', m) = some m' ∧ x'.length = x.length ∧ m ≤ m' := by
  obtain ⟨l', m', h1, h2, h3, h4, h5⟩ := mark_loop (H := HRec) (K := 4194304) (x := x) (m0 := m) (step := S_l_markRecS_0) (by omega) (by omega) (by
    intro l k i hi hll hx hk1 hk2
    obtain ⟨⟨a1, a2, a3⟩, a4⟩ := hr x[i] (List.getElem_mem hi)
    have hk3 : k ≤ 17592187092992 := by omega
    have hil : i < l.length := by omega
    obtain ⟨s1, hs1⟩ := markText_ok (m := k + 1) (by omega)
    obtain ⟨m1, x1, b1, b2, b3, b4, b5⟩ := markByteS_ok (x := x[i].2.1.2.1.2) (m := k + 1 + 1 + 1) (by omega) (by omega) a2
    obtain ⟨m2, x2, c1, c2, c3, c4, c5⟩ := markByteS_ok (x := x[i].2.1.2.2.1.2) (m := m1 + 1) (by omega) (by omega) a3
    obtain ⟨s2, hs2⟩ := markText_ok (m := m2 + 1 + 1) (by omega)
    have ho := Eq.refl (S_l_markRecS_0 (l, (k, (i : Int))))
    conv at ho => rhs; simp (disch := first | omega | (simp only [lSet_len, lLen_def]; omega)) only [S_l_markRecS_0, iLt_y, cnd_t, idx_n, idx_ofNat, hx, bnd_s, nOf_n, iAdd_ok, hs1, lSet_at, lSet_lSet, nEq_r, chk_t, b1, b3, c1, c3, hs2]
    refine ⟨_, _, ho, ?_, ?_, ?_⟩
    · intro y j hyl hj hy
      simp (disch := first | omega | (simp only [lLen_def]; omega)) only [S_l_heldRecS_0, iLt_y, cnd_t, idx_n, hy, bnd_s, iAdd_ok, iNe_r, cnd_f, hs1, sEq_r, bNot_t, b2, iLt_n, c2, bNe_r, hs2]
    · omega
    · omega) (by
    intro l k hll
    simp only [S_l_markRecS_0]
    rw [iLt_n (by simp only [lLen_def]; omega), cnd_f])
  refine ⟨m', l', ?_, ?_, h3, h4⟩
  · unfold F_l_markRecS
    simp only [h1, joinX_l, h3, nEq_r, chk_t]
  · unfold F_l_heldRecS
    simp only
    rw [held_loop (H := HRec) (m1 := m') (by omega) h2 (fun k k' i hi h => h _ i (by simp only; omega) hi (List.getElem?_eq_getElem hi)) (by
      intro k
      simp only [S_l_heldRecS_0]
      rw [iLt_n (by simp only [lLen_def]; omega), cnd_f])]
    rfl
/-! ## a tab is marked -/
theorem markRowS_any {x : List Row} {m : Int} (h0 : 0 ≤ m) (hm : m ≤ 17592187092992) (hl : x.length ≤ 4194304) (hr : ∀ r ∈ x, smR 1048576 r) : ∃ m' x', F_l_markRowS (x, m) = some (m', x') ∧ x'.length = x.length ∧ m ≤ m' ∧ m' ≤ m + 17592186044416 := by
  obtain ⟨l', m', h1, h2, h3, h4, h5⟩ := mark_loop (H := fun _ _ _ => True) (K := 4194304) (x := x) (m0 := m) (step := S_l_markRowS_0) (by omega) (by omega) (by
    intro l k i hi hll hx hk1 hk2
    obtain ⟨a1, a2, a3⟩ := hr x[i] (List.getElem_mem hi)
    have hil : i < l.length := by omega
    obtain ⟨s1, hs1⟩ := markText_ok (m := k) (by omega)
    obtain ⟨m1, x1, b1, b2, b3, b4, b5⟩ := markByteS_ok (x := x[i].2.1.2) (m := k + 1 + 1) (by omega) (by omega) a2
    obtain ⟨m2, x2, c1, c2, c3, c4, c5⟩ := markByteS_ok (x := x[i].2.2.1.2) (m := m1 + 1) (by omega) (by omega) a3
    have ho := Eq.refl (S_l_markRowS_0 (l, (k, (i : Int))))
    conv at ho => rhs; simp (disch := first | omega | (simp only [lSet_len, lLen_def]; omega)) only [S_l_markRowS_0, iLt_y, cnd_t, idx_n, idx_ofNat, hx, bnd_s, nOf_n, iAdd_ok, hs1, lSet_at, lSet_lSet, nEq_r, chk_t, b1, b3, c1, c3]
    refine ⟨_, _, ho, trivial, ?_, ?_⟩ <;> omega) (by
    intro l k hll
    simp only [S_l_markRowS_0]
    rw [iLt_n (by simp only [lLen_def]; omega), cnd_f])
  refine ⟨m', l', ?_, h3, h4, by omega⟩
  unfold F_l_markRowS
  simp only [h1, joinX_l, h3, nEq_r, chk_t]
theorem markMarkS_any {x : List Mark} {m : Int} (h0 : 0 ≤ m) (hm : m ≤ 35184373137408) (hl : x.length ≤ 4194304) : ∃ m' x', F_l_markMarkS (x, m) = some (m', x') ∧ x'.length = x.length ∧ m ≤ m' := by
  obtain ⟨l', m', h1, h2, h3, h4, h5⟩ := mark_loop (H := fun _ _ _ => True) (K := 3) (x := x) (m0 := m) (step := S_l_markMarkS_0) (by omega) (by omega) (by
    intro l k i hi hll hx hk1 hk2
    have hil : i < l.length := by omega
    have ho := Eq.refl (S_l_markMarkS_0 (l, (k, (i : Int))))
    conv at ho => rhs; simp (disch := first | omega | (simp only [lSet_len, lLen_def]; omega)) only [S_l_markMarkS_0, iLt_y, cnd_t, idx_n, idx_ofNat, hx, bnd_s, nOf_n, iAdd_ok, lSet_at, lSet_lSet, nEq_r, chk_t]
    refine ⟨_, _, ho, trivial, ?_, ?_⟩ <;> omega) (by
    intro l k hll
    simp only [S_l_markMarkS_0]
    rw [iLt_n (by simp only [lLen_def]; omega), cnd_f])
  refine ⟨m', l', ?_, h3, h4⟩
  unfold F_l_markMarkS
  simp only [h1, joinX_l, h3, nEq_r, chk_t]
theorem markTab_any {t : Tab} (h : smT 1048576 t) : ∃ m' x', F_l_markTab (t, 1) = some (m', x') ∧ 0 ≤ m' ∧ x'.1.length = t.1.length ∧ x'.2.length = t.2.2.length := by
  obtain ⟨m1, x1, a1, a2, a3, a4⟩ := markRowS_any (x := t.1) (m := 1) (by omega) (by omega) (by have := h.1; omega) h.2.1
  obtain ⟨m2, x2, b1, b2, b3⟩ := markMarkS_any (x := t.2.2) (m := m1) (by omega) (by omega) (by have := h.2.2; omega)
  unfold F_l_markTab
  simp only [a1, bnd_s, a2, nEq_r, chk_t, b1, b2]
  exact ⟨_, _, rfl, by omega, a2, b2⟩
/-! ## RecsOf, both ways -/
theorem joined1_ok {b : List UInt8} (hb : b.length ≤ 140737488355328) : F_i_joined [b] = some b := by
  unfold F_i_joined
  rw [loop_exact (fun i => (if i = 0 then [] else b, (i : Int))) 1 (.inl b)]
  · rfl
  · intro i hi
    obtain rfl : i = 0 := by omega
    show S_i_joined_0 [b] ([], 0) = some (.inl (b, 1))
    unfold S_i_joined_0
    rw [iLt_y (by simp), cnd_t, show idx [b] (([], 0) : List UInt8 × Int).2 = some b from rfl, bnd_s, room_ok (by simp; omega), chk_t]
    rfl
  · show S_i_joined_0 [b] (b, 1) = some (.inr (.inl b))
    unfold S_i_joined_0
    rw [iLt_n (by simp), cnd_f]
  · rfl
theorem iCopyRow_ok {r : Row} (h : smR 1048576 r) : F_i_copyRow r = some r := by
  have e : ∀ c : Cell, c.2.length ≤ 1048576 → F_i_copyCell c = some c := fun c h => by
    unfold F_i_copyCell; rw [joined1_ok (by omega)]; rfl
  unfold F_i_copyRow
  rw [e (r.2.1.1, r.2.1.2) h.2.1, bnd_s, e (r.2.2.1.1, r.2.2.1.2) h.2.2]; rfl
theorem sCopyRow_ok {r : Row} (h : smR 1048576 r) : F_s_l9Copy r = some r := by
  have e : ∀ c : Cell, c.2.length ≤ 1048576 → F_s_l8Copy c = some c := fun c h => by
    unfold F_s_l8Copy; rw [room_ok (by omega)]; rfl
  unfold F_s_l9Copy
  rw [e (r.2.1.1, r.2.1.2) h.2.1, bnd_s, e (r.2.2.1.1, r.2.2.1.2) h.2.2]; rfl
def rowRec (r : Row) : Rec := (1, r, [], 0, 0, 0, 0)
def markRec (m : Mark) : Rec := (4, ([], (0, []), (0, []), 0, false), [], 0, m.1, m.2.1, m.2.2)
def topRec (z : Int) : Rec := (3, ([], (0, []), (0, []), 0, false), [], z, 0, 0, 0)
def recsT (t : Tab) : List Rec := topRec t.2.1 :: (t.1.map rowRec ++ t.2.2.map markRec)
theorem recsT_len (t : Tab) : (recsT t).length = 1 + t.1.length + t.2.2.length := by simp [recsT]; omega
theorem recsT_sm {t : Tab} (h : smT 1048576 t) : (recsT t).length ≤ 4194304 ∧ ∀ r ∈ recsT t, smC 1048576 r := by
  refine ⟨by rw [recsT_len]; have := h.1; have := h.2.2; omega, ?_⟩
  intro r hr
  simp only [recsT, List.mem_cons, List.mem_append, List.mem_map] at hr
  rcases hr with rfl | ⟨q, hq, rfl⟩ | ⟨q, hq, rfl⟩
  · exact ⟨⟨Nat.zero_le _, Nat.zero_le _, Nat.zero_le _⟩, Nat.zero_le _⟩
  · exact ⟨h.2.1 q hq, Nat.zero_le _⟩
  · exact ⟨⟨Nat.zero_le _, Nat.zero_le _, Nat.zero_le _⟩, Nat.zero_le _⟩
theorem app_loop {α β ρ : Type} {step : List β × Int → Option ((List β × Int) ⊕ (List β ⊕ ρ))} {x : List α} {f : α → β} {l0 : List β} (hs : ∀ (l : List β) (i : Nat) (h : i < x.length), l.length = l0.length + i → step (l, (i : Int)) = some (.inl (l ++ [f x[i]], (i : Int) + 1))) (he : ∀ l, step (l, (x.length : Int)) = some (.inr (.inl l))) : loopX step (l0, 0) = some (.inl (l0 ++ x.map f)) := by
  refine loop_exact (fun i => (l0 ++ (x.take i).map f, (i : Int))) x.length _ ?_ ?_ _ (by simp)
  · intro i hi
    rw [hs _ i hi (by simp; omega)]
    have e : (x.take (i + 1)).map f = (x.take i).map f ++ [f x[i]] := by
      rw [List.take_succ_eq_append_getElem hi, List.map_append]; rfl
    rw [e, ← List.append_assoc]
    rfl
  · rw [he]; simp
theorem sRecsOf_ok {t : Tab} (h : smT 1048576 t) : F_s_RecsOf t = some (recsT t) := by
  have h1 := h.1
  have h2 := h.2.2
  unfold F_s_RecsOf
  rw [app_loop (x := t.1) (f := rowRec) (by
    intro l i hi hl
    simp only [List.length_cons, List.length_nil] at hl
    simp (disch := first | omega | (simp only [lLen_def]; omega)) only [S_s_RecsOf_0, iLt_y, cnd_t, idx_at, bnd_s, sCopyRow_ok (h.2.1 t.1[i] (List.getElem_mem hi)), room_ok, chk_t, iAdd_ok]
    rfl) (by
    intro l
    simp (disch := first | omega | (simp only [lLen_def]; omega)) only [S_s_RecsOf_0, iLt_n, cnd_f])]
  simp only [joinX_l]
  rw [app_loop (x := t.2.2) (f := markRec) (by
    intro l i hi hl
    simp only [List.length_append, List.length_map, List.length_cons, List.length_nil] at hl
    simp (disch := first | omega | (simp only [lLen_def]; omega)) only [S_s_RecsOf_1, iLt_y, cnd_t, idx_at, bnd_s, room_ok, chk_t, iAdd_ok]
    rfl) (by
    intro l
    simp (disch := first | omega | (simp only [lLen_def]; omega)) only [S_s_RecsOf_1, iLt_n, cnd_f])]
  simp only [joinX_l]
  rfl
theorem iRecsOf_ok {t : Tab} (h : smT 1048576 t) : F_i_RecsOf t = some (recsT t) := by
  have h1 := h.1
  have h2 := h.2.2
  unfold F_i_RecsOf
  rw [app_loop (x := t.1) (f := rowRec) (by
    intro l i hi hl
    simp only [List.length_cons, List.length_nil] at hl
    simp (disch := first | omega | (simp only [lLen_def]; omega)) only [S_i_RecsOf_0, iLt_y, cnd_t, idx_at, bnd_s, iCopyRow_ok (h.2.1 t.1[i] (List.getElem_mem hi)), room_ok, chk_t, iAdd_ok]
    rfl) (by
    intro l
    simp (disch := first | omega | (simp only [lLen_def]; omega)) only [S_i_RecsOf_0, iLt_n, cnd_f])]
  simp only [joinX_l]
  rw [app_loop (x := t.2.2) (f := markRec) (by
    intro l i hi hl
    simp only [List.length_append, List.length_map, List.length_cons, List.length_nil] at hl
    simp (disch := first | omega | (simp only [lLen_def]; omega)) only [S_i_RecsOf_1, iLt_y, cnd_t, idx_at, bnd_s, room_ok, chk_t, iAdd_ok]
    rfl) (by
    intro l
    simp (disch := first | omega | (simp only [lLen_def]; omega)) only [S_i_RecsOf_1, iLt_n, cnd_f])]
  simp only [joinX_l]
  rfl
theorem law_RecsOf {t : Tab} (h : smT 9223372036854775807 t) : F_l_FnExactRecsOf t = some true := by
  unfold F_l_FnExactRecsOf
  obtain ⟨z, h1, h2, h3⟩ := szTab_ok (k := 1048576) (by omega) (by omega) h
  rw [show F_l_szTab ((t.1, (t.2.1, t.2.2)), 1048576) = some z from h1, bnd_s]
  by_cases hz : z < 0
  · rw [iLt_y hz]; rfl
  have hs := h3 (by omega)
  obtain ⟨k1, k2⟩ := recsT_sm hs
  obtain ⟨m1, x1, a1, a2, a3, a4⟩ := markTab_any hs
  obtain ⟨m2, x2, b1, b2, b3, b4⟩ := markRecS_ok (m := 1) (by omega) (by omega) k1 k2
  have e0 : F_l_toTab (t.1, (t.2.1, t.2.2)) = some t := toTab_ok hs
  have e1 : F_s_RecsOf (t.1, (t.2.1, t.2.2)) = some (recsT t) := sRecsOf_ok hs
  have e2 : F_i_RecsOf (t.1, (t.2.1, t.2.2)) = some (recsT t) := iRecsOf_ok hs
  have e3 := eqRecS_ok k1 k2
  have e4 : F_l_eqTab ((t.1, (t.2.1, t.2.2)), (t.1, (t.2.1, t.2.2))) = some true := eqTab_ok hs
  have e5 : F_l_markTab ((t.1, (t.2.1, t.2.2)), 1) = some (m1, x1) := a1
  simp (disch := omega) only [iLt_n, cnd_f, e0, e1, e2, e3, e4, e5, bnd_s, bNot_t, b1, b2, b3, a3, a4, nEq_r, chk_t, iNe_r]
theorem okTab {t : Tab} (h : okT (.P (.L (.P .S (.P (.P (.I .i64) (.L .Y)) (.P (.P (.I .i64) (.L .Y)) (.P (.I .i64) .B))))) (.P (.I .i64) (.L (.P (.I .i64) (.P (.I .i64) (.I .i64)))))) t) : smT 9223372036854775807 t :=
  ⟨h.1.1, fun r hr => ⟨(h.1.2 r hr).1, (h.1.2 r hr).2.1.2.1, (h.1.2 r hr).2.2.1.2.1⟩, h.2.2.1⟩
end
end Go.Vs
