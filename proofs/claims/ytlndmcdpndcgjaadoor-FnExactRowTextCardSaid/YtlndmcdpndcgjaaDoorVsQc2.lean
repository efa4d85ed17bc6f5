import Derived.Test.YtlndmcdpndcgjaaDoorVsW4
import Derived.Test.YtlndmcdpndcgjaaDoorVsQc1
set_option linter.all false
namespace Go.Vs
set_option linter.unusedVariables false
set_option linter.unusedSimpArgs false
noncomputable section
/-! ## bytes, cells: sizes, copies, comparing, marks -/
abbrev Cell := Int × List UInt8
theorem szByteS_ok {l : List UInt8} {k : Int} (h0 : 0 ≤ k) (hk : k ≤ 4611686018427387904) (hl : l.length ≤ 9223372036854775807) : SzR (F_l_szByteS (l, k)) k ((l.length : Int) ≤ k) := by
  have e : iSub .i64 k (lLen l) = k - l.length := iSub_ok (by simp only [lLen_def]; omega) (by simp only [lLen_def]; omega)
  exact (SzR.sub (P := True) h0 hk hl fun h => by simp only [e]; exact SzR.done).mono (Int.le_refl _) fun h => h.1
theorem toByteS_ok {x : List UInt8} (hl : x.length ≤ 140737488355328) : F_l_toByteS x = some x := by
  have : F_l_toByteS x = toLst (fun b => some b) 0 1 x := rfl
  rw [this]
  exact toLst_ok (by omega) (by omega) fun _ _ => rfl
theorem eqByteS_ok {x : List UInt8} (hl : x.length < 9223372036854775807) : F_l_eqByteS (x, x) = some true := by
  unfold F_l_eqByteS
  simp only [iNe_r, cnd_f]
  refine loop_exact (fun i => (i : Int)) x.length true ?_ ?_ 0 rfl
  · intro i hi
    unfold S_l_eqByteS_0
    rw [iLt_y (by simp only [lLen_def]; omega), cnd_t, idx_at hi, bnd_s, bnd_s, iNe_r, cnd_f, iAdd_1 (by omega)]
  · unfold S_l_eqByteS_0
    rw [iLt_n (by simp only [lLen_def]; omega), cnd_f]
/-- The marks that bytes hold. -/
theorem szCell_ok {c : Cell} {k : Int} (h0 : 0 ≤ k) (hk : k ≤ 4611686018427387904) (hl : c.2.length ≤ 9223372036854775807) : SzR (F_l_szCell (c, k)) k ((c.2.length : Int) ≤ k) := SzR.one h0 (szByteS_ok h0 hk hl)
theorem toCell_ok {c : Cell} (hl : c.2.length ≤ 140737488355328) : F_l_toCell c = some c := by
  unfold F_l_toCell; rw [toByteS_ok hl]; rfl
theorem eqCell_ok {c : Cell} (hl : c.2.length < 9223372036854775807) : F_l_eqCell (c, c) = some true := by
  unfold F_l_eqCell
  simp only [iNe_r, cnd_f, eqByteS_ok hl, bnd_s, bNot_t]
/-! ## rows -/
abbrev Row := List UInt8 × Cell × Cell × Int × Bool
def smR (B : Nat) (r : Row) : Prop := r.1.length ≤ B ∧ r.2.1.2.length ≤ B ∧ r.2.2.1.2.length ≤ B
theorem szRow_ok {r : Row} {k : Int} (h0 : 0 ≤ k) (hk : k ≤ 1048576) (hl : smR 9223372036854775807 r) : SzR (F_l_szRow (r, k)) k (smR 1048576 r) := by
  obtain ⟨a, b, c⟩ := hl
  have e : iSub .i64 k (lLen r.1) = k - r.1.length := iSub_ok (by simp only [lLen_def]; omega) (by simp only [lLen_def]; omega)
  unfold F_l_szRow
  refine (SzR.sub (P := r.2.1.2.length ≤ 1048576 ∧ r.2.2.1.2.length ≤ 1048576) h0 (by omega) a fun h => ?_).mono (Int.le_refl _) fun h => ⟨by have := h.1; omega, h.2⟩
  simp only [e]
  refine SzR.seq (by omega) ((szCell_ok (c := r.2.1) (by omega) (by omega) b).mono (Int.le_refl _) fun h => by omega) fun z hz hz2 => ?_
  exact SzR.one hz ((szCell_ok (c := r.2.2.1) hz (by omega) c).mono (Int.le_refl _) fun h => by omega)
theorem toRow_ok {r : Row} (h : smR 140737488355328 r) : F_l_toRow r = some r := by
  unfold F_l_toRow
  rw [toCell_ok (c := (r.2.1.1, r.2.1.2)) h.2.1, bnd_s, toCell_ok (c := (r.2.2.1.1, r.2.2.1.2)) h.2.2]; rfl
theorem eqRow_ok {r : Row} (h : smR 9223372036854775806 r) : F_l_eqRow (r, r) = some true := by
  have e1 := eqCell_ok (c := (r.2.1.1, r.2.1.2)) (Nat.lt_succ_of_le h.2.1)
  have e2 := eqCell_ok (c := (r.2.2.1.1, r.2.2.1.2)) (Nat.lt_succ_of_le h.2.2)
  unfold F_l_eqRow
  simp only [iNe_r, cnd_f, sEq_r, bNot_t, e1, e2, bnd_s, bNe_r]
theorem smR.mono {A B : Nat} {r : Row} (h : smR A r) (hab : A ≤ B) : smR B r := ⟨Nat.le_trans h.1 hab, Nat.le_trans h.2.1 hab, Nat.le_trans h.2.2 hab⟩
/-! ## cells, rows, records: what is right -/
def cellOk (c : Cell) : Bool := decide (0 ≤ c.1 ∧ c.1 ≤ 5) && decide (c.2.length ≤ 20)
def cellText (c : Cell) : Option (List UInt8) := if cellOk c then decodeT c.1.toNat c.2 else none
/-! ## as bytes, and back -/
/-! ## cells and rows, both ways -/
theorem s_CellOk (c : Cell) : F_s_CellOk c = some (cellOk c) := by
  unfold F_s_CellOk F_s_l5Cs cellOk
  simp only [s_In, bnd_s, cnd_if]
  split
  · rename_i h
    have : (0 : Int) ≤ c.1 ∧ c.1 ≤ 5 := by simpa using h
    rw [decide_eq_true this]
    simp only [Bool.true_and, iLe, lLen_def]
    exact congrArg some (decide_eq_decide.2 (by omega))
  · rename_i h
    have : ¬ ((0 : Int) ≤ c.1 ∧ c.1 ≤ 5) := by simpa using h
    rw [decide_eq_false this]; rfl
theorem i_CellOk (c : Cell) : F_i_CellOk c = some (cellOk c) := s_CellOk c
theorem cellText_f {c : Cell} {F : Int × List UInt8 → Option (List UInt8 × Bool)} (hF : ∀ {cs : Nat} {b : List UInt8}, cs ≤ 5 → b.length ≤ 1048576 → F ((cs : Int), b) = some (optR (decodeT cs b))) :
    (bnd (some (cellOk c)) (fun (z1 : Bool) => (cnd (bNot z1) (some ([], false)) (bnd (F (c.1, c.2)) (fun (z2 : ((List UInt8) × Bool)) => (some (z2.1, z2.2))))))) = some (optR (cellText c)) := by
  rw [bnd_s]
  unfold cellText
  cases h : cellOk c with
  | false => rfl
  | true =>
    simp only [bNot_t, cnd_f, if_true]
    simp only [cellOk, Bool.and_eq_true, decide_eq_true_eq] at h
    obtain ⟨⟨h0, h5⟩, hl⟩ := h
    obtain ⟨t, b⟩ := c
    simp only at h0 h5 hl ⊢
    obtain ⟨n, rfl⟩ := Int.eq_ofNat_of_zero_le h0
    rw [hF (by omega) (by omega), bnd_s]; rfl
theorem s_CellText (c : Cell) : F_s_CellText c = some (optR (cellText c)) := by
  unfold F_s_CellText
  rw [show F_s_CellOk (c.1, c.2) = some (cellOk c) from s_CellOk c]
  exact cellText_f fun h1 h2 => s_Decode h1 h2
theorem i_CellText (c : Cell) : F_i_CellText c = some (optR (cellText c)) := by
  unfold F_i_CellText
  rw [show F_i_CellOk (c.1, c.2) = some (cellOk c) from i_CellOk c]
  exact cellText_f fun h1 h2 => i_Decode h1 h2
theorem and2 (z : Int) : iAnd .i64 z 2 = 0 ∨ iAnd .i64 z 2 = 2 := by
  unfold iAnd
  have h1 : (BitVec.ofInt IntKind.i64.bits z &&& BitVec.ofInt IntKind.i64.bits 2).toNat = 0 ∨ (BitVec.ofInt IntKind.i64.bits z &&& BitVec.ofInt IntKind.i64.bits 2).toNat = 2 := by
    rw [BitVec.toNat_and, show (BitVec.ofInt IntKind.i64.bits 2).toNat = 2 from rfl]
    generalize (BitVec.ofInt IntKind.i64.bits z).toNat = x
    have h2 : x &&& 2 ≤ 2 := Nat.and_le_right
    have h3 : (x &&& 2).testBit 0 = false := by rw [Nat.testBit_and]; simp
    rw [Nat.testBit_zero, decide_eq_false_iff_not] at h3
    omega
  rcases h1 with h | h
  · left; rw [h]; rfl
  · right; rw [h]; rfl
def rowText (r : Row) : Option (List UInt8) := if iAnd .i64 r.2.2.2.1 2 = 2 then cellText r.2.2.1 else cellText r.2.1
theorem s_RowText (r : Row) : F_s_RowText r = some (optR (rowText r)) := by
  unfold F_s_RowText F_s_l9New rowText
  have e1 : F_s_CellText (r.2.1.1, r.2.1.2) = some (optR (cellText r.2.1)) := s_CellText r.2.1
  have e2 : F_s_CellText (r.2.2.1.1, r.2.2.1.2) = some (optR (cellText r.2.2.1)) := s_CellText r.2.2.1
  simp only [bnd_s, e1, e2]
  rcases and2 r.2.2.2.1 with h | h
  · rw [h, if_neg (by decide)]; rfl
  · rw [h, if_pos rfl]; rfl
theorem i_RowText (r : Row) : F_i_RowText r = some (optR (rowText r)) := by
  unfold F_i_RowText rowText
  have e1 : F_i_CellText (r.2.1.1, r.2.1.2) = some (optR (cellText r.2.1)) := i_CellText r.2.1
  have e2 : F_i_CellText (r.2.2.1.1, r.2.2.1.2) = some (optR (cellText r.2.2.1)) := i_CellText r.2.2.1
  simp only [bnd_s, e1, e2]
  rcases and2 r.2.2.2.1 with h | h
  · rw [h, if_neg (by decide)]; rfl
  · rw [h, if_pos rfl]; rfl
theorem law_RowText {r : Row} (h : smR 9223372036854775807 r) : F_l_FnExactRowText r = some true := by
  unfold F_l_FnExactRowText
  obtain ⟨z, h1, h2, h3⟩ := szRow_ok (k := 1048576) (by omega) (by omega) h
  rw [show F_l_szRow ((r.1, ((r.2.1.1, r.2.1.2), ((r.2.2.1.1, r.2.2.1.2), (r.2.2.2.1, r.2.2.2.2)))), 1048576) = some z from h1, bnd_s]
  by_cases hz : z < 0
  · rw [iLt_y hz]; rfl
  have hs := h3 (by omega)
  have e1 : F_l_toRow (r.1, ((r.2.1.1, r.2.1.2), ((r.2.2.1.1, r.2.2.1.2), (r.2.2.2.1, r.2.2.2.2)))) = some r := toRow_ok (hs.mono (by omega))
  have e2 : F_s_RowText (r.1, ((r.2.1.1, r.2.1.2), ((r.2.2.1.1, r.2.2.1.2), (r.2.2.2.1, r.2.2.2.2)))) = some (optR (rowText r)) := s_RowText r
  have e3 : F_i_RowText (r.1, ((r.2.1.1, r.2.1.2), ((r.2.2.1.1, r.2.2.1.2), (r.2.2.2.1, r.2.2.2.2)))) = some (optR (rowText r)) := i_RowText r
  have e4 : F_l_eqRow ((r.1, ((r.2.1.1, r.2.1.2), ((r.2.2.1.1, r.2.2.1.2), (r.2.2.2.1, r.2.2.2.2)))), (r.1, ((r.2.1.1, r.2.1.2), ((r.2.2.1.1, r.2.2.1.2), (r.2.2.2.1, r.2.2.2.2))))) = some true := eqRow_ok (hs.mono (by omega))
  rw [iLt_n (by omega), cnd_f]
  simp only [e1, e2, e3, e4, bnd_s, sEq_r, bNe_r, cnd_f, bNot_t]
/-! ## names -/
end
end Go.Vs
