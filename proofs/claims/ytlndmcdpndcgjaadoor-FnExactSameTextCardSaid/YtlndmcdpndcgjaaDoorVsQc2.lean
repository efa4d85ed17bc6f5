import Derived.Test.YtlndmcdpndcgjaaDoorVsW4
import Derived.Test.YtlndmcdpndcgjaaDoorVsQc1
set_option linter.all false
namespace Go.Vs
set_option linter.unusedVariables false
set_option linter.unusedSimpArgs false
noncomputable section
/-! ## bytes, cells: sizes, copies, comparing, marks -/
abbrev Cell := Int × List UInt8
theorem szByteS_ok {l : List UInt8} {k : Int} (h0 : 0 ≤ k) (hk : k ≤ 4611686018427387904) (hl : l.length ≤ 9223372036854775807) : SzR (F_l_szByteS (l, k)) k ((l.length : Int) ≤ k) := by
  have e : iSub .i64 k (lLen l) = k - l.length := iSub_ok (by simp only [lLen_def]; omega) (by simp only [lLen_def]; omega)
  exact (SzR.sub (P := True) h0 hk hl fun h => by simp only [e]; exact SzR.done).mono (Int.le_refl _) fun h => h.1
theorem toByteS_ok {x : List UInt8} (hl : x.length ≤ 140737488355328) : F_l_toByteS x = some x := by
  have : F_l_toByteS x = toLst (fun b => some b) 0 1 x := rfl
  rw [this]
  exact toLst_ok (by omega) (by omega) fun _ _ => rfl
theorem eqByteS_ok {x : List UInt8} (hl : x.length < 9223372036854775807) : F_l_eqByteS (x, x) = some true := by
  unfold F_l_eqByteS
  simp only [iNe_r, cnd_f]
  refine loop_exact (fun i => (i : Int)) x.length true ?_ ?_ 0 rfl
  · intro i hi
    unfold S_l_eqByteS_0
    rw [iLt_y (by simp only [lLen_def]; omega), cnd_t, idx_at hi, bnd_s, bnd_s, iNe_r, cnd_f, iAdd_1 (by omega)]
  · unfold S_l_eqByteS_0
    rw [iLt_n (by simp only [lLen_def]; omega), cnd_f]
/-- The marks that bytes hold. -/
theorem szCell_ok {c : Cell} {k : Int} (h0 : 0 ≤ k) (hk : k ≤ 4611686018427387904) (hl : c.2.length ≤ 9223372036854775807) : SzR (F_l_szCell (c, k)) k ((c.2.length : Int) ≤ k) := SzR.one h0 (szByteS_ok h0 hk hl)
theorem toCell_ok {c : Cell} (hl : c.2.length ≤ 140737488355328) : F_l_toCell c = some c := by
  unfold F_l_toCell; rw [toByteS_ok hl]; rfl
theorem eqCell_ok {c : Cell} (hl : c.2.length < 9223372036854775807) : F_l_eqCell (c, c) = some true := by
  unfold F_l_eqCell
  simp only [iNe_r, cnd_f, eqByteS_ok hl, bnd_s, bNot_t]
/-! ## rows -/
abbrev Row := List UInt8 × Cell × Cell × Int × Bool
def smR (B : Nat) (r : Row) : Prop := r.1.length ≤ B ∧ r.2.1.2.length ≤ B ∧ r.2.2.1.2.length ≤ B
theorem smR.mono {A B : Nat} {r : Row} (h : smR A r) (hab : A ≤ B) : smR B r := ⟨Nat.le_trans h.1 hab, Nat.le_trans h.2.1 hab, Nat.le_trans h.2.2 hab⟩
/-! ## cells, rows, records: what is right -/
def cellOk (c : Cell) : Bool := decide (0 ≤ c.1 ∧ c.1 ≤ 5) && decide (c.2.length ≤ 20)
def cellText (c : Cell) : Option (List UInt8) := if cellOk c then decodeT c.1.toNat c.2 else none
def sameText (a b : Cell) : Bool := match cellText a, cellText b with
  | some x, some y => x == y
  | _, _ => false
/-! ## as bytes, and back -/
/-! ## cells and rows, both ways -/
theorem s_CellOk (c : Cell) : F_s_CellOk c = some (cellOk c) := by
  unfold F_s_CellOk F_s_l5Cs cellOk
  simp only [s_In, bnd_s, cnd_if]
  split
  · rename_i h
    have : (0 : Int) ≤ c.1 ∧ c.1 ≤ 5 := by simpa using h
    rw [decide_eq_true this]
    simp only [Bool.true_and, iLe, lLen_def]
    exact congrArg some (decide_eq_decide.2 (by omega))
  · rename_i h
    have : ¬ ((0 : Int) ≤ c.1 ∧ c.1 ≤ 5) := by simpa using h
    rw [decide_eq_false this]; rfl
theorem i_CellOk (c : Cell) : F_i_CellOk c = some (cellOk c) := s_CellOk c
theorem cellText_f {c : Cell} {F : Int × List UInt8 → Option (List UInt8 × Bool)} (hF : ∀ {cs : Nat} {b : List UInt8}, cs ≤ 5 → b.length ≤ 1048576 → F ((cs : Int), b) = some (optR (decodeT cs b))) :
    (bnd (some (cellOk c)) (fun (z1 : Bool) => (cnd (bNot z1) (some ([], false)) (bnd (F (c.1, c.2)) (fun (z2 : ((List UInt8) × Bool)) => (some (z2.1, z2.2))))))) = some (optR (cellText c)) := by
  rw [bnd_s]
  unfold cellText
  cases h : cellOk c with
  | false => rfl
  | true =>
    simp only [bNot_t, cnd_f, if_true]
    simp only [cellOk, Bool.and_eq_true, decide_eq_true_eq] at h
    obtain ⟨⟨h0, h5⟩, hl⟩ := h
    obtain ⟨t, b⟩ := c
    simp only at h0 h5 hl ⊢
    obtain ⟨n, rfl⟩ := Int.eq_ofNat_of_zero_le h0
    rw [hF (by omega) (by omega), bnd_s]; rfl
theorem s_CellText (c : Cell) : F_s_CellText c = some (optR (cellText c)) := by
  unfold F_s_CellText
  rw [show F_s_CellOk (c.1, c.2) = some (cellOk c) from s_CellOk c]
  exact cellText_f fun h1 h2 => s_Decode h1 h2
theorem i_CellText (c : Cell) : F_i_CellText c = some (optR (cellText c)) := by
  unfold F_i_CellText
  rw [show F_i_CellOk (c.1, c.2) = some (cellOk c) from i_CellOk c]
  exact cellText_f fun h1 h2 => i_Decode h1 h2
theorem same_f {a b : Cell} {F : Cell → Option (List UInt8 × Bool)} (hF : ∀ c, F c = some (optR (cellText c))) : (bnd (F (a.1, a.2)) (fun (z1 : ((List UInt8) × Bool)) => (bnd
  (F (b.1, b.2)) (fun (z2 : ((List UInt8) × Bool)) => (cnd z1.2 (cnd z2.2 (some (sEq z1.1 z2.1)) (some false)) (some false)))))) = some (sameText a b) := by
  rw [hF, bnd_s, hF, bnd_s]
  unfold sameText
  cases h1 : cellText a <;> cases h2 : cellText b <;> rfl
theorem s_SameText (a b : Cell) : F_s_SameText (a, b) = some (sameText a b) := same_f s_CellText
theorem i_SameText (a b : Cell) : F_i_SameText (a, b) = some (sameText a b) := same_f i_CellText
theorem law_SameText {x : Cell × Cell} (h : x.1.2.length ≤ 9223372036854775807 ∧ x.2.2.length ≤ 9223372036854775807) : F_l_FnExactSameText x = some true := by
  obtain ⟨a, b⟩ := x
  simp only at h
  unfold F_l_FnExactSameText
  obtain ⟨z, h1, h2, h3⟩ := szCell_ok (c := a) (k := 1048576) (by omega) (by omega) h.1
  rw [show F_l_szCell ((a.1, a.2), 1048576) = some z from h1, bnd_s]
  by_cases hz : z < 0
  · rw [iLt_y hz]; rfl
  rw [iLt_n (by omega), cnd_f]
  obtain ⟨y, k1, k2, k3⟩ := szCell_ok (c := b) (k := z) (by omega) (by omega) h.2
  rw [show F_l_szCell ((b.1, b.2), z) = some y from k1, bnd_s]
  by_cases hy : y < 0
  · rw [iLt_y hy]; rfl
  have ha := h3 (by omega)
  have hb := k3 (by omega)
  have e1 : F_l_toCell (a.1, a.2) = some a := toCell_ok (c := a) (by omega)
  have e2 : F_l_toCell (b.1, b.2) = some b := toCell_ok (c := b) (by omega)
  have e3 : F_s_SameText ((a.1, a.2), (b.1, b.2)) = some (sameText a b) := s_SameText a b
  have e4 : F_i_SameText ((a.1, a.2), (b.1, b.2)) = some (sameText a b) := i_SameText a b
  have e5 : F_l_eqCell ((a.1, a.2), (a.1, a.2)) = some true := eqCell_ok (c := a) (by omega)
  have e6 : F_l_eqCell ((b.1, b.2), (b.1, b.2)) = some true := eqCell_ok (c := b) (by omega)
  rw [iLt_n (by omega), cnd_f]
  simp only [e1, e2, e3, e4, e5, e6, bnd_s, bNe_r, cnd_f, bNot_t]
/-! ## names -/
end
end Go.Vs
