import Derived.Test.YtboohaconpkhaaaDoorVsW5
import Derived.Test.YtboohaconpkhaaaDoorVsQb4
set_option linter.all false
namespace Go.Vs
set_option linter.unusedVariables false
set_option linter.unusedSimpArgs false
noncomputable section
abbrev Cell := Int × List UInt8
theorem szByteS_ok {l : List UInt8} {k : Int} (h0 : 0 ≤ k) (hk : k ≤ 4611686018427387904) (hl : l.length ≤ 9223372036854775807) : SzR (F_l_szByteS (l, k)) k ((l.length : Int) ≤ k) := by
 have e : iSub .i64 k (lLen l) = k - l.length := iSub_ok (by simp only [lLen_def]; omega) (by simp only [lLen_def]; omega)
 exact (SzR.sub (P := True) h0 hk hl fun h => by simp only [e]; exact SzR.done).mono (Int.le_refl _) fun h => h.1
theorem toByteS_ok {x : List UInt8} (hl : x.length ≤ 140737488355328) : F_l_toByteS x = some x := by
 have : F_l_toByteS x = toLst (fun b => some b) 0 1 x := rfl
 rw [this]
 exact toLst_ok (by omega) (by omega) fun _ _ => rfl
theorem eqByteS_ok {x : List UInt8} (hl : x.length < 9223372036854775807) : F_l_eqByteS (x, x) = some true := by
 unfold F_l_eqByteS
 simp only [iNe_r, cnd_f]
 refine loop_exact (fun i => (i : Int)) x.length true ?_ ?_ 0 rfl
 ·intro i hi
  unfold S_l_eqByteS_0
  rw [iLt_y (by simp only [lLen_def]; omega), cnd_t, idx_at hi, bnd_s, bnd_s, iNe_r, cnd_f, iAdd_1 (by omega)]
 ·unfold S_l_eqByteS_0
  rw [iLt_n (by simp only [lLen_def]; omega), cnd_f]
theorem szCell_ok {c : Cell} {k : Int} (h0 : 0 ≤ k) (hk : k ≤ 4611686018427387904) (hl : c.2.length ≤ 9223372036854775807) : SzR (F_l_szCell (c, k)) k ((c.2.length : Int) ≤ k) := SzR.one h0 (szByteS_ok h0 hk hl)
theorem toCell_ok {c : Cell} (hl : c.2.length ≤ 140737488355328) : F_l_toCell c = some c := by
 unfold F_l_toCell; rw [toByteS_ok hl]; rfl
theorem eqCell_ok {c : Cell} (hl : c.2.length < 9223372036854775807) : F_l_eqCell (c, c) = some true := by
 unfold F_l_eqCell
 simp only [iNe_r, cnd_f, eqByteS_ok hl, bnd_s, bNot_t]
def HB (m : Int) (b : UInt8) (m' : Int) : Prop := m < 9223372036854775807 ∧ 0 ≤ m ∧ b = u8 (iConv .u8 m) ∧ m' = m + 1
theorem markByteS_big {x : List UInt8} {m : Int} (h0 : 0 ≤ m) (hm : m ≤ 1152921504606846976) (hl : x.length ≤ 140737488355328) : ∃ m' x', F_l_markByteS (x, m) = some (m', x') ∧ F_l_heldByteS (x', m) = some m' ∧ x'.length = x.length ∧ m ≤ m' ∧ m' ≤ m + x.length := by
 obtain ⟨l', m', h1, h2, h3, h4, h5⟩ := mark_loop (H := HB) (K := 1) (x := x) (m0 := m) (step := S_l_markByteS_0) (by omega) (by omega) (by
  intro l k i hi hll hx hk1 hk2
  refine ⟨u8 (iConv .u8 k), k + 1, ?_, ⟨by omega, by omega, rfl, rfl⟩, ?_, ?_⟩
  ·simp only [S_l_markByteS_0]
   rw [iLt_y (by simp only [lLen_def]; omega), cnd_t]
   simp (disch := omega) only [idx_n, hx, bnd_s, nOf_n, iAdd_ok]
  ·omega
  ·omega) (by
  intro l k hll
  simp only [S_l_markByteS_0]
  rw [iLt_n (by simp only [lLen_def]; omega), cnd_f])
 refine ⟨m', l', ?_, ?_, h3, h4, by omega⟩
 ·unfold F_l_markByteS
  simp only [h1, joinX_l, h3, nEq_r, chk_t]
 ·unfold F_l_heldByteS
  simp only
  rw [held_loop (H := HB) (m1 := m') (by omega) h2 (by
   rintro k k' i hi ⟨q1, q2, a, b⟩
   simp only [S_l_heldByteS_0]
   rw [iLt_y (by simp only [lLen_def]; omega), cnd_t, idx_at hi, bnd_s, a, iNe_r, cnd_f, b, iAdd_ok (by omega) (by omega), iAdd_ok (by omega) (by omega)]) (by
   intro k
   simp only [S_l_heldByteS_0]
   rw [iLt_n (by simp only [lLen_def]; omega), cnd_f])]
  rfl
theorem markByteS_ok {x : List UInt8} {m : Int} (h0 : 0 ≤ m) (hm : m ≤ 1152921504606846976) (hl : x.length ≤ 1048576) : ∃ m' x', F_l_markByteS (x, m) = some (m', x') ∧ F_l_heldByteS (x', m) = some m' ∧ x'.length = x.length ∧ m ≤ m' ∧ m' ≤ m + 1048576 := by
 obtain ⟨m', x', a, b, c, d, e⟩ := markByteS_big (x := x) h0 hm (by omega)
 exact ⟨m', x', a, b, c, d, by omega⟩
def cellOk (c : Cell) : Bool := decide (0 ≤ c.1 ∧ c.1 ≤ 5) && decide (c.2.length ≤ 20)
def cellText (c : Cell) : Option (List UInt8) := if cellOk c then decodeT c.1.toNat c.2 else none
theorem cellText_ok {c : Cell} {t : List UInt8} (h : cellText c = some t) : cellOk c = true ∧ decodeT c.1.toNat c.2 = some t := by
 unfold cellText at h
 split at h
 ·rename_i h1; exact ⟨h1, h⟩
 ·cases h
theorem s_CellOk (c : Cell) : F_s_CellOk c = some (cellOk c) := by
 unfold F_s_CellOk F_s_l5Cs cellOk
 simp only [s_In, bnd_s, cnd_if]
 split
 ·rename_i h
  have : (0 : Int) ≤ c.1 ∧ c.1 ≤ 5 := by simpa using h
  rw [decide_eq_true this]
  simp only [Bool.true_and, iLe, lLen_def]
  exact congrArg some (decide_eq_decide.2 (by omega))
 ·rename_i h
  have : ¬ ((0 : Int) ≤ c.1 ∧ c.1 ≤ 5) := by simpa using h
  rw [decide_eq_false this]; rfl
theorem i_CellOk (c : Cell) : F_i_CellOk c = some (cellOk c) := s_CellOk c
theorem cellText_f {c : Cell} {F : Int × List UInt8 → Option (List UInt8 × Bool)} (hF : ∀ {cs : Nat} {b : List UInt8}, cs ≤ 5 → b.length ≤ 1048576 → F ((cs : Int), b) = some (optR (decodeT cs b))) :
  (bnd (some (cellOk c)) (fun (z1 : Bool) => (cnd (bNot z1) (some ([], false)) (bnd (F (c.1, c.2)) (fun (z2 : ((List UInt8) × Bool)) => (some (z2.1, z2.2))))))) = some (optR (cellText c)) := by
 rw [bnd_s]
 unfold cellText
 cases h : cellOk c with
 | false => rfl
 | true =>
  simp only [bNot_t, cnd_f, if_true]
  simp only [cellOk, Bool.and_eq_true, decide_eq_true_eq] at h
  obtain ⟨⟨h0, h5⟩, hl⟩ := h
  obtain ⟨t, b⟩ := c
  simp only at h0 h5 hl ⊢
  obtain ⟨n, rfl⟩ := Int.eq_ofNat_of_zero_le h0
  rw [hF (by omega) (by omega), bnd_s]; rfl
theorem s_CellText (c : Cell) : F_s_CellText c = some (optR (cellText c)) := by
 unfold F_s_CellText
 rw [show F_s_CellOk (c.1, c.2) = some (cellOk c) from s_CellOk c]
 exact cellText_f fun h1 h2 => s_Decode h1 h2
theorem i_CellText (c : Cell) : F_i_CellText c = some (optR (cellText c)) := by
 unfold F_i_CellText
 rw [show F_i_CellOk (c.1, c.2) = some (cellOk c) from i_CellOk c]
 exact cellText_f fun h1 h2 => i_Decode h1 h2
abbrev Row := List UInt8 × Cell × Cell × Int × Bool
def smR (B : Nat) (r : Row) : Prop := r.1.length ≤ B ∧ r.2.1.2.length ≤ B ∧ r.2.2.1.2.length ≤ B
theorem smR.mono {A B : Nat} {r : Row} (h : smR A r) (hab : A ≤ B) : smR B r := ⟨Nat.le_trans h.1 hab, Nat.le_trans h.2.1 hab, Nat.le_trans h.2.2 hab⟩
theorem markCell_ok {c : Cell} {m : Int} (h0 : 0 ≤ m) (hm : m ≤ 1152921504606846976) (hl : c.2.length ≤ 1048576) : ∃ m' x', F_l_markCell (c, m) = some (m', x') ∧ F_l_heldCell ((c.1, x'), m) = some m' ∧ x'.length = c.2.length ∧ m ≤ m' ∧ m' ≤ m + 1048576 := by
 obtain ⟨m1, x1, a1, a2, a3, a4, a5⟩ := markByteS_ok (x := c.2) h0 hm hl
 refine ⟨m1, x1, ?_, ?_, a3, a4, a5⟩
 ·unfold F_l_markCell
  simp only [a1, bnd_s, a3, nEq_r, chk_t]
 ·unfold F_l_heldCell
  simp only [a2, bnd_s]
  rw [iLt_n (by omega), cnd_f]
def cellOf (cs : Int) (x : List UInt8) : Option Cell := match encV cs x with
 | none => none
 | some b => if b.length ≤ 20 then some (cs, b) else none
def cR (o : Option Cell) : Cell × Bool := match o with
 | none => ((0, []), false)
 | some c => (c, true)
theorem encV_cs {cs : Int} {x b : List UInt8} (h : encV cs x = some b) : 0 ≤ cs ∧ cs ≤ 5 := by
 unfold encV at h
 split at h
 ·assumption
 ·cases h
theorem s_CellOf {cs : Int} {x : List UInt8} (hl : x.length ≤ 1048576) : F_s_CellOf (cs, x) = some (cR (cellOf cs x)) := by
 unfold F_s_CellOf cellOf
 simp only [s_Encode hl, bnd_s]
 cases encV cs x with
 | none => rfl
 | some b =>
  simp only [optR, bNot_t, cnd_f]
  by_cases h : b.length ≤ 20
  ·rw [iGt_n (by simp only [lLen_def]; omega), cnd_f, if_pos h]; rfl
  ·rw [iGt_y (by simp only [lLen_def]; omega), cnd_t, if_neg h]; rfl
theorem i_CellOf {cs : Int} {x : List UInt8} (hl : x.length ≤ 1048576) : F_i_CellOf (cs, x) = some (cR (cellOf cs x)) := by
 unfold F_i_CellOf cellOf
 simp only [i_Encode hl, bnd_s]
 cases he : encV cs x with
 | none => rfl
 | some b =>
  have hc := encV_cs he
  simp only [optR, bNot_t, cnd_f]
  rw [show F_i_CellOk (cs, b) = some (cellOk (cs, b)) from i_CellOk (cs, b), bnd_s]
  unfold cellOk
  simp only
  rw [decide_eq_true hc, Bool.true_and]
  by_cases h : b.length ≤ 20
  ·rw [decide_eq_true h, if_pos h]; rfl
  ·rw [decide_eq_false h, if_neg h]; rfl
theorem cellOf_len (cs : Int) (x : List UInt8) : (cR (cellOf cs x)).1.2.length ≤ 20 := by
 unfold cellOf
 split
 ·exact Nat.zero_le _
 ·split
  ·assumption
  ·exact Nat.zero_le _
end
end Go.Vs
