import Derived.Test.YtlndmcdpndcgjaaDoorVsW5
import Derived.Test.YtlndmcdpndcgjaaDoorVsQc8
set_option linter.all false
namespace Go.Vs
set_option linter.unusedVariables false
set_option linter.unusedSimpArgs false
noncomputable section
theorem sum_step {n : Nat} (h : n < 65536) : (joinX (cnd (iGt ((2 * n : Nat) : Int) 65535) (some (.inl (iXor .i64 ((2 * n : Nat) : Int) 69665))) (some (.inl ((2 * n : Nat) : Int)))) fun z => some z : Option Int) = some ((crc1 n : Nat) : Int) := by
 unfold crc1
 by_cases h1 : 2 * n > 65535
 ·rw [iGt_y (by omega), cnd_t, if_pos h1, show (69665 : Int) = ((69665 : Nat) : Int) from rfl, iXor_s (k := .i64) (by show _ < 2 ^ 63; omega) (by show _ < 2 ^ 63; omega)]; rfl
 ·rw [iGt_n (by omega), cnd_f, if_neg h1]; rfl
theorem sum_in {ρ : Type} {step : Int × Int → Option ((Int × Int) ⊕ (Int ⊕ ρ))} {x : Nat} (hx : x < 65536)
  (hs : ∀ n i : Nat, n < 65536 → i < 8 → step ((n : Int), (i : Int)) = some (.inl (((crc1 n : Nat) : Int), ((i + 1 : Nat) : Int))))
  (he : ∀ n : Nat, step ((n : Int), 8) = some (.inr (.inl (n : Int)))) : loopX step ((x : Int), 0) = some (.inl ((crcN 8 x : Nat) : Int)) := by
 rw [loop_exact (fun i => (((crcN i x : Nat) : Int), (i : Int))) 8 (.inl ((crcN 8 x : Nat) : Int))]
 ·intro i hi
  rw [hs _ _ (crcN_lt hx) hi, ← crcN_succ]
 ·exact he _
 ·rfl
theorem s_sum0 {x : Nat} (hx : x < 65536) : loopX S_s_Sum_0 ((x : Int), 0) = some (.inl ((crcN 8 x : Nat) : Int)) := by
 refine sum_in hx (fun n i hn hi => ?_) fun n => rfl
 have e : iShl .i64 (n : Int) 1 = ((2 * n : Nat) : Int) := by
  rw [show iShl .i64 (n : Int) 1 = ((n * 2 ^ 1 : Nat) : Int) from iShl_s (k := .i64) (s := 1) (by decide) (by show _ < 2 ^ 63; omega)]; congr 1; omega
 have k := sum_step hn
 unfold S_s_Sum_0
 simp only [e]
 rw [iLt_y (by omega), cnd_t]
 unfold crc1
 by_cases h1 : 2 * n > 65535
 ·rw [iGt_y (by omega), cnd_t, if_pos h1, show (69665 : Int) = ((69665 : Nat) : Int) from rfl, iXor_s (k := .i64) (by show _ < 2 ^ 63; omega) (by show _ < 2 ^ 63; omega), joinX_l, iAdd_ok (by omega) (by omega)]; rfl
 ·rw [iGt_n (by omega), cnd_f, if_neg h1, joinX_l, iAdd_ok (by omega) (by omega)]; rfl
theorem i_sum0 {x : Nat} (hx : x < 65536) : loopX S_i_Sum_0 ((x : Int), 0) = some (.inl ((crcN 8 x : Nat) : Int)) := by
 refine sum_in hx (fun n i hn hi => ?_) fun n => rfl
 have e : iMul .i64 (n : Int) 2 = ((2 * n : Nat) : Int) := by
  show IntKind.wrap _ _ = _
  rw [wrap_i64 (by omega) (by omega)]; omega
 unfold S_i_Sum_0
 simp only [e]
 rw [iLt_y (by omega), cnd_t]
 unfold crc1
 by_cases h1 : 2 * n > 65535
 ·rw [iGt_y (by omega), cnd_t, if_pos h1, show (69665 : Int) = ((69665 : Nat) : Int) from rfl, iXor_s (k := .i64) (by show _ < 2 ^ 63; omega) (by show _ < 2 ^ 63; omega), joinX_l, iAdd_ok (by omega) (by omega)]; rfl
 ·rw [iGt_n (by omega), cnd_f, if_neg h1, joinX_l, iAdd_ok (by omega) (by omega)]; rfl
theorem sum_out {l : List UInt8} {step : Int × Int → Option ((Int × Int) ⊕ (Int ⊕ Int))} (hs : ∀ (x i : Nat) (h : i < l.length), x < 65536 → step ((x : Int), (i : Int)) = some (.inl (((crcB x l[i] : Nat) : Int), ((i + 1 : Nat) : Int)))) (he : ∀ x : Int, step (x, (l.length : Int)) = some (.inr (.inl x))) : (joinX (loopX step (65535, 0)) fun z => some (iAnd .i64 z 65535)) = some ((crc l : Nat) : Int) := by
 rw [loop_exact (fun i => (((crc (l.take i) : Nat) : Int), (i : Int))) l.length (.inl ((crc l : Nat) : Int)) (fun i hi => by rw [hs _ _ hi (crc_lt _), crc_take hi]) (by rw [he, List.take_length]) _ (by rw [List.take_zero]; rfl)]
 rw [joinX_l, show (65535 : Int) = ((65535 : Nat) : Int) from rfl, iAnd_s (k := .i64) (by have := crc_lt l; show _ < 2 ^ 63; omega) (by show _ < 2 ^ 63; omega), and_mask (j := 16) rfl, Nat.mod_eq_of_lt (crc_lt l)]
theorem s_Sum {l : List UInt8} (hl : l.length ≤ 1048576000) : F_s_Sum l = some ((crc l : Nat) : Int) := by
 refine sum_out (fun x i h hx => ?_) fun x => ?_
 ·have hb := y_lt l[i]
  have hx2 := crcX_lt hx l[i]
  unfold S_s_Sum_1
  simp only
  rw [iLt_y (by simp only [lLen_def]; omega), cnd_t, idx_at h, bnd_s, y2i_n, iConv_s (k := .i64) (by show _ < 2 ^ 63; omega)]
  rw [show iShl .i64 (l[i].toNat : Int) 8 = ((l[i].toNat * 2 ^ 8 : Nat) : Int) from iShl_s (k := .i64) (s := 8) (by decide) (by show _ < 2 ^ 63; omega), iXor_s (k := .i64) (by show _ < 2 ^ 63; omega) (by show _ < 2 ^ 63; omega), show l[i].toNat * 2 ^ 8 = 256 * l[i].toNat by omega, s_sum0 hx2, joinX_l, iAdd_ok (by omega) (by omega)]
  rfl
 ·unfold S_s_Sum_1
  simp only
  rw [iLt_n (by simp only [lLen_def]; omega), cnd_f]
theorem i_Sum {l : List UInt8} (hl : l.length ≤ 1048576000) : F_i_Sum l = some ((crc l : Nat) : Int) := by
 refine sum_out (fun x i h hx => ?_) fun x => ?_
 ·have hb := y_lt l[i]
  have hx2 := crcX_lt hx l[i]
  have e : iMul .i64 256 (l[i].toNat : Int) = ((256 * l[i].toNat : Nat) : Int) := by
   show IntKind.wrap _ _ = _
   rw [wrap_i64 (by omega) (by omega)]; omega
  unfold S_i_Sum_1
  simp only
  rw [iLt_y (by simp only [lLen_def]; omega), cnd_t, idx_at h, bnd_s, y2i_n, iConv_s (k := .i64) (by show _ < 2 ^ 63; omega)]
  rw [e, iXor_s (k := .i64) (by show _ < 2 ^ 63; omega) (by show _ < 2 ^ 63; omega), i_sum0 hx2, joinX_l, iAdd_ok (by omega) (by omega)]
  rfl
 ·unfold S_i_Sum_1
  simp only
  rw [iLt_n (by simp only [lLen_def]; omega), cnd_f]
end
end Go.Vs
