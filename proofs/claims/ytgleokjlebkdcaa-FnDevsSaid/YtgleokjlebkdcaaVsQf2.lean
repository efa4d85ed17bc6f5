import Derived.Test.YtgleokjlebkdcaaVsW5
import Derived.Test.YtgleokjlebkdcaaVsQf1
set_option linter.all false
namespace Go.Vs
set_option linter.unusedVariables false
set_option linter.unusedSimpArgs false
noncomputable section
def wrD (x : Dv) (n : Int) (b : List UInt8) : Dv := (x.1, wrDev x.1 x.2.1 x.2.2.1 x.2.2.2 n b)
def dOk (x : Dv) : Bool := devOk x.1 x.2.1 x.2.2.1
def flD (x : Dv) : Dv := flDev x.1 x.2.1 x.2.2.1 x.2.2.2
def faD (x : Dv) (n : Int) : Dv := faDev x.1 x.2.1 x.2.2.1 x.2.2.2 n
def rdD (x : Dv) (n : Int) : List UInt8 := rdSec x.1 x.2.1 x.2.2.1 n
theorem s_Op {secs : List (List UInt8)} {cache : List Wr} {fuse : Int} {down : Bool} (hf : -1 ≤ fuse ∧ fuse ≤ 1000) : F_s_l10Op (secs, (cache, (fuse, down))) = some (opR fuse, (opF fuse, opD fuse down)) := by
 unfold F_s_l10Op opR opF opD
 simp only [iEq_x]
 by_cases h0 : fuse = 0
 ·subst h0; rfl
 rw [decide_eq_false h0, cnd_f, if_neg h0, if_neg h0, show (fuse == 0) = false by simp [h0]]
 by_cases h1 : 0 < fuse
 ·rw [iGt_y h1, cnd_t, if_pos h1, iSub_ok (by omega) (by omega)]; rfl
 ·rw [iGt_n (by omega), cnd_f, if_neg h1]; rfl
theorem i_burn {x : Dv} (hf : -1 ≤ x.2.2.1 ∧ x.2.2.1 ≤ 1000) : F_i_burn x = some ((x.1, x.2.1, opF x.2.2.1, opD x.2.2.1 x.2.2.2), opR x.2.2.1) := by
 obtain ⟨secs, cache, fuse, down⟩ := x
 simp only at hf
 unfold F_i_burn opR opF opD
 simp only [iEq_x]
 by_cases h0 : fuse = 0
 ·subst h0; rfl
 rw [decide_eq_false h0, cnd_f, if_neg h0, if_neg h0, show (fuse == 0) = false by simp [h0]]
 by_cases h1 : 0 < fuse
 ·rw [iGt_y h1, cnd_t, if_pos h1, joinX_l, iSub_ok (by omega) (by omega)]; rfl
 ·rw [iGt_n (by omega), cnd_f, if_neg h1, joinX_l]; rfl
theorem s_Write {x : Dv} {n : Int} {b : List UInt8} (h : SmD x) (hf : -1 ≤ x.2.2.1 ∧ x.2.2.1 ≤ 1000) (hb : b.length ≤ 1048576) : F_s_l10Write (x, (n, b)) = some (wrC x.1 x.2.1 x.2.2.1 x.2.2.2 n b) := by
 obtain ⟨secs, cache, fuse, down⟩ := x
 obtain ⟨h1, h2, h3, h4⟩ := h
 simp only at h1 h2 h3 h4 hf
 have es : iSub .i64 (lLen secs) 1 = (secs.length : Int) - 1 := iSub_ok (by simp only [lLen_def]; omega) (by simp only [lLen_def]; omega)
 unfold F_s_l10Write
 simp only [es]
 cases down with
 | true => rw [cnd_t, wrC_no (.inl rfl)]
 | false =>
 rw [cnd_f, s_In, bnd_s]
 by_cases ha : 0 ≤ n ∧ n ≤ (secs.length : Int) - 1
 case neg => rw [decide_eq_false ha, bNot_f, cnd_t, wrC_no (.inr (.inl ha))]
 rw [decide_eq_true ha, bNot_t, cnd_f]
 by_cases hc : b.length ≤ 120
 case neg => rw [iGt_y (by simp only [lLen_def]; omega), cnd_t, wrC_no (.inr (.inr (.inl (by omega))))]
 rw [iGt_n (by simp only [lLen_def]; omega), cnd_f]
 by_cases hd : cache.length < 40
 case neg => rw [iGe_y (by simp only [lLen_def]; omega), cnd_t, wrC_no (.inr (.inr (.inr (by omega))))]
 rw [iGe_n (by simp only [lLen_def]; omega), cnd_f, s_Op hf, bnd_s]
 have hno : ¬ (false = true ∨ ¬ (0 ≤ n ∧ n ≤ (secs.length : Int) - 1) ∨ 120 < b.length ∨ 40 ≤ cache.length) := by
  rintro (h | h | h | h)
  ·cases h
  ·exact h ha
  ·omega
  ·omega
 by_cases h0 : fuse = 0
 ·obtain ⟨e1, e2, e3⟩ := op_zero (down := false) h0
  simp only [e1, e2, e3, bNot_f, cnd_t]
  rw [wrC_zero hno h0]
 ·obtain ⟨e2, e3⟩ := op_pos (down := false) h0
  simp only [e2, e3, bNot_t, cnd_f]
  rw [room_ok (by omega), chk_t, room_ok (by omega), chk_t, wrC_yes hno h0]
  rfl
theorem dOk_sm {x : Dv} (h : dOk x = true) : SmD x := by
 obtain ⟨⟨a, b⟩, c, d, e, f⟩ := dev_of h
 exact ⟨by omega, fun b hb => by have := e b hb; omega, by omega, fun w hw => by have := (f w hw).2.2; omega⟩
theorem i_WriteSec {x : Dv} {n : Int} {b : List UInt8} (h : SmD x) (hb : b.length ≤ 1048576) : F_i_WriteSec (x, (n, b)) = some (wrD x n b) := by
 have h1 := h.1
 have h3 := h.2.2.1
 have es : iSub .i64 (lLen x.1) 1 = (x.1.length : Int) - 1 := iSub_ok (by simp only [lLen_def]; omega) (by simp only [lLen_def]; omega)
 unfold F_i_WriteSec wrD
 simp only [es]
 rw [show F_i_copyDev (x.1, (x.2.1, (x.2.2.1, x.2.2.2))) = some x from i_Copy h, bnd_s, show F_i_DevOk (x.1, (x.2.1, (x.2.2.1, x.2.2.2))) = some (devOk x.1 x.2.1 x.2.2.1) from i_DevOk h, bnd_s]
 cases hk : devOk x.1 x.2.1 x.2.2.1 with
 | false => rw [bNot_f, cnd_t, wrDev_no hk]
 | true =>
  obtain ⟨_, d2, d3, _, _⟩ := dev_of hk
  rw [bNot_t, cnd_f, wrDev_ok hk]
  cases hdn : x.2.2.2 with
  | true => rw [cnd_t, wrC_no (.inl rfl)]
  | false =>
  rw [cnd_f, i_In, bnd_s]
  by_cases ha : 0 ≤ n ∧ n ≤ (x.1.length : Int) - 1
  case neg => rw [decide_eq_false ha, bNot_f, cnd_t, wrC_no (.inr (.inl ha))]
  rw [decide_eq_true ha, bNot_t, cnd_f]
  by_cases hc : b.length ≤ 120
  case neg => rw [iGt_y (by simp only [lLen_def]; omega), cnd_t, wrC_no (.inr (.inr (.inl (by omega))))]
  rw [iGt_n (by simp only [lLen_def]; omega), cnd_f, iEq_x]
  by_cases hd : x.2.1.length = 40
  ·rw [decide_eq_true (by simp only [lLen_def]; omega), cnd_t, wrC_no (.inr (.inr (.inr (by omega))))]
  rw [decide_eq_false (by simp only [lLen_def]; omega), cnd_f]
  have hno : ¬ (false = true ∨ ¬ (0 ≤ n ∧ n ≤ (x.1.length : Int) - 1) ∨ 120 < b.length ∨ 40 ≤ x.2.1.length) := by
   rintro (h | h | h | h)
   ·cases h
   ·exact h ha
   ·omega
   ·omega
  have eb := i_burn (x := (x.1, (x.2.1, (x.2.2.1, false)))) d3
  rw [eb, bnd_s]
  simp only
  by_cases h0 : x.2.2.1 = 0
  ·obtain ⟨e1, e2, e3⟩ := op_zero (down := false) h0
   simp only [e1, e2, e3, cnd_f, joinX_l]
   rw [wrC_zero hno h0]
  ·obtain ⟨e2, e3⟩ := op_pos (down := false) h0
   simp only [e2, e3, cnd_t]
   rw [joined1_ok (by omega), bnd_s, room_ok (by omega), chk_t, joinX_l, wrC_yes hno h0]
   rfl
theorem s_Flush {x : Dv} (h : SmD x) (hf : -1 ≤ x.2.2.1 ∧ x.2.2.1 ≤ 1000) (hc : ∀ w ∈ x.2.1, 0 ≤ w.1 ∧ w.1 ≤ (x.1.length : Int) - 1) : F_s_l10Flush x = some (flC x.1 x.2.1 x.2.2.1 x.2.2.2) := by
 unfold F_s_l10Flush
 have h1 := h.1
 have h3 := h.2.2.1
 rw [decide_eq_true (by exact ⟨hf, by omega, by omega, hc⟩), chk_t]
theorem i_FlushDev {x : Dv} (h : SmD x) : F_i_FlushDev x = some (flD x) := by
 have h3 := h.2.2.1
 unfold F_i_FlushDev flD
 rw [show F_i_copyDev (x.1, (x.2.1, (x.2.2.1, x.2.2.2))) = some x from i_Copy h, bnd_s, show F_i_DevOk (x.1, (x.2.1, (x.2.2.1, x.2.2.2))) = some (devOk x.1 x.2.1 x.2.2.1) from i_DevOk h, bnd_s]
 cases hk : devOk x.1 x.2.1 x.2.2.1 with
 | false => rw [bNot_f, cnd_t, flDev_no hk]
 | true =>
  obtain ⟨_, d2, d3, d4, d5⟩ := dev_of hk
  rw [bNot_t, cnd_f, flDev_ok hk]
  cases hdn : x.2.2.2 with
  | true => rw [cnd_t, flC_no rfl]
  | false =>
  rw [cnd_f]
  have eb := i_burn (x := (x.1, (x.2.1, (x.2.2.1, false)))) d3
  rw [eb, bnd_s]
  simp only
  by_cases h0 : x.2.2.1 = 0
  ·obtain ⟨e1, e2, e3⟩ := op_zero (down := false) h0
   simp only [e1, e2, e3, bNot_f, cnd_t]
   rw [h0, flC_zero rfl]
  ·obtain ⟨e2, e3⟩ := op_pos (down := false) h0
   simp only [e2, e3, bNot_t, cnd_f]
   rw [show loopX (S_i_FlushDev_0 ((x.1, (x.2.1, (opF x.2.2.1, false))), true)) (x.1, 0) = some (.inl (flL x.1 x.2.1)) from loop_exact (fun i => (flL x.1 (x.2.1.take i), (i : Int))) x.2.1.length _ (fun i hi => by
    obtain ⟨g1, g2, g3⟩ := d5 _ (List.getElem_mem hi)
    obtain ⟨k, hk⟩ := Int.eq_ofNat_of_zero_le g1
    have hkl : k < (flL x.1 (x.2.1.take i)).length := by rw [flL_len]; omega
    unfold S_i_FlushDev_0
    simp only
    rw [iLt_y (by simp only [lLen_def]; omega), cnd_t, idx_at hi, bnd_s, joined1_ok (by omega), bnd_s, hk, idx_at (i := k) hkl, bnd_s, iAdd_1 (by omega), flL_take hi hk]
    rfl) (by
    unfold S_i_FlushDev_0
    simp only
    rw [iLt_n (by simp only [lLen_def]; omega), cnd_f, List.take_length]) (x.1, 0) rfl, joinX_l, flC_yes h0]
theorem i_FallDev {x : Dv} {n : Int} (h : SmD x) : F_i_FallDev (x, n) = some (faD x n) := by
 have h3 := h.2.2.1
 unfold F_i_FallDev faD
 simp only
 rw [show F_i_copyDev (x.1, (x.2.1, (x.2.2.1, x.2.2.2))) = some x from i_Copy h, bnd_s, show F_i_DevOk (x.1, (x.2.1, (x.2.2.1, x.2.2.2))) = some (devOk x.1 x.2.1 x.2.2.1) from i_DevOk h, bnd_s]
 cases hk : devOk x.1 x.2.1 x.2.2.1 with
 | false => rw [bNot_f, cnd_t, faDev_no hk]
 | true =>
  obtain ⟨_, d2, d3, d4, d5⟩ := dev_of hk
  rw [bNot_t, cnd_f, faDev_ok hk, i_In, bnd_s]
  have ej : joinX (cnd (bNot (decide (0 ≤ n ∧ n ≤ 1073741823))) (some (.inl 0)) (some (.inl n)) : Option (Int ⊕ Dv)) = fun f => f (faN n) := by
   funext f
   unfold faN
   by_cases hq : 0 ≤ n ∧ n ≤ 1073741823
   ·rw [decide_eq_true hq, bNot_t, cnd_f, joinX_l, if_pos hq]
   ·rw [decide_eq_false hq, bNot_f, cnd_t, joinX_l, if_neg hq]
  rw [ej]
  simp only
  have hb := faN_bnd n
  generalize faN n = m at hb ⊢
  rw [show loopX (S_i_FallDev_0 x m) (x.1, 0) = some (.inl (faL m 0 x.1 x.2.1)) from loop_exact (fun i => (faL m 0 x.1 (x.2.1.take i), (i : Int))) x.2.1.length _ (fun i hi => by
   obtain ⟨g1, g2, g3⟩ := d5 _ (List.getElem_mem hi)
   obtain ⟨k, hk⟩ := Int.eq_ofNat_of_zero_le g1
   have hkl : k < (faL m 0 x.1 (x.2.1.take i)).length := by rw [faL_len]; omega
   unfold S_i_FallDev_0
   simp only
   rw [iLt_y (by simp only [lLen_def]; omega), cnd_t, idx_at hi, bnd_s, faL_take hi hk]
   by_cases h30 : i < 30
   ·have e1 : iAnd .i64 (iShr .i64 m (i : Int)) 1 = ((m.toNat / 2 ^ i % 2 : Nat) : Int) := by
     have := bit64 hb i
     unfold iAnd iShr
     rw [Int.toNat_natCast, Nat.min_eq_left (by show i ≤ 64; omega)]
     exact this
    rw [iLt_y (by omega), cnd_t, iLe_y (by omega), chk_t, e1, iEq_x]
    by_cases hbit : ((m.toNat / 2 ^ i % 2 : Nat) : Int) = 1
    ·rw [decide_eq_true hbit, cnd_t, joined1_ok (by omega), bnd_s, hk, idx_at (i := k) hkl, bnd_s, joinX_l, iAdd_1 (by omega), kept_yes h30 hbit]
     rfl
    ·rw [decide_eq_false hbit, cnd_f, joinX_l, iAdd_1 (by omega), kept_no (fun h => hbit h.2)]
     rfl
   ·rw [iLt_n (by omega), cnd_f, joinX_l, iAdd_1 (by omega), kept_no (fun h => h30 h.1)]
    rfl) (by
   unfold S_i_FallDev_0
   simp only
   rw [iLt_n (by simp only [lLen_def]; omega), cnd_f, List.take_length]) (x.1, 0) rfl, joinX_l]
theorem i_ReadSec {x : Dv} {n : Int} (h : SmD x) : F_i_ReadSec (x, n) = some (rdD x n) := by
  have h1 := h.1
  have h3 := h.2.2.1
  have es : iSub .i64 (lLen x.1) 1 = (x.1.length : Int) - 1 := iSub_ok (by simp only [lLen_def]; omega) (by simp only [lLen_def]; omega)
  have ec : iSub .i64 (lLen x.2.1) 1 = (x.2.1.length : Int) - 1 := iSub_ok (by simp only [lLen_def]; omega) (by simp only [lLen_def]; omega)
  unfold F_i_ReadSec rdD
  simp only [es, ec]
  rw [show F_i_DevOk (x.1, (x.2.1, (x.2.2.1, x.2.2.2))) = some (devOk x.1 x.2.1 x.2.2.1) from i_DevOk h, bnd_s]
  cases hk : devOk x.1 x.2.1 x.2.2.1 with
  | false => rw [bNot_f, cnd_t, rdSec_no (fun h => by rw [hk] at h; cases h.1)]
  | true =>
    obtain ⟨_, d2, d3, d4, d5⟩ := dev_of hk
    rw [bNot_t, cnd_f, i_In, bnd_s]
    by_cases ha : 0 ≤ n ∧ n ≤ (x.1.length : Int) - 1
    case neg => rw [decide_eq_false ha, bNot_f, cnd_t, rdSec_no (fun h => ha h.2)]
    rw [decide_eq_true ha, bNot_t, cnd_f]
    obtain ⟨k, rfl⟩ := Int.eq_ofNat_of_zero_le ha.1
    have hkl : k < x.1.length := by omega
    have hsk := d4 _ (List.getElem_mem hkl)
    rw [rdSec_yes hk hkl]
    obtain ⟨r, e1, e2⟩ := loop_inv (step := S_i_ReadSec_0 (x, (k : Int))) (fun j (s : Int) => s = ((x.2.1.length - j : Nat) : Int) - 1 ∧ rdL x.2.1 k x.1[k] = rdL (x.2.1.take (x.2.1.length - j)) k x.1[k]) x.2.1.length (fun r => (r = .inl () ∧ rdL x.2.1 k x.1[k] = x.1[k]) ∨ r = .inr (rdL x.2.1 k x.1[k]))
      (fun j s hj hinv => by
        obtain ⟨rfl, hr⟩ := hinv
        have hi : x.2.1.length - j - 1 < x.2.1.length := by omega
        have hwl := (d5 _ (List.getElem_mem hi)).2.2
        have e0 : ((x.2.1.length - j : Nat) : Int) - 1 = ((x.2.1.length - j - 1 : Nat) : Int) := by omega
        unfold S_i_ReadSec_0
        simp only
        rw [e0, iGe_y (by omega), cnd_t, idx_at hi, bnd_s, iEq_x]
        by_cases hw : x.2.1[x.2.1.length - j - 1].1 = (k : Int)
        · rw [decide_eq_true hw, cnd_t, bnd_s, joined1_ok (by omega), bnd_s]
          refine .inr ⟨_, rfl, .inr ?_⟩
          have := rdL_hit (b := x.1[k]) hi hw
          rw [show x.2.1.length - j - 1 + 1 = x.2.1.length - j by omega] at this
          rw [hr, this]
        · rw [decide_eq_false hw, cnd_f]
          refine .inl ⟨_, rfl, ?_, ?_⟩
          · rw [iSub_ok (by omega) (by omega)]; omega
          · have := rdL_miss (b := x.1[k]) hi hw
            rw [show x.2.1.length - j - 1 + 1 = x.2.1.length - j by omega] at this
            rw [hr, this, show x.2.1.length - (j + 1) = x.2.1.length - j - 1 by omega])
      (fun s hinv => by
        obtain ⟨rfl, hr⟩ := hinv
        refine ⟨.inl (), ?_, .inl ⟨rfl, ?_⟩⟩
        · unfold S_i_ReadSec_0
          simp only
          rw [iGe_n (by omega), cnd_f]
        · rw [hr, Nat.sub_self]; rfl)
      ((x.2.1.length : Int) - 1) ⟨by simp, by simp⟩
    rw [e1]
    rcases e2 with ⟨rfl, e2⟩ | rfl
    · rw [joinX_l, idx_at hkl, bnd_s, joined1_ok (by omega), bnd_s, e2]
    · rfl
def nwD (n : Int) : Dv := if 1 ≤ n ∧ n ≤ 64 then (List.replicate n.toNat [], [], -1, false) else ([], [], 0, false)
theorem s_DevNew {n : Int} : F_s_DevNew n = some (nwD n) := by
 unfold F_s_DevNew nwD
 rw [s_In, bnd_s]
 by_cases h : 1 ≤ n ∧ n ≤ 64
 case neg => rw [decide_eq_false h, bNot_f, cnd_t, if_neg h]
 rw [decide_eq_true h, bNot_t, cnd_f, if_pos h]
 obtain ⟨k, rfl⟩ := Int.eq_ofNat_of_zero_le (show 0 ≤ n by omega)
 rw [show loopX (S_s_DevNew_0 (k : Int)) ([], 0) = some (.inl (List.replicate k [])) from loop_exact (fun i => (List.replicate i [], (i : Int))) k _ (fun i hi => by
  unfold S_s_DevNew_0
  simp only
  rw [iLt_y (by omega), cnd_t, room_ok (by simp; omega), chk_t, iAdd_1 (by omega)]
  rw [show lApp (List.replicate i ([] : List UInt8)) [[]] = List.replicate (i + 1) [] from by rw [lApp, List.replicate_succ']]) (by
  unfold S_s_DevNew_0
  simp only
  rw [iLt_n (by omega), cnd_f]) ([], 0) rfl, joinX_l]
 rfl
end
end Go.Vs
