import Derived.Test.YtgleokjlebkdcaaVsW5
import Derived.Test.YtgleokjlebkdcaaVsQd1
set_option linter.all false
namespace Go.Vs
set_option linter.unusedVariables false
set_option linter.unusedSimpArgs false
noncomputable section
def yN (n : Nat) : UInt8 := UInt8.ofNat n
theorem yN_toNat {n : Nat} (h : n < 256) : (yN n).toNat = n := by simp [yN, UInt8.toNat_ofNat', Nat.mod_eq_of_lt h]
theorem yN_of {b : UInt8} {n : Nat} (h : b.toNat = n) : yN n = b := by subst h; simp [yN]
theorem y_lt (b : UInt8) : b.toNat < 256 := b.toNat_lt
theorem wrap_small {k : IntKind} {n : Nat} (h : n < 2 ^ (k.bits - 1)) : k.wrap (n : Int) = (n : Int) := by
 have hp : (2 : Nat) ^ (k.bits - 1) ≤ 2 ^ k.bits := Nat.pow_le_pow_right (by decide) (by omega)
 have e1 : ((2 : Int) ^ (k.bits - 1)) = ((2 ^ (k.bits - 1) : Nat) : Int) := by simp
 have e2 : ((2 : Int) ^ k.bits) = ((2 ^ k.bits : Nat) : Int) := by simp
 have e3 : ((n : Int) % ((2 ^ k.bits : Nat) : Int)) = (n : Int) := Int.emod_eq_of_lt (by omega) (by omega)
 simp only [IntKind.wrap, e1, e2, e3]
 rw [if_neg]
 simp only [Bool.and_eq_true, decide_eq_true_eq]
 omega
theorem wrap_u8 {n : Nat} (h : n < 256) : IntKind.u8.wrap (n : Int) = (n : Int) := by
 have e1 : IntKind.u8.bits = 8 := rfl
 have e2 : IntKind.u8.signed = false := rfl
 simp only [IntKind.wrap, e1, e2, Bool.false_and, Bool.false_eq_true, if_false]
 exact Int.emod_eq_of_lt (by omega) (by simp; omega)
theorem ofInt_toNat {m a : Nat} (h : a < 2 ^ m) : (BitVec.ofInt m (a : Int)).toNat = a := by
 rw [ofInt_nat, BitVec.toNat_ofNat, Nat.mod_eq_of_lt h]
section
variable {k : IntKind} {a b : Nat}
theorem lt_bits (h : a < 2 ^ (k.bits - 1)) : a < 2 ^ k.bits := Nat.lt_of_lt_of_le h (Nat.pow_le_pow_right (by decide) (by omega))
theorem iAnd_s (ha : a < 2 ^ (k.bits - 1)) (hb : b < 2 ^ (k.bits - 1)) : iAnd k (a : Int) (b : Int) = ((a &&& b : Nat) : Int) := by
 unfold iAnd
 rw [BitVec.toNat_and, ofInt_toNat (lt_bits ha), ofInt_toNat (lt_bits hb)]
 exact wrap_small (Nat.lt_of_le_of_lt Nat.and_le_left ha)
theorem iOr_s (ha : a < 2 ^ (k.bits - 1)) (hb : b < 2 ^ (k.bits - 1)) : iOr k (a : Int) (b : Int) = ((a ||| b : Nat) : Int) := by
 unfold iOr
 rw [BitVec.toNat_or, ofInt_toNat (lt_bits ha), ofInt_toNat (lt_bits hb)]
 exact wrap_small (Nat.or_lt_two_pow ha hb)
theorem iXor_s (ha : a < 2 ^ (k.bits - 1)) (hb : b < 2 ^ (k.bits - 1)) : iXor k (a : Int) (b : Int) = ((a ^^^ b : Nat) : Int) := by
 unfold iXor
 rw [BitVec.toNat_xor, ofInt_toNat (lt_bits ha), ofInt_toNat (lt_bits hb)]
 exact wrap_small (Nat.xor_lt_two_pow ha hb)
theorem iShl_s {s : Nat} (hs : s ≤ k.bits) (h : a * 2 ^ s < 2 ^ (k.bits - 1)) : iShl k (a : Int) (s : Int) = ((a * 2 ^ s : Nat) : Int) := by
 unfold iShl
 rw [Int.toNat_natCast, Nat.min_eq_left hs]
 rw [show (a : Int) * 2 ^ s = ((a * 2 ^ s : Nat) : Int) by simp]
 exact wrap_small h
theorem iShr_s {s : Nat} (hs : s ≤ k.bits) : iShr k (a : Int) (s : Int) = ((a / 2 ^ s : Nat) : Int) := by
 unfold iShr
 rw [Int.toNat_natCast, Nat.min_eq_left hs, Int.fdiv_eq_ediv_of_nonneg _ (Int.pow_nonneg (by decide))]
 simp
theorem iConv_s (h : a < 2 ^ (k.bits - 1)) : iConv k (a : Int) = (a : Int) := wrap_small h
end
theorem y2i_n (b : UInt8) : y2i b = (b.toNat : Int) := rfl
theorem and_mask {a j m : Nat} (hm : m = 2 ^ j - 1) : a &&& m = a % 2 ^ j := by rw [hm, Nat.and_two_pow_sub_one_eq_mod]
theorem or_plus {a b j : Nat} (hb : b < 2 ^ j) : a * 2 ^ j ||| b = a * 2 ^ j + b := by
 have := Nat.shiftLeft_add_eq_or_of_lt hb a
 rw [Nat.shiftLeft_eq] at this
 exact this.symm
theorem cnd_if {β : Type} {p : Prop} [Decidable p] (x y : Option β) : cnd (decide p) x y = if p then x else y := by
 by_cases h : p <;> simp [h]
theorem s_In (x l h : Int) : F_s_l1In (x, (l, h)) = some (decide (l ≤ x ∧ x ≤ h)) := by
 unfold F_s_l1In
 simp only [iGe, iLe, cnd_if]
 split
 ·rename_i h1
  have : l ≤ x := h1
  simp [this]
 ·rename_i h1
  have : ¬ l ≤ x := h1
  simp [this]
theorem i_In (x l h : Int) : F_i_within (x, (l, h)) = some (decide (l ≤ x ∧ x ≤ h)) := s_In x l h
theorem conv_u8 (n : Nat) : u8 (iConv .u8 (n : Int)) = yN n := by
 have e1 : IntKind.u8.bits = 8 := rfl
 have e2 : IntKind.u8.signed = false := rfl
 simp only [u8, iConv, IntKind.wrap, e1, e2, Bool.false_and, Bool.false_eq_true, if_false, yN]
 rw [show ((n : Int) % 2 ^ 8) = ((n % 256 : Nat) : Int) by simp, Int.toNat_natCast]
 apply UInt8.toNat_inj.1
 simp [UInt8.toNat_ofNat']
theorem orc {c q j b : Nat} (hc : c = q * 2 ^ j) (hb : b < 2 ^ j) (h1 : c < 2 ^ 63) (h2 : b < 2 ^ 63) : iOr .i64 (c : Int) (b : Int) = ((c + b : Nat) : Int) := by
 rw [iOr_s (k := .i64) h1 h2, hc, or_plus hb]
theorem shr64 {n s : Nat} (hs : s ≤ 64) : iShr .i64 (n : Int) (s : Int) = ((n / 2 ^ s : Nat) : Int) := iShr_s (k := .i64) hs
def wordB (n : Int) : List UInt8 := [yN (n.toNat / 256), yN (n.toNat % 256)]
def pWord : List UInt8 → Option (Int × List UInt8)
 | x :: y :: l => some (((x.toNat * 256 + y.toNat : Nat) : Int), l)
 | _ => none
theorem pWord_put {n : Int} (h0 : 0 ≤ n) (h1 : n < 65536) (r : List UInt8) : pWord (wordB n ++ r) = some (n, r) := by
 have e0 := yN_toNat (n := n.toNat / 256) (by omega)
 have e1 := yN_toNat (n := n.toNat % 256) (by omega)
 simp only [wordB, List.cons_append, List.nil_append, pWord, e0, e1]
 congr 2; omega
theorem wordB_of {l r : List UInt8} {n : Int} (h : pWord l = some (n, r)) : l = wordB n ++ r ∧ 0 ≤ n ∧ n < 65536 := by
 match l, h with
 | [], h => simp [pWord] at h
 | [_], h => simp [pWord] at h
 | x :: y :: l, h =>
  simp only [pWord, Option.some.injEq, Prod.mk.injEq] at h
  obtain ⟨rfl, rfl⟩ := h
  have h0 := y_lt x
  have h1 := y_lt y
  refine ⟨?_, by omega, by omega⟩
  rw [wordB, yN_of (b := x) (by omega), yN_of (b := y) (by omega)]; rfl
theorem wordB_len (n : Int) : (wordB n).length = 2 := rfl
theorem flat_le (ls : List (List UInt8)) (i : Nat) : (ls.take i).flatten.length ≤ ls.flatten.length := by
 have h := congrArg (fun l : List (List UInt8) => l.flatten.length) (List.take_append_drop i ls)
 simp only [List.flatten_append, List.length_append] at h
 omega
theorem joined_ok {ls : List (List UInt8)} (hn : ls.length < 4611686018427387904) (h : ls.flatten.length ≤ 140737488355328) : F_i_joined ls = some ls.flatten := by
 unfold F_i_joined
 rw [loop_exact (fun i => ((ls.take i).flatten, (i : Int))) ls.length (.inl ls.flatten)]
 ·rfl
 ·intro i hi
  have e : (ls.take (i + 1)).flatten = (ls.take i).flatten ++ ls[i] := flat_take hi
  have hr := flat_le ls (i + 1)
  rw [e, List.length_append] at hr
  unfold S_i_joined_0
  rw [iLt_y (by simp only [lLen_def]; omega), cnd_t]
  simp only [idx_at hi, bnd_s]
  rw [room_ok (by omega), chk_t, e, iAdd_ok (by omega) (by omega)]
  rfl
 ·unfold S_i_joined_0
  rw [iLt_n (by simp only [lLen_def]; omega), cnd_f, List.take_length]
 ·rfl
theorem joined2_ok {a b : List UInt8} (hb : a.length + b.length ≤ 140737488355328) : F_i_joined [a, b] = some (a ++ b) := by
 have e : [a, b].flatten = a ++ b := by simp
 rw [joined_ok (by simp only [List.length_cons, List.length_nil]; omega) (by rw [e, List.length_append]; omega), e]
theorem sum_step {n : Nat} (h : n < 65536) : (joinX (cnd (iGt ((2 * n : Nat) : Int) 65535) (some (.inl (iXor .i64 ((2 * n : Nat) : Int) 69665))) (some (.inl ((2 * n : Nat) : Int)))) fun z => some z : Option Int) = some ((crc1 n : Nat) : Int) := by
 unfold crc1
 by_cases h1 : 2 * n > 65535
 ·rw [iGt_y (by omega), cnd_t, if_pos h1, show (69665 : Int) = ((69665 : Nat) : Int) from rfl, iXor_s (k := .i64) (by show _ < 2 ^ 63; omega) (by show _ < 2 ^ 63; omega)]; rfl
 ·rw [iGt_n (by omega), cnd_f, if_neg h1]; rfl
theorem sum_in {ρ : Type} {step : Int × Int → Option ((Int × Int) ⊕ (Int ⊕ ρ))} {x : Nat} (hx : x < 65536)
  (hs : ∀ n i : Nat, n < 65536 → i < 8 → step ((n : Int), (i : Int)) = some (.inl (((crc1 n : Nat) : Int), ((i + 1 : Nat) : Int))))
  (he : ∀ n : Nat, step ((n : Int), 8) = some (.inr (.inl (n : Int)))) : loopX step ((x : Int), 0) = some (.inl ((crcN 8 x : Nat) : Int)) := by
 rw [loop_exact (fun i => (((crcN i x : Nat) : Int), (i : Int))) 8 (.inl ((crcN 8 x : Nat) : Int))]
 ·intro i hi
  rw [hs _ _ (crcN_lt hx) hi, ← crcN_succ]
 ·exact he _
 ·rfl
theorem s_sum0 {x : Nat} (hx : x < 65536) : loopX S_s_Sum_0 ((x : Int), 0) = some (.inl ((crcN 8 x : Nat) : Int)) := by
 refine sum_in hx (fun n i hn hi => ?_) fun n => rfl
 have e : iShl .i64 (n : Int) 1 = ((2 * n : Nat) : Int) := by
  rw [show iShl .i64 (n : Int) 1 = ((n * 2 ^ 1 : Nat) : Int) from iShl_s (k := .i64) (s := 1) (by decide) (by show _ < 2 ^ 63; omega)]; congr 1; omega
 have k := sum_step hn
 unfold S_s_Sum_0
 simp only [e]
 rw [iLt_y (by omega), cnd_t]
 unfold crc1
 by_cases h1 : 2 * n > 65535
 ·rw [iGt_y (by omega), cnd_t, if_pos h1, show (69665 : Int) = ((69665 : Nat) : Int) from rfl, iXor_s (k := .i64) (by show _ < 2 ^ 63; omega) (by show _ < 2 ^ 63; omega), joinX_l, iAdd_ok (by omega) (by omega)]; rfl
 ·rw [iGt_n (by omega), cnd_f, if_neg h1, joinX_l, iAdd_ok (by omega) (by omega)]; rfl
theorem i_sum0 {x : Nat} (hx : x < 65536) : loopX S_i_Sum_0 ((x : Int), 0) = some (.inl ((crcN 8 x : Nat) : Int)) := by
 refine sum_in hx (fun n i hn hi => ?_) fun n => rfl
 have e : iMul .i64 (n : Int) 2 = ((2 * n : Nat) : Int) := by
  show IntKind.wrap _ _ = _
  rw [wrap_i64 (by omega) (by omega)]; omega
 unfold S_i_Sum_0
 simp only [e]
 rw [iLt_y (by omega), cnd_t]
 unfold crc1
 by_cases h1 : 2 * n > 65535
 ·rw [iGt_y (by omega), cnd_t, if_pos h1, show (69665 : Int) = ((69665 : Nat) : Int) from rfl, iXor_s (k := .i64) (by show _ < 2 ^ 63; omega) (by show _ < 2 ^ 63; omega), joinX_l, iAdd_ok (by omega) (by omega)]; rfl
 ·rw [iGt_n (by omega), cnd_f, if_neg h1, joinX_l, iAdd_ok (by omega) (by omega)]; rfl
theorem sum_out {l : List UInt8} {step : Int × Int → Option ((Int × Int) ⊕ (Int ⊕ Int))} (hs : ∀ (x i : Nat) (h : i < l.length), x < 65536 → step ((x : Int), (i : Int)) = some (.inl (((crcB x l[i] : Nat) : Int), ((i + 1 : Nat) : Int)))) (he : ∀ x : Int, step (x, (l.length : Int)) = some (.inr (.inl x))) : (joinX (loopX step (65535, 0)) fun z => some (iAnd .i64 z 65535)) = some ((crc l : Nat) : Int) := by
 rw [loop_exact (fun i => (((crc (l.take i) : Nat) : Int), (i : Int))) l.length (.inl ((crc l : Nat) : Int)) (fun i hi => by rw [hs _ _ hi (crc_lt _), crc_take hi]) (by rw [he, List.take_length]) _ (by rw [List.take_zero]; rfl)]
 rw [joinX_l, show (65535 : Int) = ((65535 : Nat) : Int) from rfl, iAnd_s (k := .i64) (by have := crc_lt l; show _ < 2 ^ 63; omega) (by show _ < 2 ^ 63; omega), and_mask (j := 16) rfl, Nat.mod_eq_of_lt (crc_lt l)]
theorem s_Sum {l : List UInt8} (hl : l.length ≤ 1048576000) : F_s_Sum l = some ((crc l : Nat) : Int) := by
 refine sum_out (fun x i h hx => ?_) fun x => ?_
 ·have hb := y_lt l[i]
  have hx2 := crcX_lt hx l[i]
  unfold S_s_Sum_1
  simp only
  rw [iLt_y (by simp only [lLen_def]; omega), cnd_t, idx_at h, bnd_s, y2i_n, iConv_s (k := .i64) (by show _ < 2 ^ 63; omega)]
  rw [show iShl .i64 (l[i].toNat : Int) 8 = ((l[i].toNat * 2 ^ 8 : Nat) : Int) from iShl_s (k := .i64) (s := 8) (by decide) (by show _ < 2 ^ 63; omega), iXor_s (k := .i64) (by show _ < 2 ^ 63; omega) (by show _ < 2 ^ 63; omega), show l[i].toNat * 2 ^ 8 = 256 * l[i].toNat by omega, s_sum0 hx2, joinX_l, iAdd_ok (by omega) (by omega)]
  rfl
 ·unfold S_s_Sum_1
  simp only
  rw [iLt_n (by simp only [lLen_def]; omega), cnd_f]
theorem i_Sum {l : List UInt8} (hl : l.length ≤ 1048576000) : F_i_Sum l = some ((crc l : Nat) : Int) := by
 refine sum_out (fun x i h hx => ?_) fun x => ?_
 ·have hb := y_lt l[i]
  have hx2 := crcX_lt hx l[i]
  have e : iMul .i64 256 (l[i].toNat : Int) = ((256 * l[i].toNat : Nat) : Int) := by
   show IntKind.wrap _ _ = _
   rw [wrap_i64 (by omega) (by omega)]; omega
  unfold S_i_Sum_1
  simp only
  rw [iLt_y (by simp only [lLen_def]; omega), cnd_t, idx_at h, bnd_s, y2i_n, iConv_s (k := .i64) (by show _ < 2 ^ 63; omega)]
  rw [e, iXor_s (k := .i64) (by show _ < 2 ^ 63; omega) (by show _ < 2 ^ 63; omega), i_sum0 hx2, joinX_l, iAdd_ok (by omega) (by omega)]
  rfl
 ·unfold S_i_Sum_1
  simp only
  rw [iLt_n (by simp only [lLen_def]; omega), cnd_f]
theorem i64_word {n : Nat} (h : n < 65536) : u8 (iConv .u8 (iShr .i64 (n : Int) 8)) = yN (n / 256) ∧ u8 (iConv .u8 (n : Int)) = yN (n % 256) := by
 have e : iShr .i64 (n : Int) (8 : Nat) = _ := shr64 (n := n) (s := 8) (by omega)
 refine ⟨?_, ?_⟩
 ·rw [show iShr .i64 (n : Int) 8 = ((n / 2 ^ 8 : Nat) : Int) from e, conv_u8]
 ·rw [conv_u8]; exact UInt8.toNat_inj.1 (by simp [yN])
theorem s_PutW {l : List UInt8} {n : Int} (hl : l.length ≤ 1099511627776) (h0 : 0 ≤ n) (h1 : n < 65536) : F_s_PutW (l, n) = some (l ++ wordB n) := by
 obtain ⟨k, rfl⟩ := Int.eq_ofNat_of_zero_le h0
 obtain ⟨e1, e2⟩ := i64_word (n := k) (by omega)
 unfold F_s_PutW
 simp only [e1, e2]
 rw [room_ok (by omega), chk_t, room_ok (by simp only [lApp, List.nil_append]; omega), chk_t]
 rfl
theorem i_PutW {l : List UInt8} {n : Int} (hl : l.length ≤ 1099511627776) (h0 : 0 ≤ n) (h1 : n < 65536) : F_i_PutW (l, n) = some (l ++ wordB n) := by
 obtain ⟨k, rfl⟩ := Int.eq_ofNat_of_zero_le h0
 have e : iShr .i64 (k : Int) 8 = ((k / 2 ^ 8 : Nat) : Int) := shr64 (n := k) (s := 8) (by omega)
 have a1 : iAnd .i64 ((k / 2 ^ 8 : Nat) : Int) 255 = ((k / 2 ^ 8 % 256 : Nat) : Int) := by
  rw [show (255 : Int) = ((255 : Nat) : Int) from rfl, iAnd_s (k := .i64) (by show _ < 2 ^ 63; omega) (by show _ < 2 ^ 63; omega), and_mask (j := 8) rfl]
 have a2 : iAnd .i64 (k : Int) 255 = ((k % 256 : Nat) : Int) := by
  rw [show (255 : Int) = ((255 : Nat) : Int) from rfl, iAnd_s (k := .i64) (by show _ < 2 ^ 63; omega) (by show _ < 2 ^ 63; omega), and_mask (j := 8) rfl]
 unfold F_i_PutW
 simp only [e, a1, a2, conv_u8]
 rw [joined2_ok (by simp only [List.length_cons, List.length_nil]; omega), bnd_s]
 rw [show k / 2 ^ 8 % 256 = k / 256 by omega]
 rfl
def suf (l : List UInt8) (a : Int) : List UInt8 := if a < 0 then [] else l.drop a.toNat
theorem suf_n (l : List UInt8) (k : Nat) : suf l (k : Int) = l.drop k := by
 unfold suf; rw [if_neg (by omega)]; rfl
theorem suf_neg {l : List UInt8} {a : Int} (h : a < 0) : suf l a = [] := if_pos h
theorem pWord_short {t : List UInt8} (h : t.length < 2) : pWord t = none := by
 match t, h with
 | [], _ => rfl
 | [_], _ => rfl
theorem word_or (x y : UInt8) : iOr .i64 (iShl .i64 (iConv .i64 (y2i x)) 8) (iConv .i64 (y2i y)) = ((x.toNat * 256 + y.toNat : Nat) : Int) := by
 have h0 := y_lt x
 have h1 := y_lt y
 simp only [y2i_n]
 rw [iConv_s (k := .i64) (by show _ < 2 ^ 63; omega), iConv_s (k := .i64) (by show _ < 2 ^ 63; omega)]
 rw [show iShl .i64 (x.toNat : Int) 8 = ((x.toNat * 2 ^ 8 : Nat) : Int) from iShl_s (k := .i64) (s := 8) (by decide) (by show _ < 2 ^ 63; omega)]
 rw [orc (c := x.toNat * 2 ^ 8) (q := x.toNat) (j := 8) rfl (by omega) (by omega) (by omega)]
theorem drop2 {l : List UInt8} {k : Nat} (h : k + 2 ≤ l.length) : l.drop k = l[k]'(by omega) :: l[k + 1]'(by omega) :: l.drop (k + 2) := by
 rw [List.drop_eq_getElem_cons (by omega), List.drop_eq_getElem_cons (by omega)]
theorem s_GetW {l : List UInt8} {a : Int} (hl : l.length ≤ 1048576000) : F_s_GetW (l, a) = some (match pWord (suf l a) with | none => (0, (0, false)) | some (n, _) => (n, (a + 2, true))) := by
 unfold F_s_GetW
 have e : iSub .i64 (lLen l) 2 = (l.length : Int) - 2 := iSub_ok (by simp only [lLen_def]; omega) (by simp only [lLen_def]; omega)
 simp only [e, s_In, bnd_s]
 by_cases h : 0 ≤ a ∧ a ≤ (l.length : Int) - 2
 ·obtain ⟨k, rfl⟩ := Int.eq_ofNat_of_zero_le h.1
  rw [decide_eq_true h, bNot_t, cnd_f, idx_at (show k < l.length by omega), bnd_s, iAdd_ok (by omega) (by omega), show (k : Int) + 1 = ((k + 1 : Nat) : Int) by omega, idx_at (show k + 1 < l.length by omega), bnd_s, word_or, iAdd_ok (by omega) (by omega)]
  rw [suf_n, drop2 (by omega)]
  rfl
 ·rw [decide_eq_false h, bNot_f, cnd_t]
  by_cases h0 : a < 0
  ·rw [suf_neg h0]; rfl
  ·obtain ⟨k, rfl⟩ := Int.eq_ofNat_of_zero_le (show 0 ≤ a by omega)
   rw [suf_n, pWord_short (by rw [List.length_drop]; omega)]
theorem i_GetW {l : List UInt8} {a : Int} (hl : l.length ≤ 1048576000) : F_i_GetW (l, a) = some (match pWord (suf l a) with | none => (0, (0, false)) | some (n, _) => (n, (a + 2, true))) := by
 unfold F_i_GetW
 have e : iSub .i64 (lLen l) 2 = (l.length : Int) - 2 := iSub_ok (by simp only [lLen_def]; omega) (by simp only [lLen_def]; omega)
 simp only [e]
 by_cases h0 : a < 0
 ·rw [iLt_y h0, cnd_t, suf_neg h0]; rfl
 rw [iLt_n (by omega), cnd_f]
 obtain ⟨k, rfl⟩ := Int.eq_ofNat_of_zero_le (show 0 ≤ a by omega)
 by_cases h : (k : Int) ≤ (l.length : Int) - 2
 ·rw [iGt_n (by omega), cnd_f, idx_at (show k < l.length by omega), bnd_s, iAdd_ok (by omega) (by omega), show (k : Int) + 1 = ((k + 1 : Nat) : Int) by omega, idx_at (show k + 1 < l.length by omega), bnd_s, word_or, iAdd_ok (by omega) (by omega)]
  rw [suf_n, drop2 (by omega)]
  rfl
 ·rw [iGt_y (by omega), cnd_t, suf_n, pWord_short (by rw [List.length_drop]; omega)]
theorem xor_cancel {a b c : Nat} (h : a ^^^ c = b ^^^ c) : a = b := by
 have : (a ^^^ c) ^^^ c = (b ^^^ c) ^^^ c := by rw [h]
 rwa [Nat.xor_assoc, Nat.xor_self, Nat.xor_zero, Nat.xor_assoc, Nat.xor_self, Nat.xor_zero] at this
theorem crc1_inj {x y : Nat} (h : crc1 x = crc1 y) : x = y := by
 have odd : ∀ a b : Nat, (2 * a) ^^^ 69665 ≠ 2 * b := by
  intro a b e
  have h1 : ((2 * a) ^^^ 69665).testBit 0 = (2 * b).testBit 0 := by rw [e]
  rw [Nat.testBit_xor, Nat.testBit_zero, Nat.testBit_zero, Nat.testBit_zero] at h1
  simp [Nat.mul_mod_right] at h1
 unfold crc1 at h
 split at h <;> split at h
 ·have := xor_cancel h; omega
 ·exact (odd _ _ h).elim
 ·exact (odd _ _ h.symm).elim
 ·omega
theorem crcN_inj {n : Nat} : ∀ {x y : Nat}, crcN n x = crcN n y → x = y := by
 induction n with
 | zero => intro x y h; exact h
 | succ n ih => intro x y h; exact crc1_inj (ih h)
theorem crcB_inj {x y : Nat} {b : UInt8} (h : crcB x b = crcB y b) : x = y := xor_cancel (crcN_inj h)
theorem crcB_byte {x : Nat} {b c : UInt8} (h : crcB x b = crcB x c) : b = c := by
 have h1 := crcN_inj h
 rw [Nat.xor_comm x, Nat.xor_comm x] at h1
 have := xor_cancel h1
 exact UInt8.toNat_inj.1 (by omega)
theorem crc_fold_ne {l : List UInt8} : ∀ {x y : Nat}, x ≠ y → l.foldl crcB x ≠ l.foldl crcB y := by
 induction l with
 | nil => intro x y h; exact h
 | cons b l ih =>
  intro x y h
  rw [List.foldl_cons, List.foldl_cons]
  refine ih ?_
  intro e
  exact h (crcB_inj e)
theorem crc_set {l : List UInt8} {i : Nat} {b : UInt8} (hi : i < l.length) (hb : b ≠ l[i]) : crc (l.set i b) ≠ crc l := by
 have e1 : l.set i b = l.take i ++ b :: l.drop (i + 1) := List.set_eq_take_append_cons_drop.trans (by rw [if_pos hi])
 have e2 : l = l.take i ++ l[i] :: l.drop (i + 1) := by rw [List.getElem_cons_drop, List.take_append_drop]
 rw [e1]
 conv => rhs; rw [e2]
 simp only [crc, List.foldl_append, List.foldl_cons]
 exact crc_fold_ne fun e => hb (crcB_byte e)
theorem iAnd_255 (a : Int) : ∃ n : Nat, n ≤ 255 ∧ iAnd .i64 a 255 = (n : Int) := by
 refine ⟨((BitVec.ofInt 64 a).toNat &&& 255), Nat.and_le_right, ?_⟩
 have e : (BitVec.ofInt 64 255).toNat = 255 := by decide
 have hle : (BitVec.ofInt 64 a).toNat &&& 255 ≤ 255 := Nat.and_le_right
 show IntKind.wrap .i64 (((BitVec.ofInt 64 a) &&& (BitVec.ofInt 64 255)).toNat : Int) = _
 rw [BitVec.toNat_and, e]
 exact wrap_i64 (by omega) (by omega)
theorem iRem_n (v n : Nat) : iRem (v : Int) (n : Int) = ((v % n : Nat) : Int) := rfl
abbrev Cs := Int × Int
def B20 (b : List UInt8) : Prop := b.length ≤ 1048576
theorem l1Byte_ok {b : List UInt8} {s : Cs} (hb : B20 b) (hs : 0 ≤ s.1) : ∃ (v : Nat) (s' : Cs), F_s_l1Byte (b, s) = some ((v : Int), s') ∧ v ≤ 255 ∧ 0 ≤ s'.1 := by
 obtain ⟨i, h⟩ := s
 simp only at hs
 obtain ⟨k, rfl⟩ := Int.eq_ofNat_of_zero_le hs
 unfold B20 at hb
 unfold F_s_l1Byte
 simp only
 by_cases hk : k < b.length
 ·rw [iLt_y (by simp only [lLen_def]; omega), cnd_t, idx_at hk, bnd_s, joinX_l]
  obtain ⟨n, h1, h2⟩ := iAnd_255 (iAdd .i64 (iAnd .i64 (iXor .i64 (iShr .i64 (iAdd .i64 (iMul .i64 h 6364136223846793005) 1442695040888963407) 33) (iShr .i64 (iAdd .i64 (iMul .i64 h 6364136223846793005) 1442695040888963407) 47)) 255) (iConv .i64 (y2i b[k])))
  refine ⟨n, _, by simp only [h2]; rfl, h1, ?_⟩
  simp only
  rw [iAdd_1 (by omega)]; omega
 ·rw [iLt_n (by simp only [lLen_def]; omega), cnd_f, joinX_l]
  obtain ⟨n, h1, h2⟩ := iAnd_255 (iXor .i64 (iShr .i64 (iAdd .i64 (iMul .i64 h 6364136223846793005) 1442695040888963407) 33) (iShr .i64 (iAdd .i64 (iMul .i64 h 6364136223846793005) 1442695040888963407) 47))
  exact ⟨n, _, by simp only [h2]; rfl, h1, by simp only; omega⟩
theorem l1Below_ok {b : List UInt8} {s : Cs} (n : Int) (hb : B20 b) (hs : 0 ≤ s.1) : ∃ (v : Nat) (s' : Cs), F_s_l1Below ((b, s), n) = some ((v : Int), s') ∧ (0 < n → (v : Int) < n) ∧ (n ≤ 0 → v = 0) ∧ 0 ≤ s'.1 := by
 obtain ⟨i, h⟩ := s
 unfold F_s_l1Below
 simp only
 by_cases h0 : n ≤ 0
 ·rw [iLe_y h0, cnd_t]
  exact ⟨0, (i, h), rfl, fun h => by omega, fun _ => rfl, hs⟩
 obtain ⟨m, rfl⟩ := Int.eq_ofNat_of_zero_le (show 0 ≤ n by omega)
 have hm : 0 < m := by omega
 rw [iLe_n (by omega), cnd_f]
 obtain ⟨v1, s1, e1, l1, k1⟩ := l1Byte_ok hb hs
 by_cases h1 : (m : Int) ≤ 256
 ·rw [iLe_y h1, cnd_t, e1, bnd_s, iNe_y (by omega), chk_t]
  simp only
  rw [iRem_n]
  exact ⟨v1 % m, (s1.1, s1.2), rfl, fun _ => by have := Nat.mod_lt v1 hm; omega, fun h => by omega, k1⟩
 ·rw [iLe_n (by omega), cnd_f, e1, bnd_s]
  obtain ⟨v2, s2, e2, l2, k2⟩ := l1Byte_ok (s := (s1.1, s1.2)) hb k1
  simp only [e2, bnd_s]
  obtain ⟨v3, s3, e3, l3, k3⟩ := l1Byte_ok (s := (s2.1, s2.2)) hb k2
  simp only [e3, bnd_s]
  rw [iNe_y (by omega), chk_t]
  have q1 : iMul .i64 (v1 : Int) 65536 = ((v1 * 65536 : Nat) : Int) := by rw [iMul_ok (by omega) (by omega)]; omega
  have q2 : iMul .i64 (v2 : Int) 256 = ((v2 * 256 : Nat) : Int) := by rw [iMul_ok (by omega) (by omega)]; omega
  rw [q1, q2, iAdd_n (by omega), iAdd_n (by omega), iRem_n]
  exact ⟨_, (s3.1, s3.2), rfl, fun _ => by have := Nat.mod_lt (v1 * 65536 + v2 * 256 + v3) hm; omega, fun h => by omega, k3⟩
theorem l1Once_ok {b : List UInt8} {s : Cs} (n : Int) (hb : B20 b) (hs : 0 ≤ s.1) : ∃ (v : Bool) (s' : Cs), F_s_l1Once ((b, s), n) = some (v, s') ∧ 0 ≤ s'.1 := by
 obtain ⟨v, s', e, _, _, k⟩ := l1Below_ok (s := (s.1, s.2)) n hb hs
 unfold F_s_l1Once
 simp only [e, bnd_s]
 exact ⟨_, _, rfl, k⟩
theorem l1Int_ok {b : List UInt8} {s : Cs} (l : List Int) (hb : B20 b) (hs : 0 ≤ s.1) (hl : 0 < l.length) : ∃ (v : Int) (s' : Cs), F_s_l1Int ((b, s), l) = some (v, s') ∧ v ∈ l ∧ 0 ≤ s'.1 := by
 obtain ⟨v, s', e, h1, _, k⟩ := l1Below_ok (s := (s.1, s.2)) (lLen l) hb hs
 have h1 := h1 (by simp only [lLen_def]; omega)
 simp only [lLen_def] at h1
 unfold F_s_l1Int
 simp only [e, bnd_s]
 rw [idx_at (i := v) (by omega), bnd_s]
 exact ⟨_, _, rfl, List.getElem_mem _, k⟩
theorem l1Bend_ok {b l : List UInt8} {s : Cs} (hb : B20 b) (hs : 0 ≤ s.1) (hl : l.length ≤ 1048576) : ∃ (v : List UInt8) (s' : Cs), F_s_l1Bend ((b, s), l) = some (v, s') ∧ v.length ≤ l.length ∧ 0 ≤ s'.1 := by
 have e0 : lApp [] l = l := rfl
 unfold F_s_l1Bend
 simp only [e0]
 rw [room_ok (by omega), chk_t]
 obtain ⟨v1, s1, e1, _, _, k1⟩ := l1Below_ok (s := (s.1, s.2)) 5 hb hs
 simp only [e1, bnd_s]
 rw [iEq_x]
 by_cases h0 : (v1 : Int) = 0
 ·rw [decide_eq_true h0, cnd_t]
  have ea : iAdd .i64 (lLen l) 1 = ((l.length + 1 : Nat) : Int) := iAdd_1 (by omega)
  rw [ea]
  obtain ⟨v2, s2, e2, h2, _, k2⟩ := l1Below_ok (s := (s1.1, s1.2)) ((l.length + 1 : Nat) : Int) hb k1
  have h2 := h2 (by omega)
  simp only [e2, bnd_s]
  rw [show within 0 (v2 : Int) (lLen l) = true from decide_eq_true (by simp only [lLen_def]; omega), chk_t, show fits 0 (nOf (v2 : Int) - 0) l.length = true from decide_eq_true (by simp only [nOf_n]; omega), chk_t]
  refine ⟨_, _, rfl, ?_, k2⟩
  simp only [lTake, nOf_n, List.length_take]
  omega
 rw [decide_eq_false h0, cnd_f, iEq_x]
 by_cases h1 : (v1 : Int) = 1
 ·rw [decide_eq_true h1, cnd_t]
  by_cases hl0 : l.length = 0
  ·rw [iGt_n (by simp only [lLen_def]; omega), cnd_f, joinX_l]
   exact ⟨_, _, rfl, Nat.le_refl _, k1⟩
  ·rw [iGt_y (by simp only [lLen_def]; omega), cnd_t]
   obtain ⟨v2, s2, e2, h2, _, k2⟩ := l1Below_ok (s := (s1.1, s1.2)) (lLen l) hb k1
   have h2 := h2 (by simp only [lLen_def]; omega)
   simp only [lLen_def] at h2
   simp only [e2, bnd_s]
   rw [idx_at (i := v2) (by omega), bnd_s]
   obtain ⟨v3, s3, e3, h3, _, k3⟩ := l1Below_ok (s := (s2.1, s2.2)) 255 hb k2
   simp only [e3, bnd_s, joinX_l]
   exact ⟨_, _, rfl, by simp [lSet], k3⟩
 ·rw [decide_eq_false h1, cnd_f, joinX_l]
  exact ⟨_, _, rfl, Nat.le_refl _, k1⟩
theorem l1New_ok {b : List UInt8} (hb : B20 b) : ∃ h : Int, F_s_l1New b = some h := by
  unfold F_s_l1New
  obtain ⟨r, h1, h, h2⟩ := loop_inv (step := S_s_l1New_0 b) (fun i (st : Int × Int) => st.2 = (i : Int)) b.length (fun r => ∃ h, r = .inl h)
    (fun i st hi h => by
      obtain ⟨p, q⟩ := st
      simp only at h
      subst h
      unfold S_s_l1New_0
      simp only
      rw [iLt_y (by simp only [lLen_def]; omega), cnd_t]
      by_cases h4 : (i : Int) < 4000
      · rw [iLt_y h4, cnd_t, idx_at hi, bnd_s]
        exact .inl ⟨_, rfl, by simp only; rw [iAdd_1 (by unfold B20 at hb; omega)]⟩
      · rw [iLt_n (by omega), cnd_f]
        exact .inr ⟨_, rfl, _, rfl⟩)
    (fun st h => by
      obtain ⟨p, q⟩ := st
      simp only at h
      subst h
      refine ⟨.inl p, ?_, p, rfl⟩
      unfold S_s_l1New_0
      simp only
      rw [iLt_n (by simp only [lLen_def]; omega), cnd_f])
    (iAdd .i64 953953 (lLen b), 0) rfl
  subst h2
  rw [h1, joinX_l]
  exact ⟨_, rfl⟩
def headB (g n : Int) : List UInt8 := (wordB g ++ wordB n) ++ wordB (crc (wordB g ++ wordB n))
def headOk (g n : Int) : Bool := decide (1 ≤ g ∧ g ≤ 60000) && decide (0 ≤ n ∧ n ≤ 30)
def headOf (g n : Int) : List UInt8 := if headOk g n = true then headB g n else []
theorem headOf_no {g n : Int} (h : headOk g n = false) : headOf g n = [] := by unfold headOf; rw [h]; rfl
theorem s_HeadOf {g n : Int} : F_s_HeadOf (g, n) = some (headOf g n) := by
 unfold F_s_HeadOf headOf headOk
 simp only [s_In, bnd_s]
 by_cases h1 : 1 ≤ g ∧ g ≤ 60000
 case neg => rw [decide_eq_false h1, bNot_f, cnd_t]; rfl
 rw [decide_eq_true h1, bNot_t, cnd_f]
 by_cases h2 : 0 ≤ n ∧ n ≤ 30
 case neg => rw [decide_eq_false h2, bNot_f, cnd_t]; rfl
 rw [decide_eq_true h2, bNot_t, cnd_f]
 have hc := crc_lt (wordB g ++ wordB n)
 rw [s_PutW (by simp) (by omega) (by omega), bnd_s, s_PutW (by simp [wordB]) (by omega) (by omega), bnd_s]
 simp only [List.nil_append]
 rw [s_Sum (by simp [wordB]), bnd_s, s_PutW (by simp [wordB]) (by omega) (by omega)]
 rfl
theorem i_HeadOf {g n : Int} : F_i_HeadOf (g, n) = some (headOf g n) := by
 unfold F_i_HeadOf headOf headOk
 simp only [i_In, bnd_s]
 by_cases h1 : 1 ≤ g ∧ g ≤ 60000
 case neg => rw [decide_eq_false h1, bNot_f, cnd_t]; rfl
 rw [decide_eq_true h1, bNot_t, cnd_f]
 by_cases h2 : 0 ≤ n ∧ n ≤ 30
 case neg => rw [decide_eq_false h2, bNot_f, cnd_t]; rfl
 rw [decide_eq_true h2, bNot_t, cnd_f]
 have hc := crc_lt (wordB g ++ wordB n)
 rw [i_PutW (by simp) (by omega) (by omega), bnd_s, i_PutW (by simp [wordB]) (by omega) (by omega), bnd_s]
 simp only [List.nil_append]
 rw [i_Sum (by simp [wordB]), bnd_s, i_PutW (by simp [wordB]) (by omega) (by omega)]
 rfl
def getHead (l : List UInt8) : Int × Int × Bool := match l with
 | [a, b, c, d, e, f] => if ((e.toNat * 256 + f.toNat : Nat) : Int) = (crc [a, b, c, d] : Nat) ∧ headOk ((a.toNat * 256 + b.toNat : Nat) : Int) ((c.toNat * 256 + d.toNat : Nat) : Int) = true then (((a.toNat * 256 + b.toNat : Nat) : Int), ((c.toNat * 256 + d.toNat : Nat) : Int), true) else (0, 0, false)
 | _ => (0, 0, false)
theorem not6 {l : List UInt8} (h : l.length ≠ 6) : getHead l = (0, 0, false) := by
 unfold getHead
 split
 ·simp at h
 ·rfl
theorem of6 {l : List UInt8} (h : l.length = 6) : ∃ a b c d e f, l = [a, b, c, d, e, f] := by
 match l, h with
 | [a, b, c, d, e, f], _ => exact ⟨a, b, c, d, e, f, rfl⟩
theorem s_GetHead {l : List UInt8} (hl : l.length ≤ 1048576) : F_s_GetHead l = some (getHead l) := by
 unfold F_s_GetHead
 rw [s_GetW (by omega), bnd_s, s_GetW (by omega), bnd_s, s_GetW (by omega), bnd_s]
 by_cases h6 : l.length = 6
 ·obtain ⟨a, b, c, d, e, f, rfl⟩ := of6 h6
  have ha := y_lt a; have hb := y_lt b; have hc := y_lt c; have hd := y_lt d
  have e0 : pWord (suf [a, b, c, d, e, f] 0) = some (((a.toNat * 256 + b.toNat : Nat) : Int), [c, d, e, f]) := rfl
  have e2 : pWord (suf [a, b, c, d, e, f] 2) = some (((c.toNat * 256 + d.toNat : Nat) : Int), [e, f]) := rfl
  have e4 : pWord (suf [a, b, c, d, e, f] 4) = some (((e.toNat * 256 + f.toNat : Nat) : Int), []) := rfl
  have et : lTake (nOf 4 - 0) [a, b, c, d, e, f] = [a, b, c, d] := rfl
  rw [e0, e2, e4]
  simp only [bNot_t, cnd_f, et]
  rw [show iNe (lLen [a, b, c, d, e, f]) 6 = false from rfl, cnd_f, show within 0 4 (lLen [a, b, c, d, e, f]) = true from rfl, chk_t, s_Sum (by simp), bnd_s]
  unfold getHead headOk
  simp only
  by_cases h1 : ((e.toNat * 256 + f.toNat : Nat) : Int) = (crc [a, b, c, d] : Nat)
  case neg => rw [iNe_y h1, cnd_t, if_neg (fun h => h1 h.1)]
  rw [show iNe ((e.toNat * 256 + f.toNat : Nat) : Int) ((crc [a, b, c, d] : Nat) : Int) = false by rw [h1, iNe_r], cnd_f, s_In, bnd_s]
  by_cases h2 : (1 : Int) ≤ ((a.toNat * 256 + b.toNat : Nat) : Int) ∧ ((a.toNat * 256 + b.toNat : Nat) : Int) ≤ 60000
  case neg => rw [decide_eq_false h2, bNot_f, cnd_t, if_neg (fun h => by simp at h)]
  rw [decide_eq_true h2, bNot_t, cnd_f]
  by_cases h3 : ((c.toNat * 256 + d.toNat : Nat) : Int) ≤ 30
  ·rw [iGt_n h3, cnd_f, if_pos ⟨h1, by simp only [Bool.true_and, decide_eq_true_eq]; omega⟩]
  ·rw [iGt_y (by omega), cnd_t, if_neg (fun h => by have := h.2; simp only [Bool.true_and, decide_eq_true_eq] at this; omega)]
 ·rw [not6 h6]
  cases pWord (suf l 4) with
  | none => rfl
  | some v => simp only [bNot_t, cnd_f]; rw [iNe_y (by simp only [lLen_def]; omega), cnd_t]
theorem i_GetHead {l : List UInt8} (hl : l.length ≤ 1048576) : F_i_GetHead l = some (getHead l) := by
 have hw : ∀ (k : Int) , F_i_scan_word (l, (k, false)) = some (match pWord (suf l k) with | none => (0, (k, true)) | some (n, _) => (n, (k + 2, false))) := by
  intro k
  unfold F_i_scan_word
  simp only
  rw [i_GetW (by omega), bnd_s, cnd_f]
  cases pWord (suf l k) <;> rfl
 have hb : ∀ k : Int, F_i_scan_word (l, (k, true)) = some (0, (k, true)) := by
  intro k
  unfold F_i_scan_word
  simp only
  rw [i_GetW (by omega), bnd_s, cnd_t]
 have hsb : ∀ k : Int, F_i_scan_sum (l, (k, true)) = some (false, (k, true)) := by
  intro k
  unfold F_i_scan_sum
  simp only [hb, bnd_s, bNot_t, cnd_f]
 unfold F_i_GetHead
 rw [hw, bnd_s]
 by_cases h6 : l.length = 6
 ·obtain ⟨a, b, c, d, e, f, rfl⟩ := of6 h6
  have ha := y_lt a; have hb := y_lt b; have hc := y_lt c; have hd := y_lt d
  have e0 : pWord (suf [a, b, c, d, e, f] 0) = some (((a.toNat * 256 + b.toNat : Nat) : Int), [c, d, e, f]) := rfl
  have e2 : pWord (suf [a, b, c, d, e, f] 2) = some (((c.toNat * 256 + d.toNat : Nat) : Int), [e, f]) := rfl
  have e4 : pWord (suf [a, b, c, d, e, f] 4) = some (((e.toNat * 256 + f.toNat : Nat) : Int), []) := rfl
  have et : lTake (nOf 4 - 0) [a, b, c, d, e, f] = [a, b, c, d] := rfl
  rw [e0]
  simp only
  rw [show (0 : Int) + 2 = 2 from rfl, hw, e2, bnd_s]
  simp only
  rw [show (2 : Int) + 2 = 4 from rfl]
  unfold F_i_scan_sum
  simp only
  rw [hw, e4, bnd_s]
  simp only [bNot_f, cnd_t, et]
  rw [show within 0 4 (lLen [a, b, c, d, e, f]) = true from rfl, chk_t, i_Sum (by simp), bnd_s]
  unfold getHead headOk
  simp only
  rw [iEq_x]
  by_cases h1 : ((e.toNat * 256 + f.toNat : Nat) : Int) = (crc [a, b, c, d] : Nat)
  case neg => rw [decide_eq_false h1, cnd_f, bnd_s, bNot_f, cnd_t, if_neg (fun h => h1 h.1)]
  rw [decide_eq_true h1, cnd_t, bnd_s, show iEq (4 + 2) (lLen [a, b, c, d, e, f]) = true from rfl, bNot_t, cnd_f, i_In, bnd_s]
  by_cases h2 : (1 : Int) ≤ ((a.toNat * 256 + b.toNat : Nat) : Int) ∧ ((a.toNat * 256 + b.toNat : Nat) : Int) ≤ 60000
  case neg => rw [decide_eq_false h2, bNot_f, cnd_t, if_neg (fun h => by simp at h)]
  rw [decide_eq_true h2, bNot_t, cnd_f, i_In, bnd_s]
  by_cases h3 : (0 : Int) ≤ ((c.toNat * 256 + d.toNat : Nat) : Int) ∧ ((c.toNat * 256 + d.toNat : Nat) : Int) ≤ 30
  ·rw [decide_eq_true h3, bNot_t, cnd_f, if_pos ⟨h1, by simp⟩]
  ·rw [decide_eq_false h3, bNot_f, cnd_t, if_neg (fun h => by simp at h)]
 ·rw [not6 h6]
  -- whatever is read, the end is not reached, or there is too little
  cases p0 : pWord (suf l 0) with
  | none => simp only [hb, bnd_s, hsb, bNot_f, cnd_t]
  | some v0 =>
   simp only
   rw [show (0 : Int) + 2 = 2 from rfl, hw, bnd_s]
   cases p2 : pWord (suf l 2) with
   | none => simp only [hsb, bnd_s, bNot_f, cnd_t]
   | some v2 =>
    simp only
    rw [show (2 : Int) + 2 = 4 from rfl]
    unfold F_i_scan_sum
    simp only
    rw [hw, bnd_s]
    cases p4 : pWord (suf l 4) with
    | none => simp only [bNot_t, cnd_f, bnd_s, bNot_f, cnd_t]
    | some v4 =>
     have hlen : 6 ≤ l.length := by
      obtain ⟨n, q⟩ := v4
      have := (wordB_of p4).1
      have := congrArg List.length this
      rw [show (4 : Int) = ((4 : Nat) : Int) from rfl, suf_n] at this
      simp [wordB] at this
      omega
     simp only [bNot_f, cnd_t]
     rw [show within 0 4 (lLen l) = true from decide_eq_true (by simp only [lLen_def]; omega), chk_t, i_Sum (by simp [lTake]; omega), bnd_s, show (4 : Int) + 2 = 6 from rfl, iEq_n (a := 6) (by simp only [lLen_def]; omega)]
     cases iEq v4.1 _ <;> simp only [cnd_t, cnd_f, bnd_s, bNot_f]
theorem headOf_len {g n : Int} : (headOf g n).length = if headOk g n = true then 6 else 0 := by
 unfold headOf
 split <;> rfl
theorem wordB_bytes {n : Int} (h0 : 0 ≤ n) (h1 : n < 65536) : ∃ a b : UInt8, wordB n = [a, b] ∧ ((a.toNat * 256 + b.toNat : Nat) : Int) = n := by
 refine ⟨_, _, rfl, ?_⟩
 rw [yN_toNat (by omega), yN_toNat (by omega)]
 omega
theorem getHead_put {g n : Int} (h : headOk g n = true) : getHead (headB g n) = (g, n, true) := by
 have h0 := h
 simp only [headOk, Bool.and_eq_true, decide_eq_true_eq] at h0
 obtain ⟨a, b, e1, q1⟩ := wordB_bytes (n := g) (by omega) (by omega)
 obtain ⟨c, d, e2, q2⟩ := wordB_bytes (n := n) (by omega) (by omega)
 have hc := crc_lt (wordB g ++ wordB n)
 obtain ⟨e, f, e3, q3⟩ := wordB_bytes (n := (crc (wordB g ++ wordB n) : Nat)) (by omega) (by omega)
 unfold headB
 rw [e3]
 rw [e1, e2] at q3 ⊢
 show getHead [a, b, c, d, e, f] = _
 unfold getHead
 simp only [q1, q2]
 rw [if_pos ⟨q3, h⟩]
theorem getHead_of {l : List UInt8} {g n : Int} (h : getHead l = (g, n, true)) : l = headB g n ∧ headOk g n = true := by
 unfold getHead at h
 split at h
 ·rename_i a b c d e f
  split at h
  ·rename_i hh
   simp only [Prod.mk.injEq, and_true] at h
   obtain ⟨rfl, rfl⟩ := h
   refine ⟨?_, hh.2⟩
   have ha := y_lt a; have hb := y_lt b; have hc := y_lt c; have hd := y_lt d; have he := y_lt e; have hf := y_lt f
   have w : ∀ x y : UInt8, wordB ((x.toNat * 256 + y.toNat : Nat) : Int) = [x, y] := by
    intro x y
    have hx := y_lt x; have hy := y_lt y
    unfold wordB
    rw [yN_of (b := x) (by omega), yN_of (b := y) (by omega)]
   unfold headB
   rw [w, w]
   show _ = [a, b, c, d] ++ wordB (crc [a, b, c, d] : Nat)
   rw [← hh.1, w]
   rfl
  ·simp at h
 ·simp at h
theorem head_turned {g n : Int} {i : Nat} {y : UInt8} (hi : i < 6) (hy : ∀ (h : i < (headB g n).length), y ≠ (headB g n)[i]) : (getHead ((headB g n).set i y)).2.2 = false := by
 cases hq : (getHead ((headB g n).set i y)).2.2 with
 | false => rfl
 | true =>
  exfalso
  obtain ⟨g', n', hg⟩ : ∃ g' n', getHead ((headB g n).set i y) = (g', n', true) := ⟨_, _, Prod.ext rfl (Prod.ext rfl hq)⟩
  obtain ⟨h1, _⟩ := getHead_of hg
  have hl : (headB g n).length = 6 := rfl
  have key : ∀ (x z : List UInt8) (p q : List UInt8), x.length = 4 → z.length = 4 → p.length = 2 → q.length = 2 → p = wordB (crc x : Nat) → q = wordB (crc z : Nat) → (x ++ p).set i y = z ++ q → (∀ (h : i < (x ++ p).length), y ≠ (x ++ p)[i]) → False := by
   intro x z p q lx lz lp lq hp hq he hne
   have hcx := crc_lt x
   have hcz := crc_lt z
   have winj : ∀ a b : Nat, a < 65536 → b < 65536 → wordB (a : Int) = wordB (b : Int) → a = b := by
    intro a b ha hb hw
    have h1 := pWord_put (n := (a : Int)) (by omega) (by omega) []
    have h2 := pWord_put (n := (b : Int)) (by omega) (by omega) []
    rw [hw, h2] at h1
    simp only [Option.some.injEq, Prod.mk.injEq, and_true] at h1
    omega
   by_cases h4 : i < 4
   ·rw [List.set_append_left _ _ (by omega)] at he
    obtain ⟨e1, e2⟩ := List.append_inj he (by simp; omega)
    have : crc x = crc z := winj _ _ hcx hcz (by rw [← hp, ← hq, e2])
    refine crc_set (l := x) (i := i) (b := y) (by omega) ?_ (by rw [e1, this])
    have := hne (by simp; omega)
    rwa [List.getElem_append_left (by omega)] at this
   ·rw [List.set_append_right _ _ (by omega)] at he
    obtain ⟨e1, e2⟩ := List.append_inj he (by omega)
    subst e1
    rw [← hp] at hq
    subst hq
    have this : (q.set (i - x.length) y)[i - x.length]? = q[i - x.length]? := by rw [e2]
    rw [List.getElem?_set_self (show i - x.length < q.length by omega)] at this
    have hn := hne (by simp; omega)
    rw [List.getElem_append_right (by omega)] at hn
    rw [List.getElem?_eq_getElem (by omega)] at this
    exact hn (Option.some.inj this)
  exact key _ _ _ _ rfl rfl rfl rfl rfl rfl h1 hy
theorem big_y {x : List UInt8} (h : 1048576 < x.length) : F_l_big x = some true := by unfold F_l_big; rw [iGt_y (by simp only [lLen_def]; omega)]
theorem big_n {x : List UInt8} (h : x.length ≤ 1048576) : F_l_big x = some false := by unfold F_l_big; rw [iGt_n (by simp only [lLen_def]; omega)]
theorem at_ok {x : List UInt8} (hx : B20 x) (i : Nat) (hi : i ≤ 1000) : ∃ v : Nat, F_l_at (x, (i : Int)) = some (v : Int) ∧ v ≤ 255 := by
 unfold B20 at hx
 unfold F_l_at
 by_cases h : i < x.length
 ·have := y_lt x[i]
  rw [iLt_y (by simp only [lLen_def]; omega), cnd_t, idx_at h, bnd_s, y2i_n, iConv_s (k := .i64) (by show _ < 2 ^ 63; omega)]
  exact ⟨_, rfl, by omega⟩
 ·rw [iLt_n (by simp only [lLen_def]; omega), cnd_f]
  have e1 : iMul .i64 (i : Int) 31 = ((i * 31 : Nat) : Int) := by rw [iMul_ok (by omega) (by omega)]; omega
  have e2 : iMul .i64 (lLen x) 7 = ((x.length * 7 : Nat) : Int) := by rw [lLen_def, iMul_ok (by omega) (by omega)]; omega
  rw [e1, e2, iAdd_n (by omega), show (256 : Int) = ((256 : Nat) : Int) from rfl, iRem_n]
  exact ⟨_, rfl, by omega⟩
theorem turn_ne (y : UInt8) (v : Nat) (hv : v ≤ 255) : u8 (iXor .u8 (y2i y) (y2i (u8 (iConv .u8 (iAdd .i64 1 (iRem (v : Int) 255)))))) ≠ y := by
 have hy := y_lt y
 have e1 : iAdd .i64 1 (iRem (v : Int) 255) = ((1 + v % 255 : Nat) : Int) := by
  rw [show (255 : Int) = ((255 : Nat) : Int) from rfl, iRem_n, iAdd_ok (by omega) (by omega)]; omega
 rw [e1, conv_u8, y2i_n, y2i_n, yN_toNat (by omega)]
 have e2 : iXor .u8 (y.toNat : Int) ((1 + v % 255 : Nat) : Int) = ((y.toNat ^^^ (1 + v % 255) : Nat) : Int) := by
  unfold iXor
  rw [BitVec.toNat_xor, ofInt_toNat (m := IntKind.u8.bits) hy, ofInt_toNat (m := IntKind.u8.bits) (show 1 + v % 255 < 256 by omega)]
  exact wrap_u8 (Nat.xor_lt_two_pow (n := 8) hy (show 1 + v % 255 < 256 by omega))
 rw [e2]
 intro h
 have h2 := congrArg UInt8.toNat h
 have hlt : y.toNat ^^^ (1 + v % 255) < 256 := Nat.xor_lt_two_pow (n := 8) hy (show 1 + v % 255 < 256 by omega)
 rw [show u8 ((y.toNat ^^^ (1 + v % 255) : Nat) : Int) = yN (y.toNat ^^^ (1 + v % 255)) from rfl, yN_toNat hlt] at h2
 have h3 : y.toNat ^^^ (y.toNat ^^^ (1 + v % 255)) = y.toNat ^^^ y.toNat := by rw [h2]
 rw [← Nat.xor_assoc, Nat.xor_self, Nat.zero_xor] at h3
 omega
theorem drawHeadOf_ok {x : List UInt8} (hx : B20 x) : ∃ v : Int × Int, F_s_DrawHeadOf x = some v := by
 unfold F_s_DrawHeadOf
 obtain ⟨h, e1⟩ := l1New_ok hx
 rw [e1, bnd_s]
 obtain ⟨v1, s1, e2, _, k1⟩ := l1Int_ok (s := (0, h)) [0, 1, 2, 60000, 60001, -1] hx (Int.le_refl _) (by simp)
 rw [e2, bnd_s]
 obtain ⟨v2, s2, e3, _, k2⟩ := l1Int_ok (s := (s1.1, s1.2)) [0, 5, 30, 31, -1] hx k1 (by simp)
 simp only [e3, bnd_s]
 exact ⟨_, rfl⟩
theorem drawGetHead_ok {x : List UInt8} (hx : B20 x) : ∃ v : List UInt8, F_s_DrawGetHead x = some v ∧ v.length ≤ 1048576 := by
 unfold F_s_DrawGetHead
 obtain ⟨h, e1⟩ := l1New_ok hx
 rw [e1, bnd_s]
 obtain ⟨v1, s1, e2, _, _, k1⟩ := l1Below_ok (s := (0, h)) 5 hx (Int.le_refl _)
 rw [e2, bnd_s]
 obtain ⟨v2, s2, e3, _, _, k2⟩ := l1Below_ok (s := (s1.1, s1.2)) 31 hx k1
 simp only [e3, bnd_s]
 rw [s_HeadOf, bnd_s]
 have hl : (headOf (iAdd .i64 1 (v1 : Int)) (v2 : Int)).length ≤ 6 := by rw [headOf_len]; split <;> omega
 obtain ⟨v3, s3, e4, l3, k3⟩ := l1Bend_ok (s := (s2.1, s2.2)) hx k2 (l := headOf (iAdd .i64 1 (v1 : Int)) (v2 : Int)) (by omega)
 simp only [e4, bnd_s]
 obtain ⟨v4, s4, e5, k4⟩ := l1Once_ok (s := (s3.1, s3.2)) 5 hx k3
 simp only [e5, bnd_s]
 cases v4 with
 | false => rw [cnd_f]; exact ⟨_, rfl, by omega⟩
 | true =>
  rw [cnd_t, iEq_x]
  by_cases h6 : lLen v3 = 6
  case neg => rw [decide_eq_false h6, cnd_f]; exact ⟨_, rfl, by omega⟩
  rw [decide_eq_true h6, cnd_t]
  simp only [lLen_def] at h6
  rw [show within 0 4 (lLen v3) = true from decide_eq_true (by simp only [lLen_def]; omega), chk_t]
  obtain ⟨v5, s5, e6, l5, _, k5⟩ := l1Below_ok (s := (s4.1, s4.2)) 4 hx k4
  have l5 := l5 (by omega)
  simp only [e6, bnd_s]
  obtain ⟨v6, s6, e7, _, k6⟩ := l1Int_ok (s := (s5.1, s5.2)) [0, 31, 255] hx k5 (by simp)
  simp only [e7, bnd_s]
  rw [iLt_y (by simp [nOf]; omega), chk_t, idx_at (i := v5) (by omega), bnd_s]
  have hf : fits 0 (nOf 4 - 0) (lSet v3 (0 + nOf (v5 : Int)) (u8 (iConv .u8 v6))).length = true := decide_eq_true (by simp [lSet, nOf]; omega)
  rw [hf, chk_t]
  have hlt : (lTake (nOf 4 - 0) (lSet v3 (0 + nOf (v5 : Int)) (u8 (iConv .u8 v6)))).length ≤ 4 := by simp [lTake, nOf]; omega
  rw [s_Sum (by omega), bnd_s]
  have hc := crc_lt (lTake (nOf 4 - 0) (lSet v3 (0 + nOf (v5 : Int)) (u8 (iConv .u8 v6))))
  rw [chk_t, s_PutW (by omega) (by omega) (by omega), bnd_s]
  exact ⟨_, rfl, by rw [List.length_append, wordB_len]; omega⟩
theorem law_Heads {x : List UInt8} (hx : x.length ≤ 9223372036854775807) : F_l_FnHeads x = some true := by
 unfold F_l_FnHeads
 by_cases hb : 1048576 < x.length
 ·rw [big_y hb]; rfl
 have hx : B20 x := by unfold B20; omega
 rw [big_n (by unfold B20 at hx; omega), bnd_s, cnd_f]
 obtain ⟨⟨g, n⟩, e1⟩ := drawHeadOf_ok hx
 obtain ⟨c, e2, lc⟩ := drawGetHead_ok hx
 obtain ⟨v2, q2, w2⟩ := at_ok hx 2 (by omega)
 obtain ⟨v3, q3, w3⟩ := at_ok hx 3 (by omega)
 have q2 : F_l_at (x, 2) = some (v2 : Int) := q2
 have q3 : F_l_at (x, 3) = some (v3 : Int) := q3
 rw [e1, bnd_s]
 simp only [i_HeadOf, s_HeadOf, bnd_s, e2, i_GetHead lc, s_GetHead lc, bNe_r, cnd_f, sEq_r, bNot_t, q2, q3]
 have rest : (cnd (iEq (lLen (headOf g n)) 0) (cnd (iLt g 1) (some true) (cnd (iGt g 60000) (some true) (cnd (iLt n 0) (some true) (some (iGt n 30))))) (bnd (F_i_GetHead (headOf g n)) (fun (z8 : (Int × (Int × Bool))) => (chk (iNe (lLen (headOf g n)) 0) (bnd (idx (headOf g n) (iRem (v2 : Int) (lLen (headOf g n)))) (fun (z10 : UInt8) => (bnd (idx (headOf g n) (iRem (v2 : Int) (lLen (headOf g n)))) (fun (z12 : UInt8) => (bnd (F_i_GetHead (lSet (headOf g n) (nOf (iRem (v2 : Int) (lLen (headOf g n)))) (u8 (iXor .u8 (y2i z10) (y2i (u8 (iConv .u8 (iAdd .i64 1 (iRem (v3 : Int) 255))))))))) (fun (z13 : (Int × (Int × Bool))) => (cnd z8.2.2 (cnd (iEq z8.1 g) (cnd (iEq z8.2.1 n) (some (bNot z13.2.2)) (some false)) (some false)) (some false)))))))))))) = some true := by
  cases hk : headOk g n with
  | false =>
   rw [headOf_no hk, show iEq (lLen ([] : List UInt8)) 0 = true from rfl, cnd_t]
   have hk' := hk
   simp only [headOk, Bool.and_eq_false_iff, decide_eq_false_iff_not] at hk'
   by_cases h1 : g < 1
   ·rw [iLt_y h1]; rfl
   rw [iLt_n (by omega), cnd_f]
   by_cases h2 : 60000 < g
   ·rw [iGt_y h2]; rfl
   rw [iGt_n (by omega), cnd_f]
   by_cases h3 : n < 0
   ·rw [iLt_y h3]; rfl
   rw [iLt_n (by omega), cnd_f, iGt_y (by omega)]
  | true =>
   have he : headOf g n = headB g n := by unfold headOf; rw [if_pos hk]
   have hl : (headB g n).length = 6 := rfl
   rw [he, show iEq (lLen (headB g n)) 0 = false from rfl, cnd_f, i_GetHead (by omega), bnd_s, show iNe (lLen (headB g n)) 0 = true from rfl, chk_t, getHead_put hk]
   have hr : iRem (v2 : Int) (lLen (headB g n)) = ((v2 % 6 : Nat) : Int) := rfl
   rw [hr, idx_at (i := v2 % 6) (by omega), bnd_s, bnd_s, nOf_n, i_GetHead (by simp [lSet, hl]), bnd_s]
   have ht := head_turned (g := g) (n := n) (i := v2 % 6) (y := u8 (iXor .u8 (y2i ((headB g n)[v2 % 6]'(by omega))) (y2i (u8 (iConv .u8 (iAdd .i64 1 (iRem (v3 : Int) 255))))))) (by omega) (fun h => turn_ne _ v3 w3)
   unfold lSet
   rw [ht]
   simp only [cnd_t, iEq_r, bNot_f]
 cases hc : (getHead c).2.2 with
 | false => rw [cnd_f]; exact rest
 | true =>
  rw [cnd_t]
  have hg := getHead_of (l := c) (g := (getHead c).1) (n := (getHead c).2.1) (Prod.ext rfl (Prod.ext rfl hc))
  have he : headOf (getHead c).1 (getHead c).2.1 = c := by unfold headOf; rw [if_pos hg.2]; exact hg.1.symm
  rw [he, sEq_r, bNot_t, cnd_f]
  exact rest
end
end Go.Vs
