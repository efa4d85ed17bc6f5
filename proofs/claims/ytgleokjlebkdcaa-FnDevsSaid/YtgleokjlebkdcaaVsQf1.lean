import Derived.Test.YtgleokjlebkdcaaVsW5
import Derived.Test.YtgleokjlebkdcaaVsPf
set_option linter.all false
namespace Go.Vs
set_option linter.unusedVariables false
set_option linter.unusedSimpArgs false
noncomputable section
theorem iEq_x (a b : Int) : iEq a b = decide (a = b) := by simp only [iEq]; rfl
theorem find_loop {α σ ρ : Type} {step : σ → Option (σ ⊕ ρ)} (st : Nat → σ) (x : List α) (p : α → Bool) (found : Nat → ρ) (no : ρ)
    (hs : ∀ (i : Nat) (h : i < x.length), step (st i) = if p x[i] = true then some (.inr (found i)) else some (.inl (st (i + 1)))) (he : step (st x.length) = some (.inr no)) (s0 : σ) (h0 : s0 = st 0) :
    loopX step s0 = some (match x.findIdx? p with | some i => found i | none => no) := by
  obtain ⟨r, h1, h2⟩ := loop_inv (step := step) (fun i s => s = st i ∧ ∀ (j : Nat) (h : j < x.length), j < i → p x[j] = false) x.length (fun r => r = match x.findIdx? p with | some i => found i | none => no)
    (fun i s hi h => by
      obtain ⟨rfl, hp⟩ := h
      rw [hs i hi]
      by_cases hq : p x[i] = true
      · refine .inr ⟨_, by rw [if_pos hq], ?_⟩
        have : x.findIdx? p = some i := by
          rw [List.findIdx?_eq_some_iff_getElem]
          exact ⟨hi, hq, fun j hj => by simpa using hp j (by omega) hj⟩
        rw [this]
      · refine .inl ⟨_, by rw [if_neg hq], rfl, fun j hj hji => ?_⟩
        by_cases e : j = i
        · subst e; simpa using hq
        · exact hp j hj (by omega))
    (fun s h => by
      obtain ⟨rfl, hp⟩ := h
      refine ⟨_, he, ?_⟩
      have : x.findIdx? p = none := by
        rw [List.findIdx?_eq_none_iff]
        intro y hy
        obtain ⟨j, hj, rfl⟩ := List.getElem_of_mem hy
        exact hp j hj hj
      rw [this]) s0 ⟨h0, fun j _ h => absurd h (Nat.not_lt_zero _)⟩
  rw [h1, h2]
theorem y_lt (b : UInt8) : b.toNat < 256 := b.toNat_lt
theorem wrap_small {k : IntKind} {n : Nat} (h : n < 2 ^ (k.bits - 1)) : k.wrap (n : Int) = (n : Int) := by
 have hp : (2 : Nat) ^ (k.bits - 1) ≤ 2 ^ k.bits := Nat.pow_le_pow_right (by decide) (by omega)
 have e1 : ((2 : Int) ^ (k.bits - 1)) = ((2 ^ (k.bits - 1) : Nat) : Int) := by simp
 have e2 : ((2 : Int) ^ k.bits) = ((2 ^ k.bits : Nat) : Int) := by simp
 have e3 : ((n : Int) % ((2 ^ k.bits : Nat) : Int)) = (n : Int) := Int.emod_eq_of_lt (by omega) (by omega)
 simp only [IntKind.wrap, e1, e2, e3]
 rw [if_neg]
 simp only [Bool.and_eq_true, decide_eq_true_eq]
 omega
theorem wrap_u8 {n : Nat} (h : n < 256) : IntKind.u8.wrap (n : Int) = (n : Int) := by
 have e1 : IntKind.u8.bits = 8 := rfl
 have e2 : IntKind.u8.signed = false := rfl
 simp only [IntKind.wrap, e1, e2, Bool.false_and, Bool.false_eq_true, if_false]
 exact Int.emod_eq_of_lt (by omega) (by simp; omega)
section
variable {k : IntKind} {a b : Nat}
theorem iConv_s (h : a < 2 ^ (k.bits - 1)) : iConv k (a : Int) = (a : Int) := wrap_small h
end
theorem y2i_n (b : UInt8) : y2i b = (b.toNat : Int) := rfl
theorem cnd_if {β : Type} {p : Prop} [Decidable p] (x y : Option β) : cnd (decide p) x y = if p then x else y := by
 by_cases h : p <;> simp [h]
theorem s_In (x l h : Int) : F_s_l1In (x, (l, h)) = some (decide (l ≤ x ∧ x ≤ h)) := by
 unfold F_s_l1In
 simp only [iGe, iLe, cnd_if]
 split
 ·rename_i h1
  have : l ≤ x := h1
  simp [this]
 ·rename_i h1
  have : ¬ l ≤ x := h1
  simp [this]
theorem i_In (x l h : Int) : F_i_within (x, (l, h)) = some (decide (l ≤ x ∧ x ≤ h)) := s_In x l h
theorem joined1_ok {b : List UInt8} (hb : b.length ≤ 140737488355328) : F_i_joined [b] = some b := by
 unfold F_i_joined
 rw [loop_exact (fun i => (if i = 0 then [] else b, (i : Int))) 1 (.inl b)]
 ·rfl
 ·intro i hi
  obtain rfl : i = 0 := by omega
  show S_i_joined_0 [b] ([], 0) = some (.inl (b, 1))
  unfold S_i_joined_0
  rw [iLt_y (by simp), cnd_t, show idx [b] (([], 0) : List UInt8 × Int).2 = some b from rfl, bnd_s, room_ok (by simp; omega), chk_t]
  rfl
 ·show S_i_joined_0 [b] (b, 1) = some (.inr (.inl b))
  unfold S_i_joined_0
  rw [iLt_n (by simp), cnd_f]
 ·rfl
theorem app_loop {α β ρ : Type} {step : List β × Int → Option ((List β × Int) ⊕ (List β ⊕ ρ))} {x : List α} {f : α → β} {l0 : List β} (hs : ∀ (l : List β) (i : Nat) (h : i < x.length), l.length = l0.length + i → step (l, (i : Int)) = some (.inl (l ++ [f x[i]], (i : Int) + 1))) (he : ∀ l, step (l, (x.length : Int)) = some (.inr (.inl l))) : loopX step (l0, 0) = some (.inl (l0 ++ x.map f)) := by
 refine loop_exact (fun i => (l0 ++ (x.take i).map f, (i : Int))) x.length _ ?_ ?_ _ (by simp)
 ·intro i hi
  rw [hs _ i hi (by simp; omega)]
  have e : (x.take (i + 1)).map f = (x.take i).map f ++ [f x[i]] := by
   rw [List.take_succ_eq_append_getElem hi, List.map_append]; rfl
  rw [e, ← List.append_assoc]
  rfl
 ·rw [he]; simp
theorem iAnd_255 (a : Int) : ∃ n : Nat, n ≤ 255 ∧ iAnd .i64 a 255 = (n : Int) := by
 refine ⟨((BitVec.ofInt 64 a).toNat &&& 255), Nat.and_le_right, ?_⟩
 have e : (BitVec.ofInt 64 255).toNat = 255 := by decide
 have hle : (BitVec.ofInt 64 a).toNat &&& 255 ≤ 255 := Nat.and_le_right
 show IntKind.wrap .i64 (((BitVec.ofInt 64 a) &&& (BitVec.ofInt 64 255)).toNat : Int) = _
 rw [BitVec.toNat_and, e]
 exact wrap_i64 (by omega) (by omega)
theorem iRem_n (v n : Nat) : iRem (v : Int) (n : Int) = ((v % n : Nat) : Int) := rfl
abbrev Cs := Int × Int
def B20 (b : List UInt8) : Prop := b.length ≤ 1048576
theorem l1Byte_ok {b : List UInt8} {s : Cs} (hb : B20 b) (hs : 0 ≤ s.1) : ∃ (v : Nat) (s' : Cs), F_s_l1Byte (b, s) = some ((v : Int), s') ∧ v ≤ 255 ∧ 0 ≤ s'.1 := by
 obtain ⟨i, h⟩ := s
 simp only at hs
 obtain ⟨k, rfl⟩ := Int.eq_ofNat_of_zero_le hs
 unfold B20 at hb
 unfold F_s_l1Byte
 simp only
 by_cases hk : k < b.length
 ·rw [iLt_y (by simp only [lLen_def]; omega), cnd_t, idx_at hk, bnd_s, joinX_l]
  obtain ⟨n, h1, h2⟩ := iAnd_255 (iAdd .i64 (iAnd .i64 (iXor .i64 (iShr .i64 (iAdd .i64 (iMul .i64 h 6364136223846793005) 1442695040888963407) 33) (iShr .i64 (iAdd .i64 (iMul .i64 h 6364136223846793005) 1442695040888963407) 47)) 255) (iConv .i64 (y2i b[k])))
  refine ⟨n, _, by simp only [h2]; rfl, h1, ?_⟩
  simp only
  rw [iAdd_1 (by omega)]; omega
 ·rw [iLt_n (by simp only [lLen_def]; omega), cnd_f, joinX_l]
  obtain ⟨n, h1, h2⟩ := iAnd_255 (iXor .i64 (iShr .i64 (iAdd .i64 (iMul .i64 h 6364136223846793005) 1442695040888963407) 33) (iShr .i64 (iAdd .i64 (iMul .i64 h 6364136223846793005) 1442695040888963407) 47))
  exact ⟨n, _, by simp only [h2]; rfl, h1, by simp only; omega⟩
theorem l1Below_ok {b : List UInt8} {s : Cs} (n : Int) (hb : B20 b) (hs : 0 ≤ s.1) : ∃ (v : Nat) (s' : Cs), F_s_l1Below ((b, s), n) = some ((v : Int), s') ∧ (0 < n → (v : Int) < n) ∧ (n ≤ 0 → v = 0) ∧ 0 ≤ s'.1 := by
 obtain ⟨i, h⟩ := s
 unfold F_s_l1Below
 simp only
 by_cases h0 : n ≤ 0
 ·rw [iLe_y h0, cnd_t]
  exact ⟨0, (i, h), rfl, fun h => by omega, fun _ => rfl, hs⟩
 obtain ⟨m, rfl⟩ := Int.eq_ofNat_of_zero_le (show 0 ≤ n by omega)
 have hm : 0 < m := by omega
 rw [iLe_n (by omega), cnd_f]
 obtain ⟨v1, s1, e1, l1, k1⟩ := l1Byte_ok hb hs
 by_cases h1 : (m : Int) ≤ 256
 ·rw [iLe_y h1, cnd_t, e1, bnd_s, iNe_y (by omega), chk_t]
  simp only
  rw [iRem_n]
  exact ⟨v1 % m, (s1.1, s1.2), rfl, fun _ => by have := Nat.mod_lt v1 hm; omega, fun h => by omega, k1⟩
 ·rw [iLe_n (by omega), cnd_f, e1, bnd_s]
  obtain ⟨v2, s2, e2, l2, k2⟩ := l1Byte_ok (s := (s1.1, s1.2)) hb k1
  simp only [e2, bnd_s]
  obtain ⟨v3, s3, e3, l3, k3⟩ := l1Byte_ok (s := (s2.1, s2.2)) hb k2
  simp only [e3, bnd_s]
  rw [iNe_y (by omega), chk_t]
  have q1 : iMul .i64 (v1 : Int) 65536 = ((v1 * 65536 : Nat) : Int) := by rw [iMul_ok (by omega) (by omega)]; omega
  have q2 : iMul .i64 (v2 : Int) 256 = ((v2 * 256 : Nat) : Int) := by rw [iMul_ok (by omega) (by omega)]; omega
  rw [q1, q2, iAdd_n (by omega), iAdd_n (by omega), iRem_n]
  exact ⟨_, (s3.1, s3.2), rfl, fun _ => by have := Nat.mod_lt (v1 * 65536 + v2 * 256 + v3) hm; omega, fun h => by omega, k3⟩
theorem l1Once_ok {b : List UInt8} {s : Cs} (n : Int) (hb : B20 b) (hs : 0 ≤ s.1) : ∃ (v : Bool) (s' : Cs), F_s_l1Once ((b, s), n) = some (v, s') ∧ 0 ≤ s'.1 := by
 obtain ⟨v, s', e, _, _, k⟩ := l1Below_ok (s := (s.1, s.2)) n hb hs
 unfold F_s_l1Once
 simp only [e, bnd_s]
 exact ⟨_, _, rfl, k⟩
theorem l1New_ok {b : List UInt8} (hb : B20 b) : ∃ h : Int, F_s_l1New b = some h := by
  unfold F_s_l1New
  obtain ⟨r, h1, h, h2⟩ := loop_inv (step := S_s_l1New_0 b) (fun i (st : Int × Int) => st.2 = (i : Int)) b.length (fun r => ∃ h, r = .inl h)
    (fun i st hi h => by
      obtain ⟨p, q⟩ := st
      simp only at h
      subst h
      unfold S_s_l1New_0
      simp only
      rw [iLt_y (by simp only [lLen_def]; omega), cnd_t]
      by_cases h4 : (i : Int) < 4000
      · rw [iLt_y h4, cnd_t, idx_at hi, bnd_s]
        exact .inl ⟨_, rfl, by simp only; rw [iAdd_1 (by unfold B20 at hb; omega)]⟩
      · rw [iLt_n (by omega), cnd_f]
        exact .inr ⟨_, rfl, _, rfl⟩)
    (fun st h => by
      obtain ⟨p, q⟩ := st
      simp only at h
      subst h
      refine ⟨.inl p, ?_, p, rfl⟩
      unfold S_s_l1New_0
      simp only
      rw [iLt_n (by simp only [lLen_def]; omega), cnd_f])
    (iAdd .i64 953953 (lLen b), 0) rfl
  subst h2
  rw [h1, joinX_l]
  exact ⟨_, rfl⟩
theorem l1Bytes_ok {b : List UInt8} {s : Cs} (n : Nat) (hb : B20 b) (hs : 0 ≤ s.1) (hn : n ≤ 1048576) : ∃ (v : List UInt8) (s' : Cs), F_s_l1Bytes ((b, s), (n : Int)) = some (v, s') ∧ v.length = n ∧ 0 ≤ s'.1 := by
  unfold F_s_l1Bytes
  simp only
  obtain ⟨r, h1, v, s', h2, h3, h4⟩ := loop_inv (step := S_s_l1Bytes_0 ((b, s), (n : Int))) (fun i (st : Int × Int × List UInt8 × Int) => 0 ≤ st.1 ∧ st.2.2.1.length = i ∧ st.2.2.2 = (i : Int)) n (fun r => ∃ (v : List UInt8) (s' : Cs), r = .inl (s'.1, s'.2, v) ∧ v.length = n ∧ 0 ≤ s'.1)
    (fun i st hi h => by
      obtain ⟨p, q, w, j⟩ := st
      obtain ⟨k1, k2, k3⟩ := h
      simp only at k1 k2 k3
      subst k3
      obtain ⟨v1, s1, e1, l1, g1⟩ := l1Byte_ok (s := (p, q)) hb k1
      refine .inl ⟨(s1.1, s1.2, w ++ [u8 (iConv .u8 (v1 : Int))], ((i + 1 : Nat) : Int)), ?_, g1, by simp [k2], rfl⟩
      unfold S_s_l1Bytes_0
      simp only
      rw [iLt_y (by omega), cnd_t, e1, bnd_s, room_ok (by omega), chk_t, iAdd_1 (by omega)]
      rfl)
    (fun st h => by
      obtain ⟨p, q, w, j⟩ := st
      obtain ⟨k1, k2, k3⟩ := h
      simp only at k1 k2 k3
      subst k3
      refine ⟨.inl (p, q, w), ?_, w, (p, q), rfl, k2, k1⟩
      unfold S_s_l1Bytes_0
      simp only
      rw [iLt_n (by omega), cnd_f])
    (s.1, s.2, ([], 0)) ⟨hs, rfl, rfl⟩
  subst h2
  rw [h1, joinX_l]
  exact ⟨_, _, rfl, h3, h4⟩
theorem all_loop {α σ ρ : Type} {step : σ → Option (σ ⊕ ρ)} (st : Nat → σ) (x : List α) (p : α → Bool) (no yes : ρ)
  (hs : ∀ (i : Nat) (h : i < x.length), step (st i) = if p x[i] = true then some (.inl (st (i + 1))) else some (.inr no)) (he : step (st x.length) = some (.inr yes)) (s0 : σ) (h0 : s0 = st 0) :
  loopX step s0 = some (if x.all p = true then yes else no) := by
 rw [find_loop (step := step) st x (fun a => !p a) (fun _ => no) yes (fun i hi => by
  rw [hs i hi]
  cases p x[i] <;> rfl) he s0 h0]
 cases hq : x.findIdx? (fun a => !p a) with
 | none =>
  rw [List.findIdx?_eq_none_iff] at hq
  rw [if_pos (List.all_eq_true.2 fun a ha => by simpa using hq a ha)]
 | some i =>
  rw [List.findIdx?_eq_some_iff_getElem] at hq
  obtain ⟨h1, h2, _⟩ := hq
  rw [if_neg (fun h => by
   have := List.all_eq_true.1 h _ (List.getElem_mem h1)
   rw [this] at h2
   cases h2)]
theorem joinX_if {ρ : Type} (c : Prop) [Decidable c] (r : ρ) (k : Unit → Option ρ) : joinX (some (if c then (Sum.inl () : Unit ⊕ ρ) else .inr r)) k = if c then k () else some r := by
 split <;> rfl
def secB (b : List UInt8) : Bool := decide (b.length ≤ 120)
def wrB (m : Int) (w : Wr) : Bool := decide (0 ≤ w.1 ∧ w.1 ≤ m) && decide (w.2.length ≤ 120)
theorem devOk_eq (secs : List (List UInt8)) (cache : List Wr) (fuse : Int) : devOk secs cache fuse = (decide (1 ≤ (secs.length : Int) ∧ (secs.length : Int) ≤ 64) && decide ((cache.length : Int) ≤ 40) && decide (-1 ≤ fuse ∧ fuse ≤ 1000) && secs.all secB && cache.all (wrB ((secs.length : Int) - 1))) := by
 rw [Bool.eq_iff_iff]
 simp only [devOk, Bool.and_eq_true, decide_eq_true_eq, List.all_eq_true, secB, wrB]
 constructor
 ·rintro ⟨a, b, c, d, e⟩
  exact ⟨⟨⟨⟨⟨by omega, by omega⟩, by omega⟩, c⟩, d⟩, fun w hw => ⟨⟨(e w hw).1, (e w hw).2.1⟩, (e w hw).2.2⟩⟩
 ·rintro ⟨⟨⟨⟨a, b⟩, c⟩, d⟩, e⟩
  exact ⟨⟨by omega, by omega⟩, by omega, c, d, fun w hw => ⟨(e w hw).1.1, (e w hw).1.2, (e w hw).2⟩⟩
theorem i_DevOk {x : Dv} (h : SmD x) : F_i_DevOk x = some (devOk x.1 x.2.1 x.2.2.1) := by
 obtain ⟨secs, cache, fuse, down⟩ := x
 obtain ⟨h1, h2, h3, h4⟩ := h
 simp only at h1 h2 h3 h4
 have es : iSub .i64 (lLen secs) 1 = (secs.length : Int) - 1 := iSub_ok (by simp only [lLen_def]; omega) (by simp only [lLen_def]; omega)
 unfold F_i_DevOk
 simp only [lLen_def]
 rw [i_In, bnd_s, devOk_eq]
 by_cases ha : 1 ≤ (secs.length : Int) ∧ (secs.length : Int) ≤ 64
 case neg => rw [decide_eq_false ha, bNot_f, cnd_t]; simp
 rw [decide_eq_true ha, bNot_t, cnd_f]
 by_cases hb : (cache.length : Int) ≤ 40
 case neg => rw [iGt_y (by omega), cnd_t, decide_eq_false hb]; simp
 rw [iGt_n hb, cnd_f, decide_eq_true hb, i_In, bnd_s]
 by_cases hc : -1 ≤ fuse ∧ fuse ≤ 1000
 case neg => rw [decide_eq_false hc, bNot_f, cnd_t]; simp
 rw [decide_eq_true hc, bNot_t, cnd_f]
 rw [all_loop (step := S_i_DevOk_0 (secs, (cache, (fuse, down)))) (fun i => (i : Int)) secs secB (.inr false) (.inl ()) (fun i hi => by
  unfold S_i_DevOk_0
  simp only
  rw [iLt_y (by simp only [lLen_def]; omega), cnd_t, idx_at hi, bnd_s, iAdd_1 (by omega)]
  unfold secB
  by_cases hb : secs[i].length ≤ 120
  ·rw [iGt_n (by simp only [lLen_def]; omega), cnd_f, decide_eq_true hb, if_pos (by simp)]
  ·rw [iGt_y (by simp only [lLen_def]; omega), cnd_t, decide_eq_false hb, if_neg (by simp)]) (by
  unfold S_i_DevOk_0
  simp only
  rw [iLt_n (by simp only [lLen_def]; omega), cnd_f]) (0 : Int) rfl, joinX_if]
 split
 case isFalse hn =>
  have : secs.all secB = false := by simpa using hn
  rw [this]; simp
 rename_i hy
 rw [all_loop (step := S_i_DevOk_1 (secs, (cache, (fuse, down)))) (fun i => (i : Int)) cache (wrB ((secs.length : Int) - 1)) false true (fun i hi => by
  unfold S_i_DevOk_1
  simp only
  rw [iLt_y (by simp only [lLen_def]; omega), cnd_t, idx_at hi, bnd_s, es, i_In, bnd_s, iAdd_1 (by omega)]
  unfold wrB
  by_cases ha : 0 ≤ cache[i].1 ∧ cache[i].1 ≤ (secs.length : Int) - 1
  ·rw [decide_eq_true ha, bNot_t, cnd_f]
   by_cases hb : cache[i].2.length ≤ 120
   ·rw [iGt_n (by simp only [lLen_def]; omega), cnd_f, decide_eq_true hb, if_pos (by simp)]
   ·rw [iGt_y (by simp only [lLen_def]; omega), cnd_t, decide_eq_false hb, if_neg (by simp)]
  ·rw [decide_eq_false ha, bNot_f, cnd_t, if_neg (by simp)]) (by
  unfold S_i_DevOk_1
  simp only
  rw [iLt_n (by simp only [lLen_def]; omega), cnd_f]) (0 : Int) rfl, hy]
 cases cache.all (wrB ((secs.length : Int) - 1)) <;> simp
theorem i_Copy {x : Dv} (h : SmD x) : F_i_copyDev x = some x := by
 obtain ⟨secs, cache, fuse, down⟩ := x
 obtain ⟨h1, h2, h3, h4⟩ := h
 simp only at h1 h2 h3 h4
 unfold F_i_copyDev
 simp only
 rw [app_loop (step := S_i_copyDev_0 (secs, (cache, (fuse, down)))) (x := secs) (f := fun b => b) (l0 := []) (fun l i hi hl => by
  have := h2 _ (List.getElem_mem hi)
  simp only [List.length_nil, Nat.zero_add] at hl
  unfold S_i_copyDev_0
  simp only
  rw [iLt_y (by simp only [lLen_def]; omega), cnd_t, idx_at hi, bnd_s, joined1_ok (by omega), bnd_s, room_ok (by omega), chk_t, iAdd_1 (by omega)]
  rfl) (fun l => by
  unfold S_i_copyDev_0
  simp only
  rw [iLt_n (by simp only [lLen_def]; omega), cnd_f]), joinX_l]
 rw [app_loop (step := S_i_copyDev_1 (secs, (cache, (fuse, down)))) (x := cache) (f := fun b => b) (l0 := []) (fun l i hi hl => by
  have := h4 _ (List.getElem_mem hi)
  simp only [List.length_nil, Nat.zero_add] at hl
  unfold S_i_copyDev_1
  simp only
  rw [iLt_y (by simp only [lLen_def]; omega), cnd_t, idx_at hi, bnd_s, joined1_ok (by omega), bnd_s, room_ok (by omega), chk_t, iAdd_1 (by omega)]
  rfl) (fun l => by
  unfold S_i_copyDev_1
  simp only
  rw [iLt_n (by simp only [lLen_def]; omega), cnd_f]), joinX_l]
 simp
end
end Go.Vs
