import Derived.Test.YtlndmcdpndcgjaaDoorVsW5
import Derived.Test.YtlndmcdpndcgjaaDoorVsQc6
set_option linter.all false
namespace Go.Vs
set_option linter.unusedVariables false
set_option linter.unusedSimpArgs false
noncomputable section
abbrev WrT := Int × List UInt8
abbrev Dev := List (List UInt8) × List WrT × Int × Bool
abbrev Store := Dev × Tab × Int × Int
def smD (B : Nat) (d : Dev) : Prop := d.1.length ≤ B ∧ (∀ s ∈ d.1, s.length ≤ B) ∧ d.2.1.length ≤ B ∧ ∀ w ∈ d.2.1, w.2.length ≤ B
def smS (B : Nat) (s : Store) : Prop := smD B s.1 ∧ smT B s.2.1
theorem smD.mono {A B : Nat} {d : Dev} (h : smD A d) (hab : A ≤ B) : smD B d := ⟨Nat.le_trans h.1 hab, fun s hs => Nat.le_trans (h.2.1 s hs) hab, Nat.le_trans h.2.2.1 hab, fun w hw => Nat.le_trans (h.2.2.2 w hw) hab⟩
theorem szDev_ok {d : Dev} {k : Int} (h0 : 0 ≤ k) (hk : k ≤ 1048576) (h : smD 9223372036854775807 d) : SzR (F_l_szDev (d, k)) k (smD 1048576 d) := by
 unfold F_l_szDev
 have e1 : F_l_szByteSS (d.1, k) = szLst F_l_szByteS (d.1, k) := rfl
 have e2 : ∀ z, F_l_szWrS (d.2.1, z) = szLst F_l_szWr (d.2.1, z) := fun z => rfl
 simp only [e1, e2]
 refine (SzR.seq h0 (szLst_ok' (B := 1048576) h0 hk (by omega) h.1 (P := fun s => s.length ≤ 1048576) fun e he k h0 hk => (szByteS_ok h0 (by omega) (h.2.1 e he)).mono (Int.le_refl _) fun h => by omega) (Q := d.2.1.length ≤ 1048576 ∧ ∀ w ∈ d.2.1, w.2.length ≤ 1048576) fun z hz hz2 => ?_).mono (Int.le_refl _) fun h => ⟨by have := h.1.1; omega, h.1.2, h.2.1, h.2.2⟩
 refine SzR.one hz ((szLst_ok' (B := 1048576) hz (by omega) (by omega) h.2.2.1 (P := fun w => w.2.length ≤ 1048576) fun e he k h0 hk => ?_).mono (Int.le_refl _) fun h => ⟨by have := h.1; omega, h.2⟩)
 unfold F_l_szWr
 exact SzR.one h0 ((szByteS_ok h0 (by omega) (h.2.2.2 e he)).mono (Int.le_refl _) fun h => by omega)
theorem toDev_ok {d : Dev} (h : smD 1048576 d) : F_l_toDev d = some d := by
 have e1 : F_l_toByteSS d.1 = some d.1 := by
  have : F_l_toByteSS d.1 = toLst F_l_toByteS [] 24 d.1 := rfl
  rw [this]
  exact toLst_ok (by have := h.1; omega) (by have := h.1; omega) fun r hr => toByteS_ok (by have := h.2.1 r hr; omega)
 have e2 : F_l_toWrS d.2.1 = some d.2.1 := by
  have : F_l_toWrS d.2.1 = toLst F_l_toWr (0, []) 32 d.2.1 := rfl
  rw [this]
  exact toLst_ok (by have := h.2.2.1; omega) (by have := h.2.2.1; omega) fun r hr => by
   unfold F_l_toWr
   rw [toByteS_ok (by have := h.2.2.2 r hr; omega)]; rfl
 unfold F_l_toDev
 rw [e1, bnd_s, e2]; rfl
theorem eqDev_ok {d : Dev} (h : smD 1048576 d) : F_l_eqDev (d, d) = some true := by
 have e1 : F_l_eqByteSS (d.1, d.1) = some true := by
  have : F_l_eqByteSS (d.1, d.1) = eqLst F_l_eqByteS (d.1, d.1) := rfl
  rw [this]
  exact eqLst_ok (by have := h.1; omega) fun r hr => eqByteS_ok (by have := h.2.1 r hr; omega)
 have e2 : F_l_eqWrS (d.2.1, d.2.1) = some true := by
  have : F_l_eqWrS (d.2.1, d.2.1) = eqLst F_l_eqWr (d.2.1, d.2.1) := rfl
  rw [this]
  exact eqLst_ok (by have := h.2.2.1; omega) fun r hr => by
   unfold F_l_eqWr
   simp only [iNe_r, cnd_f, eqByteS_ok (show r.2.length < 9223372036854775807 by have := h.2.2.2 r hr; omega), bnd_s, bNot_t]
 unfold F_l_eqDev
 simp only [e1, e2, bnd_s, bNot_t, cnd_f, iNe_r, bNe_r]
theorem szStore_ok {s : Store} {k : Int} (h0 : 0 ≤ k) (hk : k ≤ 1048576) (h : smS 9223372036854775807 s) : SzR (F_l_szStore (s, k)) k (smS 1048576 s) := by
 unfold F_l_szStore
 refine SzR.seq h0 (szDev_ok (d := s.1) h0 hk h.1) fun z hz hz2 => ?_
 exact SzR.one hz (szTab_ok (t := s.2.1) hz (by omega) h.2)
theorem toStore_ok {s : Store} (h : smS 1048576 s) : F_l_toStore s = some s := by
 unfold F_l_toStore
 rw [show F_l_toDev (s.1.1, (s.1.2.1, (s.1.2.2.1, s.1.2.2.2))) = some s.1 from toDev_ok h.1, bnd_s, show F_l_toTab (s.2.1.1, (s.2.1.2.1, s.2.1.2.2)) = some s.2.1 from toTab_ok h.2]; rfl
theorem eqStore_ok {s : Store} (h : smS 1048576 s) : F_l_eqStore (s, s) = some true := by
 have e1 : F_l_eqDev ((s.1.1, (s.1.2.1, (s.1.2.2.1, s.1.2.2.2))), (s.1.1, (s.1.2.1, (s.1.2.2.1, s.1.2.2.2)))) = some true := eqDev_ok h.1
 have e2 : F_l_eqTab ((s.2.1.1, (s.2.1.2.1, s.2.1.2.2)), (s.2.1.1, (s.2.1.2.1, s.2.1.2.2))) = some true := eqTab_ok h.2
 unfold F_l_eqStore
 simp only [e1, e2, bnd_s, bNot_t, cnd_f, iNe_r]
def devOk (d : Dev) : Bool := (decide (1 ≤ d.1.length ∧ d.1.length ≤ 64) && (decide (d.2.1.length ≤ 40) && decide (-1 ≤ d.2.2.1 ∧ d.2.2.1 ≤ 1000))) && (d.1.all (fun s => decide (s.length ≤ 120)) && d.2.1.all (fun w => decide (0 ≤ w.1 ∧ w.1 ≤ (d.1.length : Int) - 1) && decide (w.2.length ≤ 120)))
theorem all_loop {α ρ : Type} {ok : α → Bool} {l : List α} {step : Int → Option (Int ⊕ ρ)} {y n : ρ}
  (hs : ∀ (i : Nat) (h : i < l.length), step (i : Int) = some (if ok l[i] = true then .inl ((i : Int) + 1) else .inr n))
  (he : step (l.length : Int) = some (.inr y)) : loopX step 0 = some (if l.all ok = true then y else n) := by
 obtain ⟨r, h1, rfl⟩ := loop_inv (step := step) (fun i s => s = (i : Int) ∧ ∀ j (h : j < l.length), j < i → ok l[j] = true) l.length (fun r => r = if l.all ok = true then y else n) (by
  rintro i s hi ⟨rfl, h⟩
  rw [hs i hi]
  by_cases hc : ok l[i] = true
  ·left
   refine ⟨_, by rw [if_pos hc], by omega, fun j hj hji => ?_⟩
   rcases Nat.lt_succ_iff_lt_or_eq.1 hji with a | rfl
   ·exact h j hj a
   ·exact hc
  ·right
   refine ⟨_, by rw [if_neg hc], ?_⟩
   rw [if_neg]
   intro k
   exact hc (List.all_eq_true.1 k _ (List.getElem_mem hi))) (by
  rintro s ⟨rfl, h⟩
  refine ⟨_, he, ?_⟩
  rw [if_pos]
  refine List.all_eq_true.2 fun x hx => ?_
  obtain ⟨j, hj, rfl⟩ := List.getElem_of_mem hx
  exact h j hj hj) 0 ⟨rfl, fun j hj hji => by omega⟩
 exact h1
theorem s_dev0 {d : Dev} (h : smD 1048576 d) : loopX (S_s_DevOk_0 d) 0 = some (if d.1.all (fun s => decide (s.length ≤ 120)) = true then .inl () else .inr false) := by
 have hl := h.1
 refine all_loop (fun i hi => ?_) ?_
 ·unfold S_s_DevOk_0
  rw [iLt_y (by simp only [lLen_def]; omega), cnd_t, idx_at hi, bnd_s]
  by_cases hc : d.1[i].length ≤ 120
  ·rw [iGt_n (by simp only [lLen_def]; omega), cnd_f, decide_eq_true hc, iAdd_ok (by omega) (by omega)]; rfl
  ·rw [iGt_y (by simp only [lLen_def]; omega), cnd_t, decide_eq_false hc]; rfl
 ·unfold S_s_DevOk_0
  rw [iLt_n (by simp only [lLen_def]; omega), cnd_f]
theorem i_dev0 {d : Dev} (h : smD 1048576 d) : loopX (S_i_DevOk_0 d) 0 = some (if d.1.all (fun s => decide (s.length ≤ 120)) = true then .inl () else .inr false) := s_dev0 h
theorem s_dev1 {d : Dev} (h : smD 1048576 d) : loopX (S_s_DevOk_1 d) 0 = some (if d.2.1.all (fun w => decide (0 ≤ w.1 ∧ w.1 ≤ (d.1.length : Int) - 1) && decide (w.2.length ≤ 120)) = true then .inl () else .inr false) := by
 have hl := h.2.2.1
 have hn := h.1
 have e : iSub .i64 (lLen d.1) 1 = (d.1.length : Int) - 1 := iSub_ok (by simp only [lLen_def]; omega) (by simp only [lLen_def]; omega)
 refine all_loop (fun i hi => ?_) ?_
 ·unfold S_s_DevOk_1
  simp only [e, s_In]
  rw [iLt_y (by simp only [lLen_def]; omega), cnd_t, idx_at hi, bnd_s, bnd_s, bnd_s]
  cases decide (0 ≤ d.2.1[i].1 ∧ d.2.1[i].1 ≤ (d.1.length : Int) - 1) with
  | false => rfl
  | true =>
   rw [bNot_t, cnd_f, Bool.true_and]
   by_cases hc : d.2.1[i].2.length ≤ 120
   ·rw [iGt_n (by simp only [lLen_def]; omega), cnd_f, decide_eq_true hc, iAdd_ok (by omega) (by omega)]; rfl
   ·rw [iGt_y (by simp only [lLen_def]; omega), cnd_t, decide_eq_false hc]; rfl
 ·unfold S_s_DevOk_1
  rw [iLt_n (by simp only [lLen_def]; omega), cnd_f]
theorem i_dev1 {d : Dev} (h : smD 1048576 d) : loopX (S_i_DevOk_1 d) 0 = some (if d.2.1.all (fun w => decide (0 ≤ w.1 ∧ w.1 ≤ (d.1.length : Int) - 1) && decide (w.2.length ≤ 120)) = true then true else false) := by
 have hl := h.2.2.1
 have hn := h.1
 have e : iSub .i64 (lLen d.1) 1 = (d.1.length : Int) - 1 := iSub_ok (by simp only [lLen_def]; omega) (by simp only [lLen_def]; omega)
 refine all_loop (fun i hi => ?_) ?_
 ·unfold S_i_DevOk_1
  simp only [e, i_In]
  rw [iLt_y (by simp only [lLen_def]; omega), cnd_t, idx_at hi, bnd_s, bnd_s]
  cases decide (0 ≤ d.2.1[i].1 ∧ d.2.1[i].1 ≤ (d.1.length : Int) - 1) with
  | false => rfl
  | true =>
   rw [bNot_t, cnd_f, Bool.true_and]
   by_cases hc : d.2.1[i].2.length ≤ 120
   ·rw [iGt_n (by simp only [lLen_def]; omega), cnd_f, decide_eq_true hc, iAdd_ok (by omega) (by omega)]; rfl
   ·rw [iGt_y (by simp only [lLen_def]; omega), cnd_t, decide_eq_false hc]; rfl
 ·unfold S_i_DevOk_1
  rw [iLt_n (by simp only [lLen_def]; omega), cnd_f]
theorem len_64 {n : Nat} : decide ((1 : Int) ≤ (n : Int) ∧ (n : Int) ≤ 64) = decide (1 ≤ n ∧ n ≤ 64) := by rw [Bool.eq_iff_iff]; simp; omega
theorem len_40 {n : Nat} : iLe (n : Int) 40 = decide (n ≤ 40) ∧ iGt (n : Int) 40 = !decide (n ≤ 40) := by
 constructor
 ·simp only [iLe]; rw [Bool.eq_iff_iff]; simp; omega
 ·by_cases h : n ≤ 40
  ·rw [iGt_n (by omega), decide_eq_true h]; rfl
  ·rw [iGt_y (by omega), decide_eq_false h]; rfl
theorem s_DevOk {d : Dev} (h : smD 1048576 d) : F_s_DevOk d = some (devOk d) := by
 unfold F_s_DevOk devOk
 rw [s_dev0 h, s_dev1 h]
 simp only [s_In, lLen_def, len_64, len_40.1, cnd_and, bnd_s]
 generalize decide (1 ≤ d.1.length ∧ d.1.length ≤ 64) = a
 generalize decide (d.2.1.length ≤ 40) = b
 generalize decide (-1 ≤ d.2.2.1 ∧ d.2.2.1 ≤ 1000) = c
 generalize (d.1.all fun s => decide (s.length ≤ 120)) = e
 generalize (d.2.1.all fun w => decide (0 ≤ w.1 ∧ w.1 ≤ (d.1.length : Int) - 1) && decide (w.2.length ≤ 120)) = f
 cases a <;> cases b <;> cases c <;> cases e <;> cases f <;> rfl
theorem i_DevOk {d : Dev} (h : smD 1048576 d) : F_i_DevOk d = some (devOk d) := by
 unfold F_i_DevOk devOk
 rw [i_dev0 h, i_dev1 h]
 simp only [i_In, lLen_def, len_64, len_40.2, bnd_s]
 generalize decide (1 ≤ d.1.length ∧ d.1.length ≤ 64) = a
 generalize decide (d.2.1.length ≤ 40) = b
 generalize decide (-1 ≤ d.2.2.1 ∧ d.2.2.1 ≤ 1000) = c
 generalize (d.1.all fun s => decide (s.length ≤ 120)) = e
 generalize (d.2.1.all fun w => decide (0 ≤ w.1 ∧ w.1 ≤ (d.1.length : Int) - 1) && decide (w.2.length ≤ 120)) = f
 cases a <;> cases b <;> cases c <;> cases e <;> cases f <;> rfl
def storeOk (s : Store) : Bool := devOk s.1 && (decide (s.1.1.length = 62) && ((s.1.2.2.2 || decide (s.1.2.1.length = 0)) && (tabOk s.2.1 && (decide (1 ≤ s.2.2.1 ∧ s.2.2.1 ≤ 60000) && decide (0 ≤ s.2.2.2 ∧ s.2.2.2 ≤ 30)))))
theorem len_eq {n k : Nat} : decide ((n : Int) = (k : Int)) = decide (n = k) := by rw [Bool.eq_iff_iff]; simp; omega
theorem s_StoreOk {s : Store} (h : smS 1048576 s) : F_s_StoreOk s = some (storeOk s) := by
 have e1 : F_s_DevOk (s.1.1, (s.1.2.1, (s.1.2.2.1, s.1.2.2.2))) = some (devOk s.1) := s_DevOk h.1
 have e2 : F_s_TabOk (s.2.1.1, (s.2.1.2.1, s.2.1.2.2)) = some (tabOk s.2.1) := s_TabOk h.2
 unfold F_s_StoreOk storeOk
 simp only [e1, e2, s_In, lLen_def, bnd_s, cnd_and, iEq_d]
 rw [show decide ((s.1.1.length : Int) = 62) = decide (s.1.1.length = 62) from len_eq, show decide ((s.1.2.1.length : Int) = 0) = decide (s.1.2.1.length = 0) from len_eq]
 generalize devOk s.1 = a
 generalize decide (s.1.1.length = 62) = b
 generalize decide (s.1.2.1.length = 0) = c
 generalize tabOk s.2.1 = d
 generalize decide (1 ≤ s.2.2.1 ∧ s.2.2.1 ≤ 60000) = e
 generalize decide (0 ≤ s.2.2.2 ∧ s.2.2.2 ≤ 30) = f
 generalize s.1.2.2.2 = g
 cases a <;> cases b <;> cases c <;> cases d <;> cases g <;> rfl
theorem i_StoreOk {s : Store} (h : smS 1048576 s) : F_i_StoreOk s = some (storeOk s) := by
 have e1 : F_i_DevOk (s.1.1, (s.1.2.1, (s.1.2.2.1, s.1.2.2.2))) = some (devOk s.1) := i_DevOk h.1
 have e2 : F_i_TabOk (s.2.1.1, (s.2.1.2.1, s.2.1.2.2)) = some (tabOk s.2.1) := i_TabOk h.2
 unfold F_i_StoreOk storeOk
 simp only [e1, e2, i_In, lLen_def, bnd_s, cnd_and, iEq_d]
 rw [show decide ((s.1.1.length : Int) = 62) = decide (s.1.1.length = 62) from len_eq, show decide ((s.1.2.1.length : Int) = 0) = decide (s.1.2.1.length = 0) from len_eq]
 generalize devOk s.1 = a
 generalize decide (s.1.1.length = 62) = b
 generalize decide (s.1.2.1.length = 0) = c
 generalize tabOk s.2.1 = d
 generalize decide (1 ≤ s.2.2.1 ∧ s.2.2.1 ≤ 60000) = e
 generalize decide (0 ≤ s.2.2.2 ∧ s.2.2.2 ≤ 30) = f
 generalize s.1.2.2.2 = g
 cases a <;> cases b <;> cases c <;> cases d <;> cases g <;> rfl
theorem law_StoreOk {s : Store} (h : smS 9223372036854775807 s) : F_l_FnExactStoreOk s = some true := by
 obtain ⟨z, h1, h2, h3⟩ := szStore_ok (k := 1048576) (by omega) (by omega) h
 unfold F_l_FnExactStoreOk
 rw [show F_l_szStore (((s.1.1, (s.1.2.1, (s.1.2.2.1, s.1.2.2.2))), ((s.2.1.1, (s.2.1.2.1, s.2.1.2.2)), (s.2.2.1, s.2.2.2))), 1048576) = some z from h1, bnd_s]
 by_cases hz : z < 0
 ·rw [iLt_y hz]; rfl
 rw [iLt_n (by omega), cnd_f]
 have hs := h3 (by omega)
 have e1 : F_l_toStore ((s.1.1, (s.1.2.1, (s.1.2.2.1, s.1.2.2.2))), ((s.2.1.1, (s.2.1.2.1, s.2.1.2.2)), (s.2.2.1, s.2.2.2))) = some s := toStore_ok hs
 have e2 : F_s_StoreOk ((s.1.1, (s.1.2.1, (s.1.2.2.1, s.1.2.2.2))), ((s.2.1.1, (s.2.1.2.1, s.2.1.2.2)), (s.2.2.1, s.2.2.2))) = some (storeOk s) := s_StoreOk hs
 have e3 : F_i_StoreOk ((s.1.1, (s.1.2.1, (s.1.2.2.1, s.1.2.2.2))), ((s.2.1.1, (s.2.1.2.1, s.2.1.2.2)), (s.2.2.1, s.2.2.2))) = some (storeOk s) := i_StoreOk hs
 have e4 : F_l_eqStore (((s.1.1, (s.1.2.1, (s.1.2.2.1, s.1.2.2.2))), ((s.2.1.1, (s.2.1.2.1, s.2.1.2.2)), (s.2.2.1, s.2.2.2))), ((s.1.1, (s.1.2.1, (s.1.2.2.1, s.1.2.2.2))), ((s.2.1.1, (s.2.1.2.1, s.2.1.2.2)), (s.2.2.1, s.2.2.2)))) = some true := eqStore_ok hs
 simp only [e1, e2, e3, e4, bnd_s, cnd_f, bNot_t, bNe_r]
end
end Go.Vs
