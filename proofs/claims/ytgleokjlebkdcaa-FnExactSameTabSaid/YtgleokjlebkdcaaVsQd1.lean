import Derived.Test.YtgleokjlebkdcaaVsW5
import Derived.Test.YtgleokjlebkdcaaVsPd
set_option linter.all false
namespace Go.Vs
set_option linter.unusedVariables false
set_option linter.unusedSimpArgs false
noncomputable section
abbrev Cell := Int × List UInt8
theorem szByteS_ok {l : List UInt8} {k : Int} (h0 : 0 ≤ k) (hk : k ≤ 4611686018427387904) (hl : l.length ≤ 9223372036854775807) : SzR (F_l_szByteS (l, k)) k ((l.length : Int) ≤ k) := by
 have e : iSub .i64 k (lLen l) = k - l.length := iSub_ok (by simp only [lLen_def]; omega) (by simp only [lLen_def]; omega)
 exact (SzR.sub (P := True) h0 hk hl fun h => by simp only [e]; exact SzR.done).mono (Int.le_refl _) fun h => h.1
theorem toByteS_ok {x : List UInt8} (hl : x.length ≤ 140737488355328) : F_l_toByteS x = some x := by
 have : F_l_toByteS x = toLst (fun b => some b) 0 1 x := rfl
 rw [this]
 exact toLst_ok (by omega) (by omega) fun _ _ => rfl
theorem eqByteS_ok {x : List UInt8} (hl : x.length < 9223372036854775807) : F_l_eqByteS (x, x) = some true := by
 unfold F_l_eqByteS
 simp only [iNe_r, cnd_f]
 refine loop_exact (fun i => (i : Int)) x.length true ?_ ?_ 0 rfl
 ·intro i hi
  unfold S_l_eqByteS_0
  rw [iLt_y (by simp only [lLen_def]; omega), cnd_t, idx_at hi, bnd_s, bnd_s, iNe_r, cnd_f, iAdd_1 (by omega)]
 ·unfold S_l_eqByteS_0
  rw [iLt_n (by simp only [lLen_def]; omega), cnd_f]
theorem szCell_ok {c : Cell} {k : Int} (h0 : 0 ≤ k) (hk : k ≤ 4611686018427387904) (hl : c.2.length ≤ 9223372036854775807) : SzR (F_l_szCell (c, k)) k ((c.2.length : Int) ≤ k) := SzR.one h0 (szByteS_ok h0 hk hl)
theorem toCell_ok {c : Cell} (hl : c.2.length ≤ 140737488355328) : F_l_toCell c = some c := by
 unfold F_l_toCell; rw [toByteS_ok hl]; rfl
theorem eqCell_ok {c : Cell} (hl : c.2.length < 9223372036854775807) : F_l_eqCell (c, c) = some true := by
 unfold F_l_eqCell
 simp only [iNe_r, cnd_f, eqByteS_ok hl, bnd_s, bNot_t]
abbrev Row := List UInt8 × Cell × Cell × Int × Bool
def smR (B : Nat) (r : Row) : Prop := r.1.length ≤ B ∧ r.2.1.2.length ≤ B ∧ r.2.2.1.2.length ≤ B
theorem szRow_ok {r : Row} {k : Int} (h0 : 0 ≤ k) (hk : k ≤ 1048576) (hl : smR 9223372036854775807 r) : SzR (F_l_szRow (r, k)) k (smR 1048576 r) := by
 obtain ⟨a, b, c⟩ := hl
 have e : iSub .i64 k (lLen r.1) = k - r.1.length := iSub_ok (by simp only [lLen_def]; omega) (by simp only [lLen_def]; omega)
 unfold F_l_szRow
 refine (SzR.sub (P := r.2.1.2.length ≤ 1048576 ∧ r.2.2.1.2.length ≤ 1048576) h0 (by omega) a fun h => ?_).mono (Int.le_refl _) fun h => ⟨by have := h.1; omega, h.2⟩
 simp only [e]
 refine SzR.seq (by omega) ((szCell_ok (c := r.2.1) (by omega) (by omega) b).mono (Int.le_refl _) fun h => by omega) fun z hz hz2 => ?_
 exact SzR.one hz ((szCell_ok (c := r.2.2.1) hz (by omega) c).mono (Int.le_refl _) fun h => by omega)
theorem toRow_ok {r : Row} (h : smR 140737488355328 r) : F_l_toRow r = some r := by
 unfold F_l_toRow
 rw [toCell_ok (c := (r.2.1.1, r.2.1.2)) h.2.1, bnd_s, toCell_ok (c := (r.2.2.1.1, r.2.2.1.2)) h.2.2]; rfl
theorem eqRow_ok {r : Row} (h : smR 9223372036854775806 r) : F_l_eqRow (r, r) = some true := by
 have e1 := eqCell_ok (c := (r.2.1.1, r.2.1.2)) (Nat.lt_succ_of_le h.2.1)
 have e2 := eqCell_ok (c := (r.2.2.1.1, r.2.2.1.2)) (Nat.lt_succ_of_le h.2.2)
 unfold F_l_eqRow
 simp only [iNe_r, cnd_f, sEq_r, bNot_t, e1, e2, bnd_s, bNe_r]
theorem smR.mono {A B : Nat} {r : Row} (h : smR A r) (hab : A ≤ B) : smR B r := ⟨Nat.le_trans h.1 hab, Nat.le_trans h.2.1 hab, Nat.le_trans h.2.2 hab⟩
theorem sEq_d (a b : List UInt8) : sEq a b = (a == b) := rfl
theorem iEq_x (a b : Int) : iEq a b = decide (a = b) := by simp only [iEq]; rfl
def eqAll {α β : Type} (q : α → β → Bool) : List α → List β → Bool
 | a :: x, b :: y => q a b && eqAll q x y
 | _, _ => true
theorem same_loop {α β σ ρ : Type} {step : σ → Option (σ ⊕ ρ)} (st : Nat → σ) (x : List α) (y : List β) (q : α → β → Bool) (no yes : ρ) (hl : x.length = y.length)
  (hs : ∀ (i : Nat) (h : i < x.length) (h' : i < y.length), step (st i) = if q x[i] y[i] = true then some (.inl (st (i + 1))) else some (.inr no)) (he : step (st x.length) = some (.inr yes)) (s0 : σ) (h0 : s0 = st 0) :
  loopX step s0 = some (if eqAll q x y = true then yes else no) := by
 have key : ∀ (x' : List α) (y' : List β) (i : Nat), x.drop i = x' → y.drop i = y' → i ≤ x.length → loopX step (st i) = some (if eqAll q x' y' = true then yes else no) := by
  intro x'
  induction x' with
  | nil =>
   intro y' i h1 h2 hi
   have : i = x.length := by have := congrArg List.length h1; simp at this; omega
   subst this
   rw [loopX_eq, he]
   simp [eqAll]
  | cons a x' ih =>
   intro y' i h1 h2 hi
   have hi' : i < x.length := by have := congrArg List.length h1; simp at this; omega
   have hi2 : i < y.length := by omega
   rw [List.drop_eq_getElem_cons hi'] at h1
   rw [List.drop_eq_getElem_cons hi2] at h2
   simp only [List.cons.injEq] at h1
   obtain ⟨rfl, h1⟩ := h1
   subst h2
   rw [loopX_eq, hs i hi' hi2]
   cases hq : q x[i] y[i] with
   | true => rw [if_pos rfl]; simp only [eqAll, hq, Bool.true_and]; exact ih _ (i + 1) h1 rfl (by omega)
   | false => rw [if_neg (by simp)]; simp [eqAll, hq]
 rw [h0]
 exact key x y 0 rfl rfl (Nat.zero_le _)
abbrev Mark := Int × Int × Int
abbrev Tab := List Row × Int × List Mark
def smT (B : Nat) (t : Tab) : Prop := t.1.length ≤ B ∧ (∀ r ∈ t.1, smR B r) ∧ t.2.2.length ≤ B
theorem smT.mono {A B : Nat} {t : Tab} (h : smT A t) (hab : A ≤ B) : smT B t := ⟨Nat.le_trans h.1 hab, fun r hr => (h.2.1 r hr).mono hab, Nat.le_trans h.2.2 hab⟩
theorem szRowS_ok {l : List Row} {k : Int} (h0 : 0 ≤ k) (hk : k ≤ 1048576) (hl : l.length ≤ 9223372036854775807) (hr : ∀ r ∈ l, smR 9223372036854775807 r) : SzR (F_l_szRowS (l, k)) k (l.length ≤ 1048576 ∧ ∀ r ∈ l, smR 1048576 r) := by
 have e : F_l_szRowS (l, k) = szLst F_l_szRow (l, k) := rfl
 rw [e]
 refine (szLst_ok' (B := 1048576) h0 hk (by omega) hl (P := smR 1048576) fun e he k h0 hk => szRow_ok h0 hk (hr e he)).mono (Int.le_refl _) fun h => ⟨by omega, h.2⟩
theorem szTab_ok {t : Tab} {k : Int} (h0 : 0 ≤ k) (hk : k ≤ 1048576) (h : smT 9223372036854775807 t) : SzR (F_l_szTab (t, k)) k (smT 1048576 t) := by
 unfold F_l_szTab
 refine (SzR.seq h0 (szRowS_ok h0 hk h.1 h.2.1) (Q := t.2.2.length ≤ 1048576) fun z hz hz2 => ?_).mono (Int.le_refl _) fun h => ⟨h.1.1, h.1.2, h.2⟩
 have e : iSub .i64 z (lLen t.2.2) = z - t.2.2.length := iSub_ok (by have := h.2.2; simp only [lLen_def]; omega) (by simp only [lLen_def]; omega)
 have e2 : F_l_szMarkS (t.2.2, z) = cnd (iLt (iSub .i64 z (lLen t.2.2)) 0) (some (-1)) (some (iSub .i64 z (lLen t.2.2))) := rfl
 refine SzR.one hz ?_
 rw [e2]
 refine (SzR.sub (P := True) hz (by omega) h.2.2 fun h => by simp only [e]; exact SzR.done).mono (Int.le_refl _) fun h => by have := h.1; omega
theorem toTab_ok {t : Tab} (h : smT 1048576 t) : F_l_toTab t = some t := by
 have e1 : F_l_toRowS t.1 = some t.1 := by
  have : F_l_toRowS t.1 = toLst F_l_toRow ([], ((0, []), ((0, []), (0, false)))) 96 t.1 := rfl
  rw [this]
  exact toLst_ok (by have := h.1; omega) (by have := h.1; omega) fun r hr => toRow_ok ((h.2.1 r hr).mono (by decide))
 have e2 : F_l_toMarkS t.2.2 = some t.2.2 := by
  have : F_l_toMarkS t.2.2 = toLst F_l_toMark (0, (0, 0)) 24 t.2.2 := rfl
  rw [this]
  exact toLst_ok (by have := h.2.2; omega) (by have := h.2.2; omega) fun r hr => rfl
 unfold F_l_toTab
 rw [e1, bnd_s, e2]; rfl
theorem eqTab_ok {t : Tab} (h : smT 1048576 t) : F_l_eqTab (t, t) = some true := by
 have e1 : F_l_eqRowS (t.1, t.1) = some true := by
  have : F_l_eqRowS (t.1, t.1) = eqLst F_l_eqRow (t.1, t.1) := rfl
  rw [this]
  exact eqLst_ok (by have := h.1; omega) fun r hr => eqRow_ok ((h.2.1 r hr).mono (by decide))
 have e2 : F_l_eqMarkS (t.2.2, t.2.2) = some true := by
  have : F_l_eqMarkS (t.2.2, t.2.2) = eqLst F_l_eqMark (t.2.2, t.2.2) := rfl
  rw [this]
  exact eqLst_ok (by have := h.2.2; omega) fun r hr => by unfold F_l_eqMark; simp only [iNe_r, cnd_f]
 unfold F_l_eqTab
 simp only [e1, e2, bnd_s, bNot_t, cnd_f, iNe_r]
theorem okTab {t : Tab} (h : okT (.P (.L (.P .S (.P (.P (.I .i64) (.L .Y)) (.P (.P (.I .i64) (.L .Y)) (.P (.I .i64) .B))))) (.P (.I .i64) (.L (.P (.I .i64) (.P (.I .i64) (.I .i64)))))) t) : smT 9223372036854775807 t :=
 ⟨h.1.1, fun r hr => ⟨(h.1.2 r hr).1, (h.1.2 r hr).2.1.2.1, (h.1.2 r hr).2.2.1.2.1⟩, h.2.2.1⟩
def sameC (a b : Cell) : Bool := decide (a.1 = b.1) && (a.2 == b.2)
def sameRw (a b : Row) : Bool := (a.1 == b.1) && sameC a.2.1 b.2.1 && sameC a.2.2.1 b.2.2.1 && decide (a.2.2.2.1 = b.2.2.2.1) && (a.2.2.2.2 == b.2.2.2.2)
def sameM (a b : Mark) : Bool := decide (a.1 = b.1) && decide (a.2.1 = b.2.1) && decide (a.2.2 = b.2.2)
def sameTabB (a b : Tab) : Bool := decide (a.1.length = b.1.length) && eqAll sameRw a.1 b.1 && decide (a.2.1 = b.2.1) && decide (a.2.2.length = b.2.2.length) && eqAll sameM a.2.2 b.2.2
theorem sC_same {a b : Cell} : F_s_l12SameCell (a, b) = some (sameC a b) := by
 unfold F_s_l12SameCell sameC
 simp only [iEq_x, sEq_d]
 cases decide (a.1 = b.1) <;> rfl
theorem iC_same {a b : Cell} : F_i_sameCell (a, b) = some (sameC a b) := by
 unfold F_i_sameCell sameC
 simp only [iEq_x, sEq_d]
 cases decide (a.1 = b.1) <;> rfl
theorem sR_same {a b : Row} : F_s_l12SameRow (a, b) = some (sameRw a b) := by
 have e1 : F_s_l12SameCell ((a.2.1.1, a.2.1.2), (b.2.1.1, b.2.1.2)) = some (sameC a.2.1 b.2.1) := sC_same
 have e2 : F_s_l12SameCell ((a.2.2.1.1, a.2.2.1.2), (b.2.2.1.1, b.2.2.1.2)) = some (sameC a.2.2.1 b.2.2.1) := sC_same
 unfold F_s_l12SameRow sameRw
 simp only [iEq_x, sEq_d, e1, e2, bnd_s]
 cases (a.1 == b.1) <;> cases sameC a.2.1 b.2.1 <;> cases sameC a.2.2.1 b.2.2.1 <;> cases decide (a.2.2.2.1 = b.2.2.2.1) <;> rfl
theorem iR_same {a b : Row} : F_i_sameRow (a, b) = some (sameRw a b) := by
 have e1 : F_i_sameCell ((a.2.1.1, a.2.1.2), (b.2.1.1, b.2.1.2)) = some (sameC a.2.1 b.2.1) := iC_same
 have e2 : F_i_sameCell ((a.2.2.1.1, a.2.2.1.2), (b.2.2.1.1, b.2.2.1.2)) = some (sameC a.2.2.1 b.2.2.1) := iC_same
 unfold F_i_sameRow sameRw
 simp only [iEq_x, sEq_d, e1, e2, bnd_s]
 cases (a.1 == b.1) <;> cases sameC a.2.1 b.2.1 <;> cases sameC a.2.2.1 b.2.2.1 <;> cases decide (a.2.2.2.1 = b.2.2.2.1) <;> rfl
theorem zEq_mark (a b : Mark) : zEq [a.1, a.2.1, a.2.2] [b.1, b.2.1, b.2.2] = sameM a b := by
 unfold zEq sameM
 rw [Bool.eq_iff_iff]
 simp [and_assoc]
theorem s_SameTab {a b : Tab} (ha : smT 1048576 a) (hb : smT 1048576 b) : F_s_SameTab (a, b) = some (sameTabB a b) := by
 have h1 := ha.1
 have h2 := ha.2.2
 unfold F_s_SameTab sameTabB
 simp only
 by_cases e1 : a.1.length = b.1.length
 case neg => rw [iNe_y (by simp only [lLen_def]; omega), cnd_t]; simp [e1]
 rw [show iNe (lLen a.1) (lLen b.1) = false by simp only [lLen_def, e1, iNe_r], cnd_f]
 by_cases e2 : a.2.1 = b.2.1
 case neg => rw [iNe_y e2, cnd_t]; simp [e2]
 rw [e2, iNe_r, cnd_f]
 by_cases e3 : a.2.2.length = b.2.2.length
 case neg => rw [iNe_y (by simp only [lLen_def]; omega), cnd_t]; simp [e3]
 rw [show iNe (lLen a.2.2) (lLen b.2.2) = false by simp only [lLen_def, e3, iNe_r], cnd_f]
 rw [same_loop (step := S_s_SameTab_0 (a, b)) (fun i => (i : Int)) a.1 b.1 sameRw (.inr false) (.inl ()) e1 (fun i hi hi' => by
  have e : F_s_l12SameRow ((a.1[i].1, ((a.1[i].2.1.1, a.1[i].2.1.2), ((a.1[i].2.2.1.1, a.1[i].2.2.1.2), (a.1[i].2.2.2.1, a.1[i].2.2.2.2)))), (b.1[i].1, ((b.1[i].2.1.1, b.1[i].2.1.2), ((b.1[i].2.2.1.1, b.1[i].2.2.1.2), (b.1[i].2.2.2.1, b.1[i].2.2.2.2))))) = some (sameRw a.1[i] b.1[i]) := sR_same
  unfold S_s_SameTab_0
  simp only
  rw [iLt_y (by simp only [lLen_def]; omega), cnd_t, idx_at hi, bnd_s, idx_at hi', bnd_s, e, bnd_s, iAdd_1 (by omega)]
  cases sameRw a.1[i] b.1[i] <;> rfl) (by
  unfold S_s_SameTab_0
  simp only
  rw [iLt_n (by simp only [lLen_def]; omega), cnd_f]) (0 : Int) rfl]
 cases hq : eqAll sameRw a.1 b.1 with
 | false => simp only [Bool.false_eq_true, if_false]; simp [e1, joinX]
 | true =>
  simp only [if_true, joinX_l]
  rw [same_loop (step := S_s_SameTab_1 (a, b)) (fun i => (i : Int)) a.2.2 b.2.2 sameM false true e3 (fun i hi hi' => by
   unfold S_s_SameTab_1
   simp only
   rw [iLt_y (by simp only [lLen_def]; omega), cnd_t, idx_at hi, bnd_s, idx_at hi', bnd_s, zEq_mark, iAdd_1 (by omega)]
   cases sameM a.2.2[i] b.2.2[i] <;> rfl) (by
   unfold S_s_SameTab_1
   simp only
   rw [iLt_n (by simp only [lLen_def]; omega), cnd_f]) (0 : Int) rfl]
  simp [e1, e3]
theorem i_SameTab {a b : Tab} (ha : smT 1048576 a) (hb : smT 1048576 b) : F_i_SameTab (a, b) = some (sameTabB a b) := by
 have h1 := ha.1
 have h2 := ha.2.2
 have e5 : F_slices_EqualFunc_i_sameRow (a.1, b.1) = some (decide (a.1.length = b.1.length) && eqAll sameRw a.1 b.1) := by
  unfold F_slices_EqualFunc_i_sameRow
  simp only
  by_cases e1 : a.1.length = b.1.length
  case neg => rw [iNe_y (by simp only [lLen_def]; omega), cnd_t]; simp [e1]
  rw [show iNe (lLen a.1) (lLen b.1) = false by simp only [lLen_def, e1, iNe_r], cnd_f]
  rw [same_loop (step := S_slices_EqualFunc_i_sameRow_0 (a.1, b.1)) (fun i => (i : Int)) a.1 b.1 sameRw false true e1 (fun i hi hi' => by
   have e : F_i_sameRow ((a.1[i].1, ((a.1[i].2.1.1, a.1[i].2.1.2), ((a.1[i].2.2.1.1, a.1[i].2.2.1.2), (a.1[i].2.2.2.1, a.1[i].2.2.2.2)))), (b.1[i].1, ((b.1[i].2.1.1, b.1[i].2.1.2), ((b.1[i].2.2.1.1, b.1[i].2.2.1.2), (b.1[i].2.2.2.1, b.1[i].2.2.2.2))))) = some (sameRw a.1[i] b.1[i]) := iR_same
   unfold S_slices_EqualFunc_i_sameRow_0
   simp only
   rw [iLt_y (by simp only [lLen_def]; omega), cnd_t, idx_at hi, bnd_s, idx_at hi', bnd_s, e, bnd_s, iAdd_1 (by omega)]
   cases sameRw a.1[i] b.1[i] <;> rfl) (by
   unfold S_slices_EqualFunc_i_sameRow_0
   simp only
   rw [iLt_n (by simp only [lLen_def]; omega), cnd_f]) (0 : Int) rfl]
  simp [e1]
 have e6 : F_slices_Equal (a.2.2, b.2.2) = some (decide (a.2.2.length = b.2.2.length) && eqAll sameM a.2.2 b.2.2) := by
  unfold F_slices_Equal
  simp only
  by_cases e1 : a.2.2.length = b.2.2.length
  case neg => rw [iNe_y (by simp only [lLen_def]; omega), cnd_t]; simp [e1]
  rw [show iNe (lLen a.2.2) (lLen b.2.2) = false by simp only [lLen_def, e1, iNe_r], cnd_f]
  rw [same_loop (step := S_slices_Equal_0 (a.2.2, b.2.2)) (fun i => (i : Int)) a.2.2 b.2.2 sameM false true e1 (fun i hi hi' => by
   unfold S_slices_Equal_0
   simp only
   rw [iLt_y (by simp only [lLen_def]; omega), cnd_t, idx_at hi, bnd_s, idx_at hi', bnd_s, zEq_mark, iAdd_1 (by omega)]
   cases sameM a.2.2[i] b.2.2[i] <;> rfl) (by
   unfold S_slices_Equal_0
   simp only
   rw [iLt_n (by simp only [lLen_def]; omega), cnd_f]) (0 : Int) rfl]
  simp [e1]
 unfold F_i_SameTab sameTabB
 simp only [e5, e6, bnd_s, iEq_x]
 cases decide (a.1.length = b.1.length) <;> cases eqAll sameRw a.1 b.1 <;> cases decide (a.2.1 = b.2.1) <;> simp
theorem law_SameTab {x : Tab × Tab} (h : smT 9223372036854775807 x.1) (h' : smT 9223372036854775807 x.2) : F_l_FnExactSameTab x = some true := by
 obtain ⟨a, b⟩ := x
 simp only at h h'
 unfold F_l_FnExactSameTab
 simp only
 obtain ⟨z, h1, h2, h3⟩ := szTab_ok (t := a) (k := 1048576) (by omega) (by omega) h
 rw [show F_l_szTab ((a.1, (a.2.1, a.2.2)), 1048576) = some z from h1, bnd_s]
 by_cases hz : z < 0
 ·rw [iLt_y hz]; rfl
 have hs := h3 (by omega)
 rw [iLt_n (by omega), cnd_f]
 obtain ⟨z', h1', h2', h3'⟩ := szTab_ok (t := b) (k := z) (by omega) (by omega) h'
 rw [show F_l_szTab ((b.1, (b.2.1, b.2.2)), z) = some z' from h1', bnd_s]
 by_cases hz' : z' < 0
 ·rw [iLt_y hz']; rfl
 have hs' := h3' (by omega)
 rw [iLt_n (by omega), cnd_f]
 have e1 : F_l_toTab (a.1, (a.2.1, a.2.2)) = some a := toTab_ok hs
 have e1' : F_l_toTab (b.1, (b.2.1, b.2.2)) = some b := toTab_ok hs'
 have e2 : F_s_SameTab ((a.1, (a.2.1, a.2.2)), (b.1, (b.2.1, b.2.2))) = some (sameTabB a b) := s_SameTab hs hs'
 have e3 : F_i_SameTab ((a.1, (a.2.1, a.2.2)), (b.1, (b.2.1, b.2.2))) = some (sameTabB a b) := i_SameTab hs hs'
 have e4 : F_l_eqTab ((a.1, (a.2.1, a.2.2)), (a.1, (a.2.1, a.2.2))) = some true := eqTab_ok hs
 have e4' : F_l_eqTab ((b.1, (b.2.1, b.2.2)), (b.1, (b.2.1, b.2.2))) = some true := eqTab_ok hs'
 simp only [e1, e1', e2, e3, e4, e4', bnd_s, bNe_r, cnd_f, bNot_t]
end
end Go.Vs
