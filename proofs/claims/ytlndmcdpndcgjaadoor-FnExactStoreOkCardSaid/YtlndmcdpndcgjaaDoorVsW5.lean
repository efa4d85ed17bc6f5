import Derived.OpenShut
import Derived.LaidMore
import Derived.Test.YtlndmcdpndcgjaaDoorVsW4
import Derived.Test.YtlndmcdpndcgjaaDoorVsW2
set_option linter.all false
namespace Go.Vs
variable [Glb]
set_option linter.unusedVariables false
set_option linter.unusedSimpArgs false
noncomputable section
theorem wrap_i64 {n : Int} (h1 : -9223372036854775808 ≤ n) (h2 : n < 9223372036854775808) : IntKind.i64.wrap n = n := by
 have e1 : IntKind.i64.bits = 64 := rfl
 have e2 : IntKind.i64.signed = true := rfl
 simp only [IntKind.wrap, e1, e2, Bool.true_and, Nat.reduceSub, decide_eq_true_eq]
 have e3 : ((2 : Int) ^ 64) = 18446744073709551616 := by decide
 have e4 : ((2 : Int) ^ 63) = 9223372036854775808 := by decide
 rw [e3, e4]
 by_cases h : 0 ≤ n
 ·have : n % 18446744073709551616 = n := Int.emod_eq_of_lt h (by omega)
  rw [this, if_neg (by omega)]
 ·have : n % 18446744073709551616 = n + 18446744073709551616 := by omega
  rw [this, if_pos (by omega)]; omega
theorem iAdd_ok {a b : Int} (h1 : -9223372036854775808 ≤ a + b) (h2 : a + b < 9223372036854775808) : iAdd .i64 a b = a + b := wrap_i64 h1 h2
theorem iSub_ok {a b : Int} (h1 : -9223372036854775808 ≤ a - b) (h2 : a - b < 9223372036854775808) : iSub .i64 a b = a - b := wrap_i64 h1 h2
theorem iAdd_n {i n : Nat} (h : i + n < 9223372036854775808) : iAdd .i64 (i : Int) (n : Int) = ((i + n : Nat) : Int) := by
 rw [iAdd_ok (by omega) (by omega)]; omega
theorem iAdd_1 {i : Nat} (h : i < 9223372036854775807) : iAdd .i64 (i : Int) 1 = ((i + 1 : Nat) : Int) := iAdd_n (n := 1) (by omega)
@[simp] theorem nOf_n (i : Nat) : nOf (i : Int) = i := by simp [nOf]
@[simp] theorem idx_n {α : Type} (xs : List α) (i : Nat) : idx xs (i : Int) = xs[i]? := by simp [idx]
@[simp] theorem idx_ofNat {α : Type} (xs : List α) (i : Nat) : idx xs (Int.ofNat i) = xs[i]? := idx_n xs i
theorem idx_at {α : Type} {xs : List α} {i : Nat} (h : i < xs.length) : idx xs (i : Int) = some xs[i] := by rw [idx_n, List.getElem?_eq_getElem h]
@[simp] theorem bnd_s {α β : Type} (x : α) (f : α → Option β) : bnd (some x) f = f x := rfl
@[simp] theorem chk_t {β : Type} (k : Option β) : chk true k = k := rfl
@[simp] theorem cnd_t {β : Type} (x y : Option β) : cnd true x y = x := rfl
@[simp] theorem cnd_f {β : Type} (x y : Option β) : cnd false x y = y := rfl
@[simp] theorem joinX_l {σ ρ : Type} (s : σ) (f : σ → Option ρ) : joinX (some (.inl s)) f = f s := rfl
@[simp] theorem joinX_r {σ ρ : Type} (r : ρ) (f : σ → Option ρ) : joinX (some (.inr r)) f = some r := rfl
@[simp] theorem outX_s {σ ρ : Type} (r : ρ) : outX (σ := σ) (some r) = some (.inr r) := rfl
@[simp] theorem sel2_t {α : Type} (x y : α) : sel2 true x y = x := rfl
@[simp] theorem sel2_f {α : Type} (x y : α) : sel2 false x y = y := rfl
@[simp] theorem iEq_r (a : Int) : iEq a a = true := by simp [iEq]
@[simp] theorem iNe_r (a : Int) : iNe a a = false := by simp [iNe]
@[simp] theorem sEq_r (a : List UInt8) : sEq a a = true := by simp [sEq]
@[simp] theorem bNe_r (a : Bool) : bNe a a = false := by simp [bNe]
@[simp] theorem bNot_t : bNot true = false := rfl
@[simp] theorem bNot_f : bNot false = true := rfl
@[simp] theorem nEq_r (a : Nat) : nEq a a = true := by simp [nEq]
theorem iLt_y {a b : Int} (h : a < b) : iLt a b = true := by simp [iLt, h]
theorem iLt_n {a b : Int} (h : b ≤ a) : iLt a b = false := by simp [iLt]; omega
theorem iGt_y {a b : Int} (h : b < a) : iGt a b = true := by simp [iGt, h]
theorem iGt_n {a b : Int} (h : a ≤ b) : iGt a b = false := by simp [iGt]; omega
theorem iLe_y {a b : Int} (h : a ≤ b) : iLe a b = true := by simp [iLe, h]
theorem iLe_n {a b : Int} (h : b < a) : iLe a b = false := by simp [iLe]; omega
theorem iGe_y {a b : Int} (h : b ≤ a) : iGe a b = true := by simp [iGe, h]
theorem iGe_n {a b : Int} (h : a < b) : iGe a b = false := by simp [iGe]; omega
theorem iEq_n {a b : Int} (h : a ≠ b) : iEq a b = false := by simp [iEq, h]
theorem iNe_y {a b : Int} (h : a ≠ b) : iNe a b = true := by simp [iNe, h]
theorem room_ok {n sz : Nat} (h : n * sz ≤ 140737488355328) : room n sz = true := by simp [room, h]
theorem mkOk_ok {n m : Nat} (h : n * m ≤ 140737488355328) (h2 : n ≤ 9223372036854775807) : mkOk (n : Int) m = true := by
 simp only [mkOk, decide_eq_true_eq]
 refine ⟨by omega, ?_, by omega⟩
 have : (n : Int) * (m : Int) = ((n * m : Nat) : Int) := by simp
 omega
@[simp] theorem lLen_def {α : Type} (xs : List α) : lLen xs = (xs.length : Int) := rfl
@[simp] theorem lSet_len {α : Type} (l : List α) (n : Nat) (x : α) : (lSet l n x).length = l.length := by simp [lSet]
@[simp] theorem lSet_lSet {α : Type} (l : List α) (n : Nat) (x y : α) : lSet (lSet l n x) n y = lSet l n y := by simp [lSet]
theorem loop_inv {σ ρ : Type} {step : σ → Option (σ ⊕ ρ)} (inv : Nat → σ → Prop) (n : Nat) (Q : ρ → Prop) (hs : ∀ i s, i < n → inv i s → (∃ s', step s = some (.inl s') ∧ inv (i + 1) s') ∨ ∃ r, step s = some (.inr r) ∧ Q r) (he : ∀ s, inv n s → ∃ r, step s = some (.inr r) ∧ Q r) (s0 : σ) (h0 : inv 0 s0) : ∃ r, loopX step s0 = some r ∧ Q r := by
 have key : ∀ k i s, n - i = k → i ≤ n → inv i s → ∃ r, loopX step s = some r ∧ Q r := by
  intro k
  induction k with
  | zero =>
   intro i s hk hi h
   have : i = n := by omega
   subst this
   obtain ⟨r, h1, h2⟩ := he s h
   exact ⟨r, by rw [loopX_eq, h1], h2⟩
  | succ k ih =>
   intro i s hk hi h
   rcases hs i s (by omega) h with ⟨s', h1, h2⟩ | ⟨r, h1, h2⟩
   ·obtain ⟨r, h3, h4⟩ := ih (i + 1) s' (by omega) (by omega) h2
    exact ⟨r, by rw [loopX_eq, h1]; exact h3, h4⟩
   ·exact ⟨r, by rw [loopX_eq, h1], h2⟩
 exact key n 0 s0 (by omega) (by omega) h0
theorem loop_exact {σ ρ : Type} {step : σ → Option (σ ⊕ ρ)} (st : Nat → σ) (n : Nat) (r : ρ) (hs : ∀ i, i < n → step (st i) = some (.inl (st (i + 1)))) (he : step (st n) = some (.inr r)) (s0 : σ) (h0 : s0 = st 0) : loopX step s0 = some r := by
 obtain ⟨r', h1, h2⟩ := loop_inv (step := step) (fun i s => s = st i) n (fun x => x = r) (fun i s hi h => .inl ⟨_, by rw [h]; exact hs i hi, rfl⟩) (fun s h => ⟨r, by rw [h]; exact he, rfl⟩) s0 h0
 rw [h1, h2]
def SzR (o : Option Int) (k : Int) (P : Prop) : Prop := ∃ z, o = some z ∧ z ≤ k ∧ (0 ≤ z → P)
theorem SzR.done {k : Int} : SzR (some k) k True := ⟨k, rfl, Int.le_refl _, fun _ => trivial⟩
theorem SzR.mono {o : Option Int} {k k' : Int} {P Q : Prop} (h : SzR o k P) (hk : k ≤ k') (hp : P → Q) : SzR o k' Q := by
 obtain ⟨z, a, b, c⟩ := h
 exact ⟨z, a, by omega, fun h => hp (c h)⟩
theorem SzR.sub {α : Type} {l : List α} {k : Int} {rest : Option Int} {P : Prop} (h0 : 0 ≤ k) (hk : k ≤ 4611686018427387904) (hl : l.length ≤ 9223372036854775807) (h : (l.length : Int) ≤ k → SzR rest (k - l.length) P) : SzR (cnd (iLt (iSub .i64 k (lLen l)) 0) (some (-1)) rest) k ((l.length : Int) ≤ k ∧ P) := by
 have e : iSub .i64 k (lLen l) = k - l.length := iSub_ok (by simp only [lLen_def]; omega) (by simp only [lLen_def]; omega)
 rw [e]
 by_cases hh : (l.length : Int) ≤ k
 ·rw [iLt_n (by omega)]
  obtain ⟨z, a, b, c⟩ := h hh
  exact ⟨z, a, by omega, fun h => ⟨hh, c h⟩⟩
 ·rw [iLt_y (by omega)]
  exact ⟨-1, rfl, by omega, fun h => by omega⟩
theorem SzR.seq {o : Option Int} {k : Int} {P Q : Prop} {f : Int → Option Int} (h0 : 0 ≤ k) (h : SzR o k P) (hf : ∀ z, 0 ≤ z → z ≤ k → SzR (f z) z Q) : SzR (bnd o fun z => cnd (iLt z 0) (some (-1)) (f z)) k (P ∧ Q) := by
 obtain ⟨z, rfl, b, c⟩ := h
 simp only [bnd_s]
 by_cases hz : 0 ≤ z
 ·rw [iLt_n hz]
  obtain ⟨y, d, e, g⟩ := hf z hz b
  exact ⟨y, d, by omega, fun h => ⟨c hz, g h⟩⟩
 ·rw [iLt_y (by omega)]
  exact ⟨-1, rfl, by omega, fun h => by omega⟩
theorem SzR.one {o : Option Int} {k : Int} {P : Prop} (h0 : 0 ≤ k) (h : SzR o k P) : SzR (bnd o fun z => cnd (iLt z 0) (some (-1)) (some z)) k P := by
 obtain ⟨z, rfl, b, c⟩ := h
 simp only [bnd_s]
 by_cases hz : 0 ≤ z
 ·rw [iLt_n hz]; exact ⟨z, rfl, b, c⟩
 ·rw [iLt_y (by omega)]; exact ⟨-1, rfl, by omega, fun h => by omega⟩
def szLst {α : Type} (g : α × Int → Option Int) (x : List α × Int) : Option Int := cnd (iLt (iSub .i64 x.2 (lLen x.1)) 0) (some (-1)) (joinX (loopX (fun (z1 : Int × Int) => cnd (iLt z1.2 (lLen x.1)) (bnd (idx x.1 z1.2) fun e => bnd (g (e, z1.1)) fun z3 => cnd (iLt z3 0) (some (.inr (.inr (-1)))) (some (.inl (z3, iAdd .i64 z1.2 1)))) (some (.inr (.inl z1.1)))) (iSub .i64 x.2 (lLen x.1), 0)) fun z1 => some z1)
theorem szLst_ok' {α : Type} {g : α × Int → Option Int} {P : α → Prop} {x : List α} {k B : Int} (h0 : 0 ≤ k) (hk : k ≤ B) (hB : B ≤ 4611686018427387904) (hl : x.length ≤ 9223372036854775807) (hg : ∀ e ∈ x, ∀ k, 0 ≤ k → k ≤ B → SzR (g (e, k)) k (P e)) : SzR (szLst g (x, k)) k ((x.length : Int) ≤ k ∧ ∀ e ∈ x, P e) := by
  unfold szLst
  refine SzR.sub h0 (by omega) hl fun hle => ?_
  have e : iSub .i64 k (lLen x) = k - x.length := iSub_ok (by simp only [lLen_def]; omega) (by simp only [lLen_def]; omega)
  obtain ⟨r, h1, h2⟩ := loop_inv (step := fun (z1 : Int × Int) => cnd (iLt z1.2 (lLen x)) (bnd (idx x z1.2) fun e => bnd (g (e, z1.1)) fun z3 => cnd (iLt z3 0) (some (.inr (.inr (-1)))) (some (.inl (z3, iAdd .i64 z1.2 1)))) (some (.inr (.inl z1.1)))) (ρ := Int ⊕ Int)
    (fun i s => s.2 = (i : Int) ∧ 0 ≤ s.1 ∧ s.1 ≤ k - x.length ∧ ∀ e ∈ x.take i, P e) x.length (fun r => SzR (joinX (some r) fun z => some z) (k - x.length) (∀ e ∈ x, P e)) (by
      rintro i ⟨z, j⟩ hi ⟨rfl, hz0, hzk, hp⟩
      simp only at hz0 hzk hp ⊢
      rw [iLt_y (by simp only [lLen_def]; omega), cnd_t, idx_at hi, bnd_s]
      obtain ⟨y, h1, h2, h3⟩ := hg x[i] (List.getElem_mem hi) z hz0 (by omega)
      rw [h1, bnd_s]
      by_cases hy : 0 ≤ y
      · rw [iLt_n hy, cnd_f]
        left
        refine ⟨_, rfl, iAdd_1 (by omega), hy, by simp only; omega, ?_⟩
        intro e he
        rw [List.take_succ_eq_append_getElem hi] at he
        rcases List.mem_append.1 he with he | he
        · exact hp e he
        · rw [List.mem_singleton] at he; subst he; exact h3 hy
      · rw [iLt_y (by omega), cnd_t]
        right
        exact ⟨_, rfl, -1, rfl, by omega, fun h => by omega⟩)
    (by
      rintro ⟨z, j⟩ ⟨rfl, hz0, hzk, hp⟩
      simp only at hz0 hzk hp ⊢
      rw [iLt_n (by simp only [lLen_def]; omega), cnd_f]
      exact ⟨_, rfl, z, rfl, hzk, fun _ => by rw [List.take_length] at hp; exact hp⟩) (iSub .i64 k (lLen x), 0) ⟨rfl, by simp only [e]; simp only at hle; omega, by simp only [e]; exact Int.le_refl _, by simp⟩
  simp only; rw [h1]; exact h2
def toLst {α : Type} (g : α → Option α) (d : α) (bytes : Nat) (x : List α) : Option (List α) := chk (iEq (lLen x) (lLen x)) (chk (mkOk (lLen x) bytes) (joinX (loopX (fun (z1 : List α × Int) => cnd (iLt z1.2 (lLen x)) (bnd (idx x z1.2) fun z2 => bnd (g z2) fun z3 => bnd (idx z1.1 z1.2) fun z4 => some (.inl (lSet z1.1 (nOf z1.2) z3, iAdd .i64 z1.2 1))) (some (.inr (.inl z1.1)))) (lRep (nOf (lLen x)) d, 0)) fun z1 => some z1))
theorem toLst_ok {α : Type} {g : α → Option α} {d : α} {bytes : Nat} {x : List α} (hl : x.length * bytes ≤ 140737488355328) (hl2 : x.length < 9223372036854775807) (hg : ∀ e ∈ x, g e = some e) : toLst g d bytes x = some x := by
 unfold toLst
 rw [iEq_r, chk_t, lLen_def, mkOk_ok hl (by omega), chk_t]
 rw [loop_exact (fun i => (x.take i ++ List.replicate (x.length - i) d, (i : Int))) x.length (.inl x)]
 ·rfl
 ·intro i hi
  simp only
  rw [iLt_y (by omega), cnd_t, idx_at hi, bnd_s, hg _ (List.getElem_mem hi), bnd_s, idx_n]
  have hlen : (x.take i ++ List.replicate (x.length - i) d).length = x.length := by simp; omega
  rw [List.getElem?_eq_getElem (by rw [hlen]; exact hi), bnd_s, nOf_n, iAdd_1 (by omega)]
  congr 3
  have e1 : x.length - i = (x.length - (i + 1)) + 1 := by omega
  rw [lSet, e1, List.replicate_succ, List.take_succ_eq_append_getElem hi, List.append_assoc]
  rw [List.set_append_right _ _ (by simp; omega)]
  have e2 : i - (x.take i).length = 0 := by simp; omega
  rw [e2]; rfl
 ·simp only
  rw [iLt_n (by omega), cnd_f]
  simp
 ·simp [lRep]
def eqLst {α : Type} (g : α × α → Option Bool) (x : List α × List α) : Option Bool := cnd (iNe (lLen x.1) (lLen x.2)) (some false) (loopX (fun (z1 : Int) => cnd (iLt z1 (lLen x.1)) (bnd (idx x.1 z1) fun z2 => bnd (idx x.2 z1) fun z3 => bnd (g (z2, z3)) fun z4 => cnd (bNot z4) (some (.inr false)) (some (.inl (iAdd .i64 z1 1)))) (some (.inr true))) 0)
theorem eqLst_ok {α : Type} {g : α × α → Option Bool} {x : List α} (hl : x.length < 9223372036854775807) (hg : ∀ e ∈ x, g (e, e) = some true) : eqLst g (x, x) = some true := by
 unfold eqLst
 simp only [iNe_r, cnd_f]
 refine loop_exact (fun i => (i : Int)) x.length true ?_ ?_ 0 rfl
 ·intro i hi
  rw [iLt_y (by simp only [lLen_def]; omega), cnd_t, idx_at hi, bnd_s, bnd_s, hg _ (List.getElem_mem hi), bnd_s, bNot_t, cnd_f, iAdd_1 (by omega)]
 ·rw [iLt_n (by simp only [lLen_def]; omega), cnd_f]
def Chain {α : Type} (H : Int → α → Int → Prop) : Int → List α → Int → Prop
 | m, [], m' => m = m'
 | m, a :: l, m' => ∃ k, H m a k ∧ Chain H k l m'
theorem Chain.snoc {α : Type} {H : Int → α → Int → Prop} : ∀ {l : List α} {m k m' : Int} {a : α}, Chain H m l k → H k a m' → Chain H m (l ++ [a]) m'
 | [], m, k, m', a, h, h2 => by simp only [Chain] at h; subst h; exact ⟨m', h2, rfl⟩
 | b :: l, m, k, m', a, ⟨j, h, h1⟩, h2 => ⟨j, h, h1.snoc h2⟩
theorem mark_loop {α ρ : Type} {H : Int → α → Int → Prop} {K : Int} {x : List α} {m0 : Int} {step : List α × Int × Int → Option ((List α × Int × Int) ⊕ ((List α × Int) ⊕ ρ))} (hl : x.length < 9223372036854775807) (hK : 0 ≤ K)
    (hb : ∀ (l : List α) (m : Int) (i : Nat) (h : i < x.length) (hl : l.length = x.length), l[i]? = some x[i] → m0 ≤ m → m ≤ m0 + K * i → ∃ a m', step (l, (m, (i : Int))) = some (.inl (lSet l i a, (m', (i : Int) + 1))) ∧ H m a m' ∧ m ≤ m' ∧ m' ≤ m + K)
    (he : ∀ (l : List α) (m : Int), l.length = x.length → step (l, (m, (x.length : Int))) = some (.inr (.inl (l, m)))) :
    ∃ l' m', loopX step (x, (m0, 0)) = some (.inl (l', m')) ∧ Chain H m0 l' m' ∧ l'.length = x.length ∧ m0 ≤ m' ∧ m' ≤ m0 + K * x.length := by
  obtain ⟨r, h1, l', m', rfl, h2⟩ := loop_inv (step := step)
    (fun i s => s.2.2 = (i : Int) ∧ s.1.length = x.length ∧ s.1.drop i = x.drop i ∧ Chain H m0 (s.1.take i) s.2.1 ∧ m0 ≤ s.2.1 ∧ s.2.1 ≤ m0 + K * i) x.length (fun r => ∃ l' m', r = .inl (l', m') ∧ Chain H m0 l' m' ∧ l'.length = x.length ∧ m0 ≤ m' ∧ m' ≤ m0 + K * x.length) (by
      rintro i ⟨l, m, j⟩ hi ⟨rfl, h1, h2, h3, h4, h5⟩
      simp only at h1 h2 h3 h4 h5 ⊢
      have hli : i < l.length := by omega
      have e0 : l[i]? = some x[i] := by
        have e1 : (l.drop i)[0]? = (x.drop i)[0]? := by rw [h2]
        rw [List.getElem?_drop, List.getElem?_drop, Nat.add_zero, List.getElem?_eq_getElem hi] at e1
        exact e1
      obtain ⟨a, m', b1, b2, b3, b4⟩ := hb l m i hi h1 e0 h4 h5
      rw [b1]
      left
      refine ⟨_, rfl, by simp only; omega, by simp [h1], ?_, ?_, by simp only; omega, ?_⟩
      · simp only [lSet]
        rw [List.drop_set_of_lt (by omega), ← List.drop_drop, h2, List.drop_drop]
      · simp only [lSet]
        rw [List.take_succ_eq_append_getElem (by simp; omega), List.take_set_of_le (by omega), List.getElem_set_self]
        exact h3.snoc b2
      · simp only
        have : K * ((i + 1 : Nat) : Int) = K * i + K := by
          rw [Int.natCast_add, Int.mul_add]; simp
        omega)
    (by
      rintro ⟨l, m, j⟩ ⟨rfl, h1, h2, h3, h4, h5⟩
      simp only at h1 h2 h3 h4 h5 ⊢
      refine ⟨_, he l m h1, l, m, rfl, ?_, h1, h4, h5⟩
      rw [← h1, List.take_length] at h3
      exact h3) (x, (m0, 0)) ⟨rfl, rfl, rfl, rfl, Int.le_refl _, by simp⟩
  exact ⟨l', m', h1, h2⟩
theorem held_loop {α ρ : Type} {H : Int → α → Int → Prop} {l : List α} {m0 m1 : Int} {step : Int × Int → Option ((Int × Int) ⊕ (Int ⊕ ρ))} (hl : l.length < 9223372036854775807) (hc : Chain H m0 l m1)
    (hb : ∀ (m m' : Int) (i : Nat) (h : i < l.length), H m l[i] m' → step (m, (i : Int)) = some (.inl (m', (i : Int) + 1))) (he : ∀ m, step (m, (l.length : Int)) = some (.inr (.inl m))) :
    loopX step (m0, 0) = some (.inl m1) := by
  obtain ⟨r, h1, h2⟩ := loop_inv (step := step)
    (fun i s => s.2 = (i : Int) ∧ Chain H s.1 (l.drop i) m1) l.length (fun r => r = .inl m1) (by
      rintro i ⟨m, j⟩ hi ⟨rfl, h⟩
      simp only at h ⊢
      rw [List.drop_eq_getElem_cons hi] at h
      obtain ⟨k, h3, h4⟩ := h
      rw [hb m k i hi h3]
      exact .inl ⟨_, rfl, by simp only; omega, h4⟩)
    (by
      rintro ⟨m, j⟩ ⟨rfl, h⟩
      simp only at h ⊢
      rw [he]
      rw [List.drop_length] at h
      simp only [Chain] at h
      subst h
      exact ⟨_, rfl, rfl⟩) (m0, 0) ⟨rfl, hc⟩
  rw [h1, h2]
end
end Go.Vs
namespace Go.Vs
set_option linter.unusedVariables false
set_option linter.unusedSimpArgs false
def ReadsAs (P : Program) (W : World) (n : String) (d : DataW Unit) : Prop :=
 ∃ g t cs fuel p, P.globalNamed n = some g ∧ (P.globals[g]?).map (·.type) = some t ∧ W.var? P n = some cs ∧ DataW.trod (fun _ => ()) P W 0 (fun _ => true) false fuel t cs.toList = some (d, p)
theorem reads_of {P : Program} {W : World} {n : String} {d : DataW Unit} : ∀ {l : List (String × DataW Unit)} {ps : List MemPlace}, DataW.LaidVars P W l ps → (n, d) ∈ l → ReadsAs P W n d
 | [], _, _, hm => by cases hm
 | (m, e) :: l, ps, h, hm => by
  obtain ⟨g, t, cs, fuel, p, q, h1, h2, h3, h4, h5, _⟩ := h
  cases hm with
  | head => exact ⟨g, t, cs, fuel, p, h1, h2, h3, h4⟩
  | tail _ hm => exact reads_of h5 hm
def byteL (b : UInt8) : DataW Unit := .lit (.int .u8 b.toNat)
def tabD (bs : List UInt8) : DataW Unit := .agg (bs.map byteL)
def pairsD : List UInt8 → List (DataW Unit)
 | a :: b :: l => .agg [byteL a, byteL b] :: pairsD l
 | _ => []
theorem pairsD_get : ∀ (l : List UInt8) (i : Nat) (a b : UInt8), l[2 * i]? = some a → l[2 * i + 1]? = some b → (pairsD l)[i]? = some (.agg [byteL a, byteL b])
 | [], i, a, b, h, _ => by simp at h
 | [x], i, a, b, h, k => by cases i <;> simp at k
 | x :: y :: l, 0, a, b, h, k => by
  simp only [Nat.mul_zero, List.getElem?_cons_zero, Option.some.injEq] at h
  simp only [Nat.mul_zero, Nat.zero_add, List.getElem?_cons_succ, List.getElem?_cons_zero, Option.some.injEq] at k
  subst h k; rfl
 | x :: y :: l, i + 1, a, b, h, k => by
  rw [show 2 * (i + 1) = 2 * i + 1 + 1 by omega, List.getElem?_cons_succ, List.getElem?_cons_succ] at h
  rw [show 2 * (i + 1) + 1 = 2 * i + 1 + 1 + 1 by omega, List.getElem?_cons_succ, List.getElem?_cons_succ] at k
  exact pairsD_get l i a b h k
theorem cell_lt {W : World} {g o : Nat} {v : Value} (h : W.cell? ⟨g, o, none⟩ = some v) : g < W.heap.size := by
 rcases Nat.lt_or_ge g W.heap.size with k | k
 ·exact k
 ·simp only [World.cell?, Array.getElem?_eq_none k] at h; cases h
theorem one_u8 {P : Program} {W : World} {fuel : Nat} {e : TypeId} {cs : List Value} {i : Nat} {b : UInt8} {x : DataW Unit × List MemPlace} (he : P.underlying e = some (.int .u8)) (h : DataW.trod (fun _ => ()) P W 0 (fun _ => true) false fuel e ((cs.drop i).take 1) = some x) (hx : x.1 = byteL b) : cs[i]? = some (.int .u8 b.toNat) := by
 obtain ⟨z, e1, e2, _⟩ := DataW.trod_int he h
 rw [e2] at hx
 simp only [byteL, DataW.lit.injEq, Lit.int.injEq, true_and] at hx
 subst hx
 have h0 : ((cs.drop i).take 1)[0]? = some (.int .u8 (b.toNat : Int)) := by rw [e1]; rfl
 simpa using h0
theorem tab_cells {P : Program} {W : World} {n : String} {g t e N : Nat} {bs : List UInt8} (hg : P.globalNamed n = some g) (hty : (P.globals[g]?).map (·.type) = some t) (ht : P.underlying t = some (.array N e)) (he : P.underlying e = some (.int .u8)) (hc : P.cellsOf e = 1) (hr : ReadsAs P W n (tabD bs)) :
  ∀ (o : Nat) (y : UInt8), bs[o]? = some y → g < W.heap.size ∧ W.cell? ⟨g, o, none⟩ = some (.int .u8 y.toNat) := by
 obtain ⟨g', t', cs, fuel, p, hg', hty', hv, hd⟩ := hr
 rw [hg] at hg'
 cases hg'
 rw [hty] at hty'
 cases hty'
 obtain ⟨xs, m, _, ex, _, hl, hel⟩ := DataW.trod_array ht hd
 have e3 : xs.map (·.1) = bs.map byteL := (DataW.agg.inj (Prod.mk.inj ex).1).symm
 intro o y hy
 have hlen : xs.length = bs.length := by simpa using congrArg List.length e3
 have ho : o < bs.length := (List.getElem?_eq_some_iff.1 hy).1
 have hE := hel o (by omega)
 rw [hc, Nat.mul_one, List.getElem?_eq_getElem (by omega)] at hE
 have e4 : (xs.map (·.1))[o]? = (bs.map byteL)[o]? := by rw [e3]
 rw [List.getElem?_map, List.getElem?_map, List.getElem?_eq_getElem (by omega), hy] at e4
 simp only [Option.map_some, Option.some.injEq] at e4
 have h1 := one_u8 he hE e4
 have h2 : W.cell? ⟨g, o, none⟩ = some (.int .u8 y.toNat) := by rw [World.var?_cell hg hv o]; simpa using h1
 exact ⟨cell_lt h2, h2⟩
theorem pair_cells {P : Program} {W : World} {n : String} {g t s N : Nat} {f0 f1 : Field} {bs : List UInt8} (hg : P.globalNamed n = some g) (hty : (P.globals[g]?).map (·.type) = some t) (ht : P.underlying t = some (.array N s)) (hs : P.underlying s = some (.struct #[f0, f1])) (h0 : P.underlying f0.type = some (.int .u8)) (h1 : P.underlying f1.type = some (.int .u8)) (c0 : P.cellsOf f0.type = 1) (c1 : P.cellsOf f1.type = 1) (o0 : f0.offset = 0) (o1 : f1.offset = 1) (hc : P.cellsOf s = 2) (hN : bs.length = 2 * N) (hr : ReadsAs P W n (.agg (pairsD bs))) :
  ∀ (o : Nat) (y : UInt8), bs[o]? = some y → g < W.heap.size ∧ W.cell? ⟨g, o, none⟩ = some (.int .u8 y.toNat) := by
 obtain ⟨g', t', cs, fuel, p, hg', hty', hv, hd⟩ := hr
 rw [hg] at hg'
 cases hg'
 rw [hty] at hty'
 cases hty'
 obtain ⟨xs, m, _, ex, _, hl, hel⟩ := DataW.trod_array ht hd
 have e3 : xs.map (·.1) = pairsD bs := (DataW.agg.inj (Prod.mk.inj ex).1).symm
 intro o y hy
 have ho : o < bs.length := (List.getElem?_eq_some_iff.1 hy).1
 -- the pair it stands in
 have key : ∀ i, i < N → ∃ a b : UInt8, bs[2 * i]? = some a ∧ bs[2 * i + 1]? = some b ∧ cs.toList[2 * i]? = some (.int .u8 a.toNat) ∧ cs.toList[2 * i + 1]? = some (.int .u8 b.toNat) := by
  intro i hi
  refine ⟨bs[2 * i]'(by omega), bs[2 * i + 1]'(by omega), List.getElem?_eq_getElem _, List.getElem?_eq_getElem _, ?_⟩
  have hE := hel i hi
  rw [hc, List.getElem?_eq_getElem (by omega)] at hE
  have hp := pairsD_get bs i _ _ (List.getElem?_eq_getElem (show 2 * i < bs.length by omega)) (List.getElem?_eq_getElem (show 2 * i + 1 < bs.length by omega))
  rw [← e3, List.getElem?_map, List.getElem?_eq_getElem (by omega)] at hp
  simp only [Option.map_some, Option.some.injEq] at hp
  obtain ⟨ys, k, _, ey, _, _, hf⟩ := DataW.trod_struct hs hE
  have hy1 : ys.map (·.1) = [byteL (bs[2 * i]'(by omega)), byteL (bs[2 * i + 1]'(by omega))] := by
   rw [ey] at hp
   exact DataW.agg.inj hp
  match ys, hy1 with
  | [u, v], hy1 =>
   simp only [List.map_cons, List.map_nil, List.cons.injEq, and_true] at hy1
   have q0 := hf 0 f0 rfl
   have q1 := hf 1 f1 rfl
   rw [o0, c0] at q0
   rw [o1, c1] at q1
   have r0 := one_u8 h0 q0 hy1.1
   have r1 := one_u8 h1 q1 hy1.2
   rw [List.getElem?_take, if_pos (by omega), List.getElem?_drop] at r0 r1
   rw [show i * 2 + 0 = 2 * i by omega] at r0
   rw [show i * 2 + 1 = 2 * i + 1 by omega] at r1
   exact ⟨r0, r1⟩
 obtain ⟨a, b, k1, k2, k3, k4⟩ := key (o / 2) (by omega)
 have h2 : W.cell? ⟨g, o, none⟩ = some (.int .u8 y.toNat) := by
  rw [World.var?_cell hg hv o, ← Array.getElem?_toList]
  rcases (show o = 2 * (o / 2) ∨ o = 2 * (o / 2) + 1 by omega) with h | h
  ·rw [← h] at k1 k3
   rw [hy] at k1
   cases k1
   exact k3
  ·rw [← h] at k2 k4
   rw [hy] at k2
   cases k2
   exact k4
 exact ⟨cell_lt h2, h2⟩
theorem glbAt_two {bs cs : List UInt8} {W : World} (h0 : ∀ (o : Nat) (y : UInt8), bs[o]? = some y → 0 < W.heap.size ∧ W.cell? ⟨0, o, none⟩ = some (.int .u8 y.toNat)) (h1 : ∀ (o : Nat) (y : UInt8), cs[o]? = some y → 1 < W.heap.size ∧ W.cell? ⟨1, o, none⟩ = some (.int .u8 y.toNat)) :
  ∀ b o v, @glbAt ⟨[(0, bs), (1, cs)]⟩ b o = some v → b < W.heap.size ∧ W.cell? ⟨b, o, none⟩ = some v := by
 intro b o v h
 match b, h with
 | 0, h =>
  have e : @glbAt ⟨[(0, bs), (1, cs)]⟩ 0 o = (match bs[o]? with | some y => some (.int .u8 y.toNat) | none => none) := rfl
  rw [e] at h
  split at h
  ·rename_i y hy
   cases h
   exact h0 o y hy
  ·cases h
 | 1, h =>
  have e : @glbAt ⟨[(0, bs), (1, cs)]⟩ 1 o = (match cs[o]? with | some y => some (.int .u8 y.toNat) | none => none) := rfl
  rw [e] at h
  split at h
  ·rename_i y hy
   cases h
   exact h1 o y hy
  ·cases h
 | b + 2, h =>
  have e : @glbAt ⟨[(0, bs), (1, cs)]⟩ (b + 2) o = none := rfl
  rw [e] at h; cases h
end Go.Vs
