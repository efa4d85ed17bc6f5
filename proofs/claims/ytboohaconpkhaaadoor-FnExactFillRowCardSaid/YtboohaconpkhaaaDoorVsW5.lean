import Derived.Laws.RangeAny
import Derived.OpenShut
import Derived.LaidMore
import Derived.Test.YtboohaconpkhaaaDoorVsW4
import Derived.Test.YtboohaconpkhaaaDoorVsW2
set_option linter.all false
namespace Go.Vs
variable [Glb]
set_option linter.unusedVariables false
set_option linter.unusedSimpArgs false
noncomputable section
theorem wrap_i64 {n : Int} (h1 : -9223372036854775808 ≤ n) (h2 : n < 9223372036854775808) : IntKind.i64.wrap n = n := by
 have e1 : IntKind.i64.bits = 64 := rfl
 have e2 : IntKind.i64.signed = true := rfl
 simp only [IntKind.wrap, e1, e2, Bool.true_and, Nat.reduceSub, decide_eq_true_eq]
 have e3 : ((2 : Int) ^ 64) = 18446744073709551616 := by decide
 have e4 : ((2 : Int) ^ 63) = 9223372036854775808 := by decide
 rw [e3, e4]
 by_cases h : 0 ≤ n
 ·have : n % 18446744073709551616 = n := Int.emod_eq_of_lt h (by omega)
  rw [this, if_neg (by omega)]
 ·have : n % 18446744073709551616 = n + 18446744073709551616 := by omega
  rw [this, if_pos (by omega)]; omega
theorem iAdd_ok {a b : Int} (h1 : -9223372036854775808 ≤ a + b) (h2 : a + b < 9223372036854775808) : iAdd .i64 a b = a + b := wrap_i64 h1 h2
theorem iSub_ok {a b : Int} (h1 : -9223372036854775808 ≤ a - b) (h2 : a - b < 9223372036854775808) : iSub .i64 a b = a - b := wrap_i64 h1 h2
theorem iAdd_n {i n : Nat} (h : i + n < 9223372036854775808) : iAdd .i64 (i : Int) (n : Int) = ((i + n : Nat) : Int) := by
 rw [iAdd_ok (by omega) (by omega)]; omega
theorem iAdd_1 {i : Nat} (h : i < 9223372036854775807) : iAdd .i64 (i : Int) 1 = ((i + 1 : Nat) : Int) := iAdd_n (n := 1) (by omega)
@[simp] theorem nOf_n (i : Nat) : nOf (i : Int) = i := by simp [nOf]
@[simp] theorem idx_n {α : Type} (xs : List α) (i : Nat) : idx xs (i : Int) = xs[i]? := by simp [idx]
@[simp] theorem idx_ofNat {α : Type} (xs : List α) (i : Nat) : idx xs (Int.ofNat i) = xs[i]? := idx_n xs i
theorem idx_at {α : Type} {xs : List α} {i : Nat} (h : i < xs.length) : idx xs (i : Int) = some xs[i] := by rw [idx_n, List.getElem?_eq_getElem h]
@[simp] theorem bnd_s {α β : Type} (x : α) (f : α → Option β) : bnd (some x) f = f x := rfl
@[simp] theorem chk_t {β : Type} (k : Option β) : chk true k = k := rfl
@[simp] theorem cnd_t {β : Type} (x y : Option β) : cnd true x y = x := rfl
@[simp] theorem cnd_f {β : Type} (x y : Option β) : cnd false x y = y := rfl
@[simp] theorem joinX_l {σ ρ : Type} (s : σ) (f : σ → Option ρ) : joinX (some (.inl s)) f = f s := rfl
@[simp] theorem joinX_r {σ ρ : Type} (r : ρ) (f : σ → Option ρ) : joinX (some (.inr r)) f = some r := rfl
@[simp] theorem outX_s {σ ρ : Type} (r : ρ) : outX (σ := σ) (some r) = some (.inr r) := rfl
@[simp] theorem sel2_t {α : Type} (x y : α) : sel2 true x y = x := rfl
@[simp] theorem sel2_f {α : Type} (x y : α) : sel2 false x y = y := rfl
@[simp] theorem iEq_r (a : Int) : iEq a a = true := by simp [iEq]
@[simp] theorem iNe_r (a : Int) : iNe a a = false := by simp [iNe]
@[simp] theorem sEq_r (a : List UInt8) : sEq a a = true := by simp [sEq]
@[simp] theorem bNe_r (a : Bool) : bNe a a = false := by simp [bNe]
@[simp] theorem bNot_t : bNot true = false := rfl
@[simp] theorem bNot_f : bNot false = true := rfl
@[simp] theorem nEq_r (a : Nat) : nEq a a = true := by simp [nEq]
theorem iLt_y {a b : Int} (h : a < b) : iLt a b = true := by simp [iLt, h]
theorem iLt_n {a b : Int} (h : b ≤ a) : iLt a b = false := by simp [iLt]; omega
theorem iGt_y {a b : Int} (h : b < a) : iGt a b = true := by simp [iGt, h]
theorem iGt_n {a b : Int} (h : a ≤ b) : iGt a b = false := by simp [iGt]; omega
theorem iLe_y {a b : Int} (h : a ≤ b) : iLe a b = true := by simp [iLe, h]
theorem iLe_n {a b : Int} (h : b < a) : iLe a b = false := by simp [iLe]; omega
theorem iGe_y {a b : Int} (h : b ≤ a) : iGe a b = true := by simp [iGe, h]
theorem iGe_n {a b : Int} (h : a < b) : iGe a b = false := by simp [iGe]; omega
theorem iEq_n {a b : Int} (h : a ≠ b) : iEq a b = false := by simp [iEq, h]
theorem iNe_y {a b : Int} (h : a ≠ b) : iNe a b = true := by simp [iNe, h]
theorem room_ok {n sz : Nat} (h : n * sz ≤ 140737488355328) : room n sz = true := by simp [room, h]
theorem mkOk_ok {n m : Nat} (h : n * m ≤ 140737488355328) (h2 : n ≤ 9223372036854775807) : mkOk (n : Int) m = true := by
 simp only [mkOk, decide_eq_true_eq]
 refine ⟨by omega, ?_, by omega⟩
 have : (n : Int) * (m : Int) = ((n * m : Nat) : Int) := by simp
 omega
@[simp] theorem lLen_def {α : Type} (xs : List α) : lLen xs = (xs.length : Int) := rfl
@[simp] theorem lSet_len {α : Type} (l : List α) (n : Nat) (x : α) : (lSet l n x).length = l.length := by simp [lSet]
@[simp] theorem lSet_lSet {α : Type} (l : List α) (n : Nat) (x y : α) : lSet (lSet l n x) n y = lSet l n y := by simp [lSet]
theorem loop_inv {σ ρ : Type} {step : σ → Option (σ ⊕ ρ)} (inv : Nat → σ → Prop) (n : Nat) (Q : ρ → Prop) (hs : ∀ i s, i < n → inv i s → (∃ s', step s = some (.inl s') ∧ inv (i + 1) s') ∨ ∃ r, step s = some (.inr r) ∧ Q r) (he : ∀ s, inv n s → ∃ r, step s = some (.inr r) ∧ Q r) (s0 : σ) (h0 : inv 0 s0) : ∃ r, loopX step s0 = some r ∧ Q r := by
 have key : ∀ k i s, n - i = k → i ≤ n → inv i s → ∃ r, loopX step s = some r ∧ Q r := by
  intro k
  induction k with
  | zero =>
   intro i s hk hi h
   have : i = n := by omega
   subst this
   obtain ⟨r, h1, h2⟩ := he s h
   exact ⟨r, by rw [loopX_eq, h1], h2⟩
  | succ k ih =>
   intro i s hk hi h
   rcases hs i s (by omega) h with ⟨s', h1, h2⟩ | ⟨r, h1, h2⟩
   ·obtain ⟨r, h3, h4⟩ := ih (i + 1) s' (by omega) (by omega) h2
    exact ⟨r, by rw [loopX_eq, h1]; exact h3, h4⟩
   ·exact ⟨r, by rw [loopX_eq, h1], h2⟩
 exact key n 0 s0 (by omega) (by omega) h0
theorem loop_exact {σ ρ : Type} {step : σ → Option (σ ⊕ ρ)} (st : Nat → σ) (n : Nat) (r : ρ) (hs : ∀ i, i < n → step (st i) = some (.inl (st (i + 1)))) (he : step (st n) = some (.inr r)) (s0 : σ) (h0 : s0 = st 0) : loopX step s0 = some r := by
 obtain ⟨r', h1, h2⟩ := loop_inv (step := step) (fun i s => s = st i) n (fun x => x = r) (fun i s hi h => .inl ⟨_, by rw [h]; exact hs i hi, rfl⟩) (fun s h => ⟨r, by rw [h]; exact he, rfl⟩) s0 h0
 rw [h1, h2]
def SzR (o : Option Int) (k : Int) (P : Prop) : Prop := ∃ z, o = some z ∧ z ≤ k ∧ (0 ≤ z → P)
theorem SzR.done {k : Int} : SzR (some k) k True := ⟨k, rfl, Int.le_refl _, fun _ => trivial⟩
theorem SzR.mono {o : Option Int} {k k' : Int} {P Q : Prop} (h : SzR o k P) (hk : k ≤ k') (hp : P → Q) : SzR o k' Q := by
 obtain ⟨z, a, b, c⟩ := h
 exact ⟨z, a, by omega, fun h => hp (c h)⟩
theorem SzR.sub {α : Type} {l : List α} {k : Int} {rest : Option Int} {P : Prop} (h0 : 0 ≤ k) (hk : k ≤ 4611686018427387904) (hl : l.length ≤ 9223372036854775807) (h : (l.length : Int) ≤ k → SzR rest (k - l.length) P) : SzR (cnd (iLt (iSub .i64 k (lLen l)) 0) (some (-1)) rest) k ((l.length : Int) ≤ k ∧ P) := by
 have e : iSub .i64 k (lLen l) = k - l.length := iSub_ok (by simp only [lLen_def]; omega) (by simp only [lLen_def]; omega)
 rw [e]
 by_cases hh : (l.length : Int) ≤ k
 ·rw [iLt_n (by omega)]
  obtain ⟨z, a, b, c⟩ := h hh
  exact ⟨z, a, by omega, fun h => ⟨hh, c h⟩⟩
 ·rw [iLt_y (by omega)]
  exact ⟨-1, rfl, by omega, fun h => by omega⟩
theorem SzR.seq {o : Option Int} {k : Int} {P Q : Prop} {f : Int → Option Int} (h0 : 0 ≤ k) (h : SzR o k P) (hf : ∀ z, 0 ≤ z → z ≤ k → SzR (f z) z Q) : SzR (bnd o fun z => cnd (iLt z 0) (some (-1)) (f z)) k (P ∧ Q) := by
 obtain ⟨z, rfl, b, c⟩ := h
 simp only [bnd_s]
 by_cases hz : 0 ≤ z
 ·rw [iLt_n hz]
  obtain ⟨y, d, e, g⟩ := hf z hz b
  exact ⟨y, d, by omega, fun h => ⟨c hz, g h⟩⟩
 ·rw [iLt_y (by omega)]
  exact ⟨-1, rfl, by omega, fun h => by omega⟩
theorem SzR.one {o : Option Int} {k : Int} {P : Prop} (h0 : 0 ≤ k) (h : SzR o k P) : SzR (bnd o fun z => cnd (iLt z 0) (some (-1)) (some z)) k P := by
 obtain ⟨z, rfl, b, c⟩ := h
 simp only [bnd_s]
 by_cases hz : 0 ≤ z
 ·rw [iLt_n hz]; exact ⟨z, rfl, b, c⟩
 ·rw [iLt_y (by omega)]; exact ⟨-1, rfl, by omega, fun h => by omega⟩
def toLst {α : Type} (g : α → Option α) (d : α) (bytes : Nat) (x : List α) : Option (List α) := chk (iEq (lLen x) (lLen x)) (chk (mkOk (lLen x) bytes) (joinX (loopX (fun (z1 : List α × Int) => cnd (iLt z1.2 (lLen x)) (bnd (idx x z1.2) fun z2 => bnd (g z2) fun z3 => bnd (idx z1.1 z1.2) fun z4 => some (.inl (lSet z1.1 (nOf z1.2) z3, iAdd .i64 z1.2 1))) (some (.inr (.inl z1.1)))) (lRep (nOf (lLen x)) d, 0)) fun z1 => some z1))
theorem toLst_ok {α : Type} {g : α → Option α} {d : α} {bytes : Nat} {x : List α} (hl : x.length * bytes ≤ 140737488355328) (hl2 : x.length < 9223372036854775807) (hg : ∀ e ∈ x, g e = some e) : toLst g d bytes x = some x := by
 unfold toLst
 rw [iEq_r, chk_t, lLen_def, mkOk_ok hl (by omega), chk_t]
 rw [loop_exact (fun i => (x.take i ++ List.replicate (x.length - i) d, (i : Int))) x.length (.inl x)]
 ·rfl
 ·intro i hi
  simp only
  rw [iLt_y (by omega), cnd_t, idx_at hi, bnd_s, hg _ (List.getElem_mem hi), bnd_s, idx_n]
  have hlen : (x.take i ++ List.replicate (x.length - i) d).length = x.length := by simp; omega
  rw [List.getElem?_eq_getElem (by rw [hlen]; exact hi), bnd_s, nOf_n, iAdd_1 (by omega)]
  congr 3
  have e1 : x.length - i = (x.length - (i + 1)) + 1 := by omega
  rw [lSet, e1, List.replicate_succ, List.take_succ_eq_append_getElem hi, List.append_assoc]
  rw [List.set_append_right _ _ (by simp; omega)]
  have e2 : i - (x.take i).length = 0 := by simp; omega
  rw [e2]; rfl
 ·simp only
  rw [iLt_n (by omega), cnd_f]
  simp
 ·simp [lRep]
def Chain {α : Type} (H : Int → α → Int → Prop) : Int → List α → Int → Prop
 | m, [], m' => m = m'
 | m, a :: l, m' => ∃ k, H m a k ∧ Chain H k l m'
theorem Chain.snoc {α : Type} {H : Int → α → Int → Prop} : ∀ {l : List α} {m k m' : Int} {a : α}, Chain H m l k → H k a m' → Chain H m (l ++ [a]) m'
 | [], m, k, m', a, h, h2 => by simp only [Chain] at h; subst h; exact ⟨m', h2, rfl⟩
 | b :: l, m, k, m', a, ⟨j, h, h1⟩, h2 => ⟨j, h, h1.snoc h2⟩
theorem mark_loop {α ρ : Type} {H : Int → α → Int → Prop} {K : Int} {x : List α} {m0 : Int} {step : List α × Int × Int → Option ((List α × Int × Int) ⊕ ((List α × Int) ⊕ ρ))} (hl : x.length < 9223372036854775807) (hK : 0 ≤ K)
    (hb : ∀ (l : List α) (m : Int) (i : Nat) (h : i < x.length) (hl : l.length = x.length), l[i]? = some x[i] → m0 ≤ m → m ≤ m0 + K * i → ∃ a m', step (l, (m, (i : Int))) = some (.inl (lSet l i a, (m', (i : Int) + 1))) ∧ H m a m' ∧ m ≤ m' ∧ m' ≤ m + K)
    (he : ∀ (l : List α) (m : Int), l.length = x.length → step (l, (m, (x.length : Int))) = some (.inr (.inl (l, m)))) :
    ∃ l' m', loopX step (x, (m0, 0)) = some (.inl (l', m')) ∧ Chain H m0 l' m' ∧ l'.length = x.length ∧ m0 ≤ m' ∧ m' ≤ m0 + K * x.length := by
  obtain ⟨r, h1, l', m', rfl, h2⟩ := loop_inv (step := step)
    (fun i s => s.2.2 = (i : Int) ∧ s.1.length = x.length ∧ s.1.drop i = x.drop i ∧ Chain H m0 (s.1.take i) s.2.1 ∧ m0 ≤ s.2.1 ∧ s.2.1 ≤ m0 + K * i) x.length (fun r => ∃ l' m', r = .inl (l', m') ∧ Chain H m0 l' m' ∧ l'.length = x.length ∧ m0 ≤ m' ∧ m' ≤ m0 + K * x.length) (by
      rintro i ⟨l, m, j⟩ hi ⟨rfl, h1, h2, h3, h4, h5⟩
      simp only at h1 h2 h3 h4 h5 ⊢
      have hli : i < l.length := by omega
      have e0 : l[i]? = some x[i] := by
        have e1 : (l.drop i)[0]? = (x.drop i)[0]? := by rw [h2]
        rw [List.getElem?_drop, List.getElem?_drop, Nat.add_zero, List.getElem?_eq_getElem hi] at e1
        exact e1
      obtain ⟨a, m', b1, b2, b3, b4⟩ := hb l m i hi h1 e0 h4 h5
      rw [b1]
      left
      refine ⟨_, rfl, by simp only; omega, by simp [h1], ?_, ?_, by simp only; omega, ?_⟩
      · simp only [lSet]
        rw [List.drop_set_of_lt (by omega), ← List.drop_drop, h2, List.drop_drop]
      · simp only [lSet]
        rw [List.take_succ_eq_append_getElem (by simp; omega), List.take_set_of_le (by omega), List.getElem_set_self]
        exact h3.snoc b2
      · simp only
        have : K * ((i + 1 : Nat) : Int) = K * i + K := by
          rw [Int.natCast_add, Int.mul_add]; simp
        omega)
    (by
      rintro ⟨l, m, j⟩ ⟨rfl, h1, h2, h3, h4, h5⟩
      simp only at h1 h2 h3 h4 h5 ⊢
      refine ⟨_, he l m h1, l, m, rfl, ?_, h1, h4, h5⟩
      rw [← h1, List.take_length] at h3
      exact h3) (x, (m0, 0)) ⟨rfl, rfl, rfl, rfl, Int.le_refl _, by simp⟩
  exact ⟨l', m', h1, h2⟩
theorem held_loop {α ρ : Type} {H : Int → α → Int → Prop} {l : List α} {m0 m1 : Int} {step : Int × Int → Option ((Int × Int) ⊕ (Int ⊕ ρ))} (hl : l.length < 9223372036854775807) (hc : Chain H m0 l m1)
    (hb : ∀ (m m' : Int) (i : Nat) (h : i < l.length), H m l[i] m' → step (m, (i : Int)) = some (.inl (m', (i : Int) + 1))) (he : ∀ m, step (m, (l.length : Int)) = some (.inr (.inl m))) :
    loopX step (m0, 0) = some (.inl m1) := by
  obtain ⟨r, h1, h2⟩ := loop_inv (step := step)
    (fun i s => s.2 = (i : Int) ∧ Chain H s.1 (l.drop i) m1) l.length (fun r => r = .inl m1) (by
      rintro i ⟨m, j⟩ hi ⟨rfl, h⟩
      simp only at h ⊢
      rw [List.drop_eq_getElem_cons hi] at h
      obtain ⟨k, h3, h4⟩ := h
      rw [hb m k i hi h3]
      exact .inl ⟨_, rfl, by simp only; omega, h4⟩)
    (by
      rintro ⟨m, j⟩ ⟨rfl, h⟩
      simp only at h ⊢
      rw [he]
      rw [List.drop_length] at h
      simp only [Chain] at h
      subst h
      exact ⟨_, rfl, rfl⟩) (m0, 0) ⟨rfl, hc⟩
  rw [h1, h2]
end
end Go.Vs
namespace Go.Vs
variable [Glb]
set_option linter.unusedVariables false
set_option linter.unusedSimpArgs false
def setBlk (w : World) (b : Nat) (x : Obj) : World := { w with heap := w.heap.setIfInBounds b x }
theorem setBlk_size (w : World) (b : Nat) (x : Obj) : (setBlk w b x).heap.size = w.heap.size := by simp [setBlk]
theorem setBlk_heap {w : World} {b k : Nat} {x : Obj} (h : k ≠ b) : (setBlk w b x).heap[k]? = w.heap[k]? := by
 simp only [setBlk]
 rw [Array.getElem?_setIfInBounds_ne (fun e => h e.symm)]
theorem setBlk_at {w : World} {b : Nat} {x y : Obj} (h : w.heap[b]? = some y) : (setBlk w b x).heap[b]? = some x := by
 simp only [setBlk]
 have : b < w.heap.size := by
  rcases Nat.lt_or_ge b w.heap.size with k | k
  ·exact k
  ·rw [Array.getElem?_eq_none k] at h; cases h
 rw [Array.getElem?_setIfInBounds_self_of_lt this]
theorem setBlk_cell {w : World} {b k o : Nat} {x : Obj} (h : k ≠ b) : (setBlk w b x).cell? ⟨k, o, none⟩ = w.cell? ⟨k, o, none⟩ := by simp only [World.cell?, setBlk_heap h]
theorem setBlk_frozen {w : World} {b k o : Nat} {x : Obj} (h : k ≠ b) : (setBlk w b x).frozen? ⟨k, o, none⟩ = w.frozen? ⟨k, o, none⟩ := by simp only [World.frozen?, setBlk_heap h]
section
variable {w0 : World} {own0 : Nat → Nat → Prop} {pl0 : Pls} {g : Lab} {pl : Pls} {roots : List (Nat × Root)} {nx nc fix : Nat} {w : World}
theorem Hp.setBlk (h : Hp w0 own0 pl0 g pl roots nx nc fix w) {b : Nat} (hb : w0.heap.size ≤ b) (hg : ∀ o, g b o = none) (x : Obj) : Hp w0 own0 pl0 g pl roots nx nc fix (setBlk w b x) := by
 have hlt : ∀ k, k < w0.heap.size → k ≠ b := fun k hk e => by omega
 refine h.congr ⟨h.fr.os, h.fr.tape, h.fr.output, by rw [setBlk_size]; exact h.fr.size, ?_, ?_, h.fr.gl⟩ (setBlk_size _ _ _) ?_ ?_
 ·intro k hk ho; rw [setBlk_heap (hlt k hk)]; exact h.fr.block k hk ho
 ·intro k o hk ho; rw [setBlk_cell (hlt k hk), setBlk_frozen (hlt k hk)]; exact h.fr.cell k o hk ho
 ·intro k o y hy
  have hne : k ≠ b := by rintro rfl; rw [hg] at hy; cases hy
  exact ⟨setBlk_cell hne, setBlk_frozen hne⟩
 ·intro k o hst
  exact setBlk_cell (hlt k hst.1)
theorem Hp.newBlk (h : Hp w0 own0 pl0 g pl roots nx nc fix w) (x : Obj) : Hp w0 own0 pl0 g pl roots nx nc fix (w.alloc x) := by
 have hs : w.heap.size ≤ (w.alloc x).heap.size := by simp
 refine ⟨h.fr.alloc x, fun b o y hy => ?_, h.fixed, h.fixle, h.ncle, fun r y hy => ⟨(h.roots r y hy).1, Keep.root' (nx := nc) ⟨fun b o q hb => ⟨hb, ?_⟩, fun b o hst => ?_, fun _ => rfl⟩ (fun _ _ k => k) (h.roots r y hy).2⟩⟩
 ·obtain ⟨a, b', c⟩ := h.lab b o y hy
  exact ⟨Nat.lt_of_lt_of_le a hs, b', c⟩
 ·have := (h.lab b o _ hb).1
  exact ⟨World.cell?_alloc_old w x _ (by simp; omega), World.frozen?_alloc_old w x _ (by simp; omega)⟩
 ·have := hst.1
  have := h.fr.size
  exact World.cell?_alloc_old w x _ (by simp; omega)
def lbl (g : Lab) : Nat → Nat → Prop := fun b o => ∃ x, g b o = some x
theorem RootOk.into {st st' : Nat → Nat → Prop} {r : Nat} {x : Root} (hs : ∀ b o, st b o → st' b o) (h : RootOk st w g pl nc r x) : RootOk st' w g pl nc r x := by
 cases x with
 | tr sz es => exact h
 | im sz es => exact fun p n hn => ⟨(h p n hn).1, fun j hj => hs _ _ ((h p n hn).2 j hj)⟩
 | bx cs => exact h
 | ib cs => intro c x hx; obtain ⟨v, a, b, d⟩ := h c x hx; exact ⟨v, a, b, hs _ _ d⟩
theorem Hp.into (h : Hp w0 own0 pl0 g pl roots nx nc fix w) : Hp w (lbl g) pl g pl roots nx nc fix w := by
 refine ⟨Fr.refl w (lbl g) fun b o v hv => ?_, fun b o x hx => ⟨(h.lab b o x hx).1, .inr ⟨x, hx⟩, (h.lab b o x hx).2.2⟩, fun _ _ _ => rfl, h.fixle, h.ncle, fun r x hx => ⟨(h.roots r x hx).1, (h.roots r x hx).2.into fun b o hst => ?_⟩⟩
 ·obtain ⟨h1, h2, h3⟩ := h.fr.gl b o v hv
  refine ⟨Nat.lt_of_lt_of_le h1 h.fr.size, ?_, h.fr.glb hv⟩
  rintro ⟨x, hx⟩
  rcases (h.lab b o x hx).2.1 with k | k
  ·omega
  ·exact h2 k
 ·refine ⟨Nat.lt_of_lt_of_le hst.1 h.fr.size, ?_⟩
  rintro ⟨x, hx⟩
  rcases (h.lab b o x hx).2.1 with k | k
  ·have := hst.1; omega
  ·exact hst.2 k
def NoIm (roots : List (Nat × Root)) : Prop := ∀ r x, get roots r = some x → (∃ sz es, x = .tr sz es) ∨ ∃ cs, x = .bx cs
theorem Hp.back {g' : Lab} {pl' : Pls} {roots' : List (Nat × Root)} {nx' nc' : Nat} {w' : World} (h : Hp w0 own0 pl0 g pl roots nx nc fix w) (k : Hp w (lbl g) pl g' pl' roots' nx' nc' fix w') (hno : NoIm roots') : Hp w0 own0 pl0 g' pl' roots' nx' nc' fix w' := by
 have own : ∀ b o, lbl g b o → w0.heap.size ≤ b ∨ own0 b o := fun b o ⟨x, hx⟩ => (h.lab b o x hx).2.1
 refine ⟨⟨k.fr.os.trans h.fr.os, k.fr.tape.trans h.fr.tape, k.fr.output.trans h.fr.output, Nat.le_trans h.fr.size k.fr.size, ?_, ?_, h.fr.gl⟩, ?_, fun r p hr => by rw [k.fixed r p hr, h.fixed r p hr], k.fixle, k.ncle, ?_⟩
 ·intro b hb ho
  have hb' := Nat.lt_of_lt_of_le hb h.fr.size
  rw [k.fr.block b hb' fun o q => ?_, h.fr.block b hb ho]
  rcases own b o q with q | q
  ·omega
  ·exact ho o q
 ·intro b o hb ho
  have hb' := Nat.lt_of_lt_of_le hb h.fr.size
  have hno : ¬ lbl g b o := fun q => by
   rcases own b o q with q | q
   ·omega
   ·exact ho q
  obtain ⟨e1, e2⟩ := k.fr.cell b o hb' hno
  obtain ⟨e3, e4⟩ := h.fr.cell b o hb ho
  exact ⟨e1.trans e3, e2.trans e4⟩
 ·intro b o x hx
  obtain ⟨a, b', c⟩ := k.lab b o x hx
  refine ⟨a, ?_, c⟩
  rcases b' with q | q
  ·exact .inl (Nat.le_trans h.fr.size q)
  ·exact own b o q
 ·intro r x hx
  obtain ⟨a, b⟩ := k.roots r x hx
  refine ⟨a, ?_⟩
  rcases hno r x hx with ⟨sz, es, rfl⟩ | ⟨cs, rfl⟩
  ·exact b
  ·exact b
end
theorem run_next_blk {P : Program} {w : World} {b : Nat} {s : ByteArray} {pos : Nat} {ty : TypeId} (hb : w.heap[b]? = some (.stringIter s pos)) (h : pos < s.size) :
  (Instr.next (.pointer (some ⟨b, 0, none⟩)) true ty).run P w = .ok (.tuple #[.bool true, .int .i64 pos, .int .i32 (Utf8.decode s pos).1]) (setBlk w b (.stringIter s (pos + (Utf8.decode s pos).2))) := by
 simp only [Instr.next, getObj, setObj, Sem.run_bind, Sem.run, hb, Result.andThen, h, if_true]
 simp [goInt, setBlk]
theorem run_next_blk_end {P : Program} {w : World} {b : Nat} {s : ByteArray} {pos : Nat} {ty : TypeId} (hb : w.heap[b]? = some (.stringIter s pos)) (h : ¬ pos < s.size) :
  (Instr.next (.pointer (some ⟨b, 0, none⟩)) true ty).run P w = .ok (.tuple #[.bool false]) w := by
 simp [Instr.next, getObj, Sem.run, hb, h]
end Go.Vs
namespace Go.Vs
variable [Glb]
set_option linter.unusedVariables false
set_option linter.unusedSimpArgs false
theorem wp_range {P : Program} {o : Oper} {a : Act} {w : World} {K : Act → World → Prop} {Q : Exit → Act → World → Prop} {t : TypeId} {x : Operand} {s : ByteArray} (h : o.op = .range t x) (hx : a.eval x = .string s) (hu : P.underlying t = some .string)
  (hk : K (a.put o.dst (.pointer (some ⟨w.heap.size, 0, none⟩))) (w.iter s 0)) : o.wp P a w K Q := by
 unfold Oper.wp execOp
 rw [h]
 simp only [hx, Sem.run_bind, run_range_string _ _ _ hu, Result.andThen]
 exact hk
theorem wp_mv {P : Program} {o : Oper} {a : Act} {w : World} {K : Act → World → Prop} {Q : Exit → Act → World → Prop} (x : Operand) (h : o.op = .move x) (hk : K (a.put o.dst (a.eval x)) w) : o.wp P a w K Q := by
 unfold Oper.wp execOp; rw [h]; exact hk
theorem wp_next {P : Program} {o : Oper} {a : Act} {w w' : World} {K : Act → World → Prop} {Q : Exit → Act → World → Prop} {x : Operand} {v : Value} (h : o.op = .next x true) (hr : (Instr.next (a.eval x) true o.type).run P w = .ok v w') (hk : K (a.put o.dst v) w') : o.wp P a w K Q := by
 unfold Oper.wp execOp
 rw [h]
 simp only [Sem.run_bind, hr, Result.andThen]
 exact hk
theorem wp_extr {P : Program} {o : Oper} {a : Act} {w : World} {K : Act → World → Prop} {Q : Exit → Act → World → Prop} {x : Operand} {i : Nat} {vs : Array Value} {v : Value} (h : o.op = .extract x i) (hx : a.eval x = .tuple vs) (hv : vs[i]? = some v) (hk : K (a.put o.dst v) w) : o.wp P a w K Q := by
 unfold Oper.wp execOp
 rw [h]
 have hr : (Instr.extract (a.eval x) i : Sem Value).run P w = .ok v w := by
  rw [hx]; simp [Instr.extract, hv]
 simp only [Sem.run_bind, hr, Result.andThen]
 exact hk
theorem rel_know {N : Nat} {w0 : World} {own0 : Nat → Nat → Prop} {pl0 : Pls} {g : Lab} {pl : Pls} {S : St} {a : Act} {w : World} (h : Rel N w0 own0 pl0 g pl S a w) {t : Nat} {x : V} (hx : VR pl S.next x (a.tmps.getD t undef)) : Rel N w0 own0 pl0 g pl ⟨put S.env t x, S.roots, S.next, S.fix⟩ a w :=
 ⟨h.hp, h.size, h.defers, fun u y hy => by
  rw [get_put] at hy
  by_cases hu : t = u
  ·subst hu
   rw [if_pos rfl, Option.some.injEq] at hy
   subst hy; exact hx
  ·rw [if_neg hu] at hy; exact h.env u y hy⟩
theorem rel_sub {N : Nat} {w0 : World} {own0 : Nat → Nat → Prop} {pl0 : Pls} {g : Lab} {pl : Pls} {S T : St} {a : Act} {w : World} (hR : Rel N w0 own0 pl0 g pl S a w) (hn : T.next = S.next) (hf : T.fix = S.fix) (he : ∀ t x, get T.env t = some x → get S.env t = some x) (hr : ∀ r x, get T.roots r = some x → get S.roots r = some x) : Rel N w0 own0 pl0 g pl T a w := by
 obtain ⟨h1, h2, h3, h4⟩ := hR
 obtain ⟨a1, a2, a3, a4, a5, a6⟩ := h1
 refine ⟨⟨a1, ?_, ?_, ?_, ?_, ?_⟩, h2, h3, ?_⟩
 ·rw [hn]; exact a2
 ·rw [hf]; exact a3
 ·rw [hf, hn]; exact a4
 ·exact Nat.le_refl _
 ·intro r x hx
  rw [hn]
  exact a6 r x (hr r x hx)
 ·intro t x hx
  rw [hn]
  exact h4 t x (he t x hx)
theorem getD_put {N : Nat} {a : Act} {t u : Nat} {v : Value} (hs : a.tmps.size = N) (ht : t < N) : (a.put (some t) v).tmps.getD u undef = if t = u then v else a.tmps.getD u undef := by
 have e : (a.put (some t) v).tmps = a.tmps.setIfInBounds t v := rfl
 rw [e, Array.getD_eq_getD_getElem?, Array.getD_eq_getD_getElem?]
 by_cases h : t = u
 ·subst h
  rw [if_pos rfl, Array.getElem?_setIfInBounds_self_of_lt (by omega)]; rfl
 ·rw [if_neg h, Array.getElem?_setIfInBounds_ne h]
theorem rel_put1 {N : Nat} {w0 : World} {own0 : Nat → Nat → Prop} {pl0 : Pls} {g : Lab} {pl : Pls} {S : St} {a : Act} {w w' : World} (h : Rel N w0 own0 pl0 g pl S a w) {t : Nat} (ht : t < N) {x : V} {v : Value} (hw : Hp w0 own0 pl0 g pl S.roots S.next S.next S.fix w') (hx : VR pl S.next x v) : Rel N w0 own0 pl0 g pl ⟨put S.env t x, S.roots, S.next, S.fix⟩ (a.put (some t) v) w' := by
 have := h.put (ks := []) (d := some t) (x := x) (v := v) (by simpa using ht) hw (fun _ _ k => k) hx
 exact this
def itV (b : Nat) : V := .a (.c (.lf (.pointer (some ⟨b, 0, none⟩))))
def boV (c : Bool) : V := .a (.c (.lf (.bool c)))
def stV (s : ByteArray) : V := .a (.c (.lf (.string s)))
def tuV (s : ByteArray) (p : Nat) : V := .tp [.c (.lf (.bool true)), .c (.lf (.int .i64 p)), .c (.lf (.int .i32 (Utf8.decode s p).1))]
theorem vw_rangeStr {P : Program} {N : Nat} {S : St} {Q : Exit → St → Prop} {s : ByteArray} {i4 i5 B t1 t2 t3 t4 : Nat} {o1 o2 n1 n2 : Oper} {x : Operand} {y : Opd} {ty : TypeId} {rest : Code} (I : Nat → St → Prop)
  (hN : t1 < N ∧ t2 < N ∧ t3 < N ∧ t4 < N) (hne : t1 ≠ t2 ∧ t2 ≠ t3 ∧ t2 ≠ t4 ∧ t3 ≠ t4)
  (ho1 : o1.op = .move x ∧ o1.dst = some t1 ∧ o1.guard = none) (ho2 : o2.op = .range ty (.tmp t1) ∧ o2.dst = some t2 ∧ o2.guard = none)
  (hn1 : n1.op = .next (.tmp t2) true ∧ n1.dst = some t3 ∧ n1.guard = none) (hn2 : n2.op = .extract (.tmp t3) 0 ∧ n2.dst = some t4 ∧ n2.guard = none)
  (hu : P.underlying ty = some .string) (hx : trO P 0 x = some y) (hy : S.opd y = stV s)
  (h0 : I 0 S) (h1 : get S.env t1 = none ∧ get S.env t2 = none)
  (hpos : ∀ p, p < s.size → 1 ≤ (Utf8.decode s p).2)
  (step : ∀ (b p : Nat) (T : St), p < s.size → I p T → T.fix = S.fix → Vw P N rest ⟨put (put (put T.env t2 (itV b)) t3 (tuV s p)) t4 (boV true), T.roots, T.next, T.fix⟩ fun e S' => e = .normal ∧ get S'.env t2 = some (itV b) ∧ ∃ T', I (p + (Utf8.decode s p).2) T' ∧ NoIm T'.roots ∧ Le S' T')
  (stop : ∀ (p : Nat) (T : St), ¬ p < s.size → I p T → T.fix = S.fix → Vw P N rest ⟨put (put T.env t3 (.tp [.c (.lf (.bool false))])) t4 (boV false), T.roots, T.next, T.fix⟩ fun e S' => e = .exit B ∧ Q .normal S') :
  Vw P N (.seq (.region i4 #[o1, o2] false) (.block B (.loop (.seq (.region i5 #[n1, n2] false) rest)))) S Q := fun w0 own0 pl0 g pl a w hR => by
 have hxv : a.eval x = .string s := by
  have hv := opd_ok hR hx
  rw [hy] at hv
  exact hv.1
 refine wp_seq (wp_region_lit ?_)
 refine wpList_plain ho1.2.2 fun K hK => wp_mv x ho1.1 (hK _ _ ?_)
 rw [ho1.2.1, hxv]
 have hR1 := rel_put1 hR (t := t1) (x := stV s) (v := .string s) hN.1 hR.hp ⟨rfl, rfl⟩
 refine wpList_plain ho2.2.2 fun K hK => wp_range ho2.1 (s := s) ?_ hu (hK _ _ ?_)
 ·show (a.put (some t1) (.string s)).tmps.getD t1 undef = _
  rw [getD_put hR.size hN.1, if_pos rfl]
 rw [ho2.2.1]
 refine wpList_nil ?_
 show (Code.block B _).wp P _ _ _
 have hR2 := rel_sub (T := S) (rel_put1 hR1 (t := t2) (x := .un) (v := .pointer (some ⟨w.heap.size, 0, none⟩)) hN.2.1 (hR1.hp.newBlk (.stringIter s 0)) trivial) rfl rfl (fun t x hx => by
  rw [get_put, get_put]
  have e1 : t1 ≠ t := fun e => by subst e; rw [h1.1] at hx; cases hx
  have e2 : t2 ≠ t := fun e => by subst e; rw [h1.2] at hx; cases hx
  rw [if_neg e2, if_neg e1]; exact hx) (fun _ _ h => h)
 have hlt : w0.heap.size ≤ w.heap.size := hR.hp.fr.size
 have hg0 : ∀ o, g w.heap.size o = none := fun o => by
  cases h : g w.heap.size o with
  | none => rfl
  | some x => have := (hR.hp.lab _ _ _ h).1; omega
 have ht0 : ((a.put (some t1) (.string s)).put (some t2) (.pointer (some ⟨w.heap.size, 0, none⟩))).tmps.getD t2 undef = .pointer (some ⟨w.heap.size, 0, none⟩) := by rw [getD_put hR1.size hN.2.1, if_pos rfl]
 generalize hb0 : w.heap.size = b at *
 have hi0 : (w.iter s 0).heap[b]? = some (.stringIter s 0) := by rw [← hb0]; exact World.iter_heap w s 0
 refine wp_block ?_
 refine wp_loop_ghost (fun k a w => ∃ p T g pl, k = s.size - p ∧ I p T ∧ T.fix = S.fix ∧ Rel N w0 own0 pl0 g pl T a w ∧ a.tmps.getD t2 undef = .pointer (some ⟨b, 0, none⟩) ∧ w.heap[b]? = some (.stringIter s p) ∧ ∀ o, g b o = none) s.size ⟨0, _, g, pl, rfl, h0, rfl, hR2, ht0, hi0, hg0⟩ ?_
 clear hR2 ht0 hi0 hg0 hR1 hxv hR hb0 h0
 rintro k a w ⟨p, T, g, pl, rfl, hI, hf, hR, ht, hb, hg⟩
 by_cases hp : p < s.size
 ·refine wp_seq (wp_region_lit ?_)
  refine wpList_plain hn1.2.2 fun K hK => wp_next hn1.1 (v := .tuple #[.bool true, .int .i64 p, .int .i32 (Utf8.decode s p).1]) (w' := setBlk w b (.stringIter s (p + (Utf8.decode s p).2))) ?_ (hK _ _ ?_)
  ·show (Instr.next (a.tmps.getD t2 undef) true n1.type).run P w = _
   rw [ht]; exact run_next_blk hb hp
  rw [hn1.2.1]
  refine wpList_plain hn2.2.2 fun K hK => wp_extr hn2.1 (vs := #[.bool true, .int .i64 p, .int .i32 (Utf8.decode s p).1]) (v := .bool true) ?_ rfl (hK _ _ (wpList_nil ?_))
  ·show (a.put (some t3) _).tmps.getD t3 undef = _
   rw [getD_put hR.size hN.2.2.1, if_pos rfl]
  rw [hn2.2.1]
  have hRa := rel_know hR (t := t2) (x := itV b) ⟨ht, rfl⟩
  have hRb := rel_put1 hRa (t := t3) (x := tuV s p) (v := .tuple #[.bool true, .int .i64 p, .int .i32 (Utf8.decode s p).1]) hN.2.2.1 (hR.hp.setBlk hlt hg (.stringIter s (p + (Utf8.decode s p).2))) ⟨[.bool true, .int .i64 p, .int .i32 (Utf8.decode s p).1], rfl, ⟨rfl, rfl⟩, ⟨rfl, rfl⟩, ⟨rfl, rfl⟩, trivial⟩
  have hRc := rel_put1 hRb (t := t4) (x := boV true) (v := .bool true) hN.2.2.2 hRb.hp ⟨rfl, rfl⟩
  have hw := step b p T hp hI hf (setBlk w b (.stringIter s (p + (Utf8.decode s p).2))) (lbl g) pl g pl _ _ ⟨hRc.hp.into, hRc.size, hRc.defers, hRc.env⟩
  refine wp_mono hw ?_
  rintro e a' w' ⟨S', g', pl', ⟨rfl, ht', T', hI', hno, hle⟩, hf', r⟩
  obtain ⟨g2, pl2, r2⟩ := hle.2 _ _ _ _ _ _ _ _ r
  have hb1 := setBlk_at (x := .stringIter s (p + (Utf8.decode s p).2)) hb
  have hbs : b < (setBlk w b (.stringIter s (p + (Utf8.decode s p).2))).heap.size := by
   rcases Nat.lt_or_ge b (setBlk w b (.stringIter s (p + (Utf8.decode s p).2))).heap.size with h | h
   ·exact h
   ·rw [Array.getElem?_eq_none h] at hb1; cases hb1
  have hnl : ∀ o, ¬ lbl g b o := fun o ⟨x, hx⟩ => by rw [hg] at hx; cases hx
  have hfx : T'.fix = T.fix := by rw [hle.1, hf']
  have hr2 := r2.hp
  rw [hfx] at hr2
  refine ⟨s.size - (p + (Utf8.decode s p).2), by have := hpos p hp; omega, p + (Utf8.decode s p).2, T', g2, pl2, rfl, hI', by rw [hle.1, hf']; exact hf, ⟨by rw [hfx]; exact hRc.hp.back hr2 hno, r2.size, r2.defers, r2.env⟩, (r.env t2 _ ht').1, ?_, fun o => ?_⟩
  ·rw [r2.hp.fr.block b hbs hnl, hb1]
  ·cases h : g2 b o with
   | none => rfl
   | some x =>
    rcases (r2.hp.lab b o x h).2.1 with k | k
    ·omega
    ·exact (hnl o k).elim
 ·refine wp_seq (wp_region_lit ?_)
  refine wpList_plain hn1.2.2 fun K hK => wp_next hn1.1 (v := .tuple #[.bool false]) (w' := w) ?_ (hK _ _ ?_)
  ·show (Instr.next (a.tmps.getD t2 undef) true n1.type).run P w = _
   rw [ht]; exact run_next_blk_end hb hp
  rw [hn1.2.1]
  refine wpList_plain hn2.2.2 fun K hK => wp_extr hn2.1 (vs := #[.bool false]) (v := .bool false) ?_ rfl (hK _ _ (wpList_nil ?_))
  ·show (a.put (some t3) _).tmps.getD t3 undef = _
   rw [getD_put hR.size hN.2.2.1, if_pos rfl]
  rw [hn2.2.1]
  have hRa := rel_put1 hR (t := t3) (x := .tp [.c (.lf (.bool false))]) (v := .tuple #[.bool false]) hN.2.2.1 hR.hp ⟨[.bool false], rfl, ⟨rfl, rfl⟩, trivial⟩
  have hRb := rel_put1 hRa (t := t4) (x := boV false) (v := .bool false) hN.2.2.2 hRa.hp ⟨rfl, rfl⟩
  refine wp_mono (stop p T hp hI hf w0 own0 pl0 g pl _ _ hRb) ?_
  rintro e a' w' ⟨S', g', pl', ⟨rfl, q⟩, hf', r⟩
  show Exit.inBlock B _ (.exit B) a' w'
  simp only [Exit.inBlock]
  rw [if_pos trivial]
  exact ⟨S', g', pl', q, by rw [hf']; exact hf, r⟩
end Go.Vs
namespace Go.Vs
variable [Glb]
set_option linter.unusedVariables false
set_option linter.unusedSimpArgs false
section
variable {P : Program} {N : Nat} {Φ : List (Fx P)} {H : List (Nat × Hn)}
theorem vw_to (hm : P.follows .mixedOrders = true) {c : Code} {s : Stm} (hc : trC P N c = some s) (an : An) {X X1 : XSt} {S : St} {e1 : Exit} (hX : XOk X) (hS : SimX X S) (h : runX Φ H s an X (fun e X' => some (e, X')) = some (e1, X1)) : Vw P N c S fun e S' => e = e1 ∧ XOk X1 ∧ Ext X X1 ∧ SimX X1 S' :=
 runX_ok hm s an hX hS h (Q := fun e S' => e = e1 ∧ XOk X1 ∧ Ext X X1 ∧ SimX X1 S') (fun e X' S' a b d k => by
  simp only [Option.some.injEq, Prod.mk.injEq] at k
  obtain ⟨rfl, rfl⟩ := k
  exact ⟨rfl, a, b, d⟩) c hc
end
theorem decode_pos (s : ByteArray) (p : Nat) (h : p < s.size) : 1 ≤ (Utf8.decode s p).2 := by
 by_cases ha : (s[p]'h).toNat < 128
 ·rw [decode_ascii s p h ha]
  exact Nat.le_refl _
 ·exact (decode_high s p h (by omega)).2
def runesF : Nat → ByteArray → Nat → List Int
 | 0, _, _ => []
 | n + 1, s, p => if p < s.size then iConv .i64 ((Utf8.decode s p).1 : Int) :: runesF n s (p + (Utf8.decode s p).2) else []
theorem runesF_end {s : ByteArray} {p : Nat} (h : ¬ p < s.size) : ∀ n, runesF n s p = []
 | 0 => rfl
 | n + 1 => by simp only [runesF, if_neg h]
def Reach (s : ByteArray) (p : Nat) (ns : List Int) : Prop := (∀ n, runesF (n + ns.length) s 0 = ns ++ runesF n s p) ∧ ns.length ≤ p ∧ ns.length ≤ s.size
theorem Reach.start (s : ByteArray) : Reach s 0 [] := ⟨fun n => rfl, Nat.le_refl _, Nat.zero_le _⟩
theorem Reach.step {s : ByteArray} {p : Nat} {ns : List Int} (h : Reach s p ns) (hp : p < s.size) : Reach s (p + (Utf8.decode s p).2) (ns ++ [iConv .i64 ((Utf8.decode s p).1 : Int)]) := by
 obtain ⟨h1, h2, h3⟩ := h
 have hk := decode_pos s p hp
 refine ⟨fun n => ?_, ?_, ?_⟩
 ·rw [List.length_append, List.length_cons, List.length_nil, show n + (ns.length + (0 + 1)) = (n + 1) + ns.length by omega, h1, List.append_assoc]
  simp only [runesF, if_pos hp, List.cons_append, List.nil_append]
 ·rw [List.length_append, List.length_cons, List.length_nil]; omega
 ·rw [List.length_append, List.length_cons, List.length_nil]; omega
theorem Reach.stop {s : ByteArray} {p : Nat} {ns : List Int} (h : Reach s p ns) (hp : ¬ p < s.size) : ns = runesF s.size s 0 := by
 obtain ⟨h1, h2, h3⟩ := h
 have := h1 (s.size - ns.length)
 rw [show s.size - ns.length + ns.length = s.size by omega, runesF_end hp, List.append_nil] at this
 exact this.symm
def ptrX (b : Nat) : XV := .a (.c (.lf (.pointer (some ⟨b, 0, none⟩))))
def inR (X : XSt) (b p : Nat) (r : Nat) : XSt := ((X.put (some 12) (ptrX b)).put (some 13) (.tp [.c (.b true), .c (.i .i64 p), .c (.i .i32 r)])).put (some 14) (.a (.c (.b true)))
def inE (X : XSt) : XSt := (X.put (some 13) (.tp [.c (.b false)])).put (some 14) (.a (.c (.b false)))
def ptrOf : XV → Option Nat
 | .a (.c (.lf (.pointer (some ⟨b, 0, none⟩)))) => some b
 | _ => none
theorem ptrOf_some {v : XV} {b : Nat} (h : ptrOf v = some b) : v = ptrX b := by
 unfold ptrOf at h
 split at h
 ·simp only [Option.some.injEq] at h; subst h; rfl
 ·cases h
def roundK (X : XSt) : Exit → XSt → Option (Nat × List Int)
 | .normal, X' => match lk X'.env 12 with
  | some (_, v) => match ptrOf v with
   | some b => packN X X' [.kt 0, .ot 4 (.I .i64)] fun (s : List Int) => some (b, s)
   | none => none
  | none => none
 | _, _ => none
section
variable {P : Program} {N : Nat} {Φ : List (Fx P)} {H : List (Nat × Hn)}
theorem vw_signs (hm : P.follows .mixedOrders = true) {l : List UInt8} {i4 i5 : Nat} {o1 o2 n1 n2 : Oper} {ty : TypeId} {rest : Code} {sr : Stm} {X : XSt} {S : St} {XE : List Int → XSt}
  (hN : 14 < N) (ho1 : o1.op = .move (.tmp 0) ∧ o1.dst = some 11 ∧ o1.guard = none) (ho2 : o2.op = .range ty (.tmp 11) ∧ o2.dst = some 12 ∧ o2.guard = none)
  (hn1 : n1.op = .next (.tmp 12) true ∧ n1.dst = some 13 ∧ n1.guard = none) (hn2 : n2.op = .extract (.tmp 13) 0 ∧ n2.dst = some 14 ∧ n2.guard = none)
  (hu : P.underlying ty = some .string) (hc : trC P N rest = some sr) (hX : XOk X) (hS : SimX X S)
  (hl : l.length * 8 + 8 ≤ 140737488355328)
  (h0 : packN X X [.kt 0, .ot 4 (.I .i64)] (fun s => some s) = some ([] : List Int))
  (hx : ∀ ns : List Int, get (concS (unpackX X [.kt 0, .ot 4 (.I .i64)] ns)).env 0 = some (stV ⟨l.toArray⟩) ∧ get (concS (unpackX X [.kt 0, .ot 4 (.I .i64)] ns)).env 11 = none ∧ get (concS (unpackX X [.kt 0, .ot 4 (.I .i64)] ns)).env 12 = none)
  (hno : ∀ ns : List Int, NoIm (concS (unpackX X [.kt 0, .ot 4 (.I .i64)] ns)).roots)
  (hr : ∀ (ns : List Int) (b p r : Nat), runX Φ H sr .d (inR (unpackX X [.kt 0, .ot 4 (.I .i64)] ns) b p r) (roundK X) = chk (room (ns.length + 1) 8) (some (b, ns ++ [iConv .i64 (r : Int)])))
  (he : ∀ ns : List Int, runX Φ H sr .d (inE (unpackX X [.kt 0, .ot 4 (.I .i64)] ns)) (fun e X' => some (e, X')) = some (.exit 0, XE ns)) :
  Vw P N (.seq (.region i4 #[o1, o2] false) (.block 0 (.loop (.seq (.region i5 #[n1, n2] false) rest)))) S fun e S' => e = .normal ∧ XOk (XE (runesF l.length ⟨l.toArray⟩ 0)) ∧ SimX (XE (runesF l.length ⟨l.toArray⟩ 0)) S' := by
 obtain ⟨s0, e0, hle⟩ := packN_ok hX hX (Ext.refl X) hS h0
 have e0 : s0 = ([] : List Int) := Option.some.inj e0
 subst e0
 have hsz : (⟨l.toArray⟩ : ByteArray).size = l.length := by show l.toArray.size = _; simp
 have hx0 := hx []
 refine vw_le hle (vw_mono (vw_rangeStr (s := ⟨l.toArray⟩) (y := .t 0) (B := 0) (Q := fun e S' => e = .normal ∧ XOk (XE (runesF l.length ⟨l.toArray⟩ 0)) ∧ SimX (XE (runesF l.length ⟨l.toArray⟩ 0)) S') (fun p T => ∃ ns : List Int, T = concS (unpackX X [.kt 0, .ot 4 (.I .i64)] ns) ∧ Reach ⟨l.toArray⟩ p ns) ⟨by omega, by omega, by omega, hN⟩ ⟨by decide, by decide, by decide, by decide⟩ ho1 ho2 hn1 hn2 hu rfl ?_ ⟨[], rfl, Reach.start _⟩ ⟨hx0.2.1, hx0.2.2⟩ (fun p hp => decode_pos _ p hp) ?_ ?_) fun e S' h => h)
 ·show (get (concS (unpackX X [.kt 0, .ot 4 (.I .i64)] ([] : List Int))).env 0).getD _ = _
  rw [hx0.1]; rfl
 ·rintro b p T hp ⟨ns, rfl, hre⟩ hf
  obtain ⟨u1, u2⟩ := unpack_ok hX [.kt 0, .ot 4 (.I .i64)] ns
  have hlen := hre.2.2
  rw [hsz] at hlen
  rw [hsz] at hp
  obtain ⟨v1, v2⟩ := put_ok u1 (d := some 12) (v := ptrX b) trivial
  obtain ⟨v3, v4⟩ := put_ok v1 (d := some 13) (v := .tp [.c (.b true), .c (.i .i64 p), .c (.i .i32 (Utf8.decode ⟨l.toArray⟩ p).1)]) (by simp [okV, okA, okC])
  obtain ⟨v5, v6⟩ := put_ok v3 (d := some 14) (v := .a (.c (.b true))) trivial
  have hs1 := sim_put (sim_conc (unpackX X [.kt 0, .ot 4 (.I .i64)] ns)) (d := some 12) (v := itV b) (xv := ptrX b) (WkV.refl _)
  have hs2 := sim_put hs1 (d := some 13) (v := tuV ⟨l.toArray⟩ p) (xv := .tp [.c (.b true), .c (.i .i64 p), .c (.i .i32 (Utf8.decode ⟨l.toArray⟩ p).1)]) (WkV.refl _)
  have hs3 := sim_put hs2 (d := some 14) (v := boV true) (xv := .a (.c (.b true))) (WkV.refl _)
  have h1 := hr ns b p (Utf8.decode ⟨l.toArray⟩ p).1
  rw [room_ok (by rw [Nat.add_mul]; omega), chk_t] at h1
  refine runX_ok hm sr .d v5 hs3 h1 (fun e X' S' a1 a2 a3 a4 => ?_) rest hc
  unfold roundK at a4
  split at a4
  case h_2 => cases a4
  split at a4
  case h_2 => cases a4
  rename_i s v p2
  split at a4
  case h_2 => cases a4
  rename_i b' hb'
  have := ptrOf_some hb'
  subst this
  obtain ⟨z, e1, hle2⟩ := packN_ok hX a1 (u2.trans (v2.trans (v4.trans (v6.trans a2)))) a3 a4
  simp only [Option.some.injEq, Prod.mk.injEq] at e1
  obtain ⟨rfl, rfl⟩ := e1
  refine ⟨rfl, ?_, _, ⟨_, rfl, hre.step (by rw [hsz]; exact hp)⟩, hno _, hle2⟩
  rcases a3.env 12 s _ p2 with k | ⟨y, k1, k2⟩
  ·cases k
  ·rw [k1]
   congr 1
   cases y with
   | a y =>
    cases y with
    | c y =>
     rcases k2 with k | k
     ·rw [← k]; rfl
     ·cases k
    | ag ys => exact k2.elim
   | un => exact k2.elim
   | tp xs => exact k2.elim
   | fn f c => exact k2.elim
   | sb r n => exact k2.elim
 ·rintro p T hp ⟨ns, rfl, hre⟩ hf
  obtain ⟨u1, u2⟩ := unpack_ok hX [.kt 0, .ot 4 (.I .i64)] ns
  obtain ⟨v1, v2⟩ := put_ok u1 (d := some 13) (v := .tp [.c (.b false)]) (by simp [okV, okA, okC])
  obtain ⟨v3, v4⟩ := put_ok v1 (d := some 14) (v := .a (.c (.b false))) trivial
  have hs1 := sim_put (sim_conc (unpackX X [.kt 0, .ot 4 (.I .i64)] ns)) (d := some 13) (v := .tp [.c (.lf (.bool false))]) (xv := .tp [.c (.b false)]) (WkV.refl _)
  have hs2 := sim_put hs1 (d := some 14) (v := boV false) (xv := .a (.c (.b false))) (WkV.refl _)
  refine vw_mono (vw_to hm hc .d v3 hs2 (he ns)) ?_
  rintro e S' ⟨rfl, a1, a2, a3⟩
  have := hre.stop hp
  rw [hsz] at this
  rw [← this]
  exact ⟨rfl, rfl, a1, a3⟩
end
end Go.Vs
namespace Go.Vs
set_option linter.unusedVariables false
set_option linter.unusedSimpArgs false
def ReadsAs (P : Program) (W : World) (n : String) (d : DataW Unit) : Prop :=
 ∃ g t cs fuel p, P.globalNamed n = some g ∧ (P.globals[g]?).map (·.type) = some t ∧ W.var? P n = some cs ∧ DataW.trod (fun _ => ()) P W 0 (fun _ => true) false fuel t cs.toList = some (d, p)
theorem reads_of {P : Program} {W : World} {n : String} {d : DataW Unit} : ∀ {l : List (String × DataW Unit)} {ps : List MemPlace}, DataW.LaidVars P W l ps → (n, d) ∈ l → ReadsAs P W n d
 | [], _, _, hm => by cases hm
 | (m, e) :: l, ps, h, hm => by
  obtain ⟨g, t, cs, fuel, p, q, h1, h2, h3, h4, h5, _⟩ := h
  cases hm with
  | head => exact ⟨g, t, cs, fuel, p, h1, h2, h3, h4⟩
  | tail _ hm => exact reads_of h5 hm
def byteL (b : UInt8) : DataW Unit := .lit (.int .u8 b.toNat)
def tabD (bs : List UInt8) : DataW Unit := .agg (bs.map byteL)
def pairsD : List UInt8 → List (DataW Unit)
 | a :: b :: l => .agg [byteL a, byteL b] :: pairsD l
 | _ => []
theorem pairsD_get : ∀ (l : List UInt8) (i : Nat) (a b : UInt8), l[2 * i]? = some a → l[2 * i + 1]? = some b → (pairsD l)[i]? = some (.agg [byteL a, byteL b])
 | [], i, a, b, h, _ => by simp at h
 | [x], i, a, b, h, k => by cases i <;> simp at k
 | x :: y :: l, 0, a, b, h, k => by
  simp only [Nat.mul_zero, List.getElem?_cons_zero, Option.some.injEq] at h
  simp only [Nat.mul_zero, Nat.zero_add, List.getElem?_cons_succ, List.getElem?_cons_zero, Option.some.injEq] at k
  subst h k; rfl
 | x :: y :: l, i + 1, a, b, h, k => by
  rw [show 2 * (i + 1) = 2 * i + 1 + 1 by omega, List.getElem?_cons_succ, List.getElem?_cons_succ] at h
  rw [show 2 * (i + 1) + 1 = 2 * i + 1 + 1 + 1 by omega, List.getElem?_cons_succ, List.getElem?_cons_succ] at k
  exact pairsD_get l i a b h k
theorem cell_lt {W : World} {g o : Nat} {v : Value} (h : W.cell? ⟨g, o, none⟩ = some v) : g < W.heap.size := by
 rcases Nat.lt_or_ge g W.heap.size with k | k
 ·exact k
 ·simp only [World.cell?, Array.getElem?_eq_none k] at h; cases h
theorem one_u8 {P : Program} {W : World} {fuel : Nat} {e : TypeId} {cs : List Value} {i : Nat} {b : UInt8} {x : DataW Unit × List MemPlace} (he : P.underlying e = some (.int .u8)) (h : DataW.trod (fun _ => ()) P W 0 (fun _ => true) false fuel e ((cs.drop i).take 1) = some x) (hx : x.1 = byteL b) : cs[i]? = some (.int .u8 b.toNat) := by
 obtain ⟨z, e1, e2, _⟩ := DataW.trod_int he h
 rw [e2] at hx
 simp only [byteL, DataW.lit.injEq, Lit.int.injEq, true_and] at hx
 subst hx
 have h0 : ((cs.drop i).take 1)[0]? = some (.int .u8 (b.toNat : Int)) := by rw [e1]; rfl
 simpa using h0
theorem tab_cells {P : Program} {W : World} {n : String} {g t e N : Nat} {bs : List UInt8} (hg : P.globalNamed n = some g) (hty : (P.globals[g]?).map (·.type) = some t) (ht : P.underlying t = some (.array N e)) (he : P.underlying e = some (.int .u8)) (hc : P.cellsOf e = 1) (hr : ReadsAs P W n (tabD bs)) :
  ∀ (o : Nat) (y : UInt8), bs[o]? = some y → g < W.heap.size ∧ W.cell? ⟨g, o, none⟩ = some (.int .u8 y.toNat) := by
 obtain ⟨g', t', cs, fuel, p, hg', hty', hv, hd⟩ := hr
 rw [hg] at hg'
 cases hg'
 rw [hty] at hty'
 cases hty'
 obtain ⟨xs, m, _, ex, _, hl, hel⟩ := DataW.trod_array ht hd
 have e3 : xs.map (·.1) = bs.map byteL := (DataW.agg.inj (Prod.mk.inj ex).1).symm
 intro o y hy
 have hlen : xs.length = bs.length := by simpa using congrArg List.length e3
 have ho : o < bs.length := (List.getElem?_eq_some_iff.1 hy).1
 have hE := hel o (by omega)
 rw [hc, Nat.mul_one, List.getElem?_eq_getElem (by omega)] at hE
 have e4 : (xs.map (·.1))[o]? = (bs.map byteL)[o]? := by rw [e3]
 rw [List.getElem?_map, List.getElem?_map, List.getElem?_eq_getElem (by omega), hy] at e4
 simp only [Option.map_some, Option.some.injEq] at e4
 have h1 := one_u8 he hE e4
 have h2 : W.cell? ⟨g, o, none⟩ = some (.int .u8 y.toNat) := by rw [World.var?_cell hg hv o]; simpa using h1
 exact ⟨cell_lt h2, h2⟩
theorem pair_cells {P : Program} {W : World} {n : String} {g t s N : Nat} {f0 f1 : Field} {bs : List UInt8} (hg : P.globalNamed n = some g) (hty : (P.globals[g]?).map (·.type) = some t) (ht : P.underlying t = some (.array N s)) (hs : P.underlying s = some (.struct #[f0, f1])) (h0 : P.underlying f0.type = some (.int .u8)) (h1 : P.underlying f1.type = some (.int .u8)) (c0 : P.cellsOf f0.type = 1) (c1 : P.cellsOf f1.type = 1) (o0 : f0.offset = 0) (o1 : f1.offset = 1) (hc : P.cellsOf s = 2) (hN : bs.length = 2 * N) (hr : ReadsAs P W n (.agg (pairsD bs))) :
  ∀ (o : Nat) (y : UInt8), bs[o]? = some y → g < W.heap.size ∧ W.cell? ⟨g, o, none⟩ = some (.int .u8 y.toNat) := by
 obtain ⟨g', t', cs, fuel, p, hg', hty', hv, hd⟩ := hr
 rw [hg] at hg'
 cases hg'
 rw [hty] at hty'
 cases hty'
 obtain ⟨xs, m, _, ex, _, hl, hel⟩ := DataW.trod_array ht hd
 have e3 : xs.map (·.1) = pairsD bs := (DataW.agg.inj (Prod.mk.inj ex).1).symm
 intro o y hy
 have ho : o < bs.length := (List.getElem?_eq_some_iff.1 hy).1
 -- the pair it stands in
 have key : ∀ i, i < N → ∃ a b : UInt8, bs[2 * i]? = some a ∧ bs[2 * i + 1]? = some b ∧ cs.toList[2 * i]? = some (.int .u8 a.toNat) ∧ cs.toList[2 * i + 1]? = some (.int .u8 b.toNat) := by
  intro i hi
  refine ⟨bs[2 * i]'(by omega), bs[2 * i + 1]'(by omega), List.getElem?_eq_getElem _, List.getElem?_eq_getElem _, ?_⟩
  have hE := hel i hi
  rw [hc, List.getElem?_eq_getElem (by omega)] at hE
  have hp := pairsD_get bs i _ _ (List.getElem?_eq_getElem (show 2 * i < bs.length by omega)) (List.getElem?_eq_getElem (show 2 * i + 1 < bs.length by omega))
  rw [← e3, List.getElem?_map, List.getElem?_eq_getElem (by omega)] at hp
  simp only [Option.map_some, Option.some.injEq] at hp
  obtain ⟨ys, k, _, ey, _, _, hf⟩ := DataW.trod_struct hs hE
  have hy1 : ys.map (·.1) = [byteL (bs[2 * i]'(by omega)), byteL (bs[2 * i + 1]'(by omega))] := by
   rw [ey] at hp
   exact DataW.agg.inj hp
  match ys, hy1 with
  | [u, v], hy1 =>
   simp only [List.map_cons, List.map_nil, List.cons.injEq, and_true] at hy1
   have q0 := hf 0 f0 rfl
   have q1 := hf 1 f1 rfl
   rw [o0, c0] at q0
   rw [o1, c1] at q1
   have r0 := one_u8 h0 q0 hy1.1
   have r1 := one_u8 h1 q1 hy1.2
   rw [List.getElem?_take, if_pos (by omega), List.getElem?_drop] at r0 r1
   rw [show i * 2 + 0 = 2 * i by omega] at r0
   rw [show i * 2 + 1 = 2 * i + 1 by omega] at r1
   exact ⟨r0, r1⟩
 obtain ⟨a, b, k1, k2, k3, k4⟩ := key (o / 2) (by omega)
 have h2 : W.cell? ⟨g, o, none⟩ = some (.int .u8 y.toNat) := by
  rw [World.var?_cell hg hv o, ← Array.getElem?_toList]
  rcases (show o = 2 * (o / 2) ∨ o = 2 * (o / 2) + 1 by omega) with h | h
  ·rw [← h] at k1 k3
   rw [hy] at k1
   cases k1
   exact k3
  ·rw [← h] at k2 k4
   rw [hy] at k2
   cases k2
   exact k4
 exact ⟨cell_lt h2, h2⟩
theorem glbAt_two {bs cs : List UInt8} {W : World} (h0 : ∀ (o : Nat) (y : UInt8), bs[o]? = some y → 0 < W.heap.size ∧ W.cell? ⟨0, o, none⟩ = some (.int .u8 y.toNat)) (h1 : ∀ (o : Nat) (y : UInt8), cs[o]? = some y → 1 < W.heap.size ∧ W.cell? ⟨1, o, none⟩ = some (.int .u8 y.toNat)) :
  ∀ b o v, @glbAt ⟨[(0, bs), (1, cs)]⟩ b o = some v → b < W.heap.size ∧ W.cell? ⟨b, o, none⟩ = some v := by
 intro b o v h
 match b, h with
 | 0, h =>
  have e : @glbAt ⟨[(0, bs), (1, cs)]⟩ 0 o = (match bs[o]? with | some y => some (.int .u8 y.toNat) | none => none) := rfl
  rw [e] at h
  split at h
  ·rename_i y hy
   cases h
   exact h0 o y hy
  ·cases h
 | 1, h =>
  have e : @glbAt ⟨[(0, bs), (1, cs)]⟩ 1 o = (match cs[o]? with | some y => some (.int .u8 y.toNat) | none => none) := rfl
  rw [e] at h
  split at h
  ·rename_i y hy
   cases h
   exact h1 o y hy
  ·cases h
 | b + 2, h =>
  have e : @glbAt ⟨[(0, bs), (1, cs)]⟩ (b + 2) o = none := rfl
  rw [e] at h; cases h
end Go.Vs
