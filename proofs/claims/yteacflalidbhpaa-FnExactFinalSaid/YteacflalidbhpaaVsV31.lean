import Derived.Test.YteacflalidbhpaaVsV30
set_option linter.unusedVariables false
set_option linter.unusedSimpArgs false
namespace Go.Vs
set_option linter.unusedVariables false
set_option linter.unusedSimpArgs false

/-! ## a region whose order is drawn -/
/-- One of its operations: who must come first (all of them), does it write, between which writers it may run. -/
structure DI where
  gi : GI
  anc : List Nat
  w : Bool
  lo : Nat
  hi : Nat
  deriving Inhabited
abbrev Mem := List (Nat × Root) × Nat
structure Pend where
  gi : GI
  E : List (Nat × V)
  x : V
  hi : Nat
def envSel (p : Nat → Bool) : Nat → List (Option Nat × V) → List (Nat × V)
  | _, [] => []
  | i, (some d, x) :: l => if p i then (d, x) :: envSel p (i + 1) l else envSel p (i + 1) l
  | i, (none, _) :: l => envSel p (i + 1) l
/-- In the text's order; each that writes nothing is looked at again in each memory that it may meet. -/
def drawGo (P : Program) (fix : Nat) (E0 : List (Nat × V)) : List DI → List (Option Nat × V) → List Mem → List Pend → (St → Prop) → Prop
  | [], D, m :: _, _, K => K ⟨envSel (fun _ => true) 0 D ++ E0, m.1, m.2, fix⟩
  | it :: l, D, m :: hist, pend, K =>
    stepV P it.gi ⟨envSel (fun j => it.anc.contains j) 0 D ++ E0, m.1, m.2, fix⟩ fun x ks r n =>
      if it.w then ks = [] ∧ (∀ p ∈ pend, hist.length + 1 ≤ p.hi → stepV P p.gi ⟨p.E, r, n, fix⟩ fun x' _ _ _ => x' = p.x) ∧
        drawGo P fix E0 l (D ++ [(it.gi.dst, x)]) ((r, n) :: m :: hist) pend K
      else (∀ mm ∈ hist.take (hist.length - it.lo), stepV P it.gi ⟨envSel (fun j => it.anc.contains j) 0 D ++ E0, mm.1, mm.2, fix⟩ fun x' _ _ _ => x' = x) ∧
        drawGo P fix E0 l (D ++ [(it.gi.dst, x)]) (m :: hist) (if hist.length < it.hi then ⟨it.gi, envSel (fun j => it.anc.contains j) 0 D ++ E0, x, it.hi⟩ :: pend else pend) K
  | _, _, [], _, _ => False

def nW : List DI → Nat
  | [] => 0
  | it :: l => (if it.w then 1 else 0) + nW l
theorem envSel_append (p : Nat → Bool) : ∀ (D R : List (Option Nat × V)) (i : Nat), envSel p i (D ++ R) = envSel p i D ++ envSel p (i + D.length) R
  | [], R, i => rfl
  | (some d, x) :: D, R, i => by
    simp only [List.cons_append, envSel, envSel_append p D R (i + 1), List.length_cons]
    rw [show i + 1 + D.length = i + (D.length + 1) by omega]
    split <;> rfl
  | (none, x) :: D, R, i => by
    simp only [List.cons_append, envSel, envSel_append p D R (i + 1), List.length_cons]
    rw [show i + 1 + D.length = i + (D.length + 1) by omega]
theorem envSel_none (p : Nat → Bool) : ∀ (R : List (Option Nat × V)) (i : Nat), (∀ j, i ≤ j → p j = false) → envSel p i R = []
  | [], i, _ => rfl
  | (some d, x) :: R, i, h => by simp only [envSel]; rw [h i (Nat.le_refl _)]; simp; exact envSel_none p R (i + 1) fun j hj => h j (by omega)
  | (none, x) :: R, i, h => envSel_none p R (i + 1) fun j hj => h j (by omega)
theorem stepV_mono {P : Program} {g : GI} {S : St} {K K' : KW} (h : stepV P g S K) (hk : ∀ x ks r n, K x ks r n → K' x ks r n) : stepV P g S K' := by
  obtain ⟨x, ks, r, n, h1, h2⟩ := stepV_ext h
  exact h2 K' (hk _ _ _ _ h1)

/-- What holds of a region, its values and its memories. -/
structure Drawn (P : Program) (fix : Nat) (E0 : List (Nat × V)) (its : List DI) (k0 : Nat) (D : List (Option Nat × V)) (R : List (Option Nat × V)) (M : List Mem) : Prop where
  len : R.length = its.length
  dst : ∀ (j : Nat) (it : DI) (y : Option Nat × V), its[j]? = some it → R[j]? = some y → y.1 = it.gi.dst
  mlen : M.length = k0 + nW its + 1
  rd : ∀ (j : Nat) (it : DI) (y : Option Nat × V), its[j]? = some it → R[j]? = some y → it.w = false → ∀ (k : Nat) (mm : Mem), it.lo ≤ k → k ≤ it.hi → M[k]? = some mm → stepV P it.gi ⟨envSel (fun j => it.anc.contains j) 0 (D ++ R) ++ E0, mm.1, mm.2, fix⟩ fun x' _ _ _ => x' = y.2
  wr : ∀ (j : Nat) (it : DI) (y : Option Nat × V), its[j]? = some it → R[j]? = some y → it.w = true → ∀ (mm mm' : Mem), M[k0 + nW (its.take j)]? = some mm → M[k0 + nW (its.take j) + 1]? = some mm' → stepV P it.gi ⟨envSel (fun j => it.anc.contains j) 0 (D ++ R) ++ E0, mm.1, mm.2, fix⟩ fun x' ks r n => x' = y.2 ∧ ks = [] ∧ r = mm'.1 ∧ n = mm'.2
theorem drawGo_ext {P : Program} {fix : Nat} {E0 : List (Nat × V)} {K : St → Prop} : ∀ (its : List DI) (D : List (Option Nat × V)) (m : Mem) (hist : List Mem) (pend : List Pend), (∀ (j : Nat) (it : DI), its[j]? = some it → ∀ a ∈ it.anc, a < D.length + j) → drawGo P fix E0 its D (m :: hist) pend K →
    ∃ R ms, Drawn P fix E0 its hist.length D R (hist.reverse ++ m :: ms) ∧ (∀ p ∈ pend, ∀ (k : Nat) (mm : Mem), hist.length + 1 ≤ k → k ≤ p.hi → (hist.reverse ++ m :: ms)[k]? = some mm → stepV P p.gi ⟨p.E, mm.1, mm.2, fix⟩ fun x' _ _ _ => x' = p.x) ∧
      ∃ mm : Mem, (hist.reverse ++ m :: ms)[hist.length + nW its]? = some mm ∧ K ⟨envSel (fun _ => true) 0 (D ++ R) ++ E0, mm.1, mm.2, fix⟩
  | [], D, m, hist, pend, _, h => by
    refine ⟨[], [], ⟨rfl, by simp, by simp [nW], by simp, by simp⟩, ?_, m, by simp [nW], by simpa [drawGo] using h⟩
    intro p hp k mm hk _ hmm
    rw [List.getElem?_eq_none (by simp; omega)] at hmm
    simp at hmm
  | it :: its, D, m, hist, pend, hanc, h => by
    simp only [drawGo] at h
    obtain ⟨x, ks, r, n, h1, hall⟩ := stepV_ext h
    have hE : ∀ R : List (Option Nat × V), envSel (fun j => it.anc.contains j) 0 (D ++ R) = envSel (fun j => it.anc.contains j) 0 D := by
      intro R
      rw [envSel_append, envSel_none _ R _ ?_, List.append_nil]
      intro j hj
      have hno : j ∉ it.anc := fun hm => by have := hanc 0 it rfl j hm; omega
      simpa using hno
    have hanc' : ∀ j it', its[j]? = some it' → ∀ a ∈ it'.anc, a < (D ++ [(it.gi.dst, x)]).length + j := by
      intro j it' hj a ha
      have := hanc (j + 1) it' (by simpa using hj) a ha
      simp; omega
    have hDR : ∀ R, D ++ (it.gi.dst, x) :: R = D ++ [(it.gi.dst, x)] ++ R := fun R => by simp
    cases hw : it.w with
    | true =>
      rw [hw] at h1
      simp only [if_true] at h1
      obtain ⟨rfl, hp, hgo⟩ := h1
      obtain ⟨R, ms, hd, hpe, mm, hmm, hK⟩ := drawGo_ext its _ (r, n) (m :: hist) pend hanc' hgo
      have hM : (m :: hist).reverse ++ (r, n) :: ms = hist.reverse ++ m :: (r, n) :: ms := by simp
      rw [hM] at hd hpe hmm
      have hnW : nW (it :: its) = 1 + nW its := by simp [nW, hw]
      refine ⟨(it.gi.dst, x) :: R, (r, n) :: ms, ⟨by simp [hd.len], ?_, ?_, ?_, ?_⟩, ?_, mm, ?_, by rw [hDR]; exact hK⟩
      · intro j it' y hj hy
        cases j with
        | zero => simp at hj hy; subst hj hy; rfl
        | succ j => exact hd.dst j it' y (by simpa using hj) (by simpa using hy)
      · rw [hd.mlen, hnW]; simp only [List.length_cons]; omega
      · intro j it' y hj hy hw' k mm hlo hhi hk
        cases j with
        | zero => simp at hj; subst hj; rw [hw] at hw'; simp at hw'
        | succ j =>
          rw [hDR]
          exact hd.rd j it' y (by simpa using hj) (by simpa using hy) hw' k mm hlo hhi hk
      · intro j it' y hj hy hw' mm mm' hk hk'
        cases j with
        | zero =>
          simp at hj hy; subst hj hy
          simp only [List.take_zero, nW, Nat.add_zero] at hk hk'
          have e1 : mm = m := by rw [List.getElem?_append_right (by simp)] at hk; simpa using hk.symm
          have e2 : mm' = (r, n) := by rw [List.getElem?_append_right (by simp)] at hk'; simpa using hk'.symm
          subst e1 e2
          rw [hE]
          exact hall _ ⟨rfl, rfl, rfl, rfl⟩
        | succ j =>
          rw [hDR]
          simp only [List.take_succ_cons, nW, hw, if_true] at hk hk'
          exact hd.wr j it' y (by simpa using hj) (by simpa using hy) hw' mm mm' (by rw [← hk]; congr 1; simp only [List.length_cons]; omega) (by rw [← hk']; congr 1; simp only [List.length_cons]; omega)
      · intro p hpp k mm hk hki hmm
        by_cases hk1 : k = hist.length + 1
        · subst hk1
          have e2 : mm = (r, n) := by rw [List.getElem?_append_right (by simp)] at hmm; simpa using hmm.symm
          subst e2
          exact hp p hpp hki
        · exact hpe p hpp k mm (by simp only [List.length_cons]; omega) hki hmm
      · rw [hnW, ← hmm]; congr 1; simp only [List.length_cons]; omega
    | false =>
      rw [hw] at h1
      simp only [Bool.false_eq_true, if_false] at h1
      obtain ⟨hot, hgo⟩ := h1
      obtain ⟨R, ms, hd, hpe, mm, hmm, hK⟩ := drawGo_ext its _ m hist _ hanc' hgo
      have hnW : nW (it :: its) = nW its := by simp [nW, hw]
      refine ⟨(it.gi.dst, x) :: R, ms, ⟨by simp [hd.len], ?_, ?_, ?_, ?_⟩, ?_, mm, ?_, by rw [hDR]; exact hK⟩
      · intro j it' y hj hy
        cases j with
        | zero => simp at hj hy; subst hj hy; rfl
        | succ j => exact hd.dst j it' y (by simpa using hj) (by simpa using hy)
      · rw [hd.mlen, hnW]
      · intro j it' y hj hy hw' k mm hlo hhi hk
        cases j with
        | zero =>
          simp at hj hy; subst hj hy
          rw [hE]
          rcases Nat.lt_trichotomy k hist.length with hlt | heq | hgt
          · rw [List.getElem?_append_left (by simpa using hlt), List.getElem?_reverse hlt] at hk
            refine hot mm ?_
            refine List.mem_of_getElem? (i := hist.length - 1 - k) ?_
            rw [List.getElem?_take, if_pos (by omega)]
            exact hk
          · subst heq
            have e1 : mm = m := by rw [List.getElem?_append_right (by simp)] at hk; simpa using hk.symm
            subst e1
            exact hall _ rfl
          · have := hpe ⟨it.gi, envSel (fun j => it.anc.contains j) 0 D ++ E0, x, it.hi⟩ (by rw [if_pos (by omega)]; simp) k mm (by omega) hhi hk
            exact this
        | succ j =>
          rw [hDR]
          exact hd.rd j it' y (by simpa using hj) (by simpa using hy) hw' k mm hlo hhi hk
      · intro j it' y hj hy hw' mm mm' hk hk'
        cases j with
        | zero => simp at hj; subst hj; rw [hw] at hw'; simp at hw'
        | succ j =>
          rw [hDR]
          simp only [List.take_succ_cons, nW, hw, Bool.false_eq_true, if_false, Nat.zero_add] at hk hk'
          exact hd.wr j it' y (by simpa using hj) (by simpa using hy) hw' mm mm' hk hk'
      · intro p hpp k mm hk hki hmm
        exact hpe p (by split <;> simp [hpp]) k mm hk hki hmm
      · rw [hnW]; exact hmm
end Go.Vs
