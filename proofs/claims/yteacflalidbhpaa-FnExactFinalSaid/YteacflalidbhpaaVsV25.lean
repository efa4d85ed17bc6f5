import Derived.Test.YteacflalidbhpaaVsV24
set_option linter.unusedVariables false
set_option linter.unusedSimpArgs false
namespace Go.Vs
set_option linter.unusedVariables false
set_option linter.unusedSimpArgs false

/-! ## what is given back -/
theorem newCs_shift : ∀ (ds : List D) (a b : Nat) (r : Nat) (x : Root), get (newCs ds a).2.1 r = some x → a ≤ r ∧ get (newCs ds b).2.1 (r - a + b) = some x ∧ ∃ sz es, x = .tr sz es
  | [], a, b, r, x, h => by simp [newCs, get] at h
  | .lf v :: l, a, b, r, x, h => newCs_shift l a b r x h
  | .hole :: l, a, b, r, x, h => newCs_shift l a b r x h
  | .sl sz es :: l, a, b, r, x, h => by
    simp only [newCs, get] at h ⊢
    split at h
    · rename_i e; subst e
      simp only [Option.some.injEq] at h; subst h
      exact ⟨Nat.le_refl _, by rw [if_pos (by omega)], _, _, rfl⟩
    · obtain ⟨h1, h2, h3⟩ := newCs_shift l (a + 1) (b + 1) r x h
      refine ⟨by omega, ?_, h3⟩
      rw [if_neg (by omega)]
      rw [show r - a + b = r - (a + 1) + (b + 1) by omega]
      exact h2
theorem newCs_cr {pl1 pl2 : Pls} {n0 n1 nC nF : Nat} (hnF : ∀ id, n1 ≤ id → id < nC → id - n1 + n0 < nF) : ∀ (ds : List D) (us : List Value) (j : Nat), All2 (CR pl2 nC) (newCs ds (n1 + j)).1 us → All2 (CR (plB pl1 pl2 n0 n1) nF) (newCs ds (n0 + j)).1 us
  | [], [], _, _ => trivial
  | [], _ :: _, _, h => h.elim
  | .lf v :: l, [], _, h => h.elim
  | .hole :: l, [], _, h => h.elim
  | .sl sz es :: l, [], _, h => h.elim
  | .lf v :: l, u :: us, j, h => ⟨h.1, newCs_cr hnF l us j h.2⟩
  | .hole :: l, u :: us, j, h => ⟨h.1, newCs_cr hnF l us j h.2⟩
  | .sl sz es :: l, u :: us, j, h => by
    simp only [newCs] at h ⊢
    obtain ⟨h1, h2⟩ := h
    have e : n0 + j = n1 + j - n1 + n0 := by omega
    refine ⟨⟨?_, ?_⟩, newCs_cr hnF l us (j + 1) h2⟩
    · rw [e]; exact hnF _ (by omega) h1.1
    · rw [e, plB_ge (by omega)]; exact h1.2
theorem newCs_nx (ds : List D) : ∀ (a b : Nat), (newCs ds a).2.2 - a = (newCs ds b).2.2 - b := by
  induction ds with
  | nil => intro a b; simp [newCs]
  | cons d ds ih =>
    intro a b
    cases d with
    | lf v => exact ih a b
    | hole => exact ih a b
    | sl sz es =>
      have := ih (a + 1) (b + 1)
      have h1 := (newCs_le ds (a + 1)).1
      have h2 := (newCs_le ds (b + 1)).1
      simp only [newCs]
      omega

/-! ## results -/
def shA (x : A) : Bool × Nat := ((cellsA x).1, (cellsA x).2.length)
theorem cellsA_ok {pl : Pls} {nx : Nat} {x : A} {v : Value} (h : AR pl nx x v) : ∃ us, All2 (CR pl nx) (cellsA x).2 us ∧ ∀ (pl2 : Pls) (nx2 : Nat) (ys : List C), ys.length = (cellsA x).2.length → All2 (CR pl2 nx2) ys us → AR pl2 nx2 (newA (cellsA x).1 ys) v := by
  cases x with
  | c c =>
    refine ⟨[v], ⟨h, trivial⟩, fun pl2 nx2 ys hl hy => ?_⟩
    match ys, hl, hy with
    | [y], _, hy => exact hy.1
  | ag cs =>
    obtain ⟨us, rfl, hu⟩ := h
    exact ⟨us, hu, fun pl2 nx2 ys hl hy => ⟨us, rfl, hy⟩⟩
theorem comps_ok {pl : Pls} {nx : Nat} : ∀ {xs : List A} {vs : List Value}, All2 (AR pl nx) xs vs → ∃ us, All2 (CR pl nx) (xs.flatMap fun x => (cellsA x).2) us ∧ ∀ (pl2 : Pls) (nx2 : Nat) (os : List (Bool × List D)) (ys : List C) (more : List Value), xs.map shA = os.map (fun x => (x.1, x.2.length)) → All2 (CR pl2 nx2) ys (us ++ more) → All2 (AR pl2 nx2) (newRes os ys) vs
  | [], [], _ => ⟨[], trivial, fun pl2 nx2 os ys more ho hy => by
      cases os with
      | nil => trivial
      | cons o os => simp at ho⟩
  | [], _ :: _, h => h.elim
  | _ :: _, [], h => h.elim
  | x :: xs, v :: vs, h => by
    obtain ⟨u1, h1, k1⟩ := cellsA_ok h.1
    obtain ⟨u2, h2, k2⟩ := comps_ok h.2
    refine ⟨u1 ++ u2, by rw [List.flatMap_cons]; exact All2.append h1 h2, fun pl2 nx2 os ys more ho hy => ?_⟩
    cases os with
    | nil => simp at ho
    | cons o os =>
      obtain ⟨ag, ds⟩ := o
      simp only [List.map_cons, List.cons.injEq, shA, Prod.mk.injEq] at ho
      obtain ⟨⟨e1, e2⟩, e3⟩ := ho
      have hl1 : u1.length = ds.length := by rw [← h1.length, e2]
      rw [List.append_assoc] at hy
      have t := All2.take ds.length hy
      have dd := All2.drop ds.length hy
      rw [List.take_left' hl1] at t
      rw [List.drop_left' hl1] at dd
      simp only [newRes]
      refine ⟨?_, k2 pl2 nx2 os _ more (by rw [← e3]) dd⟩
      rw [← e1]
      exact k1 pl2 nx2 _ (by rw [t.length, hl1, e2]) t
theorem res_ok {pl : Pls} {nx : Nat} {x : V} {v : Value} {xs : List A} (hc : compsV x = some xs) (h : VR pl nx x v) : ∃ us, All2 (CR pl nx) (xs.flatMap fun x => (cellsA x).2) us ∧ ∀ (pl2 : Pls) (nx2 : Nat) (os : List (Bool × List D)) (ys : List C) (more : List Value), xs.map shA = os.map (fun x => (x.1, x.2.length)) → All2 (CR pl2 nx2) ys (us ++ more) → VR pl2 nx2 (resV (newRes os ys)) v := by
  unfold compsV at hc
  split at hc
  · simp only [Option.some.injEq] at hc; subst hc
    obtain ⟨us, h1, h2⟩ := comps_ok (pl := pl) (nx := nx) (xs := [_]) (vs := [v]) ⟨h, trivial⟩
    refine ⟨us, h1, fun pl2 nx2 os ys more ho hy => ?_⟩
    have := h2 pl2 nx2 os ys more ho hy
    match hq : newRes os ys, this with
    | [y], this => exact this.1
  · simp at hc
  · rename_i xs' hne
    simp only [Option.some.injEq] at hc; subst hc
    obtain ⟨vs, rfl, hv⟩ := h
    obtain ⟨us, h1, h2⟩ := comps_ok hv
    refine ⟨us, h1, fun pl2 nx2 os ys more ho hy => ?_⟩
    have := h2 pl2 nx2 os ys more ho hy
    have hl := this.length
    have hl2 := hv.length
    have key : ∀ zs : List A, All2 (AR pl2 nx2) zs vs → VR pl2 nx2 (resV zs) (.tuple vs.toArray) := by
      intro zs hz
      match zs, hz with
      | [], hz => exact ⟨vs, rfl, hz⟩
      | [z], hz =>
        exfalso
        have hz1 := hz.length
        simp only [List.length_cons, List.length_nil] at hz1
        match xs', hl2, hne with
        | [a], _, hne => exact hne a rfl
        | [], hl2, _ => simp only [List.length_nil] at hl2; omega
        | a :: b :: c, hl2, _ => simp only [List.length_cons] at hl2; omega
      | a :: b :: c, hz => exact ⟨vs, rfl, hz⟩
    exact key _ this
  · simp at hc

/-! ## variables -/
def RxB (R R' : C → Value → Prop) : List (M × D) → List C → List C → Prop
  | x :: l, a :: c0, b :: ci => (isRx x = true → ∀ v, R b v → R' a v) ∧ RxB R R' l c0 ci
  | [], [], [] => True
  | _, _, _ => False
theorem RxB.split {R R' : C → Value → Prop} : ∀ {l l' : List (M × D)} {a a' : List C} {ci : List C}, a.length = l.length → RxB R R' (l ++ l') (a ++ a') ci → RxB R R' l a (ci.take l.length) ∧ RxB R R' l' a' (ci.drop l.length)
  | [], l', [], a', ci, _, h => ⟨trivial, h⟩
  | x :: l, l', y :: a, a', z :: ci, hl, h => by
    obtain ⟨h1, h2⟩ := RxB.split (l := l) (a := a) (by simpa using hl) h.2
    exact ⟨⟨h.1, h1⟩, h2⟩
  | x :: l, l', y :: a, a', [], hl, h => h.elim
  | [], _, _ :: _, _, _, hl, _ => by simp at hl
  | _ :: _, _, [], _, _, hl, _ => by simp at hl
theorem mix_ok {R R' : C → Value → Prop} : ∀ {l : List (M × D)} {c0 ci ys newc : List C} {bv : List Value}, rdSame l ci ys → All2 R ys bv → RxB R R' l c0 ci → All2 R' newc (owPick l bv) → All2 R' (mixCs l c0 newc) bv
  | [], [], [], [], newc, [], _, _, _, _ => by simp [mixCs, All2]
  | x :: l, a :: c0, b :: ci, y :: ys, newc, v :: bv, h1, h2, h3, h4 => by
    simp only [mixCs]
    simp only [owPick] at h4
    cases hx : isRx x with
    | true =>
      rw [hx] at h4
      simp only [if_true] at h4 ⊢
      have e := h1.1 hx
      refine ⟨h3.1 hx v (by rw [← e]; exact h2.1), mix_ok h1.2 h2.2 h3.2 h4⟩
    | false =>
      rw [hx] at h4
      simp only [Bool.false_eq_true, if_false] at h4 ⊢
      match newc, h4 with
      | z :: newc, h4 => exact ⟨h4.1, mix_ok h1.2 h2.2 h3.2 h4.2⟩
  | [], _ :: _, _, _, _, _, _, _, h3, _ => h3.elim
  | [], [], _ :: _, _, _, _, _, _, h3, _ => h3.elim
  | [], [], [], _ :: _, _, _, h1, _, _, _ => h1.elim
  | [], [], [], [], _, _ :: _, _, h2, _, _ => h2.elim
  | _ :: _, [], _, _, _, _, _, _, h3, _ => h3.elim
  | _ :: _, _ :: _, [], _, _, _, _, _, h3, _ => h3.elim
  | _ :: _, _ :: _, _ :: _, [], _, _, h1, _, _, _ => h1.elim
  | _ :: _, _ :: _, _ :: _, _ :: _, _, [], _, h2, _, _ => h2.elim
theorem owPick_len {α β : Type} {R : α → β → Prop} : ∀ {l : List (M × D)} {xs : List α} {ys : List β}, All2 R xs ys → (owPick l xs).length = (owPick l ys).length
  | [], _, _, _ => by simp [owPick]
  | _ :: _, [], [], _ => rfl
  | x :: l, a :: xs, b :: ys, h => by
    simp only [owPick]
    cases isRx x <;> simp [owPick_len (l := l) h.2]
  | _ :: _, [], _ :: _, h => h.elim
  | _ :: _, _ :: _, [], h => h.elim
theorem owPick_all {R : C → Value → Prop} : ∀ {l : List (M × D)} {xs : List C} {ys : List Value}, All2 R xs ys → All2 R (owPick l xs) (owPick l ys)
  | [], _, _, _ => by simp [owPick, All2]
  | _ :: _, [], [], _ => trivial
  | x :: l, a :: xs, b :: ys, h => by
    simp only [owPick]
    cases isRx x
    · exact ⟨h.1, owPick_all h.2⟩
    · exact owPick_all h.2
  | _ :: _, [], _ :: _, h => h.elim
  | _ :: _, _ :: _, [], h => h.elim
end Go.Vs
