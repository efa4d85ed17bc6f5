import Derived.Test.YteacflalidbhpaaVsV18
set_option linter.unusedVariables false
set_option linter.unusedSimpArgs false
namespace Go.Vs
set_option linter.unusedVariables false
set_option linter.unusedSimpArgs false

theorem get_append {α : Type} : ∀ (l r : List (Nat × α)) (t : Nat), get (l ++ r) t = match get l t with | some x => some x | none => get r t
  | [], _, _ => rfl
  | (k, x) :: l, r, t => by
    simp only [List.cons_append, get]
    split
    · rfl
    · exact get_append l r t
theorem get_none_of {α : Type} : ∀ {l : List (Nat × α)} {t : Nat}, (∀ x ∈ l, x.1 ≠ t) → get l t = none
  | [], _, _ => rfl
  | (k, x) :: l, t, h => by
    simp only [get]
    rw [if_neg (h (k, x) (by simp))]
    exact get_none_of fun y hy => h y (by simp [hy])
theorem takeC_pre {pl : Pls} {nc : Nat} : ∀ (L : List (Nat × Root)) {roots : List (Nat × Root)} {c : C} {d : D} {roots1 : List (Nat × Root)} {v : Value}, (∀ x ∈ L, nc ≤ x.1) → takeC roots c = some (d, roots1) → CR pl nc c v → takeC (L ++ roots) c = some (d, L ++ roots1)
  | [], _, _, _, _, _, _, h, _ => h
  | (R, x) :: L, roots, c, d, roots1, v, hL, h, hc => takeC_cons (takeC_pre L (fun y hy => hL y (by simp [hy])) h hc) hc (hL (R, x) (by simp))
theorem takeAll_pre {pl : Pls} {nc : Nat} (L : List (Nat × Root)) (hL : ∀ x ∈ L, nc ≤ x.1) : ∀ {cs : List C} {vs : List Value} {roots : List (Nat × Root)} {ds : List D} {rt : List (Nat × Root)}, All2 (CR pl nc) cs vs → takeAll roots cs = some (ds, rt) → takeAll (L ++ roots) cs = some (ds, L ++ rt)
  | [], _, _, _, _, _, h => by simp only [takeAll, Option.some.injEq, Prod.mk.injEq] at h ⊢; obtain ⟨rfl, rfl⟩ := h; exact ⟨rfl, rfl⟩
  | c :: cs, [], _, _, _, hc, _ => hc.elim
  | c :: cs, v :: vs, roots, ds, rt, hc, h => by
    simp only [takeAll] at h ⊢
    split at h
    · rename_i d roots1 h1
      rw [takeC_pre L hL h1 hc.1]
      simp only
      split at h
      · rename_i ds' roots2 h2
        simp only [Option.some.injEq, Prod.mk.injEq] at h
        obtain ⟨rfl, rfl⟩ := h
        rw [takeAll_pre L hL hc.2 h2]
      · simp at h
    · simp at h
theorem newCs_le : ∀ (ds : List D) (n : Nat), n ≤ (newCs ds n).2.2 ∧ (∀ x ∈ (newCs ds n).2.1, n ≤ x.1 ∧ x.1 < (newCs ds n).2.2)
  | [], n => ⟨Nat.le_refl _, by simp [newCs]⟩
  | .lf v :: l, n => newCs_le l n
  | .hole :: l, n => newCs_le l n
  | .sl sz es :: l, n => by
    obtain ⟨a, b⟩ := newCs_le l (n + 1)
    simp only [newCs]
    refine ⟨by omega, fun x hx => ?_⟩
    rcases List.mem_cons.1 hx with rfl | hx
    · simp only; omega
    · have := b x hx; omega
theorem newCs_len : ∀ (ds : List D) (n : Nat), (newCs ds n).1.length = ds.length
  | [], n => rfl
  | .lf v :: l, n => by simp [newCs, newCs_len l]
  | .hole :: l, n => by simp [newCs, newCs_len l]
  | .sl sz es :: l, n => by simp [newCs, newCs_len l]
theorem newCs_get : ∀ (ds : List D) (n t : Nat), (newCs ds n).2.1.length = (newCs ds n).2.2 - n
  | [], n, t => by simp [newCs]
  | .lf v :: l, n, t => newCs_get l n t
  | .hole :: l, n, t => newCs_get l n t
  | .sl sz es :: l, n, t => by have := newCs_get l (n + 1) t; have := (newCs_le l (n + 1)).1; simp only [newCs, List.length_cons]; omega

variable {w0 : World} {own0 : Nat → Nat → Prop} {pl0 : Pls} {g : Lab} {pl : Pls} {roots : List (Nat × Root)} {nx nc fix : Nat} {w : World}
theorem takeC_lt {c : C} {d : D} {roots1 : List (Nat × Root)} (h : ∀ t x, get roots t = some x → t < nx) (ht : takeC roots c = some (d, roots1)) : ∀ t x, get roots1 t = some x → t < nx := fun t x hx => by
  obtain ⟨y, hy⟩ := takeC_sub ht hx
  exact h t y hy
/-- What is taken stands under new ids. -/
theorem takeAll_ok : ∀ (cs : List C) (vs : List Value) (roots : List (Nat × Root)) (ds : List D) (rt : List (Nat × Root)) (g : Lab) (pl : Pls) (nx : Nat), Hp w0 own0 pl0 g pl roots nx nc fix w → All2 (CR pl nc) cs vs → takeAll roots cs = some (ds, rt) →
    ∃ g' pl', Hp w0 own0 pl0 g' pl' ((newCs ds nx).2.1 ++ rt) (newCs ds nx).2.2 nc fix w ∧ Agree nx pl pl' ∧ All2 (CR pl' (newCs ds nx).2.2) (newCs ds nx).1 vs ∧ (∀ t x, get rt t = some x → t < nx)
  | [], [], roots, ds, rt, g, pl, nx, h, _, ht => by
    simp only [takeAll, Option.some.injEq, Prod.mk.injEq] at ht
    obtain ⟨rfl, rfl⟩ := ht
    exact ⟨g, pl, h, fun _ _ _ => rfl, trivial, fun t x hx => (h.roots t x hx).1⟩
  | [], _ :: _, _, _, _, _, _, _, _, hc, _ => hc.elim
  | _ :: _, [], _, _, _, _, _, _, _, hc, _ => hc.elim
  | c :: cs, v :: vs, roots, ds, rt, g, pl, nx, h, hc, ht => by
    simp only [takeAll] at ht
    split at ht
    · rename_i d roots1 h1
      split at ht
      · rename_i ds' roots2 h2
        simp only [Option.some.injEq, Prod.mk.injEq] at ht
        obtain ⟨rfl, rfl⟩ := ht
        have hlt1 := takeC_lt (fun t x hx => (h.roots t x hx).1) h1
        -- a tree under the id nx
        have tree : ∀ (sz : Nat) (es : List (List D)) (g1 : Lab) (pl1 : Pls), d = .sl sz es → Hp w0 own0 pl0 g1 pl1 ((nx, .tr sz es) :: roots1) (nx + 1) nc fix w → Agree nx pl pl1 → Win (pl1 nx []) sz 0 es.length v →
            ∃ g' pl', Hp w0 own0 pl0 g' pl' ((newCs (d :: ds') nx).2.1 ++ roots2) (newCs (d :: ds') nx).2.2 nc fix w ∧ Agree nx pl pl' ∧ All2 (CR pl' (newCs (d :: ds') nx).2.2) (newCs (d :: ds') nx).1 (v :: vs) ∧ (∀ t x, get roots2 t = some x → t < nx) := by
          rintro sz es g1 pl1 rfl hp hag hw
          have hnc := h.ncle
          have hc1 : All2 (CR pl1 nc) cs vs := hc.2.mono fun x u k => k.agree fun r p hr => hag r p (by omega)
          have ht1 := takeAll_pre (pl := pl1) (nc := nc) [(nx, .tr sz es)] (by simpa using hnc) hc1 h2
          obtain ⟨g', pl', a1, a2, a3, a4⟩ := takeAll_ok cs vs _ ds' _ g1 pl1 (nx + 1) hp hc1 ht1
          have hle := newCs_le ds' (nx + 1)
          have hlt2 : ∀ t x, get roots2 t = some x → t < nx := by
            intro t x hx
            have : ∀ (cs : List C) (r r' : List (Nat × Root)) (ds : List D), takeAll r cs = some (ds, r') → (∀ t x, get r t = some x → t < nx) → ∀ t x, get r' t = some x → t < nx := by
              intro cs
              induction cs with
              | nil => intro r r' ds he hk; simp only [takeAll, Option.some.injEq, Prod.mk.injEq] at he; obtain ⟨_, rfl⟩ := he; exact hk
              | cons c cs ih =>
                intro r r' ds he hk
                simp only [takeAll] at he
                split at he
                · rename_i d1 r1 e1
                  split at he
                  · rename_i d2 r2 e2
                    simp only [Option.some.injEq, Prod.mk.injEq] at he
                    obtain ⟨_, rfl⟩ := he
                    exact ih _ _ _ e2 (takeC_lt hk e1)
                  · simp at he
                · simp at he
            exact this cs roots1 roots2 ds' h2 hlt1 t x hx
          refine ⟨g', pl', a1.roots_eq ?_, fun r p hr => (a2 r p (by omega)).trans (hag r p hr), ⟨⟨by simp only [newCs]; omega, ?_⟩, a3⟩, hlt2⟩
          · intro t
            simp only [newCs]
            simp only [List.cons_append, List.nil_append, get, get_append]
            by_cases e : nx = t
            · subst e
              rw [if_pos rfl, get_none_of (fun x hx => by have := (hle.2 x hx).1; omega)]; simp
            · simp [e]
          · rw [a2 nx [] (by omega)]; exact hw
        rcases takeC_ok h hc.1 h1 with ⟨rfl, hv, rfl⟩ | ⟨sz, rfl, rfl, rfl⟩ | ⟨sz, es, g1, pl1, hd, hp, hag, hw, _⟩
        · obtain ⟨g', pl', a1, a2, a3, a4⟩ := takeAll_ok cs vs _ ds' _ g pl nx h hc.2 h2
          exact ⟨g', pl', a1, a2, ⟨⟨rfl, hv⟩, a3⟩, a4⟩
        · refine tree sz [] _ _ rfl (h.newNil sz) (plNew_agree _ _ _) ?_
          rw [plNew_self]
          exact ⟨rfl, fun _ => rfl, Nat.le_refl _, none, rfl, fun _ => rfl⟩
        · exact tree sz es g1 pl1 hd hp hag hw
      · simp at ht
    · simp at ht
end Go.Vs
