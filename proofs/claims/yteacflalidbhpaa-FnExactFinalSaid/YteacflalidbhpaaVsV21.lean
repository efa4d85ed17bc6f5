import Derived.Test.YteacflalidbhpaaVsV20
set_option linter.unusedVariables false
set_option linter.unusedSimpArgs false
namespace Go.Vs
set_option linter.unusedVariables false
set_option linter.unusedSimpArgs false

/-- The cells that are handed over stand under new ids. -/
def reOw : List (M × C × D) → List C → List (M × C × D)
  | (.ow, _, d) :: l, c :: cs => (.ow, c, d) :: reOw l cs
  | x :: l, cs => x :: reOw l cs
  | [], _ => []
def enB : List (Nat × Nat × Nat) → Nat → List (Nat × Ent)
  | [], _ => []
  | (r, c, k) :: l, b => (b, .box r c k) :: enB l (b + 1)
def Str (pl : Pls) (w : World) : List Arg → List (Nat × Nat × Nat) → List Value → List Value → Prop
  | .val ag l :: r, bs, us, v :: ws => ∃ u1 u2, us = u1 ++ u2 ∧ u1.length = l.length ∧ (ag = true → v = .agg u1.toArray) ∧ (ag = false → u1 = [v]) ∧ Str pl w r bs u2 ws
  | .ptr l :: r, x :: bs, us, v :: ws => x.2.2 = l.length ∧ ∃ u1 u2, us = u1 ++ u2 ∧ u1.length = l.length ∧ v = .pointer (some ⟨(pl x.1 []).b, (pl x.1 []).off + x.2.1, none⟩) ∧
      (∀ j u, u1[j]? = some u → w.cell? ⟨(pl x.1 []).b, (pl x.1 []).off + (x.2.1 + j), none⟩ = some u) ∧ Str pl w r bs u2 ws
  | [], [], us, [] => us = []
  | _, _, _, _ => False
theorem zipA_ok : ∀ {cs : List C} {l : List (M × D)} {fl : List (M × C × D)}, zipA cs l = some fl → fl.map (·.2.1) = cs ∧ fl.map md = l
  | [], [], fl, h => by simp only [zipA, Option.some.injEq] at h; subst h; exact ⟨rfl, rfl⟩
  | c :: cs, (m, d) :: l, fl, h => by
    simp only [zipA, Option.map_eq_some_iff] at h
    obtain ⟨f, hf, rfl⟩ := h
    obtain ⟨a, b⟩ := zipA_ok hf
    exact ⟨by simp [a], by simp [b, md]⟩
  | [], _ :: _, _, h => by simp [zipA] at h
  | _ :: _, [], _, h => by simp [zipA] at h

section
variable {w0 : World} {own0 : Nat → Nat → Prop} {pl0 : Pls} {g : Lab} {pl : Pls} {roots : List (Nat × Root)} {nx nc fix : Nat} {w : World} {E : List (Nat × Ent)}
theorem flatAs_ok (h : Hp w0 own0 pl0 g pl roots nx nx fix w) {pl1 : Pls} (hag : Agree nx pl pl1) : ∀ (vs : List V) (ws : List Value) (as : List Arg) (fl : List (M × C × D)), All2 (VR pl nx) vs ws → flatAs roots vs as = some fl →
    ∃ us, All2 (CR pl nx) (fl.map (·.2.1)) us ∧ Str pl1 w as (handBx vs as) us ws ∧ fl.map md = flat as ∧ ∀ x ∈ handBx vs as, x.1 < nx ∧ ∃ cs, get roots x.1 = some (.bx cs) ∧ x.2.1 + x.2.2 ≤ cs.length
  | [], [], [], fl, _, hf => by
    simp only [flatAs, Option.some.injEq] at hf; subst hf
    exact ⟨[], trivial, rfl, rfl, by simp [handBx]⟩
  | [], _ :: _, _, _, hv, _ => hv.elim
  | _ :: _, [], _, _, hv, _ => hv.elim
  | [], [], _ :: _, _, _, hf => by simp [flatAs] at hf
  | _ :: _, _ :: _, [], _, _, hf => by simp [flatAs] at hf
  | v :: vs, u :: ws, x :: as, fl, hv, hf => by
    simp only [flatAs] at hf
    split at hf
    · rename_i fa fb ha hb
      simp only [Option.some.injEq] at hf; subst hf
      obtain ⟨us, h1, h2, h3, h4⟩ := flatAs_ok h hag vs ws as fb hv.2 hb
      have hv1 := hv.1
      unfold flatA at ha
      split at ha
      · rename_i c l
        obtain ⟨e1, e2⟩ := zipA_ok ha
        refine ⟨[u] ++ us, ?_, ⟨[u], us, rfl, ?_, by simp, by simp, ?_⟩, ?_, ?_⟩
        · rw [List.map_append, e1]; exact All2.append ⟨hv1, trivial⟩ h1
        · rw [← e2, List.length_map, ← List.length_map (f := fun x : M × C × D => x.2.1), e1]; rfl
        · cases c <;> exact h2
        · rw [List.map_append, e2, h3]; rfl
        · cases c <;> exact h4
      · rename_i cs l
        obtain ⟨e1, e2⟩ := zipA_ok ha
        obtain ⟨u1, rfl, hu1⟩ := hv1
        refine ⟨u1 ++ us, ?_, ⟨u1, us, rfl, ?_, by simp, by simp, h2⟩, ?_, h4⟩
        · rw [List.map_append, e1]; exact All2.append hu1 h1
        · rw [← e2, List.length_map, ← hu1.length, ← e1, List.length_map]
        · rw [List.map_append, e2, h3]; rfl
      · rename_i r c l
        split at ha
        · rename_i cs hr
          split at ha
          · rename_i hcl
            obtain ⟨e1, e2⟩ := zipA_ok ha
            obtain ⟨u1, hl1, hu1, hc1⟩ := h.boxFrom (r := r) (cs := cs) (by unfold boxIn; rw [hr]) ((cs.drop c).take l.length) c (get_drop_take rfl)
            have hlen : u1.length = l.length := by rw [hl1]; simp; omega
            refine ⟨u1 ++ us, ?_, ⟨rfl, u1, us, rfl, hlen, ?_, ?_, h2⟩, ?_, ?_⟩
            · rw [List.map_append, e1]; exact All2.append hc1 h1
            · rw [hag r [] hv1.1]; exact hv1.2
            · simp only; rw [hag r [] hv1.1]; exact hu1
            · rw [List.map_append, e2, h3]; rfl
            · intro y hy
              simp only [handBx, List.mem_cons] at hy
              rcases hy with rfl | hy
              · exact ⟨hv1.1, cs, hr, hcl⟩
              · exact h4 y hy
          · simp at ha
        · simp at ha
      · simp at ha
    · simp at hf

/-- The arguments over there. -/
theorem enter_args (h : Hp w0 own0 pl0 g pl roots nx nc fix w) (hn : (Ids E).Nodup) (hh : (handE E).Nodup) {N : Nat} (st : Nat → Nat → Prop) : ∀ (as : List Arg) (bs : List (Nat × Nat × Nat)) (us ws : List Value) (cs : List C) (b : Nat), Str pl w as bs us ws → All2 (CR (plE pl E) N) cs us → (∀ x ∈ enB bs b, x ∈ E) → (∀ x ∈ bs, ∃ cs, get roots x.1 = some (.bx cs) ∧ x.2.1 + x.2.2 ≤ cs.length) → b + nBox as ≤ N →
    All2 (VR (plE pl E) N) (inV as cs b) ws ∧ ∀ y ∈ rootB (inB as cs) b, y.1 < N ∧ RootOk st w (labE g E) (plE pl E) N y.1 y.2
  | [], [], us, [], cs, b, hs, hc, _, _, _ => ⟨trivial, by simp [inB, rootB]⟩
  | .val false l :: r, bs, us, v :: ws, cs, b, ⟨u1, u2, hus, hl, _, h1, h2⟩, hc, hE, hbs, hb => by
    have h1 := h1 rfl
    subst h1 hus
    have hl1 : l.length = 1 := by rw [← hl]; rfl
    have t := hc.take 1
    have dd := hc.drop 1
    simp only [List.take_succ_cons, List.take_zero, List.singleton_append, List.drop_succ_cons, List.drop_zero] at t dd
    obtain ⟨a1, a2⟩ := enter_args h hn hh st r bs u2 ws (cs.drop 1) b h2 dd hE hbs hb
    simp only [inV, inB, hl1]
    refine ⟨⟨?_, a1⟩, a2⟩
    match hcs : cs.take 1, t with
    | [c], t => exact t.1
  | .val true l :: r, bs, us, v :: ws, cs, b, ⟨u1, u2, hus, hl, h1, _, h2⟩, hc, hE, hbs, hb => by
    have h1 := h1 rfl
    subst h1 hus
    have t := hc.take l.length
    have dd := hc.drop l.length
    rw [← hl, List.take_left'  rfl] at t
    rw [← hl, List.drop_left' rfl] at dd
    obtain ⟨a1, a2⟩ := enter_args h hn hh st r bs u2 ws (cs.drop u1.length) b h2 dd hE hbs hb
    simp only [inV, inB, ← hl]
    exact ⟨⟨⟨u1, rfl, t⟩, a1⟩, a2⟩
  | .ptr l :: r, x :: bs, us, v :: ws, cs, b, ⟨hk, u1, u2, hus, hl, h1, h3, h2⟩, hc, hE, hbs, hb => by
    subst h1 hus
    have t := hc.take l.length
    have dd := hc.drop l.length
    rw [← hl, List.take_left'  rfl] at t
    rw [← hl, List.drop_left' rfl] at dd
    simp only [nBox] at hb
    obtain ⟨a1, a2⟩ := enter_args h hn hh st r bs u2 ws (cs.drop u1.length) (b + 1) h2 dd (fun y hy => hE y (by obtain ⟨x1, x2, x3⟩ := x; simp [enB, hy])) (fun y hy => hbs y (by simp [hy])) (by omega)
    have hx := hE (b, .box x.1 x.2.1 x.2.2) (by obtain ⟨x1, x2, x3⟩ := x; simp [enB])
    have hg := get_of_mem hn hx
    obtain ⟨cs0, hr, hcl⟩ := hbs x (by simp)
    simp only [inV, inB, rootB, ← hl]
    refine ⟨⟨⟨by omega, ?_⟩, a1⟩, fun y hy => ?_⟩
    · rw [show plE pl E b [] = ⟨false, (pl x.1 []).b, (pl x.1 []).off + x.2.1, 0, 1⟩ by unfold plE; rw [hg]]
      rfl
    · rcases List.mem_cons.1 hy with rfl | hy
      · exact ⟨by simp only; omega, enter_box h hn hh hx hr hcl t (by rw [t.length, hl, hk]) h3 st⟩
      · exact a2 y hy
  | [], [], _, _ :: _, _, _, hs, _, _, _, _ => hs.elim
  | [], _ :: _, _, _, _, _, hs, _, _, _, _ => hs.elim
  | .val _ _ :: _, _, _, [], _, _, hs, _, _, _, _ => hs.elim
  | .ptr _ :: _, [], _, _, _, _, hs, _, _, _, _ => hs.elim
  | .ptr _ :: _, _ :: _, _, [], _, _, hs, _, _, _, _ => hs.elim
end
end Go.Vs
