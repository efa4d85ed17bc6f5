import Derived.Test.YteacflalidbhpaaVsV29
set_option linter.unusedVariables false
set_option linter.unusedSimpArgs false
namespace Go.Vs
set_option linter.unusedVariables false
set_option linter.unusedSimpArgs false

/-! ## what an operation gives is one thing -/
theorem ev_ext {S : St} {K : V → Prop} {i : I} (h : ev S K i) : ∃ x, K x ∧ ∀ K' : V → Prop, K' x → ev S K' i := by
  cases i with
  | mv x => exact ⟨_, h, fun K' k => k⟩
  | pick c a b =>
    simp only [ev] at h ⊢
    split at h
    · rename_i t heq
      cases t
      · exact ⟨_, h.2 rfl, fun K' k => ⟨fun e => by simp at e, fun _ => k⟩⟩
      · exact ⟨_, h.1 rfl, fun K' k => ⟨fun _ => k, fun e => by simp at e⟩⟩
    · exact h.elim
  | load n x =>
    cases n <;> simp only [ev] at h ⊢ <;> split at h <;> first
      | exact h.elim
      | (obtain ⟨d, e, h⟩ := h; exact ⟨_, h, fun K' k => ⟨d, e, k⟩⟩)
      | (obtain ⟨d, e, f, h⟩ := h; exact ⟨_, h, fun K' k => ⟨d, e, f, k⟩⟩)
  | nilc x =>
    simp only [ev] at h ⊢
    split at h <;> first
      | exact h.elim
      | (exact ⟨_, h, fun K' k => k⟩)
  | bin op x y =>
    simp only [ev] at h ⊢
    split at h <;> first
      | exact h.elim
      | (obtain ⟨d, e, h⟩ := h; exact ⟨_, h, fun K' k => ⟨d, e, k⟩⟩)
  | beq neg x y =>
    simp only [ev] at h ⊢
    split at h <;> first
      | exact h.elim
      | exact ⟨_, h, fun K' k => k⟩
  | un op x =>
    simp only [ev] at h ⊢
    split at h <;> first
      | exact h.elim
      | (obtain ⟨d, e, h⟩ := h; exact ⟨_, h, fun K' k => ⟨d, e, k⟩⟩)
  | conv kd x =>
    simp only [ev] at h ⊢
    split at h <;> first
      | exact h.elim
      | (exact ⟨_, h, fun K' k => k⟩)
  | b2s x =>
    simp only [ev] at h ⊢
    split at h <;> first
      | exact h.elim
      | (obtain ⟨d, e, h⟩ := h; exact ⟨_, h, fun K' k => ⟨d, e, k⟩⟩)
      | (exact ⟨_, h, fun K' k => k⟩)
  | slc z0 x lo hi =>
    simp only [ev] at h ⊢
    split at h <;> first
      | exact h.elim
      | (obtain ⟨d, e, h⟩ := h; exact ⟨_, h, fun K' k => ⟨d, e, k⟩⟩)
      | (exact ⟨_, h, fun K' k => k⟩)
  | ssl x lo hi =>
    simp only [ev] at h ⊢
    split at h <;> first
      | exact h.elim
      | (obtain ⟨e, h⟩ := h; exact ⟨_, h, fun K' k => ⟨e, k⟩⟩)
  | fld off n x =>
    cases n <;> simp only [ev] at h ⊢ <;> split at h <;> first
      | exact h.elim
      | (obtain ⟨d, e, h⟩ := h; exact ⟨_, h, fun K' k => ⟨d, e, k⟩⟩)
      | (obtain ⟨e, h⟩ := h; exact ⟨_, h, fun K' k => ⟨e, k⟩⟩)
  | fad off x =>
    simp only [ev] at h ⊢
    split at h <;> first
      | exact h.elim
      | (exact ⟨_, h, fun K' k => k⟩)
  | iad sz x j =>
    simp only [ev] at h ⊢
    split at h <;> first
      | exact h.elim
      | (obtain ⟨d, e, h⟩ := h; exact ⟨_, h, fun K' k => ⟨d, e, k⟩⟩)
  | iaa len sz x j =>
    simp only [ev] at h ⊢
    split at h <;> first
      | exact h.elim
      | (obtain ⟨e, h⟩ := h; exact ⟨_, h, fun K' k => ⟨e, k⟩⟩)
  | idx x j =>
    simp only [ev] at h ⊢
    split at h <;> first
      | exact h.elim
      | (obtain ⟨d, e, f, h⟩ := h; exact ⟨_, h, fun K' k => ⟨d, e, f, k⟩⟩)
  | ixa len n sz x j =>
    cases n <;> simp only [ev] at h ⊢ <;> first
      | exact h.elim
      | (split at h <;> first
          | exact h.elim
          | (obtain ⟨d, e, f, h⟩ := h; exact ⟨_, h, fun K' k => ⟨d, e, f, k⟩⟩))
  | ext n x =>
    simp only [ev] at h ⊢
    split at h <;> first
      | exact h.elim
      | (obtain ⟨d, e, h⟩ := h; exact ⟨_, h, fun K' k => ⟨d, e, k⟩⟩)
  | len x =>
    simp only [ev] at h ⊢
    split at h <;> first
      | exact h.elim
      | (exact ⟨_, h, fun K' k => k⟩)
  | sid x =>
    simp only [ev] at h ⊢
    split at h <;> first
      | exact h.elim
      | (exact ⟨_, h, fun K' k => k⟩)
  | sln x =>
    simp only [ev] at h ⊢
    split at h <;> first
      | exact h.elim
      | (exact ⟨_, h, fun K' k => k⟩)
  | build zero parts =>
    simp only [ev] at h ⊢
    obtain ⟨d, e, h⟩ := h
    exact ⟨_, h, fun K' k => ⟨d, e, k⟩⟩
abbrev KW := V → List (Nat × Path) → List (Nat × Root) → Nat → Prop
theorem wr_ext {S : St} {K : KW} {j : W} (h : wr S K j) : ∃ x ks r n, K x ks r n ∧ ∀ K' : KW, K' x ks r n → wr S K' j := by
  cases j with
  | alloc zero => exact ⟨_, _, _, _, h, fun K' k => k⟩
  | box x =>
    simp only [wr] at h ⊢
    obtain ⟨d, e, h⟩ := h
    exact ⟨_, _, _, _, h, fun K' k => ⟨d, e, k⟩⟩
  | lit sz len zero parts =>
    simp only [wr] at h ⊢
    obtain ⟨d, e, f, e2, h⟩ := h
    exact ⟨_, _, _, _, h, fun K' k => ⟨d, e, f, e2, k⟩⟩
  | store n x v =>
    simp only [wr] at h ⊢
    split at h
    · rename_i heq
      obtain ⟨a, b, c, d, e, f, h⟩ := h
      exact ⟨_, _, _, _, h, fun K' k => ⟨a, b, c, d, e, f, k⟩⟩
    · rename_i heq
      obtain ⟨a, b, c, d, e, f, g, i, j, h⟩ := h
      exact ⟨_, _, _, _, h, fun K' k => ⟨a, b, c, d, e, f, g, i, j, k⟩⟩
    · exact h.elim
  | s2b x =>
    simp only [wr] at h ⊢
    split at h
    · exact ⟨_, _, _, _, h, fun K' k => k⟩
    · exact h.elim
  | mks sz bytes zero l c =>
    simp only [wr] at h ⊢
    split at h
    · rename_i h1 h2
      obtain ⟨a, b, c, d, e, h⟩ := h
      exact ⟨_, _, _, _, h, fun K' k => ⟨a, b, c, d, e, k⟩⟩
    · exact h.elim
  | app sz bytes zero x y =>
    simp only [wr] at h ⊢
    obtain ⟨b, hb, hs, h⟩ := h
    split at h
    · rename_i heq
      exact ⟨_, _, _, _, h.2, fun K' k => ⟨b, hb, hs, h.1, k⟩⟩
    · rename_i heq
      obtain ⟨a1, a2, a3, l, a4, a5, h | ⟨s, e, hg, h⟩⟩ := h
      · exact ⟨_, _, _, _, h.2, fun K' k => ⟨b, hb, hs, a1, a2, a3, l, a4, a5, .inl ⟨h.1, k⟩⟩⟩
      · exact ⟨_, _, _, _, h, fun K' k => ⟨b, hb, hs, a1, a2, a3, l, a4, a5, .inr ⟨s, e, hg, k⟩⟩⟩
    · exact h.elim
  | aps zero x y =>
    simp only [wr] at h ⊢
    obtain ⟨b, hb, hs, h⟩ := h
    split at h
    · rename_i heq
      exact ⟨_, _, _, _, h.2, fun K' k => ⟨b, hb, hs, h.1, k⟩⟩
    · exact h.elim
  | clr sz zero x => exact h.elim
  | call f args => exact h.elim
  | calv f args => exact h.elim
theorem evJ_ext {P : Program} {S : St} {K : KW} {j : J} (h : evJ P S K j) : ∃ x ks r n, K x ks r n ∧ ∀ K' : KW, K' x ks r n → evJ P S K' j := by
  cases j with
  | rd i =>
    obtain ⟨x, hx, hk⟩ := ev_ext (K := fun v => K v [] S.roots S.next) h
    exact ⟨x, _, _, _, hx, fun K' k => hk (fun v => K' v [] S.roots S.next) k⟩
  | wr j =>
    cases j with
    | call f args =>
      obtain ⟨as, out, hr, fl, hf, rt, ht, hn, hs, r1, h1, r2, h2, hK⟩ := h
      exact ⟨_, _, _, _, hK, fun K' k => ⟨as, out, hr, fl, hf, rt, ht, hn, hs, r1, h1, r2, h2, k⟩⟩
    | alloc zero => exact wr_ext (j := .alloc zero) h
    | box x => exact wr_ext (j := .box x) h
    | lit sz len zero parts => exact wr_ext (j := .lit sz len zero parts) h
    | store n x v => exact wr_ext (j := .store n x v) h
    | s2b x => exact wr_ext (j := .s2b x) h
    | mks sz bytes zero l c => exact wr_ext (j := .mks sz bytes zero l c) h
    | app sz bytes zero x y => exact wr_ext (j := .app sz bytes zero x y) h
    | aps zero x y => exact wr_ext (j := .aps zero x y) h
    | clr sz zero x => exact h.elim
    | calv f args => exact h.elim
/-- With its guard. -/
def stepV (P : Program) (g : GI) (S : St) (K : KW) : Prop :=
  match g.guard with
  | none => evJ P S K g.op
  | some (t, want) => match get S.env t with
    | some (.a (.c (.lf (.bool b)))) => (b = want → evJ P S K g.op) ∧ (b ≠ want → K (.tp []) [] S.roots S.next)
    | some (.tp _) => K (.tp []) [] S.roots S.next
    | _ => False
theorem stepV_ext {P : Program} {g : GI} {S : St} {K : KW} (h : stepV P g S K) : ∃ x ks r n, K x ks r n ∧ ∀ K' : KW, K' x ks r n → stepV P g S K' := by
  unfold stepV at h ⊢
  cases hg : g.guard with
  | none => simp only [hg] at h ⊢; exact evJ_ext h
  | some gw =>
    obtain ⟨t, want⟩ := gw
    simp only [hg] at h ⊢
    split at h
    · rename_i b heq
      by_cases hb : b = want
      · obtain ⟨x, ks, r, n, h1, h2⟩ := evJ_ext (h.1 hb)
        exact ⟨x, ks, r, n, h1, fun K' k => ⟨fun _ => h2 K' k, fun e => (e hb).elim⟩⟩
      · exact ⟨_, _, _, _, h.2 hb, fun K' k => ⟨fun e => (hb e).elim, fun _ => k⟩⟩
    · rename_i heq
      exact ⟨_, _, _, _, h, fun K' k => k⟩
    · exact h.elim
end Go.Vs
