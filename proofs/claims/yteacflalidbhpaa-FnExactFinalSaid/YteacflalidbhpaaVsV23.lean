import Derived.Test.YteacflalidbhpaaVsV22
set_option linter.unusedVariables false
set_option linter.unusedSimpArgs false
namespace Go.Vs
set_option linter.unusedVariables false
set_option linter.unusedSimpArgs false

theorem handIo_mem : ∀ {fl : List (M × C × D)} {x : Nat}, x ∈ handIo fl → ∃ p s lo n sz es, (M.io, C.rf x p s lo n, D.sl sz es) ∈ fl
  | [], _, h => by simp [handIo] at h
  | (m, c, d) :: l, x, h => by
    have key : x ∈ handIo l → ∃ p s lo n sz es, (M.io, C.rf x p s lo n, D.sl sz es) ∈ (m, c, d) :: l := fun h => by
      obtain ⟨p, s, lo, n, sz, es, k⟩ := handIo_mem (fl := l) h
      exact ⟨p, s, lo, n, sz, es, by simp [k]⟩
    cases m <;> cases c <;> cases d <;> simp only [handIo, List.mem_cons] at h <;> first | exact key h | (rcases h with rfl | h; exact ⟨_, _, _, _, _, _, List.mem_cons_self⟩; exact key h)
theorem Str.len {pl : Pls} {w : World} : ∀ {as : List Arg} {bs : List (Nat × Nat × Nat)} {us ws : List Value}, Str pl w as bs us ws → bs.length = nBox as
  | [], [], _, [], _ => rfl
  | .val _ l :: r, bs, us, v :: ws, h => by obtain ⟨u1, u2, _, _, _, _, h⟩ := h; have := Str.len (as := r) h; exact this
  | .ptr l :: r, x :: bs, us, v :: ws, h => by obtain ⟨_, u1, u2, _, _, _, _, h⟩ := h; simp only [List.length_cons, nBox]; rw [Str.len h]
  | [], [], _, _ :: _, hs => hs.elim
  | [], _ :: _, _, _, hs => hs.elim
  | .val _ _ :: _, _, _, [], hs => hs.elim
  | .ptr _ :: _, [], _, _, hs => hs.elim
  | .ptr _ :: _, _ :: _, _, [], hs => hs.elim
theorem Str.move {pl pl1 : Pls} {w : World} : ∀ {as : List Arg} {bs : List (Nat × Nat × Nat)} {us ws : List Value}, (∀ x ∈ bs, pl1 x.1 [] = pl x.1 []) → Str pl w as bs us ws → Str pl1 w as bs us ws
  | [], [], _, [], _, h => h
  | .val _ l :: r, bs, us, v :: ws, hb, h => by obtain ⟨u1, u2, a, b, c, d, h⟩ := h; exact ⟨u1, u2, a, b, c, d, Str.move (as := r) hb h⟩
  | .ptr l :: r, x :: bs, us, v :: ws, hb, h => by
    obtain ⟨a, u1, u2, b, c, d, e, h⟩ := h
    have hx := hb x (by simp)
    exact ⟨a, u1, u2, b, c, by rw [hx]; exact d, by rw [hx]; exact e, Str.move (as := r) (fun y hy => hb y (by simp [hy])) h⟩
  | [], [], _, _ :: _, _, hs => hs.elim
  | [], _ :: _, _, _, _, hs => hs.elim
  | .val _ _ :: _, _, _, [], _, hs => hs.elim
  | .ptr _ :: _, [], _, _, _, hs => hs.elim
  | .ptr _ :: _, _ :: _, _, [], _, hs => hs.elim
theorem enB_ids : ∀ (bs : List (Nat × Nat × Nat)) (b : Nat), ∀ x ∈ enB bs b, b ≤ x.1 ∧ x.1 < b + bs.length
  | [], _, _, h => by simp [enB] at h
  | (r, c, k) :: l, b, x, h => by
    simp only [enB, List.mem_cons] at h
    simp only [List.length_cons]
    rcases h with rfl | h
    · simp only; omega
    · have := enB_ids l (b + 1) x h; omega
theorem enB_nodup : ∀ (bs : List (Nat × Nat × Nat)) (b : Nat), (Ids (enB bs b)).Nodup
  | [], _ => by simp [enB, Ids]
  | (r, c, k) :: l, b => by
    simp only [enB, Ids, List.map_cons, List.nodup_cons]
    refine ⟨fun h => ?_, enB_nodup l (b + 1)⟩
    simp only [List.mem_map] at h
    obtain ⟨x, hx, hb⟩ := h
    have := enB_ids l (b + 1) x hx
    omega
theorem hmap_ids : ∀ {E : List (Nat × Ent)} {y x : Nat × Path}, hmap E y = some x → ∃ e, (x.1, e) ∈ E
  | [], _, _, h => by simp [hmap] at h
  | (i, e) :: l, y, x, h => by
    have key : hmap l y = some x → ∃ e', (x.1, e') ∈ (i, e) :: l := fun h => by
      obtain ⟨e', k⟩ := hmap_ids (E := l) h
      exact ⟨e', by simp [k]⟩
    cases e with
    | tree r p =>
      simp only [hmap] at h
      split at h
      · simp only [Option.some.injEq] at h; subst h; exact ⟨_, List.mem_cons_self⟩
      · exact key h
    | box r c k =>
      simp only [hmap] at h
      split at h
      · split at h
        · simp only [Option.some.injEq] at h; subst h; exact ⟨_, List.mem_cons_self⟩
        · exact key h
      · exact key h
    | read r p lo sz => exact key h
    | nil sz => exact key h
/-- Where everything that is handed on comes from. -/
def entries (fl : List (M × C × D)) (n : Nat) (bs : List (Nat × Nat × Nat)) (as : List Arg) : List (Nat × Ent) :=
  (enCs (reOw fl (newCs (owD fl) n).1) (0, fixN as)).1 ++ enB bs (fixCs (flat as))

section
variable {w0 : World} {own0 : Nat → Nat → Prop} {pl0 : Pls} {g : Lab} {pl : Pls} {roots : List (Nat × Root)} {nx nc fix : Nat} {w : World}
/-- The callee's memory. -/
structure Entered (w0 : World) (own0 : Nat → Nat → Prop) (pl0 : Pls) (pl : Pls) (nx fix : Nat) (w : World) (vs : List V) (ws : List Value) (as : List Arg) (fl : List (M × C × D)) (rt : List (Nat × Root)) (g1 : Lab) (pl1 : Pls) : Prop where
  hp : Hp w0 own0 pl0 g1 pl1 ((newCs (owD fl) nx).2.1 ++ rt) (newCs (owD fl) nx).2.2 nx fix w
  agree : Agree nx pl pl1
  rtlt : ∀ t x, get rt t = some x → t < nx
  ids : (Ids (entries fl nx (handBx vs as) as)).Nodup
  hand : (handE (entries fl nx (handBx vs as) as)).Nodup
  md : fl.map md = flat as
  bxs : ∀ x ∈ handBx vs as, x.1 < nx ∧ ∃ cs, get rt x.1 = some (.bx cs) ∧ get roots x.1 = some (.bx cs) ∧ x.2.1 + x.2.2 ≤ cs.length
  blen : (handBx vs as).length = nBox as
  inn : Hp w (ownE g1 (entries fl nx (handBx vs as) as)) (plE pl1 (entries fl nx (handBx vs as) as)) (labE g1 (entries fl nx (handBx vs as) as)) (plE pl1 (entries fl nx (handBx vs as) as)) (inAs as).2.1 (inAs as).2.2 (inAs as).2.2 (fixN as) w
  good : ∃ us, All2 (CR pl nx) (fl.map (·.2.1)) us ∧ All2 (Good pl1 ((newCs (owD fl) nx).2.1 ++ rt) (entries fl nx (handBx vs as) as)) (reOw fl (newCs (owD fl) nx).1) us
  args : All2 (VR (plE pl1 (entries fl nx (handBx vs as) as)) (inAs as).2.2) (inAs as).1 ws
theorem newCs_nodup : ∀ (ds : List D) (n : Nat), ((newCs ds n).2.1.map (·.1)).Nodup
  | [], n => by simp [newCs]
  | .lf v :: l, n => newCs_nodup l n
  | .hole :: l, n => newCs_nodup l n
  | .sl sz es :: l, n => by
    simp only [newCs, List.map_cons, List.nodup_cons]
    refine ⟨fun h => ?_, newCs_nodup l (n + 1)⟩
    simp only [List.mem_map] at h
    obtain ⟨x, hx, e⟩ := h
    have := ((newCs_le l (n + 1)).2 x hx).1
    omega
theorem takeAll_bx : ∀ {cs : List C} {roots rt : List (Nat × Root)} {ds : List D}, takeAll roots cs = some (ds, rt) → ∀ r bs, get roots r = some (.bx bs) → get rt r = some (.bx bs)
  | [], roots, rt, ds, h, r, bs, hr => by simp only [takeAll, Option.some.injEq, Prod.mk.injEq] at h; obtain ⟨_, rfl⟩ := h; exact hr
  | c :: cs, roots, rt, ds, h, r, bs, hr => by
    simp only [takeAll] at h
    split at h
    · rename_i d r1 h1
      split at h
      · rename_i d2 r2 h2
        simp only [Option.some.injEq, Prod.mk.injEq] at h
        obtain ⟨_, rfl⟩ := h
        refine takeAll_bx h2 r bs ?_
        unfold takeC at h1
        split at h1
        · simp only [Option.some.injEq, Prod.mk.injEq] at h1; obtain ⟨_, rfl⟩ := h1; exact hr
        · simp only [Option.some.injEq, Prod.mk.injEq] at h1; obtain ⟨_, rfl⟩ := h1; exact hr
        · split at h1
          · rename_i hg
            split at h1
            · split at h1
              · simp only [Option.some.injEq, Prod.mk.injEq] at h1
                obtain ⟨_, rfl⟩ := h1
                rw [cutR_other]
                · exact hr
                · rintro rfl; rw [hr] at hg; simp at hg
              · simp at h1
            · simp at h1
          · simp at h1
        · simp at h1
      · simp at h
    · simp at h
theorem enter (h : Hp w0 own0 pl0 g pl roots nx nx fix w) {vs : List V} {ws : List Value} {as : List Arg} {fl : List (M × C × D)} {rt : List (Nat × Root)} (hv : All2 (VR pl nx) vs ws) (hf : flatAs roots vs as = some fl)
    (ht : takeAll roots (owC fl) = some (owD fl, rt)) (hnd : (handIo fl ++ (handBx vs as).map (·.1)).Nodup) (hs : ∀ x ∈ fl, seen rt (handIo fl ++ (handBx vs as).map (·.1)) x) :
    ∃ g1 pl1, Entered (roots := roots) w0 own0 pl0 pl nx fix w vs ws as fl rt g1 pl1 := by
  obtain ⟨us, c1, hstr0, hmd, hbx⟩ := flatAs_ok h (fun _ _ _ => rfl) vs ws as fl hv hf
  obtain ⟨g1, pl1, hA, hag, hos, hrt⟩ := takeAll_ok (owC fl) (pickOw fl us) roots (owD fl) rt g pl nx h (pickOw_ok c1) ht
  have hstr : Str pl1 w as (handBx vs as) us ws := hstr0.move fun x hx => hag _ _ (hbx x hx).1
  have hlen := hstr.len
  have hle := newCs_le (owD fl) nx
  have hX : ∀ t, t < nx → get ((newCs (owD fl) nx).2.1 ++ rt) t = get rt t := by
    intro t ht
    rw [get_append, get_none_of (fun x hx => by have := (hle.2 x hx).1; omega)]
  have hioLt : ∀ x ∈ handIo fl, x < nx := by
    intro x hx
    obtain ⟨p, s, lo, n, sz, es, hm⟩ := handIo_mem hx
    obtain ⟨_, _, _, sz0, es0, hr, _⟩ := hs _ hm
    exact hrt x _ hr
  have hmd' : (reOw fl (newCs (owD fl) nx).1).map md = flat as := by rw [reOw_md]; exact hmd
  have hF : fixN as = fixCs (flat as) + nBox as := rfl
  have hk1 : (inCs (flat as) (0, fixN as)).2.2.1 = fixCs (flat as) := by rw [inCs_fix]; simp
  have hk2 := (inCs_up (flat as) (0, fixN as)).2
  have hhand : (handE (entries fl nx (handBx vs as) as)) = handC (reOw fl (newCs (owD fl) nx).1) ++ (handBx vs as).map (·.1) := by
    unfold entries; rw [handE_append, handE_enCs, handE_enB]
  rw [List.nodup_append] at hnd
  have hHand : (handE (entries fl nx (handBx vs as) as)).Nodup := by
    rw [hhand, List.nodup_append]
    refine ⟨handC_nodup hnd.1 hioLt, hnd.2.1, ?_⟩
    rintro a ha b hb rfl
    rcases handC_mem ha with k | k
    · exact hnd.2.2 a k a hb rfl
    · simp only [List.mem_map] at hb
      obtain ⟨x, hx, rfl⟩ := hb
      have := (hbx x hx).1
      omega
  have hmemHand : ∀ x ∈ handE (entries fl nx (handBx vs as) as), x < nx → x ∈ handIo fl ++ (handBx vs as).map (·.1) := by
    intro x hx hlt
    rw [hhand, List.mem_append] at hx
    rcases hx with hx | hx
    · rcases handC_mem hx with k | k
      · exact List.mem_append.2 (.inl k)
      · omega
    · exact List.mem_append.2 (.inr hx)
  have hBtw : ∀ x ∈ (enCs (reOw fl (newCs (owD fl) nx).1) (0, fixN as)).1, x.1 < fixCs (flat as) ∨ (fixN as ≤ x.1 ∧ x.1 < (inAs as).2.2) := by
    intro x hx
    have := enCs_btw hx
    rw [hmd'] at this
    unfold Btw at this
    rcases this with k | k
    · rw [hk1] at k; exact .inl k.2
    · exact .inr k
  have hIds : (Ids (entries fl nx (handBx vs as) as)).Nodup := by
    have h1 := enCs_nodup (reOw fl (newCs (owD fl) nx).1) (0, fixN as) (fixN as) (by rw [hmd', hk1, hF]; omega) (Nat.le_refl _)
    have h2 := enB_nodup (handBx vs as) (fixCs (flat as))
    unfold entries Ids at *
    rw [List.map_append, List.nodup_append]
    refine ⟨h1, h2, ?_⟩
    intro a ha b hb e
    simp only [List.mem_map] at ha hb
    obtain ⟨x, hx, rfl⟩ := ha
    obtain ⟨y, hy, rfl⟩ := hb
    have t1 := hBtw x hx
    have t2 := enB_ids _ _ y hy
    omega
  have hbx' : ∀ x ∈ handBx vs as, ∃ cs, get ((newCs (owD fl) nx).2.1 ++ rt) x.1 = some (.bx cs) ∧ x.2.1 + x.2.2 ≤ cs.length := by
    intro x hx
    obtain ⟨h1, cs, h2, h3⟩ := hbx x hx
    exact ⟨cs, by rw [hX _ h1]; exact takeAll_bx ht _ _ h2, h3⟩
  have hgood : All2 (Good pl1 ((newCs (owD fl) nx).2.1 ++ rt) (entries fl nx (handBx vs as) as)) (reOw fl (newCs (owD fl) nx).1) us := by
    refine goods (hand := handIo fl ++ (handBx vs as).map (·.1)) hag hX hrt hmemHand fl us nx c1 hos ?_ hs
    intro x hx
    have := get_of_mem (newCs_nodup (owD fl) nx) hx
    rw [get_append, this]
  have hN1 : fixCs (flat as) ≤ (inAs as).2.2 := by show _ ≤ (inCs (flat as) (0, fixN as)).2.2.2; omega
  have hcells := enter_cells hA hIds hHand (N := (inAs as).2.2) _ us (0, fixN as) hgood (fun x hx => List.mem_append.2 (.inl hx)) (by rw [hmd', hk1]; exact hN1) (by rw [hmd']; exact Nat.le_refl _)
  rw [hmd'] at hcells
  have hargs := enter_args hA hIds hHand (N := (inAs as).2.2) (stable w (ownE g1 (entries fl nx (handBx vs as) as))) as (handBx vs as) us ws _ (fixCs (flat as)) hstr hcells.1 (fun x hx => List.mem_append.2 (.inr hx)) hbx' (by show _ ≤ (inCs (flat as) (0, fixN as)).2.2.2; omega)
  refine ⟨g1, pl1, hA, hag, hrt, hIds, hHand, hmd, ?_, hlen, ⟨Fr.refl _ _, ?_, fun _ _ _ => rfl, hk2, Nat.le_refl _, ?_⟩, ⟨us, c1, hgood⟩, hargs.1⟩
  · intro x hx
    obtain ⟨h1, cs, h2, h3⟩ := hbx x hx
    exact ⟨h1, cs, takeAll_bx ht _ _ h2, h2, h3⟩
  · intro b o x hx
    refine ⟨?_, .inr (by unfold ownE; rw [hx]; rfl), ?_⟩
    · unfold labE at hx
      simp only [Option.bind_eq_some_iff] at hx
      obtain ⟨y, hy, _⟩ := hx
      exact (hA.lab b o y hy).1
    · unfold labE at hx
      simp only [Option.bind_eq_some_iff] at hx
      obtain ⟨y, _, hy⟩ := hx
      obtain ⟨e, he⟩ := hmap_ids hy
      unfold entries at he
      rcases List.mem_append.1 he with k | k
      · have := hBtw _ k; simp only at this; omega
      · have := enB_ids _ _ _ k; simp only at this
        show _ < (inCs (flat as) (0, fixN as)).2.2.2
        omega
  · intro r x hx
    have := mem_of_get hx
    rcases List.mem_append.1 this with k | k
    · exact hcells.2 _ k
    · exact hargs.2 _ k
end
end Go.Vs
