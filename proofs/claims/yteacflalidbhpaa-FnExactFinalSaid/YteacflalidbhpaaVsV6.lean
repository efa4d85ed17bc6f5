import Derived.Test.YteacflalidbhpaaVsV5
set_option linter.unusedVariables false
set_option linter.unusedSimpArgs false
namespace Go.Vs
set_option linter.unusedVariables false
set_option linter.unusedSimpArgs false

/-! ## trees, turned at one place -/
def setC (es : List (List D)) (i c : Nat) (d : D) : List (List D) :=
  match es[i]? with
  | some e => es.set i (e.set c d)
  | none => es
def updNode : List (List D) → Path → (List (List D) → List (List D)) → List (List D)
  | es, [], f => f es
  | es, (i, c) :: p, f =>
    match es[i]? with
    | some e => match e[c]? with
      | some (.sl sz es') => es.set i (e.set c (.sl sz (updNode es' p f)))
      | _ => es
    | none => es
def setD (es : List (List D)) (p : Path) (i c : Nat) (d : D) : List (List D) := updNode es p fun l => setC l i c d
def cutAt (es : List (List D)) (p : Path) : List (List D) :=
  match p.getLast? with
  | some (i, c) => setD es p.dropLast i c .hole
  | none => es
theorem cutAt_concat (es : List (List D)) (p : Path) (i c : Nat) : cutAt es (p ++ [(i, c)]) = setD es p i c .hole := by
  simp [cutAt]

def SimD (d d0 : D) : Prop := d = d0 ∨ ∃ sz l l0, d = .sl sz l ∧ d0 = .sl sz l0 ∧ l.length = l0.length
def Sim (l l0 : List (List D)) : Prop := l.length = l0.length ∧ ∀ (i : Nat) (e : List D), l[i]? = some e → ∃ e0 : List D, l0[i]? = some e0 ∧ e.length = e0.length ∧ ∀ (c : Nat) (d : D), e[c]? = some d → ∃ d0, e0[c]? = some d0 ∧ SimD d d0
theorem Sim.refl (l : List (List D)) : Sim l l := ⟨rfl, fun i e h => ⟨e, h, rfl, fun c d hd => ⟨d, hd, .inl rfl⟩⟩⟩
theorem DV.sim {L : Pl} {d d0 : D} {v : Value} (s : SimD d d0) (h : DV L d0 v) : DV L d v := by
  rcases s with rfl | ⟨sz, l, l0, rfl, rfl, e⟩
  · exact h
  · exact ⟨h.1, by rw [e]; exact h.2⟩
theorem NodeC.sim {w : World} {pl : Pls} {r : Nat} {p : Path} {sz : Nat} {l l0 : List (List D)} (h : NodeC w pl r p sz l0) (s : Sim l l0) : NodeC w pl r p sz l where
  szp := h.szp
  le := by rw [s.1]; exact h.le
  nil := h.nil
  szs := fun e he => by
    obtain ⟨i, hi⟩ := List.getElem?_of_mem he
    obtain ⟨e0, h0, hl, _⟩ := s.2 i e hi
    rw [hl]; exact h.szs e0 (List.mem_of_getElem? h0)
  cells := fun i e c d he hd => by
    obtain ⟨e0, h0, hl, hc⟩ := s.2 i e he
    obtain ⟨d0, hd0, hs⟩ := hc c d hd
    obtain ⟨v, hv, hk⟩ := h.cells i e0 c d0 h0 hd0
    exact ⟨v, hv, hk.sim hs⟩
theorem getElem?_lt {α : Type} {l : List α} {i : Nat} {x : α} (h : l[i]? = some x) : i < l.length := by
  rcases Nat.lt_or_ge i l.length with h' | h'
  · exact h'
  · simp [List.getElem?_eq_none h'] at h
theorem sim_set {es : List (List D)} {i c : Nat} {e : List D} {d d0 : D} (he : es[i]? = some e) (hd : e[c]? = some d0) (s : SimD d d0) : Sim (es.set i (e.set c d)) es := by
  refine ⟨by simp, fun j x hx => ?_⟩
  rw [List.getElem?_set] at hx
  split at hx
  · rename_i hij; subst hij
    split at hx
    · simp only [Option.some.injEq] at hx; subst hx
      refine ⟨e, he, by simp, fun k y hy => ?_⟩
      rw [List.getElem?_set] at hy
      split at hy
      · rename_i hck; subst hck
        split at hy
        · simp only [Option.some.injEq] at hy; subst hy; exact ⟨d0, hd, s⟩
        · simp at hy
      · exact ⟨y, hy, .inl rfl⟩
    · simp at hx
  · exact ⟨x, hx, rfl, fun k y hy => ⟨y, hy, .inl rfl⟩⟩
theorem upd_len {sz0 : Nat} {es : List (List D)} {p : Path} {f : List (List D) → List (List D)} {n : Nat × List (List D)} (hp : nodeAt sz0 es p = some n) (hf : (f n.2).length = n.2.length) :
    (updNode es p f).length = es.length := by
  cases p with
  | nil => simp only [nodeAt, Option.some.injEq] at hp; subst hp; exact hf
  | cons a p =>
    obtain ⟨i, c⟩ := a
    unfold updNode
    split
    · split <;> simp
    · rfl
theorem nodeAt_set_ne {sz0 : Nat} {es : List (List D)} {i c : Nat} {e : List D} {d : D} (he : es[i]? = some e) {j k : Nat} (q : Path) (h : ¬ (j = i ∧ k = c)) :
    nodeAt sz0 (es.set i (e.set c d)) ((j, k) :: q) = nodeAt sz0 es ((j, k) :: q) := by
  simp only [nodeAt]
  have : ((es.set i (e.set c d))[j]?).bind (·[k]?) = (es[j]?).bind (·[k]?) := by
    rw [List.getElem?_set]
    split
    · rename_i hij; subst hij
      split
      · rename_i hl
        simp only [Option.bind_some, he]
        rw [List.getElem?_set, if_neg (fun hck => h ⟨rfl, hck.symm⟩)]
      · rename_i hl
        rw [List.getElem?_eq_none (by omega)]
    · rfl
  rw [this]
theorem nodeAt_set_eq {sz0 : Nat} {es : List (List D)} {i c : Nat} {e : List D} {d d0 : D} (he : es[i]? = some e) (hd : e[c]? = some d0) (q : Path) :
    nodeAt sz0 (es.set i (e.set c d)) ((i, c) :: q) = match d with | .sl sz' es' => nodeAt sz' es' q | _ => none := by
  have h1 := getElem?_lt he
  have h2 := getElem?_lt hd
  simp only [nodeAt]
  rw [List.getElem?_set, if_pos rfl, if_pos h1]
  simp only [Option.bind_some]
  rw [List.getElem?_set, if_pos rfl, if_pos h2]
  cases d <;> rfl

/-- The nodes of a tree, one node of which is turned. -/
theorem upd_desc {f : List (List D) → List (List D)} : ∀ {p : Path} {sz0 : Nat} {es : List (List D)} {n : Nat × List (List D)}, nodeAt sz0 es p = some n → (f n.2).length = n.2.length →
    ∀ (q : Path) (m : Nat × List (List D)), nodeAt sz0 (updNode es p f) q = some m →
      (∃ q', q = p ++ q' ∧ nodeAt n.1 (f n.2) q' = some m) ∨ (∃ m0, nodeAt sz0 es q = some m0 ∧ ¬ p <+: q ∧ m.1 = m0.1 ∧ Sim m.2 m0.2)
  | [], sz0, es, n, hp, hf, q, m, hm => by
    simp only [nodeAt, Option.some.injEq] at hp; subst hp
    exact .inl ⟨q, rfl, hm⟩
  | (i, c) :: p, sz0, es, n, hp, hf, q, m, hm => by
    simp only [nodeAt] at hp
    split at hp
    · rename_i sz' es' hcell
      simp only [Option.bind_eq_some_iff] at hcell
      obtain ⟨e, he, hd⟩ := hcell
      simp only [updNode, he, hd] at hm
      cases q with
      | nil =>
        simp only [nodeAt, Option.some.injEq] at hm; subst hm
        refine .inr ⟨(sz0, es), rfl, by simp, rfl, sim_set he hd (.inr ⟨_, _, _, rfl, rfl, upd_len hp hf⟩)⟩
      | cons a q =>
        obtain ⟨j, k⟩ := a
        by_cases hjk : j = i ∧ k = c
        · obtain ⟨rfl, rfl⟩ := hjk
          rw [nodeAt_set_eq he hd] at hm
          simp only at hm
          rcases upd_desc hp hf q m hm with ⟨q', rfl, h⟩ | ⟨m0, h1, h2, h3, h4⟩
          · exact .inl ⟨q', rfl, h⟩
          · refine .inr ⟨m0, ?_, by simpa using h2, h3, h4⟩
            simp only [nodeAt, he, Option.bind_some, hd]
            exact h1
        · rw [nodeAt_set_ne he q hjk] at hm
          refine .inr ⟨m, hm, ?_, rfl, Sim.refl _⟩
          intro hpre
          rw [List.cons_prefix_cons] at hpre
          obtain ⟨hh, _⟩ := hpre
          simp only [Prod.mk.injEq] at hh
          exact hjk ⟨hh.1.symm, hh.2.symm⟩
    · simp at hp

/-- The nodes of a tree, one cell of which is set. -/
theorem setD_desc {sz0 : Nat} {es : List (List D)} {p : Path} {n : Nat × List (List D)} (hp : nodeAt sz0 es p = some n) {i c : Nat} {e : List D} {d0 : D} (he : n.2[i]? = some e) (hd : e[c]? = some d0) (d : D)
    (q : Path) (m : Nat × List (List D)) (hm : nodeAt sz0 (setD es p i c d) q = some m) :
    (q = p ∧ m = (n.1, n.2.set i (e.set c d))) ∨ (∃ q' sz' es', q = p ++ (i, c) :: q' ∧ d = .sl sz' es' ∧ nodeAt sz' es' q' = some m) ∨
      (∃ m0, nodeAt sz0 es q = some m0 ∧ q ≠ p ∧ ¬ (p ++ [(i, c)]) <+: q ∧ m.1 = m0.1 ∧ Sim m.2 m0.2) := by
  have hset : setC n.2 i c d = n.2.set i (e.set c d) := by simp [setC, he]
  rcases upd_desc (f := fun l => setC l i c d) hp (by simp only [hset]; simp) q m hm with ⟨q', rfl, h⟩ | ⟨m0, h1, h2, h3, h4⟩
  · simp only [hset] at h
    cases q' with
    | nil => simp only [nodeAt, Option.some.injEq] at h; exact .inl ⟨by simp, h.symm⟩
    | cons a q' =>
      obtain ⟨j, k⟩ := a
      by_cases hjk : j = i ∧ k = c
      · obtain ⟨rfl, rfl⟩ := hjk
        rw [nodeAt_set_eq he hd] at h
        cases d with
        | sl sz' es' => exact .inr (.inl ⟨q', sz', es', rfl, rfl, h⟩)
        | lf v => simp at h
        | hole => simp at h
      · rw [nodeAt_set_ne he q' hjk] at h
        refine .inr (.inr ⟨m, ?_, by simp, ?_, rfl, Sim.refl _⟩)
        · rw [nodeAt_append, hp]; exact h
        · intro hpre
          rw [List.prefix_append_right_inj, List.cons_prefix_cons] at hpre
          obtain ⟨hh, _⟩ := hpre
          simp only [Prod.mk.injEq] at hh
          exact hjk ⟨hh.1.symm, hh.2.symm⟩
  · refine .inr (.inr ⟨m0, h1, ?_, ?_, h3, h4⟩)
    · rintro rfl; exact h2 (List.prefix_refl _)
    · intro hpre; exact h2 ((List.prefix_append p _).trans hpre)
end Go.Vs
