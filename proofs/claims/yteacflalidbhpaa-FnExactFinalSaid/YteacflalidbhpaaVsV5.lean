import Derived.Test.YteacflalidbhpaaVsV4
set_option linter.unusedVariables false
set_option linter.unusedSimpArgs false
namespace Go.Vs
set_option linter.unusedVariables false
set_option linter.unusedSimpArgs false

theorem addr_ne {b o b' o' : Nat} (h : ¬ (b = b' ∧ o = o')) : (⟨b, o, none⟩ : Addr) ≠ ⟨b', o', none⟩ := by
  intro e; injection e with e1 e2; exact h ⟨e1, e2⟩
theorem cell_set_ne {w : World} {b o b' o' : Nat} {v : Value} (h : ¬ (b = b' ∧ o = o')) : (w.setCell ⟨b, o, none⟩ v).cell? ⟨b', o', none⟩ = w.cell? ⟨b', o', none⟩ :=
  World.cell?_setCell_other w _ _ v (addr_ne h)

section
variable {w0 : World} {own0 : Nat → Nat → Prop} {w : World}
theorem Fr.setCell (h : Fr w0 own0 w) {b o : Nat} (hb : w0.heap.size ≤ b ∨ own0 b o) (v : Value) : Fr w0 own0 (w.setCell ⟨b, o, none⟩ v) where
  os := h.os
  tape := h.tape
  output := h.output
  size := by rw [World.size_setCell]; exact h.size
  block := fun k hk ho => by
    rw [RowKit.Below.heap_setCell _ _ _ _ (by rintro rfl; exact hb.elim (fun hb => by omega) (fun hb => ho _ hb))]
    exact h.block k hk ho
  cell := fun k j hk ho => by
    rw [World.frozen?_setCell]
    rw [cell_set_ne (by rintro ⟨rfl, rfl⟩; exact hb.elim (fun hb => by omega) (fun hb => ho hb))]
    exact h.cell k j hk ho
theorem Fr.alloc (h : Fr w0 own0 w) (o : Obj) : Fr w0 own0 (w.alloc o) where
  os := h.os
  tape := h.tape
  output := h.output
  size := by have := h.size; simp; omega
  block := fun k hk ho => by
    have := h.size
    rw [RowKit.Below.heap_alloc _ _ _ (by omega)]
    exact h.block k hk ho
  cell := fun k j hk ho => by
    have := h.size
    rw [World.cell?_alloc_old w o _ (by simp; omega), World.frozen?_alloc_old w o _ (by simp; omega)]
    exact h.cell k j hk ho
theorem Fr.drew (h : Fr w0 own0 w) : Fr w0 own0 w.drew := ⟨h.os, h.tape, h.output, h.size, h.block, h.cell⟩
theorem Fr.refl (w : World) (own0 : Nat → Nat → Prop) : Fr w own0 w := ⟨rfl, rfl, rfl, Nat.le_refl _, fun _ _ _ => rfl, fun _ _ _ _ => ⟨rfl, rfl⟩⟩
end

/-- A root that a step leaves as it is. -/
structure Keep (st : Nat → Nat → Prop) (w : World) (g : Lab) (pl : Pls) (nx : Nat) (w' : World) (g' : Lab) (pl' : Pls) (nx' : Nat) (r : Nat) : Prop where
  lab : ∀ b o q, g b o = some (r, q) → g' b o = some (r, q) ∧ w'.cell? ⟨b, o, none⟩ = w.cell? ⟨b, o, none⟩ ∧ w'.frozen? ⟨b, o, none⟩ = w.frozen? ⟨b, o, none⟩
  st : ∀ b o, st b o → w'.cell? ⟨b, o, none⟩ = w.cell? ⟨b, o, none⟩
  pl : ∀ q, pl' r q = pl r q
theorem lin {i len c sz cap : Nat} (h : i < len) (hl : len ≤ cap) (hc : c < sz) : i * sz + c < cap * sz := by
  have : (i + 1) * sz ≤ cap * sz := Nat.mul_le_mul_right _ (by omega)
  rw [Nat.add_mul, Nat.one_mul] at this
  omega
theorem NodeC.bound {w : World} {pl : Pls} {r : Nat} {p : Path} {sz : Nat} {es : List (List D)} (h : NodeC w pl r p sz es) {i c : Nat} {e : List D} {d : D}
    (he : es[i]? = some e) (hd : e[c]? = some d) : i < es.length ∧ c < sz ∧ i * sz + c < (pl r p).cap * sz ∧ i * sz + c < es.length * sz := by
  have hi : i < es.length := by
    rcases Nat.lt_or_ge i es.length with h' | h'
    · exact h'
    · simp [List.getElem?_eq_none h'] at he
  have hc : c < sz := by
    rw [← h.szs e (List.mem_of_getElem? he)]
    rcases Nat.lt_or_ge c e.length with h' | h'
    · exact h'
    · simp [List.getElem?_eq_none h'] at hd
  exact ⟨hi, hc, lin hi h.le hc, lin hi (Nat.le_refl _) hc⟩
/-- A node's cells, where they read the same and its children lie where they lay. -/
theorem NodeC.move {w w' : World} {pl pl' : Pls} {r r' : Nat} {p p' : Path} {sz : Nat} {es : List (List D)} (h : NodeC w pl r p sz es)
    (hp : pl' r' p' = pl r p) (hch : ∀ i c e d, es[i]? = some e → e[c]? = some d → pl' r' (p' ++ [(i, c)]) = pl r (p ++ [(i, c)]))
    (hc : ∀ j, j < es.length * sz → w'.cell? ⟨(pl r p).b, (pl r p).off + j, none⟩ = w.cell? ⟨(pl r p).b, (pl r p).off + j, none⟩) : NodeC w' pl' r' p' sz es where
  szp := by rw [hp]; exact h.szp
  le := by rw [hp]; exact h.le
  nil := by rw [hp]; exact h.nil
  szs := h.szs
  cells := fun i e c d he hd => by
    obtain ⟨v, hv, hdv⟩ := h.cells i e c d he hd
    refine ⟨v, ?_, by rw [hch i c e d he hd]; exact hdv⟩
    rw [hp, hc _ (h.bound he hd).2.2.2]
    exact hv
theorem Mine.move {w w' : World} {g g' : Lab} {pl pl' : Pls} {r r' : Nat} {p p' : Path} (h : Mine w g pl r p) (hp : pl' r' p' = pl r p)
    (hl : ∀ b o, g b o = some (r, p) → g' b o = some (r', p') ∧ ((∃ v, w.cell? ⟨b, o, none⟩ = some v) → ∃ v, w'.cell? ⟨b, o, none⟩ = some v) ∧ w'.frozen? ⟨b, o, none⟩ = w.frozen? ⟨b, o, none⟩) : Mine w' g' pl' r' p' := by
  intro j hj
  rw [hp] at hj ⊢
  obtain ⟨h1, h2, h3⟩ := h j hj
  obtain ⟨k1, k2, k3⟩ := hl _ _ h1
  exact ⟨k1, k2 h2, k3.trans h3⟩

def Root.map (k : C → C) : Root → Root
  | .bx cs => .bx (cs.map k)
  | .ib cs => .ib (cs.map k)
  | x => x
theorem Keep.root {st : Nat → Nat → Prop} {w w' : World} {g g' : Lab} {pl pl' : Pls} {nx nx' r : Nat} {κ : C → C} (k : Keep st w g pl nx w' g' pl' nx' r) (hκ : ∀ x v, CR pl nx x v → CR pl' nx' (κ x) v)
    {x : Root} (h : RootOk st w g pl nx r x) : RootOk st w' g' pl' nx' r (x.map κ) := by
  cases x with
  | tr sz es =>
    intro p n hn
    obtain ⟨hc, hm⟩ := h p n hn
    refine ⟨hc.move (k.pl p) (fun _ _ _ _ _ _ => k.pl _) fun j hj => ?_, hm.move (k.pl p) fun b o hb => ?_⟩
    · have := Nat.mul_le_mul_right n.1 hc.le
      exact (k.lab _ _ _ (hm j (by rw [hc.szp]; omega)).1).2.1
    · obtain ⟨a, b', c⟩ := k.lab _ _ _ hb
      exact ⟨a, fun ⟨v, hv⟩ => ⟨v, by rw [b']; exact hv⟩, c⟩
  | im sz es =>
    intro p n hn
    obtain ⟨hc, hm⟩ := h p n hn
    refine ⟨hc.move (k.pl p) (fun _ _ _ _ _ _ => k.pl _) fun j hj => ?_, fun j hj => ?_⟩
    · exact k.st _ _ (hm j (by rw [hc.szp]; omega))
    · rw [k.pl] at hj ⊢; exact hm j hj
  | bx cs =>
    intro c x hx
    simp only [List.getElem?_map, Option.map_eq_some_iff] at hx
    obtain ⟨y, hy, rfl⟩ := hx
    obtain ⟨v, h1, h2, h3, h4⟩ := h c y hy
    obtain ⟨a, b, d⟩ := k.lab _ _ _ h3
    rw [k.pl]
    exact ⟨v, by rw [b]; exact h1, hκ _ _ h2, a, by rw [d]; exact h4⟩
  | ib cs =>
    intro c x hx
    simp only [List.getElem?_map, Option.map_eq_some_iff] at hx
    obtain ⟨y, hy, rfl⟩ := hx
    obtain ⟨v, h1, h2, h3⟩ := h c y hy
    rw [k.pl]
    exact ⟨v, by rw [k.st _ _ h3]; exact h1, hκ _ _ h2, h3⟩
theorem Root.map_id (x : Root) : x.map (fun c => c) = x := by cases x <;> simp [Root.map]
theorem Keep.root' {st : Nat → Nat → Prop} {w w' : World} {g g' : Lab} {pl pl' : Pls} {nx nx' r : Nat} (k : Keep st w g pl nx w' g' pl' nx' r) (hκ : ∀ x v, CR pl nx x v → CR pl' nx' x v)
    {x : Root} (h : RootOk st w g pl nx r x) : RootOk st w' g' pl' nx' r x := by
  have := k.root (κ := fun c => c) hκ h
  rwa [Root.map_id] at this

section
variable {w0 : World} {own0 : Nat → Nat → Prop} {pl0 : Pls} {g : Lab} {pl : Pls} {roots : List (Nat × Root)} {nx nc fix : Nat} {w : World}

theorem Hp.drew (h : Hp w0 own0 pl0 g pl roots nx nc fix w) : Hp w0 own0 pl0 g pl roots nx nc fix w.drew := ⟨h.fr.drew, h.lab, h.fixed, h.fixle, h.ncle, fun r x hx => ⟨(h.roots r x hx).1, Keep.root' (w := w) (w' := w.drew) (g := g) (pl := pl) (nx := nc) ⟨fun b o q hb => ⟨hb, rfl, rfl⟩, fun _ _ _ => rfl, fun _ => rfl⟩ (fun _ _ k => k) (h.roots r x hx).2⟩⟩
theorem Hp.bump (h : Hp w0 own0 pl0 g pl roots nx nc fix w) : Hp w0 own0 pl0 g pl roots nx nx fix w :=
  ⟨h.fr, h.lab, h.fixed, h.fixle, Nat.le_refl _, fun r x hx => ⟨(h.roots r x hx).1, Keep.root' (nx := nc) ⟨fun b o q hb => ⟨hb, rfl, rfl⟩, fun _ _ _ => rfl, fun _ => rfl⟩ (fun _ _ k => k.mono h.ncle) (h.roots r x hx).2⟩⟩
/-- Places for one id more. -/
def plNew (pl : Pls) (nx : Nat) (L : Path → Pl) : Pls := fun r q => if r = nx then L q else pl r q
def labNew (g : Lab) (B nx : Nat) (lb : Nat → Option Path) : Lab := fun b o => if b = B then (lb o).map fun q => (nx, q) else g b o
theorem plNew_agree (pl : Pls) (nx : Nat) (L : Path → Pl) : Agree nx pl (plNew pl nx L) := fun r p h => by unfold plNew; rw [if_neg (by omega)]
theorem plNew_self (pl : Pls) (nx : Nat) (L : Path → Pl) (q : Path) : plNew pl nx L nx q = L q := by unfold plNew; rw [if_pos rfl]
theorem Hp.lab_ne (h : Hp w0 own0 pl0 g pl roots nx nc fix w) {b o : Nat} {x : Nat × Path} (hx : g b o = some x) : b ≠ w.heap.size := by have := (h.lab b o x hx).1; omega
theorem Hp.new (h : Hp w0 own0 pl0 g pl roots nx nc fix w) (o : Obj) (x : Root) (L : Path → Pl) (lb : Nat → Option Path)
    (hx : RootOk (stable w0 own0) (w.alloc o) (labNew g w.heap.size nx lb) (plNew pl nx L) nc nx x) :
    Hp w0 own0 pl0 (labNew g w.heap.size nx lb) (plNew pl nx L) ((nx, x) :: roots) (nx + 1) nc fix (w.alloc o) where
  fr := h.fr.alloc o
  lab := fun b i y hy => by
    have hs := h.fr.size
    unfold labNew at hy
    split at hy
    · rename_i hb
      subst hb
      simp only [Option.map_eq_some_iff] at hy
      obtain ⟨q, hq, rfl⟩ := hy
      exact ⟨by simp, .inl hs, by simp⟩
    · obtain ⟨a, b', c⟩ := h.lab b i y hy
      exact ⟨by simp; omega, b', by omega⟩
  fixed := fun r p hr => by rw [plNew_agree pl nx L r p (by have := h.fixle; omega)]; exact h.fixed r p hr
  fixle := by have := h.fixle; omega
  ncle := by have := h.ncle; omega
  roots := fun r y hy => by
    simp only [get] at hy
    split at hy
    · rename_i hr
      subst hr
      simp only [Option.some.injEq] at hy; subst hy
      exact ⟨by omega, hx⟩
    · obtain ⟨hr, hok⟩ := h.roots r y hy
      refine ⟨by omega, Keep.root' ⟨?_, ?_, ?_⟩ (fun x v k => k.agree fun r p hr => plNew_agree pl nx L r p (by have := h.ncle; omega)) hok⟩
      · intro b i q hb
        have hne := h.lab_ne hb
        exact ⟨by unfold labNew; rw [if_neg hne]; exact hb, World.cell?_alloc_old w o _ (by simpa using hne), World.frozen?_alloc_old w o _ (by simpa using hne)⟩
      · intro b i hst
        have := h.fr.size
        exact World.cell?_alloc_old w o _ (by simp; have := hst.1; omega)
      · intro q; exact plNew_agree pl nx L r q hr

/-- A struct's variable. -/
theorem Hp.newBox (h : Hp w0 own0 pl0 g pl roots nx nc fix w) (cs : List C) (vs : List Value) (t : TypeId) (hall : All2 (CR pl nc) cs vs) :
    Hp w0 own0 pl0 (labNew g w.heap.size nx fun o => some [(0, o)]) (plNew pl nx fun _ => ⟨false, w.heap.size, 0, 0, 1⟩) ((nx, .bx cs) :: roots) (nx + 1) nc fix (w.alloc (.cells vs.toArray t)) := by
  refine h.new _ _ _ _ ?_
  intro c x hx
  obtain ⟨v, hv, hc⟩ := hall.get c x hx
  rw [plNew_self]
  refine ⟨v, ?_, hc.agree fun r p hr => plNew_agree _ _ _ r p (by have := h.ncle; omega), ?_, ?_⟩
  · simp [hv]
  · simp [labNew]
  · simp
theorem Hp.newBox_ptr : CR (plNew pl nx fun _ => ⟨false, w.heap.size, 0, 0, 1⟩) (nx + 1) (.pb nx 0) (.pointer (some ⟨w.heap.size, 0, none⟩)) := by
  refine ⟨by omega, ?_⟩
  rw [plNew_self]

/-- One cell of a struct's variable is written. -/
theorem Hp.setBox (h : Hp w0 own0 pl0 g pl roots nx nc fix w) {r : Nat} {cs : List C} (hr : get roots r = some (.bx cs)) {c : Nat} (hc : c < cs.length) {y : C} {u : Value} (hy : CR pl nc y u) :
    Hp w0 own0 pl0 g pl (put roots r (.bx (cs.set c y))) nx nc fix (w.setCell ⟨(pl r []).b, (pl r []).off + c, none⟩ u) ∧
      ∃ v, w.cell? ⟨(pl r []).b, (pl r []).off + c, none⟩ = some v ∧ w.frozen? ⟨(pl r []).b, (pl r []).off + c, none⟩ = false := by
  obtain ⟨hrn, hok⟩ := h.roots r _ hr
  obtain ⟨v, hv, hcr, hg, hfz⟩ := hok c _ (List.getElem?_eq_getElem hc)
  have hlab := h.lab _ _ _ hg
  refine ⟨⟨h.fr.setCell hlab.2.1 u, ?_, h.fixed, h.fixle, h.ncle, ?_⟩, v, hv, hfz⟩
  · intro b o x hx
    rw [World.size_setCell]
    exact h.lab b o x hx
  · intro r' x hx
    rw [get_put] at hx
    split at hx
    · rename_i e; subst e
      simp only [Option.some.injEq] at hx; subst hx
      refine ⟨hrn, ?_⟩
      intro k z hz
      rw [List.getElem?_set] at hz
      split at hz
      · rename_i e; subst e
        simp only [Option.some.injEq] at hz; subst hz
        exact ⟨u, World.cell?_setCell_same w _ u hv, hy, hg, by rw [World.frozen?_setCell]; exact hfz⟩
      · rename_i hne
        obtain ⟨v', h1, h2, h3, h4⟩ := hok k z hz
        exact ⟨v', by rw [cell_set_ne (by omega)]; exact h1, h2, h3, by rw [World.frozen?_setCell]; exact h4⟩
    · rename_i hne
      obtain ⟨hr', hok'⟩ := h.roots r' x hx
      refine ⟨hr', Keep.root' ⟨?_, ?_, fun _ => rfl⟩ (fun _ _ k => k) hok'⟩
      · intro b o q hb
        refine ⟨hb, cell_set_ne ?_, World.frozen?_setCell ..⟩
        rintro ⟨rfl, rfl⟩
        rw [hg] at hb
        simp only [Option.some.injEq, Prod.mk.injEq] at hb
        exact hne hb.1
      · intro b o hst
        refine cell_set_ne ?_
        rintro ⟨rfl, rfl⟩
        rcases hlab.2.1 with k | k
        · have := hst.1; omega
        · exact hst.2 k
end
end Go.Vs
