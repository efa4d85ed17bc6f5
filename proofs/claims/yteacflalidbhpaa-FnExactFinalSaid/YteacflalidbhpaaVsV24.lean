import Derived.Test.YteacflalidbhpaaVsV23
set_option linter.unusedVariables false
set_option linter.unusedSimpArgs false
namespace Go.Vs
set_option linter.unusedVariables false
set_option linter.unusedSimpArgs false

def bmap (E : List (Nat × Ent)) (n0 n1 : Nat) (y : Nat × Path) : Option (Nat × Path) :=
  if n1 ≤ y.1 then some (y.1 - n1 + n0, y.2) else match get E y.1 with
    | some (.tree r p) => if r < n0 then some (r, p ++ y.2) else none
    | some (.box r c _) => match y.2 with | [(0, j)] => if r < n0 then some (r, [(0, c + j)]) else none | _ => none
    | _ => none
/-- Labels and places behind the call. -/
def labB (g1 : Lab) (E : List (Nat × Ent)) (n0 n1 : Nat) (g2 : Lab) : Lab := fun b o =>
  match g2 b o with
  | some y => bmap E n0 n1 y
  | none => match g1 b o with
    | some z => if (hmap E z).isSome = true ∨ n0 ≤ z.1 then none else some z
    | none => none
def plB (pl1 pl2 : Pls) (n0 n1 : Nat) : Pls := fun r q => if r < n0 then pl1 r q else pl2 (r - n0 + n1) q

theorem hmap_tree_none : ∀ {E : List (Nat × Ent)} {id r : Nat} {p q : Path}, (handE E).Nodup → (id, Ent.tree r p) ∈ E → ¬ p <+: q → hmap E (r, q) = none
  | [], _, _, _, _, _, h, _ => by simp at h
  | (k, e) :: l, id, r, p, q, hn, h, hq => by
    rcases List.mem_cons.1 h with h0 | h1
    · simp only [Prod.mk.injEq] at h0; obtain ⟨rfl, rfl⟩ := h0
      simp only [handE, List.nodup_cons] at hn
      simp only [hmap]
      rw [if_neg (fun k => hq k.2)]
      exact hmap_out hn.1
    · have hm := mem_handE_tree h1
      cases e with
      | tree r' p' =>
        simp only [handE, List.nodup_cons] at hn
        simp only [hmap]
        rw [if_neg (fun k => hn.1 (by rw [← k.1]; exact hm))]
        exact hmap_tree_none hn.2 h1 hq
      | box r' c k =>
        simp only [handE, List.nodup_cons] at hn
        simp only [hmap]
        split
        · rw [if_neg (fun k => hn.1 (by rw [← k.1]; exact hm))]; exact hmap_tree_none hn.2 h1 hq
        · exact hmap_tree_none hn.2 h1 hq
      | read r' p' lo sz => simp only [handE] at hn; simp only [hmap]; exact hmap_tree_none hn h1 hq
      | nil sz => simp only [handE] at hn; simp only [hmap]; exact hmap_tree_none hn h1 hq
theorem hmap_box_none : ∀ {E : List (Nat × Ent)} {id r c k i : Nat}, (handE E).Nodup → (id, Ent.box r c k) ∈ E → ¬ (c ≤ i ∧ i < c + k) → hmap E (r, [(0, i)]) = none
  | [], _, _, _, _, _, _, h, _ => by simp at h
  | (k0, e) :: l, id, r, c, k, i, hn, h, hq => by
    rcases List.mem_cons.1 h with h0 | h1
    · simp only [Prod.mk.injEq] at h0; obtain ⟨rfl, rfl⟩ := h0
      simp only [handE, List.nodup_cons] at hn
      simp only [hmap]
      rw [if_neg (fun k => hq k.2)]
      exact hmap_out hn.1
    · have hm := mem_handE_box h1
      cases e with
      | tree r' p' =>
        simp only [handE, List.nodup_cons] at hn
        simp only [hmap]
        rw [if_neg (fun k => hn.1 (by rw [← k.1]; exact hm))]
        exact hmap_box_none hn.2 h1 hq
      | box r' c' k' =>
        simp only [handE, List.nodup_cons] at hn
        simp only [hmap]
        rw [if_neg (fun k => hn.1 (by rw [← k.1]; exact hm))]
        exact hmap_box_none hn.2 h1 hq
      | read r' p' lo sz => simp only [handE] at hn; simp only [hmap]; exact hmap_box_none hn h1 hq
      | nil sz => simp only [handE] at hn; simp only [hmap]; exact hmap_box_none hn h1 hq

section
variable {w0 : World} {own0 : Nat → Nat → Prop} {pl0 : Pls} {g1 g2 : Lab} {pl1 pl2 : Pls} {X Y : List (Nat × Root)} {nA n0 fix nC n1 F nF : Nat} {w w' : World} {E : List (Nat × Ent)}

theorem back_other (hA : Hp w0 own0 pl0 g1 pl1 X nA n0 fix w) (hC : Hp w (ownE g1 E) (plE pl1 E) g2 pl2 Y nC n1 F w') {b o : Nat} {z : Nat × Path} (hz : g1 b o = some z) (hm : hmap E z = none) (hlt : z.1 < n0) :
    labB g1 E n0 n1 g2 b o = some z ∧ w'.cell? ⟨b, o, none⟩ = w.cell? ⟨b, o, none⟩ ∧ w'.frozen? ⟨b, o, none⟩ = w.frozen? ⟨b, o, none⟩ := by
  have hb := (hA.lab b o z hz).1
  have hno : ¬ ownE g1 E b o := by unfold ownE labE; rw [hz, Option.bind_some, hm]; simp
  refine ⟨?_, hC.fr.cell b o hb hno⟩
  unfold labB
  cases hg : g2 b o with
  | none => simp only [hz, hm]; rw [if_neg]; rintro (k | k); simp at k; omega
  | some y =>
    exfalso
    rcases (hC.lab b o y hg).2.1 with k | k
    · omega
    · exact hno k
theorem back_stable (hA : Hp w0 own0 pl0 g1 pl1 X nA n0 fix w) {b o : Nat} (h : stable w0 own0 b o) : b < w.heap.size ∧ ¬ ownE g1 E b o := by
  refine ⟨Nat.lt_of_lt_of_le h.1 hA.fr.size, fun k => ?_⟩
  unfold ownE labE at k
  cases hg : g1 b o with
  | none => rw [hg] at k; simp at k
  | some z =>
    rcases (hA.lab b o z hg).2.1 with q | q
    · have := h.1; omega
    · exact h.2 q
theorem plB_lt {r : Nat} (h : r < n0) (q : Path) : plB pl1 pl2 n0 n1 r q = pl1 r q := by unfold plB; rw [if_pos h]
theorem plB_ge {id : Nat} (h : n1 ≤ id) (q : Path) : plB pl1 pl2 n0 n1 (id - n1 + n0) q = pl2 id q := by unfold plB; rw [if_neg (by omega), show id - n1 + n0 - n0 + n1 = id by omega]
theorem back_cr (hF : n0 ≤ nF) {x : C} {v : Value} (h : CR pl1 n0 x v) : CR (plB pl1 pl2 n0 n1) nF x v := (h.agree fun r p hr => plB_lt hr p).mono hF

/-- A root that stayed here. -/
theorem back_keep (hA : Hp w0 own0 pl0 g1 pl1 X nA n0 fix w) (hC : Hp w (ownE g1 E) (plE pl1 E) g2 pl2 Y nC n1 F w') (hF : n0 ≤ nF) {r : Nat} (hr : r < n0) (hh : r ∉ handE E) {x : Root} (hx : get X r = some x) :
    RootOk (stable w0 own0) w' (labB g1 E n0 n1 g2) (plB pl1 pl2 n0 n1) nF r x := by
  refine Keep.root' (w := w) (g := g1) (pl := pl1) (nx := n0) ⟨?_, ?_, fun q => plB_lt hr q⟩ (fun x v => back_cr hF) (hA.roots r x hx).2
  · intro b o q hb
    exact back_other hA hC hb (hmap_out hh) hr
  · intro b o hst
    obtain ⟨h1, h2⟩ := back_stable (E := E) hA hst
    exact (hC.fr.cell b o h1 h2).1
/-- A root that is new. -/
theorem back_new (hC : Hp w (ownE g1 E) (plE pl1 E) g2 pl2 Y nC n1 F w') {id sz : Nat} {es : List (List D)} (hid : n1 ≤ id) (hx : get Y id = some (.tr sz es)) (st : Nat → Nat → Prop) :
    RootOk st w' (labB g1 E n0 n1 g2) (plB pl1 pl2 n0 n1) nF (id - n1 + n0) (.tr sz es) := by
  intro q m hq
  obtain ⟨a, b⟩ := (hC.roots id _ hx).2 q m hq
  refine ⟨a.move (plB_ge hid q) (fun i c _ _ _ _ => plB_ge hid _) fun _ _ => rfl, b.move (plB_ge hid q) fun b o hb => ⟨?_, fun z => z, rfl⟩⟩
  unfold labB bmap
  rw [hb]
  simp [hid]
/-- A slice that was written. -/
theorem back_io (hA : Hp w0 own0 pl0 g1 pl1 X nA n0 fix w) (hC : Hp w (ownE g1 E) (plE pl1 E) g2 pl2 Y nC n1 F w') (hn : (Ids E).Nodup) (hh : (handE E).Nodup) (hFn : F ≤ n1) {id r : Nat} {p : Path} (hE : (id, Ent.tree r p) ∈ E) (hid : id < F) (hr : r < n0)
    {sz0 : Nat} {es0 : List (List D)} (hx : get X r = some (.tr sz0 es0)) {sz : Nat} {es es' : List (List D)} (hp : nodeAt sz0 es0 p = some (sz, es)) (hy : get Y id = some (.tr sz es')) (hl : es'.length = es.length) (st : Nat → Nat → Prop) :
    RootOk st w' (labB g1 E n0 n1 g2) (plB pl1 pl2 n0 n1) nF r (.tr sz0 (updNode es0 p fun _ => es')) := by
  have hg := get_of_mem hn hE
  have hpl : ∀ q, pl2 id q = pl1 r (p ++ q) := fun q => by rw [hC.fixed id q hid]; unfold plE; rw [hg]
  intro q m hq
  rcases upd_desc (f := fun _ => es') hp hl q m hq with ⟨q', rfl, h⟩ | ⟨m0, h1, h2, h3, h4⟩
  · obtain ⟨a, b⟩ := (hC.roots id _ hy).2 q' m h
    refine ⟨a.move (by rw [plB_lt hr, hpl]) (fun i c _ _ _ _ => by rw [plB_lt hr, hpl, List.append_assoc]) fun _ _ => rfl, b.move (by rw [plB_lt hr, hpl]) fun b o hb => ⟨?_, fun z => z, rfl⟩⟩
    unfold labB bmap
    rw [hb]
    simp only
    rw [if_neg (by omega), hg]
    simp [hr]
  · obtain ⟨a, b⟩ := (hA.roots r _ hx).2 q m0 h1
    have hnone := hmap_tree_none hh hE h2
    have key : ∀ b o, g1 b o = some (r, q) → labB g1 E n0 n1 g2 b o = some (r, q) ∧ w'.cell? ⟨b, o, none⟩ = w.cell? ⟨b, o, none⟩ ∧ w'.frozen? ⟨b, o, none⟩ = w.frozen? ⟨b, o, none⟩ := fun b o hb => back_other hA hC hb hnone hr
    have a' : NodeC w' (plB pl1 pl2 n0 n1) r q m0.1 m0.2 := a.move (plB_lt hr q) (fun i c _ _ _ _ => plB_lt hr _) fun j hj => by
      have := Nat.mul_le_mul_right m0.1 a.le
      exact (key _ _ (b j (by rw [a.szp]; omega)).1).2.1
    refine ⟨?_, b.move (plB_lt hr q) fun b o hb => ⟨(key b o hb).1, fun ⟨v, hv⟩ => ⟨v, by rw [(key b o hb).2.1]; exact hv⟩, (key b o hb).2.2⟩⟩
    rw [h3]
    exact a'.sim h4
/-- A variable. -/
theorem back_box (hA : Hp w0 own0 pl0 g1 pl1 X nA n0 fix w) (hC : Hp w (ownE g1 E) (plE pl1 E) g2 pl2 Y nC n1 F w') (hF : n0 ≤ nF) (hn : (Ids E).Nodup) (hh : (handE E).Nodup) (hFn : F ≤ n1) {id r c k : Nat} (hE : (id, Ent.box r c k) ∈ E) (hid : id < F) (hr : r < n0)
    {cs : List C} (hx : get X r = some (.bx cs)) (hck : c + k ≤ cs.length) {ys zs : List C} (hy : get Y id = some (.bx ys)) (hyl : ys.length = k) (hzl : zs.length = k)
    (hz : ∀ (j : Nat) (y z : C) (v : Value), ys[j]? = some y → zs[j]? = some z → w'.cell? ⟨(pl1 r []).b, (pl1 r []).off + (c + j), none⟩ = some v → CR pl2 n1 y v → CR (plB pl1 pl2 n0 n1) nF z v) (st : Nat → Nat → Prop) :
    RootOk st w' (labB g1 E n0 n1 g2) (plB pl1 pl2 n0 n1) nF r (.bx (cs.take c ++ (zs ++ cs.drop (c + k)))) := by
  have hg := get_of_mem hn hE
  have hpl : pl2 id [] = ⟨false, (pl1 r []).b, (pl1 r []).off + c, 0, 1⟩ := by rw [hC.fixed id [] hid]; unfold plE; rw [hg]
  have out : ∀ (i : Nat) (x : C), ¬ (c ≤ i ∧ i < c + k) → cs[i]? = some x → ∃ v, w'.cell? ⟨(plB pl1 pl2 n0 n1 r []).b, (plB pl1 pl2 n0 n1 r []).off + i, none⟩ = some v ∧ CR (plB pl1 pl2 n0 n1) nF x v ∧ labB g1 E n0 n1 g2 (plB pl1 pl2 n0 n1 r []).b ((plB pl1 pl2 n0 n1 r []).off + i) = some (r, [(0, i)]) ∧ w'.frozen? ⟨(plB pl1 pl2 n0 n1 r []).b, (plB pl1 pl2 n0 n1 r []).off + i, none⟩ = false := by
    intro i x hi hxi
    obtain ⟨v, h1, h2, h3, h4⟩ := (hA.roots r _ hx).2 i x hxi
    obtain ⟨a, b, d⟩ := back_other hA hC h3 (hmap_box_none hh hE hi) hr
    rw [plB_lt hr]
    exact ⟨v, by rw [b]; exact h1, back_cr hF h2, a, by rw [d]; exact h4⟩
  intro i x hi
  by_cases h1 : i < c
  · rw [List.getElem?_append_left (by simp; omega), List.getElem?_take, if_pos h1] at hi
    exact out i x (by omega) hi
  · rw [List.getElem?_append_right (by simp; omega)] at hi
    have hlen : (cs.take c).length = c := by simp; omega
    rw [hlen] at hi
    by_cases h2 : i < c + k
    · rw [List.getElem?_append_left (by omega)] at hi
      obtain ⟨y, hyj⟩ : ∃ y, ys[i - c]? = some y := ⟨_, List.getElem?_eq_getElem (by omega)⟩
      obtain ⟨v, e1, e2, e3, e4⟩ := (hC.roots id _ hy).2 (i - c) y hyj
      rw [hpl] at e1 e3 e4
      simp only [Nat.add_assoc] at e1 e3 e4
      rw [plB_lt hr]
      have hic : c + (i - c) = i := by omega
      refine ⟨v, by rw [hic] at e1; exact e1, hz (i - c) y x v hyj hi e1 e2, ?_, by rw [hic] at e4; exact e4⟩
      rw [hic] at e3
      unfold labB bmap
      rw [e3]
      simp only
      rw [if_neg (by omega), hg]
      simp [hr, hic]
    · rw [List.getElem?_append_right (by omega), List.getElem?_drop, hzl, show c + k + (i - c - k) = i by omega] at hi
      exact out i x (by omega) hi
/-- All of it. -/
theorem back_hp (hA : Hp w0 own0 pl0 g1 pl1 X nA n0 fix w) (hC : Hp w (ownE g1 E) (plE pl1 E) g2 pl2 Y nC n1 F w') (hF : n0 ≤ nF) (hnF : ∀ id, n1 ≤ id → id < nC → id - n1 + n0 < nF) (hfix : fix ≤ n0) {R : List (Nat × Root)}
    (hR : ∀ r x, get R r = some x → r < nF ∧ RootOk (stable w0 own0) w' (labB g1 E n0 n1 g2) (plB pl1 pl2 n0 n1) nF r x) :
    Hp w0 own0 pl0 (labB g1 E n0 n1 g2) (plB pl1 pl2 n0 n1) R nF nF fix w' := by
  have own : ∀ b o, ownE g1 E b o → b < w.heap.size ∧ (w0.heap.size ≤ b ∨ own0 b o) := by
    intro b o k
    unfold ownE labE at k
    cases hg : g1 b o with
    | none => rw [hg] at k; simp at k
    | some z => have := hA.lab b o z hg; exact ⟨this.1, this.2.1⟩
  refine ⟨⟨?_, ?_, ?_, ?_, ?_, ?_⟩, ?_, ?_, by omega, Nat.le_refl _, hR⟩
  · exact hC.fr.os.trans hA.fr.os
  · exact hC.fr.tape.trans hA.fr.tape
  · exact hC.fr.output.trans hA.fr.output
  · exact Nat.le_trans hA.fr.size hC.fr.size
  · intro b hb ho
    have hb' := Nat.lt_of_lt_of_le hb hA.fr.size
    rw [hC.fr.block b hb' fun o k => ?_, hA.fr.block b hb ho]
    rcases (own b o k).2 with q | q
    · omega
    · exact ho o q
  · intro b o hb ho
    have hb' := Nat.lt_of_lt_of_le hb hA.fr.size
    have hno : ¬ ownE g1 E b o := fun k => by
      rcases (own b o k).2 with q | q
      · omega
      · exact ho q
    obtain ⟨a, b1⟩ := hC.fr.cell b o hb' hno
    obtain ⟨c, d⟩ := hA.fr.cell b o hb ho
    exact ⟨a.trans c, b1.trans d⟩
  · intro b o x hx
    unfold labB at hx
    split at hx
    · rename_i y hy
      obtain ⟨h1, h2, h3⟩ := hC.lab b o y hy
      refine ⟨h1, ?_, ?_⟩
      · rcases h2 with k | k
        · exact .inl (Nat.le_trans hA.fr.size k)
        · exact (own b o k).2
      · unfold bmap at hx
        split at hx
        · rename_i hle
          simp only [Option.some.injEq] at hx; subst hx
          exact hnF _ hle h3
        · split at hx
          · split at hx
            · simp only [Option.some.injEq] at hx; subst hx; simp only; omega
            · simp at hx
          · split at hx
            · split at hx
              · simp only [Option.some.injEq] at hx; subst hx; simp only; omega
              · simp at hx
            · simp at hx
          · simp at hx
    · split at hx
      · rename_i z hz
        split at hx
        · simp at hx
        · rename_i hno
          simp only [Option.some.injEq] at hx; subst hx
          obtain ⟨h1, h2, h3⟩ := hA.lab b o _ hz
          exact ⟨Nat.lt_of_lt_of_le h1 hC.fr.size, h2, by omega⟩
      · simp at hx
  · intro r p hr
    rw [plB_lt (by omega)]
    exact hA.fixed r p hr
end
end Go.Vs
