import Derived.Test.YteacflalidbhpaaVsV6
set_option linter.unusedVariables false
set_option linter.unusedSimpArgs false
namespace Go.Vs
set_option linter.unusedVariables false
set_option linter.unusedSimpArgs false

theorem lin_inj {i j c k sz : Nat} (hc : c < sz) (hk : k < sz) (h : i * sz + c = j * sz + k) : i = j ∧ c = k := by
  rcases Nat.lt_trichotomy i j with hij | hij | hij
  · have := Nat.mul_le_mul_right sz (show i + 1 ≤ j by omega)
    rw [Nat.add_mul, Nat.one_mul] at this; omega
  · subst hij; omega
  · have := Nat.mul_le_mul_right sz (show j + 1 ≤ i by omega)
    rw [Nat.add_mul, Nat.one_mul] at this; omega

theorem NodeC.set {w w' : World} {pl pl' : Pls} {r : Nat} {p : Path} {sz : Nat} {es : List (List D)} (h : NodeC w pl r p sz es) {i c : Nat} {e : List D} {d0 : D} (he : es[i]? = some e) (hd : e[c]? = some d0) (d : D)
    (hp : pl' r p = pl r p) (hch : ∀ j k, ¬ (j = i ∧ k = c) → pl' r (p ++ [(j, k)]) = pl r (p ++ [(j, k)]))
    (hw : ∀ j, j < (pl r p).cap * sz → j ≠ i * sz + c → w'.cell? ⟨(pl r p).b, (pl r p).off + j, none⟩ = w.cell? ⟨(pl r p).b, (pl r p).off + j, none⟩)
    {u : Value} (hu : w'.cell? ⟨(pl r p).b, (pl r p).off + (i * sz + c), none⟩ = some u) (hdv : DV (pl' r (p ++ [(i, c)])) d u) : NodeC w' pl' r p sz (es.set i (e.set c d)) where
  szp := by rw [hp]; exact h.szp
  le := by rw [hp]; simp; exact h.le
  nil := by rw [hp]; exact h.nil
  szs := fun x hx => by
    obtain ⟨j, hj⟩ := List.getElem?_of_mem hx
    rw [List.getElem?_set] at hj
    split at hj
    · split at hj
      · simp only [Option.some.injEq] at hj; subst hj
        rw [List.length_set]; exact h.szs e (List.mem_of_getElem? he)
      · simp at hj
    · exact h.szs x (List.mem_of_getElem? hj)
  cells := fun j x k y hx hy => by
    rw [hp]
    have hb := h.bound he hd
    by_cases hjk : j = i ∧ k = c
    · obtain ⟨rfl, rfl⟩ := hjk
      rw [List.getElem?_set, if_pos rfl, if_pos hb.1] at hx
      simp only [Option.some.injEq] at hx; subst hx
      rw [List.getElem?_set, if_pos rfl, if_pos (getElem?_lt hd)] at hy
      simp only [Option.some.injEq] at hy; subst hy
      exact ⟨u, hu, hdv⟩
    · have hold : ∃ x0, es[j]? = some x0 ∧ x0[k]? = some y := by
        rw [List.getElem?_set] at hx
        split at hx
        · rename_i hij; subst hij
          rw [if_pos hb.1] at hx
          simp only [Option.some.injEq] at hx; subst hx
          rw [List.getElem?_set, if_neg (fun hck => hjk ⟨rfl, hck.symm⟩)] at hy
          exact ⟨e, he, hy⟩
        · exact ⟨x, hx, hy⟩
      obtain ⟨x0, hx0, hy0⟩ := hold
      obtain ⟨v, hv, hk⟩ := h.cells j x0 k y hx0 hy0
      have hb' := h.bound hx0 hy0
      refine ⟨v, ?_, by rw [hch j k hjk]; exact hk⟩
      rw [hw _ hb'.2.2.1 (fun e => hjk (lin_inj hb'.2.1 hb.2.1 e))]
      exact hv

theorem Mine.lab {w : World} {g : Lab} {pl : Pls} {r : Nat} {p : Path} {sz : Nat} {es : List (List D)} (m : Mine w g pl r p) (h : NodeC w pl r p sz es) {j : Nat} (hj : j < (pl r p).cap * sz) :
    g (pl r p).b ((pl r p).off + j) = some (r, p) := (m j (by rw [h.szp]; exact hj)).1

section
variable {w0 : World} {own0 : Nat → Nat → Prop} {pl0 : Pls} {g : Lab} {pl : Pls} {roots : List (Nat × Root)} {nx nc fix : Nat} {w : World}

theorem keep_write (h : Hp w0 own0 pl0 g pl roots nx nc fix w) {b o r : Nat} {p : Path} (hg : g b o = some (r, p)) (u : Value) {r' : Nat} (hne : r' ≠ r) :
    Keep (stable w0 own0) w g pl nc (w.setCell ⟨b, o, none⟩ u) g pl nc r' where
  lab := fun b' o' q hb => by
    refine ⟨hb, cell_set_ne ?_, World.frozen?_setCell ..⟩
    rintro ⟨rfl, rfl⟩
    rw [hg] at hb
    simp only [Option.some.injEq, Prod.mk.injEq] at hb
    exact hne hb.1.symm
  st := fun b' o' hst => by
    refine cell_set_ne ?_
    rintro ⟨rfl, rfl⟩
    rcases (h.lab _ _ _ hg).2.1 with k | k
    · have := hst.1; omega
    · exact hst.2 k
  pl := fun _ => rfl

/-- One cell of a tree is written, with a leaf. -/
theorem Hp.setLeaf (h : Hp w0 own0 pl0 g pl roots nx nc fix w) {r sz0 : Nat} {es : List (List D)} (hr : get roots r = some (.tr sz0 es)) {p : Path} {n : Nat × List (List D)} (hp : nodeAt sz0 es p = some n)
    {i c : Nat} {e : List D} {d0 : D} (he : n.2[i]? = some e) (hd : e[c]? = some d0) {u : Value} (hu : u.oneCell' = true) :
    Hp w0 own0 pl0 g pl (put roots r (.tr sz0 (setD es p i c (.lf u)))) nx nc fix (w.setCell ⟨(pl r p).b, (pl r p).off + (i * n.1 + c), none⟩ u) ∧
      ∃ v, w.cell? ⟨(pl r p).b, (pl r p).off + (i * n.1 + c), none⟩ = some v ∧ w.frozen? ⟨(pl r p).b, (pl r p).off + (i * n.1 + c), none⟩ = false := by
  obtain ⟨hrn, hok⟩ := h.roots r _ hr
  obtain ⟨hc, hm⟩ := hok p n hp
  have hb := hc.bound he hd
  have hm' := hm (i * n.1 + c) (by rw [hc.szp]; exact hb.2.2.1)
  obtain ⟨hg, ⟨v, hv⟩, hfz⟩ := hm'
  have hlab := h.lab _ _ _ hg
  refine ⟨⟨h.fr.setCell hlab.2.1 u, ?_, h.fixed, h.fixle, h.ncle, ?_⟩, v, hv, hfz⟩
  · intro b o x hx
    rw [World.size_setCell]
    exact h.lab b o x hx
  · intro r' x hx
    rw [get_put] at hx
    split at hx
    · rename_i e'; subst e'
      simp only [Option.some.injEq] at hx; subst hx
      refine ⟨hrn, ?_⟩
      intro q m hq
      rcases setD_desc hp he hd (.lf u) q m hq with ⟨rfl, rfl⟩ | ⟨q', sz', es', rfl, hbad, _⟩ | ⟨m0, h1, h2, h3, h4, h5⟩
      · refine ⟨hc.set he hd (.lf u) rfl (fun _ _ _ => rfl) (fun j hj hne => cell_set_ne (by omega)) (World.cell?_setCell_same w _ u hv) ⟨rfl, hu⟩, hm.move rfl fun b o hb' => ⟨hb', fun ⟨z, hz⟩ => ?_, World.frozen?_setCell ..⟩⟩
        by_cases heq : (pl r q).b = b ∧ (pl r q).off + (i * n.1 + c) = o
        · obtain ⟨rfl, rfl⟩ := heq
          exact ⟨u, World.cell?_setCell_same w _ u hv⟩
        · exact ⟨z, by rw [cell_set_ne heq]; exact hz⟩
      · cases hbad
      · obtain ⟨hc0, hm0⟩ := hok q m0 h1
        have hne : ∀ b o, g b o = some (r, q) → ¬ ((pl r p).b = b ∧ (pl r p).off + (i * n.1 + c) = o) := by
          rintro b o hb' ⟨rfl, rfl⟩
          rw [hg] at hb'
          simp only [Option.some.injEq, Prod.mk.injEq, true_and] at hb'
          exact h2 hb'.symm
        rw [h4]
        refine ⟨(hc0.sim h5).move rfl (fun _ _ _ _ _ _ => rfl) fun j hj => cell_set_ne (hne _ _ (hm0.lab hc0 ?_)), hm0.move rfl fun b o hb' => ⟨hb', fun ⟨z, hz⟩ => ⟨z, by rw [cell_set_ne (hne _ _ hb')]; exact hz⟩, World.frozen?_setCell ..⟩⟩
        have := Nat.mul_le_mul_right m0.1 hc0.le
        rw [h5.1] at hj; omega
    · rename_i hne
      obtain ⟨hr', hok'⟩ := h.roots r' x hx
      exact ⟨hr', (keep_write h hg u (fun e => hne e.symm)).root' (fun _ _ k => k) hok'⟩

/-- Other places under a path. -/
def plAt (pl : Pls) (R : Nat) (pre : Path) (L : Path → Pl) : Pls := fun r q => if r = R ∧ pre <+: q then L (q.drop pre.length) else pl r q
theorem plAt_in (pl : Pls) (R : Nat) (pre : Path) (L : Path → Pl) (q : Path) : plAt pl R pre L R (pre ++ q) = L q := by
  unfold plAt; rw [if_pos ⟨rfl, List.prefix_append _ _⟩]; simp
theorem plAt_self (pl : Pls) (R : Nat) (pre : Path) (L : Path → Pl) : plAt pl R pre L R pre = L [] := by
  have := plAt_in pl R pre L []; simpa using this
theorem plAt_out {pl : Pls} {R : Nat} {pre : Path} {L : Path → Pl} {r : Nat} {q : Path} (h : ¬ (r = R ∧ pre <+: q)) : plAt pl R pre L r q = pl r q := by
  unfold plAt; rw [if_neg h]
theorem get_map (κ : C → C) (r : Nat) : ∀ l : List (Nat × Root), get (l.map fun x => (x.1, x.2.map κ)) r = (get l r).map (Root.map κ)
  | [] => rfl
  | (k, y) :: l => by simp only [List.map_cons, get]; split <;> simp [get_map κ r l]
theorem not_pre_child {p : Path} {i c : Nat} : ¬ (p ++ [(i, c)]) <+: p := by
  intro hh; have := hh.length_le; simp at this; omega
theorem not_pre_sib {p : Path} {i c j k : Nat} (hjk : ¬ (j = i ∧ k = c)) : ¬ (p ++ [(i, c)]) <+: (p ++ [(j, k)]) := by
  intro hpre
  rw [List.prefix_append_right_inj, List.cons_prefix_cons] at hpre
  obtain ⟨hh, _⟩ := hpre
  simp only [Prod.mk.injEq] at hh
  exact hjk ⟨hh.1.symm, hh.2.symm⟩
theorem not_pre_step {p q : Path} {i c j k : Nat} (h2 : q ≠ p) (h3 : ¬ (p ++ [(i, c)]) <+: q) : ¬ (p ++ [(i, c)]) <+: (q ++ [(j, k)]) := by
  intro hpre
  rcases List.prefix_concat_iff.1 hpre with e | e
  · exact h2 (List.append_inj' e rfl).1.symm
  · exact h3 e

/-- A cell that holds the nil slice, told as an empty list. -/
theorem Hp.setNil (h : Hp w0 own0 pl0 g pl roots nx nc fix w) {r sz0 : Nat} {es : List (List D)} (hr : get roots r = some (.tr sz0 es)) {p : Path} {n : Nat × List (List D)} (hp : nodeAt sz0 es p = some n)
    {i c : Nat} {e : List D} (he : n.2[i]? = some e) (hd : e[c]? = some (.lf (.slice none 0 0))) (sz : Nat) (hfix : fix ≤ r) {κ : C → C}
    (hκ : ∀ x u, CR pl nc x u → CR (plAt pl r (p ++ [(i, c)]) fun _ => ⟨true, 0, 0, 0, sz⟩) nc (κ x) u) :
    Hp w0 own0 pl0 g (plAt pl r (p ++ [(i, c)]) fun _ => ⟨true, 0, 0, 0, sz⟩) (put (roots.map fun x => (x.1, x.2.map κ)) r (.tr sz0 (setD es p i c (.sl sz [])))) nx nc fix w := by
  obtain ⟨hrn, hok⟩ := h.roots r _ hr
  obtain ⟨hc, hm⟩ := hok p n hp
  have hb := hc.bound he hd
  obtain ⟨v, hv, hdv⟩ := hc.cells i e c _ he hd
  have hpl : ∀ q, ¬ (p ++ [(i, c)]) <+: q → plAt pl r (p ++ [(i, c)]) (fun _ => ⟨true, 0, 0, 0, sz⟩) r q = pl r q := fun q hq => plAt_out fun k => hq k.2
  refine ⟨h.fr, h.lab, ?_, h.fixle, h.ncle, ?_⟩
  · intro r' q hr'
    rw [plAt_out (by rintro ⟨rfl, _⟩; omega)]
    exact h.fixed r' q hr'
  · intro r' x hx
    rw [get_put] at hx
    split at hx
    · rename_i e'; subst e'
      simp only [Option.some.injEq] at hx; subst hx
      refine ⟨hrn, ?_⟩
      intro q m hq
      rcases setD_desc hp he hd (.sl sz []) q m hq with ⟨rfl, rfl⟩ | ⟨q', sz', es', rfl, hbad, hn'⟩ | ⟨m0, h1, h2, h3, h4, h5⟩
      · refine ⟨hc.set he hd (.sl sz []) (hpl _ not_pre_child) (fun j k hjk => hpl _ (not_pre_sib hjk)) (fun j hj hne => rfl) hv ?_, hm.move (hpl _ not_pre_child) fun b o hb' => ⟨hb', id, rfl⟩⟩
        rw [plAt_self]
        exact ⟨rfl, hdv.1⟩
      · simp only [D.sl.injEq] at hbad
        obtain ⟨rfl, rfl⟩ := hbad
        cases q' with
        | nil =>
          simp only [nodeAt, Option.some.injEq] at hn'; subst hn'
          have hq := plAt_self pl r (p ++ [(i, c)]) fun _ => ⟨true, 0, 0, 0, sz⟩
          refine ⟨⟨by rw [hq], by rw [hq]; simp, by rw [hq]; simp, by simp, by simp⟩, ?_⟩
          intro j hj
          rw [hq] at hj
          simp at hj
        | cons a q' =>
          obtain ⟨j, k⟩ := a
          simp [nodeAt] at hn'
      · obtain ⟨hc0, hm0⟩ := hok q m0 h1
        rw [h4]
        exact ⟨(hc0.sim h5).move (hpl _ h3) (fun j k _ _ _ _ => hpl _ (not_pre_step h2 h3)) fun j hj => rfl, hm0.move (hpl _ h3) fun b o hb' => ⟨hb', id, rfl⟩⟩
    · rename_i hne
      rw [get_map] at hx
      simp only [Option.map_eq_some_iff] at hx
      obtain ⟨y, hy, rfl⟩ := hx
      obtain ⟨hr', hok'⟩ := h.roots r' y hy
      refine ⟨hr', Keep.root ⟨fun b o q hb => ⟨hb, rfl, rfl⟩, fun _ _ _ => rfl, fun q => ?_⟩ hκ hok'⟩
      exact plAt_out (by rintro ⟨rfl, _⟩; exact hne rfl)

/-! ## a tree that is moved into another's cell -/
def cutR (roots : List (Nat × Root)) (r : Nat) (p : Path) : List (Nat × Root) :=
  match p with
  | [] => del roots r
  | _ => match get roots r with
    | some (.tr sz es) => put roots r (.tr sz (cutAt es p))
    | _ => roots
theorem take_desc {sz : Nat} {es : List (List D)} {n : Nat} {q : Path} {m : Nat × List (List D)} (h : nodeAt sz (es.take n) q = some m) :
    (q = [] ∧ m = (sz, es.take n)) ∨ (q ≠ [] ∧ nodeAt sz es q = some m) := by
  cases q with
  | nil => simp only [nodeAt, Option.some.injEq] at h; exact .inl ⟨rfl, h.symm⟩
  | cons a q =>
    obtain ⟨i, c⟩ := a
    refine .inr ⟨by simp, ?_⟩
    unfold nodeAt at h ⊢
    by_cases hi : i < n
    · rw [List.getElem?_take, if_pos hi] at h; exact h
    · rw [List.getElem?_take, if_neg hi] at h; simp at h
theorem NodeC.take {w : World} {pl : Pls} {r : Nat} {p : Path} {sz : Nat} {es : List (List D)} (h : NodeC w pl r p sz es) (n : Nat) : NodeC w pl r p sz (es.take n) where
  szp := h.szp
  le := by rw [List.length_take]; have := h.le; omega
  nil := h.nil
  szs := fun e he => h.szs e (List.mem_of_mem_take he)
  cells := fun i e c d he hd => by
    rw [List.getElem?_take] at he
    by_cases hi : i < n
    · rw [if_pos hi] at he; exact h.cells i e c d he hd
    · rw [if_neg hi] at he; simp at he
def labMove (g : Lab) (r : Nat) (p : Path) (R : Nat) (P : Path) : Lab := fun b o =>
  match g b o with
  | some (r', q) => if r' = r ∧ p <+: q then some (R, P ++ q.drop p.length) else some (r', q)
  | none => none
theorem labMove_in {g : Lab} {r : Nat} {p : Path} {R : Nat} {P : Path} {b o : Nat} {q : Path} (h : g b o = some (r, p ++ q)) : labMove g r p R P b o = some (R, P ++ q) := by
  unfold labMove
  rw [h]
  simp only [true_and, List.prefix_append, if_true]
  simp
theorem labMove_out {g : Lab} {r : Nat} {p : Path} {R : Nat} {P : Path} {b o : Nat} {r' : Nat} {q : Path} (h : g b o = some (r', q)) (hn : ¬ (r' = r ∧ p <+: q)) : labMove g r p R P b o = some (r', q) := by
  unfold labMove
  rw [h]
  simp only [hn, if_false]
theorem labMove_some {g : Lab} {r : Nat} {p : Path} {R : Nat} {P : Path} {b o : Nat} {x : Nat × Path} (h : labMove g r p R P b o = some x) : ∃ y, g b o = some y ∧ (x.1 = R ∨ x = y) := by
  unfold labMove at h
  split at h
  · rename_i r' q hg
    split at h
    · simp only [Option.some.injEq] at h; subst h; exact ⟨_, hg, .inl rfl⟩
    · simp only [Option.some.injEq] at h; subst h; exact ⟨_, hg, .inr rfl⟩
  · simp at h

theorem hdr_of_win {L : Pl} {sz n : Nat} {v : Value} (h : Win L sz 0 n v) : v = hdr L n := by
  obtain ⟨hsz, hnil, hle, A, rfl, hA⟩ := h
  simp only [hdr, Pl.base, Nat.sub_zero]
  rw [hA (.inr rfl)]
  simp
/-- The moved root's rest. -/
theorem cut_ok (h : Hp w0 own0 pl0 g pl roots nx nc fix w) {r sz0 : Nat} {es : List (List D)} (hr : get roots r = some (.tr sz0 es)) {p : Path} {sz : Nat} {es1 : List (List D)} (hp : nodeAt sz0 es p = some (sz, es1))
    {x : Root} (hx : get (cutR roots r p) r = some x) : ∃ es', x = .tr sz0 es' ∧ ∀ q m, nodeAt sz0 es' q = some m → NodeC w pl r q m.1 m.2 ∧ Mine w g pl r q ∧ ¬ p <+: q := by
  obtain ⟨hrn, hok⟩ := h.roots r _ hr
  by_cases hp0 : p = []
  · subst hp0; simp [cutR, get_del] at hx
  · obtain ⟨p0, ⟨i, c⟩, rfl⟩ : ∃ p0 a, p = p0 ++ [a] := ⟨p.dropLast, p.getLast hp0, (List.dropLast_concat_getLast hp0).symm⟩
    have hne : p0 ++ [(i, c)] ≠ [] := by simp
    have hcut : cutR roots r (p0 ++ [(i, c)]) = put roots r (.tr sz0 (setD es p0 i c .hole)) := by
      unfold cutR
      split
      · rename_i hh; exact absurd hh hne
      · rw [hr]; simp only; rw [cutAt_concat]
    rw [hcut, get_put, if_pos rfl] at hx
    simp only [Option.some.injEq] at hx
    refine ⟨_, hx.symm, ?_⟩
    rw [nodeAt_append] at hp
    simp only [Option.bind_eq_some_iff] at hp
    obtain ⟨n, hn, hcell⟩ := hp
    simp only [nodeAt] at hcell
    split at hcell
    · rename_i sz' es' hb
      simp only [Option.bind_eq_some_iff] at hb
      obtain ⟨e, he, hd⟩ := hb
      obtain ⟨hc, hm⟩ := hok p0 n hn
      intro q m hq
      rcases setD_desc hn he hd .hole q m hq with ⟨rfl, rfl⟩ | ⟨q', sz', es', rfl, hbad, _⟩ | ⟨m0, h1, h2, h3, h4, h5⟩
      · obtain ⟨v, hv, hdv⟩ := hc.cells i e c _ he hd
        exact ⟨hc.set he hd .hole rfl (fun _ _ _ => rfl) (fun _ _ _ => rfl) hv hdv.one, hm, not_pre_child⟩
      · cases hbad
      · obtain ⟨hc0, hm0⟩ := hok q m0 h1
        rw [h4]
        exact ⟨hc0.sim h5, hm0, h3⟩
    · simp at hcell
theorem cutR_other {r r' : Nat} {p : Path} (hne : r' ≠ r) : get (cutR roots r p) r' = get roots r' := by
  unfold cutR
  split
  · rw [get_del, if_neg (fun e => hne e.symm)]
  · split
    · rw [get_put, if_neg (fun e => hne e.symm)]
    · rfl
theorem cutR_map (κ : C → C) (r : Nat) (p : Path) : cutR (roots.map fun x => (x.1, x.2.map κ)) r p = (cutR roots r p).map fun x => (x.1, x.2.map κ) := by
  have hdel : ∀ l : List (Nat × Root), del (l.map fun x => (x.1, x.2.map κ)) r = (del l r).map fun x => (x.1, x.2.map κ) := by
    intro l
    induction l with
    | nil => rfl
    | cons a l ih => obtain ⟨k, y⟩ := a; simp only [List.map_cons, del]; split <;> simp [ih]
  have hput : ∀ (l : List (Nat × Root)) (x : Root), put (l.map fun x => (x.1, x.2.map κ)) r (x.map κ) = (put l r x).map fun x => (x.1, x.2.map κ) := by
    intro l x
    induction l with
    | nil => rfl
    | cons a l ih => obtain ⟨k, y⟩ := a; simp only [List.map_cons, put]; split <;> simp [ih]
  unfold cutR
  split
  · exact hdel roots
  · rw [get_map]
    cases hg : get roots r with
    | none => simp
    | some x =>
      cases x with
      | tr sz es => simp only [Option.map_some, Root.map]; exact hput roots (.tr sz _)
      | im sz es => simp [Root.map]
      | bx cs => simp [Root.map]
      | ib cs => simp [Root.map]

/-- A tree is moved into a cell that holds its header. -/
theorem Hp.move (h : Hp w0 own0 pl0 g pl roots nx nc fix w) {R szR : Nat} {esR : List (List D)} (hR : get roots R = some (.tr szR esR)) {P : Path} {nP : Nat × List (List D)} (hP : nodeAt szR esR P = some nP)
    {i c : Nat} {e : List D} {v : Value} (he : nP.2[i]? = some e) (hd : e[c]? = some (.lf v)) (hfix : fix ≤ R)
    {r : Nat} (hne : r ≠ R) {p : Path} {sz n sz0 : Nat} {es : List (List D)} (hr : get roots r = some (.tr sz0 es)) {es1 : List (List D)} (hp : nodeAt sz0 es p = some (sz, es1)) (hn : n ≤ es1.length)
    (hv : Win (pl r p) sz 0 n v) {κ : C → C} (hκ : ∀ x u, CR pl nc x u → CR (plAt pl R (P ++ [(i, c)]) fun q => pl r (p ++ q)) nc (κ x) u) :
    Hp w0 own0 pl0 (labMove g r p R (P ++ [(i, c)])) (plAt pl R (P ++ [(i, c)]) fun q => pl r (p ++ q))
      (put ((cutR roots r p).map fun x => (x.1, x.2.map κ)) R (.tr szR (setD esR P i c (.sl sz (es1.take n))))) nx nc fix w := by
  obtain ⟨hRn, hokR⟩ := h.roots R _ hR
  obtain ⟨hrn, hokr⟩ := h.roots r _ hr
  obtain ⟨hc, hm⟩ := hokR P nP hP
  have hpl : ∀ q, ¬ (P ++ [(i, c)]) <+: q → plAt pl R (P ++ [(i, c)]) (fun q => pl r (p ++ q)) R q = pl R q := fun q hq => plAt_out fun k => hq k.2
  have hlo : ∀ b o q, g b o = some (R, q) → labMove g r p R (P ++ [(i, c)]) b o = some (R, q) := fun b o q hb => labMove_out hb fun k => hne k.1.symm
  refine ⟨h.fr, ?_, ?_, h.fixle, h.ncle, ?_⟩
  · intro b o x hx
    obtain ⟨y, hy, hxy⟩ := labMove_some hx
    obtain ⟨a, b', c'⟩ := h.lab b o y hy
    refine ⟨a, b', ?_⟩
    rcases hxy with e | rfl
    · rw [e]; exact hRn
    · exact c'
  · intro r' q hr'
    rw [plAt_out (by rintro ⟨rfl, _⟩; omega)]
    exact h.fixed r' q hr'
  · intro r' x hx
    rw [get_put] at hx
    split at hx
    · rename_i e'; subst e'
      simp only [Option.some.injEq] at hx; subst hx
      refine ⟨hRn, ?_⟩
      intro q m hq
      rcases setD_desc hP he hd (.sl sz (es1.take n)) q m hq with ⟨rfl, rfl⟩ | ⟨q', sz', es', rfl, hbad, hn'⟩ | ⟨m0, h1, h2, h3, h4, h5⟩
      · obtain ⟨v', hv', hdv⟩ := hc.cells i e c _ he hd
        refine ⟨hc.set he hd _ (hpl _ not_pre_child) (fun j k hjk => hpl _ (not_pre_sib hjk)) (fun j hj hne => rfl) hv' ?_, hm.move (hpl _ not_pre_child) fun b o hb' => ⟨hlo _ _ _ hb', id, rfl⟩⟩
        rw [plAt_self, List.append_nil]
        refine ⟨hv.1, ?_⟩
        rw [hdv.1, hdr_of_win hv, List.length_take, Nat.min_eq_left hn]
      · simp only [D.sl.injEq] at hbad
        obtain ⟨rfl, rfl⟩ := hbad
        have hq0 : ∀ s, plAt pl R (P ++ [(i, c)]) (fun q => pl r (p ++ q)) R (P ++ (i, c) :: s) = pl r (p ++ s) := by
          intro s
          have := plAt_in pl R (P ++ [(i, c)]) (fun q => pl r (p ++ q)) s
          simpa using this
        have hold : NodeC w pl r (p ++ q') m.1 m.2 ∧ Mine w g pl r (p ++ q') := by
          rcases take_desc hn' with ⟨rfl, rfl⟩ | ⟨_, hn''⟩
          · obtain ⟨a, b⟩ := hokr p _ hp
            rw [List.append_nil]
            exact ⟨a.take n, b⟩
          · exact hokr (p ++ q') m (by rw [nodeAt_append, hp]; exact hn'')
        refine ⟨hold.1.move (hq0 _) (fun j k _ _ _ _ => ?_) fun j hj => rfl, hold.2.move (hq0 _) fun b o hb' => ⟨?_, id, rfl⟩⟩
        · have := hq0 (q' ++ [(j, k)])
          simpa using this
        · have := labMove_in (R := R) (P := P ++ [(i, c)]) hb'
          simpa using this
      · obtain ⟨hc0, hm0⟩ := hokR q m0 h1
        rw [h4]
        exact ⟨(hc0.sim h5).move (hpl _ h3) (fun j k _ _ _ _ => hpl _ (not_pre_step h2 h3)) fun j hj => rfl, hm0.move (hpl _ h3) fun b o hb' => ⟨hlo _ _ _ hb', id, rfl⟩⟩
    · rename_i hneR
      rw [get_map] at hx
      simp only [Option.map_eq_some_iff] at hx
      obtain ⟨y, hy, rfl⟩ := hx
      by_cases hrr : r' = r
      · subst hrr
        obtain ⟨es', rfl, hall⟩ := cut_ok h hr hp hy
        refine ⟨hrn, ?_⟩
        intro q m hq
        obtain ⟨a, b, hnp⟩ := hall q m hq
        have hpr : ∀ q, plAt pl R (P ++ [(i, c)]) (fun q => pl r' (p ++ q)) r' q = pl r' q := fun q => plAt_out fun k => hne k.1
        exact ⟨a.move (hpr _) (fun _ _ _ _ _ _ => hpr _) fun _ _ => rfl, b.move (hpr _) fun b o hb' => ⟨labMove_out hb' fun k => hnp k.2, id, rfl⟩⟩
      · rw [cutR_other hrr] at hy
        obtain ⟨hr', hok'⟩ := h.roots r' y hy
        refine ⟨hr', Keep.root ⟨fun b o q hb => ⟨labMove_out hb fun k => hrr k.1, rfl, rfl⟩, fun _ _ _ => rfl, fun q => ?_⟩ hκ hok'⟩
        exact plAt_out (by rintro ⟨rfl, _⟩; exact hneR rfl)
end
end Go.Vs
