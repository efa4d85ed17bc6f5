import Derived.Test.YteacflalidbhpaaVsV11
set_option linter.unusedVariables false
set_option linter.unusedSimpArgs false
namespace Go.Vs
set_option linter.unusedVariables false
set_option linter.unusedSimpArgs false
variable {P : Program} {N : Nat} {w0 : World} {own0 : Nat → Nat → Prop} {pl0 : Pls} {g : Lab} {pl : Pls} {S : St} {a : Act} {w : World} {K : V → List (Nat × Path) → List (Nat × Root) → Nat → Prop}

theorem nodeAt_upd {f : List (List D) → List (List D)} : ∀ {p : Path} {sz0 : Nat} {es : List (List D)} {n : Nat × List (List D)}, nodeAt sz0 es p = some n → nodeAt sz0 (updNode es p f) p = some (n.1, f n.2)
  | [], sz0, es, n, h => by simp only [nodeAt, Option.some.injEq] at h; subst h; rfl
  | (i, c) :: p, sz0, es, n, h => by
    simp only [nodeAt] at h
    split at h
    · rename_i sz' es' hcell
      simp only [Option.bind_eq_some_iff] at hcell
      obtain ⟨e, he, hd⟩ := hcell
      simp only [updNode, he, hd]
      rw [nodeAt_set_eq he hd]
      exact nodeAt_upd h
    · simp at h
theorem nodeAt_setD {sz0 : Nat} {es : List (List D)} {p : Path} {n : Nat × List (List D)} (h : nodeAt sz0 es p = some n) {i : Nat} {e : List D} (he : n.2[i]? = some e) (c : Nat) (d : D) :
    ∃ n', nodeAt sz0 (setD es p i c d) p = some n' ∧ n'.1 = n.1 ∧ n'.2[i]? = some (e.set c d) := by
  refine ⟨_, nodeAt_upd h, rfl, ?_⟩
  have h1 := getElem?_lt he
  simp only [setC, he]
  rw [List.getElem?_set, if_pos rfl, if_pos h1]
theorem updNode_upd {f k : List (List D) → List (List D)} : ∀ {p : Path} {sz0 : Nat} {es : List (List D)} {n : Nat × List (List D)}, nodeAt sz0 es p = some n → updNode (updNode es p f) p k = updNode es p fun l => k (f l)
  | [], sz0, es, n, h => rfl
  | (i, c) :: p, sz0, es, n, h => by
    simp only [nodeAt] at h
    split at h
    · rename_i sz' es' hcell
      simp only [Option.bind_eq_some_iff] at hcell
      obtain ⟨e, he, hd⟩ := hcell
      have h1 := getElem?_lt he
      have h2 := getElem?_lt hd
      simp only [updNode, he, hd]
      rw [List.getElem?_set, if_pos rfl, if_pos h1]
      simp only
      rw [List.getElem?_set, if_pos rfl, if_pos h2]
      simp only
      rw [updNode_upd h, List.set_set, List.set_set]
    · simp at h
theorem setD_setD {sz0 : Nat} {es : List (List D)} {p : Path} {n : Nat × List (List D)} (h : nodeAt sz0 es p = some n) (i c : Nat) (d d' : D) : setD (setD es p i c d) p i c d' = setD es p i c d' := by
  unfold setD
  rw [updNode_upd h]
  congr 1
  funext l
  unfold setC
  cases hl : l[i]? with
  | none => simp [hl]
  | some e =>
    have h1 := getElem?_lt hl
    simp only
    rw [List.getElem?_set, if_pos rfl, if_pos h1]
    simp only [List.set_set]

theorem get_killRoots (r : Nat) (pre : Path) (roots : List (Nat × Root)) (t : Nat) : get (killRoots r pre roots) t = (get roots t).map (Root.map (killC r pre)) := get_map _ _ _

theorem takeC_sub {roots roots1 : List (Nat × Root)} {c : C} {d : D} (h : takeC roots c = some (d, roots1)) {t : Nat} {x : Root} (hx : get roots1 t = some x) : ∃ y, get roots t = some y := by
  unfold takeC at h
  split at h
  · simp only [Option.some.injEq, Prod.mk.injEq] at h; obtain ⟨_, rfl⟩ := h; exact ⟨x, hx⟩
  · simp only [Option.some.injEq, Prod.mk.injEq] at h; obtain ⟨_, rfl⟩ := h; exact ⟨x, hx⟩
  · rename_i r p sz n
    split at h
    · rename_i sz0 es hr
      split at h
      · split at h
        · simp only [Option.some.injEq, Prod.mk.injEq] at h
          obtain ⟨_, rfl⟩ := h
          by_cases e : t = r
          · subst e; exact ⟨_, hr⟩
          · rw [cutR_other e] at hx; exact ⟨x, hx⟩
        · simp at h
      · simp at h
    · simp at h
  · simp at h

/-- Cells of an element of a tree are written. -/
theorem storeT_ok {plI : Pls} {n0 nc fix r : Nat} {p : Path} {i : Nat} (hnc : nc ≤ n0) : ∀ (ys : List C) (vs : List Value) (roots : List (Nat × Root)) (c : Nat) (ks : List (Nat × Path)) (w : World) (g : Lab) (pl : Pls) (nx : Nat) (res : List (Nat × Root) × List (Nat × Path)),
    Hp w0 own0 pl0 g pl roots nx nc fix w → n0 ≤ nx → (∀ t x, get roots t = some x → t < n0) → (∀ z u, CR plI nc z u → CR pl nc (killCs ks z) u) → All2 (CR plI nc) ys vs →
    ∀ (sz0 : Nat) (es : List (List D)) (n : Nat × List (List D)) (e : List D), get roots r = some (.tr sz0 es) → nodeAt sz0 es p = some n → n.2[i]? = some e → c + ys.length ≤ e.length →
    storeT fix r p i ys roots c ks = some res →
    ∃ g' pl' nx', Hp w0 own0 pl0 g' pl' res.1 nx' nc fix (setCells w (pl r p).b ((pl r p).off + (i * (pl r p).sz + c)) vs) ∧ n0 ≤ nx' ∧ (∀ t x, get res.1 t = some x → t < n0) ∧ (∀ z u, CR plI nc z u → CR pl' nc (killCs res.2 z) u)
  | [], [], roots, c, ks, w, g, pl, nx, res, h, hn0, hids, hcr, _, sz0, es, n, e, hr, hp, he, hle, hst => by
    simp only [storeT, Option.some.injEq] at hst; subst hst
    exact ⟨g, pl, nx, h, hn0, hids, hcr⟩
  | y :: ys, v :: vs, roots, c, ks, w, g, pl, nx, res, h, hn0, hids, hcr, hall, sz0, es, n, e, hr, hp, he, hle, hst => by
    simp only [List.length_cons] at hle
    have hy := hcr y v hall.1
    have hcc := (h.node (r := r) (p := p) (n := n)
      (by unfold nodeIn; rw [hr]; exact hp)).2
    have hd : ∃ d0, e[c]? = some d0 := ⟨_, List.getElem?_eq_getElem (by omega)⟩
    obtain ⟨d0, hd⟩ := hd
    have hszp := hcc.szp
    unfold storeT at hst
    split at hst
    · rename_i u hyk
      rw [hyk] at hy
      obtain ⟨rfl, h1⟩ := hy
      rw [hr] at hst
      simp only at hst
      obtain ⟨hL, _⟩ := h.setLeaf hr hp he hd h1
      obtain ⟨n', hn', hn1, hn2⟩ := nodeAt_setD hp he c (.lf v)
      obtain ⟨g', pl', nx', a1, a2, a3, a4⟩ := storeT_ok hnc ys vs _ (c + 1) ks _ g pl nx res hL hn0 (fun t x hx => by
          rw [get_put] at hx; split at hx
          · rename_i e'; subst e'; exact hids _ _ hr
          · exact hids t x hx) hcr hall.2 sz0 _ n' _ (by rw [get_put, if_pos rfl]) hn' hn2 (by simp; omega) hst
      refine ⟨g', pl', nx', ?_, a2, a3, a4⟩
      rw [setCells, hszp]
      rw [hszp] at a1
      rw [show (pl r p).off + (i * n.1 + c) + 1 = (pl r p).off + (i * n.1 + (c + 1)) by omega]
      exact a1
    · rename_i hnl
      split at hst
      · rename_i d roots1 htk
        split at hst
        · rename_i sz1 es1 hr1
          split at hst
          · rename_i hcond
            obtain ⟨hfix, hcell⟩ := hcond
            unfold hasCell at hcell
            split at hcell
            · rename_i e1 hne1
              simp only [decide_eq_true_eq] at hcell
              simp only [Option.bind_eq_some_iff] at hne1
              obtain ⟨n1, hn1, he1⟩ := hne1
              obtain ⟨d1, hd1⟩ : ∃ d1, e1[c]? = some d1 := ⟨_, List.getElem?_eq_getElem (by omega)⟩
              have hid1' : ∀ t x, get roots1 t = some x → t < n0 := by
                intro t x hx
                obtain ⟨y, hy⟩ := takeC_sub htk hx
                exact hids t y hy
              -- the real cell is written with the value, told as a leaf; then it is told what it is
              have key : ∃ g2 pl2 nx2, Hp w0 own0 pl0 g2 pl2 (put (killRoots r (p ++ [(i, c)]) roots1) r (.tr sz1 (setD es1 p i c d))) nx2 nc fix (w.setCell ⟨(pl r p).b, (pl r p).off + (i * (pl r p).sz + c), none⟩ v) ∧ nx ≤ nx2 ∧
                  (∀ z u, CR pl nc z u → CR pl2 nc (killC r (p ++ [(i, c)]) z) u) ∧ pl2 r p = pl r p ∧ (∀ t x, get roots1 t = some x → t < n0) := by
                rcases takeC_ok h hy htk with ⟨rfl, h1, rfl⟩ | ⟨sz, rfl, rfl, rfl⟩ | ⟨sz, es', g1, pl1, rfl, h1, hag, hwin, hid1⟩
                · exfalso
                  unfold takeC at htk
                  split at htk
                  · first | exact hnl _ rfl | exact hnl _ ‹_› | simp_all
                  · simp at htk
                  · split at htk
                    · split at htk
                      · split at htk <;> simp at htk
                      · simp at htk
                    · simp at htk
                  · simp at htk
                · rw [hr] at hr1
                  simp only [Option.some.injEq, Root.tr.injEq] at hr1
                  obtain ⟨rfl, rfl⟩ := hr1
                  rw [hp] at hn1
                  simp only [Option.some.injEq] at hn1; subst hn1
                  rw [he] at he1
                  simp only [Option.some.injEq] at he1; subst he1
                  obtain ⟨hL, _⟩ := h.setLeaf hr hp he hd (u := .slice none 0 0) rfl
                  obtain ⟨n', hn', hn1', hn2'⟩ := nodeAt_setD hp he c (.lf (.slice none 0 0))
                  have hk := fun (z : C) (u : Value) (k : CR pl nc z u) => killC_ok (r := r) (pre := p ++ [(i, c)]) (by simp) (L := fun _ => ⟨true, 0, 0, 0, sz⟩) k
                  have hz := hL.setNil (κ := killC r (p ++ [(i, c)])) (by rw [get_put, if_pos rfl]) hn' hn2' (by simp [getElem?_lt hd]) sz hfix hk
                  refine ⟨_, _, nx, hz.roots_eq ?_ |> fun z => by rw [hszp]; exact z, Nat.le_refl _, hk, plAt_out (fun k => not_pre_child k.2), hid1'⟩
                  intro t
                  rw [get_put, get_put, get_killRoots, get_map, get_put]
                  split
                  · rw [setD_setD hp]
                  · rfl
                · have hrn0 : r < n0 := hid1' r _ hr1
                  have hrx : r < nx := by omega
                  have hr1' : get ((nx, Root.tr sz es') :: roots1) r = some (.tr sz1 es1) := by simp only [get]; rw [if_neg (by omega)]; exact hr1
                  obtain ⟨hL, _⟩ := h1.setLeaf hr1' hn1 he1 hd1 (u := v) hwin.one
                  have hpe : pl1 r p = pl r p := hag r p hrx
                  have hszp1 : (pl1 r p).sz = n1.1 := (h1.node (r := r) (p := p) (n := n1) (by unfold nodeIn; rw [hr1']; exact hn1)).2.szp
                  rw [hpe] at hszp1
                  obtain ⟨n', hn', hn1', hn2'⟩ := nodeAt_setD hn1 he1 c (.lf v)
                  have hk := fun (z : C) (u : Value) (k : CR pl1 nc z u) => killC_ok (r := r) (pre := p ++ [(i, c)]) (by simp) (L := fun q => pl1 nx ([] ++ q)) k
                  have hm := hL.move (κ := killC r (p ++ [(i, c)])) (R := r) (by rw [get_put, if_pos rfl]) hn' hn2' (by simp [getElem?_lt hd1]) hfix (r := nx) (by omega) (p := []) (sz := sz) (n := es'.length) (sz0 := sz) (es := es')
                    (by rw [get_put, if_neg (by omega)]; simp [get]) rfl (Nat.le_refl _) hwin hk
                  refine ⟨_, _, nx + 1, hm.roots_eq ?_ |> fun z => by rw [hszp1, ← hpe]; exact z, by omega, fun z u k => hk z u (k.agree fun r p hr => hag r p (by have := h.ncle; omega)), by rw [plAt_out (fun k => not_pre_child k.2)]; exact hpe, hid1'⟩
                  intro t
                  rw [get_put, get_put, get_killRoots, get_map]
                  split
                  · rw [setD_setD hn1, List.take_length]
                  · rename_i hne
                    congr 1
                    simp only [cutR]
                    rw [get_del, get_put, if_neg hne]
                    simp only [get]
                    split
                    · rename_i e; subst e
                      cases hq : get roots1 nx with
                      | none => rfl
                      | some x => have := hid1' _ _ hq; omega
                    · rfl
              obtain ⟨g2, pl2, nx2, hp2, hnx2, hcr2, hpl2, hid2⟩ := key
              obtain ⟨n', hn', hn1', hn2'⟩ := nodeAt_setD hn1 he1 c d
              obtain ⟨g', pl', nx', a1, a2, a3, a4⟩ := storeT_ok hnc ys vs _ (c + 1) (ks ++ [(r, p ++ [(i, c)])]) _ g2 pl2 nx2 res hp2 (by omega) (fun t x hx => by
                  rw [get_put] at hx; split at hx
                  · rename_i e'; subst e'; exact hid2 _ _ hr1
                  · rw [get_killRoots] at hx
                    simp only [Option.map_eq_some_iff] at hx
                    obtain ⟨y, hy, _⟩ := hx
                    exact hid2 t y hy) (fun z u k => by rw [killCs_append]; exact hcr2 _ _ (hcr z u k)) hall.2 sz1 _ n' _ (by rw [get_put, if_pos rfl]) hn' hn2' (by simp; omega) hst
              refine ⟨g', pl', nx', ?_, a2, a3, a4⟩
              rw [setCells]
              rw [hpl2] at a1
              rw [show (pl r p).off + (i * (pl r p).sz + c) + 1 = (pl r p).off + (i * (pl r p).sz + (c + 1)) by omega]
              exact a1
            · simp at hcell
          · simp at hst
        · simp at hst
      · simp at hst
  | [], _ :: _, _, _, _, _, _, _, _, _, _, _, _, _, h, _, _, _, _, _, _, _, _, _ => h.elim
  | _ :: _, [], _, _, _, _, _, _, _, _, _, _, _, _, h, _, _, _, _, _, _, _, _, _ => h.elim
end Go.Vs
