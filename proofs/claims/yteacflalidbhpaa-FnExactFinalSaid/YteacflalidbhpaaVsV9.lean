import Derived.Test.YteacflalidbhpaaVsV8
set_option linter.unusedVariables false
set_option linter.unusedSimpArgs false
namespace Go.Vs
set_option linter.unusedVariables false
set_option linter.unusedSimpArgs false

section
variable {w0 : World} {own0 : Nat → Nat → Prop} {pl0 : Pls} {g : Lab} {pl : Pls} {roots : List (Nat × Root)} {nx nc fix : Nat} {w : World}

/-- A tree is taken out of its place; it stands under a new id. -/
theorem Hp.detach (h : Hp w0 own0 pl0 g pl roots nx nc fix w) {r : Nat} {p : Path} {sz n sz0 : Nat} {es : List (List D)} (hr : get roots r = some (.tr sz0 es)) {es1 : List (List D)} (hp : nodeAt sz0 es p = some (sz, es1)) :
    Hp w0 own0 pl0 (labMove g r p nx []) (plNew pl nx fun q => pl r (p ++ q)) ((nx, .tr sz (es1.take n)) :: cutR roots r p) (nx + 1) nc fix w := by
  obtain ⟨hrn, hokr⟩ := h.roots r _ hr
  refine ⟨h.fr, ?_, ?_, by have := h.fixle; omega, by have := h.ncle; omega, ?_⟩
  · intro b o x hx
    obtain ⟨y, hy, hxy⟩ := labMove_some hx
    obtain ⟨a, b', c'⟩ := h.lab b o y hy
    refine ⟨a, b', ?_⟩
    rcases hxy with e | rfl
    · rw [e]; omega
    · omega
  · intro r' q hr'
    rw [plNew_agree pl nx _ r' q (by have := h.fixle; omega)]
    exact h.fixed r' q hr'
  · intro r' x hx
    simp only [get] at hx
    split at hx
    · rename_i e'; subst e'
      simp only [Option.some.injEq] at hx; subst hx
      refine ⟨by omega, ?_⟩
      intro q m hq
      have hold : NodeC w pl r (p ++ q) m.1 m.2 ∧ Mine w g pl r (p ++ q) := by
        rcases take_desc hq with ⟨rfl, rfl⟩ | ⟨_, hn''⟩
        · obtain ⟨a, b⟩ := hokr p _ hp
          rw [List.append_nil]
          exact ⟨a.take n, b⟩
        · exact hokr (p ++ q) m (by rw [nodeAt_append, hp]; exact hn'')
      refine ⟨hold.1.move (plNew_self ..) (fun j k _ _ _ _ => ?_) fun j hj => rfl, hold.2.move (plNew_self ..) fun b o hb' => ⟨?_, id, rfl⟩⟩
      · rw [plNew_self, List.append_assoc]
      · have := labMove_in (R := nx) (P := []) hb'
        simpa using this
    · by_cases hrr : r' = r
      · subst hrr
        obtain ⟨es', rfl, hall⟩ := cut_ok h hr hp hx
        refine ⟨by omega, ?_⟩
        intro q m hq
        obtain ⟨a, b, hnp⟩ := hall q m hq
        exact ⟨a.move (plNew_agree _ _ _ _ _ hrn) (fun _ _ _ _ _ _ => plNew_agree _ _ _ _ _ hrn) fun _ _ => rfl, b.move (plNew_agree _ _ _ _ _ hrn) fun b o hb' => ⟨labMove_out hb' fun k => hnp k.2, id, rfl⟩⟩
      · rw [cutR_other hrr] at hx
        obtain ⟨hr', hok'⟩ := h.roots r' x hx
        exact ⟨by omega, Keep.root' ⟨fun b o q hb => ⟨labMove_out hb fun k => hrr k.1, rfl, rfl⟩, fun _ _ _ => rfl, fun q => plNew_agree _ _ _ _ _ hr'⟩ (fun x v k => k.agree fun r p hr => plNew_agree pl nx _ r p (by have := h.ncle; omega)) hok'⟩

/-- Fewer ids. -/
theorem Hp.trim (h : Hp w0 own0 pl0 g pl roots nx nc fix w) {n : Nat} (hn : nc ≤ n) (hf : fix ≤ n) (hr : ∀ r x, get roots r = some x → r < n) :
    Hp w0 own0 pl0 (fun b o => (g b o).bind fun x => if x.1 < n then some x else none) pl roots n nc fix w := by
  refine ⟨h.fr, ?_, h.fixed, hf, hn, ?_⟩
  · intro b o x hx
    simp only [Option.bind_eq_some_iff] at hx
    obtain ⟨y, hy, hx⟩ := hx
    split at hx
    · rename_i hlt
      simp only [Option.some.injEq] at hx; subst hx
      obtain ⟨a, b', _⟩ := h.lab b o y hy
      exact ⟨a, b', hlt⟩
    · simp at hx
  · intro r x hx
    obtain ⟨hr', hok'⟩ := h.roots r x hx
    have hrn := hr r x hx
    refine ⟨hrn, Keep.root' ⟨fun b o q hb => ⟨?_, rfl, rfl⟩, fun _ _ _ => rfl, fun _ => rfl⟩ (fun _ _ k => k) hok'⟩
    simp [hb, hrn]

/-- Elements of a window, moved out. -/
def holeWin (lo m : Nat) (l : List (List D)) : List (List D) := l.take lo ++ (((l.drop lo).take m).map (·.map fun _ => D.hole) ++ l.drop (lo + m))
theorem holeWin_get {lo m : Nat} {l : List (List D)} (hm : lo + m ≤ l.length) (i : Nat) :
    (holeWin lo m l)[i]? = if lo ≤ i ∧ i < lo + m then (l[i]?).map (·.map fun _ => D.hole) else l[i]? := by
  unfold holeWin
  by_cases h1 : i < lo
  · rw [List.getElem?_append_left (by simp; omega), List.getElem?_take, if_pos h1, if_neg (by omega)]
  · rw [List.getElem?_append_right (by simp; omega)]
    have e1 : (l.take lo).length = lo := by simp; omega
    rw [e1]
    by_cases h2 : i < lo + m
    · rw [List.getElem?_append_left (by simp; omega), if_pos ⟨by omega, h2⟩]
      simp only [List.getElem?_map, List.getElem?_take, List.getElem?_drop]
      rw [if_pos (by omega), show lo + (i - lo) = i by omega]
    · rw [List.getElem?_append_right (by simp; omega), if_neg (by omega)]
      have e2 : (((l.drop lo).take m).map (·.map fun _ => D.hole)).length = m := by simp; omega
      rw [e2, List.getElem?_drop]
      congr 1; omega
theorem holeWin_len {lo m : Nat} {l : List (List D)} (hm : lo + m ≤ l.length) : (holeWin lo m l).length = l.length := by simp [holeWin]; omega

def labBulk (g : Lab) (ry : Nat) (py : Path) (lo m R k0 : Nat) : Lab := fun b o =>
  match g b o with
  | some (r', q) => if r' = ry ∧ py <+: q then
      match q.drop py.length with
      | (i, c) :: q' => if lo ≤ i ∧ i < lo + m then some (R, (k0 + (i - lo), c) :: q') else some (r', q)
      | [] => some (r', q)
    else some (r', q)
  | none => none
def plBulk (pl : Pls) (ry : Nat) (py : Path) (lo R k0 : Nat) : Pls := fun r q =>
  if r = R then match q with
    | (i, c) :: q' => if k0 ≤ i then pl ry (py ++ (lo + (i - k0), c) :: q') else pl r q
    | [] => pl r q
  else pl r q
theorem labBulk_in {g : Lab} {ry : Nat} {py : Path} {lo m R k0 : Nat} {b o i c : Nat} {q : Path} (h : g b o = some (ry, py ++ (lo + i, c) :: q)) (hi : i < m) : labBulk g ry py lo m R k0 b o = some (R, (k0 + i, c) :: q) := by
  unfold labBulk
  rw [h]
  simp only [true_and, List.prefix_append, if_true, List.drop_left]
  rw [if_pos ⟨by omega, by omega⟩]
  congr 4; omega
theorem labBulk_ne {g : Lab} {ry : Nat} {py : Path} {lo m R k0 : Nat} {b o r' : Nat} {q : Path} (h : g b o = some (r', q)) (hn : r' ≠ ry) : labBulk g ry py lo m R k0 b o = some (r', q) := by
  unfold labBulk
  rw [h]
  simp only [hn, false_and, if_false]
theorem labBulk_out {g : Lab} {ry : Nat} {py : Path} {lo m R k0 : Nat} {b o : Nat} {q : Path} (h : g b o = some (ry, q)) (hn : ∀ i c q', lo ≤ i → i < lo + m → q ≠ py ++ (i, c) :: q') : labBulk g ry py lo m R k0 b o = some (ry, q) := by
  unfold labBulk
  rw [h]
  simp only [true_and]
  split
  · rename_i hpre
    obtain ⟨s, rfl⟩ := hpre
    rw [List.drop_left]
    cases s with
    | nil => rfl
    | cons a s =>
      obtain ⟨i, c⟩ := a
      simp only
      rw [if_neg]
      rintro ⟨h1, h2⟩
      exact hn i c s h1 h2 rfl
  · rfl
theorem labBulk_some {g : Lab} {ry : Nat} {py : Path} {lo m R k0 : Nat} {b o : Nat} {x : Nat × Path} (h : labBulk g ry py lo m R k0 b o = some x) : ∃ y, g b o = some y ∧ (x.1 = R ∨ x = y) := by
  unfold labBulk at h
  split at h
  · rename_i r' q hg
    refine ⟨_, hg, ?_⟩
    split at h
    · split at h
      · split at h
        · simp only [Option.some.injEq] at h; subst h; exact .inl rfl
        · simp only [Option.some.injEq] at h; exact .inr h.symm
      · simp only [Option.some.injEq] at h; exact .inr h.symm
    · simp only [Option.some.injEq] at h; exact .inr h.symm
  · simp at h

/-- More elements of a row are told: those of another's window, whose cells were copied. -/
theorem Hp.extendMove (h : Hp w0 own0 pl0 g pl roots nx nc fix w) {R sz : Nat} {es : List (List D)} (hR : get roots R = some (.tr sz es)) (hfix : fix ≤ R) (hnc : nc ≤ R)
    {ry : Nat} (hne : ry ≠ R) {py : Path} {sz0 : Nat} {es0 : List (List D)} (hry : get roots ry = some (.tr sz0 es0)) {l : List (List D)} (hpy : nodeAt sz0 es0 py = some (sz, l)) {lo m : Nat} (hlm : lo + m ≤ l.length)
    (hle : es.length + m ≤ (pl R []).cap)
    (hN : ∀ (i c : Nat) (v : Value), i < m → c < sz → w.cell? ⟨(pl ry py).b, (pl ry py).off + ((lo + i) * sz + c), none⟩ = some v → w.cell? ⟨(pl R []).b, (pl R []).off + ((es.length + i) * sz + c), none⟩ = some v) :
    Hp w0 own0 pl0 (labBulk g ry py lo m R es.length) (plBulk pl ry py lo R es.length)
      (put (put roots ry (.tr sz0 (updNode es0 py (holeWin lo m)))) R (.tr sz (es ++ (l.drop lo).take m))) nx nc fix w := by
  obtain ⟨hRn, hokR⟩ := h.roots R _ hR
  obtain ⟨hryn, hoky⟩ := h.roots ry _ hry
  obtain ⟨hc, hm⟩ := hokR [] _ rfl
  obtain ⟨hcy, hmy⟩ := hoky py _ hpy
  have hplR : ∀ i c q', i < es.length → plBulk pl ry py lo R es.length R ((i, c) :: q') = pl R ((i, c) :: q') := by
    intro i c q' hi; unfold plBulk; simp [show ¬ es.length ≤ i by omega]
  have hplR0 : plBulk pl ry py lo R es.length R [] = pl R [] := by unfold plBulk; simp
  have hplRy : ∀ i c q', plBulk pl ry py lo R es.length R ((es.length + i, c) :: q') = pl ry (py ++ (lo + i, c) :: q') := by
    intro i c q'; unfold plBulk; simp
  have hplo : ∀ r q, r ≠ R → plBulk pl ry py lo R es.length r q = pl r q := by
    intro r q hr; unfold plBulk; simp [hr]
  refine ⟨h.fr, ?_, ?_, h.fixle, h.ncle, ?_⟩
  · intro b o x hx
    obtain ⟨y, hy, hxy⟩ := labBulk_some hx
    obtain ⟨a, b', c'⟩ := h.lab b o y hy
    refine ⟨a, b', ?_⟩
    rcases hxy with e | rfl
    · rw [e]; exact hRn
    · exact c'
  · intro r' q hr'
    rw [hplo _ _ (by omega)]
    exact h.fixed r' q hr'
  · intro r' x hx
    rw [get_put] at hx
    split at hx
    · rename_i e'; subst e'
      simp only [Option.some.injEq] at hx; subst hx
      refine ⟨hRn, ?_⟩
      intro q n hq
      cases q with
      | nil =>
        simp only [nodeAt, Option.some.injEq] at hq; subst hq
        refine ⟨⟨by rw [hplR0]; exact hc.szp, by rw [hplR0]; simp; omega, by rw [hplR0]; exact hc.nil, ?_, ?_⟩, hm.move hplR0 fun b o hb => ⟨labBulk_ne hb (fun e => hne e.symm), id, rfl⟩⟩
        · intro e he
          simp only [List.mem_append] at he
          rcases he with he | he
          · exact hc.szs e he
          · exact hcy.szs e (List.mem_of_mem_drop (List.mem_of_mem_take he))
        · intro i e c d he hd
          rw [hplR0]
          by_cases hi : i < es.length
          · rw [List.getElem?_append_left hi] at he
            obtain ⟨v, hv, hdv⟩ := hc.cells i e c d he hd
            exact ⟨v, hv, by rw [List.nil_append, hplR i c [] hi]; exact hdv⟩
          · rw [List.getElem?_append_right (by omega)] at he
            have hlt := getElem?_lt he
            simp only [List.length_take, List.length_drop] at hlt
            have he' := get_drop_take rfl _ _ he
            obtain ⟨v, hv, hdv⟩ := hcy.cells _ e c d he' hd
            have hb := hcy.bound he' hd
            have := hN (i - es.length) c v (by omega) hb.2.1 hv
            rw [show es.length + (i - es.length) = i by omega] at this
            refine ⟨v, this, ?_⟩
            have e2 := hplRy (i - es.length) c []
            rw [show es.length + (i - es.length) = i by omega] at e2
            rw [List.nil_append, e2]
            exact hdv
      | cons a q =>
        obtain ⟨i, c⟩ := a
        unfold nodeAt at hq
        by_cases hi : i < es.length
        · rw [List.getElem?_append_left hi] at hq
          obtain ⟨a, b⟩ := hokR ((i, c) :: q) n (by unfold nodeAt; exact hq)
          exact ⟨a.move (hplR i c q hi) (fun j k _ _ _ _ => hplR i c _ hi) fun _ _ => rfl, b.move (hplR i c q hi) fun b o hb => ⟨labBulk_ne hb (fun e => hne e.symm), id, rfl⟩⟩
        · rw [List.getElem?_append_right (by omega)] at hq
          split at hq
          · rename_i sz' es' hb
            simp only [Option.bind_eq_some_iff] at hb
            obtain ⟨e, he, hd⟩ := hb
            have hlt := getElem?_lt he
            simp only [List.length_take, List.length_drop] at hlt
            have he' := get_drop_take rfl _ _ he
            obtain ⟨a, b⟩ := hoky (py ++ (lo + (i - es.length), c) :: q) n (by
              rw [nodeAt_append, hpy]
              simp only [Option.bind_some, nodeAt, he', hd]
              exact hq)
            have e2 : ∀ s, plBulk pl ry py lo R es.length R ((i, c) :: s) = pl ry (py ++ (lo + (i - es.length), c) :: s) := by
              intro s
              have := hplRy (i - es.length) c s
              rwa [show es.length + (i - es.length) = i by omega] at this
            refine ⟨a.move (e2 q) (fun j k _ _ _ _ => ?_) fun _ _ => rfl, b.move (e2 q) fun b o hb => ⟨?_, id, rfl⟩⟩
            · have := e2 (q ++ [(j, k)])
              simpa using this
            · have := labBulk_in (R := R) (k0 := es.length) hb (show i - es.length < m by omega)
              rwa [show es.length + (i - es.length) = i by omega] at this
          · simp at hq
    · rename_i hneR
      rw [get_put] at hx
      split at hx
      · rename_i e'; subst e'
        simp only [Option.some.injEq] at hx; subst hx
        refine ⟨hryn, ?_⟩
        intro q n hq
        have hpr : ∀ q, plBulk pl ry py lo R es.length ry q = pl ry q := fun q => hplo _ _ hne
        rcases upd_desc (f := holeWin lo m) hpy (holeWin_len hlm) q n hq with ⟨q', rfl, hn'⟩ | ⟨m0, h1, h2, h3, h4⟩
        · cases q' with
          | nil =>
            simp only [nodeAt, Option.some.injEq] at hn'; subst hn'
            rw [List.append_nil]
            refine ⟨⟨by rw [hpr]; exact hcy.szp, by rw [hpr, holeWin_len hlm]; exact hcy.le, by rw [hpr]; exact hcy.nil, ?_, ?_⟩, hmy.move (hpr _) fun b o hb => ⟨labBulk_out hb fun i c q' _ _ e => ?_, id, rfl⟩⟩
            · intro e he
              obtain ⟨i, hi⟩ := List.getElem?_of_mem he
              rw [holeWin_get hlm] at hi
              split at hi
              · simp only [Option.map_eq_some_iff] at hi
                obtain ⟨x, hx, rfl⟩ := hi
                simpa using hcy.szs x (List.mem_of_getElem? hx)
              · exact hcy.szs e (List.mem_of_getElem? hi)
            · intro i e c d he hd
              rw [hpr, hpr]
              rw [holeWin_get hlm] at he
              split at he
              · simp only [Option.map_eq_some_iff] at he
                obtain ⟨x, hx, rfl⟩ := he
                simp only [List.getElem?_map, Option.map_eq_some_iff] at hd
                obtain ⟨y, hy, rfl⟩ := hd
                obtain ⟨v, hv, hdv⟩ := hcy.cells i x c y hx hy
                exact ⟨v, hv, hdv.one⟩
              · exact hcy.cells i e c d he hd
            · have := congrArg List.length e
              simp at this
          | cons a q' =>
            obtain ⟨i, c⟩ := a
            unfold nodeAt at hn'
            by_cases hin : lo ≤ i ∧ i < lo + m
            · exfalso
              rw [holeWin_get hlm, if_pos hin] at hn'
              split at hn'
              · rename_i sz' es' hb
                simp only [Option.bind_eq_some_iff, Option.map_eq_some_iff] at hb
                obtain ⟨_, ⟨e, he, rfl⟩, hd⟩ := hb
                simp only [List.getElem?_map, Option.map_eq_some_iff] at hd
                obtain ⟨_, _, hd⟩ := hd
                cases hd
              · simp at hn'
            · rw [holeWin_get hlm, if_neg hin] at hn'
              obtain ⟨a, b⟩ := hoky (py ++ (i, c) :: q') n (by rw [nodeAt_append, hpy]; unfold nodeAt; exact hn')
              refine ⟨a.move (hpr _) (fun _ _ _ _ _ _ => hpr _) fun _ _ => rfl, b.move (hpr _) fun b o hb => ⟨labBulk_out hb fun j c' q'' h1 h2 e => ?_, id, rfl⟩⟩
              rw [List.append_cancel_left_eq, List.cons.injEq, Prod.mk.injEq] at e
              obtain ⟨⟨rfl, _⟩, _⟩ := e
              exact hin ⟨h1, h2⟩
        · obtain ⟨a, b⟩ := hoky q m0 h1
          rw [h3]
          refine ⟨(a.sim h4).move (hpr _) (fun _ _ _ _ _ _ => hpr _) fun _ _ => rfl, b.move (hpr _) fun b o hb => ⟨labBulk_out hb fun j c' q'' _ _ e => ?_, id, rfl⟩⟩
          rw [e] at h2
          exact h2 (List.prefix_append _ _)
      · rename_i hney
        obtain ⟨hr', hok'⟩ := h.roots r' x hx
        refine ⟨hr', Keep.root' ⟨fun b o q hb => ⟨labBulk_ne hb (fun e => hney e.symm), rfl, rfl⟩, fun _ _ _ => rfl, fun q => hplo _ _ (fun e => hneR e.symm)⟩ (fun x v k => k.agree fun r p hr => hplo _ _ (by omega)) hok'⟩
end
end Go.Vs
