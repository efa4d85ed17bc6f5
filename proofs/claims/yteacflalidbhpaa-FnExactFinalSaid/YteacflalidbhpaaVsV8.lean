import Derived.Test.YteacflalidbhpaaVsV7
set_option linter.unusedVariables false
set_option linter.unusedSimpArgs false
namespace Go.Vs
set_option linter.unusedVariables false
set_option linter.unusedSimpArgs false

def setCells (w : World) (b : Nat) : Nat → List Value → World
  | _, [] => w
  | o, v :: vs => setCells (w.setCell ⟨b, o, none⟩ v) b (o + 1) vs
theorem setCells_size (b : Nat) : ∀ (vs : List Value) (w : World) (o : Nat), (setCells w b o vs).heap.size = w.heap.size
  | [], _, _ => rfl
  | v :: vs, w, o => by rw [setCells, setCells_size b vs]; simp
theorem setCells_frozen (b : Nat) (a : Addr) : ∀ (vs : List Value) (w : World) (o : Nat), (setCells w b o vs).frozen? a = w.frozen? a
  | [], _, _ => rfl
  | v :: vs, w, o => by rw [setCells, setCells_frozen b a vs]; simp
theorem setCells_out (b : Nat) {b' o' : Nat} : ∀ (vs : List Value) (w : World) (o : Nat), ¬ (b' = b ∧ o ≤ o' ∧ o' < o + vs.length) → (setCells w b o vs).cell? ⟨b', o', none⟩ = w.cell? ⟨b', o', none⟩
  | [], _, _, _ => rfl
  | v :: vs, w, o, h => by
    rw [setCells, setCells_out b vs _ _ (by simp only [List.length_cons] at h; omega), cell_set_ne (by simp only [List.length_cons] at h; omega)]
theorem setCells_in (b : Nat) : ∀ (vs : List Value) (w : World) (o : Nat), (∀ j, j < vs.length → ∃ u, w.cell? ⟨b, o + j, none⟩ = some u) → ∀ (j : Nat) (v : Value), vs[j]? = some v → (setCells w b o vs).cell? ⟨b, o + j, none⟩ = some v
  | [], _, _, _, j, v, h => by simp at h
  | x :: vs, w, o, hex, j, v, h => by
    rw [setCells]
    obtain ⟨u, hu⟩ := hex 0 (by simp)
    cases j with
    | zero =>
      simp at h; subst h
      rw [setCells_out b vs _ _ (by omega)]
      exact World.cell?_setCell_same w _ _ (by simpa using hu)
    | succ j =>
      have := setCells_in b vs (w.setCell ⟨b, o, none⟩ x) (o + 1) (fun k hk => by
        obtain ⟨u', hu'⟩ := hex (k + 1) (by simp; omega)
        exact ⟨u', by rw [cell_set_ne (by omega)]; rwa [show o + 1 + k = o + (k + 1) by omega]⟩) j v (by simpa using h)
      rwa [show o + 1 + j = o + (j + 1) by omega] at this
theorem run_storeCells {P : Program} (b : Nat) : ∀ (vs : List Value) (w : World) (o k : Nat), (∀ v ∈ vs, v.oneCell' = true) →
    (∀ j, j < vs.length → (∃ u, w.cell? ⟨b, o + k + j, none⟩ = some u) ∧ w.frozen? ⟨b, o + k + j, none⟩ = false) →
    (storeCells ⟨b, o, none⟩ vs k).run P w = .ok () (setCells w b (o + k) vs)
  | [], w, o, k, _, _ => by simp [storeCells, setCells]
  | v :: vs, w, o, k, h1, hex => by
    obtain ⟨⟨u, hu⟩, hf⟩ := hex 0 (by simp)
    simp only [Nat.add_zero] at hu hf
    have ih := run_storeCells (P := P) b vs (w.setCell ⟨b, o + k, none⟩ v) o (k + 1) (fun x hx => h1 x (by simp [hx])) (fun j hj => by
      obtain ⟨⟨u', hu'⟩, hf'⟩ := hex (j + 1) (by simp; omega)
      rw [show o + k + (j + 1) = o + (k + 1) + j by omega] at hu' hf'
      exact ⟨⟨u', by rw [cell_set_ne (by omega)]; exact hu'⟩, by rw [World.frozen?_setCell]; exact hf'⟩)
    simp only [storeCells, Sem.run_bind, Addr.add_lit]
    rw [run_store P w _ v _ (h1 v (by simp)), hu]
    simp only [hf, Bool.false_eq_true, if_false, Result.andThen_ok]
    rw [ih]
    rfl

section
variable {w0 : World} {own0 : Nat → Nat → Prop} {pl0 : Pls} {g : Lab} {pl : Pls} {roots : List (Nat × Root)} {nx nc fix : Nat} {w : World}

/-- A spare cell is written. -/
theorem Hp.setSpare (h : Hp w0 own0 pl0 g pl roots nx nc fix w) {r sz : Nat} {es : List (List D)} (hr : get roots r = some (.tr sz es)) {j : Nat} (h1 : es.length * sz ≤ j) (h2 : j < (pl r []).cap * sz) (u : Value) :
    Hp w0 own0 pl0 g pl roots nx nc fix (w.setCell ⟨(pl r []).b, (pl r []).off + j, none⟩ u) := by
  obtain ⟨hrn, hok⟩ := h.roots r _ hr
  obtain ⟨hc, hm⟩ := hok [] _ rfl
  have hg := hm.lab hc h2
  obtain ⟨_, ⟨v, hv⟩, _⟩ := hm j (by rw [hc.szp]; exact h2)
  have hlab := h.lab _ _ _ hg
  refine ⟨h.fr.setCell hlab.2.1 u, ?_, h.fixed, h.fixle, h.ncle, ?_⟩
  · intro b o x hx
    rw [World.size_setCell]
    exact h.lab b o x hx
  · intro r' x hx
    by_cases hrr : r' = r
    · subst hrr
      rw [hr] at hx
      simp only [Option.some.injEq] at hx; subst hx
      refine ⟨hrn, ?_⟩
      intro q m hq
      obtain ⟨hc0, hm0⟩ := hok q m hq
      refine ⟨hc0.move rfl (fun _ _ _ _ _ _ => rfl) fun k hk => ?_, hm0.move rfl fun b o hb' => ⟨hb', fun ⟨z, hz⟩ => ?_, World.frozen?_setCell ..⟩⟩
      · refine cell_set_ne ?_
        rintro ⟨e1, e2⟩
        by_cases hq0 : q = []
        · subst hq0
          simp only [nodeAt, Option.some.injEq] at hq; subst hq
          simp only at hk
          omega
        · have := hm0.lab hc0 (j := k) (by have := Nat.mul_le_mul_right m.1 hc0.le; omega)
          rw [← e1, ← e2, hg] at this
          simp only [Option.some.injEq, Prod.mk.injEq, true_and] at this
          exact hq0 this.symm
      · by_cases heq : (pl r' []).b = b ∧ (pl r' []).off + j = o
        · obtain ⟨rfl, rfl⟩ := heq
          exact ⟨u, World.cell?_setCell_same w _ u hv⟩
        · exact ⟨z, by rw [cell_set_ne heq]; exact hz⟩
    · obtain ⟨hr', hok'⟩ := h.roots r' x hx
      exact ⟨hr', (keep_write h hg u hrr).root' (fun _ _ k => k) hok'⟩
theorem Hp.setSpares {r sz : Nat} {es : List (List D)} (hr : get roots r = some (.tr sz es)) : ∀ (vs : List Value) (w : World) (j : Nat), Hp w0 own0 pl0 g pl roots nx nc fix w → es.length * sz ≤ j → j + vs.length ≤ (pl r []).cap * sz →
    Hp w0 own0 pl0 g pl roots nx nc fix (setCells w (pl r []).b ((pl r []).off + j) vs)
  | [], _, _, h, _, _ => h
  | v :: vs, w, j, h, h1, h2 => by
    rw [setCells]
    simp only [List.length_cons] at h2
    exact Hp.setSpares hr vs _ (j + 1) (h.setSpare hr h1 (by omega) v) (by omega) (by omega)

/-- Another world that reads the same. -/
theorem Hp.congr {w' : World} (h : Hp w0 own0 pl0 g pl roots nx nc fix w) (hfr : Fr w0 own0 w') (hs : w'.heap.size = w.heap.size)
    (hl : ∀ b o x, g b o = some x → w'.cell? ⟨b, o, none⟩ = w.cell? ⟨b, o, none⟩ ∧ w'.frozen? ⟨b, o, none⟩ = w.frozen? ⟨b, o, none⟩) (hst : ∀ b o, stable w0 own0 b o → w'.cell? ⟨b, o, none⟩ = w.cell? ⟨b, o, none⟩) :
    Hp w0 own0 pl0 g pl roots nx nc fix w' :=
  ⟨hfr, fun b o x hx => by rw [hs]; exact h.lab b o x hx, h.fixed, h.fixle, h.ncle, fun r x hx => ⟨(h.roots r x hx).1, Keep.root' (nx := nc) ⟨fun b o q hb => ⟨hb, hl b o _ hb⟩, hst, fun _ => rfl⟩ (fun _ _ k => k) (h.roots r x hx).2⟩⟩
/-- A new row of cells, nothing in it yet. -/
theorem Hp.fresh (h : Hp w0 own0 pl0 g pl roots nx nc fix w) (arr : Array Value) (t : TypeId) (cap sz : Nat) (hs : arr.size = cap * sz) :
    Hp w0 own0 pl0 (labNew g w.heap.size nx fun o => if o < cap * sz then some [] else none) (plNew pl nx fun _ => ⟨false, w.heap.size, 0, cap, sz⟩) ((nx, .tr sz []) :: roots) (nx + 1) nc fix (w.alloc (.cells arr t)) := by
  refine h.new _ _ _ _ ?_
  intro p n hn
  cases p with
  | nil =>
    simp only [nodeAt, Option.some.injEq] at hn; subst hn
    refine ⟨⟨by rw [plNew_self], by simp, by rw [plNew_self]; simp, by simp, by simp⟩, ?_⟩
    intro j hj
    rw [plNew_self] at hj ⊢
    simp only at hj ⊢
    refine ⟨by simp [labNew, hj], ?_, by simp⟩
    have : 0 + j < arr.size := by omega
    exact ⟨arr[0 + j], by simp [this]⟩
  | cons a p => obtain ⟨i, c⟩ := a; simp [nodeAt] at hn

theorem nodeAt_append_lf {sz : Nat} {es N : List (List D)} (hN : ∀ e ∈ N, ∀ d ∈ e, ∃ v, d = .lf v) {q : Path} {m : Nat × List (List D)} (h : nodeAt sz (es ++ N) q = some m) :
    (q = [] ∧ m = (sz, es ++ N)) ∨ (q ≠ [] ∧ nodeAt sz es q = some m) := by
  cases q with
  | nil => simp only [nodeAt, Option.some.injEq] at h; exact .inl ⟨rfl, h.symm⟩
  | cons a q =>
    obtain ⟨i, c⟩ := a
    refine .inr ⟨by simp, ?_⟩
    unfold nodeAt at h ⊢
    by_cases hi : i < es.length
    · rw [List.getElem?_append_left hi] at h; exact h
    · exfalso
      rw [List.getElem?_append_right (by omega)] at h
      split at h
      · rename_i sz' es' hb
        simp only [Option.bind_eq_some_iff] at hb
        obtain ⟨e, he, hd⟩ := hb
        obtain ⟨v, hv⟩ := hN e (List.mem_of_getElem? he) _ (List.mem_of_getElem? hd)
        cases hv
      · simp at h
/-- More elements of a row are told: leaves. -/
theorem Hp.extend (h : Hp w0 own0 pl0 g pl roots nx nc fix w) {r sz : Nat} {es : List (List D)} (hr : get roots r = some (.tr sz es)) (N : List (List Value)) (hsz : ∀ e ∈ N, e.length = sz) (hle : es.length + N.length ≤ (pl r []).cap)
    (hone : ∀ e ∈ N, ∀ v ∈ e, v.oneCell' = true) (hN : ∀ (i : Nat) (e : List Value) (c : Nat) (v : Value), N[i]? = some e → e[c]? = some v → w.cell? ⟨(pl r []).b, (pl r []).off + ((es.length + i) * sz + c), none⟩ = some v) :
    Hp w0 own0 pl0 g pl (put roots r (.tr sz (es ++ N.map (·.map D.lf)))) nx nc fix w := by
  obtain ⟨hrn, hok⟩ := h.roots r _ hr
  obtain ⟨hc, hm⟩ := hok [] _ rfl
  refine ⟨h.fr, h.lab, h.fixed, h.fixle, h.ncle, ?_⟩
  intro r' x hx
  rw [get_put] at hx
  split at hx
  · rename_i e'; subst e'
    simp only [Option.some.injEq] at hx; subst hx
    refine ⟨hrn, ?_⟩
    intro q m hq
    rcases nodeAt_append_lf (by simp) hq with ⟨rfl, rfl⟩ | ⟨hq0, h1⟩
    · refine ⟨⟨hc.szp, by simpa using hle, hc.nil, ?_, ?_⟩, hm⟩
      · intro e he
        simp only [List.mem_append, List.mem_map] at he
        rcases he with he | ⟨x, hx, rfl⟩
        · exact hc.szs e he
        · simpa using hsz x hx
      · intro i e c d he hd
        by_cases hi : i < es.length
        · rw [List.getElem?_append_left hi] at he; exact hc.cells i e c d he hd
        · rw [List.getElem?_append_right (by omega)] at he
          simp only [List.getElem?_map, Option.map_eq_some_iff] at he
          obtain ⟨x, hx, rfl⟩ := he
          simp only [List.getElem?_map, Option.map_eq_some_iff] at hd
          obtain ⟨v, hv, rfl⟩ := hd
          have := hN _ x c v hx hv
          rw [show es.length + (i - es.length) = i by omega] at this
          exact ⟨v, this, rfl, hone x (List.mem_of_getElem? hx) v (List.mem_of_getElem? hv)⟩
    · exact hok q m h1
  · exact h.roots r' x hx

/-- A root under another id. -/
theorem Hp.rename (h : Hp w0 own0 pl0 g pl roots nx nc fix w) {r sz : Nat} {es : List (List D)} (hr : get roots r = some (.tr sz es)) :
    Hp w0 own0 pl0 (labMove g r [] nx []) (plNew pl nx (pl r)) ((nx, .tr sz es) :: del roots r) (nx + 1) nc fix w := by
  obtain ⟨hrn, hok⟩ := h.roots r _ hr
  refine ⟨h.fr, ?_, ?_, by have := h.fixle; omega, by have := h.ncle; omega, ?_⟩
  · intro b o x hx
    obtain ⟨y, hy, hxy⟩ := labMove_some hx
    obtain ⟨a, b', c'⟩ := h.lab b o y hy
    refine ⟨a, b', ?_⟩
    rcases hxy with e | rfl
    · rw [e]; omega
    · omega
  · intro r' q hr'
    rw [plNew_agree pl nx _ r' q (by have := h.fixle; omega)]
    exact h.fixed r' q hr'
  · intro r' x hx
    simp only [get] at hx
    split at hx
    · rename_i e'; subst e'
      simp only [Option.some.injEq] at hx; subst hx
      refine ⟨by omega, ?_⟩
      intro q m hq
      obtain ⟨a, b⟩ := hok q m hq
      exact ⟨a.move (plNew_self ..) (fun _ _ _ _ _ _ => plNew_self ..) fun _ _ => rfl, b.move (plNew_self ..) fun b o hb => ⟨by have := labMove_in (p := []) (R := nx) (P := []) (q := q) hb; simpa using this, id, rfl⟩⟩
    · rename_i hne
      rw [get_del] at hx
      split at hx
      · simp at hx
      · rename_i hne2
        obtain ⟨hr', hok'⟩ := h.roots r' x hx
        refine ⟨by omega, Keep.root' ⟨fun b o q hb => ⟨labMove_out hb fun k => hne2 k.1.symm, rfl, rfl⟩, fun _ _ _ => rfl, fun q => plNew_agree pl nx _ r' q hr'⟩ (fun x v k => k.agree fun r p hr => plNew_agree pl nx _ r p (by have := h.ncle; omega)) hok'⟩

def labGrow (g : Lab) (B nx r : Nat) : Lab := fun b o =>
  if b = B then some (nx, []) else
  match g b o with
  | some (r', q) => if r' = r ∧ q ≠ [] then some (nx, q) else some (r', q)
  | none => none
/-- A row that grew: its cells were copied. -/
theorem Hp.grow (h : Hp w0 own0 pl0 g pl roots nx nc fix w) {r sz : Nat} {es : List (List D)} (hr : get roots r = some (.tr sz es)) (arr : Array Value) (t : TypeId) (cap : Nat) (hs : arr.size = cap * sz) (hcap : es.length ≤ cap)
    (hcp : ∀ j v, j < es.length * sz → w.cell? ⟨(pl r []).b, (pl r []).off + j, none⟩ = some v → arr[j]? = some v) :
    Hp w0 own0 pl0 (labGrow g w.heap.size nx r) (plNew pl nx fun q => if q = [] then ⟨false, w.heap.size, 0, cap, sz⟩ else pl r q) ((nx, .tr sz es) :: del roots r) (nx + 1) nc fix (w.alloc (.cells arr t)) := by
  obtain ⟨hrn, hok⟩ := h.roots r _ hr
  obtain ⟨hc, hm⟩ := hok [] _ rfl
  have hsz := h.fr.size
  have hgl : ∀ b o r' q, g b o = some (r', q) → ¬ (r' = r ∧ q ≠ []) → labGrow g w.heap.size nx r b o = some (r', q) := by
    intro b o r' q hb hn
    unfold labGrow
    rw [if_neg (h.lab_ne hb), hb]
    simp only [hn, if_false]
  have hgl2 : ∀ b o q, g b o = some (r, q) → q ≠ [] → labGrow g w.heap.size nx r b o = some (nx, q) := by
    intro b o q hb hn
    unfold labGrow
    rw [if_neg (h.lab_ne hb), hb]
    simp [hn]
  have hcl : ∀ b o x, g b o = some x → (w.alloc (.cells arr t)).cell? ⟨b, o, none⟩ = w.cell? ⟨b, o, none⟩ ∧ (w.alloc (.cells arr t)).frozen? ⟨b, o, none⟩ = w.frozen? ⟨b, o, none⟩ := fun b o x hb =>
    ⟨World.cell?_alloc_old w _ _ (by simpa using h.lab_ne hb), World.frozen?_alloc_old w _ _ (by simpa using h.lab_ne hb)⟩
  refine ⟨h.fr.alloc _, ?_, ?_, by have := h.fixle; omega, by have := h.ncle; omega, ?_⟩
  · intro b o x hx
    unfold labGrow at hx
    split at hx
    · rename_i hb; subst hb
      simp only [Option.some.injEq] at hx; subst hx
      exact ⟨by simp, .inl hsz, by simp⟩
    · split at hx
      · rename_i r' q hb
        obtain ⟨a, b', c'⟩ := h.lab b o _ hb
        simp only at c'
        split at hx
        · simp only [Option.some.injEq] at hx; subst hx; exact ⟨by simp; omega, b', by simp⟩
        · simp only [Option.some.injEq] at hx; subst hx; exact ⟨by simp; omega, b', by simp only; omega⟩
      · simp at hx
  · intro r' q hr'
    rw [plNew_agree pl nx _ r' q (by have := h.fixle; omega)]
    exact h.fixed r' q hr'
  · intro r' x hx
    simp only [get] at hx
    split at hx
    · rename_i e'; subst e'
      simp only [Option.some.injEq] at hx; subst hx
      refine ⟨by omega, ?_⟩
      intro q m hq
      by_cases hq0 : q = []
      · subst hq0
        simp only [nodeAt, Option.some.injEq] at hq; subst hq
        have hp0 := plNew_self pl nx (fun q => if q = [] then ⟨false, w.heap.size, 0, cap, sz⟩ else pl r q) []
        simp only [if_true] at hp0
        refine ⟨⟨by rw [hp0], by rw [hp0]; exact hcap, by rw [hp0]; simp, hc.szs, ?_⟩, ?_⟩
        · intro i e c d he hd
          obtain ⟨v, hv, hdv⟩ := hc.cells i e c d he hd
          have hb := hc.bound he hd
          refine ⟨v, ?_, ?_⟩
          · rw [hp0]
            simp only [Nat.zero_add]
            rw [World.cell?_alloc_new]
            exact hcp _ v hb.2.2.2 hv
          · rw [plNew_self]
            simp only [List.nil_append, List.cons_ne_nil, if_false]
            exact hdv
        · intro j hj
          rw [hp0] at hj ⊢
          simp only at hj ⊢
          refine ⟨by simp [labGrow], ?_, by simp⟩
          have : 0 + j < arr.size := by omega
          exact ⟨arr[0 + j], by simp [this]⟩
      · obtain ⟨a, b⟩ := hok q m hq
        have hpq : plNew pl nx (fun q => if q = [] then ⟨false, w.heap.size, 0, cap, sz⟩ else pl r q) nx q = pl r q := by rw [plNew_self, if_neg hq0]
        refine ⟨a.move hpq (fun j k _ _ _ _ => by rw [plNew_self, if_neg (by simp)]) fun j hj => ?_, b.move hpq fun b o hb => ⟨hgl2 b o q hb hq0, fun ⟨z, hz⟩ => ⟨z, by rw [(hcl _ _ _ hb).1]; exact hz⟩, (hcl _ _ _ hb).2⟩⟩
        exact (hcl _ _ _ (b.lab a (by have := Nat.mul_le_mul_right m.1 a.le; omega))).1
    · rename_i hne
      rw [get_del] at hx
      split at hx
      · simp at hx
      · rename_i hne2
        obtain ⟨hr', hok'⟩ := h.roots r' x hx
        refine ⟨by omega, Keep.root' ⟨fun b o q hb => ⟨hgl _ _ _ _ hb fun k => hne2 k.1.symm, (hcl _ _ _ hb).1, (hcl _ _ _ hb).2⟩, fun b o hst => ?_, fun q => plNew_agree pl nx _ r' q hr'⟩ (fun x v k => k.agree fun r p hr => plNew_agree pl nx _ r p (by have := h.ncle; omega)) hok'⟩
        exact World.cell?_alloc_old w _ _ (by simp; have := hst.1; omega)
end
end Go.Vs
