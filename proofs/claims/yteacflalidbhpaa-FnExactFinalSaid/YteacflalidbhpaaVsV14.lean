import Derived.Test.YteacflalidbhpaaVsV13
set_option linter.unusedVariables false
set_option linter.unusedSimpArgs false
namespace Go.Vs
set_option linter.unusedVariables false
set_option linter.unusedSimpArgs false
variable {P : Program} {N : Nat} {w0 : World} {own0 : Nat → Nat → Prop} {pl0 : Pls} {g : Lab} {pl : Pls} {S : St} {a : Act} {w : World} {K : V → List (Nat × Path) → List (Nat × Root) → Nat → Prop}

theorem chunk_len {α : Type} (sz : Nat) : ∀ (n : Nat) (l : List α), (chunk sz n l).length = n
  | 0, _ => rfl
  | n + 1, l => by simp [chunk, chunk_len sz n]
theorem chunk_get {α : Type} (sz : Nat) : ∀ (n : Nat) (l : List α) (i : Nat), i < n → (chunk sz n l)[i]? = some ((l.drop (i * sz)).take sz)
  | 0, _, _, h => by omega
  | n + 1, l, 0, _ => by simp [chunk]
  | n + 1, l, i + 1, h => by
    simp only [chunk, List.getElem?_cons_succ]
    rw [chunk_get sz n _ i (by omega), List.drop_drop]
    rw [show sz + i * sz = (i + 1) * sz by rw [Nat.add_mul]; omega]
theorem chunk_cell {α : Type} {sz n : Nat} {l : List α} {i c : Nat} {e : List α} {d : α} (he : (chunk sz n l)[i]? = some e) (hd : e[c]? = some d) : i < n ∧ c < sz ∧ l[i * sz + c]? = some d := by
  have hi := getElem?_lt he
  rw [chunk_len] at hi
  rw [chunk_get sz n l i hi] at he
  simp only [Option.some.injEq] at he; subst he
  rw [List.getElem?_take] at hd
  by_cases hc : c < sz
  · rw [if_pos hc, List.getElem?_drop] at hd; exact ⟨hi, hc, hd⟩
  · rw [if_neg hc] at hd; simp at hd
theorem chunk_mem {α : Type} {sz n : Nat} {l : List α} (hl : l.length = n * sz) {e : List α} (he : e ∈ chunk sz n l) : e.length = sz := by
  obtain ⟨i, hi⟩ := List.getElem?_of_mem he
  have h1 := getElem?_lt hi
  rw [chunk_len] at h1
  rw [chunk_get sz n l i h1] at hi
  simp only [Option.some.injEq] at hi; subst hi
  have := Nat.mul_le_mul_right sz (show i + 1 ≤ n by omega)
  rw [Nat.add_mul] at this
  simp; omega
theorem chunk_setC {sz n : Nat} {l : List D} (hl : l.length = n * sz) {i c : Nat} (hi : i < n) (hc : c < sz) (d : D) : setC (chunk sz n l) i c d = chunk sz n (l.set (i * sz + c) d) := by
  simp only [setC, chunk_get sz n l i hi]
  apply List.ext_getElem?
  intro j
  by_cases hj : j < n
  · rw [chunk_get sz n _ j hj, List.getElem?_set]
    split
    · rename_i e; subst e
      rw [if_pos (by rw [chunk_len]; exact hi)]
      congr 1
      apply List.ext_getElem?
      intro k
      simp only [List.getElem?_set, List.getElem?_take, List.getElem?_drop, List.length_take, List.length_drop]
      have hlt := lin hi (Nat.le_refl _) hc
      by_cases hk : k < sz
      · by_cases hck : c = k
        · subst hck
          simp [hk, hlt, show c < min sz (n * sz - i * sz) by omega, hl]
        · simp [hk, hck, show ¬ i * sz + c = i * sz + k by omega]
      · simp [hk, show ¬ c = k by omega]
    · rename_i hne
      rw [chunk_get sz n l j hj]
      congr 1
      apply List.ext_getElem?
      intro k
      simp only [List.getElem?_set, List.getElem?_take, List.getElem?_drop]
      by_cases hk : k < sz
      · have : ¬ i * sz + c = j * sz + k := fun e => hne (lin_inj hc hk e).1
        simp [hk, this]
      · simp [hk]
  · rw [List.getElem?_eq_none (by rw [List.length_set, chunk_len]; omega), List.getElem?_eq_none (by rw [chunk_len]; omega)]

theorem takeC_cons {roots : List (Nat × Root)} {c : C} {d : D} {roots1 : List (Nat × Root)} (h : takeC roots c = some (d, roots1)) {R : Nat} {x : Root} {nc : Nat} {v : Value} (hc : CR pl nc c v) (hR : nc ≤ R) :
    takeC ((R, x) :: roots) c = some (d, (R, x) :: roots1) := by
  unfold takeC at h ⊢
  split at h
  · simp only [Option.some.injEq, Prod.mk.injEq] at h; obtain ⟨rfl, rfl⟩ := h; rfl
  · simp only [Option.some.injEq, Prod.mk.injEq] at h; obtain ⟨rfl, rfl⟩ := h; rfl
  · rename_i r p sz n
    have hr := hc.1
    have hne : ¬ R = r := by omega
    simp only [get, hne, if_false]
    split at h
    · rename_i sz0 es hg
      split at h
      · rename_i sz' es1 hn
        split at h
        · rename_i hcond
          simp only [Option.some.injEq, Prod.mk.injEq] at h
          obtain ⟨rfl, rfl⟩ := h
          simp only [hg, hn, hcond, and_self, if_true]
          congr 2
          unfold cutR
          split
          · simp [del, hne]
          · simp only [get, hne, if_false, hg]
            simp [put, hne]
        · simp at h
      · simp at h
    · simp at h
  · simp at h
def gh : C → Value → D
  | .nl s, _ => .sl s []
  | _, u => .lf u
def ghs : List C → List Value → List D
  | c :: cs, u :: us => gh c u :: ghs cs us
  | _, _ => []
theorem ghs_len : ∀ {cs : List C} {us : List Value} {R : C → Value → Prop}, All2 R cs us → (ghs cs us).length = cs.length
  | [], [], _, _ => rfl
  | _ :: _, _ :: _, _, h => by simp [ghs, ghs_len h.2]
  | [], _ :: _, _, h => h.elim
  | _ :: _, [], _, h => h.elim
theorem ghs_get : ∀ {cs : List C} {us : List Value} {R : C → Value → Prop}, All2 R cs us → ∀ (k : Nat) (d : D), (ghs cs us)[k]? = some d → ∃ c u, cs[k]? = some c ∧ us[k]? = some u ∧ d = gh c u ∧ R c u
  | [], [], _, _, k, d, h => by simp [ghs] at h
  | c :: cs, u :: us, R, h, 0, d, hd => by simp [ghs] at hd; exact ⟨c, u, rfl, rfl, hd.symm, h.1⟩
  | c :: cs, u :: us, R, h, k + 1, d, hd => by
    simp only [ghs, List.getElem?_cons_succ] at hd
    simpa using ghs_get h.2 k d hd
  | [], _ :: _, _, h, _, _, _ => h.elim
  | _ :: _, [], _, h, _, _, _ => h.elim

theorem Hp.move_id {roots : List (Nat × Root)} {nx nc fix : Nat} (h : Hp w0 own0 pl0 g pl roots nx nc fix w) {R szR : Nat} {esR : List (List D)} (hR : get roots R = some (.tr szR esR)) {P : Path} {nP : Nat × List (List D)} (hP : nodeAt szR esR P = some nP)
    {i c : Nat} {e : List D} {v : Value} (he : nP.2[i]? = some e) (hd : e[c]? = some (.lf v)) (hfix : fix ≤ R) (hnc : nc ≤ R)
    {r : Nat} (hne : r ≠ R) {p : Path} {sz n sz0 : Nat} {es : List (List D)} (hr : get roots r = some (.tr sz0 es)) {es1 : List (List D)} (hp : nodeAt sz0 es p = some (sz, es1)) (hn : n ≤ es1.length)
    (hv : Win (pl r p) sz 0 n v) :
    Hp w0 own0 pl0 (labMove g r p R (P ++ [(i, c)])) (plAt pl R (P ++ [(i, c)]) fun q => pl r (p ++ q))
      (put (cutR roots r p) R (.tr szR (setD esR P i c (.sl sz (es1.take n))))) nx nc fix w := by
  have hm := h.move (κ := fun x => x) hR hP he hd hfix hne hr hp hn hv (fun x u k => k.agree fun r p hr => plAt_out (by rintro ⟨rfl, _⟩; omega))
  refine hm.roots_eq fun t => ?_
  rw [get_put, get_put, get_map]
  split
  · rfl
  · cases get (cutR roots r p) t with
    | none => rfl
    | some x => simp [Root.map_id]

theorem nodeAt_nil (sz : Nat) (es : List (List D)) : nodeAt sz es [] = some (sz, es) := rfl
theorem lit_moves {R sz len nc fix : Nat} (hfix : fix ≤ R) (hnc : nc ≤ R) {plI : Pls} : ∀ (cs : List C) (us : List Value) (dn : List D) (roots : List (Nat × Root)) (g : Lab) (pl : Pls) (nx : Nat) (res : List D × List (Nat × Root)),
    Hp w0 own0 pl0 g pl ((R, .tr sz (chunk sz len (dn ++ ghs cs us))) :: roots) nx nc fix w → R < nx → dn.length + cs.length = len * sz → All2 (CR plI nc) cs us → Agree nc plI pl → takeAll roots cs = some res →
    ∃ g' pl' nx', Hp w0 own0 pl0 g' pl' ((R, .tr sz (chunk sz len (dn ++ res.1))) :: res.2) nx' nc fix w ∧ R < nx' ∧ Agree nc plI pl' ∧ pl' R [] = pl R [] ∧ (∀ t x, get res.2 t = some x → ∃ y, get roots t = some y)
  | [], [], dn, roots, g, pl, nx, res, h, hRn, hl, _, hag, ht => by
    simp only [takeAll, Option.some.injEq] at ht; subst ht
    exact ⟨g, pl, nx, by simpa [ghs] using h, hRn, hag, rfl, fun t x hx => ⟨x, hx⟩⟩
  | c :: cs, u :: us, dn, roots, g, pl, nx, res, h, hRn, hl, hall, hag, ht => by
    unfold takeAll at ht
    split at ht
    · rename_i d roots1 htk
      split at ht
      · rename_i ds roots2 htl
        simp only [Option.some.injEq] at ht; subst ht
        have hcr := hall.1.agree hag
        have htk' := takeC_cons (x := .tr sz (chunk sz len (dn ++ ghs (c :: cs) (u :: us)))) htk hcr hnc
        have hlen := ghs_len hall.2
        simp only [List.length_cons] at hl
        have next : ∃ g1 pl1 nx1, Hp w0 own0 pl0 g1 pl1 ((R, .tr sz (chunk sz len (dn ++ d :: ghs cs us))) :: roots1) nx1 nc fix w ∧ R < nx1 ∧ Agree nc plI pl1 ∧ pl1 R [] = pl R [] := by
          cases c with
          | lf x =>
            simp only [takeC, Option.some.injEq, Prod.mk.injEq] at htk
            obtain ⟨rfl, rfl⟩ := htk
            obtain ⟨rfl, _⟩ := hcr
            exact ⟨g, pl, nx, h, hRn, hag, rfl⟩
          | nl s =>
            simp only [takeC, Option.some.injEq, Prod.mk.injEq] at htk
            obtain ⟨rfl, rfl⟩ := htk
            exact ⟨g, pl, nx, h, hRn, hag, rfl⟩
          | un => simp [takeC] at htk
          | pe => simp [takeC] at htk
          | pb => simp [takeC] at htk
          | rf r p s lo n =>
            obtain ⟨es', g1, pl1, rfl, h1, hag1, hwin, hid⟩ := takeC_rf h hcr htk'
            · have hk : dn.length < len * sz := by omega
              have hsz : 0 < sz := by
                rcases Nat.eq_zero_or_pos sz with h0 | h0
                · subst h0; simp at hk
                · exact h0
              have hidx : dn.length / sz < len := Nat.div_lt_of_lt_mul (by rw [Nat.mul_comm]; exact hk)
              have hmod : dn.length % sz < sz := Nat.mod_lt _ hsz
              have hdm : dn.length / sz * sz + dn.length % sz = dn.length := by rw [Nat.mul_comm]; exact Nat.div_add_mod _ _
              have hgl : (dn ++ ghs (.rf r p s lo n :: cs) (u :: us)).length = len * sz := by simp [ghs, hlen]; omega
              have hgk : (dn ++ ghs (.rf r p s lo n :: cs) (u :: us))[dn.length]? = some (.lf u) := by simp [ghs, gh]
              have he := chunk_get sz len (dn ++ ghs (.rf r p s lo n :: cs) (u :: us)) _ hidx
              have hm := h1.move_id (R := R) (szR := sz) (esR := chunk sz len (dn ++ ghs (.rf r p s lo n :: cs) (u :: us))) (P := []) (by simp only [get]; rw [if_neg (by omega)]; simp) (nodeAt_nil _ _) he (c := dn.length % sz) (v := u)
                (by rw [List.getElem?_take, if_pos hmod, List.getElem?_drop, hdm]; exact hgk) hfix hnc (r := nx) (by omega) (p := []) (sz := s) (n := es'.length) (sz0 := s) (es := es') (by simp [get]) rfl (Nat.le_refl _) hwin
              refine ⟨_, _, nx + 1, hm.roots_eq fun t => ?_, by omega, fun r p hr => ?_, ?_⟩
              · rw [get_put]
                simp only [cutR, get]
                split
                · simp only [setD, updNode]
                  rw [chunk_setC hgl hidx hmod, hdm, List.take_length]
                  congr 3
                  simp [ghs, gh]
                · rename_i hne
                  rw [get_del]
                  simp only [get, hne, if_false]
                  split
                  · rename_i e; subst e
                    cases hq : get roots1 nx with
                    | none => rfl
                    | some x =>
                      have := hid nx x (by simp only [get]; rw [if_neg (by omega)]; exact hq)
                      omega
                  · rfl
              · rw [plAt_out (by rintro ⟨rfl, _⟩; omega), hag1 r p (by have := h.ncle; omega)]
                exact hag r p hr
              · rw [plAt_out (by simp), hag1 R [] hRn]
        obtain ⟨g1, pl1, nx1, h1, hRn1, hag1, hpl1⟩ := next
        obtain ⟨g', pl', nx', a1, a2, a3, a4, a5⟩ := lit_moves hfix hnc cs us (dn ++ [d]) roots1 g1 pl1 nx1 (ds, roots2) (by simpa using h1) hRn1 (by simp; omega) hall.2 hag1 htl
        refine ⟨g', pl', nx', by simpa using a1, a2, a3, a4.trans hpl1, fun t x hx => ?_⟩
        obtain ⟨y, hy⟩ := a5 t x hx
        exact takeC_sub htk hy
      · simp at ht
    · simp at ht
  | [], _ :: _, _, _, _, _, _, _, _, _, _, h, _, _ => h.elim
  | _ :: _, [], _, _, _, _, _, _, _, _, _, h, _, _ => h.elim
end Go.Vs
