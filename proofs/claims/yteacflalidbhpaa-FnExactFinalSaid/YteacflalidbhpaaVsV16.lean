import Derived.Test.YteacflalidbhpaaVsV15
set_option linter.unusedVariables false
set_option linter.unusedSimpArgs false
namespace Go.Vs
set_option linter.unusedVariables false
set_option linter.unusedSimpArgs false

section
variable {P : Program}
theorem run_app_room {t u ty e : TypeId} {i : TypeInfo} {du : TypeDesc} (ht : P.underlying t = some (.slice e)) (hu : P.underlying u = some du) (hdu : ∀ k, du ≠ .int k) (hi : P.info? e = some i) (w : World)
    {b o n cap m : Nat} {y : Value} {news : List Value} (hlen : ∀ w', (Builtin.lenOf y).run P w' = .ok m w') (hfc : (Builtin.firstCells i.size m y).run P w = .ok news.toArray w)
    (hroom : n + m ≤ cap) (h1 : ∀ v ∈ news, v.oneCell' = true) (hex : ∀ j, j < news.length → (∃ u, w.cell? ⟨b, o + n * i.size + j, none⟩ = some u) ∧ w.frozen? ⟨b, o + n * i.size + j, none⟩ = false) :
    (Builtin.append_ #[t, u] ty #[.slice (some ⟨b, o, none⟩) n cap, y]).run P w = .ok (.slice (some ⟨b, o, none⟩) (n + m) cap) (setCells w b (o + n * i.size) news) := by
  have hst := run_storeCells (P := P) b news w (o + n * i.size) 0 h1 (by simpa using hex)
  simp only [Nat.add_zero] at hst
  have hz : (match du with | .int _ => true | _ => false) = false := by
    cases du <;> first | rfl | exact absurd rfl (hdu _)
  simp [Builtin.append_, run_underlying ht, run_underlying hu, sizeOf, typeInfo, hi, hlen, hz, hroom, hfc, Addr.add_lit, hst]
theorem run_app_nil {t u ty e : TypeId} {i : TypeInfo} {du : TypeDesc} (ht : P.underlying t = some (.slice e)) (hu : P.underlying u = some du) (hdu : ∀ k, du ≠ .int k) (hi : P.info? e = some i) (w : World)
    {cap : Nat} {y : Value} (hlen : ∀ w', (Builtin.lenOf y).run P w' = .ok 0 w') (hfc : (Builtin.firstCells i.size 0 y).run P w = .ok #[] w) :
    (Builtin.append_ #[t, u] ty #[.slice none 0 cap, y]).run P w = .ok (.slice none 0 cap) w := by
  have hz : (match du with | .int _ => true | _ => false) = false := by
    cases du <;> first | rfl | exact absurd rfl (hdu _)
  simp [Builtin.append_, run_underlying ht, run_underlying hu, sizeOf, typeInfo, hi, hlen, hz, hfc]
theorem run_app_grow {t u ty e : TypeId} {i : TypeInfo} {z : Value} {du : TypeDesc} (ht : P.underlying t = some (.slice e)) (hu : P.underlying u = some du) (hdu : ∀ k, du ≠ .int k) (hi : P.info? e = some i) (hz : i.zero = some z) (hby : 0 < i.bytes) (w : World)
    {A : Option Addr} {n cap m : Nat} {y : Value} {olds news : List Value} (hlen : ∀ w', (Builtin.lenOf y).run P w' = .ok m w') (hfo : (Builtin.firstCells i.size n (.slice A n cap)).run P w.drew = .ok olds.toArray w.drew)
    (hfc : (Builtin.firstCells i.size m y).run P w.drew = .ok news.toArray w.drew) (hroom : cap < n + m) (hb : (n + m) * i.bytes ≤ 140737488355328) :
    (Builtin.append_ #[t, u] ty #[.slice A n cap, y]).run P w = .ok (.slice (some ⟨w.heap.size, 0, none⟩) (n + m) (grownCap w (n + m) cap e))
      (w.drew.alloc (.cells (olds.toArray ++ news.toArray ++ Builtin.zeroCells z.cells (grownCap w (n + m) cap e - (n + m))) e)) := by
  have hzz : (match du with | .int _ => true | _ => false) = false := by
    cases du <;> first | rfl | exact absurd rfl (hdu _)
  have hn : ¬ (n + m ≤ cap) := by omega
  have hle : n + m ≤ (n + m) * i.bytes := Nat.le_mul_of_pos_right _ hby
  have h48 : ¬ (281474976710656 < Builtin.nextslicecap (n + m) cap * i.bytes) := by have := growslice_fits hroom hb; omega
  have hb0 : i.bytes ≠ 0 := by omega
  simp [Builtin.append_, run_underlying ht, run_underlying hu, sizeOf, typeInfo, zeroValue, hi, hz, hlen, hzz, hn, hb0, h48, Question.forced, hfo, hfc, newRow, grownCap]
  congr 2
  apply Array.ext'
  simp [List.append_assoc]
end

section
variable {w0 : World} {own0 : Nat → Nat → Prop} {pl0 : Pls} {g : Lab} {pl : Pls} {roots : List (Nat × Root)} {nx nc fix : Nat} {w : World}
/-- An empty row without cells. -/
theorem Hp.newNil (h : Hp w0 own0 pl0 g pl roots nx nc fix w) (sz : Nat) :
    Hp w0 own0 pl0 g (plNew pl nx fun _ => ⟨true, 0, 0, 0, sz⟩) ((nx, .tr sz []) :: roots) (nx + 1) nc fix w := by
  refine ⟨h.fr, fun b o x hx => ?_, fun r p hr => by rw [plNew_agree pl nx _ r p (by have := h.fixle; omega)]; exact h.fixed r p hr, by have := h.fixle; omega, by have := h.ncle; omega, ?_⟩
  · obtain ⟨a, b', c⟩ := h.lab b o x hx; exact ⟨a, b', by omega⟩
  intro r x hx
  simp only [get] at hx
  split at hx
  · rename_i e; subst e
    simp only [Option.some.injEq] at hx; subst hx
    refine ⟨by omega, ?_⟩
    intro p n hn
    cases p with
    | nil =>
      simp only [nodeAt, Option.some.injEq] at hn; subst hn
      refine ⟨⟨by rw [plNew_self], by rw [plNew_self]; simp, by rw [plNew_self]; simp, by simp, by simp⟩, ?_⟩
      intro j hj
      rw [plNew_self] at hj
      simp at hj
    | cons a p => obtain ⟨i, c⟩ := a; simp [nodeAt] at hn
  · obtain ⟨hr, hok⟩ := h.roots r x hx
    exact ⟨by omega, Keep.root' ⟨fun b o q hb => ⟨hb, rfl, rfl⟩, fun _ _ _ => rfl, fun q => plNew_agree _ _ _ _ _ hr⟩ (fun x v k => k.agree fun r p hr => plNew_agree pl nx _ r p (by have := h.ncle; omega)) hok⟩
end

/-- What an append leaves, before its elements are told. -/
structure Appended (P : Program) (w0 : World) (own0 : Nat → Nat → Prop) (pl0 : Pls) (g : Lab) (pl : Pls) (roots : List (Nat × Root)) (nx fix : Nat) (w : World) (sz : Nat) (es : List (List D)) (r : Option Nat) (news : List Value) (m : Nat) (s : Sem Value) : Prop where
  out : ∃ v w1 g1 pl1, s.run P w = .ok v w1 ∧ Hp w0 own0 pl0 g1 pl1 ((nx, .tr sz es) :: delO roots r) (nx + 1) nx fix w1 ∧ Agree nx pl pl1 ∧ Win (pl1 nx []) sz 0 (es.length + m) v ∧
    (∀ k u, news[k]? = some u → w1.cell? ⟨(pl1 nx []).b, (pl1 nx []).off + (es.length * sz + k), none⟩ = some u) ∧
    (∀ b o x, g b o = some x → (∀ q, r = some q → x ≠ (q, [])) → w1.cell? ⟨b, o, none⟩ = w.cell? ⟨b, o, none⟩) ∧
    (∀ b o, stable w0 own0 b o → w1.cell? ⟨b, o, none⟩ = w.cell? ⟨b, o, none⟩)

theorem appended {P : Program} {w0 : World} {own0 : Nat → Nat → Prop} {pl0 : Pls} {g : Lab} {pl : Pls} {roots : List (Nat × Root)} {nx fix : Nat} {w : World} (h : Hp w0 own0 pl0 g pl roots nx nx fix w)
    {x : V} {xv : Value} (hx : VR pl nx x xv) {sz : Nat} {es : List (List D)} {r : Option Nat} (hb : baseOf roots x = some (sz, es, r))
    {t u ty e : TypeId} {i : TypeInfo} {z : Value} {du : TypeDesc} (ht : P.underlying t = some (.slice e)) (hu : P.underlying u = some du) (hdu : ∀ k, du ≠ .int k) (hi : P.info? e = some i) (hz : i.zero = some z) (hsz : i.size = sz) (hzs : z.cells.size = sz) (hby : 0 < i.bytes)
    {y : Value} {m : Nat} {news : List Value} (hlen : ∀ w', (Builtin.lenOf y).run P w' = .ok m w') (hfc : (Builtin.firstCells i.size m y).run P w = .ok news.toArray w) (hfd : (Builtin.firstCells i.size m y).run P w.drew = .ok news.toArray w.drew)
    (hnl : news.length = m * sz) (h1 : ∀ v ∈ news, v.oneCell' = true) (hbound : (es.length + m) * i.bytes ≤ 140737488355328) :
    Appended P w0 own0 pl0 g pl roots nx fix w sz es r news m (Builtin.append_ #[t, u] ty #[xv, y]) := by
  unfold baseOf at hb
  split at hb
  · -- nil
    rename_i s0
    simp only [Option.some.injEq, Prod.mk.injEq] at hb
    obtain ⟨rfl, rfl, rfl⟩ := hb
    have hxv : xv = .slice none 0 0 := hx
    subst hxv
    by_cases hm : m = 0
    · subst hm
      have hn0 : news = [] := List.length_eq_zero_iff.1 (by simpa using hnl)
      subst hn0
      have hN := h.newNil s0
      refine ⟨_, _, _, _, run_app_nil ht hu hdu hi w hlen hfc, hN, plNew_agree _ _ _, ?_, by simp, fun _ _ _ _ _ => rfl, fun _ _ _ => rfl⟩
      rw [plNew_self]
      exact ⟨rfl, by simp, by simp, _, rfl, fun _ => by simp⟩
    · have hrun := run_app_grow (ty := ty) ht hu hdu hi hz hby w (A := none) (n := 0) (cap := 0) (olds := []) hlen (by simp [Builtin.firstCells]) hfd (by omega) (by simpa using hbound)
      have hge := grownCap_ge w (0 + m) 0 e
      obtain ⟨gc, hgc⟩ : ∃ gc, gc = grownCap w (0 + m) 0 e := ⟨_, rfl⟩
      rw [← hgc] at hge hrun
      simp only [Nat.zero_add] at hge hrun
      have hF := (h.drew).fresh ((([] : List Value).toArray ++ news.toArray ++ Builtin.zeroCells z.cells (gc - m))) e gc s0 (by
        simp only [Array.size_append, List.size_toArray, List.length_nil, Builtin.zeroCells, Array.size_map, Array.size_range, hnl, hzs]
        rw [Nat.zero_add, ← Nat.add_mul]; congr 1; omega)
      refine ⟨_, _, _, _, hrun, hF, plNew_agree _ _ _, ?_, ?_, ?_, ?_⟩
      · simp only [List.length_nil, Nat.zero_add]
        exact win_fresh (L := fun _ => default) (by rw [plNew_self]; rfl) hge
      · intro k v hk
        rw [plNew_self]
        simp only [List.length_nil, Nat.zero_mul, Nat.zero_add]
        have hk' := getElem?_lt hk
        rw [World.cell?_alloc_new]
        rw [Array.getElem?_append_left (by simp; omega)]
        simpa using hk
      · intro b o q hq _
        exact World.cell?_alloc_old _ _ _ (by simpa using h.lab_ne hq)
      · intro b o hst
        have := h.fr.size
        exact World.cell?_alloc_old _ _ _ (by simp; have := hst.1; omega)
  · rename_i r0 s0 n0
    split at hb
    · rename_i sz0 es0 hr
      split at hb
      · rename_i hcond
        obtain ⟨rfl, rfl⟩ := hcond
        simp only [Option.some.injEq, Prod.mk.injEq] at hb
        obtain ⟨rfl, rfl, rfl⟩ := hb
        obtain ⟨hrn, hok⟩ := h.roots r0 _ hr
        obtain ⟨hc, hmi⟩ := hok [] _ rfl
        have hwin := (c_of hx).2
        have hv := hdr_of_win hwin
        obtain ⟨hwsz, hwnil, hwle, _⟩ := hwin
        by_cases hroom : es0.length + m ≤ (pl r0 []).cap
        · cases hnn : (pl r0 []).nil with
          | true =>
            have hcap := hwnil hnn
            have hm : m = 0 := by omega
            subst hm
            have he0 : es0 = [] := List.length_eq_zero_iff.1 (by omega)
            subst he0
            have hn0 : news = [] := List.length_eq_zero_iff.1 (by simpa using hnl)
            subst hn0
            have hvv : xv = .slice none 0 (pl r0 []).cap := by rw [hv]; simp [hdr, Pl.base, hnn]
            refine ⟨_, _, _, _, by rw [hvv]; exact run_app_nil ht hu hdu hi w hlen hfc, h.rename hr, plNew_agree _ _ _, ?_, by simp, fun _ _ _ _ _ => rfl, fun _ _ _ => rfl⟩
            rw [plNew_self]
            exact ⟨hwsz, hwnil, by simp, _, rfl, fun _ => by simp [hnn]⟩
          | false =>
            have hvv : xv = .slice (some ⟨(pl r0 []).b, (pl r0 []).off, none⟩) es0.length (pl r0 []).cap := by rw [hv]; simp [hdr, Pl.base, hnn]
            have hfit : es0.length * sz0 + news.length ≤ (pl r0 []).cap * sz0 := by
              rw [hnl, ← Nat.add_mul]; exact Nat.mul_le_mul_right _ hroom
            have hown : ∀ j, j < news.length → (∃ u, w.cell? ⟨(pl r0 []).b, (pl r0 []).off + es0.length * i.size + j, none⟩ = some u) ∧ w.frozen? ⟨(pl r0 []).b, (pl r0 []).off + es0.length * i.size + j, none⟩ = false := by
              intro j hj
              obtain ⟨_, e1, e2⟩ := hmi (es0.length * sz0 + j) (by rw [hwsz]; omega)
              rw [hsz, Nat.add_assoc]
              exact ⟨e1, e2⟩
            have hsp := Hp.setSpares hr news w (es0.length * sz0) h (Nat.le_refl _) hfit
            refine ⟨_, _, _, _, by rw [hvv]; exact run_app_room ht hu hdu hi w hlen hfc hroom h1 hown, by rw [hsz]; exact hsp.rename hr, plNew_agree _ _ _, ?_, ?_, ?_, ?_⟩
            · rw [plNew_self]
              exact ⟨hwsz, hwnil, by simpa using hroom, some ⟨(pl r0 []).b, (pl r0 []).off, none⟩, by simp, fun _ => by simp [hnn]⟩
            · intro k v hk
              rw [plNew_self, hsz, ← Nat.add_assoc]
              exact setCells_in _ _ _ _ (fun j hj => by have := (hown j hj).1; rwa [hsz] at this) k v hk
            · intro b o q hq hne
              refine setCells_out _ _ _ _ ?_
              rintro ⟨rfl, h2, h3⟩
              rw [hsz] at h2 h3
              have := hmi.lab hc (j := o - (pl r0 []).off) (by simp only; omega)
              rw [show (pl r0 []).off + (o - (pl r0 []).off) = o by omega, hq] at this
              simp only [Option.some.injEq] at this
              exact hne r0 rfl this
            · intro b o hst
              refine setCells_out _ _ _ _ ?_
              rintro ⟨rfl, h2, h3⟩
              rw [hsz] at h2 h3
              have := hmi.lab hc (j := o - (pl r0 []).off) (by simp only; omega)
              rw [show (pl r0 []).off + (o - (pl r0 []).off) = o by omega] at this
              rcases (h.lab _ _ _ this).2.1 with k | k
              · have := hst.1; omega
              · exact hst.2 k
        · -- it grows
          obtain ⟨olds, hol, hoc, _⟩ : ∃ olds : List Value, olds.length = es0.length * sz0 ∧ (∀ j v, olds[j]? = some v → w.cell? ⟨(pl r0 []).b, (pl r0 []).off + j, none⟩ = some v) ∧ True := by
            refine ⟨(List.range (es0.length * sz0)).map fun j => (w.cell? ⟨(pl r0 []).b, (pl r0 []).off + j, none⟩).getD undef, by simp, ?_, trivial⟩
            intro j v hj
            simp only [List.getElem?_map, Option.map_eq_some_iff] at hj
            obtain ⟨j', hj', rfl⟩ := hj
            have := getElem?_lt hj'
            simp only [List.length_range] at this
            rw [List.getElem?_range this] at hj'
            simp only [Option.some.injEq] at hj'; subst hj'
            obtain ⟨_, ⟨v, hv⟩, _⟩ := hmi j (by rw [hwsz]; have := Nat.mul_le_mul_right sz0 hc.le; simp only at this; omega)
            rw [hv]; rfl
          have hfo : (Builtin.firstCells i.size es0.length xv).run P w.drew = .ok olds.toArray w.drew := by
            rw [hv]
            cases hnn : (pl r0 []).nil with
            | true =>
              have := hwnil hnn
              have he0 : es0 = [] := List.length_eq_zero_iff.1 (by omega)
              subst he0
              have : olds = [] := List.length_eq_zero_iff.1 (by simpa using hol)
              subst this
              simp [hdr, Pl.base, hnn, Builtin.firstCells]
            | false =>
              simp only [hdr, Pl.base, hnn, Bool.false_eq_true, if_false]
              exact run_firstCells_some (P := P) w.drew i.size es0.length ⟨(pl r0 []).b, (pl r0 []).off, none⟩ es0.length (pl r0 []).cap olds (by rw [hol, hsz]) (fun j v hj => by rw [Addr.add_lit]; exact hoc j v hj)
          have hxs : xv = .slice (pl r0 []).base es0.length (pl r0 []).cap := hv
          have hrun := run_app_grow (ty := ty) ht hu hdu hi hz hby w (A := (pl r0 []).base) (n := es0.length) (cap := (pl r0 []).cap) (olds := olds) hlen (by rw [← hxs]; exact hfo) hfd (by omega) hbound
          have hge := grownCap_ge w (es0.length + m) (pl r0 []).cap e
          obtain ⟨gc, hgc⟩ : ∃ gc, gc = grownCap w (es0.length + m) (pl r0 []).cap e := ⟨_, rfl⟩
          rw [← hgc] at hge hrun
          have hG := (h.drew).grow hr (olds.toArray ++ news.toArray ++ Builtin.zeroCells z.cells (gc - (es0.length + m))) e gc (by
            simp only [Array.size_append, List.size_toArray, Builtin.zeroCells, Array.size_map, Array.size_range, hnl, hol, hzs]
            rw [← Nat.add_mul, ← Nat.add_mul]; congr 1; omega) (by omega) (fun j v hj hv' => by
              have hj' : j < olds.length := by rw [hol]; exact hj
              have := hoc j _ (List.getElem?_eq_getElem hj')
              rw [show w.drew.cell? _ = w.cell? _ from rfl, this] at hv'
              simp only [Option.some.injEq] at hv'; subst hv'
              rw [Array.getElem?_append_left (by simp; omega), Array.getElem?_append_left (by simpa using hj')]
              simp [hj'])
          refine ⟨_, _, _, _, by rw [hxs]; exact hrun, hG, plNew_agree _ _ _, ?_, ?_, ?_, ?_⟩
          · refine win_fresh (L := fun _ => default) (B := w.heap.size) ?_ hge
            rw [plNew_self, if_pos rfl]
            rfl
          · intro k v hk
            rw [plNew_self, if_pos rfl]
            simp only [Nat.zero_add]
            have hk' := getElem?_lt hk
            rw [World.cell?_alloc_new]
            rw [Array.getElem?_append_left (by simp; omega), Array.getElem?_append_right (by simp; omega)]
            simpa [hol] using hk
          · intro b o q hq _
            exact World.cell?_alloc_old _ _ _ (by simpa using h.lab_ne hq)
          · intro b o hst
            have := h.fr.size
            exact World.cell?_alloc_old _ _ _ (by simp; have := hst.1; omega)
      · simp at hb
    · simp at hb
  · simp at hb
end Go.Vs
