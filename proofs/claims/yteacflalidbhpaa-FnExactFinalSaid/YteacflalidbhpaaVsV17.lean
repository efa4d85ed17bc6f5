import Derived.Test.YteacflalidbhpaaVsV16
set_option linter.unusedVariables false
set_option linter.unusedSimpArgs false
namespace Go.Vs
set_option linter.unusedVariables false
set_option linter.unusedSimpArgs false
variable {P : Program} {N : Nat} {w0 : World} {own0 : Nat → Nat → Prop} {pl0 : Pls} {g : Lab} {pl : Pls} {S : St} {a : Act} {w : World} {K : V → List (Nat × Path) → List (Nat × Root) → Nat → Prop}

/-- A window's cells, as values. -/
theorem window {roots : List (Nat × Root)} {nx nc fix : Nat} (h : Hp w0 own0 pl0 g pl roots nx nc fix w) {ry : Nat} {py : Path} {sz : Nat} {l : List (List D)} (hn : nodeIn roots ry py = some (sz, l)) {lo m : Nat} (hlm : lo + m ≤ l.length) :
    ∃ news : List Value, news.length = m * sz ∧ (∀ v ∈ news, v.oneCell' = true) ∧ (∀ k v, news[k]? = some v → w.cell? ⟨(pl ry py).b, (pl ry py).off + (lo * sz + k), none⟩ = some v) ∧
      (∀ i e c d, ((l.drop lo).take m)[i]? = some e → e[c]? = some d → ∃ v, news[i * sz + c]? = some v ∧ DV (pl ry (py ++ [(lo + i, c)])) d v) ∧
      (∀ i c v, i < m → c < sz → w.cell? ⟨(pl ry py).b, (pl ry py).off + ((lo + i) * sz + c), none⟩ = some v → news[i * sz + c]? = some v) := by
  obtain ⟨_, hc⟩ := h.node hn
  have hex : ∀ k, k < m * sz → ∃ v, w.cell? ⟨(pl ry py).b, (pl ry py).off + (lo * sz + k), none⟩ = some v ∧ v.oneCell' = true := by
    intro k hk
    have hsz : 0 < sz := by
      rcases Nat.eq_zero_or_pos sz with h0 | h0
      · subst h0; simp at hk
      · exact h0
    have hi : k / sz < m := Nat.div_lt_of_lt_mul (by rw [Nat.mul_comm]; exact hk)
    have hcs : k % sz < sz := Nat.mod_lt _ hsz
    have hdm : k / sz * sz + k % sz = k := by rw [Nat.mul_comm]; exact Nat.div_add_mod _ _
    have he := List.getElem?_eq_getElem (show lo + k / sz < l.length by omega)
    have hel := hc.szs _ (List.mem_of_getElem? he)
    have hd := List.getElem?_eq_getElem (show k % sz < (l[lo + k / sz]).length by simp only at hel; omega)
    obtain ⟨v, hv, hdv⟩ := hc.cells _ _ _ _ he hd
    refine ⟨v, ?_, hdv.one⟩
    rw [show (lo + k / sz) * sz + k % sz = lo * sz + k by rw [Nat.add_mul]; omega] at hv
    exact hv
  have hget : ∀ k v, ((List.range (m * sz)).map fun k => (w.cell? ⟨(pl ry py).b, (pl ry py).off + (lo * sz + k), none⟩).getD undef)[k]? = some v → w.cell? ⟨(pl ry py).b, (pl ry py).off + (lo * sz + k), none⟩ = some v ∧ v.oneCell' = true := by
    intro k v hk
    simp only [List.getElem?_map, Option.map_eq_some_iff] at hk
    obtain ⟨k', hk', rfl⟩ := hk
    have := getElem?_lt hk'
    simp only [List.length_range] at this
    rw [List.getElem?_range this] at hk'
    simp only [Option.some.injEq] at hk'; subst hk'
    obtain ⟨v, hv, h1⟩ := hex k this
    rw [hv]; exact ⟨rfl, h1⟩
  have hmk : ∀ k v, k < m * sz → w.cell? ⟨(pl ry py).b, (pl ry py).off + (lo * sz + k), none⟩ = some v → ((List.range (m * sz)).map fun k => (w.cell? ⟨(pl ry py).b, (pl ry py).off + (lo * sz + k), none⟩).getD undef)[k]? = some v := by
    intro k v hk hv
    simp only [List.getElem?_map, List.getElem?_range hk, Option.map_some, hv, Option.getD_some]
  refine ⟨_, by simp, fun v hv => ?_, fun k v hk => (hget k v hk).1, fun i e c d he hd => ?_, fun i c v hi hcs hv => ?_⟩
  · obtain ⟨k, hk⟩ := List.getElem?_of_mem hv
    exact (hget k v hk).2
  · have hlt := getElem?_lt he
    simp only [List.length_take, List.length_drop] at hlt
    have he' := get_drop_take rfl _ _ he
    obtain ⟨v, hv, hdv⟩ := hc.cells _ e c d he' hd
    have hb := hc.bound he' hd
    refine ⟨v, hmk _ _ (lin (show i < m by omega) (Nat.le_refl _) hb.2.1) ?_, hdv⟩
    rw [show lo * sz + (i * sz + c) = (lo + i) * sz + c by rw [Nat.add_mul]; omega]
    exact hv
  · refine hmk _ _ (lin hi (Nat.le_refl _) hcs) ?_
    rw [show lo * sz + (i * sz + c) = (lo + i) * sz + c by rw [Nat.add_mul]; omega]
    exact hv
theorem firstCells_win {size : Nat} {L : Pl} {lo m : Nat} {v : Value} (hv : Win L size lo m v) {news : List Value} (hnl : news.length = m * size) (hpos : 0 < size) (hc : ∀ k u, news[k]? = some u → w.cell? ⟨L.b, L.off + (lo * size + k), none⟩ = some u) :
    (Builtin.firstCells size m v).run P w = .ok news.toArray w := by
  obtain ⟨hsz, hnil, hle, A, rfl, hA⟩ := hv
  cases A with
  | none =>
    have hm : m = 0 := by
      by_cases h0 : m = 0
      · exact h0
      · exfalso
        have := hA (.inl (by omega))
        cases hq : L.nil with
        | true => have := hnil hq; omega
        | false => rw [hq] at this; simp at this
    subst hm
    have : news = [] := List.length_eq_zero_iff.1 (by simpa using hnl)
    subst this
    simp [Builtin.firstCells]
  | some A =>
    by_cases hm : m = 0
    · subst hm
      have : news = [] := List.length_eq_zero_iff.1 (by simpa using hnl)
      subst this
      simp [Builtin.firstCells, loadCells, loadCellsFrom]
    · have hA' := hA (.inl (by omega))
      cases hq : L.nil with
      | true => have := hnil hq; omega
      | false =>
        rw [hq] at hA'
        simp only [Bool.false_eq_true, if_false, Option.some.injEq] at hA'
        exact run_firstCells_some (P := P) w size m A m _ news hnl (fun j u hj => by rw [hA', Addr.add_lit, hsz, Nat.add_assoc]; exact hc j u hj)
theorem lenOf_win {L : Pl} {sz lo m : Nat} {v : Value} (hv : Win L sz lo m v) (w' : World) : (Builtin.lenOf v).run P w' = .ok m w' := by
  obtain ⟨_, _, _, A, rfl, _⟩ := hv
  simp [Builtin.lenOf]

theorem wrote_app (hR : Rel N w0 own0 pl0 g pl S a w) {args : Array Operand} {tys : Array TypeId} {ty : TypeId} {j : W} (ht : trW P (.call { callee := .builtin .append, args, argTypes := tys }) = some j) (h : wr S K j) :
    Wrote P w0 own0 pl0 pl S K (Builtin.append_ tys ty (args.map a.eval)) w := by
  simp only [trW] at ht
  split at ht
  · rename_i x y t u hxs hts
    have hargs : args = #[x, y] := by apply Array.ext'; simpa using hxs
    have htys : tys = #[t, u] := by apply Array.ext'; simpa using hts
    subst hargs; subst htys
    rw [show (#[x, y] : Array Operand).map a.eval = #[a.eval x, a.eval y] by simp]
    have hfix := hR.hp.fixle
    split at ht
    · rename_i e e2 hu hu2
      simp only [Option.bind_eq_bind, Option.bind_eq_some_iff] at ht
      obtain ⟨i, hi, z, hz, zc, hzc, ht⟩ := ht
      split at ht
      · rename_i hcond
        obtain ⟨hzl, hpos, hby⟩ := hcond
        simp only [Option.bind_eq_some_iff, Option.some.injEq] at ht
        obtain ⟨x', hx, y', hy, rfl⟩ := ht
        have hzall := cellsZero_ok (pl := pl) (nx := S.next) hzc
        have hzs : z.cells.size = i.size := by rw [← Array.length_toList, ← hzall.length, hzl]
        have h1 := opd_ok hR hx
        have h2 := opd_ok hR hy
        simp only [wr] at h
        obtain ⟨⟨sz, es, r⟩, hb, hbs, h⟩ := h
        simp only at hbs; subst hbs
        simp only at h
        split at h
        · -- nothing is appended
          rename_i s0 he
          rw [he] at h2
          obtain ⟨hbd, h⟩ := h
          have hyv : a.eval y = .slice none 0 0 := h2
          have happ := (appended hR.hp h1 hb hu hu2 (by simp) hi hz rfl hzs hby (ty := ty) (y := a.eval y) (m := 0) (news := []) (by intro w'; rw [hyv]; simp [Builtin.lenOf]) (by rw [hyv]; simp [Builtin.firstCells]) (by rw [hyv]; simp [Builtin.firstCells]) (by simp) (by simp) (by simpa using hbd)).out
          obtain ⟨v, w1, g1, pl1, hrun, hp, hag, hwin, _⟩ := happ
          exact wroteC h hrun ⟨by omega, by simpa using hwin⟩ hp.bump (fun z u hk => (hk.agree hag).mono (by omega))
        · rename_i ry py sz' lo m he
          rw [he] at h2
          obtain ⟨hryn, hwiny⟩ := c_of h2
          obtain ⟨rfl, hne, hbound, l, hl, hlm, hK⟩ := h
          rw [node_eq] at hl
          obtain ⟨news, hnl, hone, hnc, hnE, hnN⟩ := window hR.hp hl hlm
          have happ := (appended hR.hp h1 hb hu hu2 (by simp) hi hz rfl hzs hby (ty := ty) (y := a.eval y) (m := m) (news := news) (lenOf_win hwiny) (firstCells_win hwiny hnl hpos hnc) (firstCells_win hwiny hnl hpos hnc) hnl hone hbound).out
          obtain ⟨v, w1, g1, pl1, hrun, hp, hag, hwin, hnew, hkeep, hst⟩ := happ
          have hEl : ((l.drop lo).take m).length = m := by simp; omega
          obtain ⟨_, hcy⟩ := hR.hp.node hl
          rcases hK with ⟨hlf, hK⟩ | ⟨sz0, es0, hry, hK⟩
          · have hx := hp.extendZ (r := S.next) (sz := i.size) (es := es) (by simp [get]) hfix (Nat.le_refl _) ((l.drop lo).take m) (fun e he => hcy.szs e (List.mem_of_mem_drop (List.mem_of_mem_take he))) (by rw [hEl]; exact (by have := hwin.2.2.1; omega)) (by
              intro i' e' c' d he' hd
              obtain ⟨v, hv, hdv⟩ := hnE i' e' c' d he' hd
              have hlf' := List.all_eq_true.1 (List.all_eq_true.1 hlf e' (List.mem_of_getElem? he')) d (List.mem_of_getElem? hd)
              cases d with
              | lf x =>
                obtain ⟨rfl, h1'⟩ := hdv
                refine ⟨v, ?_, .inl ⟨rfl, h1'⟩⟩
                rw [show (es.length + i') * i.size + c' = es.length * i.size + (i' * i.size + c') by rw [Nat.add_mul]; omega]
                exact hnew _ _ hv
              | sl s es' => simp [isLf] at hlf'
              | hole => simp [isLf] at hlf')
            have hag2 : Agree S.next pl (plZ pl1 S.next ((l.drop lo).take m) es.length) := fun r p hr => by rw [plZ_agree (Nat.le_refl _) r p hr]; exact hag r p hr
            refine wroteC hK hrun ⟨by omega, ?_⟩ (hx.bump.roots_eq ?_) (fun z u hk => (hk.agree hag2).mono (by omega))
            · rw [plZ_nil]; exact hwin
            · intro t'
              rw [get_put]
              simp only [get]
              split
              · rfl
              · rfl
          · have hry' : get (delO S.roots r) ry = some (.tr sz0 es0) := by
              cases r with
              | none => exact hry
              | some r => simp only [delO]; rw [get_del, if_neg (by intro e; exact hne (by rw [e]))]; exact hry
            have hpy : nodeAt sz0 es0 py = some (i.size, l) := by unfold nodeIn at hl; rw [hry] at hl; exact hl
            have hmy := ((hR.hp.roots ry _ hry).2 py _ hpy).2
            have hx := hp.extendMove (R := S.next) (sz := i.size) (es := es) (by simp [get]) hfix (Nat.le_refl _) (ry := ry) (by omega) (py := py) (sz0 := sz0) (es0 := es0) (by simp only [get]; rw [if_neg (by omega)]; exact hry') hpy hlm (by have := hwin.2.2.1; omega) (by
              intro i' c' v hi' hc' hv
              rw [hag ry py hryn] at hv
              have hbd : (lo + i') * i.size + c' < (pl ry py).cap * i.size := lin (show lo + i' < l.length by omega) hcy.le hc'
              rw [hkeep _ _ _ (hmy.lab hcy hbd) (by rintro q hq e; rw [Prod.mk.injEq] at e; exact hne (by rw [hq, e.1]))] at hv
              rw [show (es.length + i') * i.size + c' = es.length * i.size + (i' * i.size + c') by rw [Nat.add_mul]; omega]
              exact hnew _ _ (hnN i' c' v hi' hc' hv))
            have hag2 : Agree S.next pl (plBulk pl1 ry py lo S.next es.length) := fun r p hr => by
              unfold plBulk; rw [if_neg (by omega)]; exact hag r p hr
            refine wroteC hK hrun ⟨by omega, ?_⟩ (hx.bump.roots_eq ?_) (fun z u hk => (hk.agree hag2).mono (by omega))
            · have : plBulk pl1 ry py lo S.next es.length S.next [] = pl1 S.next [] := by unfold plBulk; simp
              rw [this]; exact hwin
            · intro t'
              rw [get_put, get_put]
              simp only [get]
              split
              · rfl
              · rw [get_put]
        · exact h.elim
      · simp at ht
    · rename_i e hu hu2
      simp only [Option.bind_eq_bind, Option.bind_eq_some_iff] at ht
      obtain ⟨i, hi, z, hz, zc, hzc, ht⟩ := ht
      split at ht
      · rename_i hcond
        obtain ⟨hzl, hsz1, hby⟩ := hcond
        simp only [Option.bind_eq_some_iff, Option.some.injEq] at ht
        obtain ⟨x', hx, y', hy, rfl⟩ := ht
        have hzall := cellsZero_ok (pl := pl) (nx := S.next) hzc
        have hzs : z.cells.size = 1 := by rw [← Array.length_toList, ← hzall.length, hzl]
        have h1 := opd_ok hR hx
        have h2 := opd_ok hR hy
        simp only [wr] at h
        obtain ⟨⟨sz, es, r⟩, hb, hbs, h⟩ := h
        simp only at hbs; subst hbs
        simp only at h
        split at h
        · rename_i str he
          rw [he] at h2
          obtain ⟨hyv, _⟩ := c_of h2
          obtain ⟨hbound, hK⟩ := h
          have hfc : ∀ w', (Builtin.firstCells i.size str.size (a.eval y)).run P w' = .ok (str.data.toList.map fun b => Value.int .u8 b.toNat).toArray w' := by
            intro w'
            rw [hyv]
            simp only [Builtin.firstCells, Sem.run_pure]
            congr 1
            apply Array.ext'
            simp
          have happ := (appended hR.hp h1 hb hu hu2 (by simp) hi hz hsz1 hzs (by omega) (ty := ty) (y := a.eval y) (m := str.size) (news := str.data.toList.map fun b => Value.int .u8 b.toNat) (by intro w'; rw [hyv]; simp [Builtin.lenOf]) (hfc w) (hfc w.drew) (by simp) (by
            intro v hv; simp only [List.mem_map] at hv; obtain ⟨b, _, rfl⟩ := hv; rfl) (by rw [hby, Nat.mul_one]; exact hbound)).out
          obtain ⟨v, w1, g1, pl1, hrun, hp, hag, hwin, hnew, hkeep, hst⟩ := happ
          have hx := hp.extendZ (r := S.next) (sz := 1) (es := es) (by simp [get]) hfix (Nat.le_refl _) (strD str) (fun e he => by
            simp only [strD, List.mem_map] at he; obtain ⟨b, _, rfl⟩ := he; rfl) (by rw [strD_len]; exact (by have := hwin.2.2.1; omega)) (by
            intro i' e' c' d he' hd
            obtain ⟨b, hb, rfl, rfl⟩ := strD_get he' hd
            refine ⟨.int .u8 b.toNat, ?_, .inl ⟨rfl, rfl⟩⟩
            have := hnew i' (.int .u8 b.toNat) (by simp [hb])
            simpa using this)
          have hag2 : Agree S.next pl (plZ pl1 S.next (strD str) es.length) := fun r p hr => by rw [plZ_agree (Nat.le_refl _) r p hr]; exact hag r p hr
          refine wroteC hK hrun ⟨by omega, ?_⟩ (hx.bump.roots_eq ?_) (fun z u hk => (hk.agree hag2).mono (by omega))
          · rw [plZ_nil]; exact hwin
          · intro t'
            rw [get_put]
            simp only [get]
            split
            · rfl
            · rfl
        · exact h.elim
      · simp at ht
    · simp at ht
  · simp at ht
end Go.Vs
