import Derived.Test.YteacflalidbhpaaVsV31
set_option linter.unusedVariables false
set_option linter.unusedSimpArgs false
namespace Go.Vs
set_option linter.unusedVariables false
set_option linter.unusedSimpArgs false

theorem Rel.sub {N : Nat} {w0 : World} {own0 : Nat → Nat → Prop} {pl0 : Pls} {g : Lab} {pl : Pls} {S : St} {a : Act} {w : World} (hR : Rel N w0 own0 pl0 g pl S a w) {env : List (Nat × V)} (he : ∀ t x, get env t = some x → get S.env t = some x) : Rel N w0 own0 pl0 g pl ⟨env, S.roots, S.next, S.fix⟩ a w :=
  ⟨hR.hp, hR.size, hR.defers, fun t x hx => hR.env t x (he t x hx)⟩

variable {P : Program} {N : Nat} {w0 : World} {own0 : Nat → Nat → Prop} {pl0 : Pls} {g : Lab} {pl : Pls} {S : St} {a : Act} {w : World}
theorem stepV_ok (hR : Rel N w0 own0 pl0 g pl S a w) {ops : Array Oper} {i : Nat} {o : Oper} {gi : GI} (ho : ops[i]? = some o) (ht : trOper P N ops o = some gi) {K : KW} (h : stepV P gi S K) {next : Act → World → Prop} {Q : Exit → Act → World → Prop}
    (hn : ∀ v w' x ks roots nx g' pl', VR pl' nx x v → Hp w0 own0 pl0 g' pl' roots nx nx S.fix w' → (∀ z u, CR pl S.next z u → CR pl' nx (killCs ks z) u) → K x ks roots nx → next (a.put gi.dst v) w') : wpOp P ops Q i next a w := by
  unfold wpOp
  rw [ho]
  simp only
  unfold trOper at ht
  simp only [Option.bind_eq_bind, Option.bind_eq_some_iff] at ht
  obtain ⟨j, hj, ht⟩ := ht
  split at ht
  · rename_i hd
    split at ht
    · rename_i hg
      simp only [Option.some.injEq] at ht; subst ht
      rw [if_pos (by simp [Region.wanted, hg])]
      exact .inl (opJ_ok hR hj h hn)
    · rename_i k want hg
      simp only [Option.bind_eq_some_iff, Option.some.injEq] at ht
      obtain ⟨t, ⟨ok, hok, hdk⟩, rfl⟩ := ht
      simp only [stepV] at h
      have skip : K (.tp []) [] S.roots S.next → next (a.put o.dst undef) w := fun h => hn undef w (.tp []) [] S.roots S.next g pl ⟨[], rfl, trivial⟩ hR.hp (fun _ _ h => h) h
      have hy : yielded ops a.tmps k = match a.tmps[t]? with | some (.bool b) => some b | _ => none := by
        unfold yielded; rw [hok]; simp only [Option.bind_some, hdk]; rfl
      split at h
      · rename_i b hb
        have hv := hR.env t _ hb
        have hvb : a.tmps.getD t undef = .bool b := hv.1
        have ht2 : a.tmps[t]? = some (.bool b) := by
          rw [Array.getD_eq_getD_getElem?] at hvb
          cases hq : a.tmps[t]? with
          | none => rw [hq] at hvb; simp [undef] at hvb
          | some u => rw [hq] at hvb; simp at hvb; rw [hvb]
        by_cases hbw : b = want
        · rw [if_pos (by simp [Region.wanted, hg, hy, ht2, hbw])]
          exact .inl (opJ_ok hR hj (h.1 hbw) hn)
        · rw [if_neg (by simp [Region.wanted, hg, hy, ht2, hbw])]
          exact skip (h.2 hbw)
      · rename_i xs hb
        have hv := hR.env t _ hb
        obtain ⟨vs, hvs, _⟩ := hv
        have hw : Region.wanted o (yielded ops a.tmps) = false := by
          simp only [Region.wanted, hg, hy]
          rw [Array.getD_eq_getD_getElem?] at hvs
          cases hq : a.tmps[t]? with
          | none => simp
          | some u =>
            rw [hq] at hvs
            simp only [Option.getD_some] at hvs
            subst hvs
            simp
        rw [if_neg (by rw [hw]; simp)]
        exact skip h
      · exact h.elim
  · simp at ht
theorem trOper_dst {ops : Array Oper} {o : Oper} {gi : GI} (ht : trOper P N ops o = some gi) : gi.dst.all (· < N) = true := by
  unfold trOper at ht
  simp only [Option.bind_eq_bind, Option.bind_eq_some_iff] at ht
  obtain ⟨j, hj, ht⟩ := ht
  split at ht
  · rename_i hd
    split at ht
    · simp only [Option.some.injEq] at ht; subst ht; exact hd
    · simp only [Option.bind_eq_some_iff, Option.some.injEq] at ht
      obtain ⟨t, _, rfl⟩ := ht; exact hd
  · simp at ht

/-! ## entries -/
theorem sel_get {p : Nat → Bool} {E0 : List (Nat × V)} {t : Nat} {y : V} : ∀ {R : List (Option Nat × V)} {i : Nat}, get (envSel p i R ++ E0) t = some y → (∃ j, R[j]? = some (some t, y) ∧ p (i + j) = true) ∨ get E0 t = some y
  | [], i, h => .inr h
  | (some d, x) :: R, i, h => by
    have key : get (envSel p (i + 1) R ++ E0) t = some y → (∃ j, ((some d, x) :: R)[j]? = some (some t, y) ∧ p (i + j) = true) ∨ get E0 t = some y := fun h => by
      rcases sel_get h with ⟨j, h1, h2⟩ | h
      · exact .inl ⟨j + 1, by simpa using h1, by rw [show i + (j + 1) = i + 1 + j by omega]; exact h2⟩
      · exact .inr h
    simp only [envSel] at h
    split at h
    · rename_i hp
      simp only [List.cons_append, get] at h
      split at h
      · rename_i e; subst e
        simp only [Option.some.injEq] at h; subst h
        exact .inl ⟨0, rfl, hp⟩
      · exact key h
    · exact key h
  | (none, x) :: R, i, h => by
    simp only [envSel] at h
    rcases sel_get h with ⟨j, h1, h2⟩ | h
    · exact .inl ⟨j + 1, by simpa using h1, by rw [show i + (j + 1) = i + 1 + j by omega]; exact h2⟩
    · exact .inr h
theorem sel_of {p : Nat → Bool} {E0 : List (Nat × V)} {t : Nat} {y : V} : ∀ {R : List (Option Nat × V)} {i : Nat}, ((R.filterMap (·.1)).Nodup) → (∀ d x, (some d, x) ∈ R → get E0 d = none) → ((∃ j, R[j]? = some (some t, y) ∧ p (i + j) = true) ∨ get E0 t = some y) → get (envSel p i R ++ E0) t = some y
  | [], i, _, _, h => by
    rcases h with ⟨j, h1, _⟩ | h
    · simp at h1
    · exact h
  | (some d, x) :: R, i, hn, h0, h => by
    simp only [List.filterMap_cons_some (f := fun x : Option Nat × V => x.1) (a := (some d, x)) (b := d) rfl, List.nodup_cons] at hn
    have h0' : ∀ d x, (some d, x) ∈ R → get E0 d = none := fun d x h => h0 d x (by simp [h])
    by_cases htd : d = t
    · subst htd
      have hE := h0 d x (by simp)
      rcases h with ⟨j, h1, h2⟩ | h
      · cases j with
        | zero =>
          simp only [List.getElem?_cons_zero, Option.some.injEq, Prod.mk.injEq, true_and] at h1
          subst h1
          simp only [envSel]
          rw [if_pos (by simpa using h2)]
          simp [get]
        | succ j =>
          exfalso
          apply hn.1
          rw [List.mem_filterMap]
          exact ⟨(some d, y), List.mem_of_getElem? (by simpa using h1), rfl⟩
      · rw [hE] at h; simp at h
    · have ih := sel_of (p := p) (E0 := E0) (t := t) (y := y) (R := R) (i := i + 1) hn.2 h0' (by
        rcases h with ⟨j, h1, h2⟩ | h
        · cases j with
          | zero => simp at h1; exact (htd h1.1).elim
          | succ j => exact .inl ⟨j, by simpa using h1, by rw [show i + 1 + j = i + (j + 1) by omega]; exact h2⟩
        · exact .inr h)
      simp only [envSel]
      split
      · simp only [List.cons_append, get]; rw [if_neg htd]; exact ih
      · exact ih
  | (none, x) :: R, i, hn, h0, h => by
    simp only [List.filterMap_cons_none (f := fun x : Option Nat × V => x.1) (a := (none, x)) rfl] at hn
    simp only [envSel]
    refine sel_of hn (fun d x h => h0 d x (by simp [h])) ?_
    rcases h with ⟨j, h1, h2⟩ | h
    · cases j with
      | zero => simp at h1
      | succ j => exact .inl ⟨j, by simpa using h1, by rw [show i + 1 + j = i + (j + 1) by omega]; exact h2⟩
    · exact .inr h

/-! ## writers, counted -/
theorem nW_append : ∀ (l r : List DI), nW (l ++ r) = nW l + nW r
  | [], r => by simp [nW]
  | x :: l, r => by simp only [List.cons_append, nW, nW_append l r]; omega
theorem nW_take_succ {its : List DI} {i : Nat} {it : DI} (h : its[i]? = some it) : nW (its.take (i + 1)) = nW (its.take i) + if it.w then 1 else 0 := by
  rw [List.take_add_one, h, nW_append]
  simp [nW]
theorem nW_take_le (its : List DI) (i j : Nat) (h : i ≤ j) : nW (its.take i) ≤ nW (its.take j) := by
  have : its.take j = its.take i ++ (its.drop i).take (j - i) := by rw [← List.take_add]; congr 1; omega
  rw [this, nW_append]; omega
theorem nW_take_all (its : List DI) (i : Nat) : nW (its.take i) ≤ nW its := by
  have : nW its = nW (its.take i) + nW (its.drop i) := by rw [← nW_append, List.take_append_drop]
  omega
theorem rank_ex (its : List DI) : ∀ (i r : Nat), r < nW (its.take i) → ∃ i' it', i' < i ∧ its[i']? = some it' ∧ it'.w = true ∧ nW (its.take i') = r
  | 0, r, h => by simp [nW] at h
  | i + 1, r, h => by
    cases hi : its[i]? with
    | none =>
      have e : its.take (i + 1) = its.take i := by
        rw [List.take_of_length_le (by have := List.getElem?_eq_none_iff.1 hi; omega), List.take_of_length_le (List.getElem?_eq_none_iff.1 hi)]
      rw [e] at h
      obtain ⟨i', it', h1, h2⟩ := rank_ex its i r h
      exact ⟨i', it', by omega, h2⟩
    | some it =>
      rw [nW_take_succ hi] at h
      by_cases hlt : r < nW (its.take i)
      · obtain ⟨i', it', h1, h2⟩ := rank_ex its i r hlt
        exact ⟨i', it', by omega, h2⟩
      · cases hw : it.w with
        | false => rw [hw] at h; simp at h; omega
        | true => rw [hw] at h; simp at h; exact ⟨i, it, by omega, hi, hw, by omega⟩
theorem rank_lt {its : List DI} {i j : Nat} {it : DI} (hi : its[i]? = some it) (hw : it.w = true) (h : i < j) : nW (its.take i) < nW (its.take j) := by
  have := nW_take_succ hi
  rw [hw] at this
  simp at this
  have := nW_take_le its (i + 1) j (by omega)
  omega
end Go.Vs
