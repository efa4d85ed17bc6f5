import Derived.IntWalk
import Derived.ChangeArms
import Derived.ChangeSlices
import Derived.WideShapes
import Derived.DataReads
import Derived.Test.YtgbapgjdkoojdaaVsW1
set_option linter.unusedVariables false
set_option linter.unusedSimpArgs false
namespace Go.Vs
set_option linter.unusedVariables false
set_option linter.unusedSimpArgs false

theorem Rel.sub {N : Nat} {w0 : World} {own0 : Nat → Nat → Prop} {pl0 : Pls} {g : Lab} {pl : Pls} {S : St} {a : Act} {w : World} (hR : Rel N w0 own0 pl0 g pl S a w) {env : List (Nat × V)} (he : ∀ t x, get env t = some x → get S.env t = some x) : Rel N w0 own0 pl0 g pl ⟨env, S.roots, S.next, S.fix⟩ a w :=
  ⟨hR.hp, hR.size, hR.defers, fun t x hx => hR.env t x (he t x hx)⟩

variable {P : Program} {N : Nat} {w0 : World} {own0 : Nat → Nat → Prop} {pl0 : Pls} {g : Lab} {pl : Pls} {S : St} {a : Act} {w : World}
theorem stepV_ok (hR : Rel N w0 own0 pl0 g pl S a w) {ops : Array Oper} {i : Nat} {o : Oper} {gi : GI} (ho : ops[i]? = some o) (ht : trOper P N ops o = some gi) {K : KW} (h : stepV P gi S K) {next : Act → World → Prop} {Q : Exit → Act → World → Prop}
    (hn : ∀ v w' x ks roots nx g' pl', VR pl' nx x v → Hp w0 own0 pl0 g' pl' roots nx nx S.fix w' → (∀ z u, CR pl S.next z u → CR pl' nx (killCs ks z) u) → K x ks roots nx → next (a.put gi.dst v) w') : wpOp P ops Q i next a w := by
  unfold wpOp
  rw [ho]
  simp only
  unfold trOper at ht
  simp only [Option.bind_eq_bind, Option.bind_eq_some_iff] at ht
  obtain ⟨j, hj, ht⟩ := ht
  split at ht
  · rename_i hd
    split at ht
    · rename_i hg
      simp only [Option.some.injEq] at ht; subst ht
      rw [if_pos (by simp [Region.wanted, hg])]
      exact .inl (opJ_ok hR hj h hn)
    · rename_i k want hg
      simp only [Option.bind_eq_some_iff, Option.some.injEq] at ht
      obtain ⟨t, ⟨ok, hok, hdk⟩, rfl⟩ := ht
      simp only [stepV] at h
      have skip : K (.tp []) [] S.roots S.next → next (a.put o.dst undef) w := fun h => hn undef w (.tp []) [] S.roots S.next g pl ⟨[], rfl, trivial⟩ hR.hp (fun _ _ h => h) h
      have hy : yielded ops a.tmps k = match a.tmps[t]? with | some (.bool b) => some b | _ => none := by
        unfold yielded; rw [hok]; simp only [Option.bind_some, hdk]; rfl
      split at h
      · rename_i b hb
        have hv := hR.env t _ hb
        have hvb : a.tmps.getD t undef = .bool b := hv.1
        have ht2 : a.tmps[t]? = some (.bool b) := by
          rw [Array.getD_eq_getD_getElem?] at hvb
          cases hq : a.tmps[t]? with
          | none => rw [hq] at hvb; simp [undef] at hvb
          | some u => rw [hq] at hvb; simp at hvb; rw [hvb]
        by_cases hbw : b = want
        · rw [if_pos (by simp [Region.wanted, hg, hy, ht2, hbw])]
          exact .inl (opJ_ok hR hj (h.1 hbw) hn)
        · rw [if_neg (by simp [Region.wanted, hg, hy, ht2, hbw])]
          exact skip (h.2 hbw)
      · rename_i xs hb
        have hv := hR.env t _ hb
        obtain ⟨vs, hvs, _⟩ := hv
        have hw : Region.wanted o (yielded ops a.tmps) = false := by
          simp only [Region.wanted, hg, hy]
          rw [Array.getD_eq_getD_getElem?] at hvs
          cases hq : a.tmps[t]? with
          | none => simp
          | some u =>
            rw [hq] at hvs
            simp only [Option.getD_some] at hvs
            subst hvs
            simp
        rw [if_neg (by rw [hw]; simp)]
        exact skip h
      · exact h.elim
  · simp at ht
theorem trOper_dst {ops : Array Oper} {o : Oper} {gi : GI} (ht : trOper P N ops o = some gi) : gi.dst.all (· < N) = true := by
  unfold trOper at ht
  simp only [Option.bind_eq_bind, Option.bind_eq_some_iff] at ht
  obtain ⟨j, hj, ht⟩ := ht
  split at ht
  · rename_i hd
    split at ht
    · simp only [Option.some.injEq] at ht; subst ht; exact hd
    · simp only [Option.bind_eq_some_iff, Option.some.injEq] at ht
      obtain ⟨t, _, rfl⟩ := ht; exact hd
  · simp at ht

/-! ## entries -/
theorem sel_get {p : Nat → Bool} {E0 : List (Nat × V)} {t : Nat} {y : V} : ∀ {R : List (Option Nat × V)} {i : Nat}, get (envSel p i R ++ E0) t = some y → (∃ j, R[j]? = some (some t, y) ∧ p (i + j) = true) ∨ get E0 t = some y
  | [], i, h => .inr h
  | (some d, x) :: R, i, h => by
    have key : get (envSel p (i + 1) R ++ E0) t = some y → (∃ j, ((some d, x) :: R)[j]? = some (some t, y) ∧ p (i + j) = true) ∨ get E0 t = some y := fun h => by
      rcases sel_get h with ⟨j, h1, h2⟩ | h
      · exact .inl ⟨j + 1, by simpa using h1, by rw [show i + (j + 1) = i + 1 + j by omega]; exact h2⟩
      · exact .inr h
    simp only [envSel] at h
    split at h
    · rename_i hp
      simp only [List.cons_append, get] at h
      split at h
      · rename_i e; subst e
        simp only [Option.some.injEq] at h; subst h
        exact .inl ⟨0, rfl, hp⟩
      · exact key h
    · exact key h
  | (none, x) :: R, i, h => by
    simp only [envSel] at h
    rcases sel_get h with ⟨j, h1, h2⟩ | h
    · exact .inl ⟨j + 1, by simpa using h1, by rw [show i + (j + 1) = i + 1 + j by omega]; exact h2⟩
    · exact .inr h
theorem sel_of {p : Nat → Bool} {E0 : List (Nat × V)} {t : Nat} {y : V} : ∀ {R : List (Option Nat × V)} {i : Nat}, ((R.filterMap (·.1)).Nodup) → (∀ d x, (some d, x) ∈ R → get E0 d = none) → ((∃ j, R[j]? = some (some t, y) ∧ p (i + j) = true) ∨ get E0 t = some y) → get (envSel p i R ++ E0) t = some y
  | [], i, _, _, h => by
    rcases h with ⟨j, h1, _⟩ | h
    · simp at h1
    · exact h
  | (some d, x) :: R, i, hn, h0, h => by
    simp only [List.filterMap_cons_some (f := fun x : Option Nat × V => x.1) (a := (some d, x)) (b := d) rfl, List.nodup_cons] at hn
    have h0' : ∀ d x, (some d, x) ∈ R → get E0 d = none := fun d x h => h0 d x (by simp [h])
    by_cases htd : d = t
    · subst htd
      have hE := h0 d x (by simp)
      rcases h with ⟨j, h1, h2⟩ | h
      · cases j with
        | zero =>
          simp only [List.getElem?_cons_zero, Option.some.injEq, Prod.mk.injEq, true_and] at h1
          subst h1
          simp only [envSel]
          rw [if_pos (by simpa using h2)]
          simp [get]
        | succ j =>
          exfalso
          apply hn.1
          rw [List.mem_filterMap]
          exact ⟨(some d, y), List.mem_of_getElem? (by simpa using h1), rfl⟩
      · rw [hE] at h; simp at h
    · have ih := sel_of (p := p) (E0 := E0) (t := t) (y := y) (R := R) (i := i + 1) hn.2 h0' (by
        rcases h with ⟨j, h1, h2⟩ | h
        · cases j with
          | zero => simp at h1; exact (htd h1.1).elim
          | succ j => exact .inl ⟨j, by simpa using h1, by rw [show i + 1 + j = i + (j + 1) by omega]; exact h2⟩
        · exact .inr h)
      simp only [envSel]
      split
      · simp only [List.cons_append, get]; rw [if_neg htd]; exact ih
      · exact ih
  | (none, x) :: R, i, hn, h0, h => by
    simp only [List.filterMap_cons_none (f := fun x : Option Nat × V => x.1) (a := (none, x)) rfl] at hn
    simp only [envSel]
    refine sel_of hn (fun d x h => h0 d x (by simp [h])) ?_
    rcases h with ⟨j, h1, h2⟩ | h
    · cases j with
      | zero => simp at h1
      | succ j => exact .inl ⟨j, by simpa using h1, by rw [show i + 1 + j = i + (j + 1) by omega]; exact h2⟩
    · exact .inr h

/-! ## writers, counted -/
theorem nW_append : ∀ (l r : List DI), nW (l ++ r) = nW l + nW r
  | [], r => by simp [nW]
  | x :: l, r => by simp only [List.cons_append, nW, nW_append l r]; omega
theorem nW_take_succ {its : List DI} {i : Nat} {it : DI} (h : its[i]? = some it) : nW (its.take (i + 1)) = nW (its.take i) + if it.w then 1 else 0 := by
  rw [List.take_add_one, h, nW_append]
  simp [nW]
theorem nW_take_le (its : List DI) (i j : Nat) (h : i ≤ j) : nW (its.take i) ≤ nW (its.take j) := by
  have : its.take j = its.take i ++ (its.drop i).take (j - i) := by rw [← List.take_add]; congr 1; omega
  rw [this, nW_append]; omega
theorem nW_take_all (its : List DI) (i : Nat) : nW (its.take i) ≤ nW its := by
  have : nW its = nW (its.take i) + nW (its.drop i) := by rw [← nW_append, List.take_append_drop]
  omega
theorem rank_ex (its : List DI) : ∀ (i r : Nat), r < nW (its.take i) → ∃ i' it', i' < i ∧ its[i']? = some it' ∧ it'.w = true ∧ nW (its.take i') = r
  | 0, r, h => by simp [nW] at h
  | i + 1, r, h => by
    cases hi : its[i]? with
    | none =>
      have e : its.take (i + 1) = its.take i := by
        rw [List.take_of_length_le (by have := List.getElem?_eq_none_iff.1 hi; omega), List.take_of_length_le (List.getElem?_eq_none_iff.1 hi)]
      rw [e] at h
      obtain ⟨i', it', h1, h2⟩ := rank_ex its i r h
      exact ⟨i', it', by omega, h2⟩
    | some it =>
      rw [nW_take_succ hi] at h
      by_cases hlt : r < nW (its.take i)
      · obtain ⟨i', it', h1, h2⟩ := rank_ex its i r hlt
        exact ⟨i', it', by omega, h2⟩
      · cases hw : it.w with
        | false => rw [hw] at h; simp at h; omega
        | true => rw [hw] at h; simp at h; exact ⟨i, it, by omega, hi, hw, by omega⟩
theorem rank_lt {its : List DI} {i j : Nat} {it : DI} (hi : its[i]? = some it) (hw : it.w = true) (h : i < j) : nW (its.take i) < nW (its.take j) := by
  have := nW_take_succ hi
  rw [hw] at this
  simp at this
  have := nW_take_le its (i + 1) j (by omega)
  omega
end Go.Vs
namespace Go.Vs
set_option linter.unusedVariables false
set_option linter.unusedSimpArgs false

def preds (o : Oper) : List Nat := (o.after.toList.filter fun e => Region.binds .any e).map (·.on)
def isW (its : List DI) (j : Nat) : Bool := match its[j]? with | some it => it.w | none => false
def ancOf (its : List DI) (j : Nat) : List Nat := match its[j]? with | some it => it.anc | none => []
def isRd : GI → Bool
  | ⟨_, .rd _, _⟩ => true
  | _ => false
def ck1 (its : List DI) (i : Nat) (o : Oper) (it : DI) : Bool :=
  (preds o).all (· < i) && it.anc.all (· < i) && it.anc.all (fun a => (preds o).contains a || (preds o).any fun j => (ancOf its j).contains a) &&
  (!it.w || (List.range i).all fun j => !isW its j || it.anc.contains j) &&
  (it.w || ((it.lo == 0 || it.anc.any fun j => isW its j && nW (its.take j) + 1 == it.lo) &&
    (decide (nW its ≤ it.hi) || (List.range its.length).any fun j => isW its j && nW (its.take j) == it.hi && (ancOf its j).contains i))) && (it.w || isRd it.gi)
def ckAll (its : List DI) : Nat → List Oper → List DI → Bool
  | _, [], [] => true
  | i, o :: ops, it :: l => ck1 its i o it && ckAll its (i + 1) ops l
  | _, _, _ => false
def trItems (P : Program) (N : Nat) (ops : Array Oper) : List Oper → List DI → Bool
  | [], [] => true
  | o :: l, it :: r => (match trOper P N ops o with | some gi => true | none => false) && trItems P N ops l r
  | _, _ => false
theorem ckAll_get {its : List DI} : ∀ {ops : List Oper} {l : List DI} {i : Nat}, ckAll its i ops l = true → ops.length = l.length ∧ ∀ (j : Nat) (it : DI), l[j]? = some it → ∃ o, ops[j]? = some o ∧ ck1 its (i + j) o it = true
  | [], [], i, _ => ⟨rfl, by simp⟩
  | o :: ops, it :: l, i, h => by
    simp only [ckAll, Bool.and_eq_true] at h
    obtain ⟨h1, h2⟩ := ckAll_get h.2
    refine ⟨by simp [h1], fun j it' hj => ?_⟩
    cases j with
    | zero => simp at hj; subst hj; exact ⟨o, rfl, h.1⟩
    | succ j =>
      obtain ⟨o', a, b⟩ := h2 j it' (by simpa using hj)
      exact ⟨o', by simpa using a, by rw [show i + (j + 1) = i + 1 + j by omega]; exact b⟩
  | [], _ :: _, _, h => by simp [ckAll] at h
  | _ :: _, [], _, h => by simp [ckAll] at h

/-- What the checks say. -/
structure Laid (P : Program) (N : Nat) (ops : Array Oper) (its : List DI) : Prop where
  len : ops.size = its.length
  op : ∀ (i : Nat) (it : DI), its[i]? = some it → ∃ o, ops[i]? = some o ∧ trOper P N ops o = some it.gi ∧ (∀ e ∈ o.after.toList, Region.binds .any e = true → e.on < i) ∧ (∀ a ∈ it.anc, a < i) ∧
    (∀ listed : Nat → Prop, (∀ e ∈ o.after.toList, Region.binds .any e = true → listed e.on) → (∀ j itj, its[j]? = some itj → listed j → ∀ a ∈ itj.anc, listed a) → ∀ a ∈ it.anc, listed a)
  wr : ∀ (i : Nat) (it : DI), its[i]? = some it → it.w = true → ∀ j itj, j < i → its[j]? = some itj → itj.w = true → j ∈ it.anc
  lo : ∀ (i : Nat) (it : DI), its[i]? = some it → it.w = false → it.lo = 0 ∨ ∃ j itj, j ∈ it.anc ∧ its[j]? = some itj ∧ itj.w = true ∧ nW (its.take j) + 1 = it.lo
  hi : ∀ (i : Nat) (it : DI), its[i]? = some it → it.w = false → nW its ≤ it.hi ∨ ∃ j itj, its[j]? = some itj ∧ itj.w = true ∧ nW (its.take j) = it.hi ∧ i ∈ itj.anc
  rd : ∀ (i : Nat) (it : DI), its[i]? = some it → it.w = false → ∃ r, it.gi.op = .rd r
  nodup : (its.filterMap (·.gi.dst)).Nodup
theorem isW_some {its : List DI} {j : Nat} (h : isW its j = true) : ∃ it, its[j]? = some it ∧ it.w = true := by
  unfold isW at h; split at h
  · rename_i it hh; exact ⟨it, hh, h⟩
  · simp at h
theorem laid_of {P : Program} {N : Nat} {ops : Array Oper} {its : List DI} (hck : ckAll its 0 ops.toList its = true) (htr : trOpers P N ops ops.toList = some (its.map (·.gi))) (hn : (its.filterMap (·.gi.dst)).Nodup) : Laid P N ops its := by
  obtain ⟨h1, h2⟩ := ckAll_get hck
  have htr' : ∀ (l : List Oper) (gs : List GI), trOpers P N ops l = some gs → ∀ (j : Nat) (gi : GI), gs[j]? = some gi → ∃ o : Oper, l[j]? = some o ∧ trOper P N ops o = some gi := by
    intro l
    induction l with
    | nil => intro gs h j gi hj; simp only [trOpers, Option.some.injEq] at h; subst h; simp at hj
    | cons o l ih =>
      intro gs h j gi hj
      simp only [trOpers, Option.bind_eq_bind, Option.bind_eq_some_iff, Option.some.injEq] at h
      obtain ⟨g, hg, gs', hgs, rfl⟩ := h
      cases j with
      | zero => simp at hj; subst hj; exact ⟨o, rfl, hg⟩
      | succ j => obtain ⟨o', a, b⟩ := ih gs' hgs j gi (by simpa using hj); exact ⟨o', by simpa using a, b⟩
  have hop : ∀ (i : Nat) (it : DI), its[i]? = some it → ∃ o, ops.toList[i]? = some o ∧ ops[i]? = some o ∧ trOper P N ops o = some it.gi ∧ ck1 its i o it = true := by
    intro i it hi
    obtain ⟨o, a, b⟩ := h2 i it hi
    obtain ⟨o', a', b'⟩ := htr' _ _ htr i it.gi (by rw [List.getElem?_map, hi]; rfl)
    rw [a] at a'
    simp only [Option.some.injEq] at a'; subst a'
    exact ⟨o, a, by rw [← Array.getElem?_toList]; exact a, b', by rw [Nat.zero_add] at b; exact b⟩
  refine ⟨by rw [← Array.length_toList]; exact h1, ?_, ?_, ?_, ?_, ?_, hn⟩
  · intro i it hi
    obtain ⟨o, _, a, b, c⟩ := hop i it hi
    simp only [ck1, Bool.and_eq_true] at c
    obtain ⟨⟨⟨⟨⟨c1, c2⟩, c3⟩, c4⟩, c5⟩, c6⟩ := c
    refine ⟨o, a, b, ?_, ?_, ?_⟩
    · intro e he hb
      have := List.all_eq_true.1 c1 e.on (List.mem_map_of_mem (List.mem_filter.2 ⟨he, hb⟩))
      simpa using this
    · intro x hx
      have := List.all_eq_true.1 c2 x hx
      simpa using this
    · intro listed hp hc x hx
      have hpre : ∀ j ∈ preds o, listed j := by
        intro j hj
        simp only [preds, List.mem_map, List.mem_filter] at hj
        obtain ⟨e, ⟨he, hb⟩, rfl⟩ := hj
        exact hp e he hb
      have := List.all_eq_true.1 c3 x hx
      simp only [Bool.or_eq_true, List.contains_iff_mem, List.any_eq_true] at this
      rcases this with k | ⟨j, hj, k⟩
      · exact hpre x k
      · unfold ancOf at k
        split at k
        · rename_i itj hitj; exact hc j itj hitj (hpre j hj) x k
        · simp at k
  · intro i it hi hw j itj hj hitj hwj
    obtain ⟨o, _, a, b, c⟩ := hop i it hi
    simp only [ck1, Bool.and_eq_true] at c
    obtain ⟨⟨⟨⟨⟨c1, c2⟩, c3⟩, c4⟩, c5⟩, c6⟩ := c
    rw [hw] at c4
    simp only [Bool.not_true, Bool.false_or] at c4
    have := List.all_eq_true.1 c4 j (by simpa using hj)
    have hjw : isW its j = true := by unfold isW; rw [hitj]; exact hwj
    rw [hjw] at this
    simpa using this
  · intro i it hi hw
    obtain ⟨o, _, a, b, c⟩ := hop i it hi
    simp only [ck1, Bool.and_eq_true] at c
    obtain ⟨⟨⟨⟨⟨c1, c2⟩, c3⟩, c4⟩, c5⟩, c6⟩ := c
    rw [hw] at c5
    simp only [Bool.false_or, Bool.and_eq_true, Bool.or_eq_true, beq_iff_eq, List.any_eq_true] at c5
    rcases c5.1 with k | ⟨j, hj, k1, k2⟩
    · exact .inl k
    · obtain ⟨itj, h3, h4⟩ := isW_some k1
      exact .inr ⟨j, itj, hj, h3, h4, k2⟩
  · intro i it hi hw
    obtain ⟨o, _, a, b, c⟩ := hop i it hi
    simp only [ck1, Bool.and_eq_true] at c
    obtain ⟨⟨⟨⟨⟨c1, c2⟩, c3⟩, c4⟩, c5⟩, c6⟩ := c
    rw [hw] at c5
    simp only [Bool.false_or, Bool.and_eq_true, Bool.or_eq_true, decide_eq_true_eq, List.any_eq_true, beq_iff_eq, List.contains_iff_mem] at c5
    rcases c5.2 with k | ⟨j, hj, ⟨k1, k2⟩, k3⟩
    · exact .inl k
    · obtain ⟨itj, h3, h4⟩ := isW_some k1
      refine .inr ⟨j, itj, h3, h4, k2, ?_⟩
      unfold ancOf at k3; rw [h3] at k3; exact k3
  · intro i it hi hw
    obtain ⟨o, _, a, b, c⟩ := hop i it hi
    simp only [ck1, Bool.and_eq_true] at c
    obtain ⟨⟨⟨⟨⟨c1, c2⟩, c3⟩, c4⟩, c5⟩, c6⟩ := c
    rw [hw, Bool.false_or] at c6
    cases hq : it.gi with
    | mk dst op gu =>
      rw [hq] at c6
      cases op with
      | rd r => exact ⟨r, rfl⟩
      | wr w => simp [isRd] at c6

theorem filterMap_inj : ∀ {l : List DI} {i j d : Nat}, (l.filterMap (·.gi.dst)).Nodup → ∀ (hi : i < l.length) (hj : j < l.length), i ≠ j → l[i].gi.dst = some d → l[j].gi.dst = some d → False
  | [], _, _, _, _, hi, _, _, _, _ => by simp at hi
  | x :: l, i, j, d, hn, hi, hj, hne, h1, h2 => by
    have hn' : (l.filterMap (·.gi.dst)).Nodup := by
      cases hx : x.gi.dst with
      | none => rw [List.filterMap_cons_none (by exact hx)] at hn; exact hn
      | some e => rw [List.filterMap_cons_some (by exact hx)] at hn; exact (List.nodup_cons.1 hn).2
    have mem : ∀ {k : Nat} (hk : k < l.length), l[k].gi.dst = some d → d ∈ l.filterMap (·.gi.dst) := fun hk e => List.mem_filterMap.2 ⟨_, List.getElem_mem hk, e⟩
    cases i with
    | zero =>
      cases j with
      | zero => exact hne rfl
      | succ j =>
        simp only [List.getElem_cons_zero, List.getElem_cons_succ] at h1 h2
        rw [List.filterMap_cons_some (by exact h1)] at hn
        exact (List.nodup_cons.1 hn).1 (mem _ h2)
    | succ i =>
      cases j with
      | zero =>
        simp only [List.getElem_cons_zero, List.getElem_cons_succ] at h1 h2
        rw [List.filterMap_cons_some (by exact h2)] at hn
        exact (List.nodup_cons.1 hn).1 (mem _ h1)
      | succ j =>
        simp only [List.getElem_cons_succ] at h1 h2
        exact filterMap_inj (l := l) hn' (by simpa using hi) (by simpa using hj) (by omega) h1 h2
/-- What writes nothing changes nothing. -/
theorem stepV_rd {P : Program} {gi : GI} {r : I} (hop : gi.op = .rd r) {S : St} {K : KW} (h : stepV P gi S K) : stepV P gi S fun x ks ro n => K x ks ro n ∧ ks = [] ∧ ro = S.roots ∧ n = S.next := by
  have key : evJ P S K gi.op → evJ P S (fun x ks ro n => K x ks ro n ∧ ks = [] ∧ ro = S.roots ∧ n = S.next) gi.op := by
    intro h
    rw [hop] at h ⊢
    obtain ⟨x, h1, h2⟩ := ev_ext (K := fun v => K v [] S.roots S.next) h
    exact h2 (fun v => K v [] S.roots S.next ∧ ([] : List (Nat × Path)) = [] ∧ S.roots = S.roots ∧ S.next = S.next) ⟨h1, rfl, rfl, rfl⟩
  unfold stepV at h ⊢
  cases hg : gi.guard with
  | none => simp only [hg] at h ⊢; exact key h
  | some gw =>
    obtain ⟨t, want⟩ := gw
    simp only [hg] at h ⊢
    split at h
    · rename_i b heq
      exact ⟨fun e => key (h.1 e), fun e => by simpa using h.2 e⟩
    · simpa using h
    · exact h.elim
theorem filter_lt {p p' : Nat → Bool} : ∀ {l : List Nat}, (∀ x ∈ l, p' x = true → p x = true) → (∃ i ∈ l, p i = true ∧ p' i = false) → (l.filter p').length < (l.filter p).length
  | [], _, h => by obtain ⟨i, h, _⟩ := h; simp at h
  | x :: l, hs, h => by
    have hle : (l.filter p').length ≤ (l.filter p).length := by
      clear h
      have hs' : ∀ x ∈ l, p' x = true → p x = true := fun y hy => hs y (by simp [hy])
      clear hs
      induction l with
      | nil => simp
      | cons y l ih =>
        have := ih fun z hz => hs' z (by simp [hz])
        simp only [List.filter_cons]
        cases h1 : p' y with
        | true => rw [hs' y (by simp) h1]; simpa using this
        | false => cases p y <;> simp <;> omega
    obtain ⟨i, hi, h1, h2⟩ := h
    simp only [List.filter_cons]
    rcases List.mem_cons.1 hi with rfl | hi
    · rw [h1, h2]; simp; omega
    · have := filter_lt (p := p) (p' := p') (l := l) (fun y hy => hs y (by simp [hy])) ⟨i, hi, h1, h2⟩
      cases h3 : p' x with
      | true => rw [hs x (by simp) h3]; simpa using this
      | false => cases p x <;> simp <;> omega

variable {P : Program} {N : Nat} {ops : Array Oper} {its : List DI} {w0 : World} {own0 : Nat → Nat → Prop} {pl0 : Pls} {fix : Nat} {E0 : List (Nat × V)} {R : List (Option Nat × V)} {M : List Mem} {Q : Exit → St → Prop}
theorem listed_set {l : Array Bool} {i j : Nat} (hi : i < l.size) : (l.setIfInBounds i true).getD j false = if j = i then true else l.getD j false := by
  rw [Array.getD_eq_getD_getElem?, Array.getD_eq_getD_getElem?]
  by_cases h : j = i
  · subst h; rw [Array.getElem?_setIfInBounds_self_of_lt hi]; simp
  · rw [Array.getElem?_setIfInBounds_ne (fun e => h e.symm)]; simp [h]
theorem draw_ok (hL : Laid P N ops its) (hD : Drawn P fix E0 its 0 [] R M) (h0 : ∀ d x, (some d, x) ∈ R → get E0 d = none) {mm1 : Mem} (hm1 : M[nW its]? = some mm1) (hQ : Q .normal ⟨envSel (fun _ => true) 0 R ++ E0, mm1.1, mm1.2, fix⟩) :
    ∀ (fuel : Nat) (listed : Array Bool) (k : Nat) (mm : Mem) (g : Lab) (pl : Pls) (a : Act) (w : World), listed.size = its.length → ((List.range its.length).filter fun i => !listed.getD i false).length ≤ fuel →
      (∀ j itj, its[j]? = some itj → listed.getD j false = true → ∀ b ∈ itj.anc, listed.getD b false = true) →
      (∀ j itj, its[j]? = some itj → itj.w = true → (listed.getD j false = true ↔ nW (its.take j) < k)) → k ≤ nW its → M[k]? = some mm →
      Rel N w0 own0 pl0 g pl ⟨envSel (fun j => listed.getD j false) 0 R ++ E0, mm.1, mm.2, fix⟩ a w →
      wpAny P .any ops (PQ N w0 own0 pl0 fix Q) fuel listed a w := by
  have hRn : (R.filterMap (·.1)).Nodup := by
    have : R.filterMap (·.1) = its.filterMap (·.gi.dst) := by
      have hl := hD.len
      have hd := hD.dst
      clear hm1 hQ h0 hL hD
      induction R generalizing its with
      | nil => cases its with
        | nil => rfl
        | cons => simp at hl
      | cons y R ih => cases its with
        | nil => simp at hl
        | cons it its =>
          have e := hd 0 it y rfl rfl
          have := ih (its := its) (by simpa using hl) fun j it y h1 h2 => hd (j + 1) it y (by simpa using h1) (by simpa using h2)
          cases hq : it.gi.dst with
          | none => rw [List.filterMap_cons_none (by rw [e, hq]), List.filterMap_cons_none (by exact hq), this]
          | some d => rw [List.filterMap_cons_some (by rw [e, hq]), List.filterMap_cons_some (by exact hq), this]
    rw [this]; exact hL.nodup
  have hready : ∀ (listed : Array Bool) (i : Nat), listed.size = its.length → i ∈ Region.ready .any ops listed → ∃ it o, its[i]? = some it ∧ ops[i]? = some o ∧ listed.getD i false = false ∧ ∀ e ∈ o.after.toList, Region.binds .any e = true → listed.getD e.on false = true := by
    intro listed i hs hi
    unfold Region.ready at hi
    simp only [List.mem_filter, List.mem_range, Bool.and_eq_true, Bool.not_eq_true'] at hi
    obtain ⟨h1, h2, h3⟩ := hi
    have hi2 : i < its.length := by rw [← hL.len]; exact h1
    refine ⟨its[i], ops[i], List.getElem?_eq_getElem hi2, Array.getElem?_eq_getElem h1, ?_, ?_⟩
    · rw [Array.getD_eq_getD_getElem?, Array.getElem?_eq_getElem (by omega)] at h2 ⊢
      exact h2
    · intro e he hb
      rw [Array.getElem?_eq_getElem h1] at h3
      simp only [Option.map_some, Option.getD_some, Array.all_eq_true_iff_forall_mem] at h3
      have := h3 e (by simpa using he)
      rw [hb] at this
      simpa using this
  have hdone : ∀ (listed : Array Bool), listed.size = its.length → Region.ready .any ops listed = [] → ∀ i, i < its.length → listed.getD i false = true := by
    intro listed hs hr i
    induction i using Nat.strongRecOn with
    | _ i ih =>
      intro hi
      obtain ⟨o, ho, _, hpre, _⟩ := hL.op i its[i] (List.getElem?_eq_getElem hi)
      cases hq : listed.getD i false with
      | true => rfl
      | false =>
        exfalso
        have : i ∈ Region.ready .any ops listed := by
          unfold Region.ready
          simp only [List.mem_filter, List.mem_range, Bool.and_eq_true, Bool.not_eq_true']
          refine ⟨by rw [hL.len]; exact hi, ?_, ?_⟩
          · rw [Array.getD_eq_getD_getElem?, Array.getElem?_eq_getElem (by omega)] at hq ⊢
            exact hq
          · rw [ho]
            simp only [Option.map_some, Option.getD_some, Array.all_eq_true_iff_forall_mem]
            intro e he
            cases hb : Region.binds .any e with
            | false => rfl
            | true =>
              have h1 := hpre e (by simpa using he) hb
              simp [ih e.on h1 (by omega)]
        rw [hr] at this
        simp at this
  have hfin : ∀ (listed : Array Bool) (k : Nat) (mm : Mem) (g : Lab) (pl : Pls) (a : Act) (w : World), listed.size = its.length → (∀ j itj, its[j]? = some itj → itj.w = true → (listed.getD j false = true ↔ nW (its.take j) < k)) → k ≤ nW its → M[k]? = some mm →
      Rel N w0 own0 pl0 g pl ⟨envSel (fun j => listed.getD j false) 0 R ++ E0, mm.1, mm.2, fix⟩ a w → Region.ready .any ops listed = [] → PQ N w0 own0 pl0 fix Q .normal a w := by
    intro listed k mm g pl a w hs hwk hk hmm hR hr
    have hall := hdone listed hs hr
    have hkk : k = nW its := by
      rcases Nat.lt_or_ge k (nW its) with h | h
      · exfalso
        obtain ⟨i', it', h1, h2, h3, h4⟩ := rank_ex its its.length k (by rw [List.take_length]; exact h)
        have := (hwk i' it' h2 h3).1 (hall i' h1)
        omega
      · omega
    subst hkk
    rw [hm1] at hmm
    simp only [Option.some.injEq] at hmm; subst hmm
    refine ⟨_, g, pl, hQ, rfl, hR.sub ?_⟩
    intro t y hy
    refine sel_of hRn h0 ?_
    rcases sel_get hy with ⟨j, h1, h2⟩ | h
    · refine .inl ⟨j, h1, ?_⟩
      have : j < R.length := (List.getElem?_eq_some_iff.1 h1).1
      rw [Nat.zero_add]
      exact hall j (by rw [← hD.len]; exact this)
    · exact .inr h
  intro fuel
  induction fuel with
  | zero =>
    intro listed k mm g pl a w hs hf hcl hwk hk hmm hR
    have hr : Region.ready .any ops listed = [] := by
      rw [List.eq_nil_iff_forall_not_mem]
      intro i hi
      obtain ⟨it, o, h1, h2, h3, h4⟩ := hready listed i hs hi
      have hi2 : i < its.length := (List.getElem?_eq_some_iff.1 h1).1
      have : i ∈ (List.range its.length).filter fun i => !listed.getD i false := List.mem_filter.2 ⟨List.mem_range.2 hi2, by rw [h3]; rfl⟩
      have h0 : ((List.range its.length).filter fun i => !listed.getD i false) = [] := List.eq_nil_of_length_eq_zero (by omega)
      rw [h0] at this
      simp at this
    exact ⟨hr, hfin listed k mm g pl a w hs hwk hk hmm hR hr⟩
  | succ fuel ih =>
    intro listed k mm g pl a w hs hf hcl hwk hk hmm hR
    refine ⟨fun hr => hfin listed k mm g pl a w hs hwk hk hmm hR hr, fun i hi => ?_⟩
    obtain ⟨it, o, h1, h2, h3, h4⟩ := hready listed i hs hi
    have hi2 : i < its.length := (List.getElem?_eq_some_iff.1 h1).1
    obtain ⟨o', ho', htr, hpre, hlt, hanc⟩ := hL.op i it h1
    rw [h2] at ho'
    simp only [Option.some.injEq] at ho'; subst ho'
    have hancL := hanc (fun j => listed.getD j false = true) h4 (fun j itj hj hl => hcl j itj hj hl)
    obtain ⟨y, hy⟩ : ∃ y, R[i]? = some y := ⟨_, List.getElem?_eq_getElem (by rw [hD.len]; exact hi2)⟩
    have hyd := hD.dst i it y h1 hy
    have hRE := hR.sub (env := envSel (fun j => it.anc.contains j) 0 R ++ E0) (by
      intro t z hz
      refine sel_of hRn h0 ?_
      rcases sel_get hz with ⟨j, e1, e2⟩ | h
      · exact .inl ⟨j, e1, hancL _ (by simpa using e2)⟩
      · exact .inr h)
    -- what comes next
    have next : ∀ (k' : Nat) (mm' : Mem) (ks : List (Nat × Path)) (v : Value) (w' : World) (g' : Lab) (pl' : Pls), KsO ks i R E0 → VR pl' mm'.2 y.2 v → Hp w0 own0 pl0 g' pl' mm'.1 mm'.2 mm'.2 fix w' → (∀ z u, CR pl mm.2 z u → CR pl' mm'.2 (killCs ks z) u) → M[k']? = some mm' → k' ≤ nW its →
        (∀ j itj, its[j]? = some itj → itj.w = true → ((listed.setIfInBounds i true).getD j false = true ↔ nW (its.take j) < k')) →
        wpAny P .any ops (PQ N w0 own0 pl0 fix Q) fuel (listed.setIfInBounds i true) (a.put it.gi.dst v) w' := by
      intro k' mm' ks v w' g' pl' hks hv hp hkk hmm' hk' hwk'
      have hkeep : ∀ (t : Nat) (z : V), get (envSel (fun j => listed.getD j false) 0 R ++ E0) t = some z → ((∃ j, j ≠ i ∧ R[j]? = some (some t, z)) ∨ get E0 t = some z) → get (killEnv ks (envSel (fun j => listed.getD j false) 0 R ++ E0)) t = some z := by
        intro t z hz hor
        rcases hks with rfl | ⟨g1, g2⟩
        · exact hz
        · have hzz : z.map (killCs ks) = z := by
            rcases hor with ⟨j, hne, hj⟩ | h
            · exact g1 j t z hj hne
            · exact g2 t z h
          rw [get_killEnv, hz, Option.map_some, hzz]
      refine ih (listed.setIfInBounds i true) k' mm' g' pl' _ w' (by simp [hs]) ?_ ?_ hwk' hk' hmm' ?_
      · have := filter_lt (p := fun j => !listed.getD j false) (p' := fun j => !(listed.setIfInBounds i true).getD j false) (l := List.range its.length) (by
          intro x _ hx
          rw [listed_set (by omega)] at hx
          split at hx
          · simp at hx
          · exact hx) ⟨i, List.mem_range.2 hi2, by rw [h3]; rfl, by rw [listed_set (by omega)]; simp⟩
        omega
      · intro j itj hj hl b hb
        rw [listed_set (by omega)] at hl ⊢
        split
        · rfl
        · split at hl
          · rename_i e; subst e
            rw [h1] at hj
            simp only [Option.some.injEq] at hj; subst hj
            exact hancL b hb
          · exact hcl j itj hj hl b hb
      · have hput := hR.put (ks := ks) (trOper_dst htr) hp hkk hv
        refine hput.sub ?_
        intro t z hz
        show get (setEnv it.gi.dst y.2 (killEnv ks (envSel (fun j => listed.getD j false) 0 R ++ E0))) t = some z
        rcases sel_get hz with ⟨j, e1, e2⟩ | h
        · rw [Nat.zero_add, listed_set (by omega)] at e2
          by_cases hji : j = i
          · subst hji
            rw [hy] at e1
            simp only [Option.some.injEq] at e1; subst e1
            simp only at hyd
            rw [← hyd]
            simp only [setEnv]
            rw [get_put, if_pos rfl]
          · rw [if_neg hji] at e2
            have hget : get (killEnv ks (envSel (fun j => listed.getD j false) 0 R ++ E0)) t = some z := hkeep t z (sel_of hRn h0 (.inl ⟨j, e1, by rw [Nat.zero_add]; exact e2⟩)) (.inl ⟨j, hji, e1⟩)
            cases hq : it.gi.dst with
            | none => exact hget
            | some d =>
              simp only [setEnv]
              rw [get_put]
              split
              · rename_i e; subst e
                exfalso
                -- two operations cannot yield the same
                have u1 : its[i]?.bind (·.gi.dst) = some d := by rw [h1]; exact hq
                have hjl : j < its.length := by rw [← hD.len]; exact (List.getElem?_eq_some_iff.1 e1).1
                have u2 := hD.dst j its[j] _ (List.getElem?_eq_getElem hjl) e1
                exact filterMap_inj hL.nodup hi2 hjl (fun e => hji e.symm) (by have := List.getElem?_eq_getElem hi2; rw [h1] at this; simp only [Option.some.injEq] at this; rw [← this]; exact hq) (by rw [← u2])
              · exact hget
        · cases hq : it.gi.dst with
          | none => exact hkeep t z (sel_of hRn h0 (.inr h)) (.inr h)
          | some d =>
            simp only [setEnv]
            rw [get_put]
            split
            · rename_i e; subst e
              have := h0 d y.2 (List.mem_of_getElem? (i := i) (by rw [hy]; congr 1; rw [Prod.ext_iff]; exact ⟨by rw [hyd, hq], rfl⟩))
              rw [this] at h; simp at h
            · exact hkeep t z (sel_of hRn h0 (.inr h)) (.inr h)
    cases hw : it.w with
    | false =>
      have hlo : it.lo ≤ k := by
        rcases hL.lo i it h1 hw with h | ⟨j, itj, ha, hj, hwj, e⟩
        · omega
        · have := (hwk j itj hj hwj).1 (hancL j ha); omega
      have hhi : k ≤ it.hi := by
        rcases hL.hi i it h1 hw with h | ⟨j, itj, hj, hwj, e, hm⟩
        · omega
        · rcases Nat.lt_or_ge it.hi k with hlt' | hge
          · exfalso
            have := (hwk j itj hj hwj).2 (by omega)
            have := hcl j itj hj this i hm
            rw [h3] at this; simp at this
          · exact hge
      have hst := hD.rd i it y h1 hy hw k mm hlo hhi hmm
      rw [List.nil_append] at hst
      obtain ⟨r, hop⟩ := hL.rd i it h1 hw
      refine stepV_ok hRE h2 htr (stepV_rd hop hst) ?_
      rintro v w' x ks roots nx g' pl' hv hp hkk ⟨rfl, rfl, rfl, rfl⟩
      refine next k mm [] v w' g' pl' (.inl rfl) hv hp hkk hmm hk ?_
      intro j itj hj hwj
      rw [listed_set (by omega)]
      split
      · rename_i e; subst e
        rw [h1] at hj
        simp only [Option.some.injEq] at hj; subst hj
        rw [hw] at hwj; simp at hwj
      · exact hwk j itj hj hwj
    | true =>
      have hck : nW (its.take i) = k := by
        have hge : k ≤ nW (its.take i) := by
          rcases Nat.lt_or_ge (nW (its.take i)) k with h | h
          · have := (hwk i it h1 hw).2 h; rw [h3] at this; simp at this
          · exact h
        rcases Nat.lt_or_ge k (nW (its.take i)) with h | h
        · exfalso
          obtain ⟨i', it', e1, e2, e3, e4⟩ := rank_ex its i k h
          have := (hwk i' it' e2 e3).1 (hancL i' (hL.wr i it h1 hw i' it' e1 e2 e3))
          omega
        · omega
      have hk1 : k + 1 ≤ nW its := by
        have e1 := nW_take_succ h1
        rw [hw] at e1
        simp at e1
        have := nW_take_all its (i + 1)
        omega
      obtain ⟨mm', hmm'⟩ : ∃ mm', M[k + 1]? = some mm' := ⟨_, List.getElem?_eq_getElem (by rw [hD.mlen]; omega)⟩
      have hst := hD.wr i it y h1 hy hw mm mm' (by rw [Nat.zero_add, hck]; exact hmm) (by rw [Nat.zero_add, hck]; exact hmm')
      rw [List.nil_append] at hst
      refine stepV_ok hRE h2 htr hst ?_
      rintro v w' x ks roots nx g' pl' hv hp hkk ⟨rfl, hks, rfl, rfl⟩
      refine next (k + 1) mm' ks v w' g' pl' (by simpa using hks) hv hp hkk hmm' hk1 ?_
      intro j itj hj hwj
      rw [listed_set (by omega)]
      split
      · rename_i e; subst e
        simp only [true_iff]
        omega
      · rename_i hji
        rw [hwk j itj hj hwj]
        have hne : nW (its.take j) ≠ k := by
          intro e
          rcases Nat.lt_or_ge i j with h | h
          · have := rank_lt h1 hw h; omega
          · have := rank_lt hj hwj (show j < i by omega); omega
        omega

/-- A region whose order is drawn. -/
theorem vw_draw {S : St} {id : Nat} (hm : P.follows .mixedOrders = true) (hck : ckAll its 0 ops.toList its = true) (htr : trOpers P N ops ops.toList = some (its.map (·.gi))) (hn : (its.filterMap (·.gi.dst)).Nodup)
    (h : drawGo P S.fix (S.env.filter fun x => !(its.filterMap (·.gi.dst)).contains x.1) its [] [(S.roots, S.next)] [] (Q .normal)) : Vw P N (.region id ops true) S Q := fun w0 own0 pl0 g pl a w hR => by
  have hL := laid_of hck htr hn
  obtain ⟨R, ms, hD, _, mm1, hm1, hK⟩ := drawGo_ext its [] (S.roots, S.next) [] [] (fun j it hj b hb => by
    obtain ⟨_, _, _, _, hlt, _⟩ := hL.op j it hj
    have := hlt b hb
    simp only [List.length_nil]; omega) h
  simp only [List.length_nil, Nat.zero_add, List.nil_append, List.reverse_nil] at hD hm1 hK
  have hget : ∀ (env : List (Nat × V)) (q : Nat → Bool) (t : Nat), get (env.filter fun x => q x.1) t = if q t then get env t else none := by
    intro env q t
    induction env with
    | nil => simp [get]
    | cons y env ih =>
      obtain ⟨d, x⟩ := y
      simp only [List.filter_cons]
      cases hq : q d with
      | true =>
        simp only [if_true, get]
        split
        · rename_i e; subst e; simp [hq]
        · exact ih
      | false =>
        simp only [Bool.false_eq_true, if_false, get]
        rw [ih]
        split
        · rename_i e
          split
          · rename_i e2; subst e2; rw [hq] at e; simp at e
          · rfl
        · rfl
  have h0 : ∀ d x, (some d, x) ∈ R → get (S.env.filter fun x => !(its.filterMap (·.gi.dst)).contains x.1) d = none := by
    intro d x hx
    rw [hget S.env (fun t => !(its.filterMap (·.gi.dst)).contains t) d]
    obtain ⟨j, hj⟩ := List.getElem?_of_mem hx
    have hjl : j < its.length := by rw [← hD.len]; exact (List.getElem?_eq_some_iff.1 hj).1
    have e := hD.dst j its[j] _ (List.getElem?_eq_getElem hjl) hj
    have hmem : d ∈ its.filterMap (·.gi.dst) := List.mem_filterMap.2 ⟨_, List.getElem_mem hjl, e.symm⟩
    rw [if_neg (by simp only [Bool.not_eq_true, Bool.not_eq_false']; exact List.contains_iff_mem.2 hmem)]
  refine wp_region_any hm ?_
  have hlen := hL.len
  refine draw_ok hL hD h0 hm1 hK ops.size (Array.replicate ops.size false) 0 (S.roots, S.next) g pl a w.drew (by simp [hlen]) ?_ ?_ ?_ (Nat.zero_le _) rfl ?_
  · rw [hlen]
    exact Nat.le_trans (List.length_filter_le _ _) (by simp)
  · intro j itj hj hl
    exfalso
    rw [Array.getD_eq_getD_getElem?] at hl
    simp only [Array.getElem?_replicate] at hl
    split at hl <;> simp at hl
  · intro j itj hj hwj
    refine ⟨fun hl => ?_, fun h => by omega⟩
    exfalso
    rw [Array.getD_eq_getD_getElem?] at hl
    simp only [Array.getElem?_replicate] at hl
    split at hl <;> simp at hl
  · have hRd : Rel N w0 own0 pl0 g pl S a w.drew := ⟨hR.hp.drew, hR.size, hR.defers, hR.env⟩
    refine hRd.sub ?_
    intro t y hy
    rcases sel_get hy with ⟨j, _, hl⟩ | h
    · exfalso
      rw [Array.getD_eq_getD_getElem?] at hl
      simp only [Array.getElem?_replicate] at hl
      split at hl <;> simp at hl
    · rw [hget S.env (fun t => !(its.filterMap (·.gi.dst)).contains t) t] at h
      split at h
      · exact h
      · simp at h
end Go.Vs
namespace Go.Vs
set_option linter.unusedVariables false
set_option linter.unusedSimpArgs false

/-! ## a function's way in and out -/
def env0 : Nat → List V → List (Nat × V)
  | _, [] => []
  | i, v :: l => (i, v) :: env0 (i + 1) l
theorem env0_get : ∀ {l : List V} {i t : Nat} {x : V}, get (env0 i l) t = some x → i ≤ t ∧ l[t - i]? = some x
  | [], _, _, _, h => by simp [env0, get] at h
  | v :: l, i, t, x, h => by
    simp only [env0, get] at h
    split at h
    · rename_i e; subst e; simp only [Option.some.injEq] at h; subst h; exact ⟨Nat.le_refl _, by simp⟩
    · obtain ⟨h1, h2⟩ := env0_get h
      refine ⟨by omega, ?_⟩
      rw [show t - i = (t - (i + 1)) + 1 by omega, List.getElem?_cons_succ]
      exact h2
def trRes (P : Program) : List ResultVar → Option (List I)
  | [] => some []
  | .tmp t :: l => (trRes P l).map (.mv (.t t) :: ·)
  | .cell a t :: l => do some (.load (← partSize P t) (.t a) :: (← trRes P l))
def resK (S : St) : List I → (List A → Prop) → Prop
  | [], K => K []
  | i :: l, K => ev S (fun v => match v with | .a x => resK S l fun xs => K (x :: xs) | _ => False) i
theorem compsV_resV (xs : List A) : compsV (resV xs) = some xs := by
  match xs with
  | [] => rfl
  | [x] => rfl
  | x :: y :: l => rfl

variable {P : Program} {N : Nat} {w0 : World} {own0 : Nat → Nat → Prop} {pl0 : Pls} {g : Lab} {pl : Pls} {S : St} {a : Act} {w : World}
def resF (tmps : Array Value) : ResultVar → Sem Value
  | .tmp t => pure (tmps.getD t undef)
  | .cell a t => do loadVar t (← asAddr (tmps.getD a undef))
theorem results_eq (fn : Func) (tmps : Array Value) : results fn tmps = (do
    let vs ← fn.results.mapM (resF tmps)
    pure (if h : vs.size = 1 then vs[0] else .tuple vs)) := by
  unfold results
  congr 1
theorem mapM_ok {f : ResultVar → Sem Value} {x : ResultVar} {l : List ResultVar} {v : Value} {vs : List Value} (h1 : (f x).run P w = .ok v w) (h2 : (l.mapM f).run P w = .ok vs w) : ((x :: l).mapM f).run P w = .ok (v :: vs) w := by
  rw [List.mapM_cons]
  simp [h1, h2]
theorem res_run (hR : Rel N w0 own0 pl0 g pl S a w) : ∀ (l : List ResultVar) (is : List I) (K : List A → Prop), trRes P l = some is → resK S is K →
    ∃ vs xs, (l.mapM (resF a.tmps)).run P w = .ok vs w ∧ All2 (AR pl S.next) xs vs ∧ K xs
  | [], is, K, ht, h => by
    simp only [trRes, Option.some.injEq] at ht; subst ht
    exact ⟨[], [], by simp, trivial, h⟩
  | .tmp t :: l, is, K, ht, h => by
    simp only [trRes, Option.map_eq_some_iff] at ht
    obtain ⟨is', ht', rfl⟩ := ht
    simp only [resK, ev] at h
    cases hx : S.opd (.t t) with
    | a x =>
      rw [hx] at h
      simp only at h
      obtain ⟨vs, xs, h1, h2, h3⟩ := res_run hR l is' _ ht' h
      have hv := opd_ok hR (P := P) (ty := 0) (x := .tmp t) (y := .t t) rfl
      rw [hx] at hv
      exact ⟨a.tmps.getD t undef :: vs, x :: xs, mapM_ok rfl h1, ⟨hv, h2⟩, h3⟩
    | un => rw [hx] at h; exact h.elim
    | tp xs => rw [hx] at h; exact h.elim
    | fn f cs => rw [hx] at h; exact h.elim
    | sb r n => rw [hx] at h; exact h.elim
  | .cell x t :: l, is, K, ht, h => by
    simp only [trRes, Option.bind_eq_bind, Option.bind_eq_some_iff, Option.some.injEq] at ht
    obtain ⟨n, hn, is', ht', rfl⟩ := ht
    simp only [resK] at h
    obtain ⟨v, y, hr, hy, hK⟩ := ev_ok hR (P := P) (o := ⟨none, .load t (.tmp x), 0, "", #[], none⟩) (i := .load n (.t x)) (by simp [trR, hn, trO]) h
    cases y with
    | a y =>
      simp only at hK
      obtain ⟨vs, xs, h1, h2, h3⟩ := res_run hR l is' _ ht' hK
      refine ⟨v :: vs, y :: xs, mapM_ok ?_ h1, ⟨hy, h2⟩, h3⟩
      have hr1 : (do pure (.value (← Instr.loadAt t (a.tmps.getD x undef))) : Sem Go.Next).run P w = .ok (.value v) w := hr
      have hptr : ∃ ad, a.tmps.getD x undef = .pointer (some ad) := by
        have hv := opd_ok hR (P := P) (ty := 0) (x := .tmp x) (y := .t x) rfl
        have hv' : VR pl S.next (S.opd (.t x)) (a.tmps.getD x undef) := hv
        cases n with
        | none =>
          simp only [ev] at h
          split at h
          · rename_i he; rw [he] at hv'; exact ⟨_, hv'.2.2⟩
          · rename_i he; rw [he] at hv'; exact ⟨_, hv'.2⟩
          · exact h.elim
        | some m =>
          simp only [ev] at h
          split at h
          · rename_i he; rw [he] at hv'; exact ⟨_, hv'.2.2⟩
          · rename_i he; rw [he] at hv'; exact ⟨_, hv'.2⟩
          · exact h.elim
      obtain ⟨ad, had⟩ := hptr
      rw [had] at hr1
      show (do loadVar t (← asAddr (a.tmps.getD x undef)) : Sem Value).run P w = .ok v w
      rw [had]
      simp only [Instr.loadAt, Instr.sureAddr, asAddr, Sem.run_bind, Sem.run_pure] at hr1 ⊢
      cases hl : (loadVar t ad).run P w with
      | ok u w' =>
        simp [hl] at hr1 ⊢
        exact hr1
      | halt e w' => simp [hl] at hr1
    | un => exact hK.elim
    | tp xs => exact hK.elim
    | fn f cs => exact hK.elim
    | sb r n => exact hK.elim
/-- A function, its code being walked. -/
theorem runs_of_vw {f : FuncId} {fn : Func} {c : Code} {as : List Arg} {out : Out} {is : List I} (hf : P.funcs[f]? = some fn) (hb : fn.body = some c) (hi : trRes P fn.results.toList = some is) (hn : as.length ≤ fn.ntmps)
    (h : Vw P fn.ntmps c ⟨env0 0 (inAs as).1, (inAs as).2.1, (inAs as).2.2, fixN as⟩ fun e S' => match e with
      | .ret | .normal => resK S' is fun xs => Leaves as out S'.roots (resV xs)
      | _ => False) : Runs P f as out := by
  intro w own g pl vs hp hv
  have hlen : ∀ (as : List Arg) (cs : List C) (b : Nat), (inV as cs b).length = as.length := by
    intro as
    induction as with
    | nil => intro cs b; rfl
    | cons x as ih => intro cs b; cases x with
      | val ag l => cases ag <;> simp [inV, ih]
      | ptr l => simp [inV, ih]
  have hvl : vs.length = as.length := by rw [← hv.length]; exact hlen _ _ _
  refine calls_of_wp hf hb ?_
  refine wp_mono (h w own pl g pl _ w ⟨hp, ?_, rfl, ?_⟩) ?_
  · simp; omega
  · intro t x hx
    obtain ⟨_, h1⟩ := env0_get hx
    rw [Nat.sub_zero] at h1
    obtain ⟨v, h2, h3⟩ := hv.get t x h1
    have ht : t < vs.length := (List.getElem?_eq_some_iff.1 h2).1
    have : (vs.toArray ++ Array.replicate (fn.ntmps - vs.toArray.size) undef).getD t undef = v := by
      rw [Array.getD_eq_getD_getElem?, Array.getElem?_append_left (by simpa using ht)]
      simp [h2]
    rw [this]
    exact h3
  · rintro e a' w' ⟨S', g', pl', q, hfx, hR⟩
    have fin : resK S' is (fun xs => Leaves as out S'.roots (resV xs)) → a'.defers = [] ∧ ∃ v, (results fn a'.tmps).run P w' = .ok v w' ∧ ∃ rv g' pl' roots nx res, Ending.returned v = .returned rv ∧ Hp w own pl g' pl' roots nx nx (fixN as) w' ∧ VR pl' nx res rv ∧ Leaves as out roots res := by
      intro hk
      obtain ⟨us, xs, h1, h2, h3⟩ := res_run hR _ _ _ hi hk
      have hp' := hR.hp
      rw [hfx] at hp'
      refine ⟨hR.defers, if h : us.toArray.size = 1 then us.toArray[0] else .tuple us.toArray, ?_, _, g', pl', S'.roots, S'.next, resV xs, rfl, hp', ?_, h3⟩
      · rw [results_eq]
        rw [Array.mapM_eq_mapM_toList]
        simp [h1]
      · match xs, us, h2 with
        | [], [], _ => exact ⟨[], rfl, trivial⟩
        | [x], [u], h2 => exact h2.1
        | x :: y :: l, u :: u' :: us, h2 => exact ⟨u :: u' :: us, by simp, h2⟩
        | [_], _ :: _ :: _, h2 => exact h2.2.elim
        | _ :: _ :: _, [_], h2 => exact h2.2.elim
    cases e with
    | normal => exact fin q
    | ret => exact fin q
    | exit id => exact q.elim
    | goto l => exact q.elim
    | panic ch => exact q.elim
    | outgrown => exact q.elim
end Go.Vs
namespace Go.Vs
set_option linter.unusedVariables false
set_option linter.unusedSimpArgs false

/-! ## code, its operations translated -/
inductive Stm where
  | reg (gis : List GI)
  | drw (its : List DI)
  | seq (x y : Stm)
  | cond (c : Opd) (x y : Stm)
  | block (id : Nat) (x : Stm)
  | loop (x : Stm)
  | exit (id : Nat)
  | ret
  | skip
  deriving Inhabited
def nub : List Nat → List Nat
  | [] => []
  | x :: l => let r := nub l; if r.contains x then r else x :: r
def mkAncs : List Oper → List (List Nat) → List (List Nat)
  | [], acc => acc
  | o :: l, acc => mkAncs l (acc ++ [nub (preds o ++ (preds o).flatMap fun j => acc.getD j [])])
def cntW (ws : List Bool) : Nat → Nat
  | 0 => 0
  | n + 1 => (if ws.getD n false then 1 else 0) + cntW ws n
def hiOf (ws : List Bool) (ancs : List (List Nat)) (i : Nat) : Nat → List Nat → Nat
  | m, [] => m
  | m, j :: l => if ws.getD j false && (ancs.getD j []).contains i then cntW ws j else hiOf ws ancs i m l
def mkIts (ws : List Bool) (ancs : List (List Nat)) : Nat → List GI → List DI
  | _, [] => []
  | i, g :: l => ⟨g, ancs.getD i [], ws.getD i false, if ws.getD i false then 0 else ((ancs.getD i []).filter fun j => ws.getD j false).length, if ws.getD i false then 0 else hiOf ws ancs i (cntW ws ws.length) (List.range ws.length)⟩ :: mkIts ws ancs (i + 1) l
def trDraw (P : Program) (N : Nat) (ops : Array Oper) : Option (List DI) := do
  let gis ← trOpers P N ops ops.toList
  let its := mkIts (gis.map fun g => !isRd g) (mkAncs ops.toList []) 0 gis
  if ckAll its 0 ops.toList its && decide ((its.filterMap (·.gi.dst)).Nodup) then some its else none
theorem mkIts_gi (ws : List Bool) (ancs : List (List Nat)) : ∀ (gis : List GI) (i : Nat), (mkIts ws ancs i gis).map (·.gi) = gis
  | [], i => rfl
  | g :: l, i => by simp only [mkIts, List.map_cons, mkIts_gi ws ancs l (i + 1)]
def trC (P : Program) (N : Nat) : Code → Option Stm
  | .skip => some .skip
  | .label _ => some .skip
  | .region _ ops false => (trOpers P N ops ops.toList).map .reg
  | .region _ ops true => (trDraw P N ops).map .drw
  | .seq a b => do some (.seq (← trC P N a) (← trC P N b))
  | .cond c a b => do some (.cond (← trO P 0 c) (← trC P N a) (← trC P N b))
  | .block id a => (trC P N a).map (.block id)
  | .loop a => (trC P N a).map .loop
  | .exit id => some (.exit id)
  | .ret => some .ret
  | _ => none
def Sw (P : Program) (N : Nat) (s : Stm) (S : St) (Q : Exit → St → Prop) : Prop := ∀ c, trC P N c = some s → Vw P N c S Q

variable {P : Program} {N : Nat} {S : St} {Q : Exit → St → Prop}
theorem sw_skip (h : Q .normal S) : Sw P N .skip S Q := fun c hc => by
  cases c with
  | skip => exact vw_skip h
  | label l => exact fun _ _ _ g pl _ _ hR => wp_label ⟨S, g, pl, h, rfl, hR⟩
  | region id ops d => cases d <;> simp [trC] at hc
  | seq a b => simp [trC, Option.bind_eq_bind, Option.bind_eq_some_iff] at hc
  | cond c a b => simp [trC, Option.bind_eq_bind, Option.bind_eq_some_iff] at hc
  | _ => simp [trC] at hc
theorem sw_ret (h : Q .ret S) : Sw P N .ret S Q := fun c hc => by
  cases c with
  | ret => exact vw_ret h
  | region id ops d => cases d <;> simp [trC] at hc
  | seq a b => simp [trC, Option.bind_eq_bind, Option.bind_eq_some_iff] at hc
  | cond c a b => simp [trC, Option.bind_eq_bind, Option.bind_eq_some_iff] at hc
  | _ => simp [trC] at hc
theorem sw_exit {id : Nat} (h : Q (.exit id) S) : Sw P N (.exit id) S Q := fun c hc => by
  cases c with
  | exit i => simp [trC] at hc; subst hc; exact vw_exit h
  | region id ops d => cases d <;> simp [trC] at hc
  | seq a b => simp [trC, Option.bind_eq_bind, Option.bind_eq_some_iff] at hc
  | cond c a b => simp [trC, Option.bind_eq_bind, Option.bind_eq_some_iff] at hc
  | _ => simp [trC] at hc
theorem sw_seq {x y : Stm} (h : Sw P N x S (thenQ (fun S' => Sw P N y S' Q) Q)) : Sw P N (.seq x y) S Q := fun c hc => by
  cases c with
  | seq a b =>
    simp only [trC, Option.bind_eq_bind, Option.bind_eq_some_iff, Option.some.injEq, Stm.seq.injEq] at hc
    obtain ⟨x', hx, y', hy, rfl, rfl⟩ := hc
    refine vw_seq (vw_mono (h a hx) ?_)
    intro e S' q
    cases e <;> first | exact q b hy | exact q
  | region id ops d => cases d <;> simp [trC] at hc
  | cond c a b => simp [trC, Option.bind_eq_bind, Option.bind_eq_some_iff] at hc
  | _ => simp [trC] at hc
theorem sw_cond {o : Opd} {x y : Stm} {b : Bool} (hb : tv (S.opd o) = some b) (ht : b = true → Sw P N x S Q) (hf : b = false → Sw P N y S Q) : Sw P N (.cond o x y) S Q := fun c hc => by
  cases c with
  | cond c a d =>
    simp only [trC, Option.bind_eq_bind, Option.bind_eq_some_iff, Option.some.injEq, Stm.cond.injEq] at hc
    obtain ⟨o', ho, x', hx, y', hy, rfl, rfl, rfl⟩ := hc
    exact vw_cond ho hb (fun h => ht h a hx) fun h => hf h d hy
  | region id ops d => cases d <;> simp [trC] at hc
  | seq a b => simp [trC, Option.bind_eq_bind, Option.bind_eq_some_iff] at hc
  | _ => simp [trC] at hc
theorem sw_block {id : Nat} {x : Stm} (h : Sw P N x S (blockQ id Q)) : Sw P N (.block id x) S Q := fun c hc => by
  cases c with
  | block i a =>
    simp only [trC, Option.map_eq_some_iff, Stm.block.injEq] at hc
    obtain ⟨x', hx, rfl, rfl⟩ := hc
    exact vw_block (h a hx)
  | region id ops d => cases d <;> simp [trC] at hc
  | seq a b => simp [trC, Option.bind_eq_bind, Option.bind_eq_some_iff] at hc
  | cond c a b => simp [trC, Option.bind_eq_bind, Option.bind_eq_some_iff] at hc
  | _ => simp [trC] at hc
theorem sw_loop {x : Stm} (I : Nat → St → Prop) (n : Nat) (h0 : ∃ T, I n T ∧ Le S T) (hr : ∀ k T, T.fix = S.fix → I k T → Sw P N x T (thenQ (fun S' => ∃ k' T', k' < k ∧ I k' T' ∧ Le S' T') Q)) : Sw P N (.loop x) S Q := fun c hc => by
  cases c with
  | loop a =>
    simp only [trC, Option.map_eq_some_iff, Stm.loop.injEq] at hc
    obtain ⟨x', hx, rfl⟩ := hc
    exact vw_loop I n h0 fun k T hf hI => hr k T hf hI a hx
  | region id ops d => cases d <;> simp [trC] at hc
  | seq a b => simp [trC, Option.bind_eq_bind, Option.bind_eq_some_iff] at hc
  | cond c a b => simp [trC, Option.bind_eq_bind, Option.bind_eq_some_iff] at hc
  | _ => simp [trC] at hc
theorem sw_reg {gis : List GI} (h : runOs P gis S (Q .normal)) : Sw P N (.reg gis) S Q := fun c hc => by
  cases c with
  | region id ops d =>
    cases d with
    | false =>
      simp only [trC, Option.map_eq_some_iff, Stm.reg.injEq] at hc
      obtain ⟨gs, hg, rfl⟩ := hc
      exact vw_region hg h
    | true => simp [trC] at hc
  | seq a b => simp [trC, Option.bind_eq_bind, Option.bind_eq_some_iff] at hc
  | cond c a b => simp [trC, Option.bind_eq_bind, Option.bind_eq_some_iff] at hc
  | _ => simp [trC] at hc
theorem sw_drw {its : List DI} (hm : P.follows .mixedOrders = true) (h : drawGo P S.fix (S.env.filter fun x => !(its.filterMap (·.gi.dst)).contains x.1) its [] [(S.roots, S.next)] [] (Q .normal)) : Sw P N (.drw its) S Q := fun c hc => by
  cases c with
  | region id ops d =>
    cases d with
    | false => simp [trC] at hc
    | true =>
      simp only [trC, Option.map_eq_some_iff, Stm.drw.injEq] at hc
      obtain ⟨gs, hg, rfl⟩ := hc
      simp only [trDraw, Option.bind_eq_bind, Option.bind_eq_some_iff] at hg
      obtain ⟨gis, hgis, hg⟩ := hg
      split at hg
      · rename_i hck
        simp only [Option.some.injEq] at hg
        simp only [Bool.and_eq_true, decide_eq_true_eq] at hck
        subst hg
        exact vw_draw hm hck.1 (by rw [mkIts_gi]; exact hgis) hck.2 h
      · simp at hg
  | seq a b => simp [trC, Option.bind_eq_bind, Option.bind_eq_some_iff] at hc
  | cond c a b => simp [trC, Option.bind_eq_bind, Option.bind_eq_some_iff] at hc
  | _ => simp [trC] at hc
theorem sw_mono {s : Stm} {Q' : Exit → St → Prop} (h : Sw P N s S Q) (hq : ∀ e S', Q e S' → Q' e S') : Sw P N s S Q' := fun c hc => vw_mono (h c hc) hq
theorem sw_le {s : Stm} {T : St} (hl : Le S T) (h : Sw P N s T Q) : Sw P N s S Q := fun c hc => vw_le hl (h c hc)
theorem runs_of_sw {f : FuncId} {fn : Func} {c : Code} {s : Stm} {as : List Arg} {out : Out} {is : List I} (hf : P.funcs[f]? = some fn) (hb : fn.body = some c) (hs : trC P fn.ntmps c = some s) (hi : trRes P fn.results.toList = some is) (hn : as.length ≤ fn.ntmps)
    (h : Sw P fn.ntmps s ⟨env0 0 (inAs as).1, (inAs as).2.1, (inAs as).2.2, fixN as⟩ fun e S' => match e with
      | .ret | .normal => resK S' is fun xs => Leaves as out S'.roots (resV xs)
      | _ => False) : Runs P f as out := runs_of_vw hf hb hi hn (h c hs)
end Go.Vs
namespace Go.Vs
set_option linter.unusedVariables false
theorem body_of {P : Program} {N : Nat} {b : Option Code} {s : Stm} (h : (b.bind (trC P N)) = some s) : ∃ c, b = some c ∧ trC P N c = some s := by
  cases b with
  | none => simp at h
  | some c => exact ⟨c, rfl, h⟩
/-- Bytes as they lie. -/
def bD (bs : List UInt8) : List (List D) := bs.map fun b => [.lf (.int .u8 b.toNat)]
@[simp] theorem bD_len (bs : List UInt8) : (bD bs).length = bs.length := by simp [bD]
theorem bD_get {bs : List UInt8} {i : Nat} (h : i < bs.length) : (bD bs)[i]? = some [.lf (.int .u8 bs[i].toNat)] := by
  simp [bD, h]

variable {P : Program}
/-- One operation; what comes next stands behind a variable. -/
theorem os_k {g : GI} {l : List GI} {S : St} {K : St → Prop} (h : ∀ K' : St → Prop, (∀ S', runOs P l S' K → K' S') → stepO P g S K') : runOs P (g :: l) S K := h _ fun _ h => h
/-- One operation that writes nothing, in a region that is drawn. -/
theorem dr_rd {fix : Nat} {E0 : List (Nat × V)} {gi : GI} {anc : List Nat} {lo hi : Nat} {l : List DI} {D : List (Option Nat × V)} {m : Mem} {pend : List Pend} {K : St → Prop}
    (h : ∀ K' : V → Prop, (∀ x, drawGo P fix E0 l (D ++ [(gi.dst, x)]) [m] (if 0 < hi then ⟨gi, envSel (fun j => anc.contains j) 0 D ++ E0, x, hi⟩ :: pend else pend) K → K' x) → stepV P gi ⟨envSel (fun j => anc.contains j) 0 D ++ E0, m.1, m.2, fix⟩ fun x _ _ _ => K' x) :
    drawGo P fix E0 (⟨gi, anc, false, lo, hi⟩ :: l) D [m] pend K := by
  simp only [drawGo]
  refine stepV_mono (h (fun x => drawGo P fix E0 l (D ++ [(gi.dst, x)]) [m] (if 0 < hi then ⟨gi, envSel (fun j => anc.contains j) 0 D ++ E0, x, hi⟩ :: pend else pend) K) fun x h => h) ?_
  intro x ks r n hx
  simp only [Bool.false_eq_true, if_false, List.length_nil, Nat.zero_sub, List.take_zero, List.not_mem_nil, false_implies, implies_true, true_and]
  exact hx
theorem keep_nil {α : Type} {S : List (Nat × α)} : ∀ t x, get ([] : List (Nat × α)) t = some x → get S t = some x := fun t x h => by simp [get] at h
theorem keep_cons {α : Type} {S T : List (Nat × α)} {u : Nat} {y : α} (h : get S u = some y) (hT : ∀ t x, get T t = some x → get S t = some x) : ∀ t x, get ((u, y) :: T) t = some x → get S t = some x := fun t x hx => by
  simp only [get] at hx
  split at hx
  · rename_i e; subst e; simp only [Option.some.injEq] at hx; subst hx; exact h
  · exact hT t x hx
/-- What a function leaves that gives data, and was handed nothing to write. -/
theorem leaves_vals {as : List Arg} {res : List (Bool × List D)} {roots rt : List (Nat × Root)} {xs : List A} (h1 : inB as (inCells as).1 = []) (h2 : ioOf (flat as) 0 = []) (h3 : xs.map (fun x => ((cellsA x).1, (cellsA x).2.length)) = res.map (fun x => (x.1, x.2.length)))
    (h4 : takeAll roots (xs.flatMap fun x => (cellsA x).2) = some (res.flatMap (·.2), rt)) : Leaves as ⟨res, [], []⟩ roots (resV xs) := by
  refine ⟨xs, compsV_resV xs, h3, [], by rw [h1]; trivial, by simp, rt, ?_, by rw [h1]; rfl, by rw [h2]; trivial⟩
  rw [h1]
  simpa using h4
theorem wrap64 {z : Int} (h1 : -9223372036854775808 ≤ z) (h2 : z < 9223372036854775808) : IntKind.i64.wrap z = z := IntWalk.i64_in z ⟨h1, by omega⟩
/-- A call that hands on one leaf and gives one. -/
theorem call_lf {S : St} {f : FuncId} {v r : Value} {K : V → List (Nat × Path) → List (Nat × Root) → Nat → Prop} (h : Runs P f [.val false [(.rd, .lf v)]] ⟨[(false, [.lf r])], [], []⟩) (hK : K (.a (.c (.lf r))) [] S.roots S.next) : callOk P S f [.a (.c (.lf v))] K := by
  refine ⟨_, _, h, [(.rd, .lf v, .lf v)], rfl, S.roots, rfl, by simp [handIo, handBx], ?_, S.roots, rfl, S.roots, rfl, hK⟩
  intro x hx
  simp only [List.mem_singleton] at hx
  subst hx
  rfl
end Go.Vs
namespace Go.Vs
set_option linter.unusedVariables false
set_option linter.unusedSimpArgs false

theorem leaves_io {asl : List Arg} {res : List (Bool × List D)} {io : List (Nat × List (List D))} {roots rt : List (Nat × Root)} {xs : List A} (h1 : inB asl (inCells asl).1 = []) (h3 : xs.map (fun x => ((cellsA x).1, (cellsA x).2.length)) = res.map (fun x => (x.1, x.2.length)))
    (h4 : takeAll roots (xs.flatMap fun x => (cellsA x).2) = some (res.flatMap (·.2), rt)) (h2 : All2 (fun (x : Nat × Nat × Nat) (o : Nat × List (List D)) => get rt x.1 = some (.tr o.1 o.2) ∧ o.1 = x.2.1 ∧ o.2.length = x.2.2) (ioOf (flat asl) 0) io) : Leaves asl ⟨res, io, []⟩ roots (resV xs) := by
  refine ⟨xs, compsV_resV xs, h3, [], by rw [h1]; trivial, by simp, rt, ?_, by rw [h1]; rfl, h2⟩
  rw [h1]
  simpa using h4
/-! ## roots under other numbers -/
def renC (s : List (Nat × Nat)) : C → C
  | .rf r p sz lo n => match get s r with
    | some r' => .rf r' p sz lo n
    | none => .un
  | .pe r p i c => match get s r with
    | some r' => .pe r' p i c
    | none => .un
  | .pb r c => match get s r with
    | some r' => .pb r' c
    | none => .un
  | x => x
def renRoot (s : List (Nat × Nat)) : Root → Root
  | .bx cs => .bx (cs.map (renC s))
  | .ib cs => .ib (cs.map (renC s))
  | x => x
def invN : List (Nat × Nat) → Nat → Nat
  | [], r => r
  | (a, b) :: s, r => if b = r then a else invN s r
def okRen (s : List (Nat × Nat)) (nx fx : Nat) : Bool := decide ((s.map (·.2)).Nodup) && s.all (fun x => decide (x.2 < nx) && (decide (fx ≤ x.2) || x.1 == x.2)) && decide (fx ≤ nx)
theorem get_mem {α : Type} : ∀ {l : List (Nat × α)} {k : Nat} {x : α}, get l k = some x → (k, x) ∈ l
  | [], _, _, h => by simp [get] at h
  | (j, y) :: l, k, x, h => by
    simp only [get] at h
    split at h
    · rename_i e; subst e; simp only [Option.some.injEq] at h; subst h; exact List.mem_cons_self
    · exact List.mem_cons_of_mem _ (get_mem h)
theorem invN_get : ∀ {s : List (Nat × Nat)} {r r' : Nat}, (s.map (·.2)).Nodup → get s r = some r' → invN s r' = r
  | [], _, _, _, h => by simp [get] at h
  | (a, b) :: s, r, r', hn, h => by
    simp only [List.map_cons, List.nodup_cons] at hn
    simp only [get] at h
    simp only [invN]
    split at h
    · rename_i e; simp only [Option.some.injEq] at h; rw [if_pos h]; exact e
    · have : b ≠ r' := fun e => hn.1 (by rw [e]; exact List.mem_map.2 ⟨(r, r'), get_mem h, rfl⟩)
      rw [if_neg this]
      exact invN_get hn.2 h
theorem invN_fix : ∀ {s : List (Nat × Nat)} {r : Nat}, (∀ x ∈ s, x.2 = r → x.1 = r) → invN s r = r
  | [], _, _ => rfl
  | (a, b) :: s, r, h => by
    simp only [invN]
    split
    · rename_i e; exact h (a, b) List.mem_cons_self e
    · exact invN_fix fun x hx => h x (List.mem_cons_of_mem _ hx)
theorem CR.ren {pl pl' : Pls} {nx nx' : Nat} {s : List (Nat × Nat)} (hk : ∀ r r', get s r = some r' → r' < nx' ∧ ∀ p, pl' r' p = pl r p) {x : C} {v : Value} (h : CR pl nx x v) : CR pl' nx' (renC s x) v := by
  cases x with
  | rf r p sz lo n =>
    simp only [renC]
    cases hg : get s r with
    | none => exact CR.one h
    | some r' => exact ⟨(hk r r' hg).1, by rw [(hk r r' hg).2]; exact h.2⟩
  | pe r p i c =>
    simp only [renC]
    cases hg : get s r with
    | none => exact CR.one h
    | some r' => exact ⟨(hk r r' hg).1, by rw [(hk r r' hg).2]; exact h.2⟩
  | pb r c =>
    simp only [renC]
    cases hg : get s r with
    | none => exact CR.one h
    | some r' => exact ⟨(hk r r' hg).1, by rw [(hk r r' hg).2]; exact h.2⟩
  | un => exact h
  | nl sz => exact h
  | lf u => exact h
theorem RootOk.ren {st : Nat → Nat → Prop} {w : World} {g g' : Lab} {pl pl' : Pls} {nx nx' : Nat} {s : List (Nat × Nat)} (hk : ∀ r r', get s r = some r' → r' < nx' ∧ ∀ p, pl' r' p = pl r p) (hg : ∀ b o r p r', g b o = some (r, p) → get s r = some r' → g' b o = some (r', p))
    {r r' : Nat} {x : Root} (hr : get s r = some r') (h : RootOk st w g pl nx r x) : RootOk st w g' pl' nx' r' (renRoot s x) := by
  have e := (hk r r' hr).2
  have nc : ∀ {p : Path} {sz : Nat} {es : List (List D)}, NodeC w pl r p sz es → NodeC w pl' r' p sz es := by
    intro p sz es h
    refine ⟨by rw [e]; exact h.szp, by rw [e]; exact h.le, by rw [e]; exact h.nil, h.szs, ?_⟩
    intro i el c d h1 h2
    rw [e, e]
    exact h.cells i el c d h1 h2
  cases x with
  | tr sz es =>
    intro p n hn
    obtain ⟨h1, h2⟩ := h p n hn
    refine ⟨nc h1, ?_⟩
    intro j hj
    rw [e] at hj ⊢
    obtain ⟨a, b, c⟩ := h2 j hj
    exact ⟨hg _ _ _ _ _ a hr, b, c⟩
  | im sz es =>
    intro p n hn
    obtain ⟨h1, h2⟩ := h p n hn
    refine ⟨nc h1, ?_⟩
    intro j hj
    rw [e] at hj ⊢
    exact h2 j hj
  | bx cs =>
    intro c x hx
    simp only [List.getElem?_map, Option.map_eq_some_iff] at hx
    obtain ⟨y, hy, rfl⟩ := hx
    obtain ⟨v, a, b, l, f⟩ := h c y hy
    rw [e]
    exact ⟨v, a, b.ren hk, hg _ _ _ _ _ l hr, f⟩
  | ib cs =>
    intro c x hx
    simp only [List.getElem?_map, Option.map_eq_some_iff] at hx
    obtain ⟨y, hy, rfl⟩ := hx
    obtain ⟨v, a, b, l⟩ := h c y hy
    rw [e]
    exact ⟨v, a, b.ren hk, l⟩
/-- What is kept of what is known, under other numbers. -/
def EnvR (s : List (Nat × Nat)) (E T : List (Nat × V)) : Prop := ∀ t x, get T t = some x → x = .un ∨ ∃ y, get E t = some y ∧ y.map (renC s) = x
def RootsR (s : List (Nat × Nat)) (R T : List (Nat × Root)) : Prop := ∀ r x, get T r = some x → ∃ r0 y, get R r0 = some y ∧ get s r0 = some r ∧ renRoot s y = x
theorem er_nil {s : List (Nat × Nat)} {E : List (Nat × V)} : EnvR s E [] := fun t x h => by simp [get] at h
theorem er_un {s : List (Nat × Nat)} {E T : List (Nat × V)} {u : Nat} (h : EnvR s E T) : EnvR s E ((u, .un) :: T) := fun t x hx => by
  simp only [get] at hx
  split at hx
  · simp only [Option.some.injEq] at hx; exact .inl hx.symm
  · exact h t x hx
theorem er_cons {s : List (Nat × Nat)} {E T : List (Nat × V)} {u : Nat} {x y : V} (h1 : get E u = some y) (h2 : y.map (renC s) = x) (h : EnvR s E T) : EnvR s E ((u, x) :: T) := fun t z hz => by
  simp only [get] at hz
  split at hz
  · rename_i e; subst e; simp only [Option.some.injEq] at hz; subst hz; exact .inr ⟨y, h1, h2⟩
  · exact h t z hz
theorem rr_nil {s : List (Nat × Nat)} {R : List (Nat × Root)} : RootsR s R [] := fun t x h => by simp [get] at h
theorem rr_cons {s : List (Nat × Nat)} {R T : List (Nat × Root)} {u : Nat} {x y : Root} (r0 : Nat) (h1 : get R r0 = some y) (h2 : get s r0 = some u) (h3 : renRoot s y = x) (h : RootsR s R T) : RootsR s R ((u, x) :: T) := fun t z hz => by
  simp only [get] at hz
  split at hz
  · rename_i e; subst e; simp only [Option.some.injEq] at hz; subst hz; exact ⟨r0, y, h1, h2, h3⟩
  · exact h t z hz
theorem Le.ren {S T : St} (s : List (Nat × Nat)) (hf : T.fix = S.fix) (hok : okRen s T.next S.fix = true) (he : EnvR s S.env T.env) (hr : RootsR s S.roots T.roots) : Le S T := ⟨hf, fun N w0 own0 pl0 g pl a w hR => by
  simp only [okRen, Bool.and_eq_true, decide_eq_true_eq, List.all_eq_true, Bool.or_eq_true, beq_iff_eq] at hok
  obtain ⟨⟨hnd, hall⟩, hle⟩ := hok
  obtain ⟨h1, h2, h3, h4⟩ := hR
  obtain ⟨a1, a2, a3, a4, a5, a6⟩ := h1
  have hk : ∀ r r', get s r = some r' → r' < T.next ∧ ∀ p, (fun r p => pl (invN s r) p) r' p = pl r p := fun r r' h => ⟨(hall _ (get_mem h)).1, fun p => by simp only [invN_get hnd h]⟩
  refine ⟨fun b o => (g b o).bind fun x => (get s x.1).map fun r' => (r', x.2), fun r p => pl (invN s r) p, ⟨⟨a1, ?_, ?_, ?_, Nat.le_refl _, ?_⟩, h2, h3, ?_⟩⟩
  · intro b o x hx
    simp only [Option.bind_eq_some_iff, Option.map_eq_some_iff] at hx
    obtain ⟨y, hy, r', hr', rfl⟩ := hx
    obtain ⟨b1, b2, _⟩ := a2 b o y hy
    exact ⟨b1, b2, (hk _ _ hr').1⟩
  · intro r p hlt
    rw [hf] at hlt
    have : invN s r = r := invN_fix fun x hx e => by
      rcases (hall x hx).2 with h | h
      · omega
      · omega
    simp only [this]
    exact a3 r p hlt
  · rw [hf]; exact hle
  · intro r x hx
    obtain ⟨r0, y, h5, h6, rfl⟩ := hr r x hx
    refine ⟨(hk _ _ h6).1, (a6 r0 y h5).2.ren hk ?_ h6⟩
    intro b o r1 p r2 h7 h8
    simp only [h7, Option.bind_some, h8, Option.map_some]
  · intro t x hx
    rcases he t x hx with rfl | ⟨y, hy, rfl⟩
    · trivial
    · exact VR.killed (fun z u hz => hz.ren hk) (h4 t y hy)⟩

/-! ## a loop whose state is told by what changes -/
def upd : List (Nat × V) → List (Nat × V) → List (Nat × V)
  | [], E => E
  | (t, x) :: l, E => upd l (put E t x)
def sel : List Nat → List (Nat × V) → List (Nat × V)
  | [], _ => []
  | k :: l, E => match Vs.get E k with
    | some x => (k, x) :: sel l E
    | none => sel l E
variable {P : Program} {N : Nat} {Q : Exit → St → Prop}
/-- Behind a round. -/
def Back {α : Type} (f : Nat) (vars : α → List (Nat × V)) (roots : α → List (Nat × Root)) (nx : Nat) (inv : α → Prop) (m : α → Nat) (keep : List Nat) (E : List (Nat × V)) (k : Nat) (S' : St) : Prop :=
  ∃ a', inv a' ∧ m a' < k ∧ S'.fix = f ∧ ∃ s, okRen s nx f = true ∧ EnvR s S'.env (upd (vars a') (sel keep E)) ∧ RootsR s S'.roots (roots a')
theorem sw_loop_upd {α : Type} {x : Stm} {E : List (Nat × V)} {R : List (Nat × Root)} {n f : Nat} (keep : List Nat) (vars : α → List (Nat × V)) (roots : α → List (Nat × Root)) (nx : Nat) (inv : α → Prop) (m : α → Nat) (x0 : α) (s0 : List (Nat × Nat)) (h0 : inv x0) (hok : okRen s0 nx f = true) (hE : EnvR s0 E (upd (vars x0) (sel keep E))) (hR : RootsR s0 R (roots x0))
    (hr : ∀ a, inv a → Sw P N x ⟨upd (vars a) (sel keep E), roots a, nx, f⟩ (thenQ (Back f vars roots nx inv m keep E (m a)) Q)) : Sw P N (.loop x) ⟨E, R, n, f⟩ Q := by
  refine sw_loop (fun k T => ∃ a, inv a ∧ k = m a ∧ T = ⟨upd (vars a) (sel keep E), roots a, nx, f⟩) (m x0) ⟨_, ⟨x0, h0, rfl, rfl⟩, Le.ren s0 rfl hok hE hR⟩ ?_
  rintro k T hf ⟨a, ha, rfl, rfl⟩
  refine sw_mono (hr a ha) ?_
  intro e S' q
  cases e <;> try exact q
  obtain ⟨a', h1, h2, h3, s, h4, h5, h6⟩ := q
  exact ⟨m a', _, h2, ⟨a', h1, rfl, rfl⟩, Le.ren s h3.symm (by rw [h3]; exact h4) h5 h6⟩
theorem fa_nil {α : Type} {p : α → Prop} : ∀ x ∈ ([] : List α), p x := by simp
theorem fa_cons {α : Type} {p : α → Prop} {a : α} {l : List α} (h : p a) (hl : ∀ x ∈ l, p x) : ∀ x ∈ a :: l, p x := by
  intro x hx
  rcases List.mem_cons.1 hx with rfl | hx
  · exact h
  · exact hl x hx
end Go.Vs
namespace Go.Vs
set_option linter.unusedVariables false
set_option linter.unusedSimpArgs false
/-! ## numbers -/
theorem w64_nat {n : Nat} (h : n < 9223372036854775808) : IntKind.i64.wrap (n : Int) = (n : Int) := wrap64 (by omega) (by omega)
theorem ofInt_nat (n a : Nat) : BitVec.ofInt n (a : Int) = BitVec.ofNat n a := by
  apply BitVec.eq_of_toNat_eq
  simp [BitVec.toNat_ofInt, BitVec.toNat_ofNat]
theorem xor64 {a b : Nat} (ha : a < 9223372036854775808) (hb : b < 9223372036854775808) : IntKind.i64.wrap (((BitVec.ofInt IntKind.i64.bits (a : Int) ^^^ BitVec.ofInt IntKind.i64.bits (b : Int)).toNat : Nat) : Int) = ((a ^^^ b : Nat) : Int) := by
  rw [ofInt_nat, ofInt_nat, BitVec.toNat_xor, BitVec.toNat_ofNat, BitVec.toNat_ofNat, show IntKind.i64.bits = 64 from rfl, Nat.mod_eq_of_lt (by omega), Nat.mod_eq_of_lt (by omega)]
  exact w64_nat (Nat.xor_lt_two_pow (n := 63) ha hb)
theorem and64 {a b : Nat} (ha : a < 9223372036854775808) (hb : b < 9223372036854775808) : IntKind.i64.wrap (((BitVec.ofInt IntKind.i64.bits (a : Int) &&& BitVec.ofInt IntKind.i64.bits (b : Int)).toNat : Nat) : Int) = ((a &&& b : Nat) : Int) := by
  rw [ofInt_nat, ofInt_nat, BitVec.toNat_and, BitVec.toNat_ofNat, BitVec.toNat_ofNat, show IntKind.i64.bits = 64 from rfl, Nat.mod_eq_of_lt (by omega), Nat.mod_eq_of_lt (by omega)]
  exact w64_nat (Nat.and_lt_two_pow (n := 63) a hb)
theorem or64 {a b : Nat} (ha : a < 9223372036854775808) (hb : b < 9223372036854775808) : IntKind.i64.wrap (((BitVec.ofInt IntKind.i64.bits (a : Int) ||| BitVec.ofInt IntKind.i64.bits (b : Int)).toNat : Nat) : Int) = ((a ||| b : Nat) : Int) := by
  rw [ofInt_nat, ofInt_nat, BitVec.toNat_or, BitVec.toNat_ofNat, BitVec.toNat_ofNat, show IntKind.i64.bits = 64 from rfl, Nat.mod_eq_of_lt (by omega), Nat.mod_eq_of_lt (by omega)]
  exact w64_nat (Nat.or_lt_two_pow (n := 63) ha hb)
theorem and_low {a k m : Nat} (ha : a < 9223372036854775808) (hm : m = 2 ^ k - 1) (hk : k < 63) : IntKind.i64.wrap (((BitVec.ofInt IntKind.i64.bits (a : Int) &&& BitVec.ofInt IntKind.i64.bits (m : Int)).toNat : Nat) : Int) = ((a % 2 ^ k : Nat) : Int) := by
  have h2 : 2 ^ k < 2 ^ 63 := Nat.pow_lt_pow_right (by omega) hk
  rw [and64 ha (by omega), hm, Nat.and_two_pow_sub_one_eq_mod]

/-! ## the sum of bytes -/
def crc1 (x : Nat) : Nat := if 2 * x > 65535 then (2 * x) ^^^ 69665 else 2 * x
def crcN : Nat → Nat → Nat
  | 0, x => x
  | n + 1, x => crcN n (crc1 x)
def crcB (x : Nat) (b : UInt8) : Nat := crcN 8 (x ^^^ (256 * b.toNat))
def crc (l : List UInt8) : Nat := l.foldl crcB 65535
theorem crc1_lt {x : Nat} (h : x < 65536) : crc1 x < 65536 := by
  unfold crc1
  split
  · rename_i h2
    have e : (2 * x ^^^ 69665) >>> 16 = 0 := by
      rw [Nat.shiftRight_xor_distrib, Nat.shiftRight_eq_div_pow, Nat.shiftRight_eq_div_pow]
      have : 2 * x / 2 ^ 16 = 1 := by omega
      rw [this, show 69665 / 2 ^ 16 = 1 from rfl]; rfl
    rw [Nat.shiftRight_eq_div_pow] at e
    omega
  · omega
theorem crcN_lt {n : Nat} : ∀ {x : Nat}, x < 65536 → crcN n x < 65536 := by
  induction n with
  | zero => exact fun h => h
  | succ n ih => exact fun h => ih (crc1_lt h)
theorem crcN_succ {n : Nat} : ∀ {x : Nat}, crcN (n + 1) x = crc1 (crcN n x) := by
  induction n with
  | zero => intro x; rfl
  | succ n ih => intro x; rw [crcN, ih]; rfl
theorem crcX_lt {x : Nat} (h : x < 65536) (b : UInt8) : x ^^^ (256 * b.toNat) < 65536 := Nat.xor_lt_two_pow (n := 16) h (by have := b.toNat_lt; omega)
theorem crcB_lt {x : Nat} (h : x < 65536) (b : UInt8) : crcB x b < 65536 := crcN_lt (crcX_lt h b)
theorem crc_take {l : List UInt8} {i : Nat} (h : i < l.length) : crc (l.take (i + 1)) = crcB (crc (l.take i)) l[i] := by
  rw [List.take_succ_eq_append_getElem h]; simp only [crc, List.foldl_append, List.foldl_cons, List.foldl_nil]
theorem crc_lt (l : List UInt8) : crc l < 65536 := by
  have : ∀ (l : List UInt8) (x : Nat), x < 65536 → l.foldl crcB x < 65536 := by
    intro l
    induction l with
    | nil => exact fun x h => h
    | cons b l ih => intro x h; rw [List.foldl_cons]; exact ih _ (crcB_lt h b)
  unfold crc; exact this l 65535 (by decide)
end Go.Vs
namespace Go.Vs
set_option linter.unusedVariables false
set_option linter.unusedSimpArgs false
/-! ## data of the program -/
/-- Slices of bytes as they lie. -/
def sD (l : List (List UInt8)) : List (List D) := l.map fun b => [.sl 1 (bD b)]
@[simp] theorem sD_len (l : List (List UInt8)) : (sD l).length = l.length := by simp [sD]
theorem sD_get {l : List (List UInt8)} {i : Nat} (h : i < l.length) : (sD l)[i]? = some [.sl 1 (bD l[i])] := by simp [sD, h]
/-- Two bytes of a number. -/
def w2 (v : Nat) : List UInt8 := [UInt8.ofNat (v / 256), UInt8.ofNat v]
@[simp] theorem w2_len (v : Nat) : (w2 v).length = 2 := rfl
theorem take_one {roots : List (Nat × Root)} {r sz n : Nat} {es : List (List D)} (h : get roots r = some (.tr sz es)) (hn : n = es.length) : takeAll roots [.rf r [] sz 0 n] = some ([.sl sz es], cutR roots r []) := by
  subst hn
  simp [takeAll, takeC, h, nodeAt]
theorem flat_take {l : List (List UInt8)} {i : Nat} (h : i < l.length) : (l.take (i + 1)).flatten = (l.take i).flatten ++ l[i] := by
  rw [List.take_succ_eq_append_getElem h]; simp only [List.flatten_append, List.flatten_cons, List.flatten_nil, List.append_nil]
theorem flat_take_le (l : List (List UInt8)) (i : Nat) : (l.take i).flatten.length ≤ l.flatten.length := by
  have : l.flatten = (l.take i).flatten ++ (l.drop i).flatten := by rw [← List.flatten_append, List.take_append_drop]
  rw [this, List.length_append]
  omega
theorem take_cons {roots rt : List (Nat × Root)} {r sz n : Nat} {es : List (List D)} {l : List C} {ds : List D} (h : get roots r = some (.tr sz es)) (hn : n = es.length) (ht : takeAll (cutR roots r []) l = some (ds, rt)) : takeAll roots (.rf r [] sz 0 n :: l) = some (.sl sz es :: ds, rt) := by
  subst hn
  simp [takeAll, takeC, h, nodeAt, ht]
theorem take_lf {roots rt : List (Nat × Root)} {v : Value} {l : List C} {ds : List D} (ht : takeAll roots l = some (ds, rt)) : takeAll roots (.lf v :: l) = some (.lf v :: ds, rt) := by
  simp [takeAll, takeC, ht]
theorem take_nl {roots rt : List (Nat × Root)} {sz : Nat} {l : List C} {ds : List D} (ht : takeAll roots l = some (ds, rt)) : takeAll roots (.nl sz :: l) = some (.sl sz [] :: ds, rt) := by
  simp [takeAll, takeC, ht]
end Go.Vs
namespace Go.Vs
set_option linter.unusedVariables false
set_option linter.unusedSimpArgs false
/-! ## single steps, short -/
variable {P : Program} {E : List (Nat × V)} {R : List (Nat × Root)} {n f d : Nat} {l : List GI} {K : St → Prop}
theorem os_of {i : I} (h : ev ⟨E, R, n, f⟩ (fun v => runOs P l ⟨put E d v, R, n, f⟩ K) i) : runOs P (⟨some d, .rd i, none⟩ :: l) ⟨E, R, n, f⟩ K := h
theorem os_mvt {t : Nat} {v : V} (hx : get E t = some v) (h : runOs P l ⟨put E d v, R, n, f⟩ K) : runOs P (⟨some d, .rd (.mv (.t t)), none⟩ :: l) ⟨E, R, n, f⟩ K := os_of (by simp only [ev, St.opd, hx, Option.getD_some]; exact h)
theorem os_mvk {v : V} (h : runOs P l ⟨put E d v, R, n, f⟩ K) : runOs P (⟨some d, .rd (.mv (.k v)), none⟩ :: l) ⟨E, R, n, f⟩ K := h
theorem os_bin {op : BinOp} {x y : Opd} {u v r : Value} (hx : St.opd ⟨E, R, n, f⟩ x = .a (.c (.lf u))) (hy : St.opd ⟨E, R, n, f⟩ y = .a (.c (.lf v))) (hr : leafBin op u v = some r) (h : runOs P l ⟨put E d (.a (.c (.lf r))), R, n, f⟩ K) : runOs P (⟨some d, .rd (.bin op x y), none⟩ :: l) ⟨E, R, n, f⟩ K := os_of (by simp only [ev, hx, hy]; exact ⟨r, hr, h⟩)
theorem os_beq {g : Bool} {x y : Opd} {u v : Bool} (hx : St.opd ⟨E, R, n, f⟩ x = .a (.c (.lf (.bool u)))) (hy : St.opd ⟨E, R, n, f⟩ y = .a (.c (.lf (.bool v)))) (h : runOs P l ⟨put E d (.a (.c (.lf (.bool (if g then u != v else u == v))))), R, n, f⟩ K) : runOs P (⟨some d, .rd (.beq g x y), none⟩ :: l) ⟨E, R, n, f⟩ K := os_of (by simp only [ev, hx, hy]; exact h)
theorem os_un {op : UnOp} {x : Opd} {u r : Value} (hx : St.opd ⟨E, R, n, f⟩ x = .a (.c (.lf u))) (hr : leafUn op u = some r) (h : runOs P l ⟨put E d (.a (.c (.lf r))), R, n, f⟩ K) : runOs P (⟨some d, .rd (.un op x), none⟩ :: l) ⟨E, R, n, f⟩ K := os_of (by simp only [ev, hx]; exact ⟨r, hr, h⟩)
theorem os_conv {k k' : IntKind} {x : Opd} {z : Int} (hx : St.opd ⟨E, R, n, f⟩ x = .a (.c (.lf (.int k' z)))) (h : runOs P l ⟨put E d (.a (.c (.lf (.int k (k.wrap z))))), R, n, f⟩ K) : runOs P (⟨some d, .rd (.conv k x), none⟩ :: l) ⟨E, R, n, f⟩ K := os_of (by simp only [ev, hx]; exact h)
theorem os_lenr {x : Opd} {r sz lo m : Nat} {p : Path} (hx : St.opd ⟨E, R, n, f⟩ x = .a (.c (.rf r p sz lo m))) (h : runOs P l ⟨put E d (.a (.c (.lf (.int .i64 m)))), R, n, f⟩ K) : runOs P (⟨some d, .rd (.len x), none⟩ :: l) ⟨E, R, n, f⟩ K := os_of (by simp only [ev, hx]; exact h)
theorem os_lenn {x : Opd} {sz : Nat} (hx : St.opd ⟨E, R, n, f⟩ x = .a (.c (.nl sz))) (h : runOs P l ⟨put E d (.a (.c (.lf (.int .i64 0)))), R, n, f⟩ K) : runOs P (⟨some d, .rd (.len x), none⟩ :: l) ⟨E, R, n, f⟩ K := os_of (by simp only [ev, hx]; exact h)
theorem os_sln {x : Opd} {s : ByteArray} (hx : St.opd ⟨E, R, n, f⟩ x = .a (.c (.lf (.string s)))) (h : runOs P l ⟨put E d (.a (.c (.lf (.int .i64 s.size)))), R, n, f⟩ K) : runOs P (⟨some d, .rd (.sln x), none⟩ :: l) ⟨E, R, n, f⟩ K := os_of (by simp only [ev, hx]; exact h)
theorem os_ext {i : Nat} {x : Opd} {xs : List A} {y : A} (hx : St.opd ⟨E, R, n, f⟩ x = .tp xs) (hy : xs[i]? = some y) (h : runOs P l ⟨put E d (.a y), R, n, f⟩ K) : runOs P (⟨some d, .rd (.ext i x), none⟩ :: l) ⟨E, R, n, f⟩ K := os_of (by simp only [ev, hx]; exact ⟨y, hy, h⟩)
theorem os_fld {o : Nat} {x : Opd} {cs : List C} {y : C} (hx : St.opd ⟨E, R, n, f⟩ x = .a (.ag cs)) (hy : cs[o]? = some y) (h : runOs P l ⟨put E d (.a (.c y)), R, n, f⟩ K) : runOs P (⟨some d, .rd (.fld o none x), none⟩ :: l) ⟨E, R, n, f⟩ K := os_of (by simp only [ev, hx]; exact ⟨y, hy, h⟩)
theorem os_iad {sz : Nat} {x i : Opd} {r m j : Nat} {p : Path} {k : IntKind} {z : Int} (hx : St.opd ⟨E, R, n, f⟩ x = .a (.c (.rf r p sz 0 m))) (hi : St.opd ⟨E, R, n, f⟩ i = .a (.c (.lf (.int k z)))) (hz : z = (j : Nat)) (hj : j < m) (h : runOs P l ⟨put E d (.a (.c (.pe r p j 0))), R, n, f⟩ K) : runOs P (⟨some d, .rd (.iad sz x i), none⟩ :: l) ⟨E, R, n, f⟩ K := os_of (by
  subst hz
  simp only [ev, hx, hi, Int.toNat_natCast, Nat.zero_add]
  exact ⟨trivial, ⟨by omega, by omega⟩, h⟩)
/-- A leaf of an element is read. -/
theorem os_ldl {x : Opd} {r i c : Nat} {p : Path} {m : Nat × List (List D)} {e : List D} {v : Value} (hx : St.opd ⟨E, R, n, f⟩ x = .a (.c (.pe r p i c))) (hn : St.node ⟨E, R, n, f⟩ r p = some m) (he : m.2[i]? = some e) (hv : e[c]? = some (.lf v)) (h : runOs P l ⟨put E d (.a (.c (.lf v))), R, n, f⟩ K) : runOs P (⟨some d, .rd (.load none x), none⟩ :: l) ⟨E, R, n, f⟩ K := os_of (by simp only [ev, hx]; exact ⟨.lf v, by rw [hn]; simp only [Option.bind_some, he, hv], h⟩)
/-- A slice in an element is read. -/
theorem os_lds {x : Opd} {r i c sz : Nat} {p : Path} {m : Nat × List (List D)} {e : List D} {es : List (List D)} (hx : St.opd ⟨E, R, n, f⟩ x = .a (.c (.pe r p i c))) (hn : St.node ⟨E, R, n, f⟩ r p = some m) (he : m.2[i]? = some e) (hv : e[c]? = some (.sl sz es)) (h : runOs P l ⟨put E d (.a (.c (.rf r (p ++ [(i, c)]) sz 0 es.length))), R, n, f⟩ K) : runOs P (⟨some d, .rd (.load none x), none⟩ :: l) ⟨E, R, n, f⟩ K := os_of (by simp only [ev, hx]; exact ⟨.sl sz es, by rw [hn]; simp only [Option.bind_some, he, hv], h⟩)
/-- A cell of a variable is read. -/
theorem os_ldb {x : Opd} {r c : Nat} {cs : List C} {y : C} (hx : St.opd ⟨E, R, n, f⟩ x = .a (.c (.pb r c))) (hn : St.bcells ⟨E, R, n, f⟩ r = some cs) (hy : cs[c]? = some y) (h : runOs P l ⟨put E d (.a (.c y)), R, n, f⟩ K) : runOs P (⟨some d, .rd (.load none x), none⟩ :: l) ⟨E, R, n, f⟩ K := os_of (by simp only [ev, hx]; exact ⟨_, by rw [hn]; simp only [Option.bind_some, hy], h⟩)
theorem os_nilc {x : Opd} {r c : Nat} (hx : St.opd ⟨E, R, n, f⟩ x = .a (.c (.pb r c))) (h : runOs P l ⟨put E d (.a (.c (.pb r c))), R, n, f⟩ K) : runOs P (⟨some d, .rd (.nilc x), none⟩ :: l) ⟨E, R, n, f⟩ K := os_of (by simp only [ev, hx]; exact h)
theorem os_nile {x : Opd} {r i c : Nat} {p : Path} (hx : St.opd ⟨E, R, n, f⟩ x = .a (.c (.pe r p i c))) (h : runOs P l ⟨put E d (.a (.c (.pe r p i c))), R, n, f⟩ K) : runOs P (⟨some d, .rd (.nilc x), none⟩ :: l) ⟨E, R, n, f⟩ K := os_of (by simp only [ev, hx]; exact h)
theorem os_fadb {o m : Nat} {x : Opd} {r c : Nat} (hx : St.opd ⟨E, R, n, f⟩ x = .a (.c (.pb r c))) (hm : c + o = m) (h : runOs P l ⟨put E d (.a (.c (.pb r m))), R, n, f⟩ K) : runOs P (⟨some d, .rd (.fad o x), none⟩ :: l) ⟨E, R, n, f⟩ K := os_of (by subst hm; simp only [ev, hx]; exact h)
theorem os_fade {o m : Nat} {x : Opd} {r i c : Nat} {p : Path} (hx : St.opd ⟨E, R, n, f⟩ x = .a (.c (.pe r p i c))) (hm : c + o = m) (h : runOs P l ⟨put E d (.a (.c (.pe r p i m))), R, n, f⟩ K) : runOs P (⟨some d, .rd (.fad o x), none⟩ :: l) ⟨E, R, n, f⟩ K := os_of (by subst hm; simp only [ev, hx]; exact h)
/-- A writer. -/
theorem os_wr {W : W} (hf : ∀ a b, W ≠ .call a b) (h : wr ⟨E, R, n, f⟩ (fun x ks roots nx => runOs P l ⟨put (killEnv ks E) d x, roots, nx, f⟩ K) W) : runOs P (⟨some d, .wr W, none⟩ :: l) ⟨E, R, n, f⟩ K := by
  cases W <;> first | exact h | exact (hf _ _ rfl).elim
theorem os_call {fn : FuncId} {args : List Opd} (h : callOk P ⟨E, R, n, f⟩ fn (args.map (St.opd ⟨E, R, n, f⟩)) (fun x ks roots nx => runOs P l ⟨put (killEnv ks E) d x, roots, nx, f⟩ K)) : runOs P (⟨some d, .wr (.call fn args), none⟩ :: l) ⟨E, R, n, f⟩ K := .inl h
theorem os_callV {fn : FuncId} {args : List Opd} (h : callOk P ⟨E, R, n, f⟩ fn (args.map (St.opd ⟨E, R, n, f⟩)) (fun x ks roots nx => runOs P l ⟨killEnv ks E, roots, nx, f⟩ K)) : runOs P (⟨none, .wr (.call fn args), none⟩ :: l) ⟨E, R, n, f⟩ K := .inl h
end Go.Vs
namespace Go.Vs
set_option linter.unusedVariables false
set_option linter.unusedSimpArgs false

/-! ## a drawn region, walked as if its order were the text's -/
def oT : Opd → List Nat
  | .t n => [n]
  | .k _ => []
def oM : Option Opd → List Nat
  | some x => oT x
  | none => []
def useI : I → List Nat
  | .mv x => oT x
  | .pick c a b => oT c ++ (oT a ++ oT b)
  | .load _ x => oT x
  | .nilc x => oT x
  | .bin _ x y => oT x ++ oT y
  | .beq _ x y => oT x ++ oT y
  | .un _ x => oT x
  | .conv _ x => oT x
  | .b2s x => oT x
  | .slc _ x lo hi => oT x ++ (oM lo ++ oM hi)
  | .ssl x lo hi => oT x ++ (oM lo ++ oM hi)
  | .fld _ _ x => oT x
  | .fad _ x => oT x
  | .iad _ x i => oT x ++ oT i
  | .iaa _ _ x i => oT x ++ oT i
  | .idx x i => oT x ++ oT i
  | .ixa _ _ _ x i => oT x ++ oT i
  | .ext _ x => oT x
  | .len x => oT x
  | .sln x => oT x
  | .sid x => oT x
  | .build _ parts => parts.flatMap fun y => oT y.2.2
def useW : W → List Nat
  | .alloc _ => []
  | .box x => oT x
  | .lit _ _ _ parts => parts.flatMap fun y => oT y.2
  | .store _ x v => oT x ++ oT v
  | .s2b x => oT x
  | .mks _ _ _ l c => oT l ++ oT c
  | .app _ _ _ x y => oT x ++ oT y
  | .aps _ x y => oT x ++ oT y
  | .clr _ _ x => oT x
  | .call _ args => args.flatMap oT
  | .calv f args => oT f ++ args.flatMap oT
def useJ : J → List Nat
  | .rd i => useI i
  | .wr w => useW w
def useG (g : GI) : List Nat := (match g.guard with | some (t, _) => [t] | none => []) ++ useJ g.op
def freeI : I → Bool
  | .load _ _ => false
  | .b2s _ => false
  | _ => true
def free (g : GI) : Bool := match g.op with
  | .rd i => freeI i
  | _ => false

section
variable {E E' : List (Nat × V)} {R R' : List (Nat × Root)} {n n' f : Nat}
theorem opd_ag {x : Opd} (h : ∀ t ∈ oT x, get E t = get E' t) : (⟨E, R, n, f⟩ : St).opd x = (⟨E', R', n', f⟩ : St).opd x := by
  cases x with
  | t k => simp only [St.opd, h k (by simp [oT])]
  | k v => rfl
theorem opdM_ag {x : Option Opd} (h : ∀ t ∈ oM x, get E t = get E' t) : x.map (⟨E, R, n, f⟩ : St).opd = x.map (⟨E', R', n', f⟩ : St).opd := by
  cases x with
  | none => rfl
  | some x => simp only [Option.map_some]; rw [opd_ag h]
theorem fill_ag : ∀ (parts : List (Nat × Nat × Opd)) (cs : List C), (∀ t ∈ parts.flatMap (fun y => oT y.2.2), get E t = get E' t) → fillC ⟨E, R, n, f⟩ cs parts = fillC ⟨E', R', n', f⟩ cs parts
  | [], cs, _ => rfl
  | (a, b, x) :: parts, cs, h => by
    simp only [List.flatMap_cons, List.forall_mem_append] at h
    simp only [fillC]
    rw [opd_ag (R' := R') (n' := n') h.1]
    split
    · split
      · exact fill_ag parts _ h.2
      · rfl
    · rfl
theorem ev_ag {K : V → Prop} {i : I} (hu : ∀ t ∈ useI i, get E t = get E' t) (h : ev ⟨E, R, n, f⟩ K i) : ev ⟨E', R, n, f⟩ K i := by
  cases i with
  | mv x => simp only [ev] at h ⊢; rw [← opd_ag (R := R) (n := n) hu]; exact h
  | pick c a b =>
    simp only [useI, List.forall_mem_append] at hu
    simp only [ev] at h ⊢
    rw [← opd_ag (R := R) (n := n) hu.1, ← opd_ag (R := R) (n := n) hu.2.1, ← opd_ag (R := R) (n := n) hu.2.2]; exact h
  | load k x => cases k <;> (simp only [ev] at h ⊢; rw [← opd_ag (R := R) (n := n) hu]; exact h)
  | nilc x => simp only [ev] at h ⊢; rw [← opd_ag (R := R) (n := n) hu]; exact h
  | bin op x y => simp only [useI, List.forall_mem_append] at hu; simp only [ev] at h ⊢; rw [← opd_ag (R := R) (n := n) hu.1, ← opd_ag (R := R) (n := n) hu.2]; exact h
  | beq op x y => simp only [useI, List.forall_mem_append] at hu; simp only [ev] at h ⊢; rw [← opd_ag (R := R) (n := n) hu.1, ← opd_ag (R := R) (n := n) hu.2]; exact h
  | un op x => simp only [ev] at h ⊢; rw [← opd_ag (R := R) (n := n) hu]; exact h
  | conv k x => simp only [ev] at h ⊢; rw [← opd_ag (R := R) (n := n) hu]; exact h
  | b2s x => simp only [ev] at h ⊢; rw [← opd_ag (R := R) (n := n) hu]; exact h
  | slc z x lo hi => simp only [useI, List.forall_mem_append] at hu; simp only [ev] at h ⊢; rw [← opd_ag (R := R) (n := n) hu.1, ← opdM_ag (R := R) (n := n) hu.2.1, ← opdM_ag (R := R) (n := n) hu.2.2]; exact h
  | ssl x lo hi => simp only [useI, List.forall_mem_append] at hu; simp only [ev] at h ⊢; rw [← opd_ag (R := R) (n := n) hu.1, ← opdM_ag (R := R) (n := n) hu.2.1, ← opdM_ag (R := R) (n := n) hu.2.2]; exact h
  | fld o k x => cases k <;> (simp only [ev] at h ⊢; rw [← opd_ag (R := R) (n := n) hu]; exact h)
  | fad o x => simp only [ev] at h ⊢; rw [← opd_ag (R := R) (n := n) hu]; exact h
  | iad z x y => simp only [useI, List.forall_mem_append] at hu; simp only [ev] at h ⊢; rw [← opd_ag (R := R) (n := n) hu.1, ← opd_ag (R := R) (n := n) hu.2]; exact h
  | iaa l z x y => simp only [useI, List.forall_mem_append] at hu; simp only [ev] at h ⊢; rw [← opd_ag (R := R) (n := n) hu.1, ← opd_ag (R := R) (n := n) hu.2]; exact h
  | idx x y => simp only [useI, List.forall_mem_append] at hu; simp only [ev] at h ⊢; rw [← opd_ag (R := R) (n := n) hu.1, ← opd_ag (R := R) (n := n) hu.2]; exact h
  | ixa l k z x y => simp only [useI, List.forall_mem_append] at hu; cases k <;> simp only [ev] at h ⊢ <;> (rw [← opd_ag (R := R) (n := n) hu.1, ← opd_ag (R := R) (n := n) hu.2]; exact h)
  | ext i x => simp only [ev] at h ⊢; rw [← opd_ag (R := R) (n := n) hu]; exact h
  | len x => simp only [ev] at h ⊢; rw [← opd_ag (R := R) (n := n) hu]; exact h
  | sln x => simp only [ev] at h ⊢; rw [← opd_ag (R := R) (n := n) hu]; exact h
  | sid x => simp only [ev] at h ⊢; rw [← opd_ag (R := R) (n := n) hu]; exact h
  | build z parts => simp only [ev] at h ⊢; rw [← fill_ag (R := R) (n := n) parts z hu]; exact h
theorem wr_ag {K : KW} {j : W} (hu : ∀ t ∈ useW j, get E t = get E' t) (h : wr ⟨E, R, n, f⟩ K j) : wr ⟨E', R, n, f⟩ K j := by
  cases j with
  | alloc z => exact h
  | box x => simp only [wr] at h ⊢; rw [← opd_ag (R := R) (n := n) hu]; exact h
  | lit s l z parts =>
    simp only [wr] at h ⊢
    rw [← fill_ag (E := E) (E' := E') (R := R) (n := n) (parts.map fun x => (x.1 * s, s, x.2)) (rep l z) (by simpa [useW, List.flatMap_map] using hu)]; exact h
  | store k x v => simp only [useW, List.forall_mem_append] at hu; simp only [wr] at h ⊢; rw [← opd_ag (R := R) (n := n) hu.1, ← opd_ag (R := R) (n := n) hu.2]; exact h
  | s2b x => simp only [wr] at h ⊢; rw [← opd_ag (R := R) (n := n) hu]; exact h
  | mks s b z l c => simp only [useW, List.forall_mem_append] at hu; simp only [wr] at h ⊢; rw [← opd_ag (R := R) (n := n) hu.1, ← opd_ag (R := R) (n := n) hu.2]; exact h
  | app s b z x y => simp only [useW, List.forall_mem_append] at hu; simp only [wr] at h ⊢; rw [← opd_ag (R := R) (n := n) hu.1, ← opd_ag (R := R) (n := n) hu.2]; exact h
  | aps z x y => simp only [useW, List.forall_mem_append] at hu; simp only [wr] at h ⊢; rw [← opd_ag (R := R) (n := n) hu.1, ← opd_ag (R := R) (n := n) hu.2]; exact h
  | clr s z x => exact h
  | call g args => exact h
  | calv g args => exact h
theorem args_ag : ∀ (args : List Opd), (∀ t ∈ args.flatMap oT, get E t = get E' t) → args.map (⟨E, R, n, f⟩ : St).opd = args.map (⟨E', R', n', f⟩ : St).opd
  | [], _ => rfl
  | x :: l, h => by
    simp only [List.flatMap_cons, List.forall_mem_append] at h
    simp only [List.map_cons]
    rw [opd_ag (R' := R') (n' := n') h.1, args_ag l h.2]
theorem evJ_ag {P : Program} {K : KW} {j : J} (hu : ∀ t ∈ useJ j, get E t = get E' t) (h : evJ P ⟨E, R, n, f⟩ K j) : evJ P ⟨E', R, n, f⟩ K j := by
  cases j with
  | rd i => exact ev_ag (R := R) (n := n) (f := f) (K := fun v => K v [] R n) (i := i) hu h
  | wr w =>
    cases w with
    | call g args =>
      simp only [evJ] at h ⊢
      rw [← args_ag (R := R) (n := n) args hu]
      exact h
    | alloc z => exact wr_ag (j := .alloc z) hu h
    | box x => exact wr_ag (j := .box x) hu h
    | lit a b c e => exact wr_ag (j := .lit a b c e) hu h
    | store k x v => exact wr_ag (j := .store k x v) hu h
    | s2b x => exact wr_ag (j := .s2b x) hu h
    | mks a b c x y => exact wr_ag (j := .mks a b c x y) hu h
    | app a b c x y => exact wr_ag (j := .app a b c x y) hu h
    | aps a x y => exact wr_ag (j := .aps a x y) hu h
    | clr a b x => exact (show False from h).elim
    | calv g args => exact (show False from h).elim
theorem stepV_ag {P : Program} {K : KW} {g : GI} (hu : ∀ t ∈ useG g, get E t = get E' t) (h : stepV P g ⟨E, R, n, f⟩ K) : stepV P g ⟨E', R, n, f⟩ K := by
  unfold stepV at h ⊢
  cases hg : g.guard with
  | none => simp only [hg] at h ⊢; exact evJ_ag (fun t ht => hu t (by simp [useG, hg, ht])) h
  | some gw =>
    obtain ⟨t, want⟩ := gw
    simp only [hg] at h ⊢
    have ht : get E t = get E' t := hu t (by simp [useG, hg])
    rw [← ht]
    have hj : ∀ K, evJ P ⟨E, R, n, f⟩ K g.op → evJ P ⟨E', R, n, f⟩ K g.op := fun K => evJ_ag (fun t ht => hu t (by simp [useG, hg, ht]))
    split at h
    · exact ⟨fun e => hj _ (h.1 e), h.2⟩
    · exact h
    · exact h.elim
theorem ev_free {K : V → Prop} {i : I} (hf : freeI i = true) (h : ev ⟨E, R, n, f⟩ K i) : ev ⟨E, R', n', f⟩ K i := by
  cases i with
  | load k x => simp [freeI] at hf
  | b2s x => simp [freeI] at hf
  | build z parts => simp only [ev] at h ⊢; rw [← fill_ag (E := E) (R := R) (n := n) parts z fun _ _ => rfl]; exact h
  | fld o k x => cases k <;> exact h
  | ixa l k z x y => cases k <;> exact h
  | _ => exact h
theorem stepV_free {P : Program} {g : GI} {v : V} (hf : free g = true) (h : stepV P g ⟨E, R, n, f⟩ fun x _ _ _ => x = v) : stepV P g ⟨E, R', n', f⟩ fun x _ _ _ => x = v := by
  unfold stepV at h ⊢
  obtain ⟨d, op, gd⟩ := g
  cases op with
  | wr w => simp [free] at hf
  | rd i =>
    have hi : freeI i = true := hf
    cases gd with
    | none => exact ev_free (R := R) (n := n) (K := fun x => x = v) hi h
    | some gw =>
      obtain ⟨t, want⟩ := gw
      simp only at h ⊢
      split at h
      · exact ⟨fun e => ev_free (R := R) (n := n) (K := fun x => x = v) hi (h.1 e), h.2⟩
      · exact h
      · exact h.elim
end

def KsE (ks : List (Nat × Path)) (its : List DI) (E : List (Nat × V)) : Prop := match ks with
  | [] => True
  | k :: ks => its = [] ∧ ∀ y ∈ E, y.2.map (killCs (k :: ks)) = y.2
/-- In the text's order, all that was made being at hand. -/
def runD (P : Program) (fix : Nat) : List DI → List (Nat × V) → List Mem → List Pend → (St → Prop) → Prop
  | [], E, m :: _, _, K => K ⟨E, m.1, m.2, fix⟩
  | it :: l, E, m :: hist, pend, K =>
    stepV P it.gi ⟨E, m.1, m.2, fix⟩ fun x ks r n =>
      if it.w then KsE ks l E ∧ (∀ p ∈ pend, hist.length + 1 ≤ p.hi → stepV P p.gi ⟨p.E, r, n, fix⟩ fun x' _ _ _ => x' = p.x) ∧ runD P fix l (setEnv it.gi.dst x E) ((r, n) :: m :: hist) pend K
      else if free it.gi then runD P fix l (setEnv it.gi.dst x E) (m :: hist) pend K
      else (∀ mm ∈ hist.take (hist.length - it.lo), stepV P it.gi ⟨E, mm.1, mm.2, fix⟩ fun x' _ _ _ => x' = x) ∧
        runD P fix l (setEnv it.gi.dst x E) (m :: hist) (if hist.length < it.hi then ⟨it.gi, E, x, it.hi⟩ :: pend else pend) K
  | _, _, [], _, _ => False
def dsts (its : List DI) : List Nat := its.filterMap (·.gi.dst)
def dstOf (its : List DI) (a : Nat) : Option Nat := (its[a]?).bind (·.gi.dst)
def okD (its : List DI) : Bool := its.all fun it => (useG it.gi).all fun t => !((dsts its).contains t) || it.anc.any fun a => dstOf its a == some t

theorem get_app (l r : List (Nat × V)) (t : Nat) : get (l ++ r) t = match get l t with | some x => some x | none => get r t := by
  induction l with
  | nil => rfl
  | cons a l ih =>
    obtain ⟨k, x⟩ := a
    simp only [List.cons_append, get]
    split
    · rfl
    · exact ih
theorem sel_none {p : Nat → Bool} {t : Nat} : ∀ (D : List (Option Nat × V)) (i : Nat), (∀ (j : Nat) (y : V), D[j]? ≠ some (some t, y)) → get (envSel p i D) t = none
  | [], i, _ => rfl
  | (none, x) :: D, i, h => by simp only [envSel]; exact sel_none D _ fun j y => by simpa using h (j + 1) y
  | (some d, x) :: D, i, h => by
    have hd : d ≠ t := fun e => h 0 x (by simp [e])
    have ih := sel_none (p := p) (t := t) D (i + 1) fun j y => by simpa using h (j + 1) y
    simp only [envSel]
    split
    · simp only [get, if_neg hd]; exact ih
    · exact ih
theorem sel_some {p : Nat → Bool} {t : Nat} {x : V} : ∀ (D : List (Option Nat × V)) (i a : Nat), D[a]? = some (some t, x) → p (i + a) = true → (∀ (b : Nat) (y : V), D[b]? = some (some t, y) → b = a) → get (envSel p i D) t = some x
  | [], i, a, h, _, _ => by simp at h
  | (od, y) :: D, i, 0, h, hp, hu => by
    simp only [List.getElem?_cons_zero, Option.some.injEq, Prod.mk.injEq] at h
    obtain ⟨rfl, rfl⟩ := h
    simp only [Nat.add_zero] at hp
    simp only [envSel, hp, if_true, get]
  | (od, y) :: D, i, a + 1, h, hp, hu => by
    have ih := sel_some (p := p) (t := t) (x := x) D (i + 1) a (by simpa using h) (by rw [show i + 1 + a = i + (a + 1) by omega]; exact hp) fun b z hb => by
      have := hu (b + 1) z (by simpa using hb); omega
    cases od with
    | none => simp only [envSel]; exact ih
    | some d =>
      have hd : d ≠ t := fun e => by have := hu 0 y (by simp [e]); omega
      simp only [envSel]
      split
      · simp only [get, if_neg hd]; exact ih
      · exact ih
theorem get_filt (env : List (Nat × V)) (q : Nat → Bool) (t : Nat) : get (env.filter fun x => q x.1) t = if q t then get env t else none := by
  induction env with
  | nil => simp [get]
  | cons y env ih =>
    obtain ⟨k, x⟩ := y
    simp only [List.filter_cons]
    split
    · rename_i hq
      simp only [get]
      split
      · rename_i e; subst e; simp [hq]
      · exact ih
    · rename_i hq
      rw [ih]
      by_cases e : k = t
      · subst e; rw [if_neg hq, if_neg hq]
      · simp only [get, if_neg e]
theorem dsts_at : ∀ (its : List DI), (dsts its).Nodup → ∀ (a b t : Nat), dstOf its a = some t → dstOf its b = some t → a = b
  | [], _, a, b, t, h, _ => by simp [dstOf] at h
  | it :: its, hn, a, b, t, ha, hb => by
    have hmem : ∀ (its : List DI) (a t : Nat), dstOf its a = some t → t ∈ dsts its := by
      intro its a t h
      simp only [dstOf, Option.bind_eq_some_iff] at h
      obtain ⟨it, h1, h2⟩ := h
      exact List.mem_filterMap.2 ⟨it, List.mem_of_getElem? h1, h2⟩
    cases hd : it.gi.dst with
    | none =>
      have e : dsts (it :: its) = dsts its := by simp [dsts, hd]
      rw [e] at hn
      cases a with
      | zero => simp [dstOf, hd] at ha
      | succ a => cases b with
        | zero => simp [dstOf, hd] at hb
        | succ b => rw [dsts_at its hn a b t (by simpa [dstOf] using ha) (by simpa [dstOf] using hb)]
    | some d =>
      have e : dsts (it :: its) = d :: dsts its := by simp [dsts, hd]
      rw [e, List.nodup_cons] at hn
      cases a with
      | zero =>
        have : d = t := by simpa [dstOf, hd] using ha
        subst this
        cases b with
        | zero => rfl
        | succ b => exact (hn.1 (hmem its b d (by simpa [dstOf] using hb))).elim
      | succ a => cases b with
        | zero =>
          have : d = t := by simpa [dstOf, hd] using hb
          subst this
          exact (hn.1 (hmem its a d (by simpa [dstOf] using ha))).elim
        | succ b => rw [dsts_at its hn.2 a b t (by simpa [dstOf] using ha) (by simpa [dstOf] using hb)]
def PendR (P : Program) (fix : Nat) (pend pend' : List Pend) : Prop := ∀ p' ∈ pend', (∃ p ∈ pend, p.gi = p'.gi ∧ p.x = p'.x ∧ p.hi = p'.hi ∧ ∀ t ∈ useG p'.gi, get p.E t = get p'.E t) ∨ (∀ r n, stepV P p'.gi ⟨p'.E, r, n, fix⟩ fun x _ _ _ => x = p'.x)
theorem runD_draw {P : Program} {fix : Nat} {its0 : List DI} {env : List (Nat × V)} {K : St → Prop} (hok : okD its0 = true) (hnd : (dsts its0).Nodup) (hanc : ∀ (j : Nat) (it : DI), its0[j]? = some it → ∀ a ∈ it.anc, a < j) :
    ∀ (its : List DI) (D : List (Option Nat × V)) (E : List (Nat × V)) (m : Mem) (hist : List Mem) (pend pend' : List Pend), (∀ j, its[j]? = its0[D.length + j]?) → (∀ (j : Nat) (y : Option Nat × V), D[j]? = some y → y.1 = dstOf its0 j) →
      (∀ (j d : Nat) (x : V), D[j]? = some (some d, x) → get E d = some x) → (∀ t, t ∉ dsts its0 → get E t = get env t) → PendR P fix pend pend' → runD P fix its E (m :: hist) pend K →
      drawGo P fix (env.filter fun x => !(dsts its0).contains x.1) its D (m :: hist) pend' fun S' => ∃ T, Le S' T ∧ K T
  | its, D, E, m, hist, pend, pend', hits, hD, hE, hN, hP, h => by
    have uniq : ∀ (a b : Nat) (t : Nat) (x y : V), D[a]? = some (some t, x) → D[b]? = some (some t, y) → b = a := fun a b t x y h1 h2 => dsts_at its0 hnd b a t (hD b _ h2).symm (hD a _ h1).symm
    have notin : ∀ (t : Nat), t ∉ dsts its0 → ∀ (j : Nat) (y : V), D[j]? ≠ some (some t, y) := by
      intro t ht j y hj
      have := (hD j _ hj).symm
      simp only [dstOf, Option.bind_eq_some_iff] at this
      obtain ⟨it, h1, h2⟩ := this
      exact ht (List.mem_filterMap.2 ⟨it, List.mem_of_getElem? h1, h2⟩)
    have filt : ∀ t, get (env.filter fun x => !(dsts its0).contains x.1) t = if (!(dsts its0).contains t) = true then get env t else none := get_filt env fun k => !(dsts its0).contains k
    cases its with
    | nil =>
      simp only [runD] at h
      simp only [drawGo]
      refine ⟨⟨E, m.1, m.2, fix⟩, Le.sub rfl rfl ?_ (fun r x h => h), h⟩
      intro t x hx
      rw [get_app]
      by_cases ht : t ∈ dsts its0
      · obtain ⟨it, h1, h2⟩ := List.mem_filterMap.1 ht
        obtain ⟨j, hj⟩ := List.getElem?_of_mem h1
        have hlen : its0.length ≤ D.length := by
          have := hits 0
          simp only [List.getElem?_nil, Nat.add_zero] at this
          exact List.getElem?_eq_none_iff.1 this.symm
        have hjl : j < D.length := Nat.lt_of_lt_of_le (List.getElem?_eq_some_iff.1 hj).1 hlen
        have hy : D[j]? = some D[j] := List.getElem?_eq_getElem hjl
        have hd : D[j].1 = some t := by rw [hD j _ hy]; simp [dstOf, hj, h2]
        have hy2 : D[j]? = some (some t, D[j].2) := by rw [hy, ← hd]
        have : get E t = some D[j].2 := hE j t _ hy2
        rw [hx] at this
        simp only [Option.some.injEq] at this
        rw [sel_some D 0 j hy2 rfl fun b y hb => uniq j b t _ _ hy2 hb, this]
      · rw [sel_none D 0 (notin t ht)]
        simp only
        rw [filt, if_pos (by simpa using ht), ← hN t ht]
        exact hx
    | cons it its =>
      have hit : its0[D.length]? = some it := by simpa using (hits 0).symm
      have hag : ∀ t ∈ useG it.gi, get E t = get (envSel (fun j => it.anc.contains j) 0 D ++ env.filter fun x => !(dsts its0).contains x.1) t := by
        intro t ht
        have := List.all_eq_true.1 (List.all_eq_true.1 hok it (List.mem_of_getElem? hit)) t ht
        simp only [Bool.or_eq_true, Bool.not_eq_true', List.any_eq_true, beq_iff_eq] at this
        rw [get_app]
        by_cases hm : t ∈ dsts its0
        · rcases this with h1 | ⟨a, h1, h2⟩
          · simp [hm] at h1
          · have hlt := hanc _ _ hit a h1
            have hy : D[a]? = some D[a] := List.getElem?_eq_getElem hlt
            have hd : D[a].1 = some t := by rw [hD a _ hy, h2]
            have hy2 : D[a]? = some (some t, D[a].2) := by rw [hy, ← hd]
            rw [sel_some D 0 a hy2 (by simpa using h1) fun b y hb => uniq a b t _ _ hy2 hb, hE a t _ hy2]
        · rw [sel_none D 0 (notin t hm)]
          simp only
          rw [filt, if_pos (by simpa using hm), ← hN t hm]
      simp only [runD] at h
      obtain ⟨x, ks, r, n, h1, hall⟩ := stepV_ext h
      have hgo : ∀ K' : KW, K' x ks r n → stepV P it.gi ⟨envSel (fun j => it.anc.contains j) 0 D ++ env.filter fun x => !(dsts its0).contains x.1, m.1, m.2, fix⟩ K' := fun K' hk => stepV_ag hag (hall K' hk)
      have hits' : ∀ j, its[j]? = its0[(D ++ [(it.gi.dst, x)]).length + j]? := by
        intro j
        have := hits (j + 1)
        simp only [List.getElem?_cons_succ] at this
        rw [this]; congr 1; simp; omega
      have hD' : ∀ (j : Nat) (y : Option Nat × V), (D ++ [(it.gi.dst, x)])[j]? = some y → y.1 = dstOf its0 j := by
        intro j y hy
        by_cases hj : j < D.length
        · rw [List.getElem?_append_left hj] at hy; exact hD j y hy
        · rw [List.getElem?_append_right (by omega)] at hy
          have : j = D.length := by
            have := (List.getElem?_eq_some_iff.1 hy).1
            simp at this; omega
          subst this
          simp only [Nat.sub_self, List.getElem?_cons_zero, Option.some.injEq] at hy
          subst hy
          simp [dstOf, hit]
      have hE' : ∀ (j d : Nat) (y : V), (D ++ [(it.gi.dst, x)])[j]? = some (some d, y) → get (setEnv it.gi.dst x E) d = some y := by
        intro j d y hy
        by_cases hj : j < D.length
        · have hy' := hy
          rw [List.getElem?_append_left hj] at hy'
          have h3 := hE j d y hy'
          cases hdst : it.gi.dst with
          | none => exact h3
          | some d' =>
            have hne : d' ≠ d := by
              intro e
              subst e
              have := dsts_at its0 hnd j D.length d' (hD j _ hy').symm (by simp [dstOf, hit, hdst])
              omega
            simp only [setEnv, get_put, if_neg hne]; exact h3
        · rw [List.getElem?_append_right (by omega)] at hy
          have : j = D.length := by
            have := (List.getElem?_eq_some_iff.1 hy).1
            simp at this; omega
          subst this
          simp only [Nat.sub_self, List.getElem?_cons_zero, Option.some.injEq, Prod.mk.injEq] at hy
          rw [hy.1]
          simp only [setEnv, get_put, if_true, hy.2]
      have hN' : ∀ t, t ∉ dsts its0 → get (setEnv it.gi.dst x E) t = get env t := by
        intro t ht
        cases hdst : it.gi.dst with
        | none => exact hN t ht
        | some d' =>
          have hne : d' ≠ t := fun e => ht (List.mem_filterMap.2 ⟨it, List.mem_of_getElem? hit, by rw [hdst, e]⟩)
          simp only [setEnv, get_put, if_neg hne]; exact hN t ht
      simp only [drawGo]
      refine hgo _ ?_
      cases hw : it.w with
      | true =>
        rw [hw] at h1
        simp only [if_true] at h1 ⊢
        obtain ⟨hks, hp, hrun⟩ := h1
        refine ⟨?_, ?_, runD_draw hok hnd hanc its _ _ _ _ pend pend' hits' hD' hE' hN' hP hrun⟩
        · cases ks with
          | nil => trivial
          | cons k ks =>
            obtain ⟨e0, e1⟩ := hks
            refine ⟨e0, fun d z hz => ?_, fun t z hz => ?_⟩
            · obtain ⟨j, hj⟩ := List.getElem?_of_mem hz
              exact e1 _ (get_mem (hE j d z hj))
            · rw [filt] at hz
              split at hz
              · rename_i hq
                rw [← hN t (by simpa using hq)] at hz
                exact e1 _ (get_mem hz)
              · simp at hz
        intro p' hp' hle
        rcases hP p' hp' with ⟨p, q1, q2, q3, q4, q5⟩ | q
        · have := hp p q1 (by rw [q4]; exact hle)
          rw [q2, q3] at this
          exact stepV_ag q5 this
        · exact q r n
      | false =>
        rw [hw] at h1
        simp only [Bool.false_eq_true, if_false] at h1 ⊢
        cases hf : free it.gi with
        | true =>
          rw [hf] at h1
          simp only [if_true] at h1
          have hs : ∀ r n, stepV P it.gi ⟨envSel (fun j => it.anc.contains j) 0 D ++ env.filter fun x => !(dsts its0).contains x.1, r, n, fix⟩ fun x' _ _ _ => x' = x := fun r n => stepV_free hf (hgo _ rfl)
          refine ⟨fun mm _ => hs _ _, runD_draw hok hnd hanc its _ _ _ _ pend _ hits' hD' hE' hN' ?_ h1⟩
          split
          · intro p' hp'
            rcases List.mem_cons.1 hp' with rfl | hp'
            · exact .inr hs
            · exact hP p' hp'
          · exact hP
        | false =>
          rw [hf] at h1
          simp only [Bool.false_eq_true, if_false] at h1
          obtain ⟨hh, hrun⟩ := h1
          refine ⟨fun mm hmm => stepV_ag hag (hh mm hmm), runD_draw hok hnd hanc its _ _ _ _ _ _ hits' hD' hE' hN' ?_ hrun⟩
          split
          · intro p' hp'
            rcases List.mem_cons.1 hp' with rfl | hp'
            · exact .inl ⟨_, List.mem_cons_self, rfl, rfl, rfl, hag⟩
            · rcases hP p' hp' with ⟨p, q1, q⟩ | q
              · exact .inl ⟨p, List.mem_cons_of_mem _ q1, q⟩
              · exact .inr q
          · exact hP
theorem vw_le_post {P : Program} {N : Nat} {c : Code} {S : St} {Q : Exit → St → Prop} (h : Vw P N c S fun e S' => ∃ T, Le S' T ∧ Q e T) : Vw P N c S Q := fun w0 own0 pl0 g pl a w hR => by
  refine wp_mono (h w0 own0 pl0 g pl a w hR) ?_
  rintro e a' w' ⟨S', g', pl', ⟨T, hl, hq⟩, hf, hR'⟩
  obtain ⟨g2, pl2, hR2⟩ := hl.2 N w0 own0 pl0 g' pl' a' w' hR'
  exact ⟨T, g2, pl2, hq, by rw [hl.1, hf], hR2⟩
theorem sw_run {P : Program} {N : Nat} {S : St} {Q : Exit → St → Prop} {its : List DI} (hm : P.follows .mixedOrders = true) (hok : okD its = true) (h : runD P S.fix its S.env [(S.roots, S.next)] [] (Q .normal)) : Sw P N (.drw its) S Q := fun c hc => by
  cases c with
  | region id ops d =>
    cases d with
    | false => simp [trC] at hc
    | true =>
      simp only [trC, Option.map_eq_some_iff, Stm.drw.injEq] at hc
      obtain ⟨gs, hg, rfl⟩ := hc
      simp only [trDraw, Option.bind_eq_bind, Option.bind_eq_some_iff] at hg
      obtain ⟨gis, hgis, hg⟩ := hg
      split at hg
      · rename_i hck
        simp only [Option.some.injEq] at hg
        simp only [Bool.and_eq_true, decide_eq_true_eq] at hck
        subst hg
        refine vw_le_post (vw_draw hm hck.1 (by rw [mkIts_gi]; exact hgis) hck.2 ?_)
        have hcs := ckAll_get hck.1
        have main := runD_draw (P := P) (fix := S.fix) (env := S.env) (K := Q .normal) hok hck.2 (by
          intro j it hj a ha
          obtain ⟨o, _, h2⟩ := hcs.2 j it hj
          simp only [ck1, Bool.and_eq_true, List.all_eq_true, decide_eq_true_eq, Nat.zero_add] at h2
          exact h2.1.1.1.1.2 a ha) _ [] S.env (S.roots, S.next) [] [] [] (by intro j; simp) (by simp) (by simp) (fun _ _ => rfl) (by intro p hp; cases hp) h
        exact main
      · simp at hg
  | seq a b => simp [trC, Option.bind_eq_bind, Option.bind_eq_some_iff] at hc
  | cond c a b => simp [trC, Option.bind_eq_bind, Option.bind_eq_some_iff] at hc
  | _ => simp [trC] at hc
end Go.Vs
namespace Go.Vs
set_option linter.unusedVariables false
set_option linter.unusedSimpArgs false
/-! ## what one operation gives -/
section
variable {E : List (Nat × V)} {R : List (Nat × Root)} {n f : Nat}
theorem evq_mvt {t : Nat} {v : V} (hx : get E t = some v) : ev ⟨E, R, n, f⟩ (fun x => x = v) (.mv (.t t)) := by simp only [ev, St.opd, hx, Option.getD_some]
theorem evq_mvk {v : V} : ev ⟨E, R, n, f⟩ (fun x => x = v) (.mv (.k v)) := rfl
theorem evq_bin {op : BinOp} {x y : Opd} {u v r : Value} (hx : St.opd ⟨E, R, n, f⟩ x = .a (.c (.lf u))) (hy : St.opd ⟨E, R, n, f⟩ y = .a (.c (.lf v))) (hr : leafBin op u v = some r) : ev ⟨E, R, n, f⟩ (fun x => x = .a (.c (.lf r))) (.bin op x y) := by simp only [ev, hx, hy]; exact ⟨r, hr, rfl⟩
theorem evq_shl {k k' : IntKind} {x y : Opd} {a b : Int} (c : Nat) (hx : St.opd ⟨E, R, n, f⟩ x = .a (.c (.lf (.int k a)))) (hy : St.opd ⟨E, R, n, f⟩ y = .a (.c (.lf (.int k' b)))) (hb : b = (c : Nat)) (hc : c ≤ k.bits) : ev ⟨E, R, n, f⟩ (fun x => x = .a (.c (.lf (.int k (k.wrap (a * 2 ^ c)))))) (.bin .shl x y) := by
  subst hb
  simp only [ev, hx, hy]
  refine ⟨_, ?_, rfl⟩
  simp only [leafBin, Int.toNat_natCast, Nat.min_eq_left hc]
  rw [if_pos (by omega)]
theorem evq_shr {k k' : IntKind} {x y : Opd} {a b : Int} (c : Nat) (hx : St.opd ⟨E, R, n, f⟩ x = .a (.c (.lf (.int k a)))) (hy : St.opd ⟨E, R, n, f⟩ y = .a (.c (.lf (.int k' b)))) (hb : b = (c : Nat)) (hc : c ≤ k.bits) : ev ⟨E, R, n, f⟩ (fun x => x = .a (.c (.lf (.int k (a.fdiv (2 ^ c)))))) (.bin .shr x y) := by
  subst hb
  simp only [ev, hx, hy]
  refine ⟨_, ?_, rfl⟩
  simp only [leafBin, Int.toNat_natCast, Nat.min_eq_left hc]
  rw [if_pos (by omega)]
theorem evq_beq {g : Bool} {x y : Opd} {u v : Bool} (hx : St.opd ⟨E, R, n, f⟩ x = .a (.c (.lf (.bool u)))) (hy : St.opd ⟨E, R, n, f⟩ y = .a (.c (.lf (.bool v)))) : ev ⟨E, R, n, f⟩ (fun x => x = .a (.c (.lf (.bool (if g then u != v else u == v))))) (.beq g x y) := by simp only [ev, hx, hy]
theorem evq_un {op : UnOp} {x : Opd} {u r : Value} (hx : St.opd ⟨E, R, n, f⟩ x = .a (.c (.lf u))) (hr : leafUn op u = some r) : ev ⟨E, R, n, f⟩ (fun x => x = .a (.c (.lf r))) (.un op x) := by simp only [ev, hx]; exact ⟨r, hr, rfl⟩
theorem evq_conv {k k' : IntKind} {x : Opd} {z : Int} (hx : St.opd ⟨E, R, n, f⟩ x = .a (.c (.lf (.int k' z)))) : ev ⟨E, R, n, f⟩ (fun x => x = .a (.c (.lf (.int k (k.wrap z))))) (.conv k x) := by simp only [ev, hx]
theorem evq_lenr {x : Opd} {r sz lo m : Nat} {p : Path} (hx : St.opd ⟨E, R, n, f⟩ x = .a (.c (.rf r p sz lo m))) : ev ⟨E, R, n, f⟩ (fun x => x = .a (.c (.lf (.int .i64 m)))) (.len x) := by simp only [ev, hx]
theorem evq_lenn {x : Opd} {sz : Nat} (hx : St.opd ⟨E, R, n, f⟩ x = .a (.c (.nl sz))) : ev ⟨E, R, n, f⟩ (fun x => x = .a (.c (.lf (.int .i64 0)))) (.len x) := by simp only [ev, hx]
theorem evq_sln {x : Opd} {s : ByteArray} (hx : St.opd ⟨E, R, n, f⟩ x = .a (.c (.lf (.string s)))) : ev ⟨E, R, n, f⟩ (fun x => x = .a (.c (.lf (.int .i64 s.size)))) (.sln x) := by simp only [ev, hx]
theorem evq_sid {x : Opd} {s : ByteArray} (hx : St.opd ⟨E, R, n, f⟩ x = .a (.c (.lf (.string s)))) : ev ⟨E, R, n, f⟩ (fun x => x = .a (.c (.lf (.string s)))) (.sid x) := by simp only [ev, hx]
theorem evq_ext {i : Nat} {x : Opd} {xs : List A} {y : A} (hx : St.opd ⟨E, R, n, f⟩ x = .tp xs) (hy : xs[i]? = some y) : ev ⟨E, R, n, f⟩ (fun x => x = .a y) (.ext i x) := by simp only [ev, hx]; exact ⟨y, hy, rfl⟩
theorem evq_fld {o : Nat} {x : Opd} {cs : List C} {y : C} (hx : St.opd ⟨E, R, n, f⟩ x = .a (.ag cs)) (hy : cs[o]? = some y) : ev ⟨E, R, n, f⟩ (fun x => x = .a (.c y)) (.fld o none x) := by simp only [ev, hx]; exact ⟨y, hy, rfl⟩
theorem evq_flg {o m : Nat} {x : Opd} {cs ys : List C} (hx : St.opd ⟨E, R, n, f⟩ x = .a (.ag cs)) (hm : o + m ≤ cs.length) (hy : (cs.drop o).take m = ys) : ev ⟨E, R, n, f⟩ (fun x => x = .a (.ag ys)) (.fld o (some m) x) := by simp only [ev, hx]; exact ⟨hm, by rw [hy]⟩
theorem evq_iad {sz : Nat} {x i : Opd} {r m j : Nat} {p : Path} {k : IntKind} {z : Int} (hx : St.opd ⟨E, R, n, f⟩ x = .a (.c (.rf r p sz 0 m))) (hi : St.opd ⟨E, R, n, f⟩ i = .a (.c (.lf (.int k z)))) (hz : z = (j : Nat)) (hj : j < m) : ev ⟨E, R, n, f⟩ (fun x => x = .a (.c (.pe r p j 0))) (.iad sz x i) := by
  subst hz
  simp only [ev, hx, hi, Int.toNat_natCast, Nat.zero_add]
  exact ⟨trivial, ⟨by omega, by omega⟩, trivial⟩
theorem evq_ldl {x : Opd} {r i c : Nat} {p : Path} {m : Nat × List (List D)} {e : List D} {v : Value} (hx : St.opd ⟨E, R, n, f⟩ x = .a (.c (.pe r p i c))) (hn : St.node ⟨E, R, n, f⟩ r p = some m) (he : m.2[i]? = some e) (hv : e[c]? = some (.lf v)) : ev ⟨E, R, n, f⟩ (fun x => x = .a (.c (.lf v))) (.load none x) := by simp only [ev, hx]; exact ⟨.lf v, by rw [hn]; simp only [Option.bind_some, he, hv], rfl⟩
theorem evq_lds {x : Opd} {r i c sz : Nat} {p : Path} {m : Nat × List (List D)} {e : List D} {es : List (List D)} (hx : St.opd ⟨E, R, n, f⟩ x = .a (.c (.pe r p i c))) (hn : St.node ⟨E, R, n, f⟩ r p = some m) (he : m.2[i]? = some e) (hv : e[c]? = some (.sl sz es)) : ev ⟨E, R, n, f⟩ (fun x => x = .a (.c (.rf r (p ++ [(i, c)]) sz 0 es.length))) (.load none x) := by simp only [ev, hx]; exact ⟨.sl sz es, by rw [hn]; simp only [Option.bind_some, he, hv], rfl⟩
theorem evq_ldb {x : Opd} {r c : Nat} {cs : List C} {y : C} (hx : St.opd ⟨E, R, n, f⟩ x = .a (.c (.pb r c))) (hn : St.bcells ⟨E, R, n, f⟩ r = some cs) (hy : cs[c]? = some y) : ev ⟨E, R, n, f⟩ (fun x => x = .a (.c y)) (.load none x) := by simp only [ev, hx]; exact ⟨_, by rw [hn]; simp only [Option.bind_some, hy], rfl⟩
theorem evq_lgb {x : Opd} {r c m : Nat} {cs ys : List C} (hx : St.opd ⟨E, R, n, f⟩ x = .a (.c (.pb r c))) (hn : St.bcells ⟨E, R, n, f⟩ r = some cs) (hm : c + m ≤ cs.length) (hy : (cs.drop c).take m = ys) : ev ⟨E, R, n, f⟩ (fun x => x = .a (.ag ys)) (.load (some m) x) := by simp only [ev, hx]; exact ⟨_, hn, hm, by rw [hy]⟩
theorem evq_lge {x : Opd} {r i c m : Nat} {p : Path} {nd : Nat × List (List D)} {e : List D} {ys : List C} (hx : St.opd ⟨E, R, n, f⟩ x = .a (.c (.pe r p i c))) (hn : St.node ⟨E, R, n, f⟩ r p = some nd) (he : nd.2[i]? = some e) (hm : c + m ≤ e.length) (hy : toCs r p i c ((e.drop c).take m) = ys) : ev ⟨E, R, n, f⟩ (fun x => x = .a (.ag ys)) (.load (some m) x) := by simp only [ev, hx]; exact ⟨e, by rw [hn]; exact he, hm, by rw [hy]⟩
theorem evq_nilc {x : Opd} {r c : Nat} (hx : St.opd ⟨E, R, n, f⟩ x = .a (.c (.pb r c))) : ev ⟨E, R, n, f⟩ (fun x => x = .a (.c (.pb r c))) (.nilc x) := by simp only [ev, hx]
theorem evq_nile {x : Opd} {r i c : Nat} {p : Path} (hx : St.opd ⟨E, R, n, f⟩ x = .a (.c (.pe r p i c))) : ev ⟨E, R, n, f⟩ (fun x => x = .a (.c (.pe r p i c))) (.nilc x) := by simp only [ev, hx]
theorem evq_fadb {o : Nat} {x : Opd} {r c : Nat} (hx : St.opd ⟨E, R, n, f⟩ x = .a (.c (.pb r c))) : ev ⟨E, R, n, f⟩ (fun x => x = .a (.c (.pb r (c + o)))) (.fad o x) := by simp only [ev, hx]
theorem evq_fade {o : Nat} {x : Opd} {r i c : Nat} {p : Path} (hx : St.opd ⟨E, R, n, f⟩ x = .a (.c (.pe r p i c))) : ev ⟨E, R, n, f⟩ (fun x => x = .a (.c (.pe r p i (c + o)))) (.fad o x) := by simp only [ev, hx]
theorem evq_slh {sz : Nat} {x h : Opd} {r lo m j : Nat} {p : Path} {k : IntKind} {z : Int} (hx : St.opd ⟨E, R, n, f⟩ x = .a (.c (.rf r p sz lo m))) (hh : St.opd ⟨E, R, n, f⟩ h = .a (.c (.lf (.int k z)))) (hz : z = (j : Nat)) (hj : j ≤ m) : ev ⟨E, R, n, f⟩ (fun x => x = .a (.c (.rf r p sz lo j))) (.slc sz x none (some h)) := by
  subst hz
  simp only [ev, hx, hh, Option.map_some, Option.map_none, Int.toNat_natCast]
  exact ⟨trivial, ⟨by omega, by omega⟩, trivial⟩
theorem evq_sll {sz : Nat} {x h : Opd} {r lo m j : Nat} {p : Path} {k : IntKind} {z : Int} (hx : St.opd ⟨E, R, n, f⟩ x = .a (.c (.rf r p sz lo m))) (hh : St.opd ⟨E, R, n, f⟩ h = .a (.c (.lf (.int k z)))) (hz : z = (j : Nat)) (hj : j ≤ m) : ev ⟨E, R, n, f⟩ (fun x => x = .a (.c (.rf r p sz (lo + j) (m - j)))) (.slc sz x (some h) none) := by
  subst hz
  simp only [ev, hx, hh, Option.map_some, Option.map_none, Int.toNat_natCast]
  exact ⟨trivial, ⟨by omega, by omega⟩, trivial⟩
theorem evq_build {z : List C} {parts : List (Nat × Nat × Opd)} {cs : List C} (h : fillC ⟨E, R, n, f⟩ z parts = some cs) : ev ⟨E, R, n, f⟩ (fun x => x = .a (.ag cs)) (.build z parts) := ⟨cs, h, rfl⟩
theorem evq_pickt {c a b : Opd} {w : Value} (hc : St.opd ⟨E, R, n, f⟩ c = .a (.c (.lf (.bool true)))) (ha : St.opd ⟨E, R, n, f⟩ a = .a (.c (.lf w))) : ev ⟨E, R, n, f⟩ (fun x => x = .a (.c (.lf w))) (.pick c a b) := by
  simp only [ev, hc]; exact ⟨fun _ => ha, fun h => by simp at h⟩
theorem evq_pickf {c a b : Opd} {w : Value} (hc : St.opd ⟨E, R, n, f⟩ c = .a (.c (.lf (.bool false)))) (hb : St.opd ⟨E, R, n, f⟩ b = .a (.c (.lf w))) : ev ⟨E, R, n, f⟩ (fun x => x = .a (.c (.lf w))) (.pick c a b) := by
  simp only [ev, hc]; exact ⟨fun h => by simp at h, fun _ => hb⟩
end

/-! ## steps -/
section
variable {P : Program} {E : List (Nat × V)} {R : List (Nat × Root)} {n f d t : Nat} {w b : Bool} {l : List GI} {K : St → Prop}
theorem stepV_of_ev {S : St} {od : Option Nat} {i : I} {v : V} (h : ev S (fun x => x = v) i) {K : KW} (hk : K v [] S.roots S.next) : stepV P ⟨od, .rd i, none⟩ S K := by
  obtain ⟨x, hx, hall⟩ := ev_ext h
  subst hx
  exact hall (fun v => K v [] S.roots S.next) hk
theorem os_ev {i : I} {v : V} (h : ev ⟨E, R, n, f⟩ (fun x => x = v) i) (hk : runOs P l ⟨put E d v, R, n, f⟩ K) : runOs P (⟨some d, .rd i, none⟩ :: l) ⟨E, R, n, f⟩ K := by
  obtain ⟨x, hx, hall⟩ := ev_ext h
  subst hx
  exact hall (fun x => runOs P l ⟨put E d x, R, n, f⟩ K) hk
theorem os_gs {j : J} {od : Option Nat} (hg : get E t = some (.a (.c (.lf (.bool b))))) (h1 : b = true → runOs P (⟨od, j, some (t, w)⟩ :: l) ⟨E, R, n, f⟩ K) (h2 : b = false → runOs P (⟨od, j, some (t, w)⟩ :: l) ⟨E, R, n, f⟩ K) : runOs P (⟨od, j, some (t, w)⟩ :: l) ⟨E, R, n, f⟩ K := by
  cases b
  · exact h2 rfl
  · exact h1 rfl
theorem os_gdo {j : J} {od : Option Nat} (hg : get E t = some (.a (.c (.lf (.bool w))))) (h : runOs P (⟨od, j, none⟩ :: l) ⟨E, R, n, f⟩ K) : runOs P (⟨od, j, some (t, w)⟩ :: l) ⟨E, R, n, f⟩ K := by
  simp only [runOs, stepO] at h ⊢
  rw [hg]
  exact ⟨fun _ => h, fun h => (h rfl).elim⟩
theorem os_gno {j : J} {d : Nat} (hg : get E t = some (.a (.c (.lf (.bool b))))) (hb : b ≠ w) (h : runOs P l ⟨put E d (.tp []), R, n, f⟩ K) : runOs P (⟨some d, j, some (t, w)⟩ :: l) ⟨E, R, n, f⟩ K := by
  simp only [runOs, stepO]
  rw [hg]
  exact ⟨fun e => (hb e).elim, fun _ => h⟩

/-- Fewer looks back. -/
theorem runD_pend {fix : Nat} : ∀ (l : List DI) (E : List (Nat × V)) (M : List Mem) (pend pend' : List Pend), (∀ p' ∈ pend', (∃ p ∈ pend, p.hi = p'.hi ∧ ∀ r n, stepV P p.gi ⟨p.E, r, n, fix⟩ (fun x _ _ _ => x = p.x) → stepV P p'.gi ⟨p'.E, r, n, fix⟩ (fun x _ _ _ => x = p'.x)) ∨ (∀ r n, stepV P p'.gi ⟨p'.E, r, n, fix⟩ fun x _ _ _ => x = p'.x)) → runD P fix l E M pend K → runD P fix l E M pend' K
  | [], E, [], pend, pend', _, h => by simp [runD] at h
  | [], E, m :: M, pend, pend', _, h => by simpa [runD] using h
  | it :: l, E, [], pend, pend', _, h => by simp [runD] at h
  | it :: l, E, m :: M, pend, pend', hp, h => by
    simp only [runD] at h ⊢
    refine stepV_mono h ?_
    intro x ks r n hx
    split at hx
    · rename_i hw
      rw [if_pos hw]
      obtain ⟨a, b, c⟩ := hx
      refine ⟨a, ?_, runD_pend l _ _ _ _ hp c⟩
      intro p' hp' hle
      rcases hp p' hp' with ⟨p, q1, q2, q3⟩ | q
      · exact q3 _ _ (b p q1 (by rw [q2]; exact hle))
      · exact q _ _
    · rename_i hw
      rw [if_neg hw]
      split at hx
      · rename_i hf; rw [if_pos hf]; exact runD_pend l _ _ _ _ hp hx
      · rename_i hf
        rw [if_neg hf]
        refine ⟨hx.1, runD_pend l _ _ _ _ ?_ hx.2⟩
        intro p' hp'
        split at hp'
        · rename_i hlt
          rw [if_pos hlt]
          rcases List.mem_cons.1 hp' with rfl | hp'
          · exact .inl ⟨_, List.mem_cons_self, rfl, fun _ _ h => h⟩
          · rcases hp p' hp' with ⟨p, q1, q⟩ | q
            · exact .inl ⟨p, List.mem_cons_of_mem _ q1, q⟩
            · exact .inr q
        · rename_i hlt
          rw [if_neg hlt]
          exact hp p' hp'

variable {hist : List Mem} {pend : List Pend} {a : List Nat} {lo hi : Nat} {ld : List DI}
theorem rd_nil : K ⟨E, R, n, f⟩ → runD P f [] E ((R, n) :: hist) pend K := fun h => h
theorem rd_ev {i : I} {v : V} (h : ev ⟨E, R, n, f⟩ (fun x => x = v) i) (hf : freeI i = true) (hk : runD P f ld (put E d v) ((R, n) :: hist) pend K) : runD P f (⟨⟨some d, .rd i, none⟩, a, false, lo, hi⟩ :: ld) E ((R, n) :: hist) pend K := by
  simp only [runD]
  refine stepV_of_ev h ?_
  simp only [Bool.false_eq_true, if_false]
  rw [if_pos (show free ⟨some d, .rd i, none⟩ = true from hf)]
  exact hk
theorem rd_m0 {i : I} {v : V} (h : ev ⟨E, R, n, f⟩ (fun x => x = v) i) (hh : ∀ mm ∈ hist.take (hist.length - lo), ev ⟨E, mm.1, mm.2, f⟩ (fun x => x = v) i) (hhi : ¬ hist.length < hi) (hk : runD P f ld (put E d v) ((R, n) :: hist) pend K) : runD P f (⟨⟨some d, .rd i, none⟩, a, false, lo, hi⟩ :: ld) E ((R, n) :: hist) pend K := by
  simp only [runD]
  refine stepV_of_ev h ?_
  simp only [Bool.false_eq_true, if_false, if_neg hhi]
  split
  · exact hk
  · exact ⟨hh, hk⟩
theorem rd_m1 {i : I} {v : V} (h : ev ⟨E, R, n, f⟩ (fun x => x = v) i) (hh : ∀ mm ∈ hist.take (hist.length - lo), ev ⟨E, mm.1, mm.2, f⟩ (fun x => x = v) i) (hf : freeI i = false) (hhi : hist.length < hi) (hk : runD P f ld (put E d v) ((R, n) :: hist) (⟨⟨some d, .rd i, none⟩, E, v, hi⟩ :: pend) K) : runD P f (⟨⟨some d, .rd i, none⟩, a, false, lo, hi⟩ :: ld) E ((R, n) :: hist) pend K := by
  simp only [runD]
  refine stepV_of_ev h ?_
  simp only [Bool.false_eq_true, if_false, if_pos hhi]
  rw [if_neg (by rw [show free ⟨some d, .rd i, none⟩ = false from hf]; simp)]
  exact ⟨hh, hk⟩
/-- A look back at a reader. -/
theorem pd_ev {od : Option Nat} {i : I} {v : V} (h : ev ⟨E, R, n, f⟩ (fun x => x = v) i) : stepV P ⟨od, .rd i, none⟩ ⟨E, R, n, f⟩ fun x' _ _ _ => x' = v := h
theorem rd_wr {j : W} {od : Option Nat} (hj : ∀ x y, j ≠ .call x y) (h : wr ⟨E, R, n, f⟩ (fun x ks r n' => KsE ks ld E ∧ (∀ p ∈ pend, hist.length + 1 ≤ p.hi → stepV P p.gi ⟨p.E, r, n', f⟩ fun x' _ _ _ => x' = p.x) ∧ runD P f ld (setEnv od x E) ((r, n') :: (R, n) :: hist) pend K) j) : runD P f (⟨⟨od, .wr j, none⟩, a, true, lo, hi⟩ :: ld) E ((R, n) :: hist) pend K := by
  cases j <;> first | exact h | exact (hj _ _ rfl).elim
theorem rd_call {fn : FuncId} {args : List Opd} {od : Option Nat} (h : callOk P ⟨E, R, n, f⟩ fn (args.map (St.opd ⟨E, R, n, f⟩)) (fun x ks r n' => KsE ks ld E ∧ (∀ p ∈ pend, hist.length + 1 ≤ p.hi → stepV P p.gi ⟨p.E, r, n', f⟩ fun x' _ _ _ => x' = p.x) ∧ runD P f ld (setEnv od x E) ((r, n') :: (R, n) :: hist) pend K)) : runD P f (⟨⟨od, .wr (.call fn args), none⟩, a, true, lo, hi⟩ :: ld) E ((R, n) :: hist) pend K := .inl h
theorem rd_see {fn : FuncId} {args : List Opd} {od : Option Nat} (h : callSee P ⟨E, R, n, f⟩ fn (args.map (St.opd ⟨E, R, n, f⟩)) (fun x ks r n' => KsE ks ld E ∧ (∀ p ∈ pend, hist.length + 1 ≤ p.hi → stepV P p.gi ⟨p.E, r, n', f⟩ fun x' _ _ _ => x' = p.x) ∧ runD P f ld (setEnv od x E) ((r, n') :: (R, n) :: hist) pend K)) : runD P f (⟨⟨od, .wr (.call fn args), none⟩, a, true, lo, hi⟩ :: ld) E ((R, n) :: hist) pend K := .inr h
theorem rd_gs {M : List Mem} {j : J} {od : Option Nat} {wf : Bool} (hg : get E t = some (.a (.c (.lf (.bool b))))) (h1 : b = true → runD P f (⟨⟨od, j, some (t, w)⟩, a, wf, lo, hi⟩ :: ld) E M pend K) (h2 : b = false → runD P f (⟨⟨od, j, some (t, w)⟩, a, wf, lo, hi⟩ :: ld) E M pend K) : runD P f (⟨⟨od, j, some (t, w)⟩, a, wf, lo, hi⟩ :: ld) E M pend K := by
  cases b
  · exact h2 rfl
  · exact h1 rfl
theorem stepV_gdo {j : J} {od : Option Nat} {r : List (Nat × Root)} {n : Nat} {K : KW} (hg : get E t = some (.a (.c (.lf (.bool w))))) (h : stepV P ⟨od, j, none⟩ ⟨E, r, n, f⟩ K) : stepV P ⟨od, j, some (t, w)⟩ ⟨E, r, n, f⟩ K := by
  simp only [stepV] at h ⊢
  rw [hg]
  exact ⟨fun _ => h, fun h => (h rfl).elim⟩
theorem stepV_gno {j : J} {od : Option Nat} {r : List (Nat × Root)} {n : Nat} {K : KW} (hg : get E t = some (.a (.c (.lf (.bool b))))) (hb : b ≠ w) (h : K (.tp []) [] r n) : stepV P ⟨od, j, some (t, w)⟩ ⟨E, r, n, f⟩ K := by
  simp only [stepV]
  rw [hg]
  exact ⟨fun e => (hb e).elim, fun _ => h⟩
theorem rd_gdo {j : J} {od : Option Nat} {wf : Bool} (hg : get E t = some (.a (.c (.lf (.bool w))))) (h : runD P f (⟨⟨od, j, none⟩, a, wf, lo, hi⟩ :: ld) E ((R, n) :: hist) pend K) : runD P f (⟨⟨od, j, some (t, w)⟩, a, wf, lo, hi⟩ :: ld) E ((R, n) :: hist) pend K := by
  simp only [runD] at h ⊢
  refine stepV_gdo hg (stepV_mono h ?_)
  intro x ks r n' hx
  have hfr : free ⟨od, j, some (t, w)⟩ = free ⟨od, j, none⟩ := rfl
  rw [hfr]
  split at hx
  · rename_i hw; rw [if_pos hw]; exact hx
  · rename_i hw
    rw [if_neg hw]
    split at hx
    · rename_i hf; rw [if_pos hf]; exact hx
    · rename_i hf
      rw [if_neg hf]
      refine ⟨fun mm hmm => stepV_gdo hg (hx.1 mm hmm), runD_pend _ _ _ _ _ ?_ hx.2⟩
      intro p' hp'
      split at hp'
      · rename_i hlt
        rw [if_pos hlt]
        rcases List.mem_cons.1 hp' with rfl | hp'
        · exact .inl ⟨_, List.mem_cons_self, rfl, fun _ _ h => stepV_gdo hg h⟩
        · exact .inl ⟨p', List.mem_cons_of_mem _ hp', rfl, fun _ _ h => h⟩
      · rename_i hlt
        rw [if_neg hlt]
        exact .inl ⟨p', hp', rfl, fun _ _ h => h⟩
theorem rd_gno {j : J} (hg : get E t = some (.a (.c (.lf (.bool b))))) (hb : b ≠ w) (h : runD P f ld (put E d (.tp [])) ((R, n) :: hist) pend K) : runD P f (⟨⟨some d, j, some (t, w)⟩, a, false, lo, hi⟩ :: ld) E ((R, n) :: hist) pend K := by
  simp only [runD]
  refine stepV_gno hg hb ?_
  simp only [Bool.false_eq_true, if_false]
  split
  · exact h
  · refine ⟨fun mm _ => stepV_gno hg hb rfl, runD_pend _ _ _ _ _ ?_ h⟩
    intro p' hp'
    split at hp'
    · rcases List.mem_cons.1 hp' with rfl | hp'
      · exact .inr fun r n => stepV_gno hg hb rfl
      · exact .inl ⟨p', hp', rfl, fun _ _ h => h⟩
    · exact .inl ⟨p', hp', rfl, fun _ _ h => h⟩
theorem rd_gnw {j : J} (hg : get E t = some (.a (.c (.lf (.bool b))))) (hb : b ≠ w) (hp : ∀ p ∈ pend, hist.length + 1 ≤ p.hi → stepV P p.gi ⟨p.E, R, n, f⟩ fun x' _ _ _ => x' = p.x) (h : runD P f ld (put E d (.tp [])) ((R, n) :: (R, n) :: hist) pend K) : runD P f (⟨⟨some d, j, some (t, w)⟩, a, true, lo, hi⟩ :: ld) E ((R, n) :: hist) pend K := by
  simp only [runD]
  refine stepV_gno hg hb ?_
  simp only [if_true]
  exact ⟨trivial, hp, h⟩
theorem os_wro {j : W} {od : Option Nat} (hj : ∀ x y, j ≠ .call x y) (h : wr ⟨E, R, n, f⟩ (fun x ks roots nx => runOs P l ⟨setEnv od x (killEnv ks E), roots, nx, f⟩ K) j) : runOs P (⟨od, .wr j, none⟩ :: l) ⟨E, R, n, f⟩ K := by
  cases j <;> first | exact h | exact (hj _ _ rfl).elim
theorem os_callo {fn : FuncId} {args : List Opd} {od : Option Nat} (h : callOk P ⟨E, R, n, f⟩ fn (args.map (St.opd ⟨E, R, n, f⟩)) (fun x ks roots nx => runOs P l ⟨setEnv od x (killEnv ks E), roots, nx, f⟩ K)) : runOs P (⟨od, .wr (.call fn args), none⟩ :: l) ⟨E, R, n, f⟩ K := .inl h
theorem os_see {fn : FuncId} {args : List Opd} {od : Option Nat} (h : callSee P ⟨E, R, n, f⟩ fn (args.map (St.opd ⟨E, R, n, f⟩)) (fun x ks roots nx => runOs P l ⟨setEnv od x (killEnv ks E), roots, nx, f⟩ K)) : runOs P (⟨od, .wr (.call fn args), none⟩ :: l) ⟨E, R, n, f⟩ K := .inr h
theorem os_gnv {j : J} (hg : get E t = some (.a (.c (.lf (.bool b))))) (hb : b ≠ w) (h : runOs P l ⟨E, R, n, f⟩ K) : runOs P (⟨none, j, some (t, w)⟩ :: l) ⟨E, R, n, f⟩ K := by
  simp only [runOs, stepO]
  rw [hg]
  exact ⟨fun e => (hb e).elim, fun _ => h⟩
end
theorem st_box {S : St} {K : KW} {x v : Opd} {r c n : Nat} {ys cs : List C} (hx : S.opd x = .a (.c (.pb r c))) (hv : cellsV (S.opd v) = some ys) (hl : ys.length = n) (hr : get S.roots r = some (.bx cs)) (hc : c + n ≤ cs.length) (hK : K .un [] (put S.roots r (.bx (cs.take c ++ (ys ++ cs.drop (c + n))))) S.next) : wr S K (.store n x v) := by
  simp only [wr, hx]
  exact ⟨ys, hv, hl, cs, hr, hc, hK⟩
theorem sw_go {P : Program} {N : Nat} {E : List (Nat × V)} {R : List (Nat × Root)} {n f : Nat} {Q : Exit → St → Prop} {its : List DI} (hm : P.follows .mixedOrders = true) (hok : okD its = true) (h : runD P f its E [(R, n)] [] (Q .normal)) : Sw P N (.drw its) ⟨E, R, n, f⟩ Q := sw_run hm hok h
end Go.Vs
namespace Go.Vs
/-! ## words in bytes -/
def getW (b : List UInt8) (a : Nat) : Nat := 256 * (b.getD a 0).toNat + (b.getD (a + 1) 0).toNat
def gwOk (b : List UInt8) (a : Int) : Bool := decide (0 ≤ a) && decide (a ≤ (b.length : Int) - 2)
def gwN (b : List UInt8) (a : Int) : Int := if gwOk b a = true then (getW b a.toNat : Nat) else 0
def gwA (b : List UInt8) (a : Int) : Int := if gwOk b a = true then a + 2 else 0
theorem or_add {x y : Nat} (h : y < 256) : 256 * x ||| y = 256 * x + y := by
  have := Nat.shiftLeft_add_eq_or_of_lt (a := x) (b := y) (i := 8) (by omega)
  rw [Nat.shiftLeft_eq] at this
  rw [show 256 * x = x * 2 ^ 8 by omega]
  exact this.symm
theorem gw_yes {b : List UInt8} {a : Nat} (h : a + 1 < b.length) : gwOk b a = true ∧ gwA b a = (a : Int) + 2 ∧ gwN b a = ((256 * b[a].toNat + b[a + 1].toNat : Nat) : Int) := by
  have h1 : gwOk b a = true := by simp only [gwOk, Bool.and_eq_true, decide_eq_true_eq]; omega
  refine ⟨h1, by rw [gwA, if_pos h1], ?_⟩
  rw [gwN, if_pos h1, getW, Int.toNat_natCast]
  simp [List.getD_eq_getElem?_getD, show a < b.length by omega, h]
theorem gw_no {b : List UInt8} {a : Int} (h : ¬ (0 ≤ a ∧ a ≤ (b.length : Int) - 2)) : gwOk b a = false ∧ gwA b a = 0 ∧ gwN b a = 0 := by
  have h1 : gwOk b a = false := by
    rw [Bool.eq_false_iff]
    simp only [gwOk, ne_eq, Bool.and_eq_true, decide_eq_true_eq]
    exact h
  exact ⟨h1, by rw [gwA, h1]; rfl, by rw [gwN, h1]; rfl⟩
theorem getW_lt (b : List UInt8) (a : Nat) : getW b a < 65536 := by
  have h1 := (b.getD a 0).toNat_lt
  have h2 := (b.getD (a + 1) 0).toNat_lt
  unfold getW
  omega
theorem gwN_lt (b : List UInt8) (a : Int) : 0 ≤ gwN b a ∧ gwN b a < 65536 := by
  unfold gwN
  have := getW_lt b a.toNat
  split <;> omega
/-- Several results. -/
theorem leaves_tp {as : List Arg} {res : List (Bool × List D)} {roots rt : List (Nat × Root)} {xs : List A} (h0 : resV xs = .tp xs) (h1 : inB as (inCells as).1 = []) (h2 : ioOf (flat as) 0 = []) (h3 : xs.map (fun x => ((cellsA x).1, (cellsA x).2.length)) = res.map (fun x => (x.1, x.2.length)))
    (h4 : takeAll roots (xs.flatMap fun x => (cellsA x).2) = some (res.flatMap (·.2), rt)) : Leaves as ⟨res, [], []⟩ roots (.tp xs) := h0 ▸ leaves_vals h1 h2 h3 h4
/-- A function that is handed one variable's address, and nothing else to write. -/
theorem leaves_bx {as : List Arg} {res : List (Bool × List D)} {ds : List D} {roots rt : List (Nat × Root)} {r : V} {xs : List A} {l : List (M × D)} {c0 ys : List C} (h0 : compsV r = some xs) (h3 : xs.map (fun x => ((cellsA x).1, (cellsA x).2.length)) = res.map (fun x => (x.1, x.2.length))) (h1 : inB as (inCells as).1 = [(l, c0)]) (hs : rdSame l c0 ys) (hr : get roots (fixCs (flat as)) = some (.bx ys))
    (h4 : takeAll roots ((xs.flatMap fun x => (cellsA x).2) ++ owPick l ys) = some (res.flatMap (·.2) ++ ds, rt)) (hl : (owPick l ys).length = ds.length) (h2 : ioOf (flat as) 0 = []) : Leaves as ⟨res, [], [ds]⟩ roots r := by
  refine ⟨xs, h0, h3, [ys], by rw [h1]; exact ⟨hs, trivial⟩, ?_, rt, ?_, by rw [h1]; simp [hl], by rw [h2]; trivial⟩
  · intro j y hj
    cases j with
    | zero => simp at hj; subst hj; exact hr
    | succ j => simp at hj
  · rw [h1]
    simpa using h4
@[simp] theorem bD_take (l : List UInt8) (n : Nat) : (bD l).take n = bD (l.take n) := by simp [bD, List.map_take]
@[simp] theorem bD_drop (l : List UInt8) (n : Nat) : (bD l).drop n = bD (l.drop n) := by simp [bD, List.map_drop]

/-! ## reading on -/
def swOk (b : List UInt8) (a : Int) (bad : Bool) : Bool := !bad && gwOk b a
def swN (b : List UInt8) (a : Int) (bad : Bool) : Int := if swOk b a bad = true then gwN b a else 0
def swA (b : List UInt8) (a : Int) (bad : Bool) : Int := if swOk b a bad = true then a + 2 else a
def suR (b : List UInt8) (a : Int) (bad : Bool) : Bool := swOk b a bad && (decide (gwN b a = (crc (b.take a.toNat) : Nat)) && decide (a + 2 = (b.length : Int)))
theorem sw_bad (b : List UInt8) (a : Int) : swOk b a true = false ∧ swN b a true = 0 ∧ swA b a true = a := ⟨rfl, rfl, rfl⟩
theorem sw_no {b : List UInt8} {a : Int} (h : gwOk b a = false) : swOk b a false = false ∧ swN b a false = 0 ∧ swA b a false = a := by
  have : swOk b a false = false := by rw [swOk, h]; rfl
  exact ⟨this, by rw [swN, this]; rfl, by rw [swA, this]; rfl⟩
theorem sw_yes {b : List UInt8} {a : Int} (h : gwOk b a = true) : swOk b a false = true ∧ swN b a false = gwN b a ∧ swA b a false = gwA b a := by
  have : swOk b a false = true := by rw [swOk, h]; rfl
  exact ⟨this, by rw [swN, if_pos this], by rw [swA, if_pos this, gwA, if_pos h]⟩
theorem gw_of {b : List UInt8} {a : Int} (h : gwOk b a = true) : 0 ≤ a ∧ a ≤ (b.length : Int) - 2 := by
  simpa only [gwOk, Bool.and_eq_true, decide_eq_true_eq] using h
theorem sw_of {b : List UInt8} {a : Int} {bad : Bool} (h : swOk b a bad = true) : bad = false ∧ gwOk b a = true := by
  simpa only [swOk, Bool.and_eq_true, Bool.not_eq_true'] using h
theorem rs_nil : rdSame [] [] [] := trivial
theorem rs_same {x : M × D} {l : List (M × D)} {c y : C} {c0 c1 : List C} (h : y = c) (t : rdSame l c0 c1) : rdSame (x :: l) (c :: c0) (y :: c1) := ⟨fun _ => h, t⟩
theorem rs_ow {x : M × D} {l : List (M × D)} {c y : C} {c0 c1 : List C} (h : isRx x = false) (t : rdSame l c0 c1) : rdSame (x :: l) (c :: c0) (y :: c1) := ⟨fun e => (by rw [h] at e; cases e), t⟩
theorem suR_a {b : List UInt8} {a : Nat} (h : swOk b (a : Int) false = true) (h2 : swN b (a : Int) false = ((crc (b.take a) : Nat) : Int)) : suR b (a : Int) false = (swA b (a : Int) false == (b.length : Int)) := by
  rw [swN, if_pos h] at h2
  rw [suR, h, swA, if_pos h, Int.toNat_natCast, decide_eq_true h2]
  simp only [Bool.true_and]
  rfl
theorem suR_b {b : List UInt8} {a : Nat} (h : swOk b (a : Int) false = true) (h2 : ¬ swN b (a : Int) false = ((crc (b.take a) : Nat) : Int)) : suR b (a : Int) false = false := by
  rw [swN, if_pos h] at h2
  rw [suR, h, Int.toNat_natCast, decide_eq_false h2]
  rfl
/-- Bytes are made. -/
theorem mks_bytes {S : St} {K : KW} {l c : Opd} {m : Nat} (hl : S.opd l = .a (.c (.lf (.int .i64 (m : Nat))))) (hc : S.opd c = .a (.c (.lf (.int .i64 (m : Nat))))) (hm : m ≤ 140737488355328) (hK : K (.a (.c (.rf S.next [] 1 0 m))) [] ((S.next, .tr 1 (bD (List.replicate m 0))) :: S.roots) (S.next + 1)) : wr S K (.mks 1 1 [.lf (.int .u8 0)] l c) := by
  simp only [wr, hl, hc]
  refine ⟨trivial, by omega, by omega, by omega, rfl, ?_⟩
  have : List.replicate ((m : Int).toNat) (List.map zeroD [C.lf (.int .u8 0)]) = bD (List.replicate m 0) := by simp [bD, zeroD]
  rw [this, Int.toNat_natCast]
  exact hK
/-- One result. -/
theorem leaves_a {as : List Arg} {res : List (Bool × List D)} {roots rt : List (Nat × Root)} {x : A} (h1 : inB as (inCells as).1 = []) (h2 : ioOf (flat as) 0 = []) (h3 : [x].map (fun x => ((cellsA x).1, (cellsA x).2.length)) = res.map (fun x => (x.1, x.2.length)))
    (h4 : takeAll roots ([x].flatMap fun x => (cellsA x).2) = some (res.flatMap (·.2), rt)) : Leaves as ⟨res, [], []⟩ roots (.a x) := leaves_vals (xs := [x]) h1 h2 h3 h4
end Go.Vs
namespace Go.Vs
set_option linter.unusedVariables false
/-! ## heads read -/
theorem gw_lit {b : List UInt8} {a : Int} {k : Nat} (e : a = (k : Nat)) (h : k + 2 ≤ b.length) : gwOk b a = true ∧ gwA b a = a + 2 ∧ gwN b a = ((getW b k : Nat) : Int) := by
  subst e
  have h1 : gwOk b (k : Int) = true := by simp only [gwOk, Bool.and_eq_true, decide_eq_true_eq]; omega
  exact ⟨h1, by rw [gwA, if_pos h1], by rw [gwN, if_pos h1]; rfl⟩
def ghOk (b : List UInt8) : Bool := decide (b.length = 6) && (decide (getW b 4 = crc (b.take 4)) && (decide (1 ≤ getW b 0 ∧ getW b 0 ≤ 60000) && decide (getW b 2 ≤ 30)))
def ghG (b : List UInt8) : Int := if ghOk b = true then (getW b 0 : Nat) else 0
def ghN (b : List UInt8) : Int := if ghOk b = true then (getW b 2 : Nat) else 0
theorem gh_iff (b : List UInt8) : ghOk b = true ↔ b.length = 6 ∧ getW b 4 = crc (b.take 4) ∧ (1 ≤ getW b 0 ∧ getW b 0 ≤ 60000) ∧ getW b 2 ≤ 30 := by
  simp only [ghOk, Bool.and_eq_true, decide_eq_true_eq]
theorem gh_no {b : List UInt8} (h : ¬ (b.length = 6 ∧ getW b 4 = crc (b.take 4) ∧ (1 ≤ getW b 0 ∧ getW b 0 ≤ 60000) ∧ getW b 2 ≤ 30)) : ghOk b = false ∧ ghG b = 0 ∧ ghN b = 0 := by
  have : ghOk b = false := by rw [Bool.eq_false_iff]; exact fun e => h ((gh_iff b).1 e)
  exact ⟨this, by rw [ghG, this]; rfl, by rw [ghN, this]; rfl⟩
theorem gh_yes {b : List UInt8} (h : b.length = 6 ∧ getW b 4 = crc (b.take 4) ∧ (1 ≤ getW b 0 ∧ getW b 0 ≤ 60000) ∧ getW b 2 ≤ 30) : ghOk b = true ∧ ghG b = (getW b 0 : Nat) ∧ ghN b = (getW b 2 : Nat) := by
  have : ghOk b = true := (gh_iff b).2 h
  exact ⟨this, by rw [ghG, if_pos this], by rw [ghN, if_pos this]⟩
/-- What the scan of a head tells. -/
theorem scan_head (b : List UInt8) : suR b (swA b (swA b 0 false) (!swOk b 0 false)) (!swOk b (swA b 0 false) (!swOk b 0 false)) = (decide (b.length = 6) && decide (getW b 4 = crc (b.take 4))) ∧
    (b.length = 6 → swN b 0 false = (getW b 0 : Nat) ∧ swN b (swA b 0 false) (!swOk b 0 false) = (getW b 2 : Nat)) := by
  by_cases h0 : 2 ≤ b.length
  · obtain ⟨a1, a2, a3⟩ := gw_lit (b := b) (a := 0) (k := 0) rfl (by omega)
    obtain ⟨b1, b2, b3⟩ := sw_yes a1
    rw [b1, b2, b3, a2, a3]
    simp only [Bool.not_true, Int.zero_add]
    by_cases h2 : 4 ≤ b.length
    · obtain ⟨c1, c2, c3⟩ := gw_lit (b := b) (a := 2) (k := 2) rfl (by omega)
      obtain ⟨d1, d2, d3⟩ := sw_yes c1
      rw [d1, d2, d3, c2, c3]
      refine ⟨?_, fun _ => ⟨trivial, rfl⟩⟩
      simp only [Bool.not_true]
      rw [show (2 : Int) + 2 = 4 from rfl]
      by_cases h4 : 6 ≤ b.length
      · obtain ⟨e1, e2, e3⟩ := gw_lit (b := b) (a := 4) (k := 4) rfl (by omega)
        obtain ⟨f1, f2, f3⟩ := sw_yes e1
        rw [suR, f1, e3, show (4 : Int).toNat = 4 from rfl]
        simp only [Bool.true_and, Int.natCast_inj]
        rw [Bool.and_comm]
        congr 1
        apply decide_eq_decide.2
        omega
      · obtain ⟨e1, e2, e3⟩ := gw_no (b := b) (a := 4) (by omega)
        rw [suR, (sw_no e1).1, decide_eq_false (show ¬ b.length = 6 by omega)]
        rfl
    · obtain ⟨c1, c2, c3⟩ := gw_no (b := b) (a := 2) (by omega)
      rw [(sw_no c1).1]
      refine ⟨?_, fun h => by omega⟩
      rw [suR, decide_eq_false (show ¬ b.length = 6 by omega)]
      rfl
  · obtain ⟨a1, a2, a3⟩ := gw_no (b := b) (a := 0) (by omega)
    rw [(sw_no a1).1]
    refine ⟨?_, fun h => by omega⟩
    rw [suR, decide_eq_false (show ¬ b.length = 6 by omega)]
    rfl
end Go.Vs
namespace Go.Vs
set_option linter.unusedVariables false
/-! ## marks -/
section
variable {α : Type} (s : α → Nat) (mk : Nat → α → α)
def szL (l : List α) : Nat := (l.map s).sum
def mkL : Nat → List α → List α
  | _, [] => []
  | n, a :: l => mk n a :: mkL (n + s a) l
theorem szL_nil : szL s [] = 0 := rfl
theorem szL_cons (a : α) (l : List α) : szL s (a :: l) = s a + szL s l := by simp [szL]
theorem szL_take {l : List α} {i : Nat} (h : i < l.length) : szL s (l.take (i + 1)) = szL s (l.take i) + s l[i] := by
  rw [List.take_succ_eq_append_getElem h]; simp only [szL, List.map_append, List.sum_append, List.map_cons, List.map_nil, List.sum_cons, List.sum_nil, Nat.add_zero]
theorem szL_le (l : List α) (i : Nat) : szL s (l.take i) ≤ szL s l := by
  have : szL s l = szL s (l.take i) + szL s (l.drop i) := by
    have e : szL s (l.take i ++ l.drop i) = szL s (l.take i) + szL s (l.drop i) := by simp only [szL, List.map_append, List.sum_append]
    rwa [List.take_append_drop] at e
  omega
theorem mkL_len : ∀ (n : Nat) (l : List α), (mkL s mk n l).length = l.length
  | _, [] => rfl
  | n, a :: l => by simp only [mkL, List.length_cons, mkL_len]
theorem mkL_app : ∀ (n : Nat) (l r : List α), mkL s mk n (l ++ r) = mkL s mk n l ++ mkL s mk (n + szL s l) r
  | n, [], r => by simp [mkL, szL_nil]
  | n, a :: l, r => by simp only [List.cons_append, mkL, mkL_app, szL_cons, Nat.add_assoc]
theorem mkL_take (n : Nat) {l : List α} {i : Nat} (h : i < l.length) : mkL s mk n (l.take (i + 1)) = mkL s mk n (l.take i) ++ [mk (n + szL s (l.take i)) l[i]] := by
  rw [List.take_succ_eq_append_getElem h, mkL_app]; rfl
theorem mkL_get (n : Nat) {l : List α} {i : Nat} (h : i < l.length) : (mkL s mk n l)[i]'(by rw [mkL_len]; exact h) = mk (n + szL s (l.take i)) l[i] := by
  have e : mkL s mk n l = mkL s mk n (l.take i) ++ mkL s mk (n + szL s (l.take i)) (l.drop i) := by rw [← mkL_app, List.take_append_drop]
  have h2 : (mkL s mk n l)[i]? = some (mk (n + szL s (l.take i)) l[i]) := by
    rw [e, List.getElem?_append_right (by rw [mkL_len]; simp; omega), mkL_len, List.length_take, Nat.min_eq_left (by omega), Nat.sub_self, List.drop_eq_getElem_cons h]
    rfl
  rw [List.getElem?_eq_getElem (by rw [mkL_len]; exact h)] at h2
  exact Option.some.inj h2
/-- Half marked. -/
def half (n : Nat) (l : List α) (i : Nat) : List α := mkL s mk n (l.take i) ++ l.drop i
theorem half_len (n : Nat) (l : List α) (i : Nat) : (half s mk n l i).length = l.length := by
  simp only [half, List.length_append, mkL_len, List.length_take, List.length_drop]; omega
theorem half_zero (n : Nat) (l : List α) : half s mk n l 0 = l := rfl
theorem half_all (n : Nat) (l : List α) : half s mk n l l.length = mkL s mk n l := by simp [half]
theorem half_get (n : Nat) {l : List α} {i : Nat} (h : i < l.length) : (half s mk n l i)[i]? = some l[i] := by
  rw [half, List.getElem?_append_right (by rw [mkL_len]; simp; omega), mkL_len, List.length_take, Nat.min_eq_left (by omega), Nat.sub_self, List.getElem?_drop]
  simp [h]
theorem half_set (n : Nat) {l : List α} {i : Nat} (h : i < l.length) : (half s mk n l i).set i (mk (n + szL s (l.take i)) l[i]) = half s mk n l (i + 1) := by
  have hl : (mkL s mk n (l.take i)).length = i := by rw [mkL_len, List.length_take]; omega
  rw [half, half, mkL_take s mk n h, List.set_append_right _ _ (by omega), hl, Nat.sub_self, List.drop_eq_getElem_cons h, List.set_cons_zero, List.append_assoc]
  rfl
end
/-- What a device's cache is. -/
abbrev Wr := Int × List UInt8
def wE (w : Wr) : List D := [.lf (.int .i64 w.1), .sl 1 (bD w.2)]
def wD (l : List Wr) : List (List D) := l.map wE
@[simp] theorem wD_len (l : List Wr) : (wD l).length = l.length := by simp [wD]
theorem wD_get {l : List Wr} {i : Nat} (h : i < l.length) : (wD l)[i]? = some [.lf (.int .i64 l[i].1), .sl 1 (bD l[i].2)] := by simp [wD, h, wE]
theorem sD_get' {l : List (List UInt8)} {i : Nat} {b : List UInt8} (h : l[i]? = some b) : (sD l)[i]? = some [.sl 1 (bD b)] := by simp [sD, h]
theorem wD_get' {l : List Wr} {i : Nat} {w : Wr} (h : l[i]? = some w) : (wD l)[i]? = some [.lf (.int .i64 w.1), .sl 1 (bD w.2)] := by simp [wD, h, wE]
def mkB (n : Nat) (b : List UInt8) : List UInt8 := (List.range b.length).map fun i => UInt8.ofNat (n + i)
def szB (b : List UInt8) : Nat := b.length
def szW (w : Wr) : Nat := 1 + w.2.length
def mkW (n : Nat) (w : Wr) : Wr := ((n : Int), mkB (n + 1) w.2)
theorem mkB_len (n : Nat) (b : List UInt8) : (mkB n b).length = b.length := by simp [mkB]
theorem upd_s {l : List (List UInt8)} {i : Nat} {b c : List UInt8} (h : l[i]? = some b) : updNode (sD l) [(i, 0)] (fun _ => bD c) = sD (l.set i c) := by
  simp only [updNode, setC, sD_get' h, Option.bind_some, List.getElem?_cons_zero, List.set_cons_zero]
  simp [sD, List.map_set]
theorem upd_w {l : List Wr} {i : Nat} {w : Wr} {c : List UInt8} (h : l[i]? = some w) : updNode (wD l) [(i, 1)] (fun _ => bD c) = wD (l.set i (w.1, c)) := by
  simp only [updNode, setC, wD_get' h, Option.bind_some, List.getElem?_cons_zero, List.getElem?_cons_succ, List.set_cons_zero, List.set_cons_succ]
  simp [wD, wE, List.map_set]
theorem set_w {l : List Wr} {i : Nat} {w : Wr} {z : Int} (h : l[i]? = some w) : setD (wD l) [] i 0 (.lf (.int .i64 z)) = wD (l.set i (z, w.2)) := by
  simp only [setD, updNode, setC, wD_get' h, List.set_cons_zero]
  simp [wD, wE, List.map_set]
end Go.Vs
namespace Go.Vs
set_option linter.unusedVariables false
/-! ## nil as a slice of its own -/
theorem rel_nil {N : Nat} {w0 : World} {own0 : Nat → Nat → Prop} {pl0 : Pls} {g : Lab} {pl : Pls} {E : List (Nat × V)} {R : List (Nat × Root)} {n f : Nat} {a : Act} {w : World} (sz : Nat) (hR : Rel N w0 own0 pl0 g pl ⟨E, R, n, f⟩ a w) :
    Rel N w0 own0 pl0 g (plNew pl n fun _ => ⟨true, 0, 0, 0, sz, none⟩) ⟨E, (n, .tr sz []) :: R, n + 1, f⟩ a w := by
  obtain ⟨h1, h2, h3, h4⟩ := hR
  obtain ⟨a1, a2, a3, a4, a5, a6⟩ := h1
  have up : ∀ x v, CR pl n x v → CR (plNew pl n fun _ => ⟨true, 0, 0, 0, sz, none⟩) (n + 1) x v := fun x v h => (h.agree (plNew_agree pl n _)).mono (by omega)
  refine ⟨⟨a1, ?_, ?_, ?_, Nat.le_refl _, ?_⟩, h2, h3, ?_⟩
  · intro b o x hx
    obtain ⟨b1, b2, b3⟩ := a2 b o x hx
    exact ⟨b1, b2, Nat.lt_succ_of_lt b3⟩
  · intro r p hr
    have hlt : r < n := Nat.lt_of_lt_of_le hr a4
    rw [plNew_agree pl n _ r p hlt]
    exact a3 r p hr
  · exact Nat.le_succ_of_le a4
  · intro r x hx
    simp only [get] at hx
    split at hx
    · rename_i e
      subst e
      simp only [Option.some.injEq] at hx
      subst hx
      refine ⟨Nat.lt_succ_self _, ?_⟩
      intro p nd hn
      cases p with
      | nil =>
        simp only [nodeAt, Option.some.injEq] at hn
        subst hn
        refine ⟨⟨by rw [plNew_self], Nat.zero_le _, fun _ => by rw [plNew_self], by simp, by simp⟩, ?_⟩
        intro j hj
        rw [plNew_self] at hj
        simp at hj
      | cons q p => obtain ⟨i, c⟩ := q; simp [nodeAt] at hn
    · rename_i e
      obtain ⟨hr, hok⟩ := a6 r x hx
      refine ⟨Nat.lt_succ_of_lt hr, Keep.root' (w := w) (g := g) (pl := pl) (nx := n) ⟨fun b o q hb => ⟨hb, rfl, rfl⟩, fun _ _ _ => rfl, fun p => plNew_agree pl n _ r p hr⟩ up hok⟩
  · intro t x hx
    exact ((h4 t x hx).agree (plNew_agree pl n _)).mono (Nat.le_succ n)
theorem cr_nil {pl : Pls} {n sz : Nat} {v : Value} (h : v = .slice none 0 0) : CR (plNew pl n fun _ => ⟨true, 0, 0, 0, sz, none⟩) (n + 1) (.rf n [] sz 0 0) v := by
  subst h
  refine ⟨Nat.lt_succ_self _, ?_⟩
  rw [plNew_self]
  exact ⟨rfl, fun _ => rfl, Nat.le_refl _, none, rfl, fun _ => rfl⟩
section
variable {P : Program} {N : Nat} {s : Stm} {Q : Exit → St → Prop} {E : List (Nat × V)} {R : List (Nat × Root)} {n f : Nat}
theorem sw_nl_env {sz : Nat} (t : Nat) (ht : get E t = some (.a (.c (.nl sz)))) (h : Sw P N s ⟨put E t (.a (.c (.rf n [] sz 0 0))), (n, .tr sz []) :: R, n + 1, f⟩ Q) : Sw P N s ⟨E, R, n, f⟩ Q := by
  refine sw_le (T := ⟨put E t (.a (.c (.rf n [] sz 0 0))), (n, .tr sz []) :: R, n + 1, f⟩) ⟨rfl, ?_⟩ h
  intro N w0 own0 pl0 g pl a w hR
  have h4 := hR.env t _ ht
  obtain ⟨b1, b2, b3, b4⟩ := rel_nil sz hR
  refine ⟨_, _, ⟨b1, b2, b3, ?_⟩⟩
  intro u x hx
  rw [get_put] at hx
  split at hx
  · rename_i e
    subst e
    simp only [Option.some.injEq] at hx
    subst hx
    exact cr_nil h4
  · exact b4 u x hx
theorem sw_nl_box {sz : Nat} {cs : List C} (r c : Nat) (hr : get R r = some (.bx cs)) (hc : cs[c]? = some (.nl sz)) (h : Sw P N s ⟨E, (n, .tr sz []) :: put R r (.bx (cs.set c (.rf n [] sz 0 0))), n + 1, f⟩ Q) : Sw P N s ⟨E, R, n, f⟩ Q := by
  refine sw_le (T := ⟨E, (n, .tr sz []) :: put R r (.bx (cs.set c (.rf n [] sz 0 0))), n + 1, f⟩) ⟨rfl, ?_⟩ h
  intro N w0 own0 pl0 g pl a w hR
  have hlt := (hR.hp.roots r _ hr).1
  have hold := (hR.hp.roots r _ hr).2
  obtain ⟨b1, b2, b3, b4⟩ := rel_nil sz hR
  obtain ⟨c1, c2, c3, c4, c5, c6⟩ := b1
  refine ⟨_, _, ⟨⟨c1, c2, c3, c4, c5, ?_⟩, b2, b3, b4⟩⟩
  intro u x hx
  simp only [get] at hx
  split at hx
  · rename_i e
    exact c6 u x (by simp only [get, if_pos e]; exact hx)
  · rename_i e
    rw [get_put] at hx
    split at hx
    · rename_i e2
      subst e2
      simp only [Option.some.injEq] at hx
      subst hx
      have hb := c6 r (.bx cs) (by simp only [get, if_neg e]; exact hr)
      refine ⟨hb.1, ?_⟩
      intro k y hy
      rw [List.getElem?_set] at hy
      split at hy
      · rename_i e3
        subst e3
        split at hy
        · simp only [Option.some.injEq] at hy
          subst hy
          obtain ⟨v, d1, d2, d3, d4⟩ := hb.2 c _ hc
          obtain ⟨v', e1, e2, _, _⟩ := hold c _ hc
          have hp : plNew pl n (fun _ => ⟨true, 0, 0, 0, sz, none⟩) r [] = pl r [] := plNew_agree pl n _ r [] hlt
          rw [hp] at d1 d3 d4 ⊢
          exact ⟨v, d1, cr_nil d2, d3, d4⟩
        · simp at hy
      · exact hb.2 k y hy
    · exact c6 u x (by simp only [get, if_neg e]; exact hx)
end
theorem leaves_ioa {asl : List Arg} {res : List (Bool × List D)} {io : List (Nat × List (List D))} {roots rt : List (Nat × Root)} {x : A} (h1 : inB asl (inCells asl).1 = []) (h3 : [x].map (fun x => ((cellsA x).1, (cellsA x).2.length)) = res.map (fun x => (x.1, x.2.length)))
    (h4 : takeAll roots ([x].flatMap fun x => (cellsA x).2) = some (res.flatMap (·.2), rt)) (h2 : All2 (fun (x : Nat × Nat × Nat) (o : Nat × List (List D)) => get rt x.1 = some (.tr o.1 o.2) ∧ o.1 = x.2.1 ∧ o.2.length = x.2.2) (ioOf (flat asl) 0) io) : Leaves asl ⟨res, io, []⟩ roots (.a x) := leaves_io (xs := [x]) h1 h3 h4 h2
end Go.Vs
namespace Go.Vs
set_option linter.unusedVariables false
set_option linter.unusedSimpArgs false
/-! ## elements that are appended -/
theorem app_elem {S : St} {K : KW} {zero : List C} {x y : Opd} {r ry n sz bytes : Nat} {es : List (List D)} {e : List D} (hx : S.opd x = .a (.c (.rf r [] sz 0 n))) (hr : get S.roots r = some (.tr sz es)) (hn : n = es.length) (hy : S.opd y = .a (.c (.rf ry [] sz 0 1))) (hne : ry ≠ r) (hry : get S.roots ry = some (.tr sz [e])) (hb : (es.length + 1) * bytes ≤ 140737488355328)
    (hK : K (.a (.c (.rf S.next [] sz 0 (es.length + 1)))) [] ((S.next, .tr sz (es ++ [e])) :: put (del S.roots r) ry (.tr sz (holeWin 0 1 [e]))) (S.next + 1)) : wr S K (.app sz bytes zero x y) := by
  refine ⟨(sz, es, some r), ?_, rfl, ?_⟩
  · simp only [baseOf, hx, hr, hn]
    simp
  · simp only [hy]
    refine ⟨trivial, by simpa using hne, by simpa using hb, [e], ?_, by simp, .inr ⟨sz, [e], hry, ?_⟩⟩
    · rw [St.node, hry]; rfl
    · simpa [updNode, delO] using hK
theorem sD_snoc (l : List (List UInt8)) (c : List UInt8) : sD l ++ [[.sl 1 (bD c)]] = sD (l ++ [c]) := by simp [sD]
theorem wD_snoc (l : List Wr) (w : Wr) : wD l ++ [[.lf (.int .i64 w.1), .sl 1 (bD w.2)]] = wD (l ++ [w]) := by simp [wD, wE]
theorem mks_slices {S : St} {K : KW} {l c : Opd} {m bytes : Nat} (hl : S.opd l = .a (.c (.lf (.int .i64 (m : Nat))))) (hc : S.opd c = .a (.c (.lf (.int .i64 (m : Nat))))) (hm : m * bytes ≤ 140737488355328) (hm2 : m ≤ 140737488355328) (hK : K (.a (.c (.rf S.next [] 1 0 m))) [] ((S.next, .tr 1 (sD (List.replicate m []))) :: S.roots) (S.next + 1)) : wr S K (.mks 1 bytes [.nl 1] l c) := by
  simp only [wr, hl, hc]
  refine ⟨trivial, by omega, ?_, by omega, rfl, ?_⟩
  · have : (m : Int) * (bytes : Int) = ((m * bytes : Nat) : Int) := by simp
    omega
  have : List.replicate ((m : Int).toNat) (List.map zeroD [C.nl 1]) = sD (List.replicate m []) := by simp [sD, zeroD, bD]
  rw [this, Int.toNat_natCast]
  exact hK
/-! ## a new device -/
def newS (n : Int) : List (List UInt8) := if 1 ≤ n ∧ n ≤ 64 then List.replicate n.toNat [] else []
def newF (n : Int) : Int := if 1 ≤ n ∧ n ≤ 64 then -1 else 0
theorem newS_yes {n : Nat} (h : 1 ≤ (n : Int) ∧ (n : Int) ≤ 64) : newS n = List.replicate n [] ∧ newF n = -1 := ⟨by rw [newS, if_pos h, Int.toNat_natCast], if_pos h⟩
theorem newS_no {n : Int} (h : ¬ (1 ≤ n ∧ n ≤ 64)) : newS n = [] ∧ newF n = 0 := ⟨if_neg h, if_neg h⟩
theorem newS_mem {n : Int} {b : List UInt8} (h : b ∈ newS n) : b = [] := by
  unfold newS at h
  split at h
  · exact List.eq_of_mem_replicate h
  · cases h
theorem newS_len (n : Int) : (newS n).length ≤ 64 := by
  unfold newS
  split
  · simp; omega
  · simp
theorem newS_sz (n : Int) : szL szB (newS n) = 0 := by
  unfold newS
  split
  · simp [szL, szB]
  · rfl
end Go.Vs
namespace Go.Vs
set_option linter.unusedVariables false
set_option linter.unusedSimpArgs false
/-! ## slices that are stored in elements -/
theorem hasCell_of {sz0 : Nat} {es : List (List D)} {p : Path} {i c : Nat} {m : Nat × List (List D)} {e : List D} (hn : nodeAt sz0 es p = some m) (he : m.2[i]? = some e) (hc : c < e.length) : hasCell sz0 es p i c = true := by
  simp [hasCell, hn, he, hc]
theorem st_slice {S : St} {K : KW} {x v : Opd} {r i c sz0 ry sz n : Nat} {p : Path} {es ys : List (List D)} {m : Nat × List (List D)} {e : List D} (hx : S.opd x = .a (.c (.pe r p i c))) (hv : S.opd v = .a (.c (.rf ry [] sz 0 n))) (hr : get S.roots r = some (.tr sz0 es)) (hy : get S.roots ry = some (.tr sz ys)) (hny : n = ys.length) (hne : ry ≠ r) (hn : nodeAt sz0 es p = some m) (he : m.2[i]? = some e) (hc : c < e.length) (hfix : S.fix ≤ r)
    (hK : K .un [(r, p ++ [(i, c)])] (put (killRoots r (p ++ [(i, c)]) (del S.roots ry)) r (.tr sz0 (setD es p i c (.sl sz ys)))) S.next) : wr S K (.store 1 x v) := by
  subst hny
  simp only [wr, hx, hv]
  refine ⟨[.rf ry [] sz 0 ys.length], rfl, rfl, e, ?_, by omega, ⟨sz0, es, hr⟩, (_, _), ?_, hK⟩
  · simp only [St.node, hr, hn, Option.bind_some]
    exact he
  · have hr1 : get (del S.roots ry) r = some (.tr sz0 es) := by rw [get_del, if_neg hne, hr]
    have hh : hasCell sz0 es p i c = true := hasCell_of hn he hc
    simp only [storeT, killCs, takeC, hy, nodeAt, and_self, Nat.le_refl, if_true, List.take_length, cutR, hr1, List.length_nil, Nat.add_zero, hh, hfix, List.nil_append]
/-- A number and a slice of an element are stored. -/
theorem st_pair {S : St} {K : KW} {x v : Opd} {r i sz0 ry sz n : Nat} {u : Value} {es ys : List (List D)} {d0 d1 : D} (hx : S.opd x = .a (.c (.pe r [] i 0))) (hv : S.opd v = .a (.ag [.lf u, .rf ry [] sz 0 n])) (hr : get S.roots r = some (.tr sz0 es)) (hy : get S.roots ry = some (.tr sz ys)) (hny : n = ys.length) (hne : ry ≠ r) (he : es[i]? = some [d0, d1]) (hfix : S.fix ≤ r)
    (hK : K .un [(r, [(i, 1)])] (put (killRoots r [(i, 1)] (del (put S.roots r (.tr sz0 (es.set i [.lf u, d1]))) ry)) r (.tr sz0 (es.set i [.lf u, .sl sz ys]))) S.next) : wr S K (.store 2 x v) := by
  subst hny
  simp only [wr, hx, hv]
  have hlt : i < es.length := (List.getElem?_eq_some_iff.1 he).1
  refine ⟨[.lf u, .rf ry [] sz 0 ys.length], rfl, rfl, [d0, d1], ?_, by simp, ⟨sz0, es, hr⟩, (_, _), ?_, hK⟩
  · simp only [St.node, hr, nodeAt, Option.bind_some]
    exact he
  · have e1 : setD es [] i 0 (.lf u) = es.set i [.lf u, d1] := by simp [setD, updNode, setC, he]
    have hy1 : get (put S.roots r (.tr sz0 (es.set i [.lf u, d1]))) ry = some (.tr sz ys) := by rw [get_put, if_neg (fun e => hne e.symm), hy]
    have hr1 : get (del (put S.roots r (.tr sz0 (es.set i [.lf u, d1]))) ry) r = some (.tr sz0 (es.set i [.lf u, d1])) := by rw [get_del, if_neg hne, get_put, if_pos rfl]
    have hg : (es.set i [.lf u, d1])[i]? = some [.lf u, d1] := by rw [List.getElem?_set_self hlt]
    have hh : hasCell sz0 (es.set i [.lf u, d1]) [] i 1 = true := by simp [hasCell, nodeAt, hg]
    have e2 : setD (es.set i [.lf u, d1]) [] i 1 (.sl sz ys) = es.set i [.lf u, .sl sz ys] := by simp [setD, updNode, setC, hg, List.set_set]
    simp only [storeT, killCs, hr, e1, takeC, hy1, nodeAt, and_self, Nat.le_refl, if_true, List.take_length, cutR, hr1, List.length_nil, Nat.add_zero, Nat.zero_add, hh, hfix, List.nil_append, e2]
theorem sD_setS (l : List (List UInt8)) (i : Nat) (c : List UInt8) (h : i < l.length) : setD (sD l) [] i 0 (.sl 1 (bD c)) = sD (l.set i c) := by
  simp only [setD, updNode, setC, sD_get h, List.set_cons_zero]
  simp [sD, List.map_set]
theorem wD_setP (l : List Wr) (i : Nat) (w : Wr) : (wD l).set i [.lf (.int .i64 w.1), .sl 1 (bD w.2)] = wD (l.set i w) := by
  simp [wD, wE, List.map_set]
theorem mks_wr {S : St} {K : KW} {l c : Opd} {m bytes : Nat} (hl : S.opd l = .a (.c (.lf (.int .i64 (m : Nat))))) (hc : S.opd c = .a (.c (.lf (.int .i64 (m : Nat))))) (hm : m * bytes ≤ 140737488355328) (hm2 : m ≤ 140737488355328) (hK : K (.a (.c (.rf S.next [] 2 0 m))) [] ((S.next, .tr 2 (wD (List.replicate m (0, [])))) :: S.roots) (S.next + 1)) : wr S K (.mks 2 bytes [.lf (.int .i64 0), .nl 1] l c) := by
  simp only [wr, hl, hc]
  refine ⟨trivial, by omega, ?_, by omega, rfl, ?_⟩
  · have : (m : Int) * (bytes : Int) = ((m * bytes : Nat) : Int) := by simp
    omega
  have : List.replicate ((m : Int).toNat) (List.map zeroD [C.lf (.int .i64 0), C.nl 1]) = wD (List.replicate m (0, [])) := by simp [wD, wE, zeroD, bD]
  rw [this, Int.toNat_natCast]
  exact hK
theorem pre_no (i c : Nat) : ([(i, c)] <+: ([] : Path)) = False := by simp
/-! ## how great data are -/
def szE (w : Wr) : Nat := w.2.length
def szSS (l : List (List UInt8)) : Nat := l.length + szL szB l
def szWS (l : List Wr) : Nat := l.length + szL szE l
theorem szSS_mem {l : List (List UInt8)} {b : List UInt8} (h : b ∈ l) : b.length ≤ szSS l := by
  obtain ⟨i, hi, rfl⟩ := List.getElem_of_mem h
  have h1 := szL_take szB hi
  have h2 := szL_le szB l (i + 1)
  simp only [szB] at h1
  simp only [szSS]
  omega
theorem szWS_mem {l : List Wr} {w : Wr} (h : w ∈ l) : w.2.length ≤ szWS l := by
  obtain ⟨i, hi, rfl⟩ := List.getElem_of_mem h
  have h1 := szL_take szE hi
  have h2 := szL_le szE l (i + 1)
  simp only [szE] at h1
  simp only [szWS]
  omega
/-! ## devices that are right -/
def devOk (secs : List (List UInt8)) (cache : List Wr) (fuse : Int) : Bool := decide ((1 ≤ secs.length ∧ secs.length ≤ 64) ∧ cache.length ≤ 40 ∧ (-1 ≤ fuse ∧ fuse ≤ 1000) ∧ (∀ b ∈ secs, b.length ≤ 120) ∧ ∀ w ∈ cache, 0 ≤ w.1 ∧ w.1 ≤ (secs.length : Int) - 1 ∧ w.2.length ≤ 120)
theorem all_upto {α : Type} {l : List α} {p : α → Prop} (h : ∀ j (hj : j < l.length), p l[j]) : ∀ a ∈ l, p a := by
  intro a ha
  obtain ⟨i, hi, rfl⟩ := List.getElem_of_mem ha
  exact h i hi
end Go.Vs
namespace Go.Vs
set_option linter.unusedVariables false
set_option linter.unusedSimpArgs false
/-! ## slices that are read in a call -/
theorem see_bytes {roots : List (Nat × Root)} {r n : Nat} {p : Path} {b : List UInt8} (hn : nodeIn roots r p = some (1, bD b)) (hb : n = b.length) : seesC roots (.rf r p 1 0 n) (.sl 1 (bD b)) := ⟨rfl, .inl rfl, bD b, hn, by simp [hb], by simp [hb]⟩
theorem see_sb1 {roots : List (Nat × Root)} {r : Nat} {c : C} {b : List UInt8} (hr : get roots r = some (.bx [c])) (h : seesC roots c (.sl 1 (bD b))) : seesV roots (.sb r 1) (false, [.sl 1 (sD [b])]) := ⟨[c], hr, rfl, rfl, ⟨⟨_, rfl, h⟩, trivial⟩⟩
theorem see_sb2 {roots : List (Nat × Root)} {r : Nat} {c d : C} {b e : List UInt8} (hr : get roots r = some (.bx [c, d])) (h : seesC roots c (.sl 1 (bD b))) (h2 : seesC roots d (.sl 1 (bD e))) : seesV roots (.sb r 2) (false, [.sl 1 (sD [b, e])]) := ⟨[c, d], hr, rfl, rfl, ⟨⟨_, rfl, h⟩, ⟨_, rfl, h2⟩, trivial⟩⟩
theorem szL_W : ∀ l : List Wr, szL szW l = szWS l
  | [] => rfl
  | w :: l => by
    have := szL_W l
    simp only [szWS, szL_cons, List.length_cons, szW, szE] at this ⊢
    omega
/-! ## a sector as it reads -/
def rdL (l : List Wr) (n : Int) (b : List UInt8) : List UInt8 := l.foldl (fun b w => if w.1 = n then w.2 else b) b
theorem rdL_hit {l : List Wr} {n : Int} {b : List UInt8} {i : Nat} (h : i < l.length) (hw : l[i].1 = n) : rdL (l.take (i + 1)) n b = l[i].2 := by
  rw [List.take_succ_eq_append_getElem h]
  simp only [rdL, List.foldl_append, List.foldl_cons, List.foldl_nil, hw, if_true]
theorem rdL_miss {l : List Wr} {n : Int} {b : List UInt8} {i : Nat} (h : i < l.length) (hw : ¬ l[i].1 = n) : rdL (l.take (i + 1)) n b = rdL (l.take i) n b := by
  rw [List.take_succ_eq_append_getElem h]
  simp only [rdL, List.foldl_append, List.foldl_cons, List.foldl_nil, hw, if_false]
theorem rdL_mem (l : List Wr) (n : Int) (b : List UInt8) : rdL l n b = b ∨ ∃ w ∈ l, rdL l n b = w.2 := by
  induction l generalizing b with
  | nil => exact .inl rfl
  | cons w l ih =>
    have e : rdL (w :: l) n b = rdL l n (if w.1 = n then w.2 else b) := rfl
    rw [e]
    rcases ih (if w.1 = n then w.2 else b) with h | ⟨x, hx, h⟩
    · rw [h]
      split
      · exact .inr ⟨w, List.mem_cons_self, rfl⟩
      · exact .inl rfl
    · exact .inr ⟨x, List.mem_cons_of_mem _ hx, h⟩
def rdSec (secs : List (List UInt8)) (cache : List Wr) (fuse n : Int) : List UInt8 := if devOk secs cache fuse = true ∧ 0 ≤ n ∧ n ≤ (secs.length : Int) - 1 then rdL cache n (secs.getD n.toNat []) else []
theorem rdSec_yes {secs : List (List UInt8)} {cache : List Wr} {fuse : Int} {k : Nat} (h : devOk secs cache fuse = true) (hk : k < secs.length) : rdSec secs cache fuse k = rdL cache k secs[k] := by
  rw [rdSec, if_pos ⟨h, by omega, by omega⟩, Int.toNat_natCast]
  simp [List.getD_eq_getElem?_getD, hk]
theorem rdSec_no {secs : List (List UInt8)} {cache : List Wr} {fuse n : Int} (h : ¬ (devOk secs cache fuse = true ∧ 0 ≤ n ∧ n ≤ (secs.length : Int) - 1)) : rdSec secs cache fuse n = [] := if_neg h
theorem rdSec_len {secs : List (List UInt8)} {cache : List Wr} {fuse n : Int} {m : Nat} (hs : ∀ b ∈ secs, b.length ≤ m) (hc : ∀ w ∈ cache, w.2.length ≤ m) : (rdSec secs cache fuse n).length ≤ m := by
  unfold rdSec
  split
  · rename_i h
    rcases rdL_mem cache n (secs.getD n.toNat []) with e | ⟨w, hw, e⟩
    · rw [e]
      have hk : n.toNat < secs.length := by omega
      have : secs.getD n.toNat [] = secs[n.toNat] := by simp [List.getD_eq_getElem?_getD, hk]
      rw [this]
      exact hs _ (List.getElem_mem hk)
    · rw [e]; exact hc w hw
  · simp
end Go.Vs
namespace Go.Vs
set_option linter.unusedVariables false
/-! ## a device that is written -/
def opF (fuse : Int) : Int := if fuse = 0 then -1 else if 0 < fuse then fuse - 1 else fuse
def opD (fuse : Int) (down : Bool) : Bool := if fuse = 0 then true else down
def opR (fuse : Int) : Bool := !(fuse == 0)
theorem op_zero {fuse : Int} {down : Bool} (h : fuse = 0) : opF fuse = -1 ∧ opD fuse down = true ∧ opR fuse = false := by
  subst h; exact ⟨rfl, rfl, rfl⟩
theorem op_pos {fuse : Int} {down : Bool} (h : ¬ fuse = 0) : opD fuse down = down ∧ opR fuse = true := by
  refine ⟨if_neg h, ?_⟩
  simp [opR, h]
def wrC (secs : List (List UInt8)) (cache : List Wr) (fuse : Int) (down : Bool) (n : Int) (b : List UInt8) : List Wr × Int × Bool :=
  if down = true ∨ ¬ (0 ≤ n ∧ n ≤ (secs.length : Int) - 1) ∨ 120 < b.length ∨ 40 ≤ cache.length then (cache, fuse, down) else if fuse = 0 then (cache, -1, true) else (cache ++ [(n, b)], opF fuse, down)
theorem wrC_no {secs : List (List UInt8)} {cache : List Wr} {fuse : Int} {down : Bool} {n : Int} {b : List UInt8} (h : down = true ∨ ¬ (0 ≤ n ∧ n ≤ (secs.length : Int) - 1) ∨ 120 < b.length ∨ 40 ≤ cache.length) : wrC secs cache fuse down n b = (cache, fuse, down) := if_pos h
theorem wrC_zero {secs : List (List UInt8)} {cache : List Wr} {fuse : Int} {down : Bool} {n : Int} {b : List UInt8} (h : ¬ (down = true ∨ ¬ (0 ≤ n ∧ n ≤ (secs.length : Int) - 1) ∨ 120 < b.length ∨ 40 ≤ cache.length)) (hf : fuse = 0) : wrC secs cache fuse down n b = (cache, -1, true) := by
  rw [wrC, if_neg h, if_pos hf]
theorem wrC_yes {secs : List (List UInt8)} {cache : List Wr} {fuse : Int} {down : Bool} {n : Int} {b : List UInt8} (h : ¬ (down = true ∨ ¬ (0 ≤ n ∧ n ≤ (secs.length : Int) - 1) ∨ 120 < b.length ∨ 40 ≤ cache.length)) (hf : ¬ fuse = 0) : wrC secs cache fuse down n b = (cache ++ [(n, b)], opF fuse, down) := by
  rw [wrC, if_neg h, if_neg hf]
def wrDev (secs : List (List UInt8)) (cache : List Wr) (fuse : Int) (down : Bool) (n : Int) (b : List UInt8) : List Wr × Int × Bool := if devOk secs cache fuse = true then wrC secs cache fuse down n b else (cache, fuse, down)
theorem wrDev_ok {secs : List (List UInt8)} {cache : List Wr} {fuse : Int} {down : Bool} {n : Int} {b : List UInt8} (h : devOk secs cache fuse = true) : wrDev secs cache fuse down n b = wrC secs cache fuse down n b := if_pos h
theorem wrDev_no {secs : List (List UInt8)} {cache : List Wr} {fuse : Int} {down : Bool} {n : Int} {b : List UInt8} (h : devOk secs cache fuse = false) : wrDev secs cache fuse down n b = (cache, fuse, down) := by rw [wrDev, h]; rfl
theorem dev_of {secs : List (List UInt8)} {cache : List Wr} {fuse : Int} (h : devOk secs cache fuse = true) : (1 ≤ secs.length ∧ secs.length ≤ 64) ∧ cache.length ≤ 40 ∧ (-1 ≤ fuse ∧ fuse ≤ 1000) ∧ (∀ b ∈ secs, b.length ≤ 120) ∧ ∀ w ∈ cache, 0 ≤ w.1 ∧ w.1 ≤ (secs.length : Int) - 1 ∧ w.2.length ≤ 120 := of_decide_eq_true h
theorem wrDev_cases (secs : List (List UInt8)) (cache : List Wr) (fuse : Int) (down : Bool) (n : Int) (b : List UInt8) : (wrDev secs cache fuse down n b).1 = cache ∨ (wrDev secs cache fuse down n b).1 = cache ++ [(n, b)] := by
  unfold wrDev wrC
  repeat' split
  all_goals first | exact .inl rfl | exact .inr rfl
end Go.Vs
namespace Go.Vs
set_option linter.unusedVariables false
set_option linter.unusedSimpArgs false
/-! ## a device that is flushed -/
/-- A slice that lies in an element of one tree is moved into an element of another. -/
theorem st_slice_in {S : St} {K : KW} {x v : Opd} {r i c sz0 ry iy cy szy sz n : Nat} {p : Path} {es ys esy : List (List D)} {m : Nat × List (List D)} {e ey : List D} (hx : S.opd x = .a (.c (.pe r p i c))) (hv : S.opd v = .a (.c (.rf ry [(iy, cy)] sz 0 n))) (hr : get S.roots r = some (.tr sz0 es)) (hy : get S.roots ry = some (.tr szy esy)) (hey : esy[iy]? = some ey) (hcy : ey[cy]? = some (.sl sz ys)) (hny : n = ys.length) (hne : ry ≠ r) (hn : nodeAt sz0 es p = some m) (he : m.2[i]? = some e) (hc : c < e.length) (hfix : S.fix ≤ r)
    (hK : K .un [(r, p ++ [(i, c)])] (put (killRoots r (p ++ [(i, c)]) (put S.roots ry (.tr szy (setD esy [] iy cy .hole)))) r (.tr sz0 (setD es p i c (.sl sz ys)))) S.next) : wr S K (.store 1 x v) := by
  subst hny
  simp only [wr, hx, hv]
  refine ⟨[.rf ry [(iy, cy)] sz 0 ys.length], rfl, rfl, e, ?_, by omega, ⟨sz0, es, hr⟩, (_, _), ?_, hK⟩
  · simp only [St.node, hr, hn, Option.bind_some]
    exact he
  · have hr1 : get (put S.roots ry (.tr szy (setD esy [] iy cy .hole))) r = some (.tr sz0 es) := by rw [get_put, if_neg (fun h => hne h), hr]
    have hh : hasCell sz0 es p i c = true := hasCell_of hn he hc
    have hnd : nodeAt szy esy [(iy, cy)] = some (sz, ys) := by simp only [nodeAt, hey, hcy, Option.bind_some]
    have hcut : cutAt esy [(iy, cy)] = setD esy [] iy cy .hole := rfl
    simp only [storeT, killCs, takeC, hy, hnd, and_self, Nat.le_refl, if_true, List.take_length, cutR, hcut, hr1, List.length_nil, Nat.add_zero, hh, hfix, List.nil_append]
/-- A cache whose first slices are moved away. -/
def wH (l : List Wr) (i : Nat) : List (List D) := (l.take i).map (fun w => [.lf (.int .i64 w.1), .hole]) ++ wD (l.drop i)
theorem wH_zero (l : List Wr) : wH l 0 = wD l := rfl
@[simp] theorem wH_len (l : List Wr) (i : Nat) : (wH l i).length = l.length := by simp [wH]; omega
theorem wH_get {l : List Wr} {i : Nat} (h : i < l.length) : (wH l i)[i]? = some [.lf (.int .i64 l[i].1), .sl 1 (bD l[i].2)] := by
  have hl : ((l.take i).map (fun w => [D.lf (.int .i64 w.1), .hole])).length = i := by simp; omega
  rw [wH, List.getElem?_append_right (by omega), hl, Nat.sub_self, wD_get (by simp; omega)]
  simp
theorem wH_set {l : List Wr} {i : Nat} (h : i < l.length) : setD (wH l i) [] i 1 .hole = wH l (i + 1) := by
  have hl : ((l.take i).map (fun w => [D.lf (.int .i64 w.1), .hole])).length = i := by simp; omega
  simp only [setD, updNode, setC, wH_get h, List.set_cons_succ, List.set_cons_zero]
  rw [wH, wH, List.set_append_right _ _ (by omega), hl, Nat.sub_self, List.drop_eq_getElem_cons h, List.take_succ_eq_append_getElem h]
  simp only [wD, wE, List.map_cons, List.set_cons_zero, List.map_append, List.map_nil, List.append_assoc, List.singleton_append]
def flL (s : List (List UInt8)) (l : List Wr) : List (List UInt8) := l.foldl (fun s w => s.set w.1.toNat w.2) s
@[simp] theorem flL_len (s : List (List UInt8)) (l : List Wr) : (flL s l).length = s.length := by
  induction l generalizing s with
  | nil => rfl
  | cons w l ih => simp only [flL, List.foldl_cons] at ih ⊢; rw [ih]; simp
theorem flL_take {s : List (List UInt8)} {l : List Wr} {i k : Nat} (h : i < l.length) (hk : l[i].1 = (k : Int)) : flL s (l.take (i + 1)) = (flL s (l.take i)).set k l[i].2 := by
  rw [List.take_succ_eq_append_getElem h]
  simp only [flL, List.foldl_append, List.foldl_cons, List.foldl_nil, hk, Int.toNat_natCast]
theorem flL_mem {m : Nat} : ∀ {l : List Wr} {s : List (List UInt8)}, (∀ b ∈ s, b.length ≤ m) → (∀ w ∈ l, w.2.length ≤ m) → ∀ b ∈ flL s l, b.length ≤ m
  | [], s, hs, hl => hs
  | w :: l, s, hs, hl => by
    refine flL_mem (l := l) (s := s.set w.1.toNat w.2) (fun b hb => ?_) (fun x hx => hl x (List.mem_cons_of_mem _ hx))
    rcases List.mem_or_eq_of_mem_set hb with h | h
    · exact hs b h
    · rw [h]; exact hl w List.mem_cons_self
abbrev Dv := List (List UInt8) × List Wr × Int × Bool
def flC (secs : List (List UInt8)) (cache : List Wr) (fuse : Int) (down : Bool) : Dv :=
  if down = true then (secs, cache, fuse, down) else if fuse = 0 then (secs, cache, -1, true) else (flL secs cache, [], opF fuse, down)
theorem flC_no {secs : List (List UInt8)} {cache : List Wr} {fuse : Int} {down : Bool} (h : down = true) : flC secs cache fuse down = (secs, cache, fuse, down) := if_pos h
theorem flC_zero {secs : List (List UInt8)} {cache : List Wr} {fuse : Int} (h : fuse = 0) : flC secs cache fuse false = (secs, cache, -1, true) := by rw [flC, if_neg (by decide), if_pos h]
theorem flC_yes {secs : List (List UInt8)} {cache : List Wr} {fuse : Int} (h : ¬ fuse = 0) : flC secs cache fuse false = (flL secs cache, [], opF fuse, false) := by rw [flC, if_neg (by decide), if_neg h]
def flDev (secs : List (List UInt8)) (cache : List Wr) (fuse : Int) (down : Bool) : Dv := if devOk secs cache fuse = true then flC secs cache fuse down else (secs, cache, fuse, down)
theorem flDev_ok {secs : List (List UInt8)} {cache : List Wr} {fuse : Int} {down : Bool} (h : devOk secs cache fuse = true) : flDev secs cache fuse down = flC secs cache fuse down := if_pos h
theorem flDev_no {secs : List (List UInt8)} {cache : List Wr} {fuse : Int} {down : Bool} (h : devOk secs cache fuse = false) : flDev secs cache fuse down = (secs, cache, fuse, down) := by rw [flDev, h]; rfl
end Go.Vs
namespace Go.Vs
set_option linter.unusedVariables false
/-! ## bounds -/
theorem szL_mul {α : Type} (s : α → Nat) (m : Nat) : ∀ (l : List α), (∀ a ∈ l, s a ≤ m) → szL s l ≤ l.length * m
  | [], _ => by simp [szL]
  | a :: l, h => by
    have h1 := h a List.mem_cons_self
    have h2 := szL_mul s m l fun x hx => h x (List.mem_cons_of_mem _ hx)
    rw [szL_cons, List.length_cons, Nat.add_mul, Nat.one_mul]
    omega
/-- A device whose parts are all small. -/
def SmD (x : Dv) : Prop := x.1.length ≤ 1048576 ∧ (∀ b ∈ x.1, b.length ≤ 1048576) ∧ x.2.1.length ≤ 1048577 ∧ ∀ w ∈ x.2.1, w.2.length ≤ 1048576
theorem smD_sz {x : Dv} (h : SmD x) : szL szB x.1 ≤ 1099511627776 ∧ szL szW x.2.1 ≤ 1099513724929 := by
  obtain ⟨h1, h2, h3, h4⟩ := h
  have a1 := szL_mul szB 1048576 x.1 h2
  have a2 := szL_mul szW 1048577 x.2.1 fun w hw => by have := h4 w hw; simp only [szW]; omega
  refine ⟨Nat.le_trans a1 ?_, Nat.le_trans a2 ?_⟩
  · exact Nat.le_trans (Nat.mul_le_mul_right _ h1) (by decide)
  · exact Nat.le_trans (Nat.mul_le_mul_right _ h3) (by decide)
theorem flDev_sm {secs : List (List UInt8)} {cache : List Wr} {fuse : Int} {down : Bool} (hl : secs.length ≤ 1048576) (hb : ∀ b ∈ secs, b.length ≤ 1048576) (hm : cache.length ≤ 1048576) (hc : ∀ w ∈ cache, w.2.length ≤ 1048576) : SmD (flDev secs cache fuse down) := by
  have h0 : ∀ f d, SmD (secs, cache, f, d) := fun f d => ⟨hl, hb, Nat.le_succ_of_le hm, hc⟩
  unfold flDev flC
  split
  · split
    · exact h0 _ _
    · split
      · exact h0 _ _
      · exact ⟨by simpa using hl, flL_mem hb hc, by simp, by simp⟩
  · exact h0 _ _
/-! ## a device that falls -/
/-- Does the mask keep what was written as the i-th? -/
def kept (n : Int) (i : Nat) : Bool := decide (i < 30) && (Int.toNat n / 2 ^ i % 2 == 1)
def faL (n : Int) : Nat → List (List UInt8) → List Wr → List (List UInt8)
  | _, s, [] => s
  | i, s, w :: l => faL n (i + 1) (if kept n i then s.set w.1.toNat w.2 else s) l
theorem faL_len (n : Int) : ∀ (l : List Wr) (i : Nat) (s : List (List UInt8)), (faL n i s l).length = s.length
  | [], _, _ => rfl
  | w :: l, i, s => by simp only [faL]; rw [faL_len]; split <;> simp
theorem faL_app (n : Int) : ∀ (l r : List Wr) (i : Nat) (s : List (List UInt8)), faL n i s (l ++ r) = faL n (i + l.length) (faL n i s l) r
  | [], r, i, s => by simp [faL]
  | w :: l, r, i, s => by simp only [List.cons_append, faL, faL_app n l r, List.length_cons]; rw [show i + 1 + l.length = i + (l.length + 1) by omega]
theorem faL_take {n : Int} {s : List (List UInt8)} {l : List Wr} {i k : Nat} (h : i < l.length) (hk : l[i].1 = (k : Int)) : faL n 0 s (l.take (i + 1)) = if kept n i then (faL n 0 s (l.take i)).set k l[i].2 else faL n 0 s (l.take i) := by
  rw [List.take_succ_eq_append_getElem h, faL_app]
  have hl : (l.take i).length = i := by simp; omega
  simp only [faL, hl, Nat.zero_add, hk, Int.toNat_natCast]
theorem faL_mem {n : Int} {m : Nat} : ∀ {l : List Wr} {i : Nat} {s : List (List UInt8)}, (∀ b ∈ s, b.length ≤ m) → (∀ w ∈ l, w.2.length ≤ m) → ∀ b ∈ faL n i s l, b.length ≤ m
  | [], _, s, hs, hl => hs
  | w :: l, i, s, hs, hl => by
    refine faL_mem (l := l) (fun b hb => ?_) (fun x hx => hl x (List.mem_cons_of_mem _ hx))
    split at hb
    · rcases List.mem_or_eq_of_mem_set hb with h | h
      · exact hs b h
      · rw [h]; exact hl w List.mem_cons_self
    · exact hs b hb
def faN (n : Int) : Int := if 0 ≤ n ∧ n ≤ 1073741823 then n else 0
def faDev (secs : List (List UInt8)) (cache : List Wr) (fuse : Int) (down : Bool) (n : Int) : Dv :=
  if devOk secs cache fuse = true then (faL (faN n) 0 secs cache, [], -1, false) else (secs, cache, fuse, down)
theorem faDev_ok {secs : List (List UInt8)} {cache : List Wr} {fuse : Int} {down : Bool} {n : Int} (h : devOk secs cache fuse = true) : faDev secs cache fuse down n = (faL (faN n) 0 secs cache, [], -1, false) := if_pos h
theorem faDev_no {secs : List (List UInt8)} {cache : List Wr} {fuse : Int} {down : Bool} {n : Int} (h : devOk secs cache fuse = false) : faDev secs cache fuse down n = (secs, cache, fuse, down) := by rw [faDev, h]; rfl
theorem faN_yes {n : Int} (h : 0 ≤ n ∧ n ≤ 1073741823) : faN n = n := if_pos h
theorem faN_no {n : Int} (h : ¬ (0 ≤ n ∧ n ≤ 1073741823)) : faN n = 0 := if_neg h
theorem faN_bnd (n : Int) : 0 ≤ faN n ∧ faN n ≤ 1073741823 := by unfold faN; split <;> omega
theorem faDev_sm {secs : List (List UInt8)} {cache : List Wr} {fuse : Int} {down : Bool} {n : Int} (hl : secs.length ≤ 1048576) (hb : ∀ b ∈ secs, b.length ≤ 1048576) (hm : cache.length ≤ 1048576) (hc : ∀ w ∈ cache, w.2.length ≤ 1048576) : SmD (faDev secs cache fuse down n) := by
  unfold faDev
  split
  · exact ⟨by rw [faL_len]; exact hl, faL_mem hb hc, by simp, by simp⟩
  · exact ⟨hl, hb, Nat.le_succ_of_le hm, hc⟩
end Go.Vs
namespace Go.Vs
set_option linter.unusedVariables false
theorem faL_stop (n : Int) : ∀ (l : List Wr) (i : Nat) (s : List (List UInt8)), 30 ≤ i → faL n i s l = s
  | [], _, _, _ => rfl
  | w :: l, i, s, h => by
    have hk : kept n i = false := by simp only [kept, Bool.and_eq_false_iff, decide_eq_false_iff_not]; exact .inl (by omega)
    simp only [faL, hk, Bool.false_eq_true, if_false]
    exact faL_stop n l (i + 1) s (by omega)
theorem faL_fin {n : Int} {s : List (List UInt8)} {l : List Wr} {i : Nat} (h : i = l.length ∨ (i ≤ l.length ∧ 30 ≤ i)) : faL n 0 s l = faL n 0 s (l.take i) := by
  rcases h with rfl | ⟨h1, h2⟩
  · rw [List.take_length]
  · have e : faL n 0 s (l.take i ++ l.drop i) = faL n 0 s (l.take i) := by
      rw [faL_app, faL_stop _ _ _ _ (by simp; omega)]
    rwa [List.take_append_drop] at e
theorem faL_set {n : Int} {s : List (List UInt8)} {l : List Wr} {i k : Nat} (h : i < l.length) (hk : l[i].1 = (k : Int)) (hp : kept n i = true) : faL n 0 s (l.take (i + 1)) = (faL n 0 s (l.take i)).set k l[i].2 := by
  rw [faL_take h hk, if_pos hp]
theorem faL_skip {n : Int} {s : List (List UInt8)} {l : List Wr} {i : Nat} (h : i < l.length) (hp : kept n i = false) : faL n 0 s (l.take (i + 1)) = faL n 0 s (l.take i) := by
  rw [List.take_succ_eq_append_getElem h, faL_app]
  have hl : (l.take i).length = i := by simp; omega
  simp only [faL, hl, Nat.zero_add, hp, Bool.false_eq_true, if_false]
theorem bit64 {n : Int} (h : 0 ≤ n ∧ n ≤ 1073741823) (i : Nat) : IntKind.i64.wrap (((BitVec.ofInt IntKind.i64.bits (n.fdiv (2 ^ i)) &&& BitVec.ofInt IntKind.i64.bits 1).toNat : Nat) : Int) = ((n.toNat / 2 ^ i % 2 : Nat) : Int) := by
  obtain ⟨m, rfl⟩ : ∃ m : Nat, n = m := ⟨n.toNat, by omega⟩
  have e : (m : Int).fdiv (2 ^ i) = ((m / 2 ^ i : Nat) : Int) := by
    rw [Int.fdiv_eq_ediv_of_nonneg _ (by exact Int.le_of_lt (Int.pow_pos (by decide)))]
    simp
  rw [e, Int.toNat_natCast]
  exact and_low (a := m / 2 ^ i) (k := 1) (m := 1) (Nat.lt_of_le_of_lt (Nat.div_le_self _ _) (by omega)) (by decide) (by decide)
/-- A cache of which some slices are moved away. -/
def wP (p : Nat → Bool) : Nat → List Wr → List (List D)
  | _, [] => []
  | i, w :: l => [.lf (.int .i64 w.1), if p i then .hole else .sl 1 (bD w.2)] :: wP p (i + 1) l
@[simp] theorem wP_len (p : Nat → Bool) : ∀ (l : List Wr) (i : Nat), (wP p i l).length = l.length
  | [], _ => rfl
  | w :: l, i => by simp only [wP, List.length_cons, wP_len p l]
theorem wP_no {p : Nat → Bool} : ∀ {l : List Wr} {i : Nat}, (∀ j, p j = false) → wP p i l = wD l
  | [], _, _ => rfl
  | w :: l, i, h => by simp only [wP, h i, Bool.false_eq_true, if_false, wP_no (l := l) h]; rfl
theorem wP_at {p : Nat → Bool} : ∀ {l : List Wr} {a i : Nat} (h : i < l.length), p (a + i) = false → (wP p a l)[i]? = some [.lf (.int .i64 l[i].1), .sl 1 (bD l[i].2)]
  | w :: l, a, 0, h, hp => by simp only [Nat.add_zero] at hp; simp [wP, hp]
  | w :: l, a, i + 1, h, hp => by
    simp only [wP, List.getElem?_cons_succ, List.getElem_cons_succ]
    exact wP_at (l := l) (by simpa using h) (by rw [show a + 1 + i = a + (i + 1) by omega]; exact hp)
theorem wP_get {p : Nat → Bool} {l : List Wr} {i : Nat} (h : i < l.length) (hp : p i = false) : (wP p 0 l)[i]? = some [.lf (.int .i64 l[i].1), .sl 1 (bD l[i].2)] := wP_at h (by rw [Nat.zero_add]; exact hp)
theorem wP_upd {p q : Nat → Bool} : ∀ {l : List Wr} {a i : Nat} (h : i < l.length), q (a + i) = true → (∀ j, j ≠ a + i → q j = p j) → (wP p a l).set i [.lf (.int .i64 l[i].1), .hole] = wP q a l
  | w :: l, a, 0, h, hq, hn => by
    have : ∀ {m : List Wr} {b : Nat}, a < b → wP p b m = wP q b m := by
      intro m
      induction m with
      | nil => intro b _; rfl
      | cons x m ih => intro b hb; simp only [wP]; rw [hn b (by omega), ih (by omega)]
    simp only [Nat.add_zero] at hq
    simp only [wP, hq, if_true, List.set_cons_zero, List.getElem_cons_zero, this (Nat.lt_succ_self a)]
  | w :: l, a, i + 1, h, hq, hn => by
    simp only [wP, List.set_cons_succ, List.getElem_cons_succ]
    rw [hn a (by omega), wP_upd (p := p) (q := q) (l := l) (by simpa using h) (by rw [show a + 1 + i = a + (i + 1) by omega]; exact hq) (fun j hj => hn j (by omega))]
def kb (n : Int) (i : Nat) (j : Nat) : Bool := decide (j < i) && kept n j
theorem kb_no (n : Int) (i : Nat) : kb n i i = false := by simp [kb]
theorem kb_zero (n : Int) (l : List Wr) : wP (kb n 0) 0 l = wD l := wP_no fun j => by simp [kb]
theorem kb_set {n : Int} {l : List Wr} {i : Nat} (h : i < l.length) (hp : kept n i = true) : setD (wP (kb n i) 0 l) [] i 1 .hole = wP (kb n (i + 1)) 0 l := by
  simp only [setD, updNode, setC, wP_get h (kb_no n i), List.set_cons_succ, List.set_cons_zero]
  refine wP_upd h (by simp [kb, hp]) fun j hj => ?_
  simp only [kb]
  congr 1
  have : j ≠ i := by simpa using hj
  by_cases h1 : j < i
  · simp [h1]; omega
  · simp [h1]; omega
theorem kb_skip {n : Int} {i : Nat} (hp : kept n i = false) : kb n (i + 1) = kb n i := by
  funext j
  simp only [kb]
  by_cases h1 : j = i
  · subst h1; simp [hp]
  · congr 1
    by_cases h2 : j < i
    · simp [h2]; omega
    · simp [h2]; omega
theorem kept_yes {n : Int} {i : Nat} (h : i < 30) (h2 : ((n.toNat / 2 ^ i % 2 : Nat) : Int) = 1) : kept n i = true := by
  simp only [kept, Bool.and_eq_true, decide_eq_true_eq, beq_iff_eq]; exact ⟨h, by omega⟩
theorem kept_no {n : Int} {i : Nat} (h : ¬ (i < 30 ∧ ((n.toNat / 2 ^ i % 2 : Nat) : Int) = 1)) : kept n i = false := by
  rw [Bool.eq_false_iff]; intro hh
  simp only [kept, Bool.and_eq_true, decide_eq_true_eq, beq_iff_eq] at hh
  exact h ⟨hh.1, by omega⟩
end Go.Vs
namespace Go.Vs
open Go.ChangeShapes Go.WideShapes
set_option linter.unusedVariables false
set_option linter.unusedSimpArgs false
/-! ## from the kit's reading of data to data that lie -/
def tileB (P : Program) : Nat → List Field → Nat → Bool
  | o, [], tot => o == tot
  | o, f :: fs, tot => f.offset == o && tileB P (o + P.cellsOf f.type) fs tot
def good (P : Program) : Nat → TypeId → Bool
  | 0, _ => false
  | n + 1, t => match P.underlying t with
    | some .bool => true
    | some (.int _) => true
    | some .string => true
    | some (.slice e) => good P n e && decide (0 < P.cellsOf e)
    | some (.struct fs) => tileB P 0 fs.toList (P.cellsOf t) && fs.toList.all fun f => good P n f.type
    | _ => false
def DT (P : Program) : Nat → TypeId → List D → Prop
  | 0, _, _ => False
  | n + 1, t, ds => match P.underlying t with
    | some .bool => ∃ b, ds = [.lf (.bool b)]
    | some (.int k) => ∃ z, ds = [.lf (.int k z)] ∧ (Lit.int k z).wf = true
    | some .string => ∃ s : ByteArray, ds = [.lf (.string s)] ∧ s.size ≤ maxLen
    | some (.slice e) => ∃ es, ds = [.sl (P.cellsOf e) es] ∧ es.length ≤ maxLen ∧ ∀ el ∈ es, DT P n e el
    | some (.struct fs) => ∃ dss : List (List D), ds = dss.flatten ∧ All2 (fun (f : Field) x => DT P n f.type x) fs.toList dss
    | _ => False
theorem fields_lie {H : Type} {P : Program} {W : World} {cs : List Value} {n : Nat} {rd : TypeId → List Value → Option (DataW H × List MemPlace)} (ih : ∀ t vs x, good P n t = true → rd t vs = some x → ∃ ds, All2 (Lies W) ds vs ∧ DT P n t ds) :
    ∀ (fs : List Field) (xs : List (DataW H × List MemPlace)) (o : Nat), xs.length = fs.length → (∀ (i : Nat) (f : Field), fs[i]? = some f → rd f.type ((cs.drop f.offset).take (P.cellsOf f.type)) = xs[i]?) → tileB P o fs cs.length = true → fs.all (fun f => good P n f.type) = true →
      ∃ dss, All2 (Lies W) dss.flatten (cs.drop o) ∧ All2 (fun (f : Field) x => DT P n f.type x) fs dss
  | [], xs, o, _, _, ht, _ => by
    simp only [tileB, beq_iff_eq] at ht
    subst ht
    exact ⟨[], by simp [All2], trivial⟩
  | f :: fs, xs, o, hl, hx, ht, hg => by
    simp only [tileB, Bool.and_eq_true, beq_iff_eq] at ht
    simp only [List.all_cons, Bool.and_eq_true] at hg
    cases xs with
    | nil => simp at hl
    | cons x xs =>
      have h0 := hx 0 f rfl
      simp only [List.getElem?_cons_zero] at h0
      rw [ht.1] at h0
      obtain ⟨d0, a1, a2⟩ := ih _ _ _ hg.1 h0
      obtain ⟨dss, b1, b2⟩ := fields_lie ih fs xs (o + P.cellsOf f.type) (by simpa using hl) (fun i g hi => by simpa using hx (i + 1) g (by simpa using hi)) ht.2 hg.2
      refine ⟨d0 :: dss, ?_, a2, b2⟩
      have e : cs.drop o = (cs.drop o).take (P.cellsOf f.type) ++ cs.drop (o + P.cellsOf f.type) := by
        rw [← List.drop_drop, List.take_append_drop]
      rw [e, List.flatten_cons]
      exact All2.append a1 b1
theorem lies_trod {H : Type} {enc : TypeId × Value → H} {P : Program} {W : World} : ∀ (n : Nat) (t : TypeId) (fuel : Nat) (cs : List Value) (x : DataW H × List MemPlace), good P n t = true → DataW.trod enc P W 0 (fun _ => true) true fuel t cs = some x → ∃ ds, All2 (Lies W) ds cs ∧ DT P n t ds
  | 0, t, fuel, cs, x, hg, h => by simp [good] at hg
  | n + 1, t, fuel, cs, x, hg, h => by
    simp only [good] at hg
    simp only [DT]
    cases hu : P.underlying t with
    | none => simp [hu] at hg
    | some du =>
      cases du with
      | bool =>
        obtain ⟨b, rfl, _⟩ := DataW.trod_bool hu h
        exact ⟨[.lf (.bool b)], ⟨.lf _ rfl, trivial⟩, b, rfl⟩
      | int k =>
        obtain ⟨z, rfl, _, hw⟩ := DataW.trod_int hu h
        exact ⟨[.lf (.int k z)], ⟨.lf _ rfl, trivial⟩, z, rfl, hw⟩
      | string =>
        obtain ⟨s, rfl, _, hs⟩ := DataW.trod_string hu h
        exact ⟨[.lf (.string s)], ⟨.lf _ rfl, trivial⟩, s, rfl, hs⟩
      | slice e =>
        simp only [hu, Bool.and_eq_true, decide_eq_true_eq] at hg
        obtain ⟨hge, hsz⟩ := hg
        rcases DataW.trod_slice hu h with ⟨rfl, _⟩ | ⟨a, len, cap, elems, rest, m, _, rfl, _, _, hlc, hcm, hel, hE, hR, _⟩
        · exact ⟨[.sl (P.cellsOf e) []], ⟨.nil _ none, trivial⟩, [], rfl, Nat.zero_le _, by simp⟩
        · by_cases hcap : cap = 0
          · subst hcap
            have : len = 0 := by omega
            subst this
            exact ⟨[.sl (P.cellsOf e) []], ⟨.nil _ _, trivial⟩, [], rfl, Nat.zero_le _, by simp⟩
          · have get : ∀ i, i < len → ∃ ecs y, W.cells? 0 (a.add (i * P.cellsOf e)) (P.cellsOf e) = some ecs ∧ DataW.trod enc P W 0 (fun _ => true) true m e ecs = some y := by
              intro i hi
              have h1 := hE i hi
              rw [List.getElem?_eq_getElem (by omega)] at h1
              simp only [Option.bind_eq_some_iff] at h1
              obtain ⟨ecs, h2, h3⟩ := h1
              exact ⟨ecs, _, h2, h3⟩
            have hspot : a.spot = none := by
              have : ∃ ecs, W.cells? 0 (a.add (0 * P.cellsOf e)) (P.cellsOf e) = some ecs := by
                by_cases h0 : 0 < len
                · obtain ⟨ecs, _, h2, _⟩ := get 0 h0; exact ⟨ecs, h2⟩
                · have hl0 : len = 0 := by omega
                  subst hl0
                  obtain ⟨hr1, hr2⟩ := hR rfl
                  have h1 := hr2 0 (by omega)
                  rw [List.getElem?_eq_getElem (by omega)] at h1
                  simp only [Option.bind_eq_some_iff] at h1
                  obtain ⟨ecs, h2, _⟩ := h1
                  exact ⟨ecs, by simpa using h2⟩
              obtain ⟨ecs, h2⟩ := this
              have h3 := (World.cells?_some h2).2.2 0 hsz
              have h4 := (World.cells?_some h2).2.1
              rw [List.getElem?_eq_getElem (by omega)] at h3
              have := World.cell?_spot h3
              simpa [Addr.add] using this
            obtain ⟨b, off, spot⟩ := a
            simp only at hspot
            subst hspot
            have each : ∀ i, i < len → ∃ (ds : List D) (ecs : List Value), All2 (Lies W) ds ecs ∧ DT P n e ds ∧ ecs.length = P.cellsOf e ∧ ∀ c v, ecs[c]? = some v → W.cell? ⟨b, off + (i * P.cellsOf e + c), none⟩ = some v := by
              intro i hi
              obtain ⟨ecs, y, h1, h2⟩ := get i hi
              obtain ⟨ds, h3, h4⟩ := lies_trod n e m ecs y hge h2
              obtain ⟨_, h5, h6⟩ := World.cells?_some h1
              refine ⟨ds, ecs, h3, h4, h5, fun c v hc => ?_⟩
              have hlt : c < P.cellsOf e := by rw [← h5]; exact (List.getElem?_eq_some_iff.1 hc).1
              have := h6 c hlt
              rw [hc, add_plain, add_plain, Nat.add_assoc] at this
              exact this
            let fd : Nat → List D := fun i => if hi : i < len then Classical.choose (each i hi) else []
            let fv : Nat → List Value := fun i => if hi : i < len then Classical.choose (Classical.choose_spec (each i hi)) else []
            have spec : ∀ i (hi : i < len), All2 (Lies W) (fd i) (fv i) ∧ DT P n e (fd i) ∧ (fv i).length = P.cellsOf e ∧ ∀ c v, (fv i)[c]? = some v → W.cell? ⟨b, off + (i * P.cellsOf e + c), none⟩ = some v := by
              intro i hi
              have := Classical.choose_spec (Classical.choose_spec (each i hi))
              simp only [fd, fv, dif_pos hi]
              exact this
            have hget : ∀ i el, ((List.range len).map fd)[i]? = some el → i < len ∧ el = fd i := by
              intro i el h1
              simp only [List.getElem?_map, Option.map_eq_some_iff] at h1
              obtain ⟨j, h2, rfl⟩ := h1
              have hi : i < len := by
                have := (List.getElem?_eq_some_iff.1 h2).1
                simpa using this
              rw [List.getElem?_range hi] at h2
              simp only [Option.some.injEq] at h2
              subst h2
              exact ⟨hi, rfl⟩
            have hmem : ∀ el ∈ (List.range len).map fd, ∃ i, i < len ∧ el = fd i := by
              intro el hm
              obtain ⟨i, hi, rfl⟩ := List.mem_map.1 hm
              exact ⟨i, by simpa using hi, rfl⟩
            have key := Lies.sl (W := W) (P.cellsOf e) ((List.range len).map fd) b off cap (fun i c => ((fv i)[c]?).getD undef) (by simpa using hlc) ?_ ?_ ?_
            · rw [List.length_map, List.length_range] at key
              refine ⟨[.sl (P.cellsOf e) ((List.range len).map fd)], ⟨key, trivial⟩, _, rfl, by simp; omega, ?_⟩
              intro el hm
              obtain ⟨i, hi, rfl⟩ := hmem el hm
              exact (spec i hi).2.1
            · intro el hm
              obtain ⟨i, hi, rfl⟩ := hmem el hm
              rw [(spec i hi).1.length, (spec i hi).2.2.1]
            · intro i c el d h1 h2
              obtain ⟨hi, rfl⟩ := hget i el h1
              have hlt : c < (fv i).length := by rw [← (spec i hi).1.length]; exact (List.getElem?_eq_some_iff.1 h2).1
              rw [List.getElem?_eq_getElem hlt]
              exact (spec i hi).2.2.2 c _ (List.getElem?_eq_getElem hlt)
            · intro i c el d h1 h2
              obtain ⟨hi, rfl⟩ := hget i el h1
              obtain ⟨v, h3, h4⟩ := (spec i hi).1.get c d h2
              rw [h3]
              exact h4
      | struct fs =>
        simp only [hu, Bool.and_eq_true] at hg
        obtain ⟨xs, m, rfl, _, hl, hx, hall⟩ := DataW.trod_struct hu h
        obtain ⟨dss, a1, a2⟩ := fields_lie (W := W) (cs := cs) (n := n) (rd := DataW.trod enc P W 0 (fun _ => true) true m) (fun t vs x g h => lies_trod n t m vs x g h) fs.toList xs 0 (by simpa using hx) (fun i f hi => hall i f (by simpa using hi)) (by rw [hl]; exact hg.1) hg.2
        exact ⟨dss.flatten, a1, dss, rfl, a2⟩
      | _ => simp [hu] at hg
/-- An argument that is a struct. -/
theorem lies_struct {H : Type} {enc : TypeId × Value → H} {P : Program} {W : World} {base n : Nat} {t : TypeId} {fs : Array Field} {v : Value} {d : DataW H} {ps : List MemPlace} (ht : P.underlying t = some (.struct fs)) (hg : good P n t = true) (hval : Value.okWide P W .any base t v)
    (h : DataW.Trod enc P W 0 (fun _ => true) true t v d ps) : ∃ ds, ArgLies W (true, ds) v ∧ DT P n t ds := by
  simp only [Value.okWide, ht] at hval
  obtain ⟨cs, rfl, _, _⟩ := hval
  obtain ⟨fuel, hf⟩ := h
  obtain ⟨ds, h1, h2⟩ := lies_trod n t fuel _ _ hg hf
  refine ⟨ds, ?_, h2⟩
  simp only [ArgLies, if_true]
  exact ⟨cs.toList, by simp, by simpa [Value.cells] using h1⟩
/-- Lists of what has a shape. -/
theorem shaped {α β : Type} {f : α → β} : ∀ (es : List β), (∀ e ∈ es, ∃ a, e = f a) → ∃ l : List α, es = l.map f
  | [], _ => ⟨[], rfl⟩
  | e :: es, h => by
    obtain ⟨a, ha⟩ := h e List.mem_cons_self
    obtain ⟨l, hl⟩ := shaped es fun x hx => h x (List.mem_cons_of_mem _ hx)
    exact ⟨a :: l, by rw [ha, hl]; rfl⟩
end Go.Vs
namespace Go.Vs
set_option linter.unusedVariables false
/-! ## what arguments read as, by their types -/
variable {P : Program}
theorem sh_int {n : Nat} {t : TypeId} {ds : List D} (u : P.underlying t = some (.int .i64)) (h : DT P (n + 1) t ds) : ∃ z : Int, ds = [.lf (.int .i64 z)] ∧ (Lit.int .i64 z).wf = true := by
  simp only [DT, u] at h
  exact h
theorem sh_bool {n : Nat} {t : TypeId} {ds : List D} (u : P.underlying t = some .bool) (h : DT P (n + 1) t ds) : ∃ z : Bool, ds = [.lf (.bool z)] := by
  simp only [DT, u] at h
  exact h
theorem sh_str {n : Nat} {t : TypeId} {ds : List D} (u : P.underlying t = some .string) (h : DT P (n + 1) t ds) : ∃ z : ByteArray, ds = [.lf (.string z)] ∧ z.size ≤ maxLen := by
  simp only [DT, u] at h
  exact h
/-- Slices of what has a shape. -/
theorem sh_slice {α : Type} {f : α → List D} {p : α → Prop} {n k : Nat} {t e : TypeId} {ds : List D} (u : P.underlying t = some (.slice e)) (c : P.cellsOf e = k) (he : ∀ el, DT P n e el → ∃ a, el = f a ∧ p a) (h : DT P (n + 1) t ds) : ∃ l : List α, ds = [.sl k (l.map f)] ∧ l.length ≤ maxLen ∧ ∀ a ∈ l, p a := by
  simp only [DT, u, c] at h
  obtain ⟨es, rfl, hl, hall⟩ := h
  obtain ⟨l, rfl⟩ := shaped (f := fun a : { a : α // p a } => f a.1) es (by
    intro el hel
    obtain ⟨a, rfl, ha⟩ := he el (hall el hel)
    exact ⟨⟨a, ha⟩, rfl⟩)
  refine ⟨l.map (·.1), by simp [List.map_map, Function.comp_def], by simpa using hl, ?_⟩
  intro b hb
  obtain ⟨x, _, rfl⟩ := List.mem_map.1 hb
  exact x.2
theorem sh_byte {n : Nat} {t : TypeId} {ds : List D} (u : P.underlying t = some (.int .u8)) (h : DT P (n + 1) t ds) : ∃ a : UInt8, ds = [.lf (.int .u8 a.toNat)] ∧ True := by
  simp only [DT, u] at h
  obtain ⟨z, rfl, hw⟩ := h
  refine ⟨UInt8.ofNat z.toNat, ?_, trivial⟩
  simp only [Lit.wf, Bool.and_eq_true, decide_eq_true_eq] at hw
  have h0 : IntKind.u8.min = 0 := rfl
  have h1 : IntKind.u8.max = 255 := rfl
  have : z = (((UInt8.ofNat z.toNat).toNat : Nat) : Int) := by
    simp only [UInt8.toNat_ofNat']
    omega
  rw [← this]
theorem sh_bytes {n : Nat} {t e : TypeId} {ds : List D} (u : P.underlying t = some (.slice e)) (ue : P.underlying e = some (.int .u8)) (c : P.cellsOf e = 1) (h : DT P (n + 2) t ds) : ∃ b : List UInt8, ds = [.sl 1 (bD b)] ∧ b.length ≤ maxLen := by
  obtain ⟨b, h1, h2, _⟩ := sh_slice (n := n + 1) u c (fun el => sh_byte ue) h
  exact ⟨b, h1, h2⟩
theorem sh_fields {n : Nat} {t : TypeId} {fs : Array Field} {ds : List D} (u : P.underlying t = some (.struct fs)) (h : DT P (n + 1) t ds) : ∃ dss : List (List D), ds = dss.flatten ∧ All2 (fun (f : Field) x => DT P n f.type x) fs.toList dss := by
  simp only [DT, u] at h
  exact h
theorem all2_cons {α β : Type} {R : α → β → Prop} {a : α} {l : List α} {m : List β} (h : All2 R (a :: l) m) : ∃ b m', m = b :: m' ∧ R a b ∧ All2 R l m' := by
  cases m with
  | nil => exact h.elim
  | cons b m => exact ⟨b, m, rfl, h.1, h.2⟩
theorem all2_nil {α β : Type} {R : α → β → Prop} {m : List β} (h : All2 R [] m) : m = [] := by
  cases m with
  | nil => rfl
  | cons b m => exact h.elim
theorem sh_secs {n : Nat} {t s e : TypeId} {ds : List D} (ut : P.underlying t = some (.slice s)) (cs : P.cellsOf s = 1) (us : P.underlying s = some (.slice e)) (ue : P.underlying e = some (.int .u8)) (ce : P.cellsOf e = 1) (h : DT P (n + 3) t ds) : ∃ l : List (List UInt8), ds = [.sl 1 (sD l)] ∧ l.length ≤ maxLen ∧ ∀ b ∈ l, b.length ≤ maxLen :=
  sh_slice (n := n + 2) (f := fun b : List UInt8 => [D.sl 1 (bD b)]) ut cs (fun el h => sh_bytes us ue ce h) h
theorem sh_wr {n : Nat} {t i s e : TypeId} {fs : Array Field} {ds : List D} (ut : P.underlying t = some (.struct fs)) (hf : fs.toList.map (·.type) = [i, s]) (ui : P.underlying i = some (.int .i64)) (us : P.underlying s = some (.slice e)) (ue : P.underlying e = some (.int .u8)) (ce : P.cellsOf e = 1) (h : DT P (n + 3) t ds) : ∃ w : Wr, ds = wE w ∧ w.2.length ≤ maxLen := by
  obtain ⟨dss, rfl, hall⟩ := sh_fields (n := n + 2) ut h
  match hfs : fs.toList, hf, hall with
  | [f0, f1], hf, hall =>
    simp only [List.map_cons, List.map_nil, List.cons.injEq, and_true] at hf
    obtain ⟨a, m, rfl, h0, hall⟩ := all2_cons hall
    obtain ⟨b, m, rfl, h1, hall⟩ := all2_cons hall
    obtain rfl := all2_nil hall
    obtain ⟨z, rfl, _⟩ := sh_int (n := n + 1) (by rw [hf.1]; exact ui) h0
    obtain ⟨c, rfl, hc⟩ := sh_bytes (by rw [hf.2]; exact us) ue ce h1
    exact ⟨(z, c), rfl, hc⟩
theorem sh_cache {n : Nat} {u t i s e : TypeId} {fs : Array Field} {ds : List D} (uu : P.underlying u = some (.slice t)) (cu : P.cellsOf t = 2) (ut : P.underlying t = some (.struct fs)) (hf : fs.toList.map (·.type) = [i, s]) (ui : P.underlying i = some (.int .i64)) (us : P.underlying s = some (.slice e)) (ue : P.underlying e = some (.int .u8)) (ce : P.cellsOf e = 1) (h : DT P (n + 4) u ds) : ∃ l : List Wr, ds = [.sl 2 (wD l)] ∧ l.length ≤ maxLen ∧ ∀ w ∈ l, w.2.length ≤ maxLen :=
  sh_slice (n := n + 3) (f := wE) uu cu (fun el h => sh_wr ut hf ui us ue ce h) h
theorem sh_dev {n : Nat} {d a u t i b s e : TypeId} {fs gs : Array Field} {ds : List D} (ud : P.underlying d = some (.struct gs)) (hg : gs.toList.map (·.type) = [a, u, i, b]) (ua : P.underlying a = some (.slice s)) (cs : P.cellsOf s = 1) (uu : P.underlying u = some (.slice t)) (cu : P.cellsOf t = 2) (ut : P.underlying t = some (.struct fs)) (hf : fs.toList.map (·.type) = [i, s]) (ui : P.underlying i = some (.int .i64)) (ub : P.underlying b = some .bool) (us : P.underlying s = some (.slice e)) (ue : P.underlying e = some (.int .u8)) (ce : P.cellsOf e = 1) (h : DT P (n + 5) d ds) :
    ∃ (secs : List (List UInt8)) (cache : List Wr) (fuse : Int) (down : Bool), ds = [.sl 1 (sD secs), .sl 2 (wD cache), .lf (.int .i64 fuse), .lf (.bool down)] ∧ (secs.length ≤ 9223372036854775807 ∧ (∀ b ∈ secs, b.length ≤ 9223372036854775807) ∧ cache.length ≤ 9223372036854775807 ∧ (∀ w ∈ cache, w.2.length ≤ 9223372036854775807)) ∧ (Lit.int .i64 fuse).wf = true := by
  obtain ⟨dss, rfl, hall⟩ := sh_fields (n := n + 4) ud h
  match hgs : gs.toList, hg, hall with
  | [f0, f1, f2, f3], hg, hall =>
    simp only [List.map_cons, List.map_nil, List.cons.injEq, and_true] at hg
    obtain ⟨x0, m, rfl, h0, hall⟩ := all2_cons hall
    obtain ⟨x1, m, rfl, h1, hall⟩ := all2_cons hall
    obtain ⟨x2, m, rfl, h2, hall⟩ := all2_cons hall
    obtain ⟨x3, m, rfl, h3, hall⟩ := all2_cons hall
    obtain rfl := all2_nil hall
    obtain ⟨secs, rfl, a1, a2⟩ := sh_secs (n := n + 1) (by rw [hg.1]; exact ua) cs us ue ce h0
    obtain ⟨cache, rfl, b1, b2⟩ := sh_cache (by rw [hg.2.1]; exact uu) cu ut hf ui us ue ce h1
    obtain ⟨z, rfl, c1⟩ := sh_int (n := n + 3) (by rw [hg.2.2.1]; exact ui) h2
    obtain ⟨y, rfl⟩ := sh_bool (n := n + 3) (by rw [hg.2.2.2]; exact ub) h3
    exact ⟨secs, cache, z, y, rfl, ⟨a1, a2, b1, b2⟩, c1⟩
end Go.Vs
