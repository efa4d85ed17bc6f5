import Derived.Test.YteacflalidbhpaaVsV32
set_option linter.unusedVariables false
set_option linter.unusedSimpArgs false
namespace Go.Vs
set_option linter.unusedVariables false
set_option linter.unusedSimpArgs false

def preds (o : Oper) : List Nat := (o.after.toList.filter fun e => Region.binds .any e).map (·.on)
def isW (its : List DI) (j : Nat) : Bool := match its[j]? with | some it => it.w | none => false
def ancOf (its : List DI) (j : Nat) : List Nat := match its[j]? with | some it => it.anc | none => []
def isRd : GI → Bool
  | ⟨_, .rd _, _⟩ => true
  | _ => false
def ck1 (its : List DI) (i : Nat) (o : Oper) (it : DI) : Bool :=
  (preds o).all (· < i) && it.anc.all (· < i) && it.anc.all (fun a => (preds o).contains a || (preds o).any fun j => (ancOf its j).contains a) &&
  (!it.w || (List.range i).all fun j => !isW its j || it.anc.contains j) &&
  (it.w || ((it.lo == 0 || it.anc.any fun j => isW its j && nW (its.take j) + 1 == it.lo) &&
    (decide (nW its ≤ it.hi) || (List.range its.length).any fun j => isW its j && nW (its.take j) == it.hi && (ancOf its j).contains i))) && (it.w || isRd it.gi)
def ckAll (its : List DI) : Nat → List Oper → List DI → Bool
  | _, [], [] => true
  | i, o :: ops, it :: l => ck1 its i o it && ckAll its (i + 1) ops l
  | _, _, _ => false
def trItems (P : Program) (N : Nat) (ops : Array Oper) : List Oper → List DI → Bool
  | [], [] => true
  | o :: l, it :: r => (match trOper P N ops o with | some gi => true | none => false) && trItems P N ops l r
  | _, _ => false
theorem ckAll_get {its : List DI} : ∀ {ops : List Oper} {l : List DI} {i : Nat}, ckAll its i ops l = true → ops.length = l.length ∧ ∀ (j : Nat) (it : DI), l[j]? = some it → ∃ o, ops[j]? = some o ∧ ck1 its (i + j) o it = true
  | [], [], i, _ => ⟨rfl, by simp⟩
  | o :: ops, it :: l, i, h => by
    simp only [ckAll, Bool.and_eq_true] at h
    obtain ⟨h1, h2⟩ := ckAll_get h.2
    refine ⟨by simp [h1], fun j it' hj => ?_⟩
    cases j with
    | zero => simp at hj; subst hj; exact ⟨o, rfl, h.1⟩
    | succ j =>
      obtain ⟨o', a, b⟩ := h2 j it' (by simpa using hj)
      exact ⟨o', by simpa using a, by rw [show i + (j + 1) = i + 1 + j by omega]; exact b⟩
  | [], _ :: _, _, h => by simp [ckAll] at h
  | _ :: _, [], _, h => by simp [ckAll] at h

/-- What the checks say. -/
structure Laid (P : Program) (N : Nat) (ops : Array Oper) (its : List DI) : Prop where
  len : ops.size = its.length
  op : ∀ (i : Nat) (it : DI), its[i]? = some it → ∃ o, ops[i]? = some o ∧ trOper P N ops o = some it.gi ∧ (∀ e ∈ o.after.toList, Region.binds .any e = true → e.on < i) ∧ (∀ a ∈ it.anc, a < i) ∧
    (∀ listed : Nat → Prop, (∀ e ∈ o.after.toList, Region.binds .any e = true → listed e.on) → (∀ j itj, its[j]? = some itj → listed j → ∀ a ∈ itj.anc, listed a) → ∀ a ∈ it.anc, listed a)
  wr : ∀ (i : Nat) (it : DI), its[i]? = some it → it.w = true → ∀ j itj, j < i → its[j]? = some itj → itj.w = true → j ∈ it.anc
  lo : ∀ (i : Nat) (it : DI), its[i]? = some it → it.w = false → it.lo = 0 ∨ ∃ j itj, j ∈ it.anc ∧ its[j]? = some itj ∧ itj.w = true ∧ nW (its.take j) + 1 = it.lo
  hi : ∀ (i : Nat) (it : DI), its[i]? = some it → it.w = false → nW its ≤ it.hi ∨ ∃ j itj, its[j]? = some itj ∧ itj.w = true ∧ nW (its.take j) = it.hi ∧ i ∈ itj.anc
  rd : ∀ (i : Nat) (it : DI), its[i]? = some it → it.w = false → ∃ r, it.gi.op = .rd r
  nodup : (its.filterMap (·.gi.dst)).Nodup
theorem isW_some {its : List DI} {j : Nat} (h : isW its j = true) : ∃ it, its[j]? = some it ∧ it.w = true := by
  unfold isW at h; split at h
  · rename_i it hh; exact ⟨it, hh, h⟩
  · simp at h
theorem laid_of {P : Program} {N : Nat} {ops : Array Oper} {its : List DI} (hck : ckAll its 0 ops.toList its = true) (htr : trOpers P N ops ops.toList = some (its.map (·.gi))) (hn : (its.filterMap (·.gi.dst)).Nodup) : Laid P N ops its := by
  obtain ⟨h1, h2⟩ := ckAll_get hck
  have htr' : ∀ (l : List Oper) (gs : List GI), trOpers P N ops l = some gs → ∀ (j : Nat) (gi : GI), gs[j]? = some gi → ∃ o : Oper, l[j]? = some o ∧ trOper P N ops o = some gi := by
    intro l
    induction l with
    | nil => intro gs h j gi hj; simp only [trOpers, Option.some.injEq] at h; subst h; simp at hj
    | cons o l ih =>
      intro gs h j gi hj
      simp only [trOpers, Option.bind_eq_bind, Option.bind_eq_some_iff, Option.some.injEq] at h
      obtain ⟨g, hg, gs', hgs, rfl⟩ := h
      cases j with
      | zero => simp at hj; subst hj; exact ⟨o, rfl, hg⟩
      | succ j => obtain ⟨o', a, b⟩ := ih gs' hgs j gi (by simpa using hj); exact ⟨o', by simpa using a, b⟩
  have hop : ∀ (i : Nat) (it : DI), its[i]? = some it → ∃ o, ops.toList[i]? = some o ∧ ops[i]? = some o ∧ trOper P N ops o = some it.gi ∧ ck1 its i o it = true := by
    intro i it hi
    obtain ⟨o, a, b⟩ := h2 i it hi
    obtain ⟨o', a', b'⟩ := htr' _ _ htr i it.gi (by rw [List.getElem?_map, hi]; rfl)
    rw [a] at a'
    simp only [Option.some.injEq] at a'; subst a'
    exact ⟨o, a, by rw [← Array.getElem?_toList]; exact a, b', by rw [Nat.zero_add] at b; exact b⟩
  refine ⟨by rw [← Array.length_toList]; exact h1, ?_, ?_, ?_, ?_, ?_, hn⟩
  · intro i it hi
    obtain ⟨o, _, a, b, c⟩ := hop i it hi
    simp only [ck1, Bool.and_eq_true] at c
    obtain ⟨⟨⟨⟨⟨c1, c2⟩, c3⟩, c4⟩, c5⟩, c6⟩ := c
    refine ⟨o, a, b, ?_, ?_, ?_⟩
    · intro e he hb
      have := List.all_eq_true.1 c1 e.on (List.mem_map_of_mem (List.mem_filter.2 ⟨he, hb⟩))
      simpa using this
    · intro x hx
      have := List.all_eq_true.1 c2 x hx
      simpa using this
    · intro listed hp hc x hx
      have hpre : ∀ j ∈ preds o, listed j := by
        intro j hj
        simp only [preds, List.mem_map, List.mem_filter] at hj
        obtain ⟨e, ⟨he, hb⟩, rfl⟩ := hj
        exact hp e he hb
      have := List.all_eq_true.1 c3 x hx
      simp only [Bool.or_eq_true, List.contains_iff_mem, List.any_eq_true] at this
      rcases this with k | ⟨j, hj, k⟩
      · exact hpre x k
      · unfold ancOf at k
        split at k
        · rename_i itj hitj; exact hc j itj hitj (hpre j hj) x k
        · simp at k
  · intro i it hi hw j itj hj hitj hwj
    obtain ⟨o, _, a, b, c⟩ := hop i it hi
    simp only [ck1, Bool.and_eq_true] at c
    obtain ⟨⟨⟨⟨⟨c1, c2⟩, c3⟩, c4⟩, c5⟩, c6⟩ := c
    rw [hw] at c4
    simp only [Bool.not_true, Bool.false_or] at c4
    have := List.all_eq_true.1 c4 j (by simpa using hj)
    have hjw : isW its j = true := by unfold isW; rw [hitj]; exact hwj
    rw [hjw] at this
    simpa using this
  · intro i it hi hw
    obtain ⟨o, _, a, b, c⟩ := hop i it hi
    simp only [ck1, Bool.and_eq_true] at c
    obtain ⟨⟨⟨⟨⟨c1, c2⟩, c3⟩, c4⟩, c5⟩, c6⟩ := c
    rw [hw] at c5
    simp only [Bool.false_or, Bool.and_eq_true, Bool.or_eq_true, beq_iff_eq, List.any_eq_true] at c5
    rcases c5.1 with k | ⟨j, hj, k1, k2⟩
    · exact .inl k
    · obtain ⟨itj, h3, h4⟩ := isW_some k1
      exact .inr ⟨j, itj, hj, h3, h4, k2⟩
  · intro i it hi hw
    obtain ⟨o, _, a, b, c⟩ := hop i it hi
    simp only [ck1, Bool.and_eq_true] at c
    obtain ⟨⟨⟨⟨⟨c1, c2⟩, c3⟩, c4⟩, c5⟩, c6⟩ := c
    rw [hw] at c5
    simp only [Bool.false_or, Bool.and_eq_true, Bool.or_eq_true, decide_eq_true_eq, List.any_eq_true, beq_iff_eq, List.contains_iff_mem] at c5
    rcases c5.2 with k | ⟨j, hj, ⟨k1, k2⟩, k3⟩
    · exact .inl k
    · obtain ⟨itj, h3, h4⟩ := isW_some k1
      refine .inr ⟨j, itj, h3, h4, k2, ?_⟩
      unfold ancOf at k3; rw [h3] at k3; exact k3
  · intro i it hi hw
    obtain ⟨o, _, a, b, c⟩ := hop i it hi
    simp only [ck1, Bool.and_eq_true] at c
    obtain ⟨⟨⟨⟨⟨c1, c2⟩, c3⟩, c4⟩, c5⟩, c6⟩ := c
    rw [hw, Bool.false_or] at c6
    cases hq : it.gi with
    | mk dst op gu =>
      rw [hq] at c6
      cases op with
      | rd r => exact ⟨r, rfl⟩
      | wr w => simp [isRd] at c6

theorem filterMap_inj : ∀ {l : List DI} {i j d : Nat}, (l.filterMap (·.gi.dst)).Nodup → ∀ (hi : i < l.length) (hj : j < l.length), i ≠ j → l[i].gi.dst = some d → l[j].gi.dst = some d → False
  | [], _, _, _, _, hi, _, _, _, _ => by simp at hi
  | x :: l, i, j, d, hn, hi, hj, hne, h1, h2 => by
    have hn' : (l.filterMap (·.gi.dst)).Nodup := by
      cases hx : x.gi.dst with
      | none => rw [List.filterMap_cons_none (by exact hx)] at hn; exact hn
      | some e => rw [List.filterMap_cons_some (by exact hx)] at hn; exact (List.nodup_cons.1 hn).2
    have mem : ∀ {k : Nat} (hk : k < l.length), l[k].gi.dst = some d → d ∈ l.filterMap (·.gi.dst) := fun hk e => List.mem_filterMap.2 ⟨_, List.getElem_mem hk, e⟩
    cases i with
    | zero =>
      cases j with
      | zero => exact hne rfl
      | succ j =>
        simp only [List.getElem_cons_zero, List.getElem_cons_succ] at h1 h2
        rw [List.filterMap_cons_some (by exact h1)] at hn
        exact (List.nodup_cons.1 hn).1 (mem _ h2)
    | succ i =>
      cases j with
      | zero =>
        simp only [List.getElem_cons_zero, List.getElem_cons_succ] at h1 h2
        rw [List.filterMap_cons_some (by exact h2)] at hn
        exact (List.nodup_cons.1 hn).1 (mem _ h1)
      | succ j =>
        simp only [List.getElem_cons_succ] at h1 h2
        exact filterMap_inj (l := l) hn' (by simpa using hi) (by simpa using hj) (by omega) h1 h2
/-- What writes nothing changes nothing. -/
theorem stepV_rd {P : Program} {gi : GI} {r : I} (hop : gi.op = .rd r) {S : St} {K : KW} (h : stepV P gi S K) : stepV P gi S fun x ks ro n => K x ks ro n ∧ ks = [] ∧ ro = S.roots ∧ n = S.next := by
  have key : evJ P S K gi.op → evJ P S (fun x ks ro n => K x ks ro n ∧ ks = [] ∧ ro = S.roots ∧ n = S.next) gi.op := by
    intro h
    rw [hop] at h ⊢
    obtain ⟨x, h1, h2⟩ := ev_ext (K := fun v => K v [] S.roots S.next) h
    exact h2 (fun v => K v [] S.roots S.next ∧ ([] : List (Nat × Path)) = [] ∧ S.roots = S.roots ∧ S.next = S.next) ⟨h1, rfl, rfl, rfl⟩
  unfold stepV at h ⊢
  cases hg : gi.guard with
  | none => simp only [hg] at h ⊢; exact key h
  | some gw =>
    obtain ⟨t, want⟩ := gw
    simp only [hg] at h ⊢
    split at h
    · rename_i b heq
      exact ⟨fun e => key (h.1 e), fun e => by simpa using h.2 e⟩
    · simpa using h
    · exact h.elim
theorem filter_lt {p p' : Nat → Bool} : ∀ {l : List Nat}, (∀ x ∈ l, p' x = true → p x = true) → (∃ i ∈ l, p i = true ∧ p' i = false) → (l.filter p').length < (l.filter p).length
  | [], _, h => by obtain ⟨i, h, _⟩ := h; simp at h
  | x :: l, hs, h => by
    have hle : (l.filter p').length ≤ (l.filter p).length := by
      clear h
      have hs' : ∀ x ∈ l, p' x = true → p x = true := fun y hy => hs y (by simp [hy])
      clear hs
      induction l with
      | nil => simp
      | cons y l ih =>
        have := ih fun z hz => hs' z (by simp [hz])
        simp only [List.filter_cons]
        cases h1 : p' y with
        | true => rw [hs' y (by simp) h1]; simpa using this
        | false => cases p y <;> simp <;> omega
    obtain ⟨i, hi, h1, h2⟩ := h
    simp only [List.filter_cons]
    rcases List.mem_cons.1 hi with rfl | hi
    · rw [h1, h2]; simp; omega
    · have := filter_lt (p := p) (p' := p') (l := l) (fun y hy => hs y (by simp [hy])) ⟨i, hi, h1, h2⟩
      cases h3 : p' x with
      | true => rw [hs x (by simp) h3]; simpa using this
      | false => cases p x <;> simp <;> omega

variable {P : Program} {N : Nat} {ops : Array Oper} {its : List DI} {w0 : World} {own0 : Nat → Nat → Prop} {pl0 : Pls} {fix : Nat} {E0 : List (Nat × V)} {R : List (Option Nat × V)} {M : List Mem} {Q : Exit → St → Prop}
theorem listed_set {l : Array Bool} {i j : Nat} (hi : i < l.size) : (l.setIfInBounds i true).getD j false = if j = i then true else l.getD j false := by
  rw [Array.getD_eq_getD_getElem?, Array.getD_eq_getD_getElem?]
  by_cases h : j = i
  · subst h; rw [Array.getElem?_setIfInBounds_self_of_lt hi]; simp
  · rw [Array.getElem?_setIfInBounds_ne (fun e => h e.symm)]; simp [h]
theorem draw_ok (hL : Laid P N ops its) (hD : Drawn P fix E0 its 0 [] R M) (h0 : ∀ d x, (some d, x) ∈ R → get E0 d = none) {mm1 : Mem} (hm1 : M[nW its]? = some mm1) (hQ : Q .normal ⟨envSel (fun _ => true) 0 R ++ E0, mm1.1, mm1.2, fix⟩) :
    ∀ (fuel : Nat) (listed : Array Bool) (k : Nat) (mm : Mem) (g : Lab) (pl : Pls) (a : Act) (w : World), listed.size = its.length → ((List.range its.length).filter fun i => !listed.getD i false).length ≤ fuel →
      (∀ j itj, its[j]? = some itj → listed.getD j false = true → ∀ b ∈ itj.anc, listed.getD b false = true) →
      (∀ j itj, its[j]? = some itj → itj.w = true → (listed.getD j false = true ↔ nW (its.take j) < k)) → k ≤ nW its → M[k]? = some mm →
      Rel N w0 own0 pl0 g pl ⟨envSel (fun j => listed.getD j false) 0 R ++ E0, mm.1, mm.2, fix⟩ a w →
      wpAny P .any ops (PQ N w0 own0 pl0 fix Q) fuel listed a w := by
  have hRn : (R.filterMap (·.1)).Nodup := by
    have : R.filterMap (·.1) = its.filterMap (·.gi.dst) := by
      have hl := hD.len
      have hd := hD.dst
      clear hm1 hQ h0 hL hD
      induction R generalizing its with
      | nil => cases its with
        | nil => rfl
        | cons => simp at hl
      | cons y R ih => cases its with
        | nil => simp at hl
        | cons it its =>
          have e := hd 0 it y rfl rfl
          have := ih (its := its) (by simpa using hl) fun j it y h1 h2 => hd (j + 1) it y (by simpa using h1) (by simpa using h2)
          cases hq : it.gi.dst with
          | none => rw [List.filterMap_cons_none (by rw [e, hq]), List.filterMap_cons_none (by exact hq), this]
          | some d => rw [List.filterMap_cons_some (by rw [e, hq]), List.filterMap_cons_some (by exact hq), this]
    rw [this]; exact hL.nodup
  have hready : ∀ (listed : Array Bool) (i : Nat), listed.size = its.length → i ∈ Region.ready .any ops listed → ∃ it o, its[i]? = some it ∧ ops[i]? = some o ∧ listed.getD i false = false ∧ ∀ e ∈ o.after.toList, Region.binds .any e = true → listed.getD e.on false = true := by
    intro listed i hs hi
    unfold Region.ready at hi
    simp only [List.mem_filter, List.mem_range, Bool.and_eq_true, Bool.not_eq_true'] at hi
    obtain ⟨h1, h2, h3⟩ := hi
    have hi2 : i < its.length := by rw [← hL.len]; exact h1
    refine ⟨its[i], ops[i], List.getElem?_eq_getElem hi2, Array.getElem?_eq_getElem h1, ?_, ?_⟩
    · rw [Array.getD_eq_getD_getElem?, Array.getElem?_eq_getElem (by omega)] at h2 ⊢
      exact h2
    · intro e he hb
      rw [Array.getElem?_eq_getElem h1] at h3
      simp only [Option.map_some, Option.getD_some, Array.all_eq_true_iff_forall_mem] at h3
      have := h3 e (by simpa using he)
      rw [hb] at this
      simpa using this
  have hdone : ∀ (listed : Array Bool), listed.size = its.length → Region.ready .any ops listed = [] → ∀ i, i < its.length → listed.getD i false = true := by
    intro listed hs hr i
    induction i using Nat.strongRecOn with
    | _ i ih =>
      intro hi
      obtain ⟨o, ho, _, hpre, _⟩ := hL.op i its[i] (List.getElem?_eq_getElem hi)
      cases hq : listed.getD i false with
      | true => rfl
      | false =>
        exfalso
        have : i ∈ Region.ready .any ops listed := by
          unfold Region.ready
          simp only [List.mem_filter, List.mem_range, Bool.and_eq_true, Bool.not_eq_true']
          refine ⟨by rw [hL.len]; exact hi, ?_, ?_⟩
          · rw [Array.getD_eq_getD_getElem?, Array.getElem?_eq_getElem (by omega)] at hq ⊢
            exact hq
          · rw [ho]
            simp only [Option.map_some, Option.getD_some, Array.all_eq_true_iff_forall_mem]
            intro e he
            cases hb : Region.binds .any e with
            | false => rfl
            | true =>
              have h1 := hpre e (by simpa using he) hb
              simp [ih e.on h1 (by omega)]
        rw [hr] at this
        simp at this
  have hfin : ∀ (listed : Array Bool) (k : Nat) (mm : Mem) (g : Lab) (pl : Pls) (a : Act) (w : World), listed.size = its.length → (∀ j itj, its[j]? = some itj → itj.w = true → (listed.getD j false = true ↔ nW (its.take j) < k)) → k ≤ nW its → M[k]? = some mm →
      Rel N w0 own0 pl0 g pl ⟨envSel (fun j => listed.getD j false) 0 R ++ E0, mm.1, mm.2, fix⟩ a w → Region.ready .any ops listed = [] → PQ N w0 own0 pl0 fix Q .normal a w := by
    intro listed k mm g pl a w hs hwk hk hmm hR hr
    have hall := hdone listed hs hr
    have hkk : k = nW its := by
      rcases Nat.lt_or_ge k (nW its) with h | h
      · exfalso
        obtain ⟨i', it', h1, h2, h3, h4⟩ := rank_ex its its.length k (by rw [List.take_length]; exact h)
        have := (hwk i' it' h2 h3).1 (hall i' h1)
        omega
      · omega
    subst hkk
    rw [hm1] at hmm
    simp only [Option.some.injEq] at hmm; subst hmm
    refine ⟨_, g, pl, hQ, rfl, hR.sub ?_⟩
    intro t y hy
    refine sel_of hRn h0 ?_
    rcases sel_get hy with ⟨j, h1, h2⟩ | h
    · refine .inl ⟨j, h1, ?_⟩
      have : j < R.length := (List.getElem?_eq_some_iff.1 h1).1
      rw [Nat.zero_add]
      exact hall j (by rw [← hD.len]; exact this)
    · exact .inr h
  intro fuel
  induction fuel with
  | zero =>
    intro listed k mm g pl a w hs hf hcl hwk hk hmm hR
    have hr : Region.ready .any ops listed = [] := by
      rw [List.eq_nil_iff_forall_not_mem]
      intro i hi
      obtain ⟨it, o, h1, h2, h3, h4⟩ := hready listed i hs hi
      have hi2 : i < its.length := (List.getElem?_eq_some_iff.1 h1).1
      have : i ∈ (List.range its.length).filter fun i => !listed.getD i false := List.mem_filter.2 ⟨List.mem_range.2 hi2, by rw [h3]; rfl⟩
      have h0 : ((List.range its.length).filter fun i => !listed.getD i false) = [] := List.eq_nil_of_length_eq_zero (by omega)
      rw [h0] at this
      simp at this
    exact ⟨hr, hfin listed k mm g pl a w hs hwk hk hmm hR hr⟩
  | succ fuel ih =>
    intro listed k mm g pl a w hs hf hcl hwk hk hmm hR
    refine ⟨fun hr => hfin listed k mm g pl a w hs hwk hk hmm hR hr, fun i hi => ?_⟩
    obtain ⟨it, o, h1, h2, h3, h4⟩ := hready listed i hs hi
    have hi2 : i < its.length := (List.getElem?_eq_some_iff.1 h1).1
    obtain ⟨o', ho', htr, hpre, hlt, hanc⟩ := hL.op i it h1
    rw [h2] at ho'
    simp only [Option.some.injEq] at ho'; subst ho'
    have hancL := hanc (fun j => listed.getD j false = true) h4 (fun j itj hj hl => hcl j itj hj hl)
    obtain ⟨y, hy⟩ : ∃ y, R[i]? = some y := ⟨_, List.getElem?_eq_getElem (by rw [hD.len]; exact hi2)⟩
    have hyd := hD.dst i it y h1 hy
    have hRE := hR.sub (env := envSel (fun j => it.anc.contains j) 0 R ++ E0) (by
      intro t z hz
      refine sel_of hRn h0 ?_
      rcases sel_get hz with ⟨j, e1, e2⟩ | h
      · exact .inl ⟨j, e1, hancL _ (by simpa using e2)⟩
      · exact .inr h)
    -- what comes next
    have next : ∀ (k' : Nat) (mm' : Mem) (v : Value) (w' : World) (g' : Lab) (pl' : Pls), VR pl' mm'.2 y.2 v → Hp w0 own0 pl0 g' pl' mm'.1 mm'.2 mm'.2 fix w' → (∀ z u, CR pl mm.2 z u → CR pl' mm'.2 (killCs [] z) u) → M[k']? = some mm' → k' ≤ nW its →
        (∀ j itj, its[j]? = some itj → itj.w = true → ((listed.setIfInBounds i true).getD j false = true ↔ nW (its.take j) < k')) →
        wpAny P .any ops (PQ N w0 own0 pl0 fix Q) fuel (listed.setIfInBounds i true) (a.put it.gi.dst v) w' := by
      intro k' mm' v w' g' pl' hv hp hkk hmm' hk' hwk'
      refine ih (listed.setIfInBounds i true) k' mm' g' pl' _ w' (by simp [hs]) ?_ ?_ hwk' hk' hmm' ?_
      · have := filter_lt (p := fun j => !listed.getD j false) (p' := fun j => !(listed.setIfInBounds i true).getD j false) (l := List.range its.length) (by
          intro x _ hx
          rw [listed_set (by omega)] at hx
          split at hx
          · simp at hx
          · exact hx) ⟨i, List.mem_range.2 hi2, by rw [h3]; rfl, by rw [listed_set (by omega)]; simp⟩
        omega
      · intro j itj hj hl b hb
        rw [listed_set (by omega)] at hl ⊢
        split
        · rfl
        · split at hl
          · rename_i e; subst e
            rw [h1] at hj
            simp only [Option.some.injEq] at hj; subst hj
            exact hancL b hb
          · exact hcl j itj hj hl b hb
      · have hput := hR.put (ks := []) (trOper_dst htr) hp hkk hv
        refine hput.sub ?_
        intro t z hz
        show get (setEnv it.gi.dst y.2 (envSel (fun j => listed.getD j false) 0 R ++ E0)) t = some z
        rcases sel_get hz with ⟨j, e1, e2⟩ | h
        · rw [Nat.zero_add, listed_set (by omega)] at e2
          by_cases hji : j = i
          · subst hji
            rw [hy] at e1
            simp only [Option.some.injEq] at e1; subst e1
            simp only at hyd
            rw [← hyd]
            simp only [setEnv]
            rw [get_put, if_pos rfl]
          · rw [if_neg hji] at e2
            have hget : get (envSel (fun j => listed.getD j false) 0 R ++ E0) t = some z := sel_of hRn h0 (.inl ⟨j, e1, by rw [Nat.zero_add]; exact e2⟩)
            cases hq : it.gi.dst with
            | none => exact hget
            | some d =>
              simp only [setEnv]
              rw [get_put]
              split
              · rename_i e; subst e
                exfalso
                -- two operations cannot yield the same
                have u1 : its[i]?.bind (·.gi.dst) = some d := by rw [h1]; exact hq
                have hjl : j < its.length := by rw [← hD.len]; exact (List.getElem?_eq_some_iff.1 e1).1
                have u2 := hD.dst j its[j] _ (List.getElem?_eq_getElem hjl) e1
                exact filterMap_inj hL.nodup hi2 hjl (fun e => hji e.symm) (by have := List.getElem?_eq_getElem hi2; rw [h1] at this; simp only [Option.some.injEq] at this; rw [← this]; exact hq) (by rw [← u2])
              · exact hget
        · cases hq : it.gi.dst with
          | none => exact sel_of hRn h0 (.inr h)
          | some d =>
            simp only [setEnv]
            rw [get_put]
            split
            · rename_i e; subst e
              have := h0 d y.2 (List.mem_of_getElem? (i := i) (by rw [hy]; congr 1; rw [Prod.ext_iff]; exact ⟨by rw [hyd, hq], rfl⟩))
              rw [this] at h; simp at h
            · exact sel_of hRn h0 (.inr h)
    cases hw : it.w with
    | false =>
      have hlo : it.lo ≤ k := by
        rcases hL.lo i it h1 hw with h | ⟨j, itj, ha, hj, hwj, e⟩
        · omega
        · have := (hwk j itj hj hwj).1 (hancL j ha); omega
      have hhi : k ≤ it.hi := by
        rcases hL.hi i it h1 hw with h | ⟨j, itj, hj, hwj, e, hm⟩
        · omega
        · rcases Nat.lt_or_ge it.hi k with hlt' | hge
          · exfalso
            have := (hwk j itj hj hwj).2 (by omega)
            have := hcl j itj hj this i hm
            rw [h3] at this; simp at this
          · exact hge
      have hst := hD.rd i it y h1 hy hw k mm hlo hhi hmm
      rw [List.nil_append] at hst
      obtain ⟨r, hop⟩ := hL.rd i it h1 hw
      refine stepV_ok hRE h2 htr (stepV_rd hop hst) ?_
      rintro v w' x ks roots nx g' pl' hv hp hkk ⟨rfl, rfl, rfl, rfl⟩
      refine next k mm v w' g' pl' hv hp hkk hmm hk ?_
      intro j itj hj hwj
      rw [listed_set (by omega)]
      split
      · rename_i e; subst e
        rw [h1] at hj
        simp only [Option.some.injEq] at hj; subst hj
        rw [hw] at hwj; simp at hwj
      · exact hwk j itj hj hwj
    | true =>
      have hck : nW (its.take i) = k := by
        have hge : k ≤ nW (its.take i) := by
          rcases Nat.lt_or_ge (nW (its.take i)) k with h | h
          · have := (hwk i it h1 hw).2 h; rw [h3] at this; simp at this
          · exact h
        rcases Nat.lt_or_ge k (nW (its.take i)) with h | h
        · exfalso
          obtain ⟨i', it', e1, e2, e3, e4⟩ := rank_ex its i k h
          have := (hwk i' it' e2 e3).1 (hancL i' (hL.wr i it h1 hw i' it' e1 e2 e3))
          omega
        · omega
      have hk1 : k + 1 ≤ nW its := by
        have e1 := nW_take_succ h1
        rw [hw] at e1
        simp at e1
        have := nW_take_all its (i + 1)
        omega
      obtain ⟨mm', hmm'⟩ : ∃ mm', M[k + 1]? = some mm' := ⟨_, List.getElem?_eq_getElem (by rw [hD.mlen]; omega)⟩
      have hst := hD.wr i it y h1 hy hw mm mm' (by rw [Nat.zero_add, hck]; exact hmm) (by rw [Nat.zero_add, hck]; exact hmm')
      rw [List.nil_append] at hst
      refine stepV_ok hRE h2 htr hst ?_
      rintro v w' x ks roots nx g' pl' hv hp hkk ⟨rfl, rfl, rfl, rfl⟩
      refine next (k + 1) mm' v w' g' pl' hv hp hkk hmm' hk1 ?_
      intro j itj hj hwj
      rw [listed_set (by omega)]
      split
      · rename_i e; subst e
        simp only [true_iff]
        omega
      · rename_i hji
        rw [hwk j itj hj hwj]
        have hne : nW (its.take j) ≠ k := by
          intro e
          rcases Nat.lt_or_ge i j with h | h
          · have := rank_lt h1 hw h; omega
          · have := rank_lt hj hwj (show j < i by omega); omega
        omega

/-- A region whose order is drawn. -/
theorem vw_draw {S : St} {id : Nat} (hm : P.follows .mixedOrders = true) (hck : ckAll its 0 ops.toList its = true) (htr : trOpers P N ops ops.toList = some (its.map (·.gi))) (hn : (its.filterMap (·.gi.dst)).Nodup)
    (h : drawGo P S.fix (S.env.filter fun x => !(its.filterMap (·.gi.dst)).contains x.1) its [] [(S.roots, S.next)] [] (Q .normal)) : Vw P N (.region id ops true) S Q := fun w0 own0 pl0 g pl a w hR => by
  have hL := laid_of hck htr hn
  obtain ⟨R, ms, hD, _, mm1, hm1, hK⟩ := drawGo_ext its [] (S.roots, S.next) [] [] (fun j it hj b hb => by
    obtain ⟨_, _, _, _, hlt, _⟩ := hL.op j it hj
    have := hlt b hb
    simp only [List.length_nil]; omega) h
  simp only [List.length_nil, Nat.zero_add, List.nil_append, List.reverse_nil] at hD hm1 hK
  have hget : ∀ (env : List (Nat × V)) (q : Nat → Bool) (t : Nat), get (env.filter fun x => q x.1) t = if q t then get env t else none := by
    intro env q t
    induction env with
    | nil => simp [get]
    | cons y env ih =>
      obtain ⟨d, x⟩ := y
      simp only [List.filter_cons]
      cases hq : q d with
      | true =>
        simp only [if_true, get]
        split
        · rename_i e; subst e; simp [hq]
        · exact ih
      | false =>
        simp only [Bool.false_eq_true, if_false, get]
        rw [ih]
        split
        · rename_i e
          split
          · rename_i e2; subst e2; rw [hq] at e; simp at e
          · rfl
        · rfl
  have h0 : ∀ d x, (some d, x) ∈ R → get (S.env.filter fun x => !(its.filterMap (·.gi.dst)).contains x.1) d = none := by
    intro d x hx
    rw [hget S.env (fun t => !(its.filterMap (·.gi.dst)).contains t) d]
    obtain ⟨j, hj⟩ := List.getElem?_of_mem hx
    have hjl : j < its.length := by rw [← hD.len]; exact (List.getElem?_eq_some_iff.1 hj).1
    have e := hD.dst j its[j] _ (List.getElem?_eq_getElem hjl) hj
    have hmem : d ∈ its.filterMap (·.gi.dst) := List.mem_filterMap.2 ⟨_, List.getElem_mem hjl, e.symm⟩
    rw [if_neg (by simp only [Bool.not_eq_true, Bool.not_eq_false']; exact List.contains_iff_mem.2 hmem)]
  refine wp_region_any hm ?_
  have hlen := hL.len
  refine draw_ok hL hD h0 hm1 hK ops.size (Array.replicate ops.size false) 0 (S.roots, S.next) g pl a w.drew (by simp [hlen]) ?_ ?_ ?_ (Nat.zero_le _) rfl ?_
  · rw [hlen]
    exact Nat.le_trans (List.length_filter_le _ _) (by simp)
  · intro j itj hj hl
    exfalso
    rw [Array.getD_eq_getD_getElem?] at hl
    simp only [Array.getElem?_replicate] at hl
    split at hl <;> simp at hl
  · intro j itj hj hwj
    refine ⟨fun hl => ?_, fun h => by omega⟩
    exfalso
    rw [Array.getD_eq_getD_getElem?] at hl
    simp only [Array.getElem?_replicate] at hl
    split at hl <;> simp at hl
  · have hRd : Rel N w0 own0 pl0 g pl S a w.drew := ⟨hR.hp.drew, hR.size, hR.defers, hR.env⟩
    refine hRd.sub ?_
    intro t y hy
    rcases sel_get hy with ⟨j, _, hl⟩ | h
    · exfalso
      rw [Array.getD_eq_getD_getElem?] at hl
      simp only [Array.getElem?_replicate] at hl
      split at hl <;> simp at hl
    · rw [hget S.env (fun t => !(its.filterMap (·.gi.dst)).contains t) t] at h
      split at h
      · exact h
      · simp at h
end Go.Vs
