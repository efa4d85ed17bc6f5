import Derived.IntWalk
import Derived.Test.YtgbapgjdkoojdaaVsW1
namespace Go.Vs
set_option linter.unusedVariables false
set_option linter.unusedSimpArgs false

def preds (o : Oper) : List Nat := (o.after.toList.filter fun e => Region.binds .any e).map (·.on)
def isW (its : List DI) (j : Nat) : Bool := match its[j]? with | some it => it.w | none => false
def ancOf (its : List DI) (j : Nat) : List Nat := match its[j]? with | some it => it.anc | none => []
def isRd : GI → Bool
  | ⟨_, .rd _, _⟩ => true
  | _ => false
def ck1 (its : List DI) (i : Nat) (o : Oper) (it : DI) : Bool :=
  (preds o).all (· < i) && it.anc.all (· < i) && it.anc.all (fun a => (preds o).contains a || (preds o).any fun j => (ancOf its j).contains a) &&
  (!it.w || (List.range i).all fun j => !isW its j || it.anc.contains j) &&
  (it.w || ((it.lo == 0 || it.anc.any fun j => isW its j && nW (its.take j) + 1 == it.lo) &&
    (decide (nW its ≤ it.hi) || (List.range its.length).any fun j => isW its j && nW (its.take j) == it.hi && (ancOf its j).contains i))) && (it.w || isRd it.gi)
def ckAll (its : List DI) : Nat → List Oper → List DI → Bool
  | _, [], [] => true
  | i, o :: ops, it :: l => ck1 its i o it && ckAll its (i + 1) ops l
  | _, _, _ => false
def trItems (P : Program) (N : Nat) (ops : Array Oper) : List Oper → List DI → Bool
  | [], [] => true
  | o :: l, it :: r => (match trOper P N ops o with | some gi => true | none => false) && trItems P N ops l r
  | _, _ => false
theorem ckAll_get {its : List DI} : ∀ {ops : List Oper} {l : List DI} {i : Nat}, ckAll its i ops l = true → ops.length = l.length ∧ ∀ (j : Nat) (it : DI), l[j]? = some it → ∃ o, ops[j]? = some o ∧ ck1 its (i + j) o it = true
  | [], [], i, _ => ⟨rfl, by simp⟩
  | o :: ops, it :: l, i, h => by
    simp only [ckAll, Bool.and_eq_true] at h
    obtain ⟨h1, h2⟩ := ckAll_get h.2
    refine ⟨by simp [h1], fun j it' hj => ?_⟩
    cases j with
    | zero => simp at hj; subst hj; exact ⟨o, rfl, h.1⟩
    | succ j =>
      obtain ⟨o', a, b⟩ := h2 j it' (by simpa using hj)
      exact ⟨o', by simpa using a, by rw [show i + (j + 1) = i + 1 + j by omega]; exact b⟩
  | [], _ :: _, _, h => by simp [ckAll] at h
  | _ :: _, [], _, h => by simp [ckAll] at h

/-- What the checks say. -/
structure Laid (P : Program) (N : Nat) (ops : Array Oper) (its : List DI) : Prop where
  len : ops.size = its.length
  op : ∀ (i : Nat) (it : DI), its[i]? = some it → ∃ o, ops[i]? = some o ∧ trOper P N ops o = some it.gi ∧ (∀ e ∈ o.after.toList, Region.binds .any e = true → e.on < i) ∧ (∀ a ∈ it.anc, a < i) ∧
    (∀ listed : Nat → Prop, (∀ e ∈ o.after.toList, Region.binds .any e = true → listed e.on) → (∀ j itj, its[j]? = some itj → listed j → ∀ a ∈ itj.anc, listed a) → ∀ a ∈ it.anc, listed a)
  wr : ∀ (i : Nat) (it : DI), its[i]? = some it → it.w = true → ∀ j itj, j < i → its[j]? = some itj → itj.w = true → j ∈ it.anc
  lo : ∀ (i : Nat) (it : DI), its[i]? = some it → it.w = false → it.lo = 0 ∨ ∃ j itj, j ∈ it.anc ∧ its[j]? = some itj ∧ itj.w = true ∧ nW (its.take j) + 1 = it.lo
  hi : ∀ (i : Nat) (it : DI), its[i]? = some it → it.w = false → nW its ≤ it.hi ∨ ∃ j itj, its[j]? = some itj ∧ itj.w = true ∧ nW (its.take j) = it.hi ∧ i ∈ itj.anc
  rd : ∀ (i : Nat) (it : DI), its[i]? = some it → it.w = false → ∃ r, it.gi.op = .rd r
  nodup : (its.filterMap (·.gi.dst)).Nodup
theorem isW_some {its : List DI} {j : Nat} (h : isW its j = true) : ∃ it, its[j]? = some it ∧ it.w = true := by
  unfold isW at h; split at h
  · rename_i it hh; exact ⟨it, hh, h⟩
  · simp at h
theorem laid_of {P : Program} {N : Nat} {ops : Array Oper} {its : List DI} (hck : ckAll its 0 ops.toList its = true) (htr : trOpers P N ops ops.toList = some (its.map (·.gi))) (hn : (its.filterMap (·.gi.dst)).Nodup) : Laid P N ops its := by
  obtain ⟨h1, h2⟩ := ckAll_get hck
  have htr' : ∀ (l : List Oper) (gs : List GI), trOpers P N ops l = some gs → ∀ (j : Nat) (gi : GI), gs[j]? = some gi → ∃ o : Oper, l[j]? = some o ∧ trOper P N ops o = some gi := by
    intro l
    induction l with
    | nil => intro gs h j gi hj; simp only [trOpers, Option.some.injEq] at h; subst h; simp at hj
    | cons o l ih =>
      intro gs h j gi hj
      simp only [trOpers, Option.bind_eq_bind, Option.bind_eq_some_iff, Option.some.injEq] at h
      obtain ⟨g, hg, gs', hgs, rfl⟩ := h
      cases j with
      | zero => simp at hj; subst hj; exact ⟨o, rfl, hg⟩
      | succ j => obtain ⟨o', a, b⟩ := ih gs' hgs j gi (by simpa using hj); exact ⟨o', by simpa using a, b⟩
  have hop : ∀ (i : Nat) (it : DI), its[i]? = some it → ∃ o, ops.toList[i]? = some o ∧ ops[i]? = some o ∧ trOper P N ops o = some it.gi ∧ ck1 its i o it = true := by
    intro i it hi
    obtain ⟨o, a, b⟩ := h2 i it hi
    obtain ⟨o', a', b'⟩ := htr' _ _ htr i it.gi (by rw [List.getElem?_map, hi]; rfl)
    rw [a] at a'
    simp only [Option.some.injEq] at a'; subst a'
    exact ⟨o, a, by rw [← Array.getElem?_toList]; exact a, b', by rw [Nat.zero_add] at b; exact b⟩
  refine ⟨by rw [← Array.length_toList]; exact h1, ?_, ?_, ?_, ?_, ?_, hn⟩
  · intro i it hi
    obtain ⟨o, _, a, b, c⟩ := hop i it hi
    simp only [ck1, Bool.and_eq_true] at c
    obtain ⟨⟨⟨⟨⟨c1, c2⟩, c3⟩, c4⟩, c5⟩, c6⟩ := c
    refine ⟨o, a, b, ?_, ?_, ?_⟩
    · intro e he hb
      have := List.all_eq_true.1 c1 e.on (List.mem_map_of_mem (List.mem_filter.2 ⟨he, hb⟩))
      simpa using this
    · intro x hx
      have := List.all_eq_true.1 c2 x hx
      simpa using this
    · intro listed hp hc x hx
      have hpre : ∀ j ∈ preds o, listed j := by
        intro j hj
        simp only [preds, List.mem_map, List.mem_filter] at hj
        obtain ⟨e, ⟨he, hb⟩, rfl⟩ := hj
        exact hp e he hb
      have := List.all_eq_true.1 c3 x hx
      simp only [Bool.or_eq_true, List.contains_iff_mem, List.any_eq_true] at this
      rcases this with k | ⟨j, hj, k⟩
      · exact hpre x k
      · unfold ancOf at k
        split at k
        · rename_i itj hitj; exact hc j itj hitj (hpre j hj) x k
        · simp at k
  · intro i it hi hw j itj hj hitj hwj
    obtain ⟨o, _, a, b, c⟩ := hop i it hi
    simp only [ck1, Bool.and_eq_true] at c
    obtain ⟨⟨⟨⟨⟨c1, c2⟩, c3⟩, c4⟩, c5⟩, c6⟩ := c
    rw [hw] at c4
    simp only [Bool.not_true, Bool.false_or] at c4
    have := List.all_eq_true.1 c4 j (by simpa using hj)
    have hjw : isW its j = true := by unfold isW; rw [hitj]; exact hwj
    rw [hjw] at this
    simpa using this
  · intro i it hi hw
    obtain ⟨o, _, a, b, c⟩ := hop i it hi
    simp only [ck1, Bool.and_eq_true] at c
    obtain ⟨⟨⟨⟨⟨c1, c2⟩, c3⟩, c4⟩, c5⟩, c6⟩ := c
    rw [hw] at c5
    simp only [Bool.false_or, Bool.and_eq_true, Bool.or_eq_true, beq_iff_eq, List.any_eq_true] at c5
    rcases c5.1 with k | ⟨j, hj, k1, k2⟩
    · exact .inl k
    · obtain ⟨itj, h3, h4⟩ := isW_some k1
      exact .inr ⟨j, itj, hj, h3, h4, k2⟩
  · intro i it hi hw
    obtain ⟨o, _, a, b, c⟩ := hop i it hi
    simp only [ck1, Bool.and_eq_true] at c
    obtain ⟨⟨⟨⟨⟨c1, c2⟩, c3⟩, c4⟩, c5⟩, c6⟩ := c
    rw [hw] at c5
    simp only [Bool.false_or, Bool.and_eq_true, Bool.or_eq_true, decide_eq_true_eq, List.any_eq_true, beq_iff_eq, List.contains_iff_mem] at c5
    rcases c5.2 with k | ⟨j, hj, ⟨k1, k2⟩, k3⟩
    · exact .inl k
    · obtain ⟨itj, h3, h4⟩ := isW_some k1
      refine .inr ⟨j, itj, h3, h4, k2, ?_⟩
      unfold ancOf at k3; rw [h3] at k3; exact k3
  · intro i it hi hw
    obtain ⟨o, _, a, b, c⟩ := hop i it hi
    simp only [ck1, Bool.and_eq_true] at c
    obtain ⟨⟨⟨⟨⟨c1, c2⟩, c3⟩, c4⟩, c5⟩, c6⟩ := c
    rw [hw, Bool.false_or] at c6
    cases hq : it.gi with
    | mk dst op gu =>
      rw [hq] at c6
      cases op with
      | rd r => exact ⟨r, rfl⟩
      | wr w => simp [isRd] at c6

theorem filterMap_inj : ∀ {l : List DI} {i j d : Nat}, (l.filterMap (·.gi.dst)).Nodup → ∀ (hi : i < l.length) (hj : j < l.length), i ≠ j → l[i].gi.dst = some d → l[j].gi.dst = some d → False
  | [], _, _, _, _, hi, _, _, _, _ => by simp at hi
  | x :: l, i, j, d, hn, hi, hj, hne, h1, h2 => by
    have hn' : (l.filterMap (·.gi.dst)).Nodup := by
      cases hx : x.gi.dst with
      | none => rw [List.filterMap_cons_none (by exact hx)] at hn; exact hn
      | some e => rw [List.filterMap_cons_some (by exact hx)] at hn; exact (List.nodup_cons.1 hn).2
    have mem : ∀ {k : Nat} (hk : k < l.length), l[k].gi.dst = some d → d ∈ l.filterMap (·.gi.dst) := fun hk e => List.mem_filterMap.2 ⟨_, List.getElem_mem hk, e⟩
    cases i with
    | zero =>
      cases j with
      | zero => exact hne rfl
      | succ j =>
        simp only [List.getElem_cons_zero, List.getElem_cons_succ] at h1 h2
        rw [List.filterMap_cons_some (by exact h1)] at hn
        exact (List.nodup_cons.1 hn).1 (mem _ h2)
    | succ i =>
      cases j with
      | zero =>
        simp only [List.getElem_cons_zero, List.getElem_cons_succ] at h1 h2
        rw [List.filterMap_cons_some (by exact h2)] at hn
        exact (List.nodup_cons.1 hn).1 (mem _ h1)
      | succ j =>
        simp only [List.getElem_cons_succ] at h1 h2
        exact filterMap_inj (l := l) hn' (by simpa using hi) (by simpa using hj) (by omega) h1 h2
/-- What writes nothing changes nothing. -/
theorem stepV_rd {P : Program} {gi : GI} {r : I} (hop : gi.op = .rd r) {S : St} {K : KW} (h : stepV P gi S K) : stepV P gi S fun x ks ro n => K x ks ro n ∧ ks = [] ∧ ro = S.roots ∧ n = S.next := by
  have key : evJ P S K gi.op → evJ P S (fun x ks ro n => K x ks ro n ∧ ks = [] ∧ ro = S.roots ∧ n = S.next) gi.op := by
    intro h
    rw [hop] at h ⊢
    obtain ⟨x, h1, h2⟩ := ev_ext (K := fun v => K v [] S.roots S.next) h
    exact h2 (fun v => K v [] S.roots S.next ∧ ([] : List (Nat × Path)) = [] ∧ S.roots = S.roots ∧ S.next = S.next) ⟨h1, rfl, rfl, rfl⟩
  unfold stepV at h ⊢
  cases hg : gi.guard with
  | none => simp only [hg] at h ⊢; exact key h
  | some gw =>
    obtain ⟨t, want⟩ := gw
    simp only [hg] at h ⊢
    split at h
    · rename_i b heq
      exact ⟨fun e => key (h.1 e), fun e => by simpa using h.2 e⟩
    · simpa using h
    · exact h.elim
theorem filter_lt {p p' : Nat → Bool} : ∀ {l : List Nat}, (∀ x ∈ l, p' x = true → p x = true) → (∃ i ∈ l, p i = true ∧ p' i = false) → (l.filter p').length < (l.filter p).length
  | [], _, h => by obtain ⟨i, h, _⟩ := h; simp at h
  | x :: l, hs, h => by
    have hle : (l.filter p').length ≤ (l.filter p).length := by
      clear h
      have hs' : ∀ x ∈ l, p' x = true → p x = true := fun y hy => hs y (by simp [hy])
      clear hs
      induction l with
      | nil => simp
      | cons y l ih =>
        have := ih fun z hz => hs' z (by simp [hz])
        simp only [List.filter_cons]
        cases h1 : p' y with
        | true => rw [hs' y (by simp) h1]; simpa using this
        | false => cases p y <;> simp <;> omega
    obtain ⟨i, hi, h1, h2⟩ := h
    simp only [List.filter_cons]
    rcases List.mem_cons.1 hi with rfl | hi
    · rw [h1, h2]; simp; omega
    · have := filter_lt (p := p) (p' := p') (l := l) (fun y hy => hs y (by simp [hy])) ⟨i, hi, h1, h2⟩
      cases h3 : p' x with
      | true => rw [hs x (by simp) h3]; simpa using this
      | false => cases p x <;> simp <;> omega

variable {P : Program} {N : Nat} {ops : Array Oper} {its : List DI} {w0 : World} {own0 : Nat → Nat → Prop} {pl0 : Pls} {fix : Nat} {E0 : List (Nat × V)} {R : List (Option Nat × V)} {M : List Mem} {Q : Exit → St → Prop}
theorem listed_set {l : Array Bool} {i j : Nat} (hi : i < l.size) : (l.setIfInBounds i true).getD j false = if j = i then true else l.getD j false := by
  rw [Array.getD_eq_getD_getElem?, Array.getD_eq_getD_getElem?]
  by_cases h : j = i
  · subst h; rw [Array.getElem?_setIfInBounds_self_of_lt hi]; simp
  · rw [Array.getElem?_setIfInBounds_ne (fun e => h e.symm)]; simp [h]
theorem draw_ok (hL : Laid P N ops its) (hD : Drawn P fix E0 its 0 [] R M) (h0 : ∀ d x, (some d, x) ∈ R → get E0 d = none) {mm1 : Mem} (hm1 : M[nW its]? = some mm1) (hQ : Q .normal ⟨envSel (fun _ => true) 0 R ++ E0, mm1.1, mm1.2, fix⟩) :
    ∀ (fuel : Nat) (listed : Array Bool) (k : Nat) (mm : Mem) (g : Lab) (pl : Pls) (a : Act) (w : World), listed.size = its.length → ((List.range its.length).filter fun i => !listed.getD i false).length ≤ fuel →
      (∀ j itj, its[j]? = some itj → listed.getD j false = true → ∀ b ∈ itj.anc, listed.getD b false = true) →
      (∀ j itj, its[j]? = some itj → itj.w = true → (listed.getD j false = true ↔ nW (its.take j) < k)) → k ≤ nW its → M[k]? = some mm →
      Rel N w0 own0 pl0 g pl ⟨envSel (fun j => listed.getD j false) 0 R ++ E0, mm.1, mm.2, fix⟩ a w →
      wpAny P .any ops (PQ N w0 own0 pl0 fix Q) fuel listed a w := by
  have hRn : (R.filterMap (·.1)).Nodup := by
    have : R.filterMap (·.1) = its.filterMap (·.gi.dst) := by
      have hl := hD.len
      have hd := hD.dst
      clear hm1 hQ h0 hL hD
      induction R generalizing its with
      | nil => cases its with
        | nil => rfl
        | cons => simp at hl
      | cons y R ih => cases its with
        | nil => simp at hl
        | cons it its =>
          have e := hd 0 it y rfl rfl
          have := ih (its := its) (by simpa using hl) fun j it y h1 h2 => hd (j + 1) it y (by simpa using h1) (by simpa using h2)
          cases hq : it.gi.dst with
          | none => rw [List.filterMap_cons_none (by rw [e, hq]), List.filterMap_cons_none (by exact hq), this]
          | some d => rw [List.filterMap_cons_some (by rw [e, hq]), List.filterMap_cons_some (by exact hq), this]
    rw [this]; exact hL.nodup
  have hready : ∀ (listed : Array Bool) (i : Nat), listed.size = its.length → i ∈ Region.ready .any ops listed → ∃ it o, its[i]? = some it ∧ ops[i]? = some o ∧ listed.getD i false = false ∧ ∀ e ∈ o.after.toList, Region.binds .any e = true → listed.getD e.on false = true := by
    intro listed i hs hi
    unfold Region.ready at hi
    simp only [List.mem_filter, List.mem_range, Bool.and_eq_true, Bool.not_eq_true'] at hi
    obtain ⟨h1, h2, h3⟩ := hi
    have hi2 : i < its.length := by rw [← hL.len]; exact h1
    refine ⟨its[i], ops[i], List.getElem?_eq_getElem hi2, Array.getElem?_eq_getElem h1, ?_, ?_⟩
    · rw [Array.getD_eq_getD_getElem?, Array.getElem?_eq_getElem (by omega)] at h2 ⊢
      exact h2
    · intro e he hb
      rw [Array.getElem?_eq_getElem h1] at h3
      simp only [Option.map_some, Option.getD_some, Array.all_eq_true_iff_forall_mem] at h3
      have := h3 e (by simpa using he)
      rw [hb] at this
      simpa using this
  have hdone : ∀ (listed : Array Bool), listed.size = its.length → Region.ready .any ops listed = [] → ∀ i, i < its.length → listed.getD i false = true := by
    intro listed hs hr i
    induction i using Nat.strongRecOn with
    | _ i ih =>
      intro hi
      obtain ⟨o, ho, _, hpre, _⟩ := hL.op i its[i] (List.getElem?_eq_getElem hi)
      cases hq : listed.getD i false with
      | true => rfl
      | false =>
        exfalso
        have : i ∈ Region.ready .any ops listed := by
          unfold Region.ready
          simp only [List.mem_filter, List.mem_range, Bool.and_eq_true, Bool.not_eq_true']
          refine ⟨by rw [hL.len]; exact hi, ?_, ?_⟩
          · rw [Array.getD_eq_getD_getElem?, Array.getElem?_eq_getElem (by omega)] at hq ⊢
            exact hq
          · rw [ho]
            simp only [Option.map_some, Option.getD_some, Array.all_eq_true_iff_forall_mem]
            intro e he
            cases hb : Region.binds .any e with
            | false => rfl
            | true =>
              have h1 := hpre e (by simpa using he) hb
              simp [ih e.on h1 (by omega)]
        rw [hr] at this
        simp at this
  have hfin : ∀ (listed : Array Bool) (k : Nat) (mm : Mem) (g : Lab) (pl : Pls) (a : Act) (w : World), listed.size = its.length → (∀ j itj, its[j]? = some itj → itj.w = true → (listed.getD j false = true ↔ nW (its.take j) < k)) → k ≤ nW its → M[k]? = some mm →
      Rel N w0 own0 pl0 g pl ⟨envSel (fun j => listed.getD j false) 0 R ++ E0, mm.1, mm.2, fix⟩ a w → Region.ready .any ops listed = [] → PQ N w0 own0 pl0 fix Q .normal a w := by
    intro listed k mm g pl a w hs hwk hk hmm hR hr
    have hall := hdone listed hs hr
    have hkk : k = nW its := by
      rcases Nat.lt_or_ge k (nW its) with h | h
      · exfalso
        obtain ⟨i', it', h1, h2, h3, h4⟩ := rank_ex its its.length k (by rw [List.take_length]; exact h)
        have := (hwk i' it' h2 h3).1 (hall i' h1)
        omega
      · omega
    subst hkk
    rw [hm1] at hmm
    simp only [Option.some.injEq] at hmm; subst hmm
    refine ⟨_, g, pl, hQ, rfl, hR.sub ?_⟩
    intro t y hy
    refine sel_of hRn h0 ?_
    rcases sel_get hy with ⟨j, h1, h2⟩ | h
    · refine .inl ⟨j, h1, ?_⟩
      have : j < R.length := (List.getElem?_eq_some_iff.1 h1).1
      rw [Nat.zero_add]
      exact hall j (by rw [← hD.len]; exact this)
    · exact .inr h
  intro fuel
  induction fuel with
  | zero =>
    intro listed k mm g pl a w hs hf hcl hwk hk hmm hR
    have hr : Region.ready .any ops listed = [] := by
      rw [List.eq_nil_iff_forall_not_mem]
      intro i hi
      obtain ⟨it, o, h1, h2, h3, h4⟩ := hready listed i hs hi
      have hi2 : i < its.length := (List.getElem?_eq_some_iff.1 h1).1
      have : i ∈ (List.range its.length).filter fun i => !listed.getD i false := List.mem_filter.2 ⟨List.mem_range.2 hi2, by rw [h3]; rfl⟩
      have h0 : ((List.range its.length).filter fun i => !listed.getD i false) = [] := List.eq_nil_of_length_eq_zero (by omega)
      rw [h0] at this
      simp at this
    exact ⟨hr, hfin listed k mm g pl a w hs hwk hk hmm hR hr⟩
  | succ fuel ih =>
    intro listed k mm g pl a w hs hf hcl hwk hk hmm hR
    refine ⟨fun hr => hfin listed k mm g pl a w hs hwk hk hmm hR hr, fun i hi => ?_⟩
    obtain ⟨it, o, h1, h2, h3, h4⟩ := hready listed i hs hi
    have hi2 : i < its.length := (List.getElem?_eq_some_iff.1 h1).1
    obtain ⟨o', ho', htr, hpre, hlt, hanc⟩ := hL.op i it h1
    rw [h2] at ho'
    simp only [Option.some.injEq] at ho'; subst ho'
    have hancL := hanc (fun j => listed.getD j false = true) h4 (fun j itj hj hl => hcl j itj hj hl)
    obtain ⟨y, hy⟩ : ∃ y, R[i]? = some y := ⟨_, List.getElem?_eq_getElem (by rw [hD.len]; exact hi2)⟩
    have hyd := hD.dst i it y h1 hy
    have hRE := hR.sub (env := envSel (fun j => it.anc.contains j) 0 R ++ E0) (by
      intro t z hz
      refine sel_of hRn h0 ?_
      rcases sel_get hz with ⟨j, e1, e2⟩ | h
      · exact .inl ⟨j, e1, hancL _ (by simpa using e2)⟩
      · exact .inr h)
    -- what comes next
    have next : ∀ (k' : Nat) (mm' : Mem) (v : Value) (w' : World) (g' : Lab) (pl' : Pls), VR pl' mm'.2 y.2 v → Hp w0 own0 pl0 g' pl' mm'.1 mm'.2 mm'.2 fix w' → (∀ z u, CR pl mm.2 z u → CR pl' mm'.2 (killCs [] z) u) → M[k']? = some mm' → k' ≤ nW its →
        (∀ j itj, its[j]? = some itj → itj.w = true → ((listed.setIfInBounds i true).getD j false = true ↔ nW (its.take j) < k')) →
        wpAny P .any ops (PQ N w0 own0 pl0 fix Q) fuel (listed.setIfInBounds i true) (a.put it.gi.dst v) w' := by
      intro k' mm' v w' g' pl' hv hp hkk hmm' hk' hwk'
      refine ih (listed.setIfInBounds i true) k' mm' g' pl' _ w' (by simp [hs]) ?_ ?_ hwk' hk' hmm' ?_
      · have := filter_lt (p := fun j => !listed.getD j false) (p' := fun j => !(listed.setIfInBounds i true).getD j false) (l := List.range its.length) (by
          intro x _ hx
          rw [listed_set (by omega)] at hx
          split at hx
          · simp at hx
          · exact hx) ⟨i, List.mem_range.2 hi2, by rw [h3]; rfl, by rw [listed_set (by omega)]; simp⟩
        omega
      · intro j itj hj hl b hb
        rw [listed_set (by omega)] at hl ⊢
        split
        · rfl
        · split at hl
          · rename_i e; subst e
            rw [h1] at hj
            simp only [Option.some.injEq] at hj; subst hj
            exact hancL b hb
          · exact hcl j itj hj hl b hb
      · have hput := hR.put (ks := []) (trOper_dst htr) hp hkk hv
        refine hput.sub ?_
        intro t z hz
        show get (setEnv it.gi.dst y.2 (envSel (fun j => listed.getD j false) 0 R ++ E0)) t = some z
        rcases sel_get hz with ⟨j, e1, e2⟩ | h
        · rw [Nat.zero_add, listed_set (by omega)] at e2
          by_cases hji : j = i
          · subst hji
            rw [hy] at e1
            simp only [Option.some.injEq] at e1; subst e1
            simp only at hyd
            rw [← hyd]
            simp only [setEnv]
            rw [get_put, if_pos rfl]
          · rw [if_neg hji] at e2
            have hget : get (envSel (fun j => listed.getD j false) 0 R ++ E0) t = some z := sel_of hRn h0 (.inl ⟨j, e1, by rw [Nat.zero_add]; exact e2⟩)
            cases hq : it.gi.dst with
            | none => exact hget
            | some d =>
              simp only [setEnv]
              rw [get_put]
              split
              · rename_i e; subst e
                exfalso
                -- two operations cannot yield the same
                have u1 : its[i]?.bind (·.gi.dst) = some d := by rw [h1]; exact hq
                have hjl : j < its.length := by rw [← hD.len]; exact (List.getElem?_eq_some_iff.1 e1).1
                have u2 := hD.dst j its[j] _ (List.getElem?_eq_getElem hjl) e1
                exact filterMap_inj hL.nodup hi2 hjl (fun e => hji e.symm) (by have := List.getElem?_eq_getElem hi2; rw [h1] at this; simp only [Option.some.injEq] at this; rw [← this]; exact hq) (by rw [← u2])
              · exact hget
        · cases hq : it.gi.dst with
          | none => exact sel_of hRn h0 (.inr h)
          | some d =>
            simp only [setEnv]
            rw [get_put]
            split
            · rename_i e; subst e
              have := h0 d y.2 (List.mem_of_getElem? (i := i) (by rw [hy]; congr 1; rw [Prod.ext_iff]; exact ⟨by rw [hyd, hq], rfl⟩))
              rw [this] at h; simp at h
            · exact sel_of hRn h0 (.inr h)
    cases hw : it.w with
    | false =>
      have hlo : it.lo ≤ k := by
        rcases hL.lo i it h1 hw with h | ⟨j, itj, ha, hj, hwj, e⟩
        · omega
        · have := (hwk j itj hj hwj).1 (hancL j ha); omega
      have hhi : k ≤ it.hi := by
        rcases hL.hi i it h1 hw with h | ⟨j, itj, hj, hwj, e, hm⟩
        · omega
        · rcases Nat.lt_or_ge it.hi k with hlt' | hge
          · exfalso
            have := (hwk j itj hj hwj).2 (by omega)
            have := hcl j itj hj this i hm
            rw [h3] at this; simp at this
          · exact hge
      have hst := hD.rd i it y h1 hy hw k mm hlo hhi hmm
      rw [List.nil_append] at hst
      obtain ⟨r, hop⟩ := hL.rd i it h1 hw
      refine stepV_ok hRE h2 htr (stepV_rd hop hst) ?_
      rintro v w' x ks roots nx g' pl' hv hp hkk ⟨rfl, rfl, rfl, rfl⟩
      refine next k mm v w' g' pl' hv hp hkk hmm hk ?_
      intro j itj hj hwj
      rw [listed_set (by omega)]
      split
      · rename_i e; subst e
        rw [h1] at hj
        simp only [Option.some.injEq] at hj; subst hj
        rw [hw] at hwj; simp at hwj
      · exact hwk j itj hj hwj
    | true =>
      have hck : nW (its.take i) = k := by
        have hge : k ≤ nW (its.take i) := by
          rcases Nat.lt_or_ge (nW (its.take i)) k with h | h
          · have := (hwk i it h1 hw).2 h; rw [h3] at this; simp at this
          · exact h
        rcases Nat.lt_or_ge k (nW (its.take i)) with h | h
        · exfalso
          obtain ⟨i', it', e1, e2, e3, e4⟩ := rank_ex its i k h
          have := (hwk i' it' e2 e3).1 (hancL i' (hL.wr i it h1 hw i' it' e1 e2 e3))
          omega
        · omega
      have hk1 : k + 1 ≤ nW its := by
        have e1 := nW_take_succ h1
        rw [hw] at e1
        simp at e1
        have := nW_take_all its (i + 1)
        omega
      obtain ⟨mm', hmm'⟩ : ∃ mm', M[k + 1]? = some mm' := ⟨_, List.getElem?_eq_getElem (by rw [hD.mlen]; omega)⟩
      have hst := hD.wr i it y h1 hy hw mm mm' (by rw [Nat.zero_add, hck]; exact hmm) (by rw [Nat.zero_add, hck]; exact hmm')
      rw [List.nil_append] at hst
      refine stepV_ok hRE h2 htr hst ?_
      rintro v w' x ks roots nx g' pl' hv hp hkk ⟨rfl, rfl, rfl, rfl⟩
      refine next (k + 1) mm' v w' g' pl' hv hp hkk hmm' hk1 ?_
      intro j itj hj hwj
      rw [listed_set (by omega)]
      split
      · rename_i e; subst e
        simp only [true_iff]
        omega
      · rename_i hji
        rw [hwk j itj hj hwj]
        have hne : nW (its.take j) ≠ k := by
          intro e
          rcases Nat.lt_or_ge i j with h | h
          · have := rank_lt h1 hw h; omega
          · have := rank_lt hj hwj (show j < i by omega); omega
        omega

/-- A region whose order is drawn. -/
theorem vw_draw {S : St} {id : Nat} (hm : P.follows .mixedOrders = true) (hck : ckAll its 0 ops.toList its = true) (htr : trOpers P N ops ops.toList = some (its.map (·.gi))) (hn : (its.filterMap (·.gi.dst)).Nodup)
    (h : drawGo P S.fix (S.env.filter fun x => !(its.filterMap (·.gi.dst)).contains x.1) its [] [(S.roots, S.next)] [] (Q .normal)) : Vw P N (.region id ops true) S Q := fun w0 own0 pl0 g pl a w hR => by
  have hL := laid_of hck htr hn
  obtain ⟨R, ms, hD, _, mm1, hm1, hK⟩ := drawGo_ext its [] (S.roots, S.next) [] [] (fun j it hj b hb => by
    obtain ⟨_, _, _, _, hlt, _⟩ := hL.op j it hj
    have := hlt b hb
    simp only [List.length_nil]; omega) h
  simp only [List.length_nil, Nat.zero_add, List.nil_append, List.reverse_nil] at hD hm1 hK
  have hget : ∀ (env : List (Nat × V)) (q : Nat → Bool) (t : Nat), get (env.filter fun x => q x.1) t = if q t then get env t else none := by
    intro env q t
    induction env with
    | nil => simp [get]
    | cons y env ih =>
      obtain ⟨d, x⟩ := y
      simp only [List.filter_cons]
      cases hq : q d with
      | true =>
        simp only [if_true, get]
        split
        · rename_i e; subst e; simp [hq]
        · exact ih
      | false =>
        simp only [Bool.false_eq_true, if_false, get]
        rw [ih]
        split
        · rename_i e
          split
          · rename_i e2; subst e2; rw [hq] at e; simp at e
          · rfl
        · rfl
  have h0 : ∀ d x, (some d, x) ∈ R → get (S.env.filter fun x => !(its.filterMap (·.gi.dst)).contains x.1) d = none := by
    intro d x hx
    rw [hget S.env (fun t => !(its.filterMap (·.gi.dst)).contains t) d]
    obtain ⟨j, hj⟩ := List.getElem?_of_mem hx
    have hjl : j < its.length := by rw [← hD.len]; exact (List.getElem?_eq_some_iff.1 hj).1
    have e := hD.dst j its[j] _ (List.getElem?_eq_getElem hjl) hj
    have hmem : d ∈ its.filterMap (·.gi.dst) := List.mem_filterMap.2 ⟨_, List.getElem_mem hjl, e.symm⟩
    rw [if_neg (by simp only [Bool.not_eq_true, Bool.not_eq_false']; exact List.contains_iff_mem.2 hmem)]
  refine wp_region_any hm ?_
  have hlen := hL.len
  refine draw_ok hL hD h0 hm1 hK ops.size (Array.replicate ops.size false) 0 (S.roots, S.next) g pl a w.drew (by simp [hlen]) ?_ ?_ ?_ (Nat.zero_le _) rfl ?_
  · rw [hlen]
    exact Nat.le_trans (List.length_filter_le _ _) (by simp)
  · intro j itj hj hl
    exfalso
    rw [Array.getD_eq_getD_getElem?] at hl
    simp only [Array.getElem?_replicate] at hl
    split at hl <;> simp at hl
  · intro j itj hj hwj
    refine ⟨fun hl => ?_, fun h => by omega⟩
    exfalso
    rw [Array.getD_eq_getD_getElem?] at hl
    simp only [Array.getElem?_replicate] at hl
    split at hl <;> simp at hl
  · have hRd : Rel N w0 own0 pl0 g pl S a w.drew := ⟨hR.hp.drew, hR.size, hR.defers, hR.env⟩
    refine hRd.sub ?_
    intro t y hy
    rcases sel_get hy with ⟨j, _, hl⟩ | h
    · exfalso
      rw [Array.getD_eq_getD_getElem?] at hl
      simp only [Array.getElem?_replicate] at hl
      split at hl <;> simp at hl
    · rw [hget S.env (fun t => !(its.filterMap (·.gi.dst)).contains t) t] at h
      split at h
      · exact h
      · simp at h
end Go.Vs
namespace Go.Vs
set_option linter.unusedVariables false
set_option linter.unusedSimpArgs false

/-! ## a function's way in and out -/
def env0 : Nat → List V → List (Nat × V)
  | _, [] => []
  | i, v :: l => (i, v) :: env0 (i + 1) l
theorem env0_get : ∀ {l : List V} {i t : Nat} {x : V}, get (env0 i l) t = some x → i ≤ t ∧ l[t - i]? = some x
  | [], _, _, _, h => by simp [env0, get] at h
  | v :: l, i, t, x, h => by
    simp only [env0, get] at h
    split at h
    · rename_i e; subst e; simp only [Option.some.injEq] at h; subst h; exact ⟨Nat.le_refl _, by simp⟩
    · obtain ⟨h1, h2⟩ := env0_get h
      refine ⟨by omega, ?_⟩
      rw [show t - i = (t - (i + 1)) + 1 by omega, List.getElem?_cons_succ]
      exact h2
def trRes (P : Program) : List ResultVar → Option (List I)
  | [] => some []
  | .tmp t :: l => (trRes P l).map (.mv (.t t) :: ·)
  | .cell a t :: l => do some (.load (← partSize P t) (.t a) :: (← trRes P l))
def resK (S : St) : List I → (List A → Prop) → Prop
  | [], K => K []
  | i :: l, K => ev S (fun v => match v with | .a x => resK S l fun xs => K (x :: xs) | _ => False) i
theorem compsV_resV (xs : List A) : compsV (resV xs) = some xs := by
  match xs with
  | [] => rfl
  | [x] => rfl
  | x :: y :: l => rfl

variable {P : Program} {N : Nat} {w0 : World} {own0 : Nat → Nat → Prop} {pl0 : Pls} {g : Lab} {pl : Pls} {S : St} {a : Act} {w : World}
def resF (tmps : Array Value) : ResultVar → Sem Value
  | .tmp t => pure (tmps.getD t undef)
  | .cell a t => do loadVar t (← asAddr (tmps.getD a undef))
theorem results_eq (fn : Func) (tmps : Array Value) : results fn tmps = (do
    let vs ← fn.results.mapM (resF tmps)
    pure (if h : vs.size = 1 then vs[0] else .tuple vs)) := by
  unfold results
  congr 1
theorem mapM_ok {f : ResultVar → Sem Value} {x : ResultVar} {l : List ResultVar} {v : Value} {vs : List Value} (h1 : (f x).run P w = .ok v w) (h2 : (l.mapM f).run P w = .ok vs w) : ((x :: l).mapM f).run P w = .ok (v :: vs) w := by
  rw [List.mapM_cons]
  simp [h1, h2]
theorem res_run (hR : Rel N w0 own0 pl0 g pl S a w) : ∀ (l : List ResultVar) (is : List I) (K : List A → Prop), trRes P l = some is → resK S is K →
    ∃ vs xs, (l.mapM (resF a.tmps)).run P w = .ok vs w ∧ All2 (AR pl S.next) xs vs ∧ K xs
  | [], is, K, ht, h => by
    simp only [trRes, Option.some.injEq] at ht; subst ht
    exact ⟨[], [], by simp, trivial, h⟩
  | .tmp t :: l, is, K, ht, h => by
    simp only [trRes, Option.map_eq_some_iff] at ht
    obtain ⟨is', ht', rfl⟩ := ht
    simp only [resK, ev] at h
    cases hx : S.opd (.t t) with
    | a x =>
      rw [hx] at h
      simp only at h
      obtain ⟨vs, xs, h1, h2, h3⟩ := res_run hR l is' _ ht' h
      have hv := opd_ok hR (P := P) (ty := 0) (x := .tmp t) (y := .t t) rfl
      rw [hx] at hv
      exact ⟨a.tmps.getD t undef :: vs, x :: xs, mapM_ok rfl h1, ⟨hv, h2⟩, h3⟩
    | un => rw [hx] at h; exact h.elim
    | tp xs => rw [hx] at h; exact h.elim
    | fn f cs => rw [hx] at h; exact h.elim
  | .cell x t :: l, is, K, ht, h => by
    simp only [trRes, Option.bind_eq_bind, Option.bind_eq_some_iff, Option.some.injEq] at ht
    obtain ⟨n, hn, is', ht', rfl⟩ := ht
    simp only [resK] at h
    obtain ⟨v, y, hr, hy, hK⟩ := ev_ok hR (P := P) (o := ⟨none, .load t (.tmp x), 0, "", #[], none⟩) (i := .load n (.t x)) (by simp [trR, hn, trO]) h
    cases y with
    | a y =>
      simp only at hK
      obtain ⟨vs, xs, h1, h2, h3⟩ := res_run hR l is' _ ht' hK
      refine ⟨v :: vs, y :: xs, mapM_ok ?_ h1, ⟨hy, h2⟩, h3⟩
      have hr1 : (do pure (.value (← Instr.loadAt t (a.tmps.getD x undef))) : Sem Go.Next).run P w = .ok (.value v) w := hr
      have hptr : ∃ ad, a.tmps.getD x undef = .pointer (some ad) := by
        have hv := opd_ok hR (P := P) (ty := 0) (x := .tmp x) (y := .t x) rfl
        have hv' : VR pl S.next (S.opd (.t x)) (a.tmps.getD x undef) := hv
        cases n with
        | none =>
          simp only [ev] at h
          split at h
          · rename_i he; rw [he] at hv'; exact ⟨_, hv'.2.2⟩
          · rename_i he; rw [he] at hv'; exact ⟨_, hv'.2⟩
          · exact h.elim
        | some m =>
          simp only [ev] at h
          split at h
          · rename_i he; rw [he] at hv'; exact ⟨_, hv'.2.2⟩
          · rename_i he; rw [he] at hv'; exact ⟨_, hv'.2⟩
          · exact h.elim
      obtain ⟨ad, had⟩ := hptr
      rw [had] at hr1
      show (do loadVar t (← asAddr (a.tmps.getD x undef)) : Sem Value).run P w = .ok v w
      rw [had]
      simp only [Instr.loadAt, Instr.sureAddr, asAddr, Sem.run_bind, Sem.run_pure] at hr1 ⊢
      cases hl : (loadVar t ad).run P w with
      | ok u w' =>
        simp [hl] at hr1 ⊢
        exact hr1
      | halt e w' => simp [hl] at hr1
    | un => exact hK.elim
    | tp xs => exact hK.elim
    | fn f cs => exact hK.elim
/-- A function, its code being walked. -/
theorem runs_of_vw {f : FuncId} {fn : Func} {c : Code} {as : List Arg} {out : Out} {is : List I} (hf : P.funcs[f]? = some fn) (hb : fn.body = some c) (hi : trRes P fn.results.toList = some is) (hn : as.length ≤ fn.ntmps)
    (h : Vw P fn.ntmps c ⟨env0 0 (inAs as).1, (inAs as).2.1, (inAs as).2.2, fixN as⟩ fun e S' => match e with
      | .ret | .normal => resK S' is fun xs => Leaves as out S'.roots (resV xs)
      | _ => False) : Runs P f as out := by
  intro w own g pl vs hp hv
  have hlen : ∀ (as : List Arg) (cs : List C) (b : Nat), (inV as cs b).length = as.length := by
    intro as
    induction as with
    | nil => intro cs b; rfl
    | cons x as ih => intro cs b; cases x with
      | val ag l => cases ag <;> simp [inV, ih]
      | ptr l => simp [inV, ih]
  have hvl : vs.length = as.length := by rw [← hv.length]; exact hlen _ _ _
  refine calls_of_wp hf hb ?_
  refine wp_mono (h w own pl g pl _ w ⟨hp, ?_, rfl, ?_⟩) ?_
  · simp; omega
  · intro t x hx
    obtain ⟨_, h1⟩ := env0_get hx
    rw [Nat.sub_zero] at h1
    obtain ⟨v, h2, h3⟩ := hv.get t x h1
    have ht : t < vs.length := (List.getElem?_eq_some_iff.1 h2).1
    have : (vs.toArray ++ Array.replicate (fn.ntmps - vs.toArray.size) undef).getD t undef = v := by
      rw [Array.getD_eq_getD_getElem?, Array.getElem?_append_left (by simpa using ht)]
      simp [h2]
    rw [this]
    exact h3
  · rintro e a' w' ⟨S', g', pl', q, hfx, hR⟩
    have fin : resK S' is (fun xs => Leaves as out S'.roots (resV xs)) → a'.defers = [] ∧ ∃ v, (results fn a'.tmps).run P w' = .ok v w' ∧ ∃ rv g' pl' roots nx res, Ending.returned v = .returned rv ∧ Hp w own pl g' pl' roots nx nx (fixN as) w' ∧ VR pl' nx res rv ∧ Leaves as out roots res := by
      intro hk
      obtain ⟨us, xs, h1, h2, h3⟩ := res_run hR _ _ _ hi hk
      have hp' := hR.hp
      rw [hfx] at hp'
      refine ⟨hR.defers, if h : us.toArray.size = 1 then us.toArray[0] else .tuple us.toArray, ?_, _, g', pl', S'.roots, S'.next, resV xs, rfl, hp', ?_, h3⟩
      · rw [results_eq]
        rw [Array.mapM_eq_mapM_toList]
        simp [h1]
      · match xs, us, h2 with
        | [], [], _ => exact ⟨[], rfl, trivial⟩
        | [x], [u], h2 => exact h2.1
        | x :: y :: l, u :: u' :: us, h2 => exact ⟨u :: u' :: us, by simp, h2⟩
        | [_], _ :: _ :: _, h2 => exact h2.2.elim
        | _ :: _ :: _, [_], h2 => exact h2.2.elim
    cases e with
    | normal => exact fin q
    | ret => exact fin q
    | exit id => exact q.elim
    | goto l => exact q.elim
    | panic ch => exact q.elim
    | outgrown => exact q.elim
end Go.Vs
namespace Go.Vs
set_option linter.unusedVariables false
set_option linter.unusedSimpArgs false

/-! ## code, its operations translated -/
inductive Stm where
  | reg (gis : List GI)
  | drw (its : List DI)
  | seq (x y : Stm)
  | cond (c : Opd) (x y : Stm)
  | block (id : Nat) (x : Stm)
  | loop (x : Stm)
  | exit (id : Nat)
  | ret
  | skip
  deriving Inhabited
def nub : List Nat → List Nat
  | [] => []
  | x :: l => let r := nub l; if r.contains x then r else x :: r
def mkAncs : List Oper → List (List Nat) → List (List Nat)
  | [], acc => acc
  | o :: l, acc => mkAncs l (acc ++ [nub (preds o ++ (preds o).flatMap fun j => acc.getD j [])])
def cntW (ws : List Bool) : Nat → Nat
  | 0 => 0
  | n + 1 => (if ws.getD n false then 1 else 0) + cntW ws n
def hiOf (ws : List Bool) (ancs : List (List Nat)) (i : Nat) : Nat → List Nat → Nat
  | m, [] => m
  | m, j :: l => if ws.getD j false && (ancs.getD j []).contains i then cntW ws j else hiOf ws ancs i m l
def mkIts (ws : List Bool) (ancs : List (List Nat)) : Nat → List GI → List DI
  | _, [] => []
  | i, g :: l => ⟨g, ancs.getD i [], ws.getD i false, if ws.getD i false then 0 else ((ancs.getD i []).filter fun j => ws.getD j false).length, if ws.getD i false then 0 else hiOf ws ancs i (cntW ws ws.length) (List.range ws.length)⟩ :: mkIts ws ancs (i + 1) l
def trDraw (P : Program) (N : Nat) (ops : Array Oper) : Option (List DI) := do
  let gis ← trOpers P N ops ops.toList
  let its := mkIts (gis.map fun g => !isRd g) (mkAncs ops.toList []) 0 gis
  if ckAll its 0 ops.toList its && decide ((its.filterMap (·.gi.dst)).Nodup) then some its else none
theorem mkIts_gi (ws : List Bool) (ancs : List (List Nat)) : ∀ (gis : List GI) (i : Nat), (mkIts ws ancs i gis).map (·.gi) = gis
  | [], i => rfl
  | g :: l, i => by simp only [mkIts, List.map_cons, mkIts_gi ws ancs l (i + 1)]
def trC (P : Program) (N : Nat) : Code → Option Stm
  | .skip => some .skip
  | .label _ => some .skip
  | .region _ ops false => (trOpers P N ops ops.toList).map .reg
  | .region _ ops true => (trDraw P N ops).map .drw
  | .seq a b => do some (.seq (← trC P N a) (← trC P N b))
  | .cond c a b => do some (.cond (← trO P 0 c) (← trC P N a) (← trC P N b))
  | .block id a => (trC P N a).map (.block id)
  | .loop a => (trC P N a).map .loop
  | .exit id => some (.exit id)
  | .ret => some .ret
  | _ => none
def Sw (P : Program) (N : Nat) (s : Stm) (S : St) (Q : Exit → St → Prop) : Prop := ∀ c, trC P N c = some s → Vw P N c S Q

variable {P : Program} {N : Nat} {S : St} {Q : Exit → St → Prop}
theorem sw_skip (h : Q .normal S) : Sw P N .skip S Q := fun c hc => by
  cases c with
  | skip => exact vw_skip h
  | label l => exact fun _ _ _ g pl _ _ hR => wp_label ⟨S, g, pl, h, rfl, hR⟩
  | region id ops d => cases d <;> simp [trC] at hc
  | seq a b => simp [trC, Option.bind_eq_bind, Option.bind_eq_some_iff] at hc
  | cond c a b => simp [trC, Option.bind_eq_bind, Option.bind_eq_some_iff] at hc
  | _ => simp [trC] at hc
theorem sw_ret (h : Q .ret S) : Sw P N .ret S Q := fun c hc => by
  cases c with
  | ret => exact vw_ret h
  | region id ops d => cases d <;> simp [trC] at hc
  | seq a b => simp [trC, Option.bind_eq_bind, Option.bind_eq_some_iff] at hc
  | cond c a b => simp [trC, Option.bind_eq_bind, Option.bind_eq_some_iff] at hc
  | _ => simp [trC] at hc
theorem sw_exit {id : Nat} (h : Q (.exit id) S) : Sw P N (.exit id) S Q := fun c hc => by
  cases c with
  | exit i => simp [trC] at hc; subst hc; exact vw_exit h
  | region id ops d => cases d <;> simp [trC] at hc
  | seq a b => simp [trC, Option.bind_eq_bind, Option.bind_eq_some_iff] at hc
  | cond c a b => simp [trC, Option.bind_eq_bind, Option.bind_eq_some_iff] at hc
  | _ => simp [trC] at hc
theorem sw_seq {x y : Stm} (h : Sw P N x S (thenQ (fun S' => Sw P N y S' Q) Q)) : Sw P N (.seq x y) S Q := fun c hc => by
  cases c with
  | seq a b =>
    simp only [trC, Option.bind_eq_bind, Option.bind_eq_some_iff, Option.some.injEq, Stm.seq.injEq] at hc
    obtain ⟨x', hx, y', hy, rfl, rfl⟩ := hc
    refine vw_seq (vw_mono (h a hx) ?_)
    intro e S' q
    cases e <;> first | exact q b hy | exact q
  | region id ops d => cases d <;> simp [trC] at hc
  | cond c a b => simp [trC, Option.bind_eq_bind, Option.bind_eq_some_iff] at hc
  | _ => simp [trC] at hc
theorem sw_cond {o : Opd} {x y : Stm} {b : Bool} (hb : tv (S.opd o) = some b) (ht : b = true → Sw P N x S Q) (hf : b = false → Sw P N y S Q) : Sw P N (.cond o x y) S Q := fun c hc => by
  cases c with
  | cond c a d =>
    simp only [trC, Option.bind_eq_bind, Option.bind_eq_some_iff, Option.some.injEq, Stm.cond.injEq] at hc
    obtain ⟨o', ho, x', hx, y', hy, rfl, rfl, rfl⟩ := hc
    exact vw_cond ho hb (fun h => ht h a hx) fun h => hf h d hy
  | region id ops d => cases d <;> simp [trC] at hc
  | seq a b => simp [trC, Option.bind_eq_bind, Option.bind_eq_some_iff] at hc
  | _ => simp [trC] at hc
theorem sw_block {id : Nat} {x : Stm} (h : Sw P N x S (blockQ id Q)) : Sw P N (.block id x) S Q := fun c hc => by
  cases c with
  | block i a =>
    simp only [trC, Option.map_eq_some_iff, Stm.block.injEq] at hc
    obtain ⟨x', hx, rfl, rfl⟩ := hc
    exact vw_block (h a hx)
  | region id ops d => cases d <;> simp [trC] at hc
  | seq a b => simp [trC, Option.bind_eq_bind, Option.bind_eq_some_iff] at hc
  | cond c a b => simp [trC, Option.bind_eq_bind, Option.bind_eq_some_iff] at hc
  | _ => simp [trC] at hc
theorem sw_loop {x : Stm} (I : Nat → St → Prop) (n : Nat) (h0 : ∃ T, I n T ∧ Le S T) (hr : ∀ k T, T.fix = S.fix → I k T → Sw P N x T (thenQ (fun S' => ∃ k' T', k' < k ∧ I k' T' ∧ Le S' T') Q)) : Sw P N (.loop x) S Q := fun c hc => by
  cases c with
  | loop a =>
    simp only [trC, Option.map_eq_some_iff, Stm.loop.injEq] at hc
    obtain ⟨x', hx, rfl⟩ := hc
    exact vw_loop I n h0 fun k T hf hI => hr k T hf hI a hx
  | region id ops d => cases d <;> simp [trC] at hc
  | seq a b => simp [trC, Option.bind_eq_bind, Option.bind_eq_some_iff] at hc
  | cond c a b => simp [trC, Option.bind_eq_bind, Option.bind_eq_some_iff] at hc
  | _ => simp [trC] at hc
theorem sw_reg {gis : List GI} (h : runOs P gis S (Q .normal)) : Sw P N (.reg gis) S Q := fun c hc => by
  cases c with
  | region id ops d =>
    cases d with
    | false =>
      simp only [trC, Option.map_eq_some_iff, Stm.reg.injEq] at hc
      obtain ⟨gs, hg, rfl⟩ := hc
      exact vw_region hg h
    | true => simp [trC] at hc
  | seq a b => simp [trC, Option.bind_eq_bind, Option.bind_eq_some_iff] at hc
  | cond c a b => simp [trC, Option.bind_eq_bind, Option.bind_eq_some_iff] at hc
  | _ => simp [trC] at hc
theorem sw_drw {its : List DI} (hm : P.follows .mixedOrders = true) (h : drawGo P S.fix (S.env.filter fun x => !(its.filterMap (·.gi.dst)).contains x.1) its [] [(S.roots, S.next)] [] (Q .normal)) : Sw P N (.drw its) S Q := fun c hc => by
  cases c with
  | region id ops d =>
    cases d with
    | false => simp [trC] at hc
    | true =>
      simp only [trC, Option.map_eq_some_iff, Stm.drw.injEq] at hc
      obtain ⟨gs, hg, rfl⟩ := hc
      simp only [trDraw, Option.bind_eq_bind, Option.bind_eq_some_iff] at hg
      obtain ⟨gis, hgis, hg⟩ := hg
      split at hg
      · rename_i hck
        simp only [Option.some.injEq] at hg
        simp only [Bool.and_eq_true, decide_eq_true_eq] at hck
        subst hg
        exact vw_draw hm hck.1 (by rw [mkIts_gi]; exact hgis) hck.2 h
      · simp at hg
  | seq a b => simp [trC, Option.bind_eq_bind, Option.bind_eq_some_iff] at hc
  | cond c a b => simp [trC, Option.bind_eq_bind, Option.bind_eq_some_iff] at hc
  | _ => simp [trC] at hc
theorem sw_mono {s : Stm} {Q' : Exit → St → Prop} (h : Sw P N s S Q) (hq : ∀ e S', Q e S' → Q' e S') : Sw P N s S Q' := fun c hc => vw_mono (h c hc) hq
theorem sw_le {s : Stm} {T : St} (hl : Le S T) (h : Sw P N s T Q) : Sw P N s S Q := fun c hc => vw_le hl (h c hc)
theorem runs_of_sw {f : FuncId} {fn : Func} {c : Code} {s : Stm} {as : List Arg} {out : Out} {is : List I} (hf : P.funcs[f]? = some fn) (hb : fn.body = some c) (hs : trC P fn.ntmps c = some s) (hi : trRes P fn.results.toList = some is) (hn : as.length ≤ fn.ntmps)
    (h : Sw P fn.ntmps s ⟨env0 0 (inAs as).1, (inAs as).2.1, (inAs as).2.2, fixN as⟩ fun e S' => match e with
      | .ret | .normal => resK S' is fun xs => Leaves as out S'.roots (resV xs)
      | _ => False) : Runs P f as out := runs_of_vw hf hb hi hn (h c hs)
end Go.Vs
namespace Go.Vs
set_option linter.unusedVariables false
theorem body_of {P : Program} {N : Nat} {b : Option Code} {s : Stm} (h : (b.bind (trC P N)) = some s) : ∃ c, b = some c ∧ trC P N c = some s := by
  cases b with
  | none => simp at h
  | some c => exact ⟨c, rfl, h⟩
/-- Bytes as they lie. -/
def bD (bs : List UInt8) : List (List D) := bs.map fun b => [.lf (.int .u8 b.toNat)]
@[simp] theorem bD_len (bs : List UInt8) : (bD bs).length = bs.length := by simp [bD]
theorem bD_get {bs : List UInt8} {i : Nat} (h : i < bs.length) : (bD bs)[i]? = some [.lf (.int .u8 bs[i].toNat)] := by
  simp [bD, h]

variable {P : Program}
/-- One operation; what comes next stands behind a variable. -/
theorem os_k {g : GI} {l : List GI} {S : St} {K : St → Prop} (h : ∀ K' : St → Prop, (∀ S', runOs P l S' K → K' S') → stepO P g S K') : runOs P (g :: l) S K := h _ fun _ h => h
/-- One operation that writes nothing, in a region that is drawn. -/
theorem dr_rd {fix : Nat} {E0 : List (Nat × V)} {gi : GI} {anc : List Nat} {lo hi : Nat} {l : List DI} {D : List (Option Nat × V)} {m : Mem} {pend : List Pend} {K : St → Prop}
    (h : ∀ K' : V → Prop, (∀ x, drawGo P fix E0 l (D ++ [(gi.dst, x)]) [m] (if 0 < hi then ⟨gi, envSel (fun j => anc.contains j) 0 D ++ E0, x, hi⟩ :: pend else pend) K → K' x) → stepV P gi ⟨envSel (fun j => anc.contains j) 0 D ++ E0, m.1, m.2, fix⟩ fun x _ _ _ => K' x) :
    drawGo P fix E0 (⟨gi, anc, false, lo, hi⟩ :: l) D [m] pend K := by
  simp only [drawGo]
  refine stepV_mono (h (fun x => drawGo P fix E0 l (D ++ [(gi.dst, x)]) [m] (if 0 < hi then ⟨gi, envSel (fun j => anc.contains j) 0 D ++ E0, x, hi⟩ :: pend else pend) K) fun x h => h) ?_
  intro x ks r n hx
  simp only [Bool.false_eq_true, if_false, List.length_nil, Nat.zero_sub, List.take_zero, List.not_mem_nil, false_implies, implies_true, true_and]
  exact hx
theorem keep_nil {α : Type} {S : List (Nat × α)} : ∀ t x, get ([] : List (Nat × α)) t = some x → get S t = some x := fun t x h => by simp [get] at h
theorem keep_cons {α : Type} {S T : List (Nat × α)} {u : Nat} {y : α} (h : get S u = some y) (hT : ∀ t x, get T t = some x → get S t = some x) : ∀ t x, get ((u, y) :: T) t = some x → get S t = some x := fun t x hx => by
  simp only [get] at hx
  split at hx
  · rename_i e; subst e; simp only [Option.some.injEq] at hx; subst hx; exact h
  · exact hT t x hx
/-- What a function leaves that gives data, and was handed nothing to write. -/
theorem leaves_vals {as : List Arg} {res : List (Bool × List D)} {roots rt : List (Nat × Root)} {xs : List A} (h1 : inB as (inCells as).1 = []) (h2 : ioOf (flat as) 0 = []) (h3 : xs.map (fun x => ((cellsA x).1, (cellsA x).2.length)) = res.map (fun x => (x.1, x.2.length)))
    (h4 : takeAll roots (xs.flatMap fun x => (cellsA x).2) = some (res.flatMap (·.2), rt)) : Leaves as ⟨res, [], []⟩ roots (resV xs) := by
  refine ⟨xs, compsV_resV xs, h3, [], by rw [h1]; trivial, by simp, rt, ?_, by rw [h1]; rfl, by rw [h2]; trivial⟩
  rw [h1]
  simpa using h4
theorem wrap64 {z : Int} (h1 : -9223372036854775808 ≤ z) (h2 : z < 9223372036854775808) : IntKind.i64.wrap z = z := IntWalk.i64_in z ⟨h1, by omega⟩
/-- A call that hands on one leaf and gives one. -/
theorem call_lf {S : St} {f : FuncId} {v r : Value} {K : V → List (Nat × Path) → List (Nat × Root) → Nat → Prop} (h : Runs P f [.val false [(.rd, .lf v)]] ⟨[(false, [.lf r])], [], []⟩) (hK : K (.a (.c (.lf r))) [] S.roots S.next) : callOk P S f [.a (.c (.lf v))] K := by
  refine ⟨_, _, h, [(.rd, .lf v, .lf v)], rfl, S.roots, rfl, by simp [handIo, handBx], ?_, S.roots, rfl, S.roots, rfl, hK⟩
  intro x hx
  simp only [List.mem_singleton] at hx
  subst hx
  rfl
end Go.Vs
namespace Go.Vs
set_option linter.unusedVariables false
set_option linter.unusedSimpArgs false

/-! ## data that lie in a world, read from outside -/
inductive Lies (W : World) : D → Value → Prop where
  | lf (v : Value) (h : v.oneCell' = true) : Lies W (.lf v) v
  | nil (sz : Nat) : Lies W (.sl sz []) (.slice none 0 0)
  | sl (sz : Nat) (es : List (List D)) (b off cap : Nat) (vals : Nat → Nat → Value) (hle : es.length ≤ cap) (hsz : ∀ e ∈ es, e.length = sz)
      (hc : ∀ (i c : Nat) (e : List D) (d : D), es[i]? = some e → e[c]? = some d → W.cell? ⟨b, off + (i * sz + c), none⟩ = some (vals i c))
      (hd : ∀ (i c : Nat) (e : List D) (d : D), es[i]? = some e → e[c]? = some d → Lies W d (vals i c)) : Lies W (.sl sz es) (.slice (some ⟨b, off, none⟩) es.length cap)

/-- Where everything lies. -/
def Placed (W : World) (sz : Nat) (es : List (List D)) (v : Value) (L : Path → Pl) : Prop :=
  (L []).sz = sz ∧ v = hdr (L []) es.length ∧ ∀ p n, nodeAt sz es p = some n → NodeC W (fun _ q => L q) 0 p n.1 n.2 ∧ Still (stable W fun _ _ => False) (fun _ q => L q) 0 p n.2.length
theorem Lies.placed {W : World} {d : D} {v : Value} (h : Lies W d v) : ∀ sz es, d = .sl sz es → ∃ L, Placed W sz es v L := by
  induction h with
  | lf v h => intro sz es e; cases e
  | nil sz =>
    intro sz' es e
    cases e
    refine ⟨fun _ => ⟨true, 0, 0, 0, sz⟩, rfl, rfl, ?_⟩
    intro p n hp
    cases p with
    | nil =>
      simp only [nodeAt, Option.some.injEq] at hp; subst hp
      exact ⟨⟨rfl, Nat.le_refl _, fun _ => rfl, by simp, by simp⟩, fun j hj => by simp at hj⟩
    | cons a p => obtain ⟨i, c⟩ := a; simp [nodeAt] at hp
  | sl sz es b off cap vals hle hsz hc hd ih =>
    intro sz' es' e
    cases e
    have H : ∀ i c : Nat, ∃ L : Path → Pl, ∀ (e : List D) (s : Nat) (l : List (List D)), es[i]? = some e → e[c]? = some (.sl s l) → Placed W s l (vals i c) L := by
      intro i c
      by_cases hx : ∃ e s l, es[i]? = some e ∧ e[c]? = some (D.sl s l)
      · obtain ⟨e, s, l, h1, h2⟩ := hx
        obtain ⟨L, hL⟩ := ih i c e _ h1 h2 s l rfl
        refine ⟨L, fun e' s' l' h1' h2' => ?_⟩
        rw [h1] at h1'
        simp only [Option.some.injEq] at h1'; subst h1'
        rw [h2] at h2'
        simp only [Option.some.injEq, D.sl.injEq] at h2'
        obtain ⟨rfl, rfl⟩ := h2'
        exact hL
      · exact ⟨fun _ => default, fun e s l h1 h2 => (hx ⟨e, s, l, h1, h2⟩).elim⟩
    let Lc := fun i c => Classical.choose (H i c)
    have hLc : ∀ i c e s l, es[i]? = some e → e[c]? = some (D.sl s l) → Placed W s l (vals i c) (Lc i c) := fun i c => Classical.choose_spec (H i c)
    let L : Path → Pl := fun q => match q with
      | [] => ⟨false, b, off, cap, sz⟩
      | (i, c) :: q => Lc i c q
    refine ⟨L, rfl, rfl, ?_⟩
    intro p n hp
    cases p with
    | nil =>
      simp only [nodeAt, Option.some.injEq] at hp; subst hp
      refine ⟨⟨rfl, hle, (fun h => by cases h), hsz, ?_⟩, ?_⟩
      · intro i e c d he hdd
        refine ⟨vals i c, hc i c e d he hdd, ?_⟩
        cases d with
        | lf u =>
          have := hd i c e _ he hdd
          generalize hv : vals i c = x at this
          cases this with
          | lf _ h1 => exact ⟨rfl, h1⟩
        | hole =>
          have := hd i c e _ he hdd
          generalize hv : vals i c = x at this
          cases this
        | sl s l =>
          obtain ⟨a1, a2, _⟩ := hLc i c e s l he hdd
          exact ⟨a1, a2⟩
      · intro j hj
        have hszp : 0 < sz := by
          rcases Nat.eq_zero_or_pos sz with h0 | h0
          · subst h0; simp [L] at hj
          · exact h0
        have hj' : j < es.length * sz := hj
        have hi : j / sz < es.length := Nat.div_lt_of_lt_mul (by rw [Nat.mul_comm]; exact hj')
        have hdm : j / sz * sz + j % sz = j := by rw [Nat.mul_comm]; exact Nat.div_add_mod _ _
        have he := List.getElem?_eq_getElem hi
        have hel := hsz _ (List.mem_of_getElem? he)
        have hdd := List.getElem?_eq_getElem (show j % sz < (es[j / sz]).length by rw [hel]; exact Nat.mod_lt _ hszp)
        have := hc _ _ _ _ he hdd
        rw [hdm] at this
        exact ⟨World.block_lt_of_cell? _ _ this, fun h => h⟩
    | cons a q =>
      obtain ⟨i, c⟩ := a
      simp only [nodeAt] at hp
      split at hp
      · rename_i s l hb
        simp only [Option.bind_eq_some_iff] at hb
        obtain ⟨e, he, hdd⟩ := hb
        obtain ⟨_, _, a3⟩ := hLc i c e s l he hdd
        obtain ⟨b1, b2⟩ := a3 q n hp
        exact ⟨⟨b1.szp, b1.le, b1.nil, b1.szs, b1.cells⟩, b2⟩
      · simp at hp
theorem inCs_im : ∀ {l : List D} {k : Kk} {y : Nat × Root}, y ∈ (inCs (l.map fun d => (M.rd, d)) k).2.1 → ∃ s e, y.2 = .im s e
  | [], _, _, h => by simp [inCs] at h
  | .lf v :: l, k, y, h => inCs_im (l := l) (k := k) h
  | .hole :: l, k, y, h => inCs_im (l := l) (k := k) h
  | .sl s e :: l, k, y, h => by
    simp only [List.map_cons, inCs, inC, List.cons_append, List.nil_append, List.mem_cons] at h
    rcases h with rfl | h
    · exact ⟨s, e, rfl⟩
    · exact inCs_im (l := l) h
def notPtr : C → Prop
  | .pe _ _ _ _ => False
  | .pb _ _ => False
  | _ => True
theorem inCs_plain : ∀ {l : List D} {k : Kk} {x : C}, x ∈ (inCs (l.map fun d => (M.rd, d)) k).1 → notPtr x
  | [], _, _, h => by simp [inCs] at h
  | .lf v :: l, k, y, h => by
    simp only [List.map_cons, inCs, inC, List.mem_cons] at h
    rcases h with rfl | h
    · trivial
    · exact inCs_plain (l := l) h
  | .hole :: l, k, y, h => by
    simp only [List.map_cons, inCs, inC, List.mem_cons] at h
    rcases h with rfl | h
    · trivial
    · exact inCs_plain (l := l) h
  | .sl s e :: l, k, y, h => by
    simp only [List.map_cons, inCs, inC, List.mem_cons] at h
    rcases h with rfl | h
    · trivial
    · exact inCs_plain (l := l) h
/-- Cells that are handed to be read: the callee's roots. -/
theorem lies_cells {W : World} {N : Nat} {g : Lab} : ∀ (l : List D) (vs : List Value) (k : Kk), All2 (Lies W) l vs → (inCs (l.map fun d => (M.rd, d)) k).2.2.2 ≤ N → ∃ pl : Pls, All2 (CR pl N) (inCs (l.map fun d => (M.rd, d)) k).1 vs ∧
    (∀ y ∈ (inCs (l.map fun d => (M.rd, d)) k).2.1, k.2 ≤ y.1 ∧ y.1 < N ∧ RootOk (stable W fun _ _ => False) W g pl N y.1 y.2) ∧ (∀ x ∈ (inCs (l.map fun d => (M.rd, d)) k).1, ∀ r p s lo n, x = C.rf r p s lo n → k.2 ≤ r)
  | [], [], _, _, _ => ⟨fun _ _ => default, trivial, by simp [inCs], by simp [inCs]⟩
  | [], _ :: _, _, h, _ => h.elim
  | _ :: _, [], _, h, _ => h.elim
  | d :: l, v :: vs, k, h, hN => by
    cases d with
    | lf u =>
      obtain ⟨pl, h1, h2, h3⟩ := lies_cells (N := N) (g := g) l vs k h.2 hN
      have hv := h.1
      refine ⟨pl, ⟨?_, h1⟩, h2, ?_⟩
      · cases hv with
        | lf _ ho => exact ⟨rfl, ho⟩
      · intro x hx r p s lo n e
        simp only [List.map_cons, inCs, inC, List.mem_cons] at hx
        rcases hx with rfl | hx
        · cases e
        · exact h3 x hx r p s lo n e
    | hole => have hv := h.1; cases hv
    | sl sz es =>
      simp only [List.map_cons, inCs, inC] at hN ⊢
      obtain ⟨pl, h1, h2, h3⟩ := lies_cells (N := N) (g := g) l vs (k.1, k.2 + 1) h.2 hN
      obtain ⟨L, l1, l2, l3⟩ := h.1.placed sz es rfl
      have hk : k.2 < N := by have := (inCs_up (l.map fun d => (M.rd, d)) (k.1, k.2 + 1)).2; simp only at this; omega
      let pl' : Pls := fun r q => if r = k.2 then L q else pl r q
      have hp : ∀ q, pl' k.2 q = L q := fun q => by simp [pl']
      have hne : ∀ r q, r ≠ k.2 → pl' r q = pl r q := fun r q h => by simp [pl', h]
      have hnode0 := l3 [] _ rfl
      refine ⟨pl', ⟨⟨hk, ?_⟩, ?_⟩, ?_, ?_⟩
      · rw [hp]
        refine ⟨l1, hnode0.1.nil, by rw [Nat.zero_add]; exact hnode0.1.le, (L []).base, by rw [l2]; rfl, fun _ => ?_⟩
        simp [Pl.base]
      · refine All2.of_get h1.length ?_
        intro i x u hx hu
        obtain ⟨u', hu', hc⟩ := h1.get i x hx
        rw [hu] at hu'
        simp only [Option.some.injEq] at hu'; subst hu'
        cases x with
        | rf r p s lo n =>
          have hr := h3 _ (List.mem_of_getElem? hx) r p s lo n rfl
          simp only at hr
          refine ⟨hc.1, ?_⟩
          rw [hne r p (by omega)]
          exact hc.2
        | un => exact hc
        | nl s => exact hc
        | lf w => exact hc
        | pe r p i c => exact (inCs_plain (List.mem_of_getElem? hx)).elim
        | pb r c => exact (inCs_plain (List.mem_of_getElem? hx)).elim
      · intro y hy
        rcases List.mem_cons.1 hy with rfl | hy
        · refine ⟨Nat.le_refl _, hk, ?_⟩
          intro p n hn
          obtain ⟨a, b⟩ := l3 p n hn
          refine ⟨⟨by rw [hp]; exact a.szp, by rw [hp]; exact a.le, by rw [hp]; exact a.nil, a.szs, ?_⟩, ?_⟩
          · intro i e c d he hd
            rw [hp, hp]
            exact a.cells i e c d he hd
          · intro j hj
            rw [hp] at hj ⊢
            exact b j hj
        · obtain ⟨b1, b2, b3⟩ := h2 y hy
          simp only at b1
          refine ⟨by omega, b2, ?_⟩
          have hroot := inCs_im hy
          obtain ⟨s, e, he⟩ := hroot
          rw [he] at b3 ⊢
          intro p n hn
          obtain ⟨a, b⟩ := b3 p n hn
          have hy1 : y.1 ≠ k.2 := by omega
          refine ⟨⟨by rw [hne _ _ hy1]; exact a.szp, by rw [hne _ _ hy1]; exact a.le, by rw [hne _ _ hy1]; exact a.nil, a.szs, ?_⟩, ?_⟩
          · intro i e c d he hd
            rw [hne _ _ hy1, hne _ _ hy1]
            exact a.cells i e c d he hd
          · intro j hj
            rw [hne _ _ hy1] at hj ⊢
            exact b j hj
      · intro x hx r p s lo n e
        rcases List.mem_cons.1 hx with rfl | hx
        · cases e; exact Nat.le_refl _
        · have := h3 x hx r p s lo n e; simp only at this; omega
end Go.Vs
namespace Go.Vs
set_option linter.unusedVariables false
set_option linter.unusedSimpArgs false

/-! ## a function that is called from outside, its arguments read -/
def mkArg (x : Bool × List D) : Arg := .val x.1 (x.2.map fun d => (M.rd, d))
def ArgLies (W : World) (x : Bool × List D) (v : Value) : Prop :=
  if x.1 then ∃ us : List Value, v = .agg us.toArray ∧ All2 (Lies W) x.2 us else ∃ d, x.2 = [d] ∧ Lies W d v
theorem flat_mk : ∀ av : List (Bool × List D), flat (av.map mkArg) = (av.flatMap (·.2)).map fun d => (M.rd, d)
  | [] => rfl
  | x :: av => by
    have := flat_mk av
    simp only [flat] at this ⊢
    simp only [List.map_cons, List.flatMap_cons, List.map_append, this]
    rfl
theorem fixCs_rd : ∀ l : List D, fixCs (l.map fun d => (M.rd, d)) = 0
  | [] => rfl
  | .lf v :: l => by simp only [List.map_cons, fixCs, fixC, fixCs_rd l]
  | .hole :: l => by simp only [List.map_cons, fixCs, fixC, fixCs_rd l]
  | .sl s e :: l => by simp only [List.map_cons, fixCs, fixC, fixCs_rd l]
theorem nBox_mk : ∀ av : List (Bool × List D), nBox (av.map mkArg) = 0
  | [] => rfl
  | x :: av => nBox_mk av
theorem inB_mk : ∀ (av : List (Bool × List D)) (cs : List C), inB (av.map mkArg) cs = []
  | [], _ => rfl
  | x :: av, cs => inB_mk av _
theorem args_lie {W : World} {pl : Pls} {N : Nat} : ∀ (av : List (Bool × List D)) (vs : List Value), All2 (ArgLies W) av vs → ∃ us : List Value, All2 (Lies W) (av.flatMap (·.2)) us ∧
    ∀ (pl : Pls) (N : Nat) (cs : List C) (b : Nat), All2 (CR pl N) cs us → All2 (VR pl N) (inV (av.map mkArg) cs b) vs
  | [], [], _ => ⟨[], trivial, fun _ _ _ _ _ => trivial⟩
  | [], _ :: _, h => h.elim
  | _ :: _, [], h => h.elim
  | (ag, l) :: av, v :: vs, h => by
    obtain ⟨us, h1, h2⟩ := args_lie (W := W) (pl := pl) (N := N) av vs h.2
    have h0 := h.1
    unfold ArgLies at h0
    cases ag with
    | true =>
      simp only [if_true] at h0
      obtain ⟨u0, rfl, hu⟩ := h0
      refine ⟨u0 ++ us, All2.append hu h1, fun pl N cs b hc => ?_⟩
      have hl : u0.length = (l.map fun d => (M.rd, d)).length := by rw [List.length_map, hu.length]
      have t := All2.take (l.map fun d => (M.rd, d)).length hc
      have dd := All2.drop (l.map fun d => (M.rd, d)).length hc
      rw [List.take_left' hl] at t
      rw [List.drop_left' hl] at dd
      exact ⟨⟨u0, rfl, t⟩, h2 pl N _ b dd⟩
    | false =>
      simp only [Bool.false_eq_true, if_false] at h0
      obtain ⟨d, rfl, hd⟩ := h0
      refine ⟨v :: us, ⟨hd, h1⟩, fun pl N cs b hc => ?_⟩
      match cs, hc with
      | c :: cs, hc => exact ⟨hc.1, h2 pl N cs b hc.2⟩
/-- Called from outside, with data that lie in the world: it returns; the world below stays as it is. -/
theorem calls_of_lies {P : Program} {f : FuncId} {av : List (Bool × List D)} {out : Out} (h : Runs P f (av.map mkArg) out) {W : World} {vs : Array Value} (hv : All2 (ArgLies W) av vs.toList) :
    Calls P f vs W fun e W' => RowKit.Below W.heap.size W W' ∧ ∃ rv g' pl pl' roots nx res, e = .returned rv ∧ Hp W (fun _ _ => False) pl g' pl' roots nx nx (fixN (av.map mkArg)) W' ∧ VR pl' nx res rv ∧ Leaves (av.map mkArg) out roots res := by
  obtain ⟨us, h1, h2⟩ := args_lie (pl := fun _ _ => default) (N := 0) av vs.toList hv
  have hfix : fixN (av.map mkArg) = 0 := by unfold fixN; rw [flat_mk, fixCs_rd, nBox_mk]
  have hcell : inCells (av.map mkArg) = inCs ((av.flatMap (·.2)).map fun d => (M.rd, d)) (0, 0) := by unfold inCells; rw [flat_mk, hfix]
  obtain ⟨pl, c1, c2, _⟩ := lies_cells (W := W) (N := (inAs (av.map mkArg)).2.2) (g := fun _ _ => none) _ us (0, 0) h1 (by show _ ≤ (inCells (av.map mkArg)).2.2.2; rw [hcell]; exact Nat.le_refl _)
  have hroots : (inAs (av.map mkArg)).2.1 = (inCells (av.map mkArg)).2.1 := by
    show (inCells (av.map mkArg)).2.1 ++ rootB (inB (av.map mkArg) (inCells (av.map mkArg)).1) _ = _
    rw [inB_mk]; simp [rootB]
  have hp : Hp W (fun _ _ => False) pl (fun _ _ => none) pl (inAs (av.map mkArg)).2.1 (inAs (av.map mkArg)).2.2 (inAs (av.map mkArg)).2.2 (fixN (av.map mkArg)) W := by
    refine ⟨Fr.refl _ _, (fun b o x hx => by cases hx), (fun _ _ _ => rfl), by rw [hfix]; exact Nat.zero_le _, Nat.le_refl _, ?_⟩
    intro r x hx
    rw [hroots, hcell] at hx
    have := c2 _ (mem_of_get hx)
    exact ⟨this.2.1, this.2.2⟩
  have hargs : All2 (VR pl (inAs (av.map mkArg)).2.2) (inAs (av.map mkArg)).1 vs.toList := by
    refine h2 pl _ (inCells (av.map mkArg)).1 _ ?_
    rw [hcell]; exact c1
  have := h W (fun _ _ => False) _ pl vs.toList hp hargs
  rw [show vs.toList.toArray = vs from rfl] at this
  refine this.mono ?_
  rintro e w' ⟨rv, g', pl', roots, nx, res, he, hp', hrv, hl⟩
  exact ⟨⟨hp'.fr.os, hp'.fr.tape, hp'.fr.output, hp'.fr.size, fun b hb => hp'.fr.block b hb fun _ h => h⟩, rv, g', pl, pl', roots, nx, res, he, hp', hrv, hl⟩
/-- It gives one leaf. -/
theorem leaves_lf {asl : List Arg} {v : Value} {roots : List (Nat × Root)} {res : V} (h : Leaves asl ⟨[(false, [.lf v])], [], []⟩ roots res) (hB : inB asl (inCells asl).1 = []) : res = .a (.c (.lf v)) := by
  obtain ⟨xs, hx, hs, bxs, hb, _, rt, ht, _⟩ := h
  rw [hB] at ht
  simp only [List.zip_nil_left, List.flatMap_nil, List.append_nil, List.flatten_nil, List.flatMap_cons] at ht
  match xs, hs with
  | [x], hs =>
    simp only [List.map_cons, List.map_nil, List.cons.injEq, and_true, Prod.mk.injEq, List.length_cons, List.length_nil] at hs
    cases x with
    | ag cs => simp [cellsA] at hs
    | c c =>
      simp only [cellsA, List.flatMap_cons, List.flatMap_nil, List.append_nil, takeAll] at ht
      split at ht
      · rename_i d r1 h1
        simp only [Option.some.injEq, Prod.mk.injEq, List.cons.injEq, and_true] at ht
        obtain ⟨rfl, rfl⟩ := ht
        have hc : c = .lf v := by
          unfold takeC at h1
          split at h1
          · simp only [Option.some.injEq, Prod.mk.injEq, D.lf.injEq] at h1; rw [h1.1]
          · simp at h1
          · split at h1
            · split at h1
              · split at h1 <;> simp at h1
              · simp at h1
            · simp at h1
          · simp at h1
        subst hc
        cases res with
        | a y => simp only [compsV, Option.some.injEq, List.cons.injEq, and_true] at hx; rw [hx]
        | un => simp [compsV] at hx
        | fn f cs => simp [compsV] at hx
        | tp ys =>
          match ys, hx with
          | [], hx => simp [compsV] at hx
          | [_], hx => simp [compsV] at hx
          | _ :: _ :: _, hx => simp [compsV] at hx
      · simp at ht
  | [], hs => simp at hs
  | _ :: _ :: _, hs => simp at hs
/-- A law that answers one leaf, called from outside. -/
theorem law_lf {P : Program} {f : FuncId} {av : List (Bool × List D)} {r : Value} (h : Runs P f (av.map mkArg) ⟨[(false, [.lf r])], [], []⟩) {W : World} {vs : Array Value} (hv : All2 (ArgLies W) av vs.toList) :
    Calls P f vs W fun e W' => e = .returned r ∧ RowKit.Below W.heap.size W W' := by
  refine (calls_of_lies h hv).mono ?_
  rintro e W' ⟨hb, rv, g', pl, pl', roots, nx, res, rfl, hp, hr, hl⟩
  have := leaves_lf hl (inB_mk av _)
  subst this
  exact ⟨by rw [hr.1], hb⟩
/-- What a function leaves that was handed slices to be written, and no variables. -/
theorem leaves_io {asl : List Arg} {res : List (Bool × List D)} {io : List (Nat × List (List D))} {roots rt : List (Nat × Root)} {xs : List A} (h1 : inB asl (inCells asl).1 = []) (h3 : xs.map (fun x => ((cellsA x).1, (cellsA x).2.length)) = res.map (fun x => (x.1, x.2.length)))
    (h4 : takeAll roots (xs.flatMap fun x => (cellsA x).2) = some (res.flatMap (·.2), rt)) (h2 : All2 (fun (x : Nat × Nat × Nat) (o : Nat × List (List D)) => get rt x.1 = some (.tr o.1 o.2) ∧ o.1 = x.2.1 ∧ o.2.length = x.2.2) (ioOf (flat asl) 0) io) : Leaves asl ⟨res, io, []⟩ roots (resV xs) := by
  refine ⟨xs, compsV_resV xs, h3, [], by rw [h1]; trivial, by simp, rt, ?_, by rw [h1]; rfl, h2⟩
  rw [h1]
  simpa using h4
end Go.Vs
namespace Go.Vs
set_option linter.unusedVariables false
set_option linter.unusedSimpArgs false

/-! ## roots under other numbers -/
def renC (s : List (Nat × Nat)) : C → C
  | .rf r p sz lo n => match get s r with
    | some r' => .rf r' p sz lo n
    | none => .un
  | .pe r p i c => match get s r with
    | some r' => .pe r' p i c
    | none => .un
  | .pb r c => match get s r with
    | some r' => .pb r' c
    | none => .un
  | x => x
def renRoot (s : List (Nat × Nat)) : Root → Root
  | .bx cs => .bx (cs.map (renC s))
  | .ib cs => .ib (cs.map (renC s))
  | x => x
def invN : List (Nat × Nat) → Nat → Nat
  | [], r => r
  | (a, b) :: s, r => if b = r then a else invN s r
def okRen (s : List (Nat × Nat)) (nx fx : Nat) : Bool := decide ((s.map (·.2)).Nodup) && s.all (fun x => decide (x.2 < nx) && (decide (fx ≤ x.2) || x.1 == x.2)) && decide (fx ≤ nx)
theorem get_mem {α : Type} : ∀ {l : List (Nat × α)} {k : Nat} {x : α}, get l k = some x → (k, x) ∈ l
  | [], _, _, h => by simp [get] at h
  | (j, y) :: l, k, x, h => by
    simp only [get] at h
    split at h
    · rename_i e; subst e; simp only [Option.some.injEq] at h; subst h; exact List.mem_cons_self
    · exact List.mem_cons_of_mem _ (get_mem h)
theorem invN_get : ∀ {s : List (Nat × Nat)} {r r' : Nat}, (s.map (·.2)).Nodup → get s r = some r' → invN s r' = r
  | [], _, _, _, h => by simp [get] at h
  | (a, b) :: s, r, r', hn, h => by
    simp only [List.map_cons, List.nodup_cons] at hn
    simp only [get] at h
    simp only [invN]
    split at h
    · rename_i e; simp only [Option.some.injEq] at h; rw [if_pos h]; exact e
    · have : b ≠ r' := fun e => hn.1 (by rw [e]; exact List.mem_map.2 ⟨(r, r'), get_mem h, rfl⟩)
      rw [if_neg this]
      exact invN_get hn.2 h
theorem invN_fix : ∀ {s : List (Nat × Nat)} {r : Nat}, (∀ x ∈ s, x.2 = r → x.1 = r) → invN s r = r
  | [], _, _ => rfl
  | (a, b) :: s, r, h => by
    simp only [invN]
    split
    · rename_i e; exact h (a, b) List.mem_cons_self e
    · exact invN_fix fun x hx => h x (List.mem_cons_of_mem _ hx)
theorem CR.ren {pl pl' : Pls} {nx nx' : Nat} {s : List (Nat × Nat)} (hk : ∀ r r', get s r = some r' → r' < nx' ∧ ∀ p, pl' r' p = pl r p) {x : C} {v : Value} (h : CR pl nx x v) : CR pl' nx' (renC s x) v := by
  cases x with
  | rf r p sz lo n =>
    simp only [renC]
    cases hg : get s r with
    | none => exact CR.one h
    | some r' => exact ⟨(hk r r' hg).1, by rw [(hk r r' hg).2]; exact h.2⟩
  | pe r p i c =>
    simp only [renC]
    cases hg : get s r with
    | none => exact CR.one h
    | some r' => exact ⟨(hk r r' hg).1, by rw [(hk r r' hg).2]; exact h.2⟩
  | pb r c =>
    simp only [renC]
    cases hg : get s r with
    | none => exact CR.one h
    | some r' => exact ⟨(hk r r' hg).1, by rw [(hk r r' hg).2]; exact h.2⟩
  | un => exact h
  | nl sz => exact h
  | lf u => exact h
theorem RootOk.ren {st : Nat → Nat → Prop} {w : World} {g g' : Lab} {pl pl' : Pls} {nx nx' : Nat} {s : List (Nat × Nat)} (hk : ∀ r r', get s r = some r' → r' < nx' ∧ ∀ p, pl' r' p = pl r p) (hg : ∀ b o r p r', g b o = some (r, p) → get s r = some r' → g' b o = some (r', p))
    {r r' : Nat} {x : Root} (hr : get s r = some r') (h : RootOk st w g pl nx r x) : RootOk st w g' pl' nx' r' (renRoot s x) := by
  have e := (hk r r' hr).2
  have nc : ∀ {p : Path} {sz : Nat} {es : List (List D)}, NodeC w pl r p sz es → NodeC w pl' r' p sz es := by
    intro p sz es h
    refine ⟨by rw [e]; exact h.szp, by rw [e]; exact h.le, by rw [e]; exact h.nil, h.szs, ?_⟩
    intro i el c d h1 h2
    rw [e, e]
    exact h.cells i el c d h1 h2
  cases x with
  | tr sz es =>
    intro p n hn
    obtain ⟨h1, h2⟩ := h p n hn
    refine ⟨nc h1, ?_⟩
    intro j hj
    rw [e] at hj ⊢
    obtain ⟨a, b, c⟩ := h2 j hj
    exact ⟨hg _ _ _ _ _ a hr, b, c⟩
  | im sz es =>
    intro p n hn
    obtain ⟨h1, h2⟩ := h p n hn
    refine ⟨nc h1, ?_⟩
    intro j hj
    rw [e] at hj ⊢
    exact h2 j hj
  | bx cs =>
    intro c x hx
    simp only [List.getElem?_map, Option.map_eq_some_iff] at hx
    obtain ⟨y, hy, rfl⟩ := hx
    obtain ⟨v, a, b, l, f⟩ := h c y hy
    rw [e]
    exact ⟨v, a, b.ren hk, hg _ _ _ _ _ l hr, f⟩
  | ib cs =>
    intro c x hx
    simp only [List.getElem?_map, Option.map_eq_some_iff] at hx
    obtain ⟨y, hy, rfl⟩ := hx
    obtain ⟨v, a, b, l⟩ := h c y hy
    rw [e]
    exact ⟨v, a, b.ren hk, l⟩
/-- What is kept of what is known, under other numbers. -/
def EnvR (s : List (Nat × Nat)) (E T : List (Nat × V)) : Prop := ∀ t x, get T t = some x → x = .un ∨ ∃ y, get E t = some y ∧ y.map (renC s) = x
def RootsR (s : List (Nat × Nat)) (R T : List (Nat × Root)) : Prop := ∀ r x, get T r = some x → ∃ r0 y, get R r0 = some y ∧ get s r0 = some r ∧ renRoot s y = x
theorem er_nil {s : List (Nat × Nat)} {E : List (Nat × V)} : EnvR s E [] := fun t x h => by simp [get] at h
theorem er_un {s : List (Nat × Nat)} {E T : List (Nat × V)} {u : Nat} (h : EnvR s E T) : EnvR s E ((u, .un) :: T) := fun t x hx => by
  simp only [get] at hx
  split at hx
  · simp only [Option.some.injEq] at hx; exact .inl hx.symm
  · exact h t x hx
theorem er_cons {s : List (Nat × Nat)} {E T : List (Nat × V)} {u : Nat} {x y : V} (h1 : get E u = some y) (h2 : y.map (renC s) = x) (h : EnvR s E T) : EnvR s E ((u, x) :: T) := fun t z hz => by
  simp only [get] at hz
  split at hz
  · rename_i e; subst e; simp only [Option.some.injEq] at hz; subst hz; exact .inr ⟨y, h1, h2⟩
  · exact h t z hz
theorem rr_nil {s : List (Nat × Nat)} {R : List (Nat × Root)} : RootsR s R [] := fun t x h => by simp [get] at h
theorem rr_cons {s : List (Nat × Nat)} {R T : List (Nat × Root)} {u : Nat} {x y : Root} (r0 : Nat) (h1 : get R r0 = some y) (h2 : get s r0 = some u) (h3 : renRoot s y = x) (h : RootsR s R T) : RootsR s R ((u, x) :: T) := fun t z hz => by
  simp only [get] at hz
  split at hz
  · rename_i e; subst e; simp only [Option.some.injEq] at hz; subst hz; exact ⟨r0, y, h1, h2, h3⟩
  · exact h t z hz
theorem Le.ren {S T : St} (s : List (Nat × Nat)) (hf : T.fix = S.fix) (hok : okRen s T.next S.fix = true) (he : EnvR s S.env T.env) (hr : RootsR s S.roots T.roots) : Le S T := ⟨hf, fun N w0 own0 pl0 g pl a w hR => by
  simp only [okRen, Bool.and_eq_true, decide_eq_true_eq, List.all_eq_true, Bool.or_eq_true, beq_iff_eq] at hok
  obtain ⟨⟨hnd, hall⟩, hle⟩ := hok
  obtain ⟨h1, h2, h3, h4⟩ := hR
  obtain ⟨a1, a2, a3, a4, a5, a6⟩ := h1
  have hk : ∀ r r', get s r = some r' → r' < T.next ∧ ∀ p, (fun r p => pl (invN s r) p) r' p = pl r p := fun r r' h => ⟨(hall _ (get_mem h)).1, fun p => by simp only [invN_get hnd h]⟩
  refine ⟨fun b o => (g b o).bind fun x => (get s x.1).map fun r' => (r', x.2), fun r p => pl (invN s r) p, ⟨⟨a1, ?_, ?_, ?_, Nat.le_refl _, ?_⟩, h2, h3, ?_⟩⟩
  · intro b o x hx
    simp only [Option.bind_eq_some_iff, Option.map_eq_some_iff] at hx
    obtain ⟨y, hy, r', hr', rfl⟩ := hx
    obtain ⟨b1, b2, _⟩ := a2 b o y hy
    exact ⟨b1, b2, (hk _ _ hr').1⟩
  · intro r p hlt
    rw [hf] at hlt
    have : invN s r = r := invN_fix fun x hx e => by
      rcases (hall x hx).2 with h | h
      · omega
      · omega
    simp only [this]
    exact a3 r p hlt
  · rw [hf]; exact hle
  · intro r x hx
    obtain ⟨r0, y, h5, h6, rfl⟩ := hr r x hx
    refine ⟨(hk _ _ h6).1, (a6 r0 y h5).2.ren hk ?_ h6⟩
    intro b o r1 p r2 h7 h8
    simp only [h7, Option.bind_some, h8, Option.map_some]
  · intro t x hx
    rcases he t x hx with rfl | ⟨y, hy, rfl⟩
    · trivial
    · exact VR.killed (fun z u hz => hz.ren hk) (h4 t y hy)⟩

/-! ## a loop whose state is told by what changes -/
def upd : List (Nat × V) → List (Nat × V) → List (Nat × V)
  | [], E => E
  | (t, x) :: l, E => upd l (put E t x)
def sel : List Nat → List (Nat × V) → List (Nat × V)
  | [], _ => []
  | k :: l, E => match Vs.get E k with
    | some x => (k, x) :: sel l E
    | none => sel l E
variable {P : Program} {N : Nat} {Q : Exit → St → Prop}
/-- Behind a round. -/
def Back {α : Type} (f : Nat) (vars : α → List (Nat × V)) (roots : α → List (Nat × Root)) (nx : Nat) (inv : α → Prop) (m : α → Nat) (keep : List Nat) (E : List (Nat × V)) (k : Nat) (S' : St) : Prop :=
  ∃ a', inv a' ∧ m a' < k ∧ S'.fix = f ∧ ∃ s, okRen s nx f = true ∧ EnvR s S'.env (upd (vars a') (sel keep E)) ∧ RootsR s S'.roots (roots a')
theorem sw_loop_upd {α : Type} {x : Stm} {E : List (Nat × V)} {R : List (Nat × Root)} {n f : Nat} (keep : List Nat) (vars : α → List (Nat × V)) (roots : α → List (Nat × Root)) (nx : Nat) (inv : α → Prop) (m : α → Nat) (x0 : α) (s0 : List (Nat × Nat)) (h0 : inv x0) (hok : okRen s0 nx f = true) (hE : EnvR s0 E (upd (vars x0) (sel keep E))) (hR : RootsR s0 R (roots x0))
    (hr : ∀ a, inv a → Sw P N x ⟨upd (vars a) (sel keep E), roots a, nx, f⟩ (thenQ (Back f vars roots nx inv m keep E (m a)) Q)) : Sw P N (.loop x) ⟨E, R, n, f⟩ Q := by
  refine sw_loop (fun k T => ∃ a, inv a ∧ k = m a ∧ T = ⟨upd (vars a) (sel keep E), roots a, nx, f⟩) (m x0) ⟨_, ⟨x0, h0, rfl, rfl⟩, Le.ren s0 rfl hok hE hR⟩ ?_
  rintro k T hf ⟨a, ha, rfl, rfl⟩
  refine sw_mono (hr a ha) ?_
  intro e S' q
  cases e <;> try exact q
  obtain ⟨a', h1, h2, h3, s, h4, h5, h6⟩ := q
  exact ⟨m a', _, h2, ⟨a', h1, rfl, rfl⟩, Le.ren s h3.symm (by rw [h3]; exact h4) h5 h6⟩
theorem fa_nil {α : Type} {p : α → Prop} : ∀ x ∈ ([] : List α), p x := by simp
theorem fa_cons {α : Type} {p : α → Prop} {a : α} {l : List α} (h : p a) (hl : ∀ x ∈ l, p x) : ∀ x ∈ a :: l, p x := by
  intro x hx
  rcases List.mem_cons.1 hx with rfl | hx
  · exact h
  · exact hl x hx
end Go.Vs
namespace Go.Vs
set_option linter.unusedVariables false
set_option linter.unusedSimpArgs false
/-! ## numbers -/
theorem w64_nat {n : Nat} (h : n < 9223372036854775808) : IntKind.i64.wrap (n : Int) = (n : Int) := wrap64 (by omega) (by omega)
theorem ofInt_nat (n a : Nat) : BitVec.ofInt n (a : Int) = BitVec.ofNat n a := by
  apply BitVec.eq_of_toNat_eq
  simp [BitVec.toNat_ofInt, BitVec.toNat_ofNat]
theorem xor64 {a b : Nat} (ha : a < 9223372036854775808) (hb : b < 9223372036854775808) : IntKind.i64.wrap (((BitVec.ofInt IntKind.i64.bits (a : Int) ^^^ BitVec.ofInt IntKind.i64.bits (b : Int)).toNat : Nat) : Int) = ((a ^^^ b : Nat) : Int) := by
  rw [ofInt_nat, ofInt_nat, BitVec.toNat_xor, BitVec.toNat_ofNat, BitVec.toNat_ofNat, show IntKind.i64.bits = 64 from rfl, Nat.mod_eq_of_lt (by omega), Nat.mod_eq_of_lt (by omega)]
  exact w64_nat (Nat.xor_lt_two_pow (n := 63) ha hb)
theorem and64 {a b : Nat} (ha : a < 9223372036854775808) (hb : b < 9223372036854775808) : IntKind.i64.wrap (((BitVec.ofInt IntKind.i64.bits (a : Int) &&& BitVec.ofInt IntKind.i64.bits (b : Int)).toNat : Nat) : Int) = ((a &&& b : Nat) : Int) := by
  rw [ofInt_nat, ofInt_nat, BitVec.toNat_and, BitVec.toNat_ofNat, BitVec.toNat_ofNat, show IntKind.i64.bits = 64 from rfl, Nat.mod_eq_of_lt (by omega), Nat.mod_eq_of_lt (by omega)]
  exact w64_nat (Nat.and_lt_two_pow (n := 63) a hb)
theorem or64 {a b : Nat} (ha : a < 9223372036854775808) (hb : b < 9223372036854775808) : IntKind.i64.wrap (((BitVec.ofInt IntKind.i64.bits (a : Int) ||| BitVec.ofInt IntKind.i64.bits (b : Int)).toNat : Nat) : Int) = ((a ||| b : Nat) : Int) := by
  rw [ofInt_nat, ofInt_nat, BitVec.toNat_or, BitVec.toNat_ofNat, BitVec.toNat_ofNat, show IntKind.i64.bits = 64 from rfl, Nat.mod_eq_of_lt (by omega), Nat.mod_eq_of_lt (by omega)]
  exact w64_nat (Nat.or_lt_two_pow (n := 63) ha hb)
theorem and_low {a k m : Nat} (ha : a < 9223372036854775808) (hm : m = 2 ^ k - 1) (hk : k < 63) : IntKind.i64.wrap (((BitVec.ofInt IntKind.i64.bits (a : Int) &&& BitVec.ofInt IntKind.i64.bits (m : Int)).toNat : Nat) : Int) = ((a % 2 ^ k : Nat) : Int) := by
  have h2 : 2 ^ k < 2 ^ 63 := Nat.pow_lt_pow_right (by omega) hk
  rw [and64 ha (by omega), hm, Nat.and_two_pow_sub_one_eq_mod]

/-! ## the sum of bytes -/
def crc1 (x : Nat) : Nat := if 2 * x > 65535 then (2 * x) ^^^ 69665 else 2 * x
def crcN : Nat → Nat → Nat
  | 0, x => x
  | n + 1, x => crcN n (crc1 x)
def crcB (x : Nat) (b : UInt8) : Nat := crcN 8 (x ^^^ (256 * b.toNat))
def crc (l : List UInt8) : Nat := l.foldl crcB 65535
theorem crc1_lt {x : Nat} (h : x < 65536) : crc1 x < 65536 := by
  unfold crc1
  split
  · rename_i h2
    have e : (2 * x ^^^ 69665) >>> 16 = 0 := by
      rw [Nat.shiftRight_xor_distrib, Nat.shiftRight_eq_div_pow, Nat.shiftRight_eq_div_pow]
      have : 2 * x / 2 ^ 16 = 1 := by omega
      rw [this, show 69665 / 2 ^ 16 = 1 from rfl]; rfl
    rw [Nat.shiftRight_eq_div_pow] at e
    omega
  · omega
theorem crcN_lt {n : Nat} : ∀ {x : Nat}, x < 65536 → crcN n x < 65536 := by
  induction n with
  | zero => exact fun h => h
  | succ n ih => exact fun h => ih (crc1_lt h)
theorem crcN_succ {n : Nat} : ∀ {x : Nat}, crcN (n + 1) x = crc1 (crcN n x) := by
  induction n with
  | zero => intro x; rfl
  | succ n ih => intro x; rw [crcN, ih]; rfl
theorem crcX_lt {x : Nat} (h : x < 65536) (b : UInt8) : x ^^^ (256 * b.toNat) < 65536 := Nat.xor_lt_two_pow (n := 16) h (by have := b.toNat_lt; omega)
theorem crcB_lt {x : Nat} (h : x < 65536) (b : UInt8) : crcB x b < 65536 := crcN_lt (crcX_lt h b)
theorem crc_take {l : List UInt8} {i : Nat} (h : i < l.length) : crc (l.take (i + 1)) = crcB (crc (l.take i)) l[i] := by
  rw [List.take_succ_eq_append_getElem h]; simp only [crc, List.foldl_append, List.foldl_cons, List.foldl_nil]
theorem crc_lt (l : List UInt8) : crc l < 65536 := by
  have : ∀ (l : List UInt8) (x : Nat), x < 65536 → l.foldl crcB x < 65536 := by
    intro l
    induction l with
    | nil => exact fun x h => h
    | cons b l ih => intro x h; rw [List.foldl_cons]; exact ih _ (crcB_lt h b)
  unfold crc; exact this l 65535 (by decide)
end Go.Vs
namespace Go.Vs
set_option linter.unusedVariables false
set_option linter.unusedSimpArgs false
/-! ## data of the program -/
/-- Slices of bytes as they lie. -/
def sD (l : List (List UInt8)) : List (List D) := l.map fun b => [.sl 1 (bD b)]
@[simp] theorem sD_len (l : List (List UInt8)) : (sD l).length = l.length := by simp [sD]
theorem sD_get {l : List (List UInt8)} {i : Nat} (h : i < l.length) : (sD l)[i]? = some [.sl 1 (bD l[i])] := by simp [sD, h]
/-- Two bytes of a number. -/
def w2 (v : Nat) : List UInt8 := [UInt8.ofNat (v / 256), UInt8.ofNat v]
@[simp] theorem w2_len (v : Nat) : (w2 v).length = 2 := rfl
theorem take_one {roots : List (Nat × Root)} {r sz n : Nat} {es : List (List D)} (h : get roots r = some (.tr sz es)) (hn : n = es.length) : takeAll roots [.rf r [] sz 0 n] = some ([.sl sz es], cutR roots r []) := by
  subst hn
  simp [takeAll, takeC, h, nodeAt]
theorem flat_take {l : List (List UInt8)} {i : Nat} (h : i < l.length) : (l.take (i + 1)).flatten = (l.take i).flatten ++ l[i] := by
  rw [List.take_succ_eq_append_getElem h]; simp only [List.flatten_append, List.flatten_cons, List.flatten_nil, List.append_nil]
theorem flat_take_le (l : List (List UInt8)) (i : Nat) : (l.take i).flatten.length ≤ l.flatten.length := by
  have : l.flatten = (l.take i).flatten ++ (l.drop i).flatten := by rw [← List.flatten_append, List.take_append_drop]
  rw [this, List.length_append]
  omega
theorem take_cons {roots rt : List (Nat × Root)} {r sz n : Nat} {es : List (List D)} {l : List C} {ds : List D} (h : get roots r = some (.tr sz es)) (hn : n = es.length) (ht : takeAll (cutR roots r []) l = some (ds, rt)) : takeAll roots (.rf r [] sz 0 n :: l) = some (.sl sz es :: ds, rt) := by
  subst hn
  simp [takeAll, takeC, h, nodeAt, ht]
theorem take_lf {roots rt : List (Nat × Root)} {v : Value} {l : List C} {ds : List D} (ht : takeAll roots l = some (ds, rt)) : takeAll roots (.lf v :: l) = some (.lf v :: ds, rt) := by
  simp [takeAll, takeC, ht]
theorem take_nl {roots rt : List (Nat × Root)} {sz : Nat} {l : List C} {ds : List D} (ht : takeAll roots l = some (ds, rt)) : takeAll roots (.nl sz :: l) = some (.sl sz [] :: ds, rt) := by
  simp [takeAll, takeC, ht]
end Go.Vs
