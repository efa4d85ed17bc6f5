import Derived.Test.YteacflalidbhpaaVsV10
import Derived.Laws.MakeOwn
set_option linter.unusedVariables false
set_option linter.unusedSimpArgs false
namespace Go.Vs
set_option linter.unusedVariables false
set_option linter.unusedSimpArgs false

def szAt (N : List (List D)) (i c : Nat) : Nat :=
  match (N[i]?).bind (·[c]?) with
  | some (.sl s _) => s
  | _ => 0
def plZ (pl : Pls) (R : Nat) (N : List (List D)) (k0 : Nat) : Pls := fun r q =>
  if r = R then match q with
    | (i, c) :: _ => if k0 ≤ i then ⟨true, 0, 0, 0, szAt N (i - k0) c⟩ else pl r q
    | [] => pl r q
  else pl r q

section
variable {w0 : World} {own0 : Nat → Nat → Prop} {pl0 : Pls} {g : Lab} {pl : Pls} {roots : List (Nat × Root)} {nx nc fix : Nat} {w : World}

/-- More elements of a row are told: leaves, and nil slices. -/
theorem Hp.extendZ (h : Hp w0 own0 pl0 g pl roots nx nc fix w) {r sz : Nat} {es : List (List D)} (hr : get roots r = some (.tr sz es)) (hfix : fix ≤ r) (hnc : nc ≤ r) (N : List (List D)) (hsz : ∀ e ∈ N, e.length = sz) (hle : es.length + N.length ≤ (pl r []).cap)
    (hN : ∀ (i : Nat) (e : List D) (c : Nat) (d : D), N[i]? = some e → e[c]? = some d → ∃ v, w.cell? ⟨(pl r []).b, (pl r []).off + ((es.length + i) * sz + c), none⟩ = some v ∧ ((d = .lf v ∧ v.oneCell' = true) ∨ (∃ s, d = .sl s [] ∧ v = .slice none 0 0))) :
    Hp w0 own0 pl0 g (plZ pl r N es.length) (put roots r (.tr sz (es ++ N))) nx nc fix w := by
  obtain ⟨hrn, hok⟩ := h.roots r _ hr
  obtain ⟨hc, hm⟩ := hok [] _ rfl
  have hp1 : ∀ i c q', i < es.length → plZ pl r N es.length r ((i, c) :: q') = pl r ((i, c) :: q') := by
    intro i c q' hi; unfold plZ; simp [show ¬ es.length ≤ i by omega]
  have hp0 : plZ pl r N es.length r [] = pl r [] := by unfold plZ; simp
  have hp2 : ∀ i c q', es.length ≤ i → plZ pl r N es.length r ((i, c) :: q') = ⟨true, 0, 0, 0, szAt N (i - es.length) c⟩ := by
    intro i c q' hi; unfold plZ; simp [hi]
  have hpo : ∀ r' q, r' ≠ r → plZ pl r N es.length r' q = pl r' q := by
    intro r' q hr'; unfold plZ; simp [hr']
  refine ⟨h.fr, h.lab, ?_, h.fixle, h.ncle, ?_⟩
  · intro r' q hr'
    rw [hpo _ _ (by omega)]
    exact h.fixed r' q hr'
  intro r' x hx
  rw [get_put] at hx
  split at hx
  · rename_i e'; subst e'
    simp only [Option.some.injEq] at hx; subst hx
    refine ⟨hrn, ?_⟩
    intro q m hq
    cases q with
    | nil =>
      simp only [nodeAt, Option.some.injEq] at hq; subst hq
      refine ⟨⟨by rw [hp0]; exact hc.szp, by rw [hp0]; simpa using hle, by rw [hp0]; exact hc.nil, ?_, ?_⟩, hm.move hp0 fun b o hb => ⟨hb, id, rfl⟩⟩
      · intro e he
        simp only [List.mem_append] at he
        rcases he with he | he
        · exact hc.szs e he
        · exact hsz e he
      · intro i e c d he hd
        rw [hp0]
        by_cases hi : i < es.length
        · rw [List.getElem?_append_left hi] at he
          obtain ⟨v, hv, hdv⟩ := hc.cells i e c d he hd
          exact ⟨v, hv, by rw [List.nil_append, hp1 i c [] hi]; exact hdv⟩
        · rw [List.getElem?_append_right (by omega)] at he
          obtain ⟨v, hv, hk⟩ := hN _ e c d he hd
          rw [show es.length + (i - es.length) = i by omega] at hv
          refine ⟨v, hv, ?_⟩
          rw [List.nil_append, hp2 i c [] (by omega)]
          rcases hk with ⟨rfl, h1⟩ | ⟨s, rfl, rfl⟩
          · exact ⟨rfl, h1⟩
          · refine ⟨?_, rfl⟩
            simp [szAt, he, hd]
    | cons a q =>
      obtain ⟨i, c⟩ := a
      unfold nodeAt at hq
      by_cases hi : i < es.length
      · rw [List.getElem?_append_left hi] at hq
        obtain ⟨a, b⟩ := hok ((i, c) :: q) m (by unfold nodeAt; exact hq)
        exact ⟨a.move (hp1 i c q hi) (fun j k _ _ _ _ => hp1 i c _ hi) fun _ _ => rfl, b.move (hp1 i c q hi) fun b o hb => ⟨hb, id, rfl⟩⟩
      · rw [List.getElem?_append_right (by omega)] at hq
        split at hq
        · rename_i sz' es' hb
          simp only [Option.bind_eq_some_iff] at hb
          obtain ⟨e, he, hd⟩ := hb
          obtain ⟨v, hv, hk⟩ := hN _ e c _ he hd
          rcases hk with ⟨hbad, _⟩ | ⟨s, hs, rfl⟩
          · cases hbad
          · simp only [D.sl.injEq] at hs
            obtain ⟨rfl, rfl⟩ := hs
            cases q with
            | nil =>
              simp only [nodeAt, Option.some.injEq] at hq; subst hq
              have hz := hp2 i c [] (by omega)
              refine ⟨⟨by rw [hz]; simp [szAt, he, hd], by rw [hz]; simp, by rw [hz]; simp, by simp, by simp⟩, ?_⟩
              intro j hj
              rw [hz] at hj
              simp at hj
            | cons a q => obtain ⟨j, k⟩ := a; simp [nodeAt] at hq
        · simp at hq
  · rename_i hne
    obtain ⟨hr', hok'⟩ := h.roots r' x hx
    exact ⟨hr', Keep.root' ⟨fun b o q hb => ⟨hb, rfl, rfl⟩, fun _ _ _ => rfl, fun q => hpo _ _ (fun e => hne e.symm)⟩ (fun x v k => k.agree fun r p hr => hpo _ _ (by omega)) hok'⟩
theorem plZ_agree {N : List (List D)} {R k0 : Nat} (h : nc ≤ R) : Agree nc pl (plZ pl R N k0) := fun r p hr => by unfold plZ; rw [if_neg (by omega)]
theorem plZ_nil {N : List (List D)} {R k0 r : Nat} : plZ pl R N k0 r [] = pl r [] := by unfold plZ; split <;> rfl
end

theorem killCs_nil (x : C) : killCs [] x = x := rfl

variable {P : Program} {N : Nat} {w0 : World} {own0 : Nat → Nat → Prop} {pl0 : Pls} {g : Lab} {pl : Pls} {S : St} {a : Act} {w : World} {K : V → List (Nat × Path) → List (Nat × Root) → Nat → Prop}

/-- An operation that writes, done. -/
def Wrote (P : Program) (w0 : World) (own0 : Nat → Nat → Prop) (pl0 : Pls) (pl : Pls) (S : St) (K : V → List (Nat × Path) → List (Nat × Root) → Nat → Prop) (s : Sem Value) (w : World) : Prop :=
  ∃ v w' x ks roots nx g' pl', s.run P w = .ok v w' ∧ VR pl' nx x v ∧ Hp w0 own0 pl0 g' pl' roots nx nx S.fix w' ∧ (∀ z u, CR pl S.next z u → CR pl' nx (killCs ks z) u) ∧ K x ks roots nx

theorem wroteC {s : Sem Value} {v : Value} {w' : World} {x : C} {ks : List (Nat × Path)} {roots : List (Nat × Root)} {nx : Nat} {g' : Lab} {pl' : Pls} (hK : K (.a (.c x)) ks roots nx) (hr : s.run P w = .ok v w') (hx : CR pl' nx x v)
    (hp : Hp w0 own0 pl0 g' pl' roots nx nx S.fix w') (hk : ∀ z u, CR pl S.next z u → CR pl' nx (killCs ks z) u) : Wrote P w0 own0 pl0 pl S K s w := ⟨v, w', .a (.c x), ks, roots, nx, g', pl', hr, hx, hp, hk, hK⟩
theorem wrote_alloc (hR : Rel N w0 own0 pl0 g pl S a w) {e : TypeId} {j : W} (ht : trW P (.alloc e) = some j) (h : wr S K j) :
    Wrote P w0 own0 pl0 pl S K (Instr.alloc e true (.tuple #[])) w := by
  simp only [trW, Option.bind_eq_bind, Option.bind_eq_some_iff, Option.some.injEq] at ht
  obtain ⟨i, hi, z, hz, zc, hzc, rfl⟩ := ht
  have hall := cellsZero_ok (pl := pl) (nx := S.next) hzc
  have hb := hR.hp.newBox zc z.cells.toList e hall
  refine wroteC h (v := .pointer (some ⟨w.heap.size, 0, none⟩)) ?_ Hp.newBox_ptr hb.bump fun z u hk => (hk.agree (plNew_agree _ _ _)).mono (by omega)
  simp [Instr.alloc, zeroValue, typeInfo, hi, hz, newVar, newRow]
theorem wrote_box (hR : Rel N w0 own0 pl0 g pl S a w) {e : TypeId} {x : Operand} {j : W} (ht : trW P (.box e x) = some j) (h : wr S K j) :
    Wrote P w0 own0 pl0 pl S K (Instr.box e (a.eval x)) w := by
  simp only [trW, Option.map_eq_some_iff] at ht
  obtain ⟨y, hy, rfl⟩ := ht
  obtain ⟨ys, hys, hK⟩ := h
  have hall := cellsV_ok (opd_ok hR hy) hys
  have hb := hR.hp.newBox ys (a.eval x).cells.toList e hall
  refine wroteC hK (v := .pointer (some ⟨w.heap.size, 0, none⟩)) ?_ Hp.newBox_ptr hb.bump fun z u hk => (hk.agree (plNew_agree _ _ _)).mono (by omega)
  simp [Instr.box, newVar, newRow]

theorem killC_ok {nc r : Nat} {pre : Path} (hpre : pre ≠ []) {L : Path → Pl} {x : C} {u : Value} (h : CR pl nc x u) : CR (plAt pl r pre L) nc (killC r pre x) u := by
  cases x with
  | rf r' q sz lo n =>
    by_cases hn : r' = r ∧ pre <+: q
    · rw [show killC r pre (.rf r' q sz lo n) = .un from if_pos hn]; exact h.one
    · rw [show killC r pre (.rf r' q sz lo n) = .rf r' q sz lo n from if_neg hn]; exact ⟨h.1, by rw [plAt_out hn]; exact h.2⟩
  | pe r' q i c =>
    by_cases hn : r' = r ∧ pre <+: q
    · rw [show killC r pre (.pe r' q i c) = .un from if_pos hn]; exact h.one
    · rw [show killC r pre (.pe r' q i c) = .pe r' q i c from if_neg hn]; exact ⟨h.1, by rw [plAt_out hn]; exact h.2⟩
  | pb r' c =>
    refine ⟨h.1, ?_⟩
    rw [plAt_out (by rintro ⟨_, hh⟩; exact hpre (List.prefix_nil.1 hh))]
    exact h.2
  | un => exact h
  | nl sz => exact h
  | lf v => exact h
theorem killCs_append (ks : List (Nat × Path)) (k : Nat × Path) (x : C) : killCs (ks ++ [k]) x = killC k.1 k.2 (killCs ks x) := by
  induction ks generalizing x with
  | nil => rfl
  | cons a ks ih => simp only [List.cons_append, killCs]; exact ih _

/-- A tree that is taken stands under a new id. -/
theorem takeC_rf {g : Lab} {pl : Pls} {roots : List (Nat × Root)} {nx nc fix : Nat} (h : Hp w0 own0 pl0 g pl roots nx nc fix w) {r : Nat} {p : Path} {sz lo n : Nat} {v : Value} (hc : CR pl nc (.rf r p sz lo n) v) {d : D} {roots1 : List (Nat × Root)} (ht : takeC roots (.rf r p sz lo n) = some (d, roots1)) :
    ∃ es g' pl', d = .sl sz es ∧ Hp w0 own0 pl0 g' pl' ((nx, .tr sz es) :: roots1) (nx + 1) nc fix w ∧ Agree nx pl pl' ∧ Win (pl' nx []) sz 0 es.length v ∧ (∀ r x, get roots1 r = some x → r < nx) := by
  unfold takeC at ht
  split at ht
  · rename_i heq; cases heq
  · rename_i heq; cases heq
  · rename_i heq
    cases heq
    split at ht
    · rename_i sz0 es hr
      split at ht
      · rename_i sz' es1 hp
        split at ht
        · rename_i hcond
          obtain ⟨rfl, hn⟩ := hcond
          simp only [Option.some.injEq, Prod.mk.injEq] at ht
          obtain ⟨rfl, rfl⟩ := ht
          refine ⟨es1.take n, _, _, rfl, h.detach (n := n) hr hp, plNew_agree _ _ _, ?_, ?_⟩
          · rw [plNew_self, List.append_nil, List.length_take, Nat.min_eq_left hn]
            exact hc.2
          · intro r' x hx
            have hrn := (h.roots _ _ hr).1
            by_cases e : r' = r
            · subst e; exact hrn
            · rw [cutR_other e] at hx; exact (h.roots r' x hx).1
        · simp at ht
      · simp at ht
    · simp at ht
  · simp at ht
/-- A datum that is taken: a leaf, nil, or a tree that stands under a new id. -/
theorem takeC_ok {g : Lab} {pl : Pls} {roots : List (Nat × Root)} {nx nc fix : Nat} (h : Hp w0 own0 pl0 g pl roots nx nc fix w) {c : C} {v : Value} (hc : CR pl nc c v) {d : D} {roots1 : List (Nat × Root)} (ht : takeC roots c = some (d, roots1)) :
    (d = .lf v ∧ v.oneCell' = true ∧ roots1 = roots) ∨ (∃ sz, d = .sl sz [] ∧ v = .slice none 0 0 ∧ roots1 = roots) ∨
      (∃ sz es g' pl', d = .sl sz es ∧ Hp w0 own0 pl0 g' pl' ((nx, .tr sz es) :: roots1) (nx + 1) nc fix w ∧ Agree nx pl pl' ∧ Win (pl' nx []) sz 0 es.length v ∧ (∀ r x, get roots1 r = some x → r < nx)) := by
  unfold takeC at ht
  split at ht
  · simp only [Option.some.injEq, Prod.mk.injEq] at ht
    obtain ⟨rfl, rfl⟩ := ht
    obtain ⟨rfl, h1⟩ := hc
    exact .inl ⟨rfl, h1, rfl⟩
  · simp only [Option.some.injEq, Prod.mk.injEq] at ht
    obtain ⟨rfl, rfl⟩ := ht
    exact .inr (.inl ⟨_, rfl, hc, rfl⟩)
  · rename_i r p sz n
    split at ht
    · rename_i sz0 es hr
      split at ht
      · rename_i sz' es1 hp
        split at ht
        · rename_i hcond
          obtain ⟨rfl, hn⟩ := hcond
          simp only [Option.some.injEq, Prod.mk.injEq] at ht
          obtain ⟨rfl, rfl⟩ := ht
          refine .inr (.inr ⟨sz', es1.take n, _, _, rfl, h.detach (n := n) hr hp, plNew_agree _ _ _, ?_, ?_⟩)
          · rw [plNew_self, List.append_nil, List.length_take, Nat.min_eq_left hn]
            exact hc.2
          · intro r' x hx
            have hrn := (h.roots r _ hr).1
            by_cases e : r' = r
            · subst e; exact hrn
            · rw [cutR_other e] at hx; exact (h.roots r' x hx).1
        · simp at ht
      · simp at ht
    · simp at ht
  · simp at ht
end Go.Vs
namespace Go.Vs
variable {P : Program} {N : Nat} {w0 : World} {own0 : Nat → Nat → Prop} {pl0 : Pls} {g : Lab} {pl : Pls} {S : St} {a : Act} {w : World} {K : V → List (Nat × Path) → List (Nat × Root) → Nat → Prop}

/-- The cells of a struct's variable are written. -/
theorem setBoxes {roots : List (Nat × Root)} {nx nc fix : Nat} {r : Nat} : ∀ (ys : List C) (vs : List Value) (cs : List C) (c : Nat) (w : World) (roots : List (Nat × Root)), Hp w0 own0 pl0 g pl roots nx nc fix w → get roots r = some (.bx cs) → c + ys.length ≤ cs.length → All2 (CR pl nc) ys vs →
    ∃ roots', Hp w0 own0 pl0 g pl roots' nx nc fix (setCells w (pl r []).b ((pl r []).off + c) vs) ∧ (∀ t, get roots' t = get (put roots r (.bx (cs.take c ++ (ys ++ cs.drop (c + ys.length))))) t)
  | [], [], cs, c, w, roots, h, hr, hc, _ => by
    refine ⟨roots, h, fun t => ?_⟩
    rw [get_put]
    split
    · rename_i e; subst e; simp [hr]
    · rfl
  | y :: ys, v :: vs, cs, c, w, roots, h, hr, hc, hall => by
    simp only [List.length_cons] at hc
    obtain ⟨h1, _⟩ := h.setBox hr (show c < cs.length by omega) hall.1
    obtain ⟨roots', h2, h3⟩ := setBoxes (roots := roots) ys vs (cs.set c y) (c + 1) _ _ h1 (by rw [get_put, if_pos rfl]) (by simp; omega) hall.2
    refine ⟨roots', by rw [setCells]; exact h2, fun t => ?_⟩
    rw [h3, get_put, get_put, get_put]
    split
    · congr 2
      apply List.ext_getElem?
      intro j
      simp only [List.getElem?_append, List.length_take, List.length_set, List.getElem?_take, List.getElem?_set, List.getElem?_drop, List.getElem?_cons, List.length_cons]
      have e3 : min (c + 1) cs.length = c + 1 := by omega
      have e4 : min c cs.length = c := by omega
      rw [e3, e4]
      by_cases h1 : j < c
      · simp [h1, show j < c + 1 by omega, show ¬ c = j by omega]
      · by_cases h2 : j = c
        · subst h2; simp [show j < cs.length by omega]
        · have e1 : ¬ j < c + 1 := by omega
          simp only [e1, h1, if_false]
          have e5 : j - c - 1 = j - (c + 1) := by omega
          by_cases h4 : j - (c + 1) < ys.length
          · simp [h4, show j - c < ys.length + 1 by omega, show ¬ (j - c = 0) by omega, e5]
          · simp only [h4, show ¬ (j - c < ys.length + 1) by omega, if_false]
            have e6 : c + 1 + ys.length + (j - (c + 1) - ys.length) = j := by omega
            have e7 : c + (ys.length + 1) + (j - c - (ys.length + 1)) = j := by omega
            rw [e6, e7, if_neg (by omega)]
    · rfl
  | [], _ :: _, _, _, _, _, _, _, _, h => h.elim
  | _ :: _, [], _, _, _, _, _, _, _, h => h.elim
theorem Hp.roots_eq {roots roots' : List (Nat × Root)} {nx nc fix : Nat} (h : Hp w0 own0 pl0 g pl roots nx nc fix w) (e : ∀ t, get roots' t = get roots t) : Hp w0 own0 pl0 g pl roots' nx nc fix w :=
  ⟨h.fr, h.lab, h.fixed, h.fixle, h.ncle, fun r x hx => h.roots r x (by rw [← e]; exact hx)⟩
theorem CR.killed {nc : Nat} {pl' : Pls} {ks : List (Nat × Path)} (h : ∀ z u, CR pl nc z u → CR pl' nc (killCs ks z) u) : ∀ {ys : List C} {vs : List Value}, All2 (CR pl nc) ys vs → All2 (CR pl' nc) (ys.map (killCs ks)) vs
  | [], [], _ => trivial
  | _ :: _, _ :: _, k => ⟨h _ _ k.1, CR.killed h k.2⟩
  | [], _ :: _, k => k.elim
  | _ :: _, [], k => k.elim
end Go.Vs
