import Derived.Test.YteacflalidbhpaaVsV26
set_option linter.unusedVariables false
set_option linter.unusedSimpArgs false
namespace Go.Vs
set_option linter.unusedVariables false
set_option linter.unusedSimpArgs false

theorem backIo_reOw : ∀ (fl : List (M × C × D)) (cs : List C) (roots : List (Nat × Root)) (o : List (Nat × List (List D))), backIo roots (reOw fl cs) o = backIo roots fl o
  | [], _, _, _ => rfl
  | (m, c, d) :: l, cs, roots, o => by
    cases m with
    | ow =>
      cases cs with
      | nil => simp only [reOw]; cases o <;> simp only [backIo] <;> exact backIo_reOw l _ _ _
      | cons y cs => simp only [reOw]; cases o <;> simp only [backIo] <;> exact backIo_reOw l _ _ _
    | rd => rw [reOw_no (by simp)]; cases o <;> simp only [backIo] <;> exact backIo_reOw l _ _ _
    | rx => rw [reOw_no (by simp)]; cases o <;> simp only [backIo] <;> exact backIo_reOw l _ _ _
    | io =>
      rw [reOw_no (by simp)]
      cases d with
      | lf v => cases o <;> cases c <;> simp only [backIo] <;> exact backIo_reOw l _ _ _
      | hole => cases o <;> cases c <;> simp only [backIo] <;> exact backIo_reOw l _ _ _
      | sl sz es =>
        cases o with
        | nil => cases c <;> simp only [backIo]
        | cons x o =>
          obtain ⟨s, es'⟩ := x
          cases c with
          | rf r p s' lo n => simp only [backIo]; split <;> first | exact backIo_reOw l _ _ _ | rfl
          | nl s' => simp only [backIo]; exact backIo_reOw l _ _ _
          | lf v => simp only [backIo]
          | un => simp only [backIo]
          | pe r p i c => simp only [backIo]
          | pb r c => simp only [backIo]
theorem handIo_reOw : ∀ (fl : List (M × C × D)) (cs : List C), handIo (reOw fl cs) = handIo fl
  | [], _ => rfl
  | (m, c, d) :: l, cs => by
    cases m with
    | ow =>
      cases cs with
      | nil => simp only [reOw, handIo]; exact handIo_reOw l _
      | cons y cs => simp only [reOw, handIo]; exact handIo_reOw l _
    | rd => rw [reOw_no (by simp)]; simp only [handIo]; exact handIo_reOw l _
    | rx => rw [reOw_no (by simp)]; simp only [handIo]; exact handIo_reOw l _
    | io => rw [reOw_no (by simp)]; cases c <;> cases d <;> simp only [handIo, handIo_reOw l cs]
theorem reOw_mem : ∀ {fl : List (M × C × D)} {cs : List C} {x : M × C × D}, x ∈ reOw fl cs → x.1 ≠ .ow → x ∈ fl
  | [], _, _, h, _ => by simp [reOw] at h
  | (m, c, d) :: l, cs, x, h, hx => by
    by_cases hm : m = .ow
    · subst hm
      cases cs with
      | nil =>
        simp only [reOw, List.mem_cons] at h
        rcases h with rfl | h
        · exact (hx rfl).elim
        · exact List.mem_cons_of_mem _ (reOw_mem h hx)
      | cons y cs =>
        simp only [reOw, List.mem_cons] at h
        rcases h with rfl | h
        · exact (hx rfl).elim
        · exact List.mem_cons_of_mem _ (reOw_mem h hx)
    · rw [reOw_no hm] at h
      rcases List.mem_cons.1 h with rfl | h
      · simp
      · exact List.mem_cons_of_mem _ (reOw_mem h hx)
theorem rxb_reOw {R R' : C → Value → Prop} : ∀ {fl : List (M × C × D)} {cs ci : List C}, RxB R R' (fl.map md) ((reOw fl cs).map (·.2.1)) ci → RxB R R' (fl.map md) (fl.map (·.2.1)) ci
  | [], _, _, h => h
  | (m, c, d) :: l, cs, ci, h => by
    by_cases hm : m = .ow
    · subst hm
      cases ci with
      | nil => cases cs <;> exact h.elim
      | cons y ci =>
        cases cs with
        | nil => exact ⟨fun hx => by simp [isRx, md] at hx, rxb_reOw h.2⟩
        | cons z cs => exact ⟨fun hx => by simp [isRx, md] at hx, rxb_reOw h.2⟩
    · rw [reOw_no hm] at h
      cases ci with
      | nil => exact h.elim
      | cons y ci => exact ⟨h.1, rxb_reOw h.2⟩
theorem flat_len : ∀ {xs : List A} {os : List (Bool × List D)}, xs.map shA = os.map (fun x => (x.1, x.2.length)) → (xs.flatMap fun x => (cellsA x).2).length = (os.flatMap (·.2)).length
  | [], [], _ => rfl
  | [], _ :: _, h => by simp at h
  | _ :: _, [], h => by simp at h
  | x :: xs, o :: os, h => by
    simp only [List.map_cons, List.cons.injEq, shA, Prod.mk.injEq] at h
    simp only [List.flatMap_cons, List.length_append]
    rw [h.1.2, flat_len h.2]
theorem RxB.mono {R R2 R' : C → Value → Prop} (h : ∀ z v, R2 z v → R z v) : ∀ {l : List (M × D)} {a b : List C}, RxB R R' l a b → RxB R2 R' l a b
  | [], [], [], _ => trivial
  | _ :: _, _ :: _, _ :: _, k => ⟨fun hx v hv => k.1 hx v (h _ _ hv), RxB.mono h k.2⟩
  | [], _ :: _, _, k => k.elim
  | [], [], _ :: _, k => k.elim
  | _ :: _, [], _, k => k.elim
  | _ :: _, _ :: _, [], k => k.elim
theorem enB_get : ∀ (bs : List (Nat × Nat × Nat)) (b j : Nat) (x : Nat × Nat × Nat), bs[j]? = some x → (b + j, Ent.box x.1 x.2.1 x.2.2) ∈ enB bs b
  | [], _, _, _, h => by simp at h
  | (r, c, k) :: l, b, 0, x, h => by simp at h; subst h; simp [enB]
  | (r, c, k) :: l, b, j + 1, x, h => by
    have := enB_get l (b + 1) j x (by simpa using h)
    rw [show b + 1 + j = b + (j + 1) by omega] at this
    simp only [enB, List.mem_cons]; exact .inr this
theorem all2_map {α β γ : Type} {R : β → γ → Prop} {k : α → β} : ∀ {as : List α} {cs : List γ}, All2 (fun a c => R (k a) c) as cs → All2 R (as.map k) cs
  | [], [], _ => trivial
  | _ :: _, _ :: _, h => ⟨h.1, all2_map h.2⟩
  | [], _ :: _, h => h.elim
  | _ :: _, [], h => h.elim
theorem owPick_flat {R : C → Value → Prop} : ∀ {B : List (List (M × D) × List C)} {bxs : List (List C)} {bvs : List (List Value)}, All2 (All2 R) bxs bvs → All2 R ((B.zip bxs).flatMap fun x => owPick x.1.1 x.2) ((B.zip bvs).flatMap fun x => owPick x.1.1 x.2)
  | [], _, _, _ => by simp [All2]
  | _ :: _, [], [], _ => by simp [All2]
  | b :: B, x :: bxs, y :: bvs, h => by
    simp only [List.zip_cons_cons, List.flatMap_cons]
    exact All2.append (owPick_all h.1) (owPick_flat h.2)
  | _ :: _, [], _ :: _, h => h.elim
  | _ :: _, _ :: _, [], h => h.elim
/-- The values in the variables. -/
theorem box_vals {w0 : World} {own0 : Nat → Nat → Prop} {pl0 : Pls} {g : Lab} {pl : Pls} {roots : List (Nat × Root)} {nx fix : Nat} {w : World} (h : Hp w0 own0 pl0 g pl roots nx nx fix w) : ∀ (bxs : List (List C)) (b : Nat), (∀ (j : Nat) (ys : List C), bxs[j]? = some ys → get roots (b + j) = some (.bx ys)) →
    ∃ bvs : List (List Value), All2 (All2 (CR pl nx)) bxs bvs ∧ ∀ j bv, bvs[j]? = some bv → ∀ i u, bv[i]? = some u → w.cell? ⟨(pl (b + j) []).b, (pl (b + j) []).off + i, none⟩ = some u
  | [], _, _ => ⟨[], trivial, by simp⟩
  | ys :: bxs, b, hb => by
    obtain ⟨bvs, h1, h2⟩ := box_vals h bxs (b + 1) fun j ys hy => by rw [show b + 1 + j = b + (j + 1) by omega]; exact hb (j + 1) ys (by simpa using hy)
    have h0 := hb 0 ys rfl
    obtain ⟨bv, hl, hbv, hc⟩ := h.boxFrom (r := b + 0) (cs := ys) (by unfold boxIn; rw [h0]) ys 0 (fun k x hx => by simpa using hx)
    refine ⟨bv :: bvs, ⟨hc, h1⟩, fun j bv' hj i u hu => ?_⟩
    cases j with
    | zero => simp only [List.getElem?_cons_zero, Option.some.injEq] at hj; subst hj; have := hbv i u hu; simpa using this
    | succ j => have := h2 j bv' (by simpa using hj) i u hu; rwa [show b + 1 + j = b + (j + 1) by omega] at this

variable {w0 : World} {own0 : Nat → Nat → Prop} {pl0 : Pls} {g : Lab} {pl : Pls} {fix : Nat} {w : World}
/-- What a call gives. -/
def Called (w0 : World) (own0 : Nat → Nat → Prop) (pl0 : Pls) (pl : Pls) (S : St) (fix : Nat) (K : V → List (Nat × Path) → List (Nat × Root) → Nat → Prop) (e : Ending) (w' : World) : Prop :=
  ∃ rv x ks roots nx g' pl', e = .returned rv ∧ VR pl' nx x rv ∧ Hp w0 own0 pl0 g' pl' roots nx nx fix w' ∧ (∀ z u, CR pl S.next z u → CR pl' nx (killCs ks z) u) ∧ K x ks roots nx
theorem call_ok {P : Program} {S : St} {f : FuncId} {vs : List V} {ws : List Value} {K : V → List (Nat × Path) → List (Nat × Root) → Nat → Prop} (hp : Hp w0 own0 pl0 g pl S.roots S.next S.next fix w) (hv : All2 (VR pl S.next) vs ws) (hc : callOk P S f vs K) :
    Calls P f ws.toArray w (Called w0 own0 pl0 pl S fix K) := by
  obtain ⟨as, out, hruns, fl, hf, rt, ht, hnd, hs, r1, hb1, r2, hb2, hK⟩ := hc
  obtain ⟨g1, pl1, hen⟩ := enter hp hv hf ht hnd hs
  refine Calls.mono (hruns w _ _ _ ws hen.inn hen.args) ?_
  rintro e w' ⟨rv, gc, plc, rootsC, n1, res, rfl, hC0, hres, xs, hxs, hsh, bxs, hrd, hbx, rtC, htk, hbl, hio⟩
  obtain ⟨us, hres1, hres2⟩ := res_ok hxs hres
  obtain ⟨bvs, hbv1, hbv2⟩ := box_vals hC0 bxs _ hbx
  have hvals := All2.append hres1 (owPick_flat (B := inB as (inCells as).1) hbv1)
  obtain ⟨g2, pl2, hC, hag2, hnew, hlt2⟩ := takeAll_ok _ _ _ _ _ _ _ _ hC0 hvals htk
  -- names
  have hF1 : fixN as ≤ n1 := hC0.fixle
  have hle0 := newCs_le (out.res.flatMap (·.2) ++ out.bx.flatten) S.next
  have hle1 := newCs_le (out.res.flatMap (·.2) ++ out.bx.flatten) n1
  have hsh' := newCs_nx (out.res.flatMap (·.2) ++ out.bx.flatten) S.next n1
  have hnF : ∀ id, n1 ≤ id → id < (newCs (out.res.flatMap (·.2) ++ out.bx.flatten) n1).2.2 → id - n1 + S.next < (newCs (out.res.flatMap (·.2) ++ out.bx.flatten) S.next).2.2 := by intro id h1 h2; omega
  have hlim := newCs_le (owD fl) S.next
  have hX : ∀ t, t < S.next → get ((newCs (owD fl) S.next).2.1 ++ rt) t = get rt t := by
    intro t ht
    rw [get_append, get_none_of (fun x hx => by have := (hlim.2 x hx).1; omega)]
  have hY : ∀ t, t < n1 → get ((newCs (out.res.flatMap (·.2) ++ out.bx.flatten) n1).2.1 ++ rtC) t = get rtC t := by
    intro t ht
    rw [get_append, get_none_of (fun x hx => by have := (hle1.2 x hx).1; omega)]
  have hcr := newCs_cr (pl1 := pl1) (pl2 := pl2) (n0 := S.next) (n1 := n1) hnF _ _ 0 hnew
  simp only [Nat.add_zero] at hcr
  have hmdO : (reOw fl (newCs (owD fl) S.next).1).map md = flat as := by rw [reOw_md]; exact hen.md
  have hk1 : (inCs (flat as) (0, fixN as)).2.2.1 = fixCs (flat as) := by rw [inCs_fix]; simp
  have hFF : fixN as = fixCs (flat as) + nBox as := rfl
  obtain ⟨us0, hus0, hgood⟩ := hen.good
  -- what 'rx' cells hold
  have hrx := rx_back (nF := (newCs (out.res.flatMap (·.2) ++ out.bx.flatten) S.next).2.2) (n0 := S.next) (n1 := n1) (F := fixN as) hen.ids (fun id q h => hC.fixed id q h) hle0.1 (reOw fl (newCs (owD fl) S.next).1) us0 (0, fixN as) hgood (by
      intro x hx r p s lo n hxc hxm
      have hxf := reOw_mem hx (by rw [hxm]; simp)
      obtain ⟨i, hi⟩ := List.getElem?_of_mem hxf
      obtain ⟨u, _, hu⟩ := hus0.get i x.2.1 (by rw [List.getElem?_map, hi]; rfl)
      rw [hxc] at hu
      exact hu.1) (fun x hx => List.mem_append.2 (.inl hx)) (by rw [hmdO, hk1, hFF]; omega)
  rw [hmdO] at hrx
  have hrx' := rxb_reOw (fl := fl) (by rw [hen.md]; exact hrx)
  rw [hen.md] at hrx'
  have hbxlt : ∀ (j : Nat) (x : Nat × Nat × Nat), (handBx vs as)[j]? = some x → fixCs (flat as) + j < fixN as := by
    intro j x hj
    have := (List.getElem?_eq_some_iff.1 hj).1
    have := hen.blen
    omega
  have hmem : ∀ r, r ∈ handE (entries fl S.next (handBx vs as) as) → r < S.next → r ∈ handIo fl ∨ r ∈ (handBx vs as).map (·.1) := by
    intro r hr hlt
    unfold entries at hr
    rw [handE_append, handE_enCs, handE_enB, List.mem_append] at hr
    rcases hr with hr | hr
    · rcases handC_mem hr with k | k
      · exact .inl k
      · omega
    · exact .inr hr
  rw [List.nodup_append] at hnd
  -- the slices that were written
  obtain ⟨hq1, hq2⟩ := backIo_ok (E := entries fl S.next (handBx vs as) as) (Y := rtC) (F := fixN as) (roots0 := rt)
    (Q := fun r x => r ∉ (handBx vs as).map (·.1) → r < (newCs (out.res.flatMap (·.2) ++ out.bx.flatten) S.next).2.2 ∧ RootOk (stable w0 own0) w' (labB g1 (entries fl S.next (handBx vs as) as) S.next n1 g2) (plB pl1 pl2 S.next n1) (newCs (out.res.flatMap (·.2) ++ out.bx.flatten) S.next).2.2 r x)
    (reOw fl (newCs (owD fl) S.next).1) (0, fixN as) rt out.io r1 (by rw [backIo_reOw]; exact hb1) (by rw [handIo_reOw]; exact hnd.1) (fun _ _ => rfl) (fun x hx => List.mem_append.2 (.inl hx)) (by rw [hmdO]; exact hio) (by rw [hmdO, hk1, hFF]; omega)
    (by
      intro id r p s lo n sz es hm hE hid es' hes' hl sz0 es0 hr _
      obtain ⟨rfl, rfl, rfl, sz1, es1, h1, h2⟩ := hs _ (reOw_mem hm (by simp))
      rw [hr] at h1
      simp only [Option.some.injEq, Root.tr.injEq] at h1
      obtain ⟨rfl, rfl⟩ := h1
      have hlt := hen.rtlt r _ hr
      exact ⟨by omega, back_io hen.hp hC hen.ids hen.hand hF1 hE hid hlt (by rw [hX r hlt]; exact hr) h2 (by rw [hY id (by omega)]; exact hes') hl _⟩)
    (by
      intro r x hr hni hnb
      rw [handIo_reOw] at hni
      have hlt := hen.rtlt r _ hr
      exact ⟨by omega, back_keep hen.hp hC hle0.1 hlt (fun h => (hmem r h hlt).elim hni hnb) (by rw [hX r hlt]; exact hr)⟩)
  -- the variables
  have hul : us.length = (out.res.flatMap (·.2)).length := by rw [← hres1.length]; exact flat_len hsh
  have hdrop := All2.drop (out.res.flatMap (·.2)).length hcr
  rw [List.drop_left' hul] at hdrop
  have hQ := backBx_ok (R := CR plc n1) (R' := CR (plB pl1 pl2 S.next n1) (newCs (out.res.flatMap (·.2) ++ out.bx.flatten) S.next).2.2) (roots0 := S.roots)
    (Q := fun r x => r < (newCs (out.res.flatMap (·.2) ++ out.bx.flatten) S.next).2.2 ∧ RootOk (stable w0 own0) w' (labB g1 (entries fl S.next (handBx vs as) as) S.next n1 g2) (plB pl1 pl2 S.next n1) (newCs (out.res.flatMap (·.2) ++ out.bx.flatten) S.next).2.2 r x)
    vs as fl (inCells as).1 out.bx _ r1 r2 bxs bvs hf ?_ hrd hbv1 hdrop hbl hb2 hnd.2.1 ?_ ?_ ?_
  · refine ⟨rv, _, [], _, _, _, _, rfl, hres2 _ _ out.res _ _ hsh hcr, back_hp hen.hp hC hle0.1 hnF hp.fixle (R := (newCs (out.res.flatMap (·.2) ++ out.bx.flatten) S.next).2.1 ++ r2) ?_, ?_, hK⟩
    · intro r x hx
      rw [get_append] at hx
      split at hx
      · rename_i y hy
        simp only [Option.some.injEq] at hx; subst hx
        obtain ⟨h1, h2, sz, es, rfl⟩ := newCs_shift _ S.next n1 r y hy
        have h3 := ((hle0.2 _ (mem_of_get hy))).2
        refine ⟨h3, ?_⟩
        have := back_new (n0 := S.next) (n1 := n1) (nF := (newCs (out.res.flatMap (·.2) ++ out.bx.flatten) S.next).2.2) (g1 := g1) (pl1 := pl1) hC (id := r - S.next + n1) (by omega) (by rw [get_append, h2]) (stable w0 own0)
        rwa [show r - S.next + n1 - n1 + S.next = r by omega] at this
      · exact hQ r x hx
    · intro z u hz
      exact back_cr hle0.1 (hz.agree hen.agree)
  · -- R: places over there
    refine RxB.mono ?_ hrx'
    intro z v hz
    exact hz.agree hag2
  · intro x hx
    obtain ⟨_, cs, h1, h2, _⟩ := hen.bxs x hx
    rw [hq2 _ (by rw [handIo_reOw]; exact fun k => hnd.2.2 _ k _ (List.mem_map_of_mem hx) rfl), h1, h2]
  · intro j x yj bv zs hj hyj hbv hzs hyl cs hcs
    obtain ⟨hlt, cs', h1, h2, hcl⟩ := hen.bxs x (List.mem_of_getElem? hj)
    rw [h2] at hcs
    simp only [Option.some.injEq, Root.bx.injEq] at hcs; subst hcs
    have hid := hbxlt j x hj
    have hE : (fixCs (flat as) + j, Ent.box x.1 x.2.1 x.2.2) ∈ entries fl S.next (handBx vs as) as := List.mem_append.2 (.inr (enB_get _ _ _ _ hj))
    have hbl2 : bv.length = yj.length := by
      obtain ⟨b', hb', hall⟩ := hbv1.get j yj hyj
      rw [hbv] at hb'; simp only [Option.some.injEq] at hb'; subst hb'
      exact hall.length.symm
    refine ⟨by omega, back_box hen.hp hC hle0.1 hen.ids hen.hand hF1 hE hid hlt (by rw [hX _ hlt]; exact h1) hcl (by rw [hY _ (by omega)]; exact takeAll_bx htk _ _ (hbx j yj hyj)) hyl (by rw [hzs.length, hbl2, hyl]) ?_ _⟩
    intro i y z v hy hz hcell _
    obtain ⟨u, hu, hcu⟩ := hzs.get i z hz
    have hc := hbv2 j bv hbv i u hu
    rw [hC0.fixed _ [] hid] at hc
    rw [show plE pl1 (entries fl S.next (handBx vs as) as) (fixCs (flat as) + j) [] = ⟨false, (pl1 x.1 []).b, (pl1 x.1 []).off + x.2.1, 0, 1⟩ by unfold plE; rw [get_of_mem hen.ids hE]] at hc
    simp only [Nat.add_assoc] at hc
    rw [hc] at hcell
    simp only [Option.some.injEq] at hcell; subst hcell
    exact hcu
  · intro r x hr hnb
    exact hq1 r x hr hnb
end Go.Vs
