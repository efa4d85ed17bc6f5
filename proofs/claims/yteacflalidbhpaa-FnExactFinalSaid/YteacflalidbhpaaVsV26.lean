import Derived.Test.YteacflalidbhpaaVsV25
set_option linter.unusedVariables false
set_option linter.unusedSimpArgs false
namespace Go.Vs
set_option linter.unusedVariables false
set_option linter.unusedSimpArgs false

section
variable {w0 : World} {own0 : Nat → Nat → Prop} {pl0 : Pls} {g1 g2 : Lab} {pl1 pl2 : Pls} {X Y : List (Nat × Root)} {nA n0 fix nC n1 F nF : Nat} {w w' : World} {E : List (Nat × Ent)}

/-- Cells that were handed 'rx' hold what they held. -/
theorem rx_back (hn : (Ids E).Nodup) (hfix : ∀ id q, id < F → pl2 id q = plE pl1 E id q) (hF : n0 ≤ nF) : ∀ (fl : List (M × C × D)) (us : List Value) (k : Kk), All2 (Good pl1 X E) fl us → (∀ x ∈ fl, ∀ r p s lo n, x.2.1 = .rf r p s lo n → x.1 = .rx → r < n0) → (∀ x ∈ (enCs fl k).1, x ∈ E) → (inCs (fl.map md) k).2.2.1 ≤ F →
    RxB (CR pl2 n1) (CR (plB pl1 pl2 n0 n1) nF) (fl.map md) (fl.map (·.2.1)) (inCs (fl.map md) k).1
  | [], [], _, _, _, _, _ => trivial
  | [], _ :: _, _, hg, _, _, _ => hg.elim
  | _ :: _, [], _, hg, _, _, _ => hg.elim
  | (m, c, d) :: fl, u :: us, k, hg, hr, hE, hk => by
    simp only [List.map_cons, md, inCs] at hk ⊢
    have u2 := inCs_up (fl.map md) (inC m d k).2.2
    simp only [enCs, List.mem_append] at hE
    refine ⟨?_, rx_back hn hfix hF fl us (inC m d k).2.2 hg.2 (fun x hx => hr x (by simp [hx])) (fun x hx => hE x (.inr (by rw [enC_k]; exact hx))) hk⟩
    intro hrx v hv
    cases d with
    | lf v' => cases m <;> simp [isRx] at hrx
    | hole => cases m <;> simp [isRx] at hrx
    | sl sz es =>
      cases m with
      | io => simp [isRx] at hrx
      | ow => simp [isRx] at hrx
      | rd => simp [isRx] at hrx
      | rx =>
        simp only [inC] at hv hk
        have hid : k.1 < F := by have := (inCs_up (fl.map md) (k.1 + 1, k.2)).1; simp only at this; omega
        obtain ⟨_, hw⟩ := hv
        rw [hfix _ _ hid] at hw
        rcases hg.1 with ⟨rfl, rfl, rfl⟩ | ⟨r, p, lo, n, rfl, hgw, hgg⟩
        · have hE' := hE (k.1, .nil sz) (.inl (by simp [enC, srcR]))
          rw [show plE pl1 E k.1 [] = ⟨true, 0, 0, 0, sz⟩ by unfold plE; rw [get_of_mem hn hE']] at hw
          obtain ⟨_, _, _, A, rfl, hA⟩ := hw
          show Value.slice A 0 (0 - 0) = _
          rw [hA (.inr rfl)]; rfl
        · have hE' := hE (k.1, .read r p lo sz) (.inl (by simp [enC, srcR]))
          rw [show plE pl1 E k.1 [] = ⟨(pl1 r p).nil, (pl1 r p).b, (pl1 r p).off + lo * sz, (pl1 r p).cap - lo, sz⟩ by unfold plE; rw [get_of_mem hn hE']] at hw
          have hlt := hr (.rx, .rf r p sz lo n, .sl sz es) List.mem_cons_self r p sz lo n rfl rfl
          refine ⟨by omega, ?_⟩
          rw [plB_lt hlt]
          rcases hgg with ⟨_, hlo, _, l, hl, hlm, rfl⟩ | ⟨hm, _⟩
          · obtain ⟨a1, a2, a3, _⟩ := hgw
            obtain ⟨_, _, _, A, rfl, hA⟩ := hw
            have hlen : ((l.drop lo).take n).length = n := by
              have : lo + n ≤ l.length := hlm
              simp; omega
            rw [hlen]
            refine ⟨a1, a2, a3, A, by simp, fun hh => ?_⟩
            rw [hA (.inr rfl), a1]; simp
          · simp at hm

/-- The slices that were written. -/
theorem backIo_ok {Q : Nat → Root → Prop} {roots0 : List (Nat × Root)} : ∀ (fl : List (M × C × D)) (k : Kk) (roots : List (Nat × Root)) (o : List (Nat × List (List D))) (r1 : List (Nat × Root)), backIo roots fl o = some r1 → (handIo fl).Nodup → (∀ r ∈ handIo fl, get roots r = get roots0 r) →
    (∀ x ∈ (enCs fl k).1, x ∈ E) → All2 (fun (x : Nat × Nat × Nat) (o : Nat × List (List D)) => get Y x.1 = some (.tr o.1 o.2) ∧ o.1 = x.2.1 ∧ o.2.length = x.2.2) (ioOf (fl.map md) k.1) o → (inCs (fl.map md) k).2.2.1 ≤ F →
    (∀ (id r : Nat) (p : Path) (s lo n sz : Nat) (es : List (List D)), (M.io, C.rf r p s lo n, D.sl sz es) ∈ fl → (id, Ent.tree r p) ∈ E → id < F → ∀ es', get Y id = some (.tr sz es') → es'.length = es.length → ∀ sz0 es0, get roots0 r = some (.tr sz0 es0) → Q r (.tr sz0 (updNode es0 p fun _ => es'))) →
    (∀ r x, get roots r = some x → r ∉ handIo fl → Q r x) → (∀ r x, get r1 r = some x → Q r x) ∧ (∀ r, r ∉ handIo fl → get r1 r = get roots r)
  | [], k, roots, [], r1, hb, _, _, _, _, _, _, hq => by
    simp only [backIo, Option.some.injEq] at hb; subst hb
    exact ⟨fun r x hx => hq r x hx (by simp [handIo]), fun _ _ => rfl⟩
  | [], k, roots, _ :: _, r1, hb, _, _, _, _, _, _, _ => by simp [backIo] at hb
  | (m, c, d) :: fl, k, roots, o, r1, hb, hnd, h0, hE, ho, hk, hio, hq => by
    have hk' : (inCs (fl.map md) (inC m d k).2.2).2.2.1 ≤ F := hk
    have hup := (inCs_up (fl.map md) (inC m d k).2.2).1
    have hE' := hE
    simp only [enCs, List.mem_append] at hE'
    have skip : backIo roots ((m, c, d) :: fl) o = backIo roots fl o → handIo ((m, c, d) :: fl) = handIo fl → ioOf (((m, c, d) :: fl).map md) k.1 = ioOf (fl.map md) (inC m d k).2.2.1 → (∀ r x, get r1 r = some x → Q r x) ∧ (∀ r, r ∉ handIo ((m, c, d) :: fl) → get r1 r = get roots r) := by
      intro e1 e2 e3
      rw [e1] at hb
      rw [e2] at hnd h0 hq ⊢
      rw [e3] at ho
      exact backIo_ok fl (inC m d k).2.2 roots o r1 hb hnd h0 (fun x hx => hE' x (.inr (by rw [enC_k]; exact hx))) ho hk' (fun id r p s lo n sz es hm => hio id r p s lo n sz es (by simp [hm])) hq
    cases m with
    | rd => cases d <;> exact skip (by cases o <;> simp [backIo]) rfl rfl
    | ow => cases d <;> exact skip (by cases o <;> simp [backIo]) rfl rfl
    | rx => cases d <;> exact skip (by cases o <;> simp [backIo]) rfl rfl
    | io =>
      cases d with
      | lf v => exact skip (by cases o <;> cases c <;> simp [backIo]) (by cases c <;> rfl) rfl
      | hole => exact skip (by cases o <;> cases c <;> simp [backIo]) (by cases c <;> rfl) rfl
      | sl sz es =>
        have e3 : ioOf (((M.io, c, D.sl sz es) :: fl).map md) k.1 = (k.1, sz, es.length) :: ioOf (fl.map md) (inC .io (.sl sz es) k).2.2.1 := rfl
        rw [e3] at ho
        match o, ho with
        | (s', es') :: o, ho =>
          obtain ⟨⟨g1, g2, g3⟩, ho⟩ := ho
          simp only at g1 g2 g3
          subst g2
          cases c with
          | nl s =>
            simp only [backIo] at hb
            simp only [handIo] at hnd h0 hq ⊢
            exact backIo_ok fl (inC .io (.sl s' es) k).2.2 roots o r1 hb hnd h0 (fun x hx => hE' x (.inr (by rw [enC_k]; exact hx))) ho hk' (fun id r p s lo n sz es hm => hio id r p s lo n sz es (by simp [hm])) hq
          | rf r p s lo n =>
            simp only [backIo] at hb
            simp only [handIo, List.nodup_cons, List.mem_cons, not_or] at hnd h0 hq ⊢
            split at hb
            · rename_i sz0 es0 hr
              have hq' : Q r (.tr sz0 (updNode es0 p fun _ => es')) := by
                refine hio k.1 r p s lo n s' es (by simp) (hE' _ (.inl (by simp [enC, srcT]))) (by simp only [inC] at hup hk'; omega) es' g1 g3 sz0 es0 ?_
                rw [← h0 r (.inl rfl)]; exact hr
              obtain ⟨a, b⟩ := backIo_ok (Q := Q) (roots0 := roots0) fl (inC .io (.sl s' es) k).2.2 _ o r1 hb hnd.2 (fun t ht => by
                rw [get_put, if_neg (fun e => hnd.1 (by rw [e]; exact ht))]; exact h0 t (.inr ht)) (fun x hx => hE' x (.inr (by rw [enC_k]; exact hx))) ho hk' (fun id r p s lo n sz es hm => hio id r p s lo n sz es (by simp [hm])) (fun t x hx ht => by
                  rw [get_put] at hx
                  split at hx
                  · rename_i e; subst e; simp only [Option.some.injEq] at hx; subst hx; exact hq'
                  · rename_i e; exact hq t x hx ⟨fun e' => e e'.symm, ht⟩)
              exact ⟨a, fun t ht => by rw [b t ht.2, get_put, if_neg (fun e => ht.1 e.symm)]⟩
            · simp at hb
          | lf v => simp [backIo] at hb
          | un => simp [backIo] at hb
          | pe r p i c => simp [backIo] at hb
          | pb r c => simp [backIo] at hb
/-- The variables. -/
theorem backBx_ok {R R' : C → Value → Prop} {Q : Nat → Root → Prop} {roots0 : List (Nat × Root)} : ∀ (vs : List V) (as : List Arg) (fl : List (M × C × D)) (ci : List C) (o : List (List D)) (ys : List C) (r1 r2 : List (Nat × Root)) (bxs : List (List C)) (bvs : List (List Value)),
    flatAs roots0 vs as = some fl → RxB R R' (flat as) (fl.map (·.2.1)) ci → All2 (fun x ys => rdSame x.1 x.2 ys) (inB as ci) bxs → All2 (All2 R) bxs bvs →
    All2 R' ys (((inB as ci).zip bvs).flatMap fun x => owPick x.1.1 x.2) → ((inB as ci).zip bxs).map (fun x => (owPick x.1.1 x.2).length) = o.map (·.length) →
    backBx r1 vs as o ys = some r2 → ((handBx vs as).map (·.1)).Nodup → (∀ x ∈ handBx vs as, get r1 x.1 = get roots0 x.1) →
    (∀ (j : Nat) (x : Nat × Nat × Nat) (yj : List C) (bv : List Value) (zs : List C), (handBx vs as)[j]? = some x → bxs[j]? = some yj → bvs[j]? = some bv → All2 R' zs bv → yj.length = x.2.2 → ∀ cs, get roots0 x.1 = some (.bx cs) → Q x.1 (.bx (cs.take x.2.1 ++ (zs ++ cs.drop (x.2.1 + x.2.2))))) →
    (∀ r x, get r1 r = some x → r ∉ (handBx vs as).map (·.1) → Q r x) → ∀ r x, get r2 r = some x → Q r x
  | [], [], fl, ci, o, ys, r1, r2, bxs, bvs, _, _, _, _, _, _, hb, _, _, _, hq => by
    have : r2 = r1 := by simp only [backBx, Option.some.injEq] at hb; exact hb.symm
    subst this
    exact fun r x hx => hq r x hx (by simp [handBx])
  | [], _ :: _, _, _, _, _, _, _, _, _, hf, _, _, _, _, _, _, _, _, _, _ => by simp [flatAs] at hf
  | _ :: _, [], _, _, _, _, _, _, _, _, hf, _, _, _, _, _, _, _, _, _, _ => by simp [flatAs] at hf
  | v :: vs, .val ag l :: as, fl, ci, o, ys, r1, r2, bxs, bvs, hf, hrx, hbx, hbv, hys, hlen, hb, hnd, h0, hio, hq => by
    simp only [flatAs] at hf
    split at hf
    · rename_i fa fb ha hb'
      simp only [Option.some.injEq] at hf; subst hf
      have hz : ∃ cs, zipA cs l = some fa := by
        unfold flatA at ha
        split at ha
        · rename_i heq; cases heq; exact ⟨_, ha⟩
        · rename_i heq; cases heq; exact ⟨_, ha⟩
        · rename_i heq; cases heq
        · simp at ha
      obtain ⟨cs, hz⟩ := hz
      obtain ⟨e1, e2⟩ := zipA_ok hz
      have hh : handBx (v :: vs) (.val ag l :: as) = handBx vs as := by
        simp only [handBx]
      rw [hh] at hnd h0 hio hq
      have hb2 : backBx r1 (v :: vs) (.val ag l :: as) o ys = backBx r1 vs as o ys := by
        simp only [backBx]
      rw [hb2] at hb
      rw [List.map_append, show flat (.val ag l :: as) = l ++ flat as from rfl] at hrx
      have := (hrx.split (by rw [← e2]; simp)).2
      exact backBx_ok vs as fb (ci.drop l.length) o ys r1 r2 bxs bvs hb' this hbx hbv hys hlen hb hnd h0 hio hq
    · simp at hf
  | v :: vs, .ptr l :: as, fl, ci, o, ys, r1, r2, bxs, bvs, hf, hrx, hbx, hbv, hys, hlen, hb, hnd, h0, hio, hq => by
    simp only [flatAs] at hf
    split at hf
    · rename_i fa fb ha hb'
      simp only [Option.some.injEq] at hf; subst hf
      unfold flatA at ha
      split at ha
      · rename_i heq; cases heq
      · rename_i heq; cases heq
      · rename_i r c l' heq
        cases heq
        split at ha
        · rename_i cs hr
          split at ha
          · rename_i hcl
            obtain ⟨e1, e2⟩ := zipA_ok ha
            simp only [inB] at hbx hys hlen
            match bxs, hbx with
            | yj :: bxs, hbx =>
              match bvs, hbv with
              | bv :: bvs, hbv =>
                simp only [List.zip_cons_cons, List.flatMap_cons, List.map_cons] at hys hlen
                match o, hlen with
                | ds :: o, hlen =>
                  simp only [List.map_cons, List.cons.injEq] at hlen
                  rw [List.map_append, show flat (.ptr l :: as) = l ++ flat as from rfl] at hrx
                  obtain ⟨hrx1, hrx2⟩ := hrx.split (by rw [← e2]; simp)
                  rw [e1] at hrx1
                  have hbl : (owPick l bv).length = ds.length := by rw [← owPick_len hbv.1]; exact hlen.1
                  have t := All2.take ds.length hys
                  have dd := All2.drop ds.length hys
                  rw [List.take_left' hbl] at t
                  rw [List.drop_left' hbl] at dd
                  have hmix := mix_ok hbx.1 hbv.1 hrx1 t
                  simp only [handBx, List.map_cons, List.nodup_cons] at hnd h0 hio hq
                  have hr1 : get r1 r = some (.bx cs) := by rw [h0 (r, c, l.length) (by simp)]; exact hr
                  simp only [backBx] at hb
                  rw [hr1] at hb
                  simp only at hb
                  have hyl : yj.length = l.length := by
                    have : ∀ (l : List (M × D)) (a b : List C), rdSame l a b → b.length = l.length := by
                      intro l
                      induction l with
                      | nil => intro a b h; cases a <;> cases b <;> first | rfl | exact h.elim
                      | cons x l ih => intro a b h; cases a <;> cases b <;> first | exact h.elim | (simp; exact ih _ _ h.2)
                    exact this _ _ _ hbx.1
                  have hQ := hio 0 (r, c, l.length) yj bv _ rfl rfl rfl hmix hyl cs hr
                  refine backBx_ok vs as fb (ci.drop l.length) o _ _ r2 bxs bvs hb' hrx2 hbx.2 hbv.2 dd hlen.2 hb hnd.2 (fun x hx => ?_) (fun j x yj bv zs h1 h2 h3 => hio (j + 1) x yj bv zs (by simpa using h1) (by simpa using h2) (by simpa using h3)) (fun t x hx ht => ?_)
                  · rw [get_put, if_neg (fun e => hnd.1 (by rw [e]; exact List.mem_map_of_mem hx))]
                    exact h0 x (by simp [hx])
                  · rw [get_put] at hx
                    split at hx
                    · rename_i e; subst e; simp only [Option.some.injEq] at hx; subst hx; exact hQ
                    · rename_i e
                      exact hq t x hx (by simp only [List.mem_cons, not_or]; exact ⟨fun e' => e e'.symm, ht⟩)
          · simp at ha
        · simp at ha
      · simp at ha
    · simp at hf
end
end Go.Vs
