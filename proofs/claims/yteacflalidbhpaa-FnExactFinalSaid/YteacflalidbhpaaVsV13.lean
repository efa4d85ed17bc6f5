import Derived.Test.YteacflalidbhpaaVsV12
set_option linter.unusedVariables false
set_option linter.unusedSimpArgs false
namespace Go.Vs
set_option linter.unusedVariables false
set_option linter.unusedSimpArgs false
variable {P : Program} {N : Nat} {w0 : World} {own0 : Nat → Nat → Prop} {pl0 : Pls} {g : Lab} {pl : Pls} {S : St} {a : Act} {w : World} {K : V → List (Nat × Path) → List (Nat × Root) → Nat → Prop}

theorem all2_one {nc : Nat} : ∀ {ys : List C} {vs : List Value}, All2 (CR pl nc) ys vs → ∀ v ∈ vs, v.oneCell' = true
  | [], [], _, v, hv => by simp at hv
  | _ :: _, _ :: _, h, v, hv => by
    rcases List.mem_cons.1 hv with rfl | hv
    · exact CR.one h.1
    · exact all2_one h.2 v hv
  | [], _ :: _, h, _, _ => h.elim
  | _ :: _, [], h, _, _ => h.elim

/-- A store, done. -/
def Stored (P : Program) (w0 : World) (own0 : Nat → Nat → Prop) (pl0 : Pls) (pl : Pls) (S : St) (K : V → List (Nat × Path) → List (Nat × Root) → Nat → Prop) (s : Sem Unit) (w : World) : Prop :=
  ∃ w' ks roots nx g' pl', s.run P w = .ok () w' ∧ Hp w0 own0 pl0 g' pl' roots nx nx S.fix w' ∧ (∀ z u, CR pl S.next z u → CR pl' nx (killCs ks z) u) ∧ K .un ks roots nx

theorem stored_store (hR : Rel N w0 own0 pl0 g pl S a w) {t : TypeId} {x v : Operand} {j : W} (ht : trW P (.store t x v) = some j) (h : wr S K j) :
    Stored P w0 own0 pl0 pl S K (Instr.storeAt t (a.eval x) (a.eval v)) w := by
  simp only [trW, Option.bind_eq_bind, Option.bind_eq_some_iff, Option.some.injEq] at ht
  obtain ⟨i, hi, x', hx, v', hv, rfl⟩ := ht
  have h1 := opd_ok hR hx
  have h2 := opd_ok hR hv
  have hrun : ∀ (b o : Nat), a.eval x = .pointer (some ⟨b, o, none⟩) → (a.eval v).cells.size = i.size → (∀ u ∈ (a.eval v).cells.toList, u.oneCell' = true) →
      (∀ j, j < (a.eval v).cells.toList.length → (∃ u, w.cell? ⟨b, o + j, none⟩ = some u) ∧ w.frozen? ⟨b, o + j, none⟩ = false) →
      (Instr.storeAt t (a.eval x) (a.eval v)).run P w = .ok () (setCells w b o (a.eval v).cells.toList) := by
    intro b o hb hs h1 hex
    have hst := run_storeCells (P := P) b (a.eval v).cells.toList w o 0 h1 (by simpa using hex)
    simp [Instr.storeAt, hb, Instr.sureAddr, storeVar, sizeOf, typeInfo, hi, hs, hst]
  simp only [wr] at h
  split at h
  · rename_i r c he
    rw [he] at h1
    obtain ⟨hr, hpv⟩ := c_of h1
    obtain ⟨ys, hys, hl, cs, hcs, hle, hK⟩ := h
    have hall := cellsV_ok h2 hys
    have hll := hall.length
    obtain ⟨_, hok⟩ := hR.hp.roots r _ hcs
    obtain ⟨roots', hp, hroots⟩ := setBoxes (roots := S.roots) ys (a.eval v).cells.toList cs c w S.roots hR.hp hcs (by omega) hall
    refine ⟨_, [], _, S.next, g, pl, hrun _ _ hpv (by rw [← Array.length_toList]; omega) (all2_one hall) ?_, hp.roots_eq (fun t => (hroots t).symm), fun z u hk => hk, by rw [hl]; exact hK⟩
    intro j hj
    obtain ⟨u, e1, _, _, e2⟩ := hok (c + j) _ (List.getElem?_eq_getElem (show c + j < cs.length by omega))
    rw [← Nat.add_assoc] at e1 e2
    exact ⟨⟨u, e1⟩, e2⟩
  · rename_i r p i' c he
    rw [he] at h1
    obtain ⟨hr, hnil, hpv⟩ := c_of h1
    obtain ⟨ys, hys, hl, e, hE, hle, ⟨sz0, es, hroot⟩, res, hres, hK⟩ := h
    have hall := cellsV_ok h2 hys
    have hll := hall.length
    simp only [Option.bind_eq_some_iff] at hE
    obtain ⟨n, hn, hei⟩ := hE
    have hn' : nodeAt sz0 es p = some n := by
      rw [node_eq] at hn; unfold nodeIn at hn; rw [hroot] at hn; exact hn
    obtain ⟨hc, hm⟩ := (hR.hp.roots r _ hroot).2 p n hn'
    obtain ⟨g', pl', nx', a1, a2, a3, a4⟩ := storeT_ok (n0 := S.next) (Nat.le_refl _) ys (a.eval v).cells.toList S.roots c [] w g pl S.next res hR.hp (Nat.le_refl _) (fun t x hx => (hR.hp.roots t x hx).1) (fun z u k => k) hall sz0 es n e hroot hn' hei (by omega) hres
    refine ⟨_, res.2, res.1, S.next, _, pl', hrun _ _ hpv (by rw [← Array.length_toList]; omega) (all2_one hall) ?_, a1.trim (Nat.le_refl _) hR.hp.fixle a3, a4, hK⟩
    intro j hj
    have hb := hc.bound hei (List.getElem?_eq_getElem (show c + j < e.length by omega))
    obtain ⟨_, e1, e2⟩ := hm (i' * n.1 + (c + j)) (by rw [hc.szp]; exact hb.2.2.1)
    rw [hc.szp]
    rw [show (pl r p).off + (i' * n.1 + c) + j = (pl r p).off + (i' * n.1 + (c + j)) by omega]
    exact ⟨e1, e2⟩
  · exact h.elim

theorem rep_len {α : Type} (n : Nat) (l : List α) : (rep n l).length = n * l.length := by
  induction n with
  | zero => simp [rep]
  | succ n ih => simp [rep, ih, Nat.add_mul]; omega
theorem rep_get {α : Type} {l : List α} : ∀ (n i c : Nat), i < n → c < l.length → (rep n l)[i * l.length + c]? = l[c]?
  | 0, _, _, h, _ => by omega
  | n + 1, 0, c, _, hc => by simp [rep, List.getElem?_append_left hc]
  | n + 1, i + 1, c, h, hc => by
    simp only [rep]
    rw [List.getElem?_append_right (by rw [Nat.add_mul]; omega)]
    rw [show (i + 1) * l.length + c - l.length = i * l.length + c by rw [Nat.add_mul]; omega]
    exact rep_get n i c (by omega) hc
theorem made_get (z : Array Value) (n : Nat) (hz : 0 < z.size) : ∀ j, j < n → (madeCells z n)[j]? = z[j % z.size]? := by
  intro j hj
  have : j % z.size < z.size := Nat.mod_lt _ hz
  simp [madeCells, hj, Array.getElem!_eq_getD, Array.getD, this]

theorem zeroD_val {nc : Nat} {c : C} {v : Value} (h : CR pl nc c v) (hp : plainC c = true) : (zeroD c = .lf v ∧ v.oneCell' = true) ∨ (∃ s, zeroD c = .sl s [] ∧ v = .slice none 0 0) := by
  cases c with
  | lf x => obtain ⟨rfl, h1⟩ := h; exact .inl ⟨rfl, h1⟩
  | nl sz => exact .inr ⟨sz, rfl, h⟩
  | un => simp [plainC] at hp
  | rf => simp [plainC] at hp
  | pe => simp [plainC] at hp
  | pb => simp [plainC] at hp

theorem win_fresh {pl : Pls} {nx B cap sz n : Nat} {L : Path → Pl} (hL : pl nx [] = ⟨false, B, 0, cap, sz⟩) (hn : n ≤ cap) : Win (pl nx []) sz 0 n (.slice (some ⟨B, 0, none⟩) n cap) := by
  rw [hL]
  exact ⟨rfl, by simp, by simpa using hn, some ⟨B, 0, none⟩, by simp, fun _ => by simp⟩

theorem wrote_mks (hR : Rel N w0 own0 pl0 g pl S a w) {t : TypeId} {l c : Operand} {j : W} (ht : trW P (.makeSlice t l c) = some j) (h : wr S K j) :
    Wrote P w0 own0 pl0 pl S K (Instr.makeSlice t (a.eval l) (a.eval c)) w := by
  simp only [trW] at ht
  split at ht
  · rename_i e hu
    simp only [Option.bind_eq_bind, Option.bind_eq_some_iff] at ht
    obtain ⟨i, hi, z, hz, zc, hzc, ht⟩ := ht
    split at ht
    · rename_i hcond
      obtain ⟨hzl, hpos⟩ := hcond
      simp only [Option.bind_eq_some_iff, Option.some.injEq] at ht
      obtain ⟨l', hl, c', hc, rfl⟩ := ht
      have h1 := opd_ok hR hl
      have h2 := opd_ok hR hc
      simp only [wr] at h
      split at h
      · rename_i k1 z1 k2 z2 he hf
        rw [he] at h1; rw [hf] at h2
        obtain ⟨hv1, _⟩ := c_of h1
        obtain ⟨hv2, _⟩ := c_of h2
        obtain ⟨rfl, h0, hb, h63, hplain, hK⟩ := h
        have hall := cellsZero_ok (pl := pl) (nx := S.next) hzc
        have hlen := hall.length
        have hzs : z.cells.size = i.size := by rw [← Array.length_toList, ← hlen, hzl]
        have hrun := run_make (P := P) w t e i z hu hi hz k1 k2 z2 z2 h0 (Int.le_refl _) (by rw [Int.mul_comm]; omega) h63
        have hfr := hR.hp.fresh (madeCells z.cells (z2.toNat * i.size)) e z2.toNat i.size (size_madeCells _ _)
        have hcell : ∀ (i' : Nat) (e' : List D) (c' : Nat) (d : D), (List.replicate z2.toNat (zc.map zeroD))[i']? = some e' → e'[c']? = some d →
            ∃ v, (w.alloc (.cells (madeCells z.cells (z2.toNat * i.size)) e)).cell? ⟨w.heap.size, i' * i.size + c', none⟩ = some v ∧ ((d = .lf v ∧ v.oneCell' = true) ∨ (∃ s, d = .sl s [] ∧ v = .slice none 0 0)) := by
          intro i' e' c' d he' hd
          rw [List.getElem?_replicate] at he'
          split at he'
          · rename_i hi'
            simp only [Option.some.injEq] at he'; subst he'
            simp only [List.getElem?_map, Option.map_eq_some_iff] at hd
            obtain ⟨y, hy, rfl⟩ := hd
            obtain ⟨v, hv, hcr⟩ := hall.get _ _ hy
            have hc' := getElem?_lt hy
            have hjj : i' * i.size + c' < z2.toNat * i.size := lin hi' (Nat.le_refl _) (by omega)
            refine ⟨v, ?_, zeroD_val hcr (by have := List.all_eq_true.1 hplain y (List.mem_of_getElem? hy); exact this)⟩
            rw [World.cell?_alloc_new, made_get _ _ (by omega) _ hjj, hzs]
            rw [Nat.mul_comm, Nat.mul_add_mod, Nat.mod_eq_of_lt (by omega)]
            simpa using hv
          · simp at he'
        have hx := hfr.extendZ (r := S.next) (sz := i.size) (es := []) (by simp [get]) (by have := hR.hp.fixle; omega) (Nat.le_refl _) (List.replicate z2.toNat (zc.map zeroD)) (by
            intro e' he'; have := List.eq_of_mem_replicate he'; subst this; simpa using hzl) (by rw [plNew_self]; simp) (by
            intro i' e' c' d he' hd
            rw [plNew_self]
            obtain ⟨v, e1, e2⟩ := hcell i' e' c' d he' hd
            refine ⟨v, ?_, e2⟩
            simp only [List.length_nil, Nat.zero_add]
            exact e1)
        have hag : Agree S.next pl (plZ (plNew pl S.next fun _ => ⟨false, w.heap.size, 0, z2.toNat, i.size⟩) S.next (List.replicate z2.toNat (zc.map zeroD)) 0) := by
          intro r p hr
          rw [plZ_agree (Nat.le_refl _) r p hr, plNew_agree _ _ _ _ _ hr]
        refine wroteC hK (v := .slice (some ⟨w.heap.size, 0, none⟩) z2.toNat z2.toNat) ?_ (pl' := plZ (plNew pl S.next fun _ => ⟨false, w.heap.size, 0, z2.toNat, i.size⟩) S.next (List.replicate z2.toNat (zc.map zeroD)) 0) ?_ (hx.bump.roots_eq ?_) (fun z u hk => (hk.agree hag).mono (by omega))
        · rw [hv1, hv2]; exact hrun
        · refine ⟨by omega, win_fresh (L := fun _ => default) ?_ (Nat.le_refl _)⟩
          rw [plZ_nil, plNew_self]
        · intro t'
          rw [get_put]
          simp only [get]
          split
          · simp
          · rfl
      · exact h.elim
    · simp at ht
  · simp at ht
end Go.Vs
