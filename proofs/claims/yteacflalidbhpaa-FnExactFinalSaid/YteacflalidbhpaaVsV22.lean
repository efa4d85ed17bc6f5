import Derived.Test.YteacflalidbhpaaVsV21
set_option linter.unusedVariables false
set_option linter.unusedSimpArgs false
namespace Go.Vs
set_option linter.unusedVariables false
set_option linter.unusedSimpArgs false

def owD (fl : List (M × C × D)) : List D := (fl.filter isOw).map (·.2.2)
def owC (fl : List (M × C × D)) : List C := (fl.filter isOw).map (·.2.1)
def pickOw : List (M × C × D) → List Value → List Value
  | x :: l, u :: us => if isOw x then u :: pickOw l us else pickOw l us
  | _, _ => []
theorem pickOw_ok {R : C → Value → Prop} : ∀ {fl : List (M × C × D)} {us : List Value}, All2 R (fl.map (·.2.1)) us → All2 R (owC fl) (pickOw fl us)
  | [], [], _ => trivial
  | [], _ :: _, h => h.elim
  | _ :: _, [], h => h.elim
  | (m, c, d) :: fl, u :: us, h => by
    have := pickOw_ok h.2
    by_cases hm : m = .ow
    · subst hm; exact ⟨h.1, this⟩
    · cases m <;> first | exact this | exact (hm rfl).elim
theorem isOw_iff {x : M × C × D} : isOw x = true ↔ x.1 = .ow := by
  obtain ⟨m, c, d⟩ := x; cases m <;> simp [isOw]
theorem reOw_ow {c : C} {d : D} {l : List (M × C × D)} {y : C} {cs : List C} : reOw ((.ow, c, d) :: l) (y :: cs) = (.ow, y, d) :: reOw l cs := rfl
theorem reOw_no {m : M} (hm : m ≠ .ow) {c : C} {d : D} {l : List (M × C × D)} {cs : List C} : reOw ((m, c, d) :: l) cs = (m, c, d) :: reOw l cs := by
  cases m <;> first | rfl | exact (hm rfl).elim
theorem reOw_md : ∀ (fl : List (M × C × D)) (cs : List C), (reOw fl cs).map md = fl.map md
  | [], _ => rfl
  | (m, c, d) :: l, cs => by
    by_cases hm : m = .ow
    · subst hm
      cases cs with
      | nil => simp [reOw, reOw_md l, md]
      | cons y cs => simp [reOw, reOw_md l, md]
    · rw [reOw_no hm]; simp [reOw_md l]
theorem owD_ow {c : C} {d : D} {l : List (M × C × D)} : owD ((.ow, c, d) :: l) = d :: owD l := rfl
theorem owD_no {m : M} (hm : m ≠ .ow) {c : C} {d : D} {l : List (M × C × D)} : owD ((m, c, d) :: l) = owD l := by
  cases m <;> first | rfl | exact (hm rfl).elim
theorem pickOw_ow {c : C} {d : D} {l : List (M × C × D)} {u : Value} {us : List Value} : pickOw ((.ow, c, d) :: l) (u :: us) = u :: pickOw l us := rfl
theorem pickOw_no {m : M} (hm : m ≠ .ow) {c : C} {d : D} {l : List (M × C × D)} {u : Value} {us : List Value} : pickOw ((m, c, d) :: l) (u :: us) = pickOw l us := by
  cases m <;> first | rfl | exact (hm rfl).elim

/-! ## whose cells go over -/
def handC : List (M × C × D) → List Nat
  | [] => []
  | (m, c, d) :: l => match m, c, d with
    | .io, .rf r _ _ _ _, .sl _ _ => r :: handC l
    | .ow, .rf r _ _ _ _, .sl _ _ => r :: handC l
    | _, _, _ => handC l
theorem handE_append (a b : List (Nat × Ent)) : handE (a ++ b) = handE a ++ handE b := by
  induction a with
  | nil => rfl
  | cons x a ih => obtain ⟨i, e⟩ := x; cases e <;> simp [handE, ih]
theorem handE_enCs : ∀ (fl : List (M × C × D)) (k : Kk), handE (enCs fl k).1 = handC fl
  | [], _ => rfl
  | (m, c, d) :: l, k => by
    simp only [enCs]
    rw [handE_append, handE_enCs l]
    cases d <;> cases m <;> cases c <;> simp [enC, handC, handE, srcT, srcR]
theorem handE_enB : ∀ (bs : List (Nat × Nat × Nat)) (b : Nat), handE (enB bs b) = bs.map (·.1)
  | [], _ => rfl
  | (r, c, k) :: l, b => by simp [enB, handE, handE_enB l]
theorem handC_mem : ∀ {fl : List (M × C × D)} {n x : Nat}, x ∈ handC (reOw fl (newCs (owD fl) n).1) → x ∈ handIo fl ∨ n ≤ x
  | [], _, _, h => by simp [reOw, handC] at h
  | (m, c, d) :: l, n, x, h => by
    by_cases hm : m = .ow
    · subst hm
      rw [owD_ow] at h
      cases d with
      | lf v => simp only [newCs, reOw, handC] at h; exact handC_mem (fl := l) h
      | hole => simp only [newCs, reOw, handC] at h; exact handC_mem (fl := l) h
      | sl sz es =>
        simp only [newCs, reOw, handC, List.mem_cons] at h
        rcases h with rfl | h
        · exact .inr (Nat.le_refl _)
        · rcases handC_mem (fl := l) h with k | k
          · exact .inl k
          · exact .inr (by omega)
    · rw [owD_no hm, reOw_no hm] at h
      cases m with
      | ow => exact (hm rfl).elim
      | rd => simp only [handC, handIo] at h ⊢; exact handC_mem (fl := l) h
      | rx => simp only [handC, handIo] at h ⊢; exact handC_mem (fl := l) h
      | io =>
        cases c <;> cases d <;> simp only [handC, handIo, List.mem_cons] at h ⊢ <;> first | exact handC_mem (fl := l) h | (rcases h with h | h; exact .inl (.inl h); exact (handC_mem (fl := l) h).elim (fun k => .inl (.inr k)) .inr)
theorem handC_nodup : ∀ {fl : List (M × C × D)} {n : Nat}, (handIo fl).Nodup → (∀ x ∈ handIo fl, x < n) → (handC (reOw fl (newCs (owD fl) n).1)).Nodup
  | [], _, _, _ => by simp [reOw, handC]
  | (m, c, d) :: l, n, h, hl => by
    by_cases hm : m = .ow
    · subst hm
      rw [owD_ow]
      have h' : handIo ((.ow, c, d) :: l) = handIo l := rfl
      rw [h'] at h hl
      cases d with
      | lf v => simp only [newCs, reOw, handC]; exact handC_nodup h hl
      | hole => simp only [newCs, reOw, handC]; exact handC_nodup h hl
      | sl sz es =>
        simp only [newCs, reOw, handC, List.nodup_cons]
        refine ⟨fun hx => ?_, handC_nodup h fun x hx => by have := hl x hx; omega⟩
        rcases handC_mem hx with k | k
        · have := hl n k; omega
        · omega
    · rw [owD_no hm, reOw_no hm]
      cases m with
      | ow => exact (hm rfl).elim
      | rd => simp only [handC, handIo] at h hl ⊢; exact handC_nodup h hl
      | rx => simp only [handC, handIo] at h hl ⊢; exact handC_nodup h hl
      | io =>
        have key : ∀ r, (r :: handIo l).Nodup → (∀ x ∈ r :: handIo l, x < n) → (r :: handC (reOw l (newCs (owD l) n).1)).Nodup := by
          intro r h hl
          simp only [List.nodup_cons] at h ⊢
          refine ⟨fun hx => ?_, handC_nodup h.2 fun x hx => hl x (by simp [hx])⟩
          rcases handC_mem hx with k | k
          · exact h.1 k
          · have := hl r (by simp); omega
        cases c <;> cases d <;> simp only [handC, handIo] at h hl ⊢ <;> first | exact handC_nodup h hl | exact key _ h hl

section
variable {w0 : World} {own0 : Nat → Nat → Prop} {pl0 : Pls} {g : Lab} {pl : Pls} {roots : List (Nat × Root)} {nx nc fix : Nat} {w : World} {E : List (Nat × Ent)}
theorem goods {pl1 : Pls} {X rt : List (Nat × Root)} {hand : List Nat} (hag : Agree nx pl pl1) (hX : ∀ t, t < nx → get X t = get rt t) (hrt : ∀ t x, get rt t = some x → t < nx) (hE : ∀ x ∈ handE E, x < nx → x ∈ hand) {N : Nat} :
    ∀ (fl : List (M × C × D)) (us : List Value) (n : Nat), All2 (CR pl nx) (fl.map (·.2.1)) us → All2 (CR pl1 N) (newCs (owD fl) n).1 (pickOw fl us) → (∀ x ∈ (newCs (owD fl) n).2.1, get X x.1 = some x.2) → (∀ x ∈ fl, seen rt hand x) →
    All2 (Good pl1 X E) (reOw fl (newCs (owD fl) n).1) us
  | [], [], _, _, _, _, _ => trivial
  | [], _ :: _, _, h, _, _, _ => h.elim
  | _ :: _, [], _, h, _, _, _ => h.elim
  | (m, c, d) :: fl, u :: us, n, h, ho, hx, hs => by
    by_cases hm : m = .ow
    · subst hm
      rw [owD_ow] at ho hx ⊢
      rw [pickOw_ow] at ho
      cases d with
      | lf v => exact ⟨ho.1, goods hag hX hrt hE fl us n h.2 ho.2 hx fun x k => hs x (by simp [k])⟩
      | hole => exact ⟨ho.1, goods hag hX hrt hE fl us n h.2 ho.2 hx fun x k => hs x (by simp [k])⟩
      | sl sz es =>
        simp only [newCs] at ho hx ⊢
        refine ⟨.inr ⟨n, [], 0, es.length, rfl, ho.1.2, .inr ⟨.inr rfl, rfl, sz, es, hx (n, .tr sz es) (by simp), rfl, rfl⟩⟩, goods hag hX hrt hE fl us (n + 1) h.2 ho.2 (fun x k => hx x (by simp [k])) fun x k => hs x (by simp [k])⟩
    · rw [owD_no hm] at ho hx ⊢
      rw [pickOw_no hm] at ho
      rw [reOw_no hm]
      refine ⟨?_, goods hag hX hrt hE fl us n h.2 ho hx fun x k => hs x (by simp [k])⟩
      have hsx := hs (m, c, d) (by simp)
      have hc : CR pl nx c u := h.1
      cases d with
      | lf v =>
        have : c = .lf v := by cases m <;> first | exact hsx | exact (hm rfl).elim
        subst this; exact hc
      | hole => exact hc.one
      | sl sz es =>
        cases c with
        | nl s =>
          have : s = sz ∧ es = [] := by cases m <;> first | exact hsx | exact (hm rfl).elim
          obtain ⟨rfl, rfl⟩ := this
          exact .inl ⟨rfl, rfl, hc⟩
        | rf r p s lo k =>
          have hw : Win (pl1 r p) s lo k u := by rw [hag r p hc.1]; exact hc.2
          by_cases hio : m = .io
          · subst hio
            obtain ⟨rfl, rfl, rfl, sz0, es0, h1, h2⟩ := hsx
            exact .inr ⟨r, p, 0, es.length, rfl, hw, .inr ⟨.inl rfl, rfl, sz0, es0, by rw [hX r hc.1]; exact h1, h2, rfl⟩⟩
          · have : s = sz ∧ (lo = 0 ∨ 0 < k) ∧ r ∉ hand ∧ ∃ l, nodeIn rt r p = some (sz, l) ∧ lo + k ≤ l.length ∧ es = (l.drop lo).take k := by
              cases m <;> first | exact hsx | exact (hm rfl).elim | exact (hio rfl).elim
            obtain ⟨rfl, h1, h2, l, h3, h4, h5⟩ := this
            refine .inr ⟨r, p, lo, k, rfl, hw, .inl ⟨?_, h1, fun hh => h2 (hE r hh hc.1), l, ?_, h4, h5⟩⟩
            · cases m <;> first | exact .inl rfl | exact .inr rfl | exact (hm rfl).elim | exact (hio rfl).elim
            · unfold nodeIn at h3 ⊢; rw [hX r hc.1]; exact h3
        | lf v => cases m <;> first | exact hsx.elim | exact (hm rfl).elim
        | un => cases m <;> first | exact hsx.elim | exact (hm rfl).elim
        | pe r p i c => cases m <;> first | exact hsx.elim | exact (hm rfl).elim
        | pb r c => cases m <;> first | exact hsx.elim | exact (hm rfl).elim
end
end Go.Vs
