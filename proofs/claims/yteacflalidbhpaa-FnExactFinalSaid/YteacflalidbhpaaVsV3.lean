import Derived.Test.YteacflalidbhpaaVsV2
import Derived.Laws.Small
set_option linter.unusedVariables false
set_option linter.unusedSimpArgs false
namespace Go.Vs
set_option linter.unusedVariables false
set_option linter.unusedSimpArgs false
variable {P : Program} {N : Nat} {w0 : World} {own0 : Nat → Nat → Prop} {pl0 : Pls} {g : Lab} {pl : Pls} {S : St} {a : Act} {w : World} {K : V → Prop}

/-- An operation that writes nothing, done. -/
def Done (P : Program) (pl : Pls) (nx : Nat) (K : V → Prop) (s : Sem Value) (w : World) : Prop := ∃ v x, s.run P w = .ok v w ∧ VR pl nx x v ∧ K x

theorem doneC {nx : Nat} {s : Sem Value} {x : C} {v : Value} (hK : K (.a (.c x))) (hr : s.run P w = .ok v w) (hc : CR pl nx x v) : Done P pl nx K s w := ⟨v, .a (.c x), hr, hc, hK⟩
theorem doneAg {nx : Nat} {s : Sem Value} {cs : List C} {vs : List Value} (hK : K (.a (.ag cs))) (hr : s.run P w = .ok (.agg vs.toArray) w) (hc : All2 (CR pl nx) cs vs) : Done P pl nx K s w := ⟨_, .a (.ag cs), hr, ⟨vs, rfl, hc⟩, hK⟩
theorem c_of {nx : Nat} {x : C} {v : Value} (h : VR pl nx (.a (.c x)) v) : CR pl nx x v := h

theorem done_load (hR : Rel N w0 own0 pl0 g pl S a w) {t : TypeId} {x : Operand} {ty : TypeId} {i : I} (ht : trR P ty (.load t x) = some i) (h : ev S K i) :
    Done P pl S.next K (Instr.loadAt t (a.eval x)) w := by
  simp only [trR, partSize, Option.bind_eq_bind, Option.bind_eq_some_iff, Option.some.injEq] at ht
  obtain ⟨sz, ⟨d, hd, j, hj, rfl⟩, y, hy, rfl⟩ := ht
  have ho := opd_ok hR hy
  by_cases hag : aggD d = true
  · simp only [hag, if_true] at h
    have hA : ∀ A : Addr, Instr.loadAt t (.pointer (some A)) = (do pure (.agg (← loadCells A (← sizeOf t))) : Sem Value) ∨ True := fun _ => .inr trivial
    have hrun : ∀ (A : Addr) (vs : List Value), vs.length = j.size → (∀ k v, vs[k]? = some v → w.cell? (A.add k) = some v) →
        (Instr.loadAt t (.pointer (some A))).run P w = .ok (.agg vs.toArray) w := by
      intro A vs hl hc
      have h1 := run_loadCells_list (P := P) w A vs hc
      have : (isAgg t).run P w = .ok true w := by
        simp only [isAgg, Sem.run_bind, run_underlying hd, Result.andThen]
        cases d <;> simp_all [aggD]
      rw [hl] at h1
      simp [Instr.loadAt, Instr.sureAddr, loadVar, this, sizeOf, typeInfo, hj, h1]
    simp only [ev] at h
    split at h
    · rename_i r p i c he
      rw [he] at ho
      obtain ⟨hr, hnil, hv⟩ := c_of ho
      obtain ⟨e, hE, hle, hK⟩ := h
      rw [node_eq] at hE
      simp only [Option.bind_eq_some_iff] at hE
      obtain ⟨n, hn, he⟩ := hE
      obtain ⟨vs, hl, hvs, hall⟩ := hR.hp.cellsFrom hn he ((e.drop c).take j.size) c (get_drop_take rfl)
      refine doneAg hK ?_ hall
      rw [hv]
      refine hrun _ vs (by rw [hl]; simp; omega) fun k v hk => ?_
      have := hvs k v hk
      rw [Addr.add_lit]; rwa [Nat.add_assoc, Nat.add_assoc]
    · rename_i r c he
      rw [he] at ho
      obtain ⟨hr, hv⟩ := c_of ho
      obtain ⟨cs, hcs, hle, hK⟩ := h
      obtain ⟨vs, hl, hvs, hall⟩ := hR.hp.boxFrom (r := r) (cs := cs) hcs ((cs.drop c).take j.size) c (get_drop_take rfl)
      refine doneAg hK ?_ hall
      rw [hv]
      refine hrun _ vs (by rw [hl]; simp; omega) fun k v hk => ?_
      have := hvs k v hk
      rw [Addr.add_lit]; rwa [Nat.add_assoc]
    · exact h.elim
  · simp only [hag] at h
    have hrun : ∀ (A : Addr) (v : Value), w.cell? A = some v → (Instr.loadAt t (.pointer (some A))).run P w = .ok v w := by
      intro A v hc
      have : (isAgg t).run P w = .ok false w := by
        simp only [isAgg, Sem.run_bind, run_underlying hd, Result.andThen]
        cases d <;> simp_all [aggD]
      simp [Instr.loadAt, Instr.sureAddr, loadVar, this, hc]
    simp only [Bool.false_eq_true, if_false, ev] at h
    split at h
    · rename_i r p i c he
      rw [he] at ho
      obtain ⟨hr, hnil, hv⟩ := c_of ho
      obtain ⟨d, hE, hK⟩ := h
      rw [node_eq] at hE
      simp only [Option.bind_eq_some_iff] at hE
      obtain ⟨n, hn, e, he, hd'⟩ := hE
      obtain ⟨v, hcell, hcr⟩ := hR.hp.cell hn he hd'
      exact doneC hK (by rw [hv]; exact hrun _ _ hcell) hcr
    · rename_i r c he
      rw [he] at ho
      obtain ⟨hr, hv⟩ := c_of ho
      obtain ⟨y, hE, hK⟩ := h
      simp only [Option.bind_eq_some_iff] at hE
      obtain ⟨cs, hcs, hy⟩ := hE
      obtain ⟨v, hcell, hcr⟩ := hR.hp.box (r := r) hcs hy
      exact doneC hK (by rw [hv]; exact hrun _ _ hcell) hcr
    · exact h.elim

theorem done_bin (hR : Rel N w0 own0 pl0 g pl S a w) {op : BinOp} {t t' : TypeId} {x y : Operand} {ty : TypeId} {i : I} (ht : trR P ty (.binOp op t x y t') = some i) (h : ev S K i) :
    Done P pl S.next K (do eqGuard op t x y (a.eval x) (a.eval y); binOp op t (a.eval x) (a.eval y)) w := by
  simp only [trR] at ht
  split at ht
  · rename_i hu
    simp only [Option.bind_eq_bind, Option.bind_eq_some_iff, Option.some.injEq] at ht
    obtain ⟨x', hx, y', hy, rfl⟩ := ht
    have h1 := opd_ok hR hx
    have h2 := opd_ok hR hy
    simp only [ev] at h
    split at h
    · rename_i u v he hf
      rw [he] at h1; rw [hf] at h2
      obtain ⟨rfl', _⟩ := c_of h1
      obtain ⟨rfl'', _⟩ := c_of h2
      rw [rfl', rfl'']
      exact doneC h (by simp [eqGuard, binOp, run_equal_bool w t u v hu]) ⟨rfl, rfl⟩
    · exact h.elim
  · rename_i hu
    simp only [Option.bind_eq_bind, Option.bind_eq_some_iff, Option.some.injEq] at ht
    obtain ⟨x', hx, y', hy, rfl⟩ := ht
    have h1 := opd_ok hR hx
    have h2 := opd_ok hR hy
    simp only [ev] at h
    split at h
    · rename_i u v he hf
      rw [he] at h1; rw [hf] at h2
      obtain ⟨rfl', _⟩ := c_of h1
      obtain ⟨rfl'', _⟩ := c_of h2
      rw [rfl', rfl'']
      exact doneC h (by simp [eqGuard, binOp, run_equal_bool w t u v hu, bne]) ⟨rfl, rfl⟩
    · exact h.elim
  simp only [Option.bind_eq_bind, Option.bind_eq_some_iff, Option.some.injEq] at ht
  obtain ⟨x', hx, y', hy, rfl⟩ := ht
  have h1 := opd_ok hR hx
  have h2 := opd_ok hR hy
  simp only [ev] at h
  split at h
  · rename_i u v he hf
    rw [he] at h1; rw [hf] at h2
    obtain ⟨rfl', _⟩ := c_of h1
    obtain ⟨rfl'', _⟩ := c_of h2
    obtain ⟨r, hr, hK⟩ := h
    rw [rfl', rfl'']
    refine doneC hK (leafBin_ok hr w) ⟨rfl, ?_⟩
    unfold leafBin at hr
    split at hr <;> first
      | (simp at hr; done)
      | (simp only [Option.some.injEq] at hr; subst hr; rfl)
      | (split at hr
         · simp only [Option.some.injEq] at hr; subst hr; rfl
         · simp at hr)
  · exact h.elim
theorem done_un (hR : Rel N w0 own0 pl0 g pl S a w) {op : UnOp} {t : TypeId} {x : Operand} {ty : TypeId} {i : I} (ht : trR P ty (.unOp op t x) = some i) (h : ev S K i) :
    Done P pl S.next K (Op.unary op (a.eval x)) w := by
  simp only [trR, Option.map_eq_some_iff] at ht
  obtain ⟨x', hx, rfl⟩ := ht
  have h1 := opd_ok hR hx
  simp only [ev] at h
  split at h
  · rename_i u he
    rw [he] at h1
    obtain ⟨e1, _⟩ := c_of h1
    obtain ⟨r, hr, hK⟩ := h
    rw [e1]
    unfold leafUn at hr
    split at hr
    · simp only [Option.some.injEq] at hr; subst hr
      exact doneC hK (by simp [Op.unary]) ⟨rfl, rfl⟩
    · simp only [Option.some.injEq] at hr; subst hr
      exact doneC hK (v := .int _ _) (by simp only [Op.unary, Op.intArith]; rfl) ⟨rfl, rfl⟩
    · simp at hr
  · exact h.elim
theorem done_mv (hR : Rel N w0 own0 pl0 g pl S a w) {x : Operand} {y : Opd} {tx : TypeId} (hx : trO P tx x = some y) (h : ev S K (.mv y)) :
    Done P pl S.next K (pure (a.eval x)) w := ⟨_, _, rfl, opd_ok hR hx, h⟩
theorem done_pick (hR : Rel N w0 own0 pl0 g pl S a w) {c x y : Operand} {ty : TypeId} {i : I} (ht : trR P ty (.pick c x y) = some i) (h : ev S K i) :
    Done P pl S.next K (do pure (if ← asBool (a.eval c) then a.eval x else a.eval y)) w := by
  simp only [trR, Option.bind_eq_bind, Option.bind_eq_some_iff, Option.some.injEq] at ht
  obtain ⟨c', hc, x', hx, y', hy, rfl⟩ := ht
  have h0 := opd_ok hR hc
  simp only [ev] at h
  split at h
  · rename_i t he
    rw [he] at h0
    obtain ⟨e1, _⟩ := c_of h0
    rw [e1]
    cases t with
    | true => exact ⟨_, _, by simp [asBool], opd_ok hR hx, h.1 rfl⟩
    | false => exact ⟨_, _, by simp [asBool], opd_ok hR hy, h.2 rfl⟩
  · exact h.elim
theorem done_field (hR : Rel N w0 own0 pl0 g pl S a w) {t : TypeId} {x : Operand} {f : Nat} {ty : TypeId} {i : I} (ht : trR P ty (.field t x f) = some i) (h : ev S K i) :
    Done P pl S.next K (Instr.field t (a.eval x) f) w := by
  simp only [trR] at ht
  split at ht
  · rename_i fs hfs
    simp only [partSize, Option.bind_eq_bind, Option.bind_eq_some_iff, Option.some.injEq] at ht
    obtain ⟨fd, hfd, sz, ⟨d, hd, j, hj, rfl⟩, y, hy, rfl⟩ := ht
    have ho := opd_ok hR hy
    by_cases hag : aggD d = true
    · simp only [hag, if_true, ev] at h
      split at h
      · rename_i cs he
        rw [he] at ho
        obtain ⟨vs, hv, hall⟩ := ho
        obtain ⟨hle, hK⟩ := h
        have hisa : (isAgg fd.type).run P w = .ok true w := by
          simp only [isAgg, Sem.run_bind, run_underlying hd, Result.andThen]
          cases d <;> simp_all [aggD]
        have hl := hall.length
        refine doneAg (vs := (vs.drop fd.offset).take j.size) hK ?_ ?_
        · rw [hv]
          simp [Instr.field, run_underlying hfs, hfd, asAgg, part, hisa, sizeOf, typeInfo, hj]
        · refine All2.of_get (by simp [hl]) fun k x u hx hu => ?_
          have hx' := get_drop_take rfl k x hx
          have hu' := get_drop_take rfl k u hu
          obtain ⟨u', e1, e2⟩ := hall.get _ _ hx'
          rw [hu'] at e1; simp only [Option.some.injEq] at e1; subst e1; exact e2
      · exact h.elim
    · simp only [hag, Bool.false_eq_true, if_false, ev] at h
      split at h
      · rename_i cs he
        rw [he] at ho
        obtain ⟨vs, hv, hall⟩ := ho
        obtain ⟨z, hz, hK⟩ := h
        have hisa : (isAgg fd.type).run P w = .ok false w := by
          simp only [isAgg, Sem.run_bind, run_underlying hd, Result.andThen]
          cases d <;> simp_all [aggD]
        obtain ⟨u, hu, hc⟩ := hall.get _ _ hz
        refine doneC hK (v := u) ?_ hc
        rw [hv]
        simp [Instr.field, run_underlying hfs, hfd, asAgg, part, hisa, hu]
      · exact h.elim
  · simp at ht
theorem done_fad (hR : Rel N w0 own0 pl0 g pl S a w) {t : TypeId} {x : Operand} {f : Nat} {ty : TypeId} {i : I} (ht : trR P ty (.fieldAddr t x f) = some i) (h : ev S K i) :
    Done P pl S.next K (Instr.fieldAt t (a.eval x) f) w := by
  simp only [trR] at ht
  split at ht
  · rename_i fs hfs
    simp only [Option.bind_eq_bind, Option.bind_eq_some_iff] at ht
    obtain ⟨fd, hfd, j, hj, ht⟩ := ht
    split at ht
    · simp at ht
    · rename_i hz
      simp only [Option.bind_eq_some_iff, Option.some.injEq] at ht
      obtain ⟨y, hy, rfl⟩ := ht
      have ho := opd_ok hR hy
      have hrun : ∀ A : Addr, (Instr.fieldAt t (.pointer (some A)) f).run P w = .ok (.pointer (some (A.add fd.offset))) w := by
        intro A
        simp [Instr.fieldAt, run_underlying hfs, hfd, Instr.sureAddr, fieldPlace, sizeOf, typeInfo, hj, hz]
      simp only [ev] at h
      split at h
      · rename_i r p i c he
        rw [he] at ho
        obtain ⟨hr, hnil, hv⟩ := c_of ho
        exact doneC h (by rw [hv]; exact hrun _) ⟨hr, hnil, by rw [Addr.add_lit]; simp [Nat.add_assoc]⟩
      · rename_i r c he
        rw [he] at ho
        obtain ⟨hr, hv⟩ := c_of ho
        exact doneC h (by rw [hv]; exact hrun _) ⟨hr, by rw [Addr.add_lit]; simp [Nat.add_assoc]⟩
      · exact h.elim
  · simp at ht
theorem done_nilc (hR : Rel N w0 own0 pl0 g pl S a w) {x : Operand} {y : Opd} {tx : TypeId} (hx : trO P tx x = some y) (h : ev S K (.nilc y)) :
    ∃ A, a.eval x = .pointer (some A) ∧ ∃ z, VR pl S.next z (a.eval x) ∧ K z := by
  have ho := opd_ok hR hx
  simp only [ev] at h
  split at h
  · rename_i r p i c he
    rw [he] at ho
    exact ⟨_, (c_of ho).2.2, _, ho, h⟩
  · rename_i r c he
    rw [he] at ho
    exact ⟨_, (c_of ho).2, _, ho, h⟩
  · exact h.elim
end Go.Vs
