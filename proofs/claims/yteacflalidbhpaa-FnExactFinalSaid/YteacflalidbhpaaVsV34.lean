import Derived.Test.YteacflalidbhpaaVsV33
set_option linter.unusedVariables false
set_option linter.unusedSimpArgs false
namespace Go.Vs
set_option linter.unusedVariables false
set_option linter.unusedSimpArgs false

/-! ## a function's way in and out -/
def env0 : Nat → List V → List (Nat × V)
  | _, [] => []
  | i, v :: l => (i, v) :: env0 (i + 1) l
theorem env0_get : ∀ {l : List V} {i t : Nat} {x : V}, get (env0 i l) t = some x → i ≤ t ∧ l[t - i]? = some x
  | [], _, _, _, h => by simp [env0, get] at h
  | v :: l, i, t, x, h => by
    simp only [env0, get] at h
    split at h
    · rename_i e; subst e; simp only [Option.some.injEq] at h; subst h; exact ⟨Nat.le_refl _, by simp⟩
    · obtain ⟨h1, h2⟩ := env0_get h
      refine ⟨by omega, ?_⟩
      rw [show t - i = (t - (i + 1)) + 1 by omega, List.getElem?_cons_succ]
      exact h2
def trRes (P : Program) : List ResultVar → Option (List I)
  | [] => some []
  | .tmp t :: l => (trRes P l).map (.mv (.t t) :: ·)
  | .cell a t :: l => do some (.load (← partSize P t) (.t a) :: (← trRes P l))
def resK (S : St) : List I → (List A → Prop) → Prop
  | [], K => K []
  | i :: l, K => ev S (fun v => match v with | .a x => resK S l fun xs => K (x :: xs) | _ => False) i
theorem compsV_resV (xs : List A) : compsV (resV xs) = some xs := by
  match xs with
  | [] => rfl
  | [x] => rfl
  | x :: y :: l => rfl

variable {P : Program} {N : Nat} {w0 : World} {own0 : Nat → Nat → Prop} {pl0 : Pls} {g : Lab} {pl : Pls} {S : St} {a : Act} {w : World}
def resF (tmps : Array Value) : ResultVar → Sem Value
  | .tmp t => pure (tmps.getD t undef)
  | .cell a t => do loadVar t (← asAddr (tmps.getD a undef))
theorem results_eq (fn : Func) (tmps : Array Value) : results fn tmps = (do
    let vs ← fn.results.mapM (resF tmps)
    pure (if h : vs.size = 1 then vs[0] else .tuple vs)) := by
  unfold results
  congr 1
theorem mapM_ok {f : ResultVar → Sem Value} {x : ResultVar} {l : List ResultVar} {v : Value} {vs : List Value} (h1 : (f x).run P w = .ok v w) (h2 : (l.mapM f).run P w = .ok vs w) : ((x :: l).mapM f).run P w = .ok (v :: vs) w := by
  rw [List.mapM_cons]
  simp [h1, h2]
theorem res_run (hR : Rel N w0 own0 pl0 g pl S a w) : ∀ (l : List ResultVar) (is : List I) (K : List A → Prop), trRes P l = some is → resK S is K →
    ∃ vs xs, (l.mapM (resF a.tmps)).run P w = .ok vs w ∧ All2 (AR pl S.next) xs vs ∧ K xs
  | [], is, K, ht, h => by
    simp only [trRes, Option.some.injEq] at ht; subst ht
    exact ⟨[], [], by simp, trivial, h⟩
  | .tmp t :: l, is, K, ht, h => by
    simp only [trRes, Option.map_eq_some_iff] at ht
    obtain ⟨is', ht', rfl⟩ := ht
    simp only [resK, ev] at h
    cases hx : S.opd (.t t) with
    | a x =>
      rw [hx] at h
      simp only at h
      obtain ⟨vs, xs, h1, h2, h3⟩ := res_run hR l is' _ ht' h
      have hv := opd_ok hR (P := P) (ty := 0) (x := .tmp t) (y := .t t) rfl
      rw [hx] at hv
      exact ⟨a.tmps.getD t undef :: vs, x :: xs, mapM_ok rfl h1, ⟨hv, h2⟩, h3⟩
    | un => rw [hx] at h; exact h.elim
    | tp xs => rw [hx] at h; exact h.elim
    | fn f cs => rw [hx] at h; exact h.elim
  | .cell x t :: l, is, K, ht, h => by
    simp only [trRes, Option.bind_eq_bind, Option.bind_eq_some_iff, Option.some.injEq] at ht
    obtain ⟨n, hn, is', ht', rfl⟩ := ht
    simp only [resK] at h
    obtain ⟨v, y, hr, hy, hK⟩ := ev_ok hR (P := P) (o := ⟨none, .load t (.tmp x), 0, "", #[], none⟩) (i := .load n (.t x)) (by simp [trR, hn, trO]) h
    cases y with
    | a y =>
      simp only at hK
      obtain ⟨vs, xs, h1, h2, h3⟩ := res_run hR l is' _ ht' hK
      refine ⟨v :: vs, y :: xs, mapM_ok ?_ h1, ⟨hy, h2⟩, h3⟩
      have hr1 : (do pure (.value (← Instr.loadAt t (a.tmps.getD x undef))) : Sem Go.Next).run P w = .ok (.value v) w := hr
      have hptr : ∃ ad, a.tmps.getD x undef = .pointer (some ad) := by
        have hv := opd_ok hR (P := P) (ty := 0) (x := .tmp x) (y := .t x) rfl
        have hv' : VR pl S.next (S.opd (.t x)) (a.tmps.getD x undef) := hv
        cases n with
        | none =>
          simp only [ev] at h
          split at h
          · rename_i he; rw [he] at hv'; exact ⟨_, hv'.2.2⟩
          · rename_i he; rw [he] at hv'; exact ⟨_, hv'.2⟩
          · exact h.elim
        | some m =>
          simp only [ev] at h
          split at h
          · rename_i he; rw [he] at hv'; exact ⟨_, hv'.2.2⟩
          · rename_i he; rw [he] at hv'; exact ⟨_, hv'.2⟩
          · exact h.elim
      obtain ⟨ad, had⟩ := hptr
      rw [had] at hr1
      show (do loadVar t (← asAddr (a.tmps.getD x undef)) : Sem Value).run P w = .ok v w
      rw [had]
      simp only [Instr.loadAt, Instr.sureAddr, asAddr, Sem.run_bind, Sem.run_pure] at hr1 ⊢
      cases hl : (loadVar t ad).run P w with
      | ok u w' =>
        simp [hl] at hr1 ⊢
        exact hr1
      | halt e w' => simp [hl] at hr1
    | un => exact hK.elim
    | tp xs => exact hK.elim
    | fn f cs => exact hK.elim
/-- A function, its code being walked. -/
theorem runs_of_vw {f : FuncId} {fn : Func} {c : Code} {as : List Arg} {out : Out} {is : List I} (hf : P.funcs[f]? = some fn) (hb : fn.body = some c) (hi : trRes P fn.results.toList = some is) (hn : as.length ≤ fn.ntmps)
    (h : Vw P fn.ntmps c ⟨env0 0 (inAs as).1, (inAs as).2.1, (inAs as).2.2, fixN as⟩ fun e S' => match e with
      | .ret | .normal => resK S' is fun xs => Leaves as out S'.roots (resV xs)
      | _ => False) : Runs P f as out := by
  intro w own g pl vs hp hv
  have hlen : ∀ (as : List Arg) (cs : List C) (b : Nat), (inV as cs b).length = as.length := by
    intro as
    induction as with
    | nil => intro cs b; rfl
    | cons x as ih => intro cs b; cases x with
      | val ag l => cases ag <;> simp [inV, ih]
      | ptr l => simp [inV, ih]
  have hvl : vs.length = as.length := by rw [← hv.length]; exact hlen _ _ _
  refine calls_of_wp hf hb ?_
  refine wp_mono (h w own pl g pl _ w ⟨hp, ?_, rfl, ?_⟩) ?_
  · simp; omega
  · intro t x hx
    obtain ⟨_, h1⟩ := env0_get hx
    rw [Nat.sub_zero] at h1
    obtain ⟨v, h2, h3⟩ := hv.get t x h1
    have ht : t < vs.length := (List.getElem?_eq_some_iff.1 h2).1
    have : (vs.toArray ++ Array.replicate (fn.ntmps - vs.toArray.size) undef).getD t undef = v := by
      rw [Array.getD_eq_getD_getElem?, Array.getElem?_append_left (by simpa using ht)]
      simp [h2]
    rw [this]
    exact h3
  · rintro e a' w' ⟨S', g', pl', q, hfx, hR⟩
    have fin : resK S' is (fun xs => Leaves as out S'.roots (resV xs)) → a'.defers = [] ∧ ∃ v, (results fn a'.tmps).run P w' = .ok v w' ∧ ∃ rv g' pl' roots nx res, Ending.returned v = .returned rv ∧ Hp w own pl g' pl' roots nx nx (fixN as) w' ∧ VR pl' nx res rv ∧ Leaves as out roots res := by
      intro hk
      obtain ⟨us, xs, h1, h2, h3⟩ := res_run hR _ _ _ hi hk
      have hp' := hR.hp
      rw [hfx] at hp'
      refine ⟨hR.defers, if h : us.toArray.size = 1 then us.toArray[0] else .tuple us.toArray, ?_, _, g', pl', S'.roots, S'.next, resV xs, rfl, hp', ?_, h3⟩
      · rw [results_eq]
        rw [Array.mapM_eq_mapM_toList]
        simp [h1]
      · match xs, us, h2 with
        | [], [], _ => exact ⟨[], rfl, trivial⟩
        | [x], [u], h2 => exact h2.1
        | x :: y :: l, u :: u' :: us, h2 => exact ⟨u :: u' :: us, by simp, h2⟩
        | [_], _ :: _ :: _, h2 => exact h2.2.elim
        | _ :: _ :: _, [_], h2 => exact h2.2.elim
    cases e with
    | normal => exact fin q
    | ret => exact fin q
    | exit id => exact q.elim
    | goto l => exact q.elim
    | panic ch => exact q.elim
    | outgrown => exact q.elim
end Go.Vs
