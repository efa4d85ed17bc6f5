import Derived.Test.YteacflalidbhpaaVsV27
import Derived.Deep.LoopGhost
import Derived.Orders
set_option linter.unusedVariables false
set_option linter.unusedSimpArgs false
namespace Go.Vs
set_option linter.unusedVariables false
set_option linter.unusedSimpArgs false

theorem get_killEnv : ∀ (ks : List (Nat × Path)) (env : List (Nat × V)) (t : Nat), get (killEnv ks env) t = (get env t).map (V.map (killCs ks)) := by
  have A_id : ∀ x : A, A.map (fun c => c) x = x := by intro x; cases x <;> simp [A.map]
  have V_id : ∀ x : V, V.map (fun c => c) x = x := by
    intro x
    cases x <;> simp [V.map, A_id]
    rename_i xs
    induction xs with
    | nil => rfl
    | cons a xs ih => simp [A_id, ih]
  have A_comp : ∀ (k1 k2 : C → C) (x : A), A.map k2 (A.map k1 x) = A.map (fun c => k2 (k1 c)) x := by intro k1 k2 x; cases x <;> simp [A.map]
  have V_comp : ∀ (k1 k2 : C → C) (x : V), V.map k2 (V.map k1 x) = V.map (fun c => k2 (k1 c)) x := by
    intro k1 k2 x
    cases x <;> simp [V.map, A_comp]
  have hmap : ∀ (k : V → V) (env : List (Nat × V)) (t : Nat), get (env.map fun x => (x.1, k x.2)) t = (get env t).map k := by
    intro k env t
    induction env with
    | nil => rfl
    | cons a env ih =>
      obtain ⟨i, x⟩ := a
      simp only [List.map_cons, get]
      split
      · rfl
      · exact ih
  intro ks
  induction ks with
  | nil =>
    intro env t
    have : V.map (killCs []) = fun x => x := by funext x; exact V_id x
    rw [this]
    cases hq : get env t <;> simp [killEnv, hq]
  | cons k ks ih =>
    intro env t
    simp only [killEnv]
    rw [ih, hmap]
    cases get env t with
    | none => rfl
    | some x => simp only [Option.map_some, V_comp]; rfl
theorem AR.killed {pl pl' : Pls} {nx nx' : Nat} {k : C → C} (h : ∀ z u, CR pl nx z u → CR pl' nx' (k z) u) {x : A} {v : Value} (hx : AR pl nx x v) : AR pl' nx' (x.map k) v := by
  have all : ∀ {cs : List C} {us : List Value}, All2 (CR pl nx) cs us → All2 (CR pl' nx') (cs.map k) us := by
    intro cs
    induction cs with
    | nil => intro us h; cases us <;> exact h
    | cons c cs ih => intro us hh; cases us with
      | nil => exact hh.elim
      | cons u us => exact ⟨h _ _ hh.1, ih hh.2⟩
  cases x with
  | c c => exact h _ _ hx
  | ag cs => obtain ⟨us, rfl, hu⟩ := hx; exact ⟨us, rfl, all hu⟩
theorem VR.killed {pl pl' : Pls} {nx nx' : Nat} {k : C → C} (h : ∀ z u, CR pl nx z u → CR pl' nx' (k z) u) {x : V} {v : Value} (hx : VR pl nx x v) : VR pl' nx' (x.map k) v := by
  have all : ∀ {cs : List C} {us : List Value}, All2 (CR pl nx) cs us → All2 (CR pl' nx') (cs.map k) us := by
    intro cs
    induction cs with
    | nil => intro us h; cases us <;> exact h
    | cons c cs ih => intro us hh; cases us with
      | nil => exact hh.elim
      | cons u us => exact ⟨h _ _ hh.1, ih hh.2⟩
  have all' : ∀ {cs : List A} {us : List Value}, All2 (AR pl nx) cs us → All2 (AR pl' nx') (cs.map (A.map k)) us := by
    intro cs
    induction cs with
    | nil => intro us h; cases us <;> exact h
    | cons c cs ih => intro us hh; cases us with
      | nil => exact hh.elim
      | cons u us => exact ⟨AR.killed h hh.1, ih hh.2⟩
  cases x with
  | un => trivial
  | a x => exact AR.killed h hx
  | tp xs => obtain ⟨us, rfl, hu⟩ := hx; exact ⟨us, rfl, all' hu⟩
  | fn f cs => obtain ⟨us, rfl, hu⟩ := hx; exact ⟨us, rfl, all hu⟩

def setEnv (d : Option Nat) (x : V) (env : List (Nat × V)) : List (Nat × V) :=
  match d with
  | some d => put env d x
  | none => env
/-- What an operation gives. -/
def evJ (P : Program) (S : St) (K : V → List (Nat × Path) → List (Nat × Root) → Nat → Prop) : J → Prop
  | .rd i => ev S (fun v => K v [] S.roots S.next) i
  | .wr (.call f args) => callOk P S f (args.map S.opd) K
  | .wr j => wr S K j
def stepO (P : Program) (g : GI) (S : St) (K : St → Prop) : Prop :=
  match g.guard with
  | none => evJ P S (fun x ks roots nx => K ⟨setEnv g.dst x (killEnv ks S.env), roots, nx, S.fix⟩) g.op
  | some (t, want) => match get S.env t with
    | some (.a (.c (.lf (.bool b)))) => (b = want → evJ P S (fun x ks roots nx => K ⟨setEnv g.dst x (killEnv ks S.env), roots, nx, S.fix⟩) g.op) ∧ (b ≠ want → K ⟨setEnv g.dst (.tp []) S.env, S.roots, S.next, S.fix⟩)
    | some (.tp _) => K ⟨setEnv g.dst (.tp []) S.env, S.roots, S.next, S.fix⟩
    | _ => False
def runOs (P : Program) : List GI → St → (St → Prop) → Prop
  | [], S, K => K S
  | g :: l, S, K => stepO P g S fun S' => runOs P l S' K

def trJ (P : Program) (o : Oper) : Option J :=
  match trR P o.type o.op with
  | some i => some (.rd i)
  | none => (trW P o.op).map .wr
def trOper (P : Program) (N : Nat) (ops : Array Oper) (o : Oper) : Option GI := do
  let j ← trJ P o
  if o.dst.all (· < N) then
    match o.guard with
    | none => some ⟨o.dst, j, none⟩
    | some (k, want) =>
      let t ← (ops[k]?).bind (·.dst)
      some ⟨o.dst, j, some (t, want)⟩
  else none
def trOpers (P : Program) (N : Nat) (ops : Array Oper) : List Oper → Option (List GI)
  | [] => some []
  | o :: l => do some ((← trOper P N ops o) :: (← trOpers P N ops l))

variable {P : Program} {N : Nat} {w0 : World} {own0 : Nat → Nat → Prop} {pl0 : Pls} {g : Lab} {pl : Pls} {S : St} {a : Act} {w : World}

theorem Rel.put (hR : Rel N w0 own0 pl0 g pl S a w) {pl' : Pls} {g' : Lab} {roots : List (Nat × Root)} {nx : Nat} {w' : World} {ks : List (Nat × Path)} {d : Option Nat} {x : V} {v : Value} (hd : d.all (· < N) = true) (hp : Hp w0 own0 pl0 g' pl' roots nx nx S.fix w')
    (hk : ∀ z u, CR pl S.next z u → CR pl' nx (killCs ks z) u) (hx : VR pl' nx x v) : Rel N w0 own0 pl0 g' pl' ⟨setEnv d x (killEnv ks S.env), roots, nx, S.fix⟩ (a.put d v) w' := by
  have henv : ∀ t y, get (killEnv ks S.env) t = some y → VR pl' nx y (a.tmps.getD t undef) := by
    intro t y hy
    rw [get_killEnv] at hy
    simp only [Option.map_eq_some_iff] at hy
    obtain ⟨z, hz, rfl⟩ := hy
    exact (hR.env t z hz).killed hk
  cases d with
  | none => exact ⟨hp, hR.size, hR.defers, henv⟩
  | some d =>
    simp only [Option.all_some, decide_eq_true_eq] at hd
    refine ⟨hp, ?_, hR.defers, ?_⟩
    · simp [Act.put, hR.size]
    · intro t y hy
      simp only [setEnv] at hy
      rw [get_put] at hy
      simp only [Act.put]
      split at hy
      · rename_i e; subst e
        simp only [Option.some.injEq] at hy; subst hy
        rw [Array.getD_eq_getD_getElem?, Array.getElem?_setIfInBounds_self_of_lt (by rw [hR.size]; exact hd)]
        exact hx
      · rename_i e
        rw [Array.getD_eq_getD_getElem?, Array.getElem?_setIfInBounds_ne e, ← Array.getD_eq_getD_getElem?]
        exact henv t y hy
theorem trOs_ok (hR : Rel N w0 own0 pl0 g pl S a w) : ∀ (tys : List TypeId) (l : List Operand) (xs : List Opd), trOs P tys l = some xs → All2 (VR pl S.next) (xs.map S.opd) (l.map a.eval)
  | [], [], xs, h => by simp only [trOs, Option.some.injEq] at h; subst h; trivial
  | _ :: _, [], xs, h => by simp only [trOs, Option.some.injEq] at h; subst h; trivial
  | [], x :: l, xs, h => by
    simp only [trOs, Option.bind_eq_bind, Option.bind_eq_some_iff, Option.some.injEq] at h
    obtain ⟨y, hy, ys, hys, rfl⟩ := h
    exact ⟨opd_ok hR hy, trOs_ok hR [] l ys hys⟩
  | t :: ts, x :: l, xs, h => by
    simp only [trOs, Option.bind_eq_bind, Option.bind_eq_some_iff, Option.some.injEq] at h
    obtain ⟨y, hy, ys, hys, rfl⟩ := h
    exact ⟨opd_ok hR hy, trOs_ok hR ts l ys hys⟩
theorem put_dst {a : Act} {d : Option Nat} {v : Value} : a.put d v = a.put d v := rfl

/-- What a step of a region hands on. -/
def Next (N : Nat) (w0 : World) (own0 : Nat → Nat → Prop) (pl0 : Pls) (fx : Nat) (K : St → Prop) (next : Act → World → Prop) : Prop :=
  ∀ S' g' pl' a' w', S'.fix = fx → K S' → Rel N w0 own0 pl0 g' pl' S' a' w' → next a' w'
theorem upon_wrote {o : Oper} {s : Sem Value} {next : Act → World → Prop} {Q : Exit → Act → World → Prop} {K : V → List (Nat × Path) → List (Nat × Root) → Nat → Prop} (he : (execOp a.eval o) = do pure (.value (← s))) (hw : Wrote P w0 own0 pl0 pl S K s w)
    (hn : ∀ v w' x ks roots nx g' pl', VR pl' nx x v → Hp w0 own0 pl0 g' pl' roots nx nx S.fix w' → (∀ z u, CR pl S.next z u → CR pl' nx (killCs ks z) u) → K x ks roots nx → next (a.put o.dst v) w') : o.wp P a w next Q := by
  obtain ⟨v, w', x, ks, roots, nx, g', pl', hr, hx, hp, hk, hK⟩ := hw
  unfold Oper.wp
  rw [he]
  simp only [Sem.run_bind, hr]
  exact hn v w' x ks roots nx g' pl' hx hp hk hK
theorem opJ_ok (hR : Rel N w0 own0 pl0 g pl S a w) {o : Oper} {j : J} (ht : trJ P o = some j) {K : V → List (Nat × Path) → List (Nat × Root) → Nat → Prop} (h : evJ P S K j) {next : Act → World → Prop} {Q : Exit → Act → World → Prop}
    (hn : ∀ v w' x ks roots nx g' pl', VR pl' nx x v → Hp w0 own0 pl0 g' pl' roots nx nx S.fix w' → (∀ z u, CR pl S.next z u → CR pl' nx (killCs ks z) u) → K x ks roots nx → next (a.put o.dst v) w') :
    o.wp P a w next Q := by
  unfold trJ at ht
  split at ht
  · rename_i i hi
    simp only [Option.some.injEq] at ht; subst ht
    obtain ⟨v, x, hr, hx, hK⟩ := ev_ok (K := fun v => K v [] S.roots S.next) hR hi h
    unfold Oper.wp
    rw [hr]
    exact hn v w x [] S.roots S.next g pl hx hR.hp (fun _ _ h => h) hK
  · simp only [Option.map_eq_some_iff] at ht
    obtain ⟨j', hj, rfl⟩ := ht
    obtain ⟨dst, op, ty, pos, after, guard⟩ := o
    have hun : (∀ f args, j' ≠ .call f args) → evJ P S K (.wr j') → wr S K j' := by
      intro hne hh
      cases j' <;> first | exact hh | exact (hne _ _ rfl).elim
    cases op with
    | alloc e =>
      refine upon_wrote rfl (wrote_alloc hR hj (hun ?_ h)) hn
      intro f args e; subst e
      simp only [trW, Option.bind_eq_bind, Option.bind_eq_some_iff, Option.some.injEq] at hj
      obtain ⟨_, _, _, _, _, _, hj⟩ := hj; cases hj
    | box e x =>
      refine upon_wrote rfl (wrote_box hR hj (hun ?_ h)) hn
      intro f args e; subst e
      simp only [trW, Option.map_eq_some_iff] at hj
      obtain ⟨_, _, hj⟩ := hj; cases hj
    | buildSlice t len parts =>
      refine upon_wrote rfl (wrote_lit hR hj (hun ?_ h)) hn
      intro f args e; subst e
      simp only [trW] at hj
      split at hj
      · simp only [Option.bind_eq_bind, Option.bind_eq_some_iff] at hj
        obtain ⟨_, _, _, _, _, _, hj⟩ := hj
        split at hj
        · simp only [Option.bind_eq_some_iff, Option.some.injEq] at hj
          obtain ⟨_, _, hj⟩ := hj; cases hj
        · simp at hj
      · simp at hj
    | convert s d x =>
      refine upon_wrote rfl (wrote_s2b hR hj (hun ?_ h)) hn
      intro f args e; subst e
      simp only [trW, Option.bind_eq_bind, Option.bind_eq_some_iff] at hj
      obtain ⟨_, _, hj⟩ := hj
      split at hj
      · split at hj <;> simp at hj
      · simp at hj
    | makeSlice t l c =>
      refine upon_wrote rfl (wrote_mks hR hj (hun ?_ h)) hn
      intro f args e; subst e
      simp only [trW] at hj
      split at hj
      · simp only [Option.bind_eq_bind, Option.bind_eq_some_iff] at hj
        obtain ⟨_, _, _, _, _, _, hj⟩ := hj
        split at hj
        · simp only [Option.bind_eq_some_iff, Option.some.injEq] at hj
          obtain ⟨_, _, _, _, hj⟩ := hj; cases hj
        · simp at hj
      · simp at hj
    | store t x v =>
      have hne : ∀ f args, j' ≠ .call f args := by
        intro f args e; subst e
        simp only [trW, Option.bind_eq_bind, Option.bind_eq_some_iff, Option.some.injEq] at hj
        obtain ⟨_, _, _, _, _, _, hj⟩ := hj; cases hj
      obtain ⟨w', ks, roots, nx, g', pl', hr, hp, hk, hK⟩ := stored_store hR hj (hun hne h)
      unfold Oper.wp
      rw [show execOp a.eval ⟨dst, .store t x v, ty, pos, after, guard⟩ = (do Instr.storeAt t (a.eval x) (a.eval v); pure .skip) from rfl]
      simp only [Sem.run_bind, hr]
      exact hn undef w' .un ks roots nx g' pl' trivial hp hk hK
    | call c =>
      obtain ⟨callee, args, tys⟩ := c
      cases callee with
      | builtin b =>
        cases b with
        | append =>
          refine upon_wrote ?_ (wrote_app hR (ty := ty) hj (hun ?_ h)) hn
          · simp [execOp, resolve, invoke, builtin]
          · intro f args' e; subst e
            simp only [trW] at hj
            split at hj
            · split at hj
              · simp only [Option.bind_eq_bind, Option.bind_eq_some_iff] at hj
                obtain ⟨_, _, _, _, _, _, hj⟩ := hj
                split at hj
                · simp only [Option.bind_eq_some_iff, Option.some.injEq] at hj
                  obtain ⟨_, _, _, _, hj⟩ := hj; cases hj
                · simp at hj
              · simp only [Option.bind_eq_bind, Option.bind_eq_some_iff] at hj
                obtain ⟨_, _, _, _, _, _, hj⟩ := hj
                split at hj
                · simp only [Option.bind_eq_some_iff, Option.some.injEq] at hj
                  obtain ⟨_, _, _, _, hj⟩ := hj; cases hj
                · simp at hj
              · simp at hj
            · simp at hj
        | clear =>
          exfalso
          simp only [trW] at hj
          split at hj
          · split at hj
            · simp only [Option.bind_eq_bind, Option.bind_eq_some_iff] at hj
              obtain ⟨_, _, _, _, _, _, hj⟩ := hj
              split at hj
              · simp only [Option.bind_eq_some_iff, Option.some.injEq] at hj
                obtain ⟨_, _, hj⟩ := hj
                subst hj
                exact h
              · simp at hj
            · simp at hj
          · simp at hj
        | _ => simp [trW] at hj
      | invoke r n => simp [trW] at hj
      | value x =>
        cases x with
        | tmp t =>
          simp only [trW, Option.bind_eq_bind, Option.bind_eq_some_iff, Option.some.injEq] at hj
          obtain ⟨_, _, rfl⟩ := hj
          exact h.elim
        | const v => simp [trW] at hj
        | global v => simp [trW] at hj
        | func f =>
          simp only [trW] at hj
          split at hj
          · rename_i fn hf
            split at hj
            · rename_i hcond
              simp only [Option.map_eq_some_iff] at hj
              obtain ⟨xs, hxs, rfl⟩ := hj
              simp only [Bool.and_eq_true, bne_iff_ne, ne_eq] at hcond
              have hargs : All2 (VR pl S.next) (xs.map S.opd) (args.toList.map a.eval) := trOs_ok hR _ _ _ hxs
              have hc := call_ok hR.hp hargs h
              unfold Oper.wp
              have hrun : (execOp a.eval ⟨dst, .call ⟨.value (.func f), args, tys⟩, ty, pos, after, guard⟩).run P w = .ok (.enter f (args.map a.eval)) w := by
                cases hbd : fn.body with
                | none => rw [hbd] at hcond; simp at hcond
                | some c => simp [execOp, resolve, invoke, callFunc, Deferred.ofValue, Act.eval, hf, hcond.2, hbd]
              rw [hrun, Oper.upon_enter]
              rw [show args.map a.eval = (args.toList.map a.eval).toArray from (by apply Array.ext'; simp)]
              refine Calls.mono hc ?_
              rintro e w' ⟨rv, x, ks, roots, nx, g', pl', rfl, hx, hp, hk, hK⟩
              exact hn rv w' x ks roots nx g' pl' hx hp hk hK
            · simp at hj
          · simp at hj
    | _ => simp [trW] at hj

/-! ## a region -/
theorem stepO_ok (hR : Rel N w0 own0 pl0 g pl S a w) {ops : Array Oper} {i : Nat} {o : Oper} {gi : GI} (ho : ops[i]? = some o) (ht : trOper P N ops o = some gi) {K : St → Prop} (h : stepO P gi S K) {next : Act → World → Prop} {Q : Exit → Act → World → Prop}
    (hn : Next N w0 own0 pl0 S.fix K next) : wpOp P ops Q i next a w := by
  unfold wpOp
  rw [ho]
  simp only
  unfold trOper at ht
  simp only [Option.bind_eq_bind, Option.bind_eq_some_iff] at ht
  obtain ⟨j, hj, ht⟩ := ht
  split at ht
  · rename_i hd
    have run : evJ P S (fun x ks roots nx => K ⟨setEnv o.dst x (killEnv ks S.env), roots, nx, S.fix⟩) j → o.wp P a w next Q := by
      intro h
      refine opJ_ok hR hj h ?_
      intro v w' x ks roots nx g' pl' hx hp hk hK
      exact hn ⟨setEnv o.dst x (killEnv ks S.env), roots, nx, S.fix⟩ g' pl' _ _ rfl hK (hR.put hd hp hk hx)
    have skip : K ⟨setEnv o.dst (.tp []) S.env, S.roots, S.next, S.fix⟩ → next (a.put o.dst undef) w := by
      intro h
      exact hn ⟨setEnv o.dst (.tp []) S.env, S.roots, S.next, S.fix⟩ g pl _ _ rfl h (hR.put (ks := []) (x := .tp []) hd hR.hp (fun _ _ h => h) ⟨[], rfl, trivial⟩)
    split at ht
    · rename_i hg
      simp only [Option.some.injEq] at ht; subst ht
      rw [if_pos (by simp [Region.wanted, hg])]
      exact .inl (run h)
    · rename_i k want hg
      simp only [Option.bind_eq_some_iff, Option.some.injEq] at ht
      obtain ⟨t, ⟨ok, hok, hdk⟩, rfl⟩ := ht
      simp only [stepO] at h
      have hy : yielded ops a.tmps k = match a.tmps[t]? with | some (.bool b) => some b | _ => none := by
        unfold yielded; rw [hok]; simp only [Option.bind_some, hdk]; rfl
      split at h
      · rename_i b hb
        have hv := hR.env t _ hb
        have hvb : a.tmps.getD t undef = .bool b := hv.1
        have ht2 : a.tmps[t]? = some (.bool b) := by
          rw [Array.getD_eq_getD_getElem?] at hvb
          cases hq : a.tmps[t]? with
          | none => rw [hq] at hvb; simp [undef] at hvb
          | some u => rw [hq] at hvb; simp at hvb; rw [hvb]
        by_cases hbw : b = want
        · rw [if_pos (by simp [Region.wanted, hg, hy, ht2, hbw])]
          exact .inl (run (h.1 hbw))
        · rw [if_neg (by simp [Region.wanted, hg, hy, ht2, hbw])]
          exact skip (h.2 hbw)
      · rename_i xs hb
        have hv := hR.env t _ hb
        obtain ⟨vs, hvs, _⟩ := hv
        have hw : Region.wanted o (yielded ops a.tmps) = false := by
          simp only [Region.wanted, hg, hy]
          rw [Array.getD_eq_getD_getElem?] at hvs
          cases hq : a.tmps[t]? with
          | none => simp
          | some u =>
            rw [hq] at hvs
            simp only [Option.getD_some] at hvs
            subst hvs
            simp
        rw [if_neg (by rw [hw]; simp)]
        exact skip h
      · exact h.elim
  · simp at ht
end Go.Vs
