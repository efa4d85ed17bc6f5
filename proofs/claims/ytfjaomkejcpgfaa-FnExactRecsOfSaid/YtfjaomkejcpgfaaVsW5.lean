import Derived.WideShapes
import Derived.ChangeShapes
import Derived.Test.YtfjaomkejcpgfaaVsW4
import Derived.Test.YtfjaomkejcpgfaaVsW1
set_option linter.unusedVariables false
set_option linter.unusedSimpArgs false
namespace Go.Vs
set_option linter.unusedVariables false
set_option linter.unusedSimpArgs false
/-! ## a function that the kernel has run -/
noncomputable def sOf (P : Program) (fn : Func) : Stm := (fn.body.bind (trC P fn.ntmps)).getD .skip
noncomputable def iOf (P : Program) (fn : Func) : List I := (trRes P fn.results.toList).getD []
def okF (P : Program) (fn : Func) (n : Nat) (ok : Bool) : Bool := match fn.body.bind (trC P fn.ntmps), trRes P fn.results.toList with
  | some _, some _ => Nat.ble n fn.ntmps && ok
  | _, _ => false
section
variable {P : Program} {f : FuncId} {fn : Func} {Φ : List (Fx P)} {H : List (Nat × Hn)} {an : An}
theorem okF_of (hm : P.follows .mixedOrders = true) {n : Nat} {ok : Bool} (h : okF P fn n ok = true) : (fn.body.bind (trC P fn.ntmps)) = some (sOf P fn) ∧ trRes P fn.results.toList = some (iOf P fn) ∧ Nat.ble n fn.ntmps = true ∧ ok = true := by
  unfold okF at h
  split at h
  · rename_i s is h1 h2
    simp only [Bool.and_eq_true] at h
    exact ⟨by rw [sOf, h1]; rfl, by rw [iOf, h2]; rfl, h.1, h.2⟩
  · simp at h
theorem runs_see (hm : P.follows .mixedOrders = true) {args rs : List (Bool × Ty)} {F : Tp (args.map (·.2)) → Option (Tp (rs.map (·.2)))} (hf : P.funcs[f]? = some fn) (hk : okF P fn args.length (okArgs args) = true) (h : ∀ x, fnX Φ H (sOf P fn) an (iOf P fn) args rs x = F x) (x : Tp (args.map (·.2))) (y : Tp (rs.map (·.2))) (hy : F x = some y) : Runs P f ((argsD args x).map mkArg) ⟨argsD rs y, [], []⟩ := by
  obtain ⟨a, b, c, d⟩ := okF_of hm hk
  exact runs_of_fn (N := 0) hm hf a b c d ((h x).trans hy)
theorem runs_gen (hm : P.follows .mixedOrders = true) {as : List GArg} {rs : List (Bool × Ty)} {F : Tp (argTys as) → Option (Tp (outTys as rs))} (hf : P.funcs[f]? = some fn) (hk : okF P fn as.length (okG as) = true) (h : ∀ x, fnG Φ H (sOf P fn) an (iOf P fn) as rs x = F x) (x : Tp (argTys as)) (y : Tp (outTys as rs)) (hy : F x = some y) : Runs P f (argsG as x) (outG as rs (spread _ y)) := by
  obtain ⟨a, b, c, d⟩ := okF_of hm hk
  exact runs_of_fnG hm hf a b c d ((h x).trans hy)
end

/-! ## what a value from outside holds -/
def fitFs (fit : TypeId → Ty → Bool) : List Field → Ty → Bool
  | [], _ => false
  | [f], T => fit f.type T
  | f :: fs, .P a b => fit f.type a && fitFs fit fs b
  | _, _ => false
def fitT (P : Program) : Nat → TypeId → Ty → Bool
  | 0, _, _ => false
  | n + 1, t, T => match P.underlying t with
    | some .bool => match T with
      | .B => true
      | _ => false
    | some (.int k) => match T with
      | .Y => decide (k = .u8)
      | .I k' => decide (k = k')
      | _ => false
    | some .string => match T with
      | .S => true
      | _ => false
    | some (.slice e) => match T with
      | .L T => Nat.beq (P.cellsOf e) T.n && fitT P n e T
      | _ => false
    | some (.struct fs) => fitFs (fitT P n) fs.toList T
    | _ => false
def okT : (T : Ty) → T.den → Prop
  | .I k, z => (Lit.int k z).wf = true
  | .S, l => l.length ≤ maxLen
  | .L t, xs => xs.length ≤ maxLen ∧ ∀ x ∈ xs, okT t x
  | .P a b, x => okT a x.1 ∧ okT b x.2
  | _, _ => True
theorem fields_fit {P : Program} {n : Nat} (ih : ∀ t T ds, fitT P n t T = true → DT P n t ds → ∃ x : T.den, ds = encT T x ∧ okT T x) : ∀ (fs : List Field) (T : Ty) (dss : List (List D)), fitFs (fitT P n) fs T = true → All2 (fun (f : Field) x => DT P n f.type x) fs dss → ∃ x : T.den, dss.flatten = encT T x ∧ okT T x
  | [], T, dss, h, _ => by simp [fitFs] at h
  | [f], T, dss, h, ha => by
    cases dss with
    | nil => exact ha.elim
    | cons d dss =>
      cases dss with
      | cons _ _ => exact ha.2.elim
      | nil =>
        simp only [fitFs] at h
        obtain ⟨x, h1, h2⟩ := ih _ _ _ h ha.1
        exact ⟨x, by simp [h1], h2⟩
  | f :: g :: fs, T, dss, h, ha => by
    cases T with
    | P a b =>
      simp only [fitFs, Bool.and_eq_true] at h
      cases dss with
      | nil => exact ha.elim
      | cons d dss =>
        obtain ⟨x, h1, h2⟩ := ih _ _ _ h.1 ha.1
        obtain ⟨y, h3, h4⟩ := fields_fit ih (g :: fs) b dss h.2 ha.2
        exact ⟨(x, y), by simp only [List.flatten_cons, h1, h3, encT], h2, h4⟩
    | _ => simp [fitFs] at h
theorem list_fit {α : Type} {p : α → Prop} {e : α → List D} : ∀ (es : List (List D)), (∀ el ∈ es, ∃ x, el = e x ∧ p x) → ∃ xs : List α, es = xs.map e ∧ ∀ x ∈ xs, p x
  | [], _ => ⟨[], rfl, by simp⟩
  | el :: es, h => by
    obtain ⟨x, h1, h2⟩ := h el List.mem_cons_self
    obtain ⟨xs, h3, h4⟩ := list_fit es fun el hel => h el (List.mem_cons_of_mem _ hel)
    exact ⟨x :: xs, by rw [List.map_cons, h1, h3], fun y hy => by rcases List.mem_cons.1 hy with rfl | hy; exact h2; exact h4 y hy⟩
theorem dt_fit {P : Program} : ∀ (n : Nat) (t : TypeId) (T : Ty) (ds : List D), fitT P n t T = true → DT P n t ds → ∃ x : T.den, ds = encT T x ∧ okT T x
  | 0, t, T, ds, h, _ => by simp [fitT] at h
  | n + 1, t, T, ds, h, hd => by
    unfold fitT at h
    unfold DT at hd
    split at h
    · rename_i hu
      simp only [hu] at hd
      cases T <;> simp at h
      obtain ⟨b, rfl⟩ := hd
      exact ⟨b, rfl, trivial⟩
    · rename_i k hu
      simp only [hu] at hd
      obtain ⟨z, rfl, hz⟩ := hd
      cases T with
      | Y =>
        simp only [decide_eq_true_eq] at h; subst h
        refine ⟨u8 z, ?_, trivial⟩
        have hz' : 0 ≤ z ∧ z < 256 := by
          simp only [Lit.wf, Bool.and_eq_true, decide_eq_true_eq] at hz
          have h0 : IntKind.u8.min = 0 := rfl
          have h1 : IntKind.u8.max = 255 := rfl
          omega
        simp only [encT, u8]
        congr 1; congr 1; congr 1
        rw [UInt8.toNat_ofNat', Nat.mod_eq_of_lt (by omega)]
        omega
      | I k' =>
        simp only [decide_eq_true_eq] at h; subst h
        exact ⟨z, rfl, hz⟩
      | _ => simp at h
    · rename_i hu
      simp only [hu] at hd
      cases T <;> simp at h
      obtain ⟨s, rfl, hs⟩ := hd
      refine ⟨s.data.toList, by simp [encT], ?_⟩
      show s.data.toList.length ≤ maxLen
      rw [Array.length_toList]; exact hs
    · rename_i e hu
      simp only [hu] at hd
      cases T with
      | L T =>
        simp only [Bool.and_eq_true] at h
        obtain ⟨es, rfl, hl, he⟩ := hd
        obtain ⟨xs, rfl, hx⟩ := list_fit (e := encT T) (p := okT T) es fun el hel => dt_fit n e T el h.2 (he el hel)
        exact ⟨xs, by simp only [encT]; rw [Nat.eq_of_beq_eq_true h.1], by simpa using hl, hx⟩
      | _ => simp at h
    · rename_i fs hu
      simp only [hu] at hd
      obtain ⟨dss, rfl, ha⟩ := hd
      exact fields_fit (fun t T ds => dt_fit n t T ds) fs.toList T dss h ha
    · simp at h
/-- An argument from outside. -/
theorem lies_fit {H : Type} {enc : TypeId × Value → H} {P : Program} {W : World} {base n : Nat} {t : TypeId} {v : Value} {d : DataW H} {ps : List MemPlace} (ag : Bool) (T : Ty) (hg : good P n t = true) (hf : fitT P n t T = true) (ha : (match P.underlying t with | some (.struct _) => ag | some (.slice _) => !ag | some (.int _) => !ag | some .bool => !ag | some .string => !ag | _ => false) = true)
    (hval : Value.okWide P W .any base t v) (h : DataW.Trod enc P W 0 (fun _ => true) true t v d ps) : ∃ x : T.den, ArgLies W (ag, encT T x) v ∧ okT T x := by
  obtain ⟨fuel, hh⟩ := h
  obtain ⟨ds, h1, h2⟩ := lies_trod n t fuel _ _ hg hh
  obtain ⟨x, rfl, hx⟩ := dt_fit n t T ds hf h2
  refine ⟨x, ?_, hx⟩
  have one : ag = false → v.cells = #[v] → ArgLies W (ag, encT T x) v := by
    intro e hv
    subst e
    simp only [ArgLies, Bool.false_eq_true, if_false]
    rw [hv] at h1
    cases hd : encT T x with
    | nil => rw [hd] at h1; exact h1.elim
    | cons d ds =>
      rw [hd] at h1
      cases ds with
      | nil => exact ⟨d, rfl, h1.1⟩
      | cons _ _ => exact h1.2.elim
  split at ha
  · rename_i fs hu
    subst ha
    obtain ⟨cs, rfl, _⟩ := WideShapes.okWide_struct hu hval
    simp only [ArgLies, if_true]
    exact ⟨cs.toList, by simp, by simpa [Value.cells] using h1⟩
  · rename_i e hu
    obtain ⟨a, l, c, rfl⟩ := WideShapes.okWide_slice hu hval
    exact one (by simpa using ha) rfl
  · rename_i k hu
    obtain ⟨a, rfl⟩ := WideShapes.okWide_int hu hval
    exact one (by simpa using ha) rfl
  · rename_i hu
    obtain ⟨a, rfl⟩ := WideShapes.okWide_bool hu hval
    exact one (by simpa using ha) rfl
  · rename_i hu
    obtain ⟨a, rfl⟩ := WideShapes.okWide_string hu hval
    exact one (by simpa using ha) rfl
  · simp at ha
end Go.Vs
namespace Go.Vs
set_option linter.unusedVariables false
set_option linter.unusedSimpArgs false
noncomputable section
/-! ## what the words say -/
theorem wrap_i64 {n : Int} (h1 : -9223372036854775808 ≤ n) (h2 : n < 9223372036854775808) : IntKind.i64.wrap n = n := by
  have e1 : IntKind.i64.bits = 64 := rfl
  have e2 : IntKind.i64.signed = true := rfl
  simp only [IntKind.wrap, e1, e2, Bool.true_and, Nat.reduceSub, decide_eq_true_eq]
  have e3 : ((2 : Int) ^ 64) = 18446744073709551616 := by decide
  have e4 : ((2 : Int) ^ 63) = 9223372036854775808 := by decide
  rw [e3, e4]
  by_cases h : 0 ≤ n
  · have : n % 18446744073709551616 = n := Int.emod_eq_of_lt h (by omega)
    rw [this, if_neg (by omega)]
  · have : n % 18446744073709551616 = n + 18446744073709551616 := by omega
    rw [this, if_pos (by omega)]; omega
theorem iAdd_ok {a b : Int} (h1 : -9223372036854775808 ≤ a + b) (h2 : a + b < 9223372036854775808) : iAdd .i64 a b = a + b := wrap_i64 h1 h2
theorem iSub_ok {a b : Int} (h1 : -9223372036854775808 ≤ a - b) (h2 : a - b < 9223372036854775808) : iSub .i64 a b = a - b := wrap_i64 h1 h2
theorem iMul_ok {a b : Int} (h1 : -9223372036854775808 ≤ a * b) (h2 : a * b < 9223372036854775808) : iMul .i64 a b = a * b := wrap_i64 h1 h2
theorem iAdd_n {i n : Nat} (h : i + n < 9223372036854775808) : iAdd .i64 (i : Int) (n : Int) = ((i + n : Nat) : Int) := by
  rw [iAdd_ok (by omega) (by omega)]; omega
theorem iAdd_1 {i : Nat} (h : i < 9223372036854775807) : iAdd .i64 (i : Int) 1 = ((i + 1 : Nat) : Int) := iAdd_n (n := 1) (by omega)
@[simp] theorem nOf_n (i : Nat) : nOf (i : Int) = i := by simp [nOf]
@[simp] theorem idx_n {α : Type} (xs : List α) (i : Nat) : idx xs (i : Int) = xs[i]? := by simp [idx]
@[simp] theorem idx_ofNat {α : Type} (xs : List α) (i : Nat) : idx xs (Int.ofNat i) = xs[i]? := idx_n xs i
theorem idx_at {α : Type} {xs : List α} {i : Nat} (h : i < xs.length) : idx xs (i : Int) = some xs[i] := by rw [idx_n, List.getElem?_eq_getElem h]
@[simp] theorem bnd_s {α β : Type} (x : α) (f : α → Option β) : bnd (some x) f = f x := rfl
@[simp] theorem chk_t {β : Type} (k : Option β) : chk true k = k := rfl
@[simp] theorem cnd_t {β : Type} (x y : Option β) : cnd true x y = x := rfl
@[simp] theorem cnd_f {β : Type} (x y : Option β) : cnd false x y = y := rfl
@[simp] theorem joinX_l {σ ρ : Type} (s : σ) (f : σ → Option ρ) : joinX (some (.inl s)) f = f s := rfl
@[simp] theorem joinX_r {σ ρ : Type} (r : ρ) (f : σ → Option ρ) : joinX (some (.inr r)) f = some r := rfl
@[simp] theorem outX_s {σ ρ : Type} (r : ρ) : outX (σ := σ) (some r) = some (.inr r) := rfl
@[simp] theorem sel2_t {α : Type} (x y : α) : sel2 true x y = x := rfl
@[simp] theorem sel2_f {α : Type} (x y : α) : sel2 false x y = y := rfl
@[simp] theorem iEq_r (a : Int) : iEq a a = true := by simp [iEq]
@[simp] theorem iNe_r (a : Int) : iNe a a = false := by simp [iNe]
@[simp] theorem sEq_r (a : List UInt8) : sEq a a = true := by simp [sEq]
@[simp] theorem bNe_r (a : Bool) : bNe a a = false := by simp [bNe]
@[simp] theorem bNot_t : bNot true = false := rfl
@[simp] theorem bNot_f : bNot false = true := rfl
@[simp] theorem nEq_r (a : Nat) : nEq a a = true := by simp [nEq]
theorem iLt_y {a b : Int} (h : a < b) : iLt a b = true := by simp [iLt, h]
theorem iLt_n {a b : Int} (h : b ≤ a) : iLt a b = false := by simp [iLt]; omega
theorem iGt_y {a b : Int} (h : b < a) : iGt a b = true := by simp [iGt, h]
theorem iGt_n {a b : Int} (h : a ≤ b) : iGt a b = false := by simp [iGt]; omega
theorem iLe_y {a b : Int} (h : a ≤ b) : iLe a b = true := by simp [iLe, h]
theorem iLe_n {a b : Int} (h : b < a) : iLe a b = false := by simp [iLe]; omega
theorem iGe_y {a b : Int} (h : b ≤ a) : iGe a b = true := by simp [iGe, h]
theorem iGe_n {a b : Int} (h : a < b) : iGe a b = false := by simp [iGe]; omega
theorem iEq_n {a b : Int} (h : a ≠ b) : iEq a b = false := by simp [iEq, h]
theorem iNe_y {a b : Int} (h : a ≠ b) : iNe a b = true := by simp [iNe, h]
theorem room_ok {n sz : Nat} (h : n * sz ≤ 140737488355328) : room n sz = true := by simp [room, h]
theorem small_ok {a b : List UInt8} (h : a.length + b.length < 9223372036854775808) : small a b = true := by simp [small, h]
theorem mkOk_ok {n m : Nat} (h : n * m ≤ 140737488355328) (h2 : n ≤ 9223372036854775807) : mkOk (n : Int) m = true := by
  simp only [mkOk, decide_eq_true_eq]
  refine ⟨by omega, ?_, by omega⟩
  have : (n : Int) * (m : Int) = ((n * m : Nat) : Int) := by simp
  omega
@[simp] theorem lLen_def {α : Type} (xs : List α) : lLen xs = (xs.length : Int) := rfl
@[simp] theorem lSet_len {α : Type} (l : List α) (n : Nat) (x : α) : (lSet l n x).length = l.length := by simp [lSet]
@[simp] theorem lSet_lSet {α : Type} (l : List α) (n : Nat) (x y : α) : lSet (lSet l n x) n y = lSet l n y := by simp [lSet]
theorem lSet_at {α : Type} {l : List α} {n : Nat} (x : α) (h : n < l.length) : (lSet l n x)[n]? = some x := by simp [lSet, h]

/-! ## loops -/
theorem loop_inv {σ ρ : Type} {step : σ → Option (σ ⊕ ρ)} (inv : Nat → σ → Prop) (n : Nat) (Q : ρ → Prop) (hs : ∀ i s, i < n → inv i s → (∃ s', step s = some (.inl s') ∧ inv (i + 1) s') ∨ ∃ r, step s = some (.inr r) ∧ Q r) (he : ∀ s, inv n s → ∃ r, step s = some (.inr r) ∧ Q r) (s0 : σ) (h0 : inv 0 s0) : ∃ r, loopX step s0 = some r ∧ Q r := by
  have key : ∀ k i s, n - i = k → i ≤ n → inv i s → ∃ r, loopX step s = some r ∧ Q r := by
    intro k
    induction k with
    | zero =>
      intro i s hk hi h
      have : i = n := by omega
      subst this
      obtain ⟨r, h1, h2⟩ := he s h
      exact ⟨r, by rw [loopX_eq, h1], h2⟩
    | succ k ih =>
      intro i s hk hi h
      rcases hs i s (by omega) h with ⟨s', h1, h2⟩ | ⟨r, h1, h2⟩
      · obtain ⟨r, h3, h4⟩ := ih (i + 1) s' (by omega) (by omega) h2
        exact ⟨r, by rw [loopX_eq, h1]; exact h3, h4⟩
      · exact ⟨r, by rw [loopX_eq, h1], h2⟩
  exact key n 0 s0 (by omega) (by omega) h0
/-- A loop that makes n rounds and leaves. -/
theorem loop_exact {σ ρ : Type} {step : σ → Option (σ ⊕ ρ)} (st : Nat → σ) (n : Nat) (r : ρ) (hs : ∀ i, i < n → step (st i) = some (.inl (st (i + 1)))) (he : step (st n) = some (.inr r)) (s0 : σ) (h0 : s0 = st 0) : loopX step s0 = some r := by
  obtain ⟨r', h1, h2⟩ := loop_inv (step := step) (fun i s => s = st i) n (fun x => x = r) (fun i s hi h => .inl ⟨_, by rw [h]; exact hs i hi, rfl⟩) (fun s h => ⟨r, by rw [h]; exact he, rfl⟩) s0 h0
  rw [h1, h2]

/-! ## sizes -/
def SzR (o : Option Int) (k : Int) (P : Prop) : Prop := ∃ z, o = some z ∧ z ≤ k ∧ (0 ≤ z → P)
theorem SzR.done {k : Int} : SzR (some k) k True := ⟨k, rfl, Int.le_refl _, fun _ => trivial⟩
theorem SzR.mono {o : Option Int} {k k' : Int} {P Q : Prop} (h : SzR o k P) (hk : k ≤ k') (hp : P → Q) : SzR o k' Q := by
  obtain ⟨z, a, b, c⟩ := h
  exact ⟨z, a, by omega, fun h => hp (c h)⟩
theorem SzR.sub {α : Type} {l : List α} {k : Int} {rest : Option Int} {P : Prop} (h0 : 0 ≤ k) (hk : k ≤ 4611686018427387904) (hl : l.length ≤ 9223372036854775807) (h : (l.length : Int) ≤ k → SzR rest (k - l.length) P) : SzR (cnd (iLt (iSub .i64 k (lLen l)) 0) (some (-1)) rest) k ((l.length : Int) ≤ k ∧ P) := by
  have e : iSub .i64 k (lLen l) = k - l.length := iSub_ok (by simp only [lLen_def]; omega) (by simp only [lLen_def]; omega)
  rw [e]
  by_cases hh : (l.length : Int) ≤ k
  · rw [iLt_n (by omega)]
    obtain ⟨z, a, b, c⟩ := h hh
    exact ⟨z, a, by omega, fun h => ⟨hh, c h⟩⟩
  · rw [iLt_y (by omega)]
    exact ⟨-1, rfl, by omega, fun h => by omega⟩
theorem SzR.seq {o : Option Int} {k : Int} {P Q : Prop} {f : Int → Option Int} (h0 : 0 ≤ k) (h : SzR o k P) (hf : ∀ z, 0 ≤ z → z ≤ k → SzR (f z) z Q) : SzR (bnd o fun z => cnd (iLt z 0) (some (-1)) (f z)) k (P ∧ Q) := by
  obtain ⟨z, rfl, b, c⟩ := h
  simp only [bnd_s]
  by_cases hz : 0 ≤ z
  · rw [iLt_n hz]
    obtain ⟨y, d, e, g⟩ := hf z hz b
    exact ⟨y, d, by omega, fun h => ⟨c hz, g h⟩⟩
  · rw [iLt_y (by omega)]
    exact ⟨-1, rfl, by omega, fun h => by omega⟩
theorem SzR.one {o : Option Int} {k : Int} {P : Prop} (h0 : 0 ≤ k) (h : SzR o k P) : SzR (bnd o fun z => cnd (iLt z 0) (some (-1)) (some z)) k P := by
  obtain ⟨z, rfl, b, c⟩ := h
  simp only [bnd_s]
  by_cases hz : 0 ≤ z
  · rw [iLt_n hz]; exact ⟨z, rfl, b, c⟩
  · rw [iLt_y (by omega)]; exact ⟨-1, rfl, by omega, fun h => by omega⟩
def szLst {α : Type} (g : α × Int → Option Int) (x : List α × Int) : Option Int := cnd (iLt (iSub .i64 x.2 (lLen x.1)) 0) (some (-1)) (joinX (loopX (fun (z1 : Int × Int) => cnd (iLt z1.2 (lLen x.1)) (bnd (idx x.1 z1.2) fun e => bnd (g (e, z1.1)) fun z3 => cnd (iLt z3 0) (some (.inr (.inr (-1)))) (some (.inl (z3, iAdd .i64 z1.2 1)))) (some (.inr (.inl z1.1)))) (iSub .i64 x.2 (lLen x.1), 0)) fun z1 => some z1)
theorem szLst_ok' {α : Type} {g : α × Int → Option Int} {P : α → Prop} {x : List α} {k B : Int} (h0 : 0 ≤ k) (hk : k ≤ B) (hB : B ≤ 4611686018427387904) (hl : x.length ≤ 9223372036854775807) (hg : ∀ e ∈ x, ∀ k, 0 ≤ k → k ≤ B → SzR (g (e, k)) k (P e)) : SzR (szLst g (x, k)) k ((x.length : Int) ≤ k ∧ ∀ e ∈ x, P e) := by
  unfold szLst
  refine SzR.sub h0 (by omega) hl fun hle => ?_
  have e : iSub .i64 k (lLen x) = k - x.length := iSub_ok (by simp only [lLen_def]; omega) (by simp only [lLen_def]; omega)
  obtain ⟨r, h1, h2⟩ := loop_inv (step := fun (z1 : Int × Int) => cnd (iLt z1.2 (lLen x)) (bnd (idx x z1.2) fun e => bnd (g (e, z1.1)) fun z3 => cnd (iLt z3 0) (some (.inr (.inr (-1)))) (some (.inl (z3, iAdd .i64 z1.2 1)))) (some (.inr (.inl z1.1)))) (ρ := Int ⊕ Int)
    (fun i s => s.2 = (i : Int) ∧ 0 ≤ s.1 ∧ s.1 ≤ k - x.length ∧ ∀ e ∈ x.take i, P e) x.length (fun r => SzR (joinX (some r) fun z => some z) (k - x.length) (∀ e ∈ x, P e)) (by
      rintro i ⟨z, j⟩ hi ⟨rfl, hz0, hzk, hp⟩
      simp only at hz0 hzk hp ⊢
      rw [iLt_y (by simp only [lLen_def]; omega), cnd_t, idx_at hi, bnd_s]
      obtain ⟨y, h1, h2, h3⟩ := hg x[i] (List.getElem_mem hi) z hz0 (by omega)
      rw [h1, bnd_s]
      by_cases hy : 0 ≤ y
      · rw [iLt_n hy, cnd_f]
        left
        refine ⟨_, rfl, iAdd_1 (by omega), hy, by simp only; omega, ?_⟩
        intro e he
        rw [List.take_succ_eq_append_getElem hi] at he
        rcases List.mem_append.1 he with he | he
        · exact hp e he
        · rw [List.mem_singleton] at he; subst he; exact h3 hy
      · rw [iLt_y (by omega), cnd_t]
        right
        exact ⟨_, rfl, -1, rfl, by omega, fun h => by omega⟩)
    (by
      rintro ⟨z, j⟩ ⟨rfl, hz0, hzk, hp⟩
      simp only at hz0 hzk hp ⊢
      rw [iLt_n (by simp only [lLen_def]; omega), cnd_f]
      exact ⟨_, rfl, z, rfl, hzk, fun _ => by rw [List.take_length] at hp; exact hp⟩) (iSub .i64 k (lLen x), 0) ⟨rfl, by simp only [e]; simp only at hle; omega, by simp only [e]; exact Int.le_refl _, by simp⟩
  simp only; rw [h1]; exact h2

theorem szLst_ok {α : Type} {g : α × Int → Option Int} {P : α → Prop} {x : List α} {k : Int} (h0 : 0 ≤ k) (hk : k ≤ 4611686018427387904) (hl : x.length ≤ 9223372036854775807) (hg : ∀ e ∈ x, ∀ k, 0 ≤ k → k ≤ 4611686018427387904 → SzR (g (e, k)) k (P e)) : SzR (szLst g (x, k)) k ((x.length : Int) ≤ k ∧ ∀ e ∈ x, P e) := szLst_ok' h0 hk (Int.le_refl _) hl hg
/-! ## copies -/
def toLst {α : Type} (g : α → Option α) (d : α) (bytes : Nat) (x : List α) : Option (List α) := chk (iEq (lLen x) (lLen x)) (chk (mkOk (lLen x) bytes) (joinX (loopX (fun (z1 : List α × Int) => cnd (iLt z1.2 (lLen x)) (bnd (idx x z1.2) fun z2 => bnd (g z2) fun z3 => bnd (idx z1.1 z1.2) fun z4 => some (.inl (lSet z1.1 (nOf z1.2) z3, iAdd .i64 z1.2 1))) (some (.inr (.inl z1.1)))) (lRep (nOf (lLen x)) d, 0)) fun z1 => some z1))
theorem toLst_ok {α : Type} {g : α → Option α} {d : α} {bytes : Nat} {x : List α} (hl : x.length * bytes ≤ 140737488355328) (hl2 : x.length < 9223372036854775807) (hg : ∀ e ∈ x, g e = some e) : toLst g d bytes x = some x := by
  unfold toLst
  rw [iEq_r, chk_t, lLen_def, mkOk_ok hl (by omega), chk_t]
  rw [loop_exact (fun i => (x.take i ++ List.replicate (x.length - i) d, (i : Int))) x.length (.inl x)]
  · rfl
  · intro i hi
    simp only
    rw [iLt_y (by omega), cnd_t, idx_at hi, bnd_s, hg _ (List.getElem_mem hi), bnd_s, idx_n]
    have hlen : (x.take i ++ List.replicate (x.length - i) d).length = x.length := by simp; omega
    rw [List.getElem?_eq_getElem (by rw [hlen]; exact hi), bnd_s, nOf_n, iAdd_1 (by omega)]
    congr 3
    have e1 : x.length - i = (x.length - (i + 1)) + 1 := by omega
    rw [lSet, e1, List.replicate_succ, List.take_succ_eq_append_getElem hi, List.append_assoc]
    rw [List.set_append_right _ _ (by simp; omega)]
    have e2 : i - (x.take i).length = 0 := by simp; omega
    rw [e2]; rfl
  · simp only
    rw [iLt_n (by omega), cnd_f]
    simp
  · simp [lRep]

/-! ## the same? -/
def eqLst {α : Type} (g : α × α → Option Bool) (x : List α × List α) : Option Bool := cnd (iNe (lLen x.1) (lLen x.2)) (some false) (loopX (fun (z1 : Int) => cnd (iLt z1 (lLen x.1)) (bnd (idx x.1 z1) fun z2 => bnd (idx x.2 z1) fun z3 => bnd (g (z2, z3)) fun z4 => cnd (bNot z4) (some (.inr false)) (some (.inl (iAdd .i64 z1 1)))) (some (.inr true))) 0)
theorem eqLst_ok {α : Type} {g : α × α → Option Bool} {x : List α} (hl : x.length < 9223372036854775807) (hg : ∀ e ∈ x, g (e, e) = some true) : eqLst g (x, x) = some true := by
  unfold eqLst
  simp only [iNe_r, cnd_f]
  refine loop_exact (fun i => (i : Int)) x.length true ?_ ?_ 0 rfl
  · intro i hi
    rw [iLt_y (by simp only [lLen_def]; omega), cnd_t, idx_at hi, bnd_s, bnd_s, hg _ (List.getElem_mem hi), bnd_s, bNot_t, cnd_f, iAdd_1 (by omega)]
  · rw [iLt_n (by simp only [lLen_def]; omega), cnd_f]

/-! ## marks -/
/-- One after the other. -/
def Chain {α : Type} (H : Int → α → Int → Prop) : Int → List α → Int → Prop
  | m, [], m' => m = m'
  | m, a :: l, m' => ∃ k, H m a k ∧ Chain H k l m'
theorem Chain.snoc {α : Type} {H : Int → α → Int → Prop} : ∀ {l : List α} {m k m' : Int} {a : α}, Chain H m l k → H k a m' → Chain H m (l ++ [a]) m'
  | [], m, k, m', a, h, h2 => by simp only [Chain] at h; subst h; exact ⟨m', h2, rfl⟩
  | b :: l, m, k, m', a, ⟨j, h, h1⟩, h2 => ⟨j, h, h1.snoc h2⟩
theorem mark_loop {α ρ : Type} {H : Int → α → Int → Prop} {K : Int} {x : List α} {m0 : Int} {step : List α × Int × Int → Option ((List α × Int × Int) ⊕ ((List α × Int) ⊕ ρ))} (hl : x.length < 9223372036854775807) (hK : 0 ≤ K)
    (hb : ∀ (l : List α) (m : Int) (i : Nat) (h : i < x.length) (hl : l.length = x.length), l[i]? = some x[i] → m0 ≤ m → m ≤ m0 + K * i → ∃ a m', step (l, (m, (i : Int))) = some (.inl (lSet l i a, (m', (i : Int) + 1))) ∧ H m a m' ∧ m ≤ m' ∧ m' ≤ m + K)
    (he : ∀ (l : List α) (m : Int), l.length = x.length → step (l, (m, (x.length : Int))) = some (.inr (.inl (l, m)))) :
    ∃ l' m', loopX step (x, (m0, 0)) = some (.inl (l', m')) ∧ Chain H m0 l' m' ∧ l'.length = x.length ∧ m0 ≤ m' ∧ m' ≤ m0 + K * x.length := by
  obtain ⟨r, h1, l', m', rfl, h2⟩ := loop_inv (step := step)
    (fun i s => s.2.2 = (i : Int) ∧ s.1.length = x.length ∧ s.1.drop i = x.drop i ∧ Chain H m0 (s.1.take i) s.2.1 ∧ m0 ≤ s.2.1 ∧ s.2.1 ≤ m0 + K * i) x.length (fun r => ∃ l' m', r = .inl (l', m') ∧ Chain H m0 l' m' ∧ l'.length = x.length ∧ m0 ≤ m' ∧ m' ≤ m0 + K * x.length) (by
      rintro i ⟨l, m, j⟩ hi ⟨rfl, h1, h2, h3, h4, h5⟩
      simp only at h1 h2 h3 h4 h5 ⊢
      have hli : i < l.length := by omega
      have e0 : l[i]? = some x[i] := by
        have e1 : (l.drop i)[0]? = (x.drop i)[0]? := by rw [h2]
        rw [List.getElem?_drop, List.getElem?_drop, Nat.add_zero, List.getElem?_eq_getElem hi] at e1
        exact e1
      obtain ⟨a, m', b1, b2, b3, b4⟩ := hb l m i hi h1 e0 h4 h5
      rw [b1]
      left
      refine ⟨_, rfl, by simp only; omega, by simp [h1], ?_, ?_, by simp only; omega, ?_⟩
      · simp only [lSet]
        rw [List.drop_set_of_lt (by omega), ← List.drop_drop, h2, List.drop_drop]
      · simp only [lSet]
        rw [List.take_succ_eq_append_getElem (by simp; omega), List.take_set_of_le (by omega), List.getElem_set_self]
        exact h3.snoc b2
      · simp only
        have : K * ((i + 1 : Nat) : Int) = K * i + K := by
          rw [Int.natCast_add, Int.mul_add]; simp
        omega)
    (by
      rintro ⟨l, m, j⟩ ⟨rfl, h1, h2, h3, h4, h5⟩
      simp only at h1 h2 h3 h4 h5 ⊢
      refine ⟨_, he l m h1, l, m, rfl, ?_, h1, h4, h5⟩
      rw [← h1, List.take_length] at h3
      exact h3) (x, (m0, 0)) ⟨rfl, rfl, rfl, rfl, Int.le_refl _, by simp⟩
  exact ⟨l', m', h1, h2⟩
theorem held_loop {α ρ : Type} {H : Int → α → Int → Prop} {l : List α} {m0 m1 : Int} {step : Int × Int → Option ((Int × Int) ⊕ (Int ⊕ ρ))} (hl : l.length < 9223372036854775807) (hc : Chain H m0 l m1)
    (hb : ∀ (m m' : Int) (i : Nat) (h : i < l.length), H m l[i] m' → step (m, (i : Int)) = some (.inl (m', (i : Int) + 1))) (he : ∀ m, step (m, (l.length : Int)) = some (.inr (.inl m))) :
    loopX step (m0, 0) = some (.inl m1) := by
  obtain ⟨r, h1, h2⟩ := loop_inv (step := step)
    (fun i s => s.2 = (i : Int) ∧ Chain H s.1 (l.drop i) m1) l.length (fun r => r = .inl m1) (by
      rintro i ⟨m, j⟩ hi ⟨rfl, h⟩
      simp only at h ⊢
      rw [List.drop_eq_getElem_cons hi] at h
      obtain ⟨k, h3, h4⟩ := h
      rw [hb m k i hi h3]
      exact .inl ⟨_, rfl, by simp only; omega, h4⟩)
    (by
      rintro ⟨m, j⟩ ⟨rfl, h⟩
      simp only at h ⊢
      rw [he]
      rw [List.drop_length] at h
      simp only [Chain] at h
      subst h
      exact ⟨_, rfl, rfl⟩) (m0, 0) ⟨rfl, hc⟩
  rw [h1, h2]
end
end Go.Vs
