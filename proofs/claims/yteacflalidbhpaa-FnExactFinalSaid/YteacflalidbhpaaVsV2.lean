import Derived.Test.YteacflalidbhpaaVsV1
import Derived.Laws.Entries
set_option linter.unusedVariables false
set_option linter.unusedSimpArgs false
namespace Go.Vs
set_option linter.unusedVariables false
set_option linter.unusedSimpArgs false

def nodeIn (roots : List (Nat × Root)) (r : Nat) (p : Path) : Option (Nat × List (List D)) :=
  match get roots r with
  | some (.tr sz es) => nodeAt sz es p
  | some (.im sz es) => nodeAt sz es p
  | _ => none
theorem node_eq (S : St) (r : Nat) (p : Path) : S.node r p = nodeIn S.roots r p := rfl
def boxIn (roots : List (Nat × Root)) (r : Nat) : Option (List C) :=
  match get roots r with
  | some (.bx cs) => some cs
  | some (.ib cs) => some cs
  | _ => none

section
variable {w0 : World} {own0 : Nat → Nat → Prop} {pl0 : Pls} {g : Lab} {pl : Pls} {roots : List (Nat × Root)} {nx fix : Nat} {w : World}

theorem Hp.node {nc : Nat} (h : Hp w0 own0 pl0 g pl roots nx nc fix w) {r : Nat} {p : Path} {n : Nat × List (List D)} (hn : nodeIn roots r p = some n) :
    r < nx ∧ NodeC w pl r p n.1 n.2 := by
  unfold nodeIn at hn
  split at hn
  · rename_i sz es hg; obtain ⟨a, b⟩ := h.roots r _ hg; exact ⟨a, (b p n hn).1⟩
  · rename_i sz es hg; obtain ⟨a, b⟩ := h.roots r _ hg; exact ⟨a, (b p n hn).1⟩
  · simp at hn
theorem nodeIn_step {r : Nat} {p : Path} {n : Nat × List (List D)} (hn : nodeIn roots r p = some n) (i c : Nat) :
    nodeIn roots r (p ++ [(i, c)]) = match (n.2[i]?).bind (·[c]?) with | some (.sl sz' es') => some (sz', es') | _ => none := by
  unfold nodeIn at hn ⊢
  cases hg : get roots r with
  | none => simp [hg] at hn
  | some x =>
    cases x with
    | tr sz es => simp only [hg] at hn ⊢; exact nodeAt_step hn i c
    | im sz es => simp only [hg] at hn ⊢; exact nodeAt_step hn i c
    | bx cs => simp [hg] at hn
    | ib cs => simp [hg] at hn
theorem Hp.toC_ok (h : Hp w0 own0 pl0 g pl roots nx nx fix w) {r : Nat} {p : Path} {n : Nat × List (List D)} (hn : nodeIn roots r p = some n) {i c : Nat} {e : List D} {d : D}
    (he : n.2[i]? = some e) (hd : e[c]? = some d) {v : Value} (hv : DV (pl r (p ++ [(i, c)])) d v) : CR pl nx (toC r p i c d) v := by
  cases d with
  | lf x => exact hv
  | hole => exact hv
  | sl sz es =>
    have hs := nodeIn_step hn i c
    simp only [he, Option.bind_some, hd] at hs
    obtain ⟨hr, hc⟩ := h.node hs
    refine ⟨hr, hv.1, hc.nil, by simpa using hc.le, _, ?_, fun _ => rfl⟩
    rw [hv.2]
    simp [hdr, Pl.base]
theorem Hp.cell (h : Hp w0 own0 pl0 g pl roots nx nx fix w) {r : Nat} {p : Path} {n : Nat × List (List D)} (hn : nodeIn roots r p = some n) {i c : Nat} {e : List D} {d : D}
    (he : n.2[i]? = some e) (hd : e[c]? = some d) : ∃ v, w.cell? ⟨(pl r p).b, (pl r p).off + (i * (pl r p).sz + c), none⟩ = some v ∧ CR pl nx (toC r p i c d) v := by
  obtain ⟨_, hc⟩ := h.node hn
  obtain ⟨v, hv, hk⟩ := hc.cells i e c d he hd
  exact ⟨v, by rw [hc.szp]; exact hv, h.toC_ok hn he hd hk⟩
theorem Hp.cellsFrom (h : Hp w0 own0 pl0 g pl roots nx nx fix w) {r : Nat} {p : Path} {n : Nat × List (List D)} (hn : nodeIn roots r p = some n) {i : Nat} {e : List D}
    (he : n.2[i]? = some e) : ∀ (ds : List D) (c : Nat), (∀ k d, ds[k]? = some d → e[c + k]? = some d) →
    ∃ vs : List Value, vs.length = ds.length ∧ (∀ j v, vs[j]? = some v → w.cell? ⟨(pl r p).b, (pl r p).off + (i * (pl r p).sz + (c + j)), none⟩ = some v) ∧ All2 (CR pl nx) (toCs r p i c ds) vs
  | [], c, _ => ⟨[], rfl, by simp, trivial⟩
  | d :: ds, c, hk => by
    obtain ⟨v, hv, hc⟩ := h.cell hn he (hk 0 d rfl)
    obtain ⟨vs, hl, hvs, ha⟩ := Hp.cellsFrom h hn he ds (c + 1) (fun k x hx => by rw [show c + 1 + k = c + (k + 1) by omega]; exact hk (k + 1) x (by simpa using hx))
    refine ⟨v :: vs, by simp [hl], ?_, hc, ha⟩
    intro j u hj
    cases j with
    | zero => simp at hj; subst hj; exact hv
    | succ j => have := hvs j u (by simpa using hj); rwa [show c + 1 + j = c + (j + 1) by omega] at this
theorem Hp.box (h : Hp w0 own0 pl0 g pl roots nx nx fix w) {r : Nat} {cs : List C} (hn : boxIn roots r = some cs) {c : Nat} {x : C} (hx : cs[c]? = some x) :
    ∃ v, w.cell? ⟨(pl r []).b, (pl r []).off + c, none⟩ = some v ∧ CR pl nx x v := by
  unfold boxIn at hn
  split at hn
  · rename_i cs' hg
    simp only [Option.some.injEq] at hn; subst hn
    obtain ⟨v, a, b, _⟩ := (h.roots r _ hg).2 c x hx; exact ⟨v, a, b⟩
  · rename_i cs' hg
    simp only [Option.some.injEq] at hn; subst hn
    obtain ⟨v, a, b, _⟩ := (h.roots r _ hg).2 c x hx; exact ⟨v, a, b⟩
  · simp at hn
theorem Hp.boxFrom (h : Hp w0 own0 pl0 g pl roots nx nx fix w) {r : Nat} {cs : List C} (hn : boxIn roots r = some cs) : ∀ (xs : List C) (c : Nat), (∀ k x, xs[k]? = some x → cs[c + k]? = some x) →
    ∃ vs : List Value, vs.length = xs.length ∧ (∀ j v, vs[j]? = some v → w.cell? ⟨(pl r []).b, (pl r []).off + (c + j), none⟩ = some v) ∧ All2 (CR pl nx) xs vs
  | [], c, _ => ⟨[], rfl, by simp, trivial⟩
  | x :: xs, c, hk => by
    obtain ⟨v, hv, hc⟩ := h.box hn (hk 0 x rfl)
    obtain ⟨vs, hl, hvs, ha⟩ := Hp.boxFrom h hn xs (c + 1) (fun k x hx => by rw [show c + 1 + k = c + (k + 1) by omega]; exact hk (k + 1) x (by simpa using hx))
    refine ⟨v :: vs, by simp [hl], ?_, hc, ha⟩
    intro j u hj
    cases j with
    | zero => simp at hj; subst hj; exact hv
    | succ j => have := hvs j u (by simpa using hj); rwa [show c + 1 + j = c + (j + 1) by omega] at this
end

theorem get_drop_take {α : Type} {l xs : List α} {c n : Nat} (h : xs = (l.drop c).take n) : ∀ (k : Nat) (x : α), xs[k]? = some x → l[c + k]? = some x := by
  intro k x hx
  subst h
  rw [List.getElem?_take] at hx
  split at hx
  · simpa using hx
  · simp at hx

def bytesOf : List (List D) → Option (List UInt8)
  | [] => some []
  | [.lf (.int .u8 z)] :: l => (bytesOf l).map (UInt8.ofNat z.toNat :: ·)
  | _ => none

def cellsV : V → Option (List C)
  | .a (.c x) => some [x]
  | .a (.ag cs) => some cs
  | _ => none
def fillC (S : St) : List C → List (Nat × Nat × Opd) → Option (List C)
  | cs, [] => some cs
  | cs, (off, sz, x) :: rest =>
    match cellsV (S.opd x) with
    | some ys => if ys.length = sz ∧ off + sz ≤ cs.length then fillC S (cs.take off ++ (ys ++ cs.drop (off + sz))) rest else none
    | none => none

/-- What an operation that writes nothing gives. -/
def ev (S : St) (K : V → Prop) : I → Prop
  | .mv x => K (S.opd x)
  | .pick c a b => match S.opd c with
    | .a (.c (.lf (.bool t))) => (t = true → K (S.opd a)) ∧ (t = false → K (S.opd b))
    | _ => False
  | .load none x => match S.opd x with
    | .a (.c (.pe r p i c)) => ∃ d, ((S.node r p).bind fun n => (n.2[i]?).bind (·[c]?)) = some d ∧ K (.a (.c (toC r p i c d)))
    | .a (.c (.pb r c)) => ∃ x, ((S.bcells r).bind (·[c]?)) = some x ∧ K (.a (.c x))
    | _ => False
  | .load (some m) x => match S.opd x with
    | .a (.c (.pe r p i c)) => ∃ e, ((S.node r p).bind fun n => n.2[i]?) = some e ∧ c + m ≤ e.length ∧ K (.a (.ag (toCs r p i c ((e.drop c).take m))))
    | .a (.c (.pb r c)) => ∃ cs, S.bcells r = some cs ∧ c + m ≤ cs.length ∧ K (.a (.ag ((cs.drop c).take m)))
    | _ => False
  | .nilc x => match S.opd x with
    | .a (.c (.pe r p i c)) => K (.a (.c (.pe r p i c)))
    | .a (.c (.pb r c)) => K (.a (.c (.pb r c)))
    | _ => False
  | .bin op x y => match S.opd x, S.opd y with
    | .a (.c (.lf u)), .a (.c (.lf v)) => ∃ r, leafBin op u v = some r ∧ K (.a (.c (.lf r)))
    | _, _ => False
  | .beq neg x y => match S.opd x, S.opd y with
    | .a (.c (.lf (.bool u))), .a (.c (.lf (.bool v))) => K (.a (.c (.lf (.bool (if neg then u != v else u == v)))))
    | _, _ => False
  | .un op x => match S.opd x with
    | .a (.c (.lf u)) => ∃ r, leafUn op u = some r ∧ K (.a (.c (.lf r)))
    | _ => False
  | .conv k x => match S.opd x with
    | .a (.c (.lf (.int _ z))) => K (.a (.c (.lf (.int k (k.wrap z)))))
    | _ => False
  | .b2s x => match S.opd x with
    | .a (.c (.rf r p 1 lo n)) => ∃ l, ((S.node r p).bind fun m => if lo + n ≤ m.2.length then bytesOf ((m.2.drop lo).take n) else none) = some l ∧ K (.a (.c (.lf (.string ⟨l.toArray⟩))))
    | .a (.c (.nl _)) => K (.a (.c (.lf (.string .empty))))
    | _ => False
  | .slc z0 x lo hi => match S.opd x, lo.map S.opd, hi.map S.opd with
    | .a (.c (.rf r p sz l0 n)), some (.a (.c (.lf (.int _ l)))), some (.a (.c (.lf (.int _ h)))) => z0 = sz ∧ (0 ≤ l ∧ l ≤ h ∧ h ≤ n) ∧ K (.a (.c (.rf r p sz (l0 + l.toNat) (h.toNat - l.toNat))))
    | .a (.c (.rf r p sz l0 n)), some (.a (.c (.lf (.int _ l)))), none => z0 = sz ∧ (0 ≤ l ∧ l ≤ n) ∧ K (.a (.c (.rf r p sz (l0 + l.toNat) (n - l.toNat))))
    | .a (.c (.rf r p sz l0 n)), none, some (.a (.c (.lf (.int _ h)))) => z0 = sz ∧ (0 ≤ h ∧ h ≤ n) ∧ K (.a (.c (.rf r p sz l0 h.toNat)))
    | .a (.c (.rf r p sz l0 n)), none, none => K (.a (.c (.rf r p sz l0 n)))
    | _, _, _ => False
  | .ssl x lo hi => match S.opd x, lo.map S.opd, hi.map S.opd with
    | .a (.c (.lf (.string s))), some (.a (.c (.lf (.int _ l)))), some (.a (.c (.lf (.int _ h)))) => (0 ≤ l ∧ l ≤ h ∧ h ≤ s.size) ∧ K (.a (.c (.lf (.string (s.extract l.toNat h.toNat)))))
    | .a (.c (.lf (.string s))), some (.a (.c (.lf (.int _ l)))), none => (0 ≤ l ∧ l ≤ s.size) ∧ K (.a (.c (.lf (.string (s.extract l.toNat s.size)))))
    | .a (.c (.lf (.string s))), none, some (.a (.c (.lf (.int _ h)))) => (0 ≤ h ∧ h ≤ s.size) ∧ K (.a (.c (.lf (.string (s.extract 0 h.toNat)))))
    | _, _, _ => False
  | .fld off none x => match S.opd x with
    | .a (.ag cs) => ∃ y, cs[off]? = some y ∧ K (.a (.c y))
    | _ => False
  | .fld off (some m) x => match S.opd x with
    | .a (.ag cs) => off + m ≤ cs.length ∧ K (.a (.ag ((cs.drop off).take m)))
    | _ => False
  | .fad off x => match S.opd x with
    | .a (.c (.pe r p i c)) => K (.a (.c (.pe r p i (c + off))))
    | .a (.c (.pb r c)) => K (.a (.c (.pb r (c + off))))
    | _ => False
  | .iad sz x i => match S.opd x, S.opd i with
    | .a (.c (.rf r p sz' lo n)), .a (.c (.lf (.int _ z))) => sz' = sz ∧ (0 ≤ z ∧ z < n) ∧ K (.a (.c (.pe r p (lo + z.toNat) 0)))
    | _, _ => False
  | .iaa len sz x i => match S.opd x, S.opd i with
    | .a (.c (.pb r c)), .a (.c (.lf (.int _ z))) => (0 ≤ z ∧ z < len) ∧ K (.a (.c (.pb r (c + z.toNat * sz))))
    | _, _ => False
  | .idx x i => match S.opd x, S.opd i with
    | .a (.c (.lf (.string s))), .a (.c (.lf (.int _ z))) => 0 ≤ z ∧ ∃ b : UInt8, s[z.toNat]? = some b ∧ K (.a (.c (.lf (.int .u8 b.toNat))))
    | _, _ => False
  | .ixa len none sz x i => match S.opd x, S.opd i with
    | .a (.ag cs), .a (.c (.lf (.int _ z))) => (0 ≤ z ∧ z < len) ∧ ∃ y, cs[z.toNat * sz]? = some y ∧ K (.a (.c y))
    | _, _ => False
  | .ext i x => match S.opd x with
    | .tp xs => ∃ y, xs[i]? = some y ∧ K (.a y)
    | _ => False
  | .len x => match S.opd x with
    | .a (.c (.rf _ _ _ _ n)) => K (.a (.c (.lf (.int .i64 n))))
    | .a (.c (.nl _)) => K (.a (.c (.lf (.int .i64 0))))
    | _ => False
  | .sid x => match S.opd x with
    | .a (.c (.lf (.string s))) => K (.a (.c (.lf (.string s))))
    | _ => False
  | .sln x => match S.opd x with
    | .a (.c (.lf (.string s))) => K (.a (.c (.lf (.int .i64 s.size))))
    | _ => False
  | .build zero parts => ∃ cs, fillC S zero parts = some cs ∧ K (.a (.ag cs))
  | _ => False
end Go.Vs
