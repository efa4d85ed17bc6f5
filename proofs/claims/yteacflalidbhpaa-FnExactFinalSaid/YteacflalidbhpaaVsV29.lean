import Derived.Test.YteacflalidbhpaaVsV28
set_option linter.unusedVariables false
set_option linter.unusedSimpArgs false
namespace Go.Vs
set_option linter.unusedVariables false
set_option linter.unusedSimpArgs false

theorem Hp.next (h : ∃ x : Nat, x = 0) : True := trivial

/-! ## code -/
def PQ (N : Nat) (w0 : World) (own0 : Nat → Nat → Prop) (pl0 : Pls) (fx : Nat) (Q : Exit → St → Prop) (e : Exit) (a : Act) (w : World) : Prop :=
  ∃ S' g' pl', Q e S' ∧ S'.fix = fx ∧ Rel N w0 own0 pl0 g' pl' S' a w
def Vw (P : Program) (N : Nat) (c : Code) (S : St) (Q : Exit → St → Prop) : Prop :=
  ∀ (w0 : World) (own0 : Nat → Nat → Prop) (pl0 : Pls) (g : Lab) (pl : Pls) (a : Act) (w : World), Rel N w0 own0 pl0 g pl S a w → c.wp P (PQ N w0 own0 pl0 S.fix Q) a w
def thenQ (next : St → Prop) (Q : Exit → St → Prop) : Exit → St → Prop
  | .normal, S => next S
  | e, S => Q e S
def blockQ (id : Nat) (Q : Exit → St → Prop) : Exit → St → Prop
  | .exit id', S => if id' = id then Q .normal S else Q (.exit id') S
  | e, S => Q e S
/-- Less is known. -/
def Le (S T : St) : Prop := T.fix = S.fix ∧ ∀ (N : Nat) (w0 : World) (own0 : Nat → Nat → Prop) (pl0 : Pls) (g : Lab) (pl : Pls) (a : Act) (w : World), Rel N w0 own0 pl0 g pl S a w → ∃ g' pl', Rel N w0 own0 pl0 g' pl' T a w

variable {P : Program} {N : Nat} {S : St} {Q : Exit → St → Prop}
theorem vw_mono {c : Code} {Q' : Exit → St → Prop} (h : Vw P N c S Q) (hq : ∀ e S', Q e S' → Q' e S') : Vw P N c S Q' := fun w0 own0 pl0 g pl a w hR => wp_mono (h w0 own0 pl0 g pl a w hR) fun e a w ⟨S', g', pl', q, r⟩ => ⟨S', g', pl', hq _ _ q, r⟩
theorem vw_skip (h : Q .normal S) : Vw P N .skip S Q := fun _ _ _ g pl _ _ hR => wp_skip ⟨S, g, pl, h, rfl, hR⟩
theorem vw_exit {id : Nat} (h : Q (.exit id) S) : Vw P N (.exit id) S Q := fun _ _ _ g pl _ _ hR => wp_exit ⟨S, g, pl, h, rfl, hR⟩
theorem vw_ret (h : Q .ret S) : Vw P N .ret S Q := fun _ _ _ g pl _ _ hR => wp_ret ⟨S, g, pl, h, rfl, hR⟩
theorem vw_le {c : Code} {T : St} (hl : Le S T) (h : Vw P N c T Q) : Vw P N c S Q := fun w0 own0 pl0 g pl a w hR => by
  obtain ⟨g', pl', hR'⟩ := hl.2 N w0 own0 pl0 g pl a w hR
  have := h w0 own0 pl0 g' pl' a w hR'
  rw [hl.1] at this
  exact this
theorem vw_seq {x y : Code} (h : Vw P N x S (thenQ (fun S' => Vw P N y S' Q) Q)) : Vw P N (.seq x y) S Q := fun w0 own0 pl0 g pl a w hR => by
  refine wp_seq (wp_mono (h w0 own0 pl0 g pl a w hR) ?_)
  rintro e a' w' ⟨S', g', pl', q, hf, r⟩
  cases e with
  | normal =>
    have := q w0 own0 pl0 g' pl' a' w' r
    rw [hf] at this
    exact this
  | exit id => exact ⟨S', g', pl', q, hf, r⟩
  | goto l => exact ⟨S', g', pl', q, hf, r⟩
  | ret => exact ⟨S', g', pl', q, hf, r⟩
  | panic ch => exact ⟨S', g', pl', q, hf, r⟩
  | outgrown => exact ⟨S', g', pl', q, hf, r⟩
/-- With what comes next behind a variable: the walk does not look into it. -/
theorem vw_seq_k {x y : Code} (h : ∀ K : St → Prop, (∀ S', Vw P N y S' Q → K S') → Vw P N x S (thenQ K Q)) : Vw P N (.seq x y) S Q := vw_seq (h _ fun _ h => h)
def tv : V → Option Bool
  | .a (.c (.lf (.bool b))) => some b
  | _ => none
theorem vw_cond {c : Operand} {x y : Code} {o : Opd} (hc : trO P 0 c = some o) {b : Bool} (hb : tv (S.opd o) = some b) (ht : b = true → Vw P N x S Q) (hf : b = false → Vw P N y S Q) : Vw P N (.cond c x y) S Q := fun w0 own0 pl0 g pl a w hR => by
  have hv := opd_ok hR hc
  have hvb : a.eval c = .bool b := by
    unfold tv at hb
    split at hb
    · rename_i b' he
      simp only [Option.some.injEq] at hb; subst hb
      rw [he] at hv
      exact hv.1
    · simp at hb
  refine wp_cond_split hvb (fun h => ht h w0 own0 pl0 g pl a w hR) fun h => hf h w0 own0 pl0 g pl a w hR
theorem vw_block {id : Nat} {c : Code} (h : Vw P N c S (blockQ id Q)) : Vw P N (.block id c) S Q := fun w0 own0 pl0 g pl a w hR => by
  refine wp_block (wp_mono (h w0 own0 pl0 g pl a w hR) ?_)
  rintro e a' w' ⟨S', g', pl', q, hf, r⟩
  cases e with
  | exit id' =>
    simp only [Exit.inBlock, blockQ] at q ⊢
    split
    · rename_i h; rw [if_pos h] at q; exact ⟨S', g', pl', q, hf, r⟩
    · rename_i h; rw [if_neg h] at q; exact ⟨S', g', pl', q, hf, r⟩
  | normal => exact ⟨S', g', pl', q, hf, r⟩
  | goto l => exact ⟨S', g', pl', q, hf, r⟩
  | ret => exact ⟨S', g', pl', q, hf, r⟩
  | panic ch => exact ⟨S', g', pl', q, hf, r⟩
  | outgrown => exact ⟨S', g', pl', q, hf, r⟩
/-- A loop: 'I k S': at most k rounds are to come. -/
theorem vw_loop {c : Code} (I : Nat → St → Prop) (n : Nat) (h0 : ∃ T, I n T ∧ Le S T) (hr : ∀ k T, T.fix = S.fix → I k T → Vw P N c T (thenQ (fun S' => ∃ k' T', k' < k ∧ I k' T' ∧ Le S' T') Q)) : Vw P N (.loop c) S Q := fun w0 own0 pl0 g pl a w hR => by
  obtain ⟨T, hT, hl⟩ := h0
  obtain ⟨g1, pl1, hR1⟩ := hl.2 N w0 own0 pl0 g pl a w hR
  refine wp_loop_ghost (fun k a w => ∃ T g pl, I k T ∧ T.fix = S.fix ∧ Rel N w0 own0 pl0 g pl T a w) n ⟨T, g1, pl1, hT, hl.1, hR1⟩ ?_
  rintro k a w ⟨T, g, pl, hI, hf, hR⟩
  refine wp_mono (hr k T hf hI w0 own0 pl0 g pl a w hR) ?_
  rintro e a' w' ⟨S', g', pl', q, hf', r⟩
  cases e with
  | normal =>
    obtain ⟨k', T', hk, hI', hl'⟩ := q
    obtain ⟨g2, pl2, hR2⟩ := hl'.2 N w0 own0 pl0 g' pl' a' w' r
    exact ⟨k', hk, T', g2, pl2, hI', by rw [hl'.1, hf', hf], hR2⟩
  | exit id => exact ⟨S', g', pl', q, by rw [hf', hf], r⟩
  | goto l => exact ⟨S', g', pl', q, by rw [hf', hf], r⟩
  | ret => exact ⟨S', g', pl', q, by rw [hf', hf], r⟩
  | panic ch => exact ⟨S', g', pl', q, by rw [hf', hf], r⟩
  | outgrown => exact ⟨S', g', pl', q, by rw [hf', hf], r⟩
/-- Fewer things are kept. -/
theorem Le.sub {T : St} (hn : T.next = S.next) (hf : T.fix = S.fix) (he : ∀ t x, get T.env t = some x → get S.env t = some x) (hr : ∀ r x, get T.roots r = some x → get S.roots r = some x) : Le S T := ⟨hf, fun N w0 own0 pl0 g pl a w hR => ⟨g, pl, by
  obtain ⟨h1, h2, h3, h4⟩ := hR
  obtain ⟨a1, a2, a3, a4, a5, a6⟩ := h1
  refine ⟨⟨a1, ?_, ?_, ?_, ?_, ?_⟩, h2, h3, ?_⟩
  · rw [hn]; exact a2
  · rw [hf]; exact a3
  · rw [hf, hn]; exact a4
  · exact Nat.le_refl _
  · intro r x hx
    rw [hn]
    exact a6 r x (hr r x hx)
  · intro t x hx
    rw [hn]
    exact h4 t x (he t x hx)⟩⟩

/-! ## regions -/
theorem runOs_ok {ops : Array Oper} {w0 : World} {own0 : Nat → Nat → Prop} {pl0 : Pls} {fx : Nat} : ∀ (l : List Oper) (k : Nat) (gis : List GI) (S : St) (g : Lab) (pl : Pls) (a : Act) (w : World), (∀ j, l[j]? = ops[k + j]?) → trOpers P N ops l = some gis → S.fix = fx → Rel N w0 own0 pl0 g pl S a w → runOs P gis S (Q .normal) →
    wpOps P ops (PQ N w0 own0 pl0 fx Q) (List.range' k l.length) a w
  | [], k, gis, S, g, pl, a, w, _, ht, hf, hR, h => by
    simp only [trOpers, Option.some.injEq] at ht; subst ht
    exact ⟨S, g, pl, h, hf, hR⟩
  | o :: l, k, gis, S, g, pl, a, w, hl, ht, hf, hR, h => by
    simp only [trOpers, Option.bind_eq_bind, Option.bind_eq_some_iff, Option.some.injEq] at ht
    obtain ⟨gi, hgi, gs, hgs, rfl⟩ := ht
    simp only [List.length_cons, List.range'_succ]
    rw [wpOps_cons]
    have h0 : ops[k]? = some o := by simpa using (hl 0).symm
    refine stepO_ok hR h0 hgi h ?_
    intro S' g' pl' a' w' hf' hK hR'
    exact runOs_ok l (k + 1) gs S' g' pl' a' w' (fun j => by have := hl (j + 1); simpa [Nat.add_assoc, Nat.add_comm 1 j] using this) hgs (by rw [hf', hf]) hR' hK
theorem vw_region {id : Nat} {ops : Array Oper} {gis : List GI} (ht : trOpers P N ops ops.toList = some gis) (h : runOs P gis S (Q .normal)) : Vw P N (.region id ops false) S Q := fun w0 own0 pl0 g pl a w hR => by
  refine wp_region ?_
  rw [List.range_eq_range', ← Array.length_toList]
  exact runOs_ok ops.toList 0 gis S g pl a w (by simp) ht rfl hR h
end Go.Vs
