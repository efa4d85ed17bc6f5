import Derived.Test.YteacflalidbhpaaVsV3
import Derived.Laws.BytesString
import Derived.Laws.Tables
set_option linter.unusedVariables false
set_option linter.unusedSimpArgs false
namespace Go.Vs
set_option linter.unusedVariables false
set_option linter.unusedSimpArgs false
variable {P : Program} {N : Nat} {w0 : World} {own0 : Nat → Nat → Prop} {pl0 : Pls} {g : Lab} {pl : Pls} {S : St} {a : Act} {w : World} {K : V → Prop}

theorem done_iad (hR : Rel N w0 own0 pl0 g pl S a w) {t : TypeId} {x y : Operand} {ty : TypeId} {i : I} (ht : trR P ty (.indexAddr t x y) = some i) (h : ev S K i) :
    Done P pl S.next K (Instr.indexAt t (a.eval x) (a.eval y)) w := by
  simp only [trR] at ht
  split at ht
  · rename_i e hu
    simp only [Option.bind_eq_bind, Option.bind_eq_some_iff, Option.some.injEq] at ht
    obtain ⟨j, hj, x', hx, y', hy, rfl⟩ := ht
    have h1 := opd_ok hR hx
    have h2 := opd_ok hR hy
    simp only [ev] at h
    split at h
    · rename_i r p sz' lo n k z he hf
      rw [he] at h1; rw [hf] at h2
      obtain ⟨hr, hsz, hnil, hle, A, hv, hA⟩ := c_of h1
      obtain ⟨hz, _⟩ := c_of h2
      obtain ⟨rfl, ⟨h0, hn⟩, hK⟩ := h
      have hlt : lo < (pl r p).cap := by omega
      have hnn : (pl r p).nil = false := by
        cases hq : (pl r p).nil with
        | false => rfl
        | true => have := hnil hq; omega
      have hA' := hA (.inl hlt)
      rw [hnn] at hA'
      simp only [Bool.false_eq_true, if_false] at hA'
      refine doneC hK (v := .pointer (some ⟨(pl r p).b, (pl r p).off + ((lo + z.toNat) * (pl r p).sz + 0), none⟩)) ?_ ⟨hr, hnn, rfl⟩
      rw [hv, hz, hA']
      simp only [Instr.indexAt, asIntOf, Sem.run_bind, Sem.run_pure, Result.andThen_ok, run_underlying hu]
      simp [h0, hn, sizeOf, typeInfo, hj, Addr.add_lit, hsz, Nat.add_mul, Nat.add_assoc]
    · exact h.elim
  · rename_i n e hu
    simp only [Option.bind_eq_bind, Option.bind_eq_some_iff, Option.some.injEq] at ht
    obtain ⟨j, hj, x', hx, y', hy, rfl⟩ := ht
    have h1 := opd_ok hR hx
    have h2 := opd_ok hR hy
    simp only [ev] at h
    split at h
    · rename_i r c k z he hf
      rw [he] at h1; rw [hf] at h2
      obtain ⟨hr, hv⟩ := c_of h1
      obtain ⟨hz, _⟩ := c_of h2
      obtain ⟨⟨h0, hn⟩, hK⟩ := h
      refine doneC hK (v := .pointer (some ⟨(pl r []).b, (pl r []).off + (c + z.toNat * j.size), none⟩)) ?_ ⟨hr, rfl⟩
      rw [hv, hz]
      simp only [Instr.indexAt, asIntOf, Sem.run_bind, Sem.run_pure, Result.andThen_ok, run_underlying hu]
      simp [h0, hn, sizeOf, typeInfo, hj, Addr.add_lit, Nat.add_assoc, Instr.sureAddr]
    · exact h.elim
  · simp at ht

theorem done_idx (hR : Rel N w0 own0 pl0 g pl S a w) {t : TypeId} {x y : Operand} {ty : TypeId} {i : I} (ht : trR P ty (.index t x y) = some i) (h : ev S K i) :
    Done P pl S.next K (Instr.index t (a.eval x) (a.eval y)) w := by
  simp only [trR] at ht
  split at ht
  · rename_i hu
    simp only [Option.bind_eq_bind, Option.bind_eq_some_iff, Option.some.injEq] at ht
    obtain ⟨x', hx, y', hy, rfl⟩ := ht
    have h1 := opd_ok hR hx
    have h2 := opd_ok hR hy
    simp only [ev] at h
    split at h
    · rename_i s k z he hf
      rw [he] at h1; rw [hf] at h2
      obtain ⟨hv, _⟩ := c_of h1
      obtain ⟨hz, _⟩ := c_of h2
      obtain ⟨h0, b, hb, hK⟩ := h
      refine doneC hK (v := .int .u8 b.toNat) ?_ ⟨rfl, rfl⟩
      rw [hv, hz]
      simp only [Instr.index, asIntOf, Sem.run_bind, Sem.run_pure, Result.andThen_ok, run_underlying hu]
      rw [if_pos h0, hb]
      rfl
    · exact h.elim
  · rename_i n e hu
    simp only [partSize, Option.bind_eq_bind, Option.bind_eq_some_iff, Option.some.injEq] at ht
    obtain ⟨j, hj, sz, ⟨d, hd, j', hj', rfl⟩, x', hx, y', hy, rfl⟩ := ht
    rw [hj] at hj'
    simp only [Option.some.injEq] at hj'; subst hj'
    have h1 := opd_ok hR hx
    have h2 := opd_ok hR hy
    cases hag : aggD d with
    | true => simp only [hag, if_true, ev] at h
    | false =>
      simp only [hag, Bool.false_eq_true, if_false, ev] at h
      split at h
      · rename_i cs k z he hf
        rw [he] at h1; rw [hf] at h2
        obtain ⟨vs, hv, hall⟩ := h1
        obtain ⟨hz, _⟩ := c_of h2
        obtain ⟨⟨h0, hn⟩, u, hu', hK⟩ := h
        obtain ⟨v, hv', hc⟩ := hall.get _ _ hu'
        have hisa : (isAgg e).run P w = .ok false w := by
          simp only [isAgg, Sem.run_bind, run_underlying hd, Result.andThen]
          cases d <;> simp_all [aggD]
        refine doneC hK (v := v) ?_ hc
        rw [hv, hz]
        simp only [Instr.index, asIntOf, Sem.run_bind, Sem.run_pure, Result.andThen_ok, run_underlying hu]
        rw [if_pos ⟨h0, hn⟩]
        simp [part, hisa, sizeOf, typeInfo, hj, hv']
      · exact h.elim
  · simp at ht

theorem done_ext (hR : Rel N w0 own0 pl0 g pl S a w) {x : Operand} {n : Nat} {ty : TypeId} {i : I} (ht : trR P ty (.extract x n) = some i) (h : ev S K i) :
    Done P pl S.next K (Instr.extract (a.eval x) n) w := by
  simp only [trR, Option.map_eq_some_iff] at ht
  obtain ⟨x', hx, rfl⟩ := ht
  have h1 := opd_ok hR hx
  simp only [ev] at h
  split at h
  · rename_i xs he
    rw [he] at h1
    obtain ⟨vs, hv, hall⟩ := h1
    obtain ⟨y, hy, hK⟩ := h
    obtain ⟨v, hv', hc⟩ := hall.get _ _ hy
    refine ⟨v, .a y, ?_, hc, hK⟩
    rw [hv]
    simp [Instr.extract, hv']
  · exact h.elim

theorem done_len (hR : Rel N w0 own0 pl0 g pl S a w) {args : Array Operand} {tys : Array TypeId} {ty' ty : TypeId} {i : I} (ht : trR P ty (.call { callee := .builtin .len, args, argTypes := tys }) = some i) (h : ev S K i) :
    Done P pl S.next K (Builtin.len_ tys ty' (args.map a.eval)) w := by
  simp only [trR] at ht
  split at ht
  · rename_i x t hxs hts
    have hargs : args = #[x] := by apply Array.ext'; simpa using hxs
    have htys : tys = #[t] := by apply Array.ext'; simpa using hts
    subst hargs; subst htys
    split at ht
    · rename_i e hu
      simp only [Option.map_eq_some_iff] at ht
      obtain ⟨x', hx, rfl⟩ := ht
      have h1 := opd_ok hR hx
      simp only [ev] at h
      split at h
      · rename_i r p sz lo n he
        rw [he] at h1
        obtain ⟨hr, hsz, hnil, hle, A, hv, hA⟩ := c_of h1
        refine doneC h (v := .int .i64 n) ?_ ⟨rfl, rfl⟩
        simp [Builtin.len_, run_underlying hu, hv, goInt]
      · rename_i he
        rw [he] at h1
        have hv : a.eval x = .slice none 0 0 := c_of h1
        refine doneC h (v := .int .i64 0) ?_ ⟨rfl, rfl⟩
        simp [Builtin.len_, run_underlying hu, hv, goInt]
      · exact h.elim
    · rename_i hu
      simp only [Option.map_eq_some_iff] at ht
      obtain ⟨x', hx, rfl⟩ := ht
      have h1 := opd_ok hR hx
      simp only [ev] at h
      split at h
      · rename_i s he
        rw [he] at h1
        have hv := (c_of h1).1
        refine doneC h (v := .int .i64 s.size) ?_ ⟨rfl, rfl⟩
        simp [Builtin.len_, run_underlying hu, hv, goInt]
      · exact h.elim
    · simp at ht
  · simp at ht

theorem run_bound {k : IntKind} {z : Int} {y : Nat} {code : BoundsCode} (h0 : 0 ≤ z) (h1 : z ≤ y) (w : World) : (Instr.sliceBound (.int k z) y code).run P w = .ok z.toNat w := by
  simp [Instr.sliceBound, asIntOf, h0, h1]

theorem win_sub {L : Pl} {sz lo n l h : Nat} {A : Option Addr} (hsz : L.sz = sz) (hnil : L.nil = true → L.cap = 0) (hle : lo + n ≤ L.cap)
    (hA : lo < L.cap ∨ lo = 0 → A = if L.nil then none else some ⟨L.b, L.off + lo * L.sz, none⟩) (hl : l ≤ h) (hh : h ≤ n) :
    Win L sz (lo + l) (h - l) (sliced A l h (L.cap - lo) sz) := by
  refine ⟨hsz, hnil, by omega, _, by unfold sliced; rw [Nat.sub_sub], ?_⟩
  intro hc
  by_cases hcl : L.cap - lo = l
  · rw [if_pos hcl]
    have hl0 : l = 0 := by omega
    subst hl0
    exact hA (by omega)
  · rw [if_neg hcl, hA (by omega)]
    cases hq : L.nil with
    | true => have := hnil hq; omega
    | false => simp [Addr.add_lit, hsz, Nat.add_mul, Nat.add_assoc]

theorem done_slc (hR : Rel N w0 own0 pl0 g pl S a w) {t : TypeId} {x : Operand} {lo hi mx : Option Operand} {ty : TypeId} {i : I} (ht : trR P ty (.slice t x lo hi mx) = some i) (h : ev S K i) :
    Done P pl S.next K (Instr.sliceAt t (a.eval x) (lo.map a.eval) (hi.map a.eval) (mx.map a.eval)) w := by
  cases mx with
  | some m => simp [trR] at ht
  | none =>
  simp only [trR] at ht
  split at ht
  · rename_i e hu
    simp only [Option.bind_eq_bind, Option.bind_eq_some_iff, Option.some.injEq] at ht
    obtain ⟨j, hj, x', hx, lo', hlo, hi', hhi, rfl⟩ := ht
    have h1 := opd_ok hR hx
    have hrun : ∀ (A : Option Addr) (n cap : Nat) (l q m : Nat) (lo hi : Option Value), (Instr.sliceBounds true n cap lo hi none).run P w = .ok (l, q, m) w →
        (Instr.sliceAt t (.slice A n cap) lo hi none).run P w = .ok (sliced A l q m j.size) w := by
      intro A n cap l q m lo hi hb
      simp only [Instr.sliceAt, Sem.run_bind, run_underlying hu, Result.andThen_ok, Instr.slice, hb]
      simp [sizeOf, typeInfo, hj, sliced]
    simp only [Option.map_none]
    cases lo with
    | none =>
      simp only [trMb, Option.some.injEq] at hlo; subst hlo
      cases hi with
      | none =>
        simp only [trMb, Option.some.injEq] at hhi; subst hhi
        simp only [ev, Option.map_none] at h ⊢
        split at h
        · simp_all
        · simp_all
        · simp_all
        · rename_i r p sz l0 n he _ _
          rw [he] at h1
          obtain ⟨hr, hsz, hnil, hle, A, hv, hA⟩ := c_of h1
          refine doneC h (v := .slice A n ((pl r p).cap - l0)) ?_ ⟨hr, hsz, hnil, hle, A, rfl, hA⟩
          rw [hv, hrun A n _ 0 n ((pl r p).cap - l0) none none (by simp [Instr.sliceBounds])]
          have : sliced A 0 n ((pl r p).cap - l0) j.size = .slice A n ((pl r p).cap - l0) := by
            unfold sliced; simp only [Nat.zero_mul, Nat.sub_zero]; cases A <;> simp [Addr.add]
          rw [this]
        · exact h.elim
      | some hi =>
        simp only [trMb, Option.map_eq_some_iff] at hhi
        obtain ⟨y, hy, rfl⟩ := hhi
        have h2 := opd_ok hR hy
        simp only [ev, Option.map_none, Option.map_some] at h ⊢
        split at h
        · simp_all
        · simp_all
        · rename_i r p sz l0 n k z he _ hz
          rw [he] at h1
          simp only [Option.some.injEq] at hz
          rw [hz] at h2
          obtain ⟨hr, hsz, hnil, hle, A, hv, hA⟩ := c_of h1
          obtain ⟨hzv, _⟩ := c_of h2
          obtain ⟨hsz', ⟨g0, g1⟩, hK⟩ := h
          refine doneC hK (v := sliced A 0 z.toNat ((pl r p).cap - l0) sz) ?_ ⟨hr, by have := win_sub (l := 0) (h := z.toNat) hsz hnil hle hA (by omega) (by omega); simpa using this⟩
          rw [hv, hzv, hrun A n _ 0 z.toNat ((pl r p).cap - l0) none _ (by simp [Instr.sliceBounds, run_bound g0 (show z ≤ (((pl r p).cap - l0 : Nat) : Int) by omega)]), hsz']
        · simp_all
        · exact h.elim
    | some lo =>
      simp only [trMb, Option.map_eq_some_iff] at hlo
      obtain ⟨ylo, hylo, rfl⟩ := hlo
      have h3 := opd_ok hR hylo
      cases hi with
      | none =>
        simp only [trMb, Option.some.injEq] at hhi; subst hhi
        simp only [ev, Option.map_none, Option.map_some] at h ⊢
        split at h
        · simp_all
        · rename_i r p sz l0 n k z he hz _
          rw [he] at h1
          simp only [Option.some.injEq] at hz
          rw [hz] at h3
          obtain ⟨hr, hsz, hnil, hle, A, hv, hA⟩ := c_of h1
          obtain ⟨hzv, _⟩ := c_of h3
          obtain ⟨hsz', ⟨g0, g1⟩, hK⟩ := h
          refine doneC hK (v := sliced A z.toNat n ((pl r p).cap - l0) sz) ?_ ⟨hr, win_sub hsz hnil hle hA (by omega) (by omega)⟩
          rw [hv, hzv, hrun A n _ z.toNat n ((pl r p).cap - l0) _ none (by simp [Instr.sliceBounds, run_bound g0 g1]), hsz']
        · simp_all
        · simp_all
        · exact h.elim
      | some hi =>
        simp only [trMb, Option.map_eq_some_iff] at hhi
        obtain ⟨y, hy, rfl⟩ := hhi
        have h2 := opd_ok hR hy
        simp only [ev, Option.map_some] at h ⊢
        split at h
        · rename_i r p sz l0 n k z k' z' he hz hz2
          rw [he] at h1
          simp only [Option.some.injEq] at hz hz2
          rw [hz] at h3; rw [hz2] at h2
          obtain ⟨hr, hsz, hnil, hle, A, hv, hA⟩ := c_of h1
          obtain ⟨hzv, _⟩ := c_of h3
          obtain ⟨hzv2, _⟩ := c_of h2
          obtain ⟨hsz', ⟨g0, g1, g2⟩, hK⟩ := h
          refine doneC hK (v := sliced A z.toNat z'.toNat ((pl r p).cap - l0) sz) ?_ ⟨hr, win_sub hsz hnil hle hA (by omega) (by omega)⟩
          rw [hv, hzv, hzv2, hrun A n _ z.toNat z'.toNat ((pl r p).cap - l0) _ _ (by simp [Instr.sliceBounds, run_bound (show 0 ≤ z' by omega) (show z' ≤ (((pl r p).cap - l0 : Nat) : Int) by omega), run_bound g0 (show z ≤ ((z'.toNat : Nat) : Int) by omega)]), hsz']
        · simp_all
        · simp_all
        · simp_all
        · exact h.elim
  · rename_i hu
    simp only [Option.bind_eq_bind, Option.bind_eq_some_iff, Option.some.injEq] at ht
    obtain ⟨x', hx, lo', hlo, hi', hhi, rfl⟩ := ht
    have h1 := opd_ok hR hx
    have hrun : ∀ (s : ByteArray) (l q m : Nat) (lo hi : Option Value), (Instr.sliceBounds false s.size s.size lo hi none).run P w = .ok (l, q, m) w →
        (Instr.sliceAt t (.string s) lo hi none).run P w = .ok (.string (s.extract l q)) w := by
      intro s l q m lo hi hb
      simp only [Instr.sliceAt, Sem.run_bind, run_underlying hu, Result.andThen_ok, Instr.slice]
      simp [hb]
    simp only [Option.map_none]
    cases lo with
    | none =>
      simp only [trMb, Option.some.injEq] at hlo; subst hlo
      cases hi with
      | none =>
        simp only [trMb, Option.some.injEq] at hhi; subst hhi
        simp only [ev, Option.map_none] at h ⊢
        split at h
        · simp_all
        · simp_all
        · simp_all
        · exact h.elim
      | some hi =>
        simp only [trMb, Option.map_eq_some_iff] at hhi
        obtain ⟨y, hy, rfl⟩ := hhi
        have h2 := opd_ok hR hy
        simp only [ev, Option.map_none, Option.map_some] at h ⊢
        split at h
        · simp_all
        · simp_all
        · rename_i s k z he _ hz
          rw [he] at h1
          simp only [Option.some.injEq] at hz
          rw [hz] at h2
          obtain ⟨hv, _⟩ := c_of h1
          obtain ⟨hzv, _⟩ := c_of h2
          obtain ⟨⟨g0, g1⟩, hK⟩ := h
          refine doneC hK (v := .string (s.extract 0 z.toNat)) ?_ ⟨rfl, rfl⟩
          rw [hv, hzv, hrun s 0 z.toNat s.size none _ (by simp [Instr.sliceBounds, run_bound g0 g1])]
        · exact h.elim
    | some lo =>
      simp only [trMb, Option.map_eq_some_iff] at hlo
      obtain ⟨ylo, hylo, rfl⟩ := hlo
      have h3 := opd_ok hR hylo
      cases hi with
      | none =>
        simp only [trMb, Option.some.injEq] at hhi; subst hhi
        simp only [ev, Option.map_none, Option.map_some] at h ⊢
        split at h
        · simp_all
        · rename_i s k z he hz _
          rw [he] at h1
          simp only [Option.some.injEq] at hz
          rw [hz] at h3
          obtain ⟨hv, _⟩ := c_of h1
          obtain ⟨hzv, _⟩ := c_of h3
          obtain ⟨⟨g0, g1⟩, hK⟩ := h
          refine doneC hK (v := .string (s.extract z.toNat s.size)) ?_ ⟨rfl, rfl⟩
          rw [hv, hzv, hrun s z.toNat s.size s.size _ none (by simp [Instr.sliceBounds, run_bound g0 g1])]
        · simp_all
        · exact h.elim
      | some hi =>
        simp only [trMb, Option.map_eq_some_iff] at hhi
        obtain ⟨y, hy, rfl⟩ := hhi
        have h2 := opd_ok hR hy
        simp only [ev, Option.map_some] at h ⊢
        split at h
        · rename_i s k z k' z' he hz hz2
          rw [he] at h1
          simp only [Option.some.injEq] at hz hz2
          rw [hz] at h3; rw [hz2] at h2
          obtain ⟨hv, _⟩ := c_of h1
          obtain ⟨hzv, _⟩ := c_of h3
          obtain ⟨hzv2, _⟩ := c_of h2
          obtain ⟨⟨g0, g1, g2⟩, hK⟩ := h
          refine doneC hK (v := .string (s.extract z.toNat z'.toNat)) ?_ ⟨rfl, rfl⟩
          rw [hv, hzv, hzv2, hrun s z.toNat z'.toNat s.size _ _ (by simp [Instr.sliceBounds, run_bound (show 0 ≤ z' by omega) g2, run_bound g0 (show z ≤ ((z'.toNat : Nat) : Int) by omega)])]
        · simp_all
        · simp_all
        · exact h.elim
  · simp at ht

theorem foldl_push : ∀ (l : List UInt8) (b : ByteArray), l.foldl (fun r n => r.push n) b = ⟨(b.data.toList ++ l).toArray⟩
  | [], b => by simp
  | x :: l, b => by rw [List.foldl_cons, foldl_push l]; simp [ByteArray.push]
theorem bytesOf_run {w : World} : ∀ {es : List (List D)} {l : List UInt8} {b off : Nat}, bytesOf es = some l →
    (∀ i e c d, es[i]? = some e → e[c]? = some d → ∃ v, w.cell? ⟨b, off + (i + c), none⟩ = some v ∧ (∀ x, d = .lf x → v = x)) →
    ∃ ns : List Int, l = ns.map (fun n => UInt8.ofNat n.toNat) ∧ ns.length = es.length ∧ ∀ j v, (ns.map (Value.int .u8))[j]? = some v → w.cell? ⟨b, off + j, none⟩ = some v
  | [], l, b, off, h, _ => by simp only [bytesOf, Option.some.injEq] at h; subst h; exact ⟨[], rfl, rfl, by simp⟩
  | e :: es, l, b, off, h, hc => by
    unfold bytesOf at h
    split at h
    · rename_i heq; cases heq
    · rename_i z es' heq
      cases heq
      simp only [Option.map_eq_some_iff] at h
      obtain ⟨l', hl', rfl⟩ := h
      obtain ⟨ns, hl, hlen, hn⟩ := bytesOf_run (b := b) (off := off + 1) hl' (fun i e c d he hd => by
        have := hc (i + 1) e c d (by simpa using he) hd
        rwa [show off + 1 + (i + c) = off + (i + 1 + c) by omega])
      refine ⟨z :: ns, by simp [hl], by simp [hlen], ?_⟩
      intro j v hj
      cases j with
      | zero =>
        simp at hj; subst hj
        obtain ⟨u, hu, hx⟩ := hc 0 _ 0 (.lf (.int .u8 z)) rfl rfl
        rw [hx _ rfl] at hu; exact hu
      | succ j =>
        have := hn j v (by simpa using hj)
        rwa [show off + 1 + j = off + (j + 1) by omega] at this
    · simp at h
theorem done_convert (hR : Rel N w0 own0 pl0 g pl S a w) {s d : TypeId} {x : Operand} {ty : TypeId} {i : I} (ht : trR P ty (.convert s d x) = some i) (h : ev S K i) :
    Done P pl S.next K (convert s d (a.eval x)) w := by
  simp only [trR, Option.bind_eq_bind, Option.bind_eq_some_iff] at ht
  obtain ⟨x', hx, ht⟩ := ht
  have h1 := opd_ok hR hx
  split at ht
  · rename_i k' k hs hd
    simp only [Option.some.injEq] at ht; subst ht
    simp only [ev] at h
    split at h
    · rename_i kk z he
      rw [he] at h1
      obtain ⟨hv, _⟩ := c_of h1
      refine doneC h (v := .int k (k.wrap z)) ?_ ⟨rfl, rfl⟩
      rw [hv]
      simp [convert, run_underlying hs, run_underlying hd, Conv.intToInt]
    · exact h.elim
  · rename_i e hs hd
    split at ht
    · rename_i he8
      simp only [Option.some.injEq] at ht; subst ht
      simp only [ev] at h
      have hru : ∀ v, (convert s d v).run P w = (match v with | .slice A n c => (Conv.bytesToString (.slice A n c)).run P w | _ => (convert s d v).run P w) := by
        intro v
        split
        · simp [convert, run_underlying hs, run_underlying hd, run_underlying he8]
        · rfl
      split at h
      · rename_i r p lo n he
        rw [he] at h1
        obtain ⟨hr, hsz, hnil, hle, A, hv, hA⟩ := c_of h1
        obtain ⟨l, hl, hK⟩ := h
        simp only [node_eq, Option.bind_eq_some_iff] at hl
        obtain ⟨m, hm, hl⟩ := hl
        split at hl
        · rename_i hlen
          obtain ⟨hr', hc⟩ := hR.hp.node hm
          have hm1 : m.1 = 1 := by rw [← hc.szp, hsz]
          obtain ⟨ns, hns, hnl, hcell⟩ := bytesOf_run (w := w) (b := (pl r p).b) (off := (pl r p).off + lo) hl (fun i e c dd hi hcc => by
            have hi' := get_drop_take rfl i e hi
            obtain ⟨v, hv, hdv⟩ := hc.cells (lo + i) e c dd hi' hcc
            rw [hm1] at hv
            refine ⟨v, by rw [Nat.mul_one] at hv; rwa [Nat.add_assoc, ← Nat.add_assoc lo], ?_⟩
            rintro x rfl
            exact hdv.1)
          have hnl' : ns.length = n := by rw [hnl]; simp; omega
          refine doneC hK (v := .string ⟨l.toArray⟩) ?_ ⟨rfl, rfl⟩
          rw [hv, hru]
          simp only
          cases A with
          | none =>
            have hn0 : n = 0 := by
              by_cases h0 : n = 0
              · exact h0
              · exfalso
                have := hA (.inl (by omega))
                cases hq : (pl r p).nil with
                | true => have := hnil hq; omega
                | false => rw [hq] at this; simp at this
            subst hn0
            have : ns = [] := List.length_eq_zero_iff.1 hnl'
            subst this
            rw [hns]
            simp [Conv.bytesToString, ByteArray.empty, ByteArray.emptyWithCapacity]
            rfl
          | some A =>
            have hload : (loadCells A n).run P w = .ok (ns.map (Value.int .u8)).toArray w := by
              by_cases h0 : n = 0
              · subst h0
                have : ns = [] := List.length_eq_zero_iff.1 hnl'
                subst this
                simp [loadCells, loadCellsFrom]
              · have hA' := hA (.inl (by omega))
                have hnn : (pl r p).nil = false := by
                  cases hq : (pl r p).nil with
                  | false => rfl
                  | true => have := hnil hq; omega
                rw [hnn] at hA'
                simp only [Bool.false_eq_true, if_false, Option.some.injEq] at hA'
                have := run_loadCells_list (P := P) w A (ns.map (Value.int .u8)) (fun j v hj => by
                  rw [hA', Addr.add_lit, hsz, Nat.mul_one]; exact hcell j v hj)
                rwa [List.length_map, hnl'] at this
            rw [run_bytesToString w A n _ ns hload, hns]
            rw [show (ns.foldl (fun r n => r.push (UInt8.ofNat n.toNat)) ByteArray.empty) = ((ns.map fun n => UInt8.ofNat n.toNat).foldl (fun r n => r.push n) ByteArray.empty) by rw [List.foldl_map], foldl_push]
            simp [ByteArray.empty, ByteArray.emptyWithCapacity]
            rfl
        · simp at hl
      · rename_i he
        rw [he] at h1
        have hv : a.eval x = .slice none 0 0 := c_of h1
        refine doneC h (v := .string .empty) ?_ ⟨rfl, rfl⟩
        rw [hv, hru]
        simp [Conv.bytesToString]
      · exact h.elim
    · simp at ht
  · rename_i hs hd
    simp only [Option.some.injEq] at ht; subst ht
    simp only [ev] at h
    split at h
    · rename_i s' he
      rw [he] at h1
      obtain ⟨hv, _⟩ := c_of h1
      refine doneC h (v := .string s') ?_ ⟨rfl, rfl⟩
      rw [hv]
      simp [convert, run_underlying hs, run_underlying hd]
    · exact h.elim
  · simp at ht

theorem cellsV_ok {nx : Nat} {x : V} {v : Value} {ys : List C} (h : VR pl nx x v) (hy : cellsV x = some ys) : All2 (CR pl nx) ys v.cells.toList := by
  unfold cellsV at hy
  split at hy
  · simp only [Option.some.injEq] at hy; subst hy
    rw [cells_one (CR.one (c_of h))]
    exact ⟨c_of h, trivial⟩
  · simp only [Option.some.injEq] at hy; subst hy
    obtain ⟨vs, rfl, hall⟩ := h
    simpa [Value.cells] using hall
  · simp at hy
theorem setFold (off : Nat) : ∀ (vs : List Value) (k : Nat) (cs : Array Value), off + k + vs.length ≤ cs.size →
    ((vs.zipIdx k).foldl (fun cs (c, j) => cs.setIfInBounds (off + j) c) cs).toList = cs.toList.take (off + k) ++ (vs ++ cs.toList.drop (off + k + vs.length))
  | [], k, cs, h => by simp
  | v :: vs, k, cs, h => by
    simp only [List.length_cons] at h
    rw [List.zipIdx_cons, List.foldl_cons]
    rw [setFold off vs (k + 1) _ (by simp; omega)]
    simp only [Array.toList_setIfInBounds, List.length_cons]
    apply List.ext_getElem?
    intro j
    simp only [List.getElem?_append, List.length_take, List.length_set, Array.length_toList, List.getElem?_take, List.getElem?_set, List.getElem?_drop, List.getElem?_cons, List.length_cons]
    by_cases h1 : j < off + k
    · simp [h1, show j < min (off + (k + 1)) cs.size by omega, show j < min (off + k) cs.size by omega, show j < off + (k + 1) by omega, show ¬ off + k = j by omega]
    · by_cases h2 : j = off + k
      · subst h2
        simp [show off + k < min (off + (k + 1)) cs.size by omega, show off + k < cs.size by omega, show ¬ (off + k < min (off + k) cs.size) by omega, show off + k - min (off + k) cs.size = 0 by omega, show off + k < off + (k + 1) by omega]
      · have e1 : ¬ j < min (off + (k + 1)) cs.size := by omega
        have e2 : ¬ j < min (off + k) cs.size := by omega
        have e3 : min (off + (k + 1)) cs.size = off + k + 1 := by omega
        have e4 : min (off + k) cs.size = off + k := by omega
        simp only [e1, e2, if_false]
        rw [e3, e4]
        have e5 : j - (off + k) - 1 = j - (off + k + 1) := by omega
        by_cases h3 : j - (off + k + 1) < vs.length
        · have h4 : j - (off + k) < vs.length + 1 := by omega
          simp [h3, h4, show ¬ (j - (off + k) = 0) by omega, e5]
        · have h4 : ¬ j - (off + k) < vs.length + 1 := by omega
          simp only [h3, h4, if_false]
          have e6 : off + (k + 1) + vs.length + (j - (off + k + 1) - vs.length) = j := by omega
          have e7 : off + k + (vs.length + 1) + (j - (off + k) - (vs.length + 1)) = j := by omega
          rw [e6, e7, if_neg (by omega)]
theorem All2.append {α β : Type} {R : α → β → Prop} : ∀ {as : List α} {bs : List β} {cs : List α} {ds : List β}, All2 R as bs → All2 R cs ds → All2 R (as ++ cs) (bs ++ ds)
  | [], [], _, _, _, h => h
  | _ :: _, _ :: _, _, _, h, k => ⟨h.1, All2.append h.2 k⟩
  | [], _ :: _, _, _, h, _ => h.elim
  | _ :: _, [], _, _, h, _ => h.elim
theorem All2.take {α β : Type} {R : α → β → Prop} : ∀ (n : Nat) {as : List α} {bs : List β}, All2 R as bs → All2 R (as.take n) (bs.take n)
  | 0, _, _, _ => by simp [All2]
  | n + 1, [], [], _ => trivial
  | n + 1, _ :: _, _ :: _, h => ⟨h.1, All2.take n h.2⟩
  | n + 1, [], _ :: _, h => h.elim
  | n + 1, _ :: _, [], h => h.elim
theorem All2.drop {α β : Type} {R : α → β → Prop} : ∀ (n : Nat) {as : List α} {bs : List β}, All2 R as bs → All2 R (as.drop n) (bs.drop n)
  | 0, _, _, h => h
  | n + 1, [], [], _ => trivial
  | n + 1, _ :: _, _ :: _, h => All2.drop n h.2
  | n + 1, [], _ :: _, h => h.elim
  | n + 1, _ :: _, [], h => h.elim
theorem fill_ok (hR : Rel N w0 own0 pl0 g pl S a w) (place : Nat → Option (Nat × Nat)) : ∀ (parts : List (Nat × Operand)) (offs : List (Nat × Nat × Opd)) (cs : List C) (vs : Array Value) (out : List C),
    All2 (fun (p : Nat × Operand) (o : Nat × Nat × Opd) => place p.1 = some (o.1, o.2.1) ∧ ∃ tx, trO P tx p.2 = some o.2.2) parts offs →
    All2 (CR pl S.next) cs vs.toList → fillC S cs offs = some out →
    ∃ arr, Instr.fill place vs (parts.map fun p => (p.1, a.eval p.2)) = some arr ∧ All2 (CR pl S.next) out arr.toList
  | [], [], cs, vs, out, _, hall, hf => by simp only [fillC, Option.some.injEq] at hf; subst hf; exact ⟨vs, rfl, hall⟩
  | (i, x) :: parts, (off, sz, y) :: offs, cs, vs, out, hp, hall, hf => by
    obtain ⟨⟨hpl, tx, htr⟩, hp⟩ := hp
    simp only at hpl htr
    unfold fillC at hf
    split at hf
    · rename_i ys hys
      split at hf
      · rename_i hle
        have hv := cellsV_ok (opd_ok hR htr) hys
        have hl := hv.length
        have hl2 := hall.length
        simp only [Array.length_toList] at hl hl2
        have e := setFold off (a.eval x).cells.toList 0 vs (by simp; omega)
        obtain ⟨arr, h1, h2⟩ := fill_ok hR place parts offs _ ((a.eval x).cells.zipIdx.foldl (fun cs (c, j) => cs.setIfInBounds (off + j) c) vs) out hp (by
          rw [← Array.foldl_toList, Array.toList_zipIdx, e]
          simp only [Nat.add_zero, Array.length_toList]
          rw [← hl, hle.1]
          exact (hall.take off).append (hv.append (hall.drop _))) hf
        refine ⟨arr, ?_, h2⟩
        simp only [List.map_cons, Instr.fill, hpl]
        rw [if_neg (by rw [← hl]; simp; omega)]
        exact h1
      · simp at hf
    · simp at hf
  | [], _ :: _, _, _, _, h, _, _ => h.elim
  | _ :: _, [], _, _, _, h, _, _ => h.elim
theorem cellsZero_ok {nx : Nat} {t : TypeId} {v : Value} {cs : List C} (h : cellsZero P t v = some cs) : All2 (CR pl nx) cs v.cells.toList := by
  unfold cellsZero at h
  split at h
  · rename_i hall
    simp only [Option.some.injEq] at h; subst h
    exact constCs_ok P pl nx _ _ fun u hu => by simpa using (Array.all_eq_true_iff_forall_mem.1 hall) u (by simpa using hu)
  · simp at h
theorem trFieldParts_ok {fs : Array Field} {places : List (Nat × Nat)} (hpl : fs.toList.mapM (fun f => (P.info? f.type).map fun i => (f.offset, i.size)) = some places) :
    ∀ (parts : List (Nat × Operand)) (offs : List (Nat × Nat × Opd)), trFieldParts P fs parts = some offs →
    All2 (fun (p : Nat × Operand) (o : Nat × Nat × Opd) => places.toArray[p.1]? = some (o.1, o.2.1) ∧ ∃ tx, trO P tx p.2 = some o.2.2) parts offs
  | [], offs, h => by simp only [trFieldParts, Option.some.injEq] at h; subst h; trivial
  | (i, x) :: parts, offs, h => by
    simp only [trFieldParts, Option.bind_eq_bind, Option.bind_eq_some_iff, Option.some.injEq] at h
    obtain ⟨f, hf, j, hj, y, hy, rest, hr, rfl⟩ := h
    refine ⟨⟨?_, _, hy⟩, trFieldParts_ok hpl parts rest hr⟩
    simp only [List.getElem?_toArray]
    have hl : ∀ (l : List Field) (q : List (Nat × Nat)), l.mapM (fun f => (P.info? f.type).map fun i => (f.offset, i.size)) = some q → ∀ (k : Nat) (f : Field) (j : TypeInfo), l[k]? = some f → P.info? f.type = some j → q[k]? = some (f.offset, j.size) := by
      intro l
      induction l with
      | nil => intro q _ k f j hk; simp at hk
      | cons b l ih =>
        intro q hq k f j hk hj
        simp only [List.mapM_cons, Option.bind_eq_bind, Option.bind_eq_some_iff, Option.pure_def, Option.some.injEq, Option.map_eq_some_iff] at hq
        obtain ⟨z, ⟨jb, hjb, rfl⟩, rest, hrest, rfl⟩ := hq
        cases k with
        | zero => simp at hk; subst hk; rw [hjb] at hj; simp at hj; subst hj; rfl
        | succ k => simpa using ih rest hrest k f j (by simpa using hk) hj
    exact hl fs.toList places hpl i f j (by simpa using hf) hj
theorem done_build (hR : Rel N w0 own0 pl0 g pl S a w) {t : TypeId} {parts : Array (Nat × Operand)} {ty : TypeId} {i : I} (ht : trR P ty (.build t parts) = some i) (h : ev S K i) :
    Done P pl S.next K (Instr.build t (parts.map fun (i, x) => (i, a.eval x))) w := by
  simp only [trR, Option.bind_eq_bind, Option.bind_eq_some_iff] at ht
  obtain ⟨it, hit, z, hz, ht⟩ := ht
  split at ht
  · rename_i fs hu
    split at ht
    · rename_i hall
      simp only [Option.bind_eq_some_iff, Option.some.injEq] at ht
      obtain ⟨zc, hzc, offs, hoffs, rfl⟩ := ht
      obtain ⟨cs, hcs, hK⟩ := h
      obtain ⟨places, hpl⟩ : ∃ places, fs.toList.mapM (fun f => (P.info? f.type).map fun i => (f.offset, i.size)) = some places := by
        have : ∀ l : List Field, (∀ f ∈ l, (P.info? f.type).isSome) → ∃ q, l.mapM (fun f => (P.info? f.type).map fun i => (f.offset, i.size)) = some q := by
          intro l
          induction l with
          | nil => intro _; exact ⟨[], rfl⟩
          | cons b l ih =>
            intro hb
            obtain ⟨q, hq⟩ := ih fun f hf => hb f (by simp [hf])
            obtain ⟨j, hj⟩ := Option.isSome_iff_exists.1 (hb b (by simp))
            exact ⟨(b.offset, j.size) :: q, by simp [List.mapM_cons, hj, hq]⟩
        exact this _ fun f hf => (Array.all_eq_true_iff_forall_mem.1 hall) f (by simpa using hf)
      obtain ⟨arr, h1, h2⟩ := fill_ok hR (places.toArray[·]?) parts.toList offs zc z.cells cs (trFieldParts_ok hpl _ _ hoffs) (cellsZero_ok hzc) hcs
      refine doneAg (vs := arr.toList) hK ?_ h2
      rw [run_build w t _ arr]
      unfold Program.built
      simp only [hit, hu, hz, hpl]
      simpa using h1
    · simp at ht
  · simp at ht

/-- An operation that writes nothing. -/
theorem ev_ok (hR : Rel N w0 own0 pl0 g pl S a w) {o : Oper} {i : I} (ht : trR P o.type o.op = some i) (h : ev S K i) :
    ∃ v x, (execOp a.eval o).run P w = .ok (.value v) w ∧ VR pl S.next x v ∧ K x := by
  obtain ⟨dst, op, ty, pos, after, guard⟩ := o
  have lift : ∀ {s : Sem Value}, Done P pl S.next K s w → (execOp a.eval ⟨dst, op, ty, pos, after, guard⟩ = do pure (.value (← s))) →
      ∃ v x, (execOp a.eval ⟨dst, op, ty, pos, after, guard⟩).run P w = .ok (.value v) w ∧ VR pl S.next x v ∧ K x := by
    rintro s ⟨v, x, hr, hv, hK⟩ he
    refine ⟨v, x, ?_, hv, hK⟩
    rw [he]
    simp [hr]
  cases op with
  | move x =>
    simp only [trR, Option.map_eq_some_iff] at ht
    obtain ⟨y, hy, rfl⟩ := ht
    exact lift (done_mv hR hy h) rfl
  | assign x =>
    simp only [trR, Option.map_eq_some_iff] at ht
    obtain ⟨y, hy, rfl⟩ := ht
    exact lift (done_mv hR hy h) rfl
  | pick c x y => exact lift (done_pick hR ht h) (by simp [execOp])
  | load t x => exact lift (done_load hR ht h) rfl
  | binOp op t x y t' => exact lift (done_bin hR ht h) rfl
  | unOp op t x => exact lift (done_un hR ht h) rfl
  | convert s d x => exact lift (done_convert hR ht h) rfl
  | slice t x lo hi mx => exact lift (done_slc hR ht h) rfl
  | fieldAddr t x f => exact lift (done_fad hR ht h) rfl
  | field t x f => exact lift (done_field hR ht h) rfl
  | indexAddr t x y => exact lift (done_iad hR ht h) rfl
  | index t x y => exact lift (done_idx hR ht h) rfl
  | extract x n => exact lift (done_ext hR ht h) rfl
  | nilCheck x =>
    simp only [trR, Option.map_eq_some_iff] at ht
    obtain ⟨y, hy, rfl⟩ := ht
    obtain ⟨A, hA, z, hz, hK⟩ := done_nilc hR hy h
    refine ⟨_, z, ?_, hz, hK⟩
    simp [execOp, hA]
  | call c =>
    obtain ⟨callee, args, tys⟩ := c
    cases callee with
    | builtin b =>
      cases b <;> first
        | (simp [trR] at ht; done)
        | exact lift (done_len hR (ty' := ty) ht h) (by simp [execOp, resolve, invoke, builtin])
    | value f => simp [trR] at ht
    | invoke _ _ => simp [trR] at ht
  | build t parts => exact lift (done_build hR ht h) rfl
  | _ => simp [trR] at ht
end Go.Vs
