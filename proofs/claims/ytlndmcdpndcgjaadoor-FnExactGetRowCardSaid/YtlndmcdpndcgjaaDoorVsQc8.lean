import Derived.Test.YtlndmcdpndcgjaaDoorVsW4
import Derived.Test.YtlndmcdpndcgjaaDoorVsQc7
set_option linter.all false
namespace Go.Vs
set_option linter.unusedVariables false
set_option linter.unusedSimpArgs false
noncomputable section
def zRow : Row := ([], ((0, []), ((0, []), (0, false))))
def getRowAt (l : List UInt8) (a : Int) : Row × Int × Bool := match pRow (suf l a) with
  | none => (zRow, (0, false))
  | some (r, q) => (r, ((l.length : Int) - q.length, true))
theorem noCell_len {c : Cell} (h : noCell c = true) : c.2.length = 0 := by rw [noCell_eq h]; rfl
theorem rowOk_sm {r : Row} (h : rowOk r = true) : smR 60 r := by
  obtain ⟨a, b, c, d, e, _⟩ := rowOk_has h
  have h1 := (nameOk_len a).2
  refine ⟨by omega, ?_, ?_⟩
  · by_cases h2 : r.2.2.2.1 = 2
    · rw [rOldOk, if_pos h2] at d
      have := noCell_len d; omega
    · have := (rOldOk_some d h2).2.2.1; omega
  · by_cases h2 : r.2.2.2.1 = 1
    · rw [rNewOk, if_pos h2] at e
      have := noCell_len e; omega
    · have := (rNewOk_some e h2).2.2; omega
theorem pRow_some {t q : List UInt8} {r : Row} (h : pRow0 t = some (r, q)) : pRow t = if rowOk r = true then some (r, q) else none := by
  unfold pRow; rw [h]
theorem pRow_none {t : List UInt8} (h : pRow0 t = none) : pRow t = none := by
  unfold pRow; rw [h]
theorem suf_out {l : List UInt8} {a : Int} (h : ¬ (0 ≤ a ∧ a ≤ l.length)) : suf l a = [] := by
  by_cases h0 : a < 0
  · exact suf_neg h0
  · obtain ⟨k, rfl⟩ := Int.eq_ofNat_of_zero_le (show 0 ≤ a by omega)
    rw [suf_n]; exact List.drop_eq_nil_of_le (by omega)
theorem Rd.of {l : List UInt8} {a : Int} (h : 0 ≤ a ∧ a ≤ l.length) : Rd l a (suf l a) := ⟨h.1, h.2, rfl⟩
theorem pRow_len {t q : List UInt8} {r : Row} (h : pRow0 t = some (r, q)) : r.1.length ≤ 60 := by
  unfold pRow0 at h
  split at h
  · cases h
  · rename_i hk
    have := (textB_of hk).2
    repeat (first | (split at h; · cases h) | split at h)
    all_goals first | (cases h; done) | (simp only [Option.some.injEq, Prod.mk.injEq] at h; obtain ⟨rfl, rfl⟩ := h; exact this)
theorem s_GetRow {l : List UInt8} {a : Int} (hl : l.length ≤ 1048576000) : F_s_GetRow (l, a) = some (getRowAt l a) := by
  unfold F_s_GetRow getRowAt
  by_cases h0 : a < 0
  · rw [iLt_y h0, cnd_t]
    simp only [s_rowB hl, bnd_s, cnd_t, suf_neg h0]; rfl
  rw [iLt_n (by omega), cnd_f]
  by_cases h1 : a ≤ l.length
  · have hr := s_row hl (Rd.of (l := l) (a := a) ⟨by omega, h1⟩)
    simp only [iGt_n (show a ≤ lLen l by simp only [lLen_def]; omega)]
    cases hp : pRow0 (suf l a) with
    | none =>
      rw [hp] at hr
      obtain ⟨v, b, e⟩ := hr
      simp only [e, bnd_s, cnd_t, pRow_none hp]; rfl
    | some w =>
      obtain ⟨r, q⟩ := w
      rw [hp] at hr
      obtain ⟨b, e, rd⟩ := hr
      have hb := rd.len
      have hk := pRow_len hp
      have e2 : F_s_RowOk (r.1, ((r.2.1.1, r.2.1.2), ((r.2.2.1.1, r.2.2.1.2), (r.2.2.2.1, r.2.2.2.2)))) = some (rowOk r) := s_RowOk (r := r) (by omega)
      simp only [e, bnd_s, cnd_f, e2, pRow_some hp]
      cases hok : rowOk r with
      | false => rfl
      | true =>
        rw [bNot_t, cnd_f, if_pos rfl, show b = (l.length : Int) - q.length by omega]
  · simp only [iGt_y (show lLen l < a by simp only [lLen_def]; omega), s_rowB hl, bnd_s, cnd_t, suf_out (l := l) (a := a) (by omega)]; rfl
theorem i_GetRow {l : List UInt8} {a : Int} (hl : l.length ≤ 1048576000) : F_i_GetRow (l, a) = some (getRowAt l a) := by
  unfold F_i_GetRow getRowAt
  by_cases h1 : 0 ≤ a ∧ a ≤ l.length
  · have hr := i_row hl (Rd.of (l := l) (a := a) h1)
    cases hp : pRow (suf l a) with
    | none =>
      rw [hp] at hr
      obtain ⟨v, b, e⟩ := hr
      simp only [e, bnd_s, cnd_t]; rfl
    | some w =>
      obtain ⟨r, q⟩ := w
      rw [hp] at hr
      obtain ⟨b, e, rd⟩ := hr
      have hb := rd.len
      simp only [e, bnd_s, cnd_f]
      rw [show b = (l.length : Int) - q.length by omega]
  · have hs := suf_out h1
    have e1 : F_i_scan_text (l, (a, false)) = some ([], (a, true)) := by
      unfold F_i_scan_text; simp only [i_GetText hl, hs, bnd_s]; rfl
    have e2 : F_i_scan_row (l, (a, false)) = some (zRow, (a, true)) := by
      unfold F_i_scan_row
      simp only [e1, bnd_s, i_oneB, bits0, cnd_f, joinX_l, cnd_t]; rfl
    simp only [e2, bnd_s, cnd_t, hs]; rfl
theorem getRowAt_sm (l : List UInt8) (a : Int) : smR 60 (getRowAt l a).1 := by
  unfold getRowAt
  split
  · exact ⟨by decide, by decide, by decide⟩
  · rename_i h
    exact rowOk_sm (rowB_of h).2
theorem law_GetRow {x : List UInt8 × Int} (hx : x.1.length ≤ 9223372036854775807) : F_l_FnExactGetRow x = some true := by
  obtain ⟨l, a⟩ := x
  simp only at hx
  unfold F_l_FnExactGetRow
  simp only
  by_cases hl : (l.length : Int) ≤ 1048576
  case neg => rw [iGt_y (by simp only [lLen_def]; omega)]; rfl
  rw [iGt_n (by simp only [lLen_def]; omega), cnd_f]
  have e0 := toByteS_ok (x := l) (by omega)
  have e2 := s_GetRow (l := l) (a := a) (by omega)
  have e3 := i_GetRow (l := l) (a := a) (by omega)
  have hs := getRowAt_sm l a
  generalize getRowAt l a = v at e2 e3 hs
  obtain ⟨r, p, ok⟩ := v
  simp only at hs
  obtain ⟨m1, x1, a1, a2, a3, a4, a5⟩ := markByteS_ok (x := l) (m := 1) (by omega) (by omega) (by omega)
  obtain ⟨m2, x2, y2, b1, b2, b3, b4, b5⟩ := markRow_at (r := r) (m := 1) (hs.mono (by omega)) (by omega) (by omega)
  have e4 : F_l_eqRow ((r.1, ((r.2.1.1, r.2.1.2), ((r.2.2.1.1, r.2.2.1.2), (r.2.2.2.1, r.2.2.2.2)))), (r.1, ((r.2.1.1, r.2.1.2), ((r.2.2.1.1, r.2.2.1.2), (r.2.2.2.1, r.2.2.2.2))))) = some true := eqRow_ok (hs.mono (by omega))
  have e5 := eqByteS_ok (x := l) (by omega)
  have e7 : F_l_markRow ((r.1, ((r.2.1.1, r.2.1.2), ((r.2.2.1.1, r.2.2.1.2), (r.2.2.2.1, r.2.2.2.2)))), 1) = some (m2, x2, y2) := b1
  simp (disch := omega) only [e0, e2, e3, e4, e5, e7, a1, a3, b2, b3, b4, bnd_s, cnd_f, bNot_t, nEq_r, chk_t, iLt_n, iNe_r, bNe_r]
end
end Go.Vs
