import Derived.Test.YtboohaconpkhaaaDoorVsW5
import Derived.Test.YtboohaconpkhaaaDoorVsQr4
set_option linter.all false
namespace Go.Vs
set_option linter.unusedVariables false
set_option linter.unusedSimpArgs false
noncomputable section
theorem recB_len (g p : Int) (r : Rec) : (recB g p r).length ≤ 220 := by
 have h1 := rowB_len r.2.1
 have h2 := textB_len r.2.2.1
 have h3 : (bodyB r.1 r.2.1 r.2.2.1 r.2.2.2.1).length ≤ 200 := by
  unfold bodyB
  split
  ·omega
  split
  ·omega
  split
  ·simp
  ·simp
 unfold recB
 simp only [List.length_append, List.length_cons, wordB_len]
 omega
theorem body_put {A : Type} {k n : Int} {R : Row} {key z : List UInt8} {PR : List UInt8 × Row → Option (List UInt8)} {PT : List UInt8 × List UInt8 → Option (List UInt8)} (hok : bodyOk k R key n = true) (hz : z.length ≤ 1048576) (hR : rowOk R = true → PR (z, R) = some (z ++ rowB R)) (hT : nameOk key = true → PT (z, key) = some (z ++ textB key)) (K : List UInt8 → Option A) :
  joinX (cnd (iEq k 1) (bnd (PR (z, (R.1, ((R.2.1.1, R.2.1.2), ((R.2.2.1.1, R.2.2.1.2), (R.2.2.2.1, R.2.2.2.2)))))) (fun (z6 : (List UInt8)) => (some (.inl z6)))) (cnd (iEq k 2) (bnd (PT (z, key)) (fun (z6 : (List UInt8)) => (some (.inl z6)))) (cnd (iEq k 3) (chk (room (z.length + 1) 1) (some (.inl (lApp z [(u8 (iConv .u8 n))])))) (some (.inl z))))) K = K (z ++ bodyB k R key n) := by
 unfold bodyOk at hok
 unfold bodyB
 simp only [iEq_d]
 by_cases h1 : k = 1
 ·rw [if_pos h1] at hok ⊢
  simp only [Bool.and_eq_true] at hok
  rw [decide_eq_true h1, cnd_t, show PR (z, (R.1, ((R.2.1.1, R.2.1.2), ((R.2.2.1.1, R.2.2.1.2), (R.2.2.2.1, R.2.2.2.2))))) = _ from hR hok.1.1, bnd_s, joinX_l]
 rw [if_neg h1] at hok ⊢
 rw [decide_eq_false h1, cnd_f]
 by_cases h2 : k = 2
 ·rw [if_pos h2] at hok ⊢
  simp only [Bool.and_eq_true] at hok
  rw [decide_eq_true h2, cnd_t, hT hok.1.2, bnd_s, joinX_l]
 rw [if_neg h2] at hok ⊢
 rw [decide_eq_false h2, cnd_f]
 by_cases h3 : k = 3
 ·rw [if_pos h3] at hok ⊢
  simp only [Bool.and_eq_true, decide_eq_true_eq] at hok
  rw [decide_eq_true h3, cnd_t, room_ok (by omega), chk_t, joinX_l, conv_has hok.2.1]; rfl
 rw [if_neg h3, decide_eq_false h3, cnd_f, joinX_l, List.append_nil]
theorem rec_tail {q : List UInt8} {who code seq : Int} {PW : List UInt8 × Int → Option (List UInt8)} {SM : List UInt8 → Option Int} (hq : q.length ≤ 1048576) (h1 : 0 ≤ who) (h2 : 0 ≤ code) (h3 : 0 ≤ seq ∧ seq ≤ 65535) (hW : ∀ {l : List UInt8} {n : Int}, l.length ≤ 1099511627776 → 0 ≤ n → n < 65536 → PW (l, n) = some (l ++ wordB n)) (hS : ∀ {l : List UInt8}, l.length ≤ 1048576000 → SM l = some ((crc l : Nat) : Int)) :
  chk (room (q.length + 2) 1) (bnd (PW ((lApp q [(u8 (iConv .u8 who)), (u8 (iConv .u8 code))]), seq)) (fun (z7 : (List UInt8)) => (bnd (SM z7) (fun (z8 : Int) => (bnd (PW (z7, z8)) (fun (z9 : (List UInt8)) => (some z9))))))) = some (sumB (q ++ (yN who.toNat :: yN code.toNat :: wordB seq))) := by
 rw [room_ok (by omega), chk_t, conv_has h1, conv_has h2, hW (by simp only [lApp, List.length_append, List.length_cons, List.length_nil]; omega) h3.1 (by omega), bnd_s]
 have hl : (lApp q [yN who.toNat, yN code.toNat] ++ wordB seq).length ≤ 1048600 := by simp only [lApp, List.length_append, List.length_cons, List.length_nil, wordB_len]; omega
 rw [hS (by omega), bnd_s, hW (by omega) (by omega) (by have := crc_lt (lApp q [yN who.toNat, yN code.toNat] ++ wordB seq); omega), bnd_s]
 simp only [lApp, sumB, List.append_assoc, List.cons_append, List.nil_append]
theorem l1Word_s (x : Int) : F_s_l1Word x = some (decide (0 ≤ x ∧ x ≤ 65535)) := by unfold F_s_l1Word; rw [s_In, bnd_s]
theorem isWord_i (x : Int) : F_i_isWord x = some (decide (0 ≤ x ∧ x ≤ 65535)) := by unfold F_i_isWord; rw [i_In, bnd_s]
theorem s_PutRec {g p : Int} {r : Rec} (h : smC 1048576 r) : F_s_PutRec (g, (p, r)) = some (putRec g p r) := by
 obtain ⟨k, R, key, n, who, seq, code⟩ := r
 have hR := h.1
 have hk := h.2
 simp only at hR hk
 have e0 : F_s_RecOk (k, ((R.1, ((R.2.1.1, R.2.1.2), ((R.2.2.1.1, R.2.2.1.2), (R.2.2.2.1, R.2.2.2.2)))), (key, (n, (who, (seq, code)))))) = some (recOk (k, R, key, n, who, seq, code)) := s_RecOk (r := (k, R, key, n, who, seq, code)) (by have := hR.1; simp only; omega) (by simp only; omega)
 unfold F_s_PutRec putRec
 simp only [alt2_self, e0, l1Word_s, bnd_s]
 cases hok : recOk (k, R, key, n, who, seq, code) with
 | false => rw [if_neg (fun q => by cases q.1)]; rfl
 | true =>
 rw [bNot_t, cnd_f]
 by_cases hg : 0 ≤ g ∧ g ≤ 65535
 case neg => rw [decide_eq_false hg, if_neg (fun q => hg ⟨q.2.1, q.2.2.1⟩)]; rfl
 rw [decide_eq_true hg, bNot_t, cnd_f]
 by_cases hp : 0 ≤ p ∧ p ≤ 65535
 case neg => rw [decide_eq_false hp, if_neg (fun q => hp ⟨q.2.2.2.1, q.2.2.2.2⟩)]; rfl
 rw [decide_eq_true hp, bNot_t, cnd_f, if_pos ⟨rfl, hg.1, hg.2, hp.1, hp.2⟩]
 simp only [recOk, Bool.and_eq_true] at hok
 obtain ⟨hb, hw⟩ := hok
 have hw' := whoOk_has hw
 obtain ⟨_, hk1, hk2⟩ := pBody_put hb []
 rw [s_PutW (by simp) hg.1 (by omega), bnd_s, s_PutW (by simp [wordB]) hp.1 (by omega), bnd_s, room_ok (by simp [wordB]), chk_t, conv_has (show 0 ≤ k by omega)]
 have hl : (lApp ([] ++ wordB g ++ wordB p) [yN k.toNat]).length = 5 := by simp [lApp, wordB]
 have hbl : (bodyB k R key n).length ≤ 200 := by
  have := recB_len g p (k, R, key, n, who, seq, code)
  simp only [recB, List.length_append, List.length_cons, wordB_len] at this
  have h1 := rowB_len R
  have h2 := textB_len key
  unfold bodyB
  split
  ·omega
  split
  ·omega
  split
  ·simp
  ·simp
 rw [body_put (PR := F_s_PutRow) (PT := F_s_PutText) hb (by omega) (fun q => by rw [s_PutRow (by omega) hR, putRow, if_pos q]) (fun q => s_PutText (by omega) (by omega))]
 rw [rec_tail (PW := F_s_PutW) (SM := F_s_Sum) (by rw [List.length_append, hl]; omega) hw'.1 hw'.2.2.2.2.1 ⟨hw'.2.2.1, hw'.2.2.2.1⟩ s_PutW s_Sum]
 simp only [recB, lApp, List.append_assoc, List.cons_append, List.nil_append]
theorem i_PutRec {g p : Int} {r : Rec} (h : smC 1048576 r) : F_i_PutRec (g, (p, r)) = some (putRec g p r) := by
 obtain ⟨k, R, key, n, who, seq, code⟩ := r
 have hR := h.1
 have hk := h.2
 simp only at hR hk
 have e0 : F_i_RecOk (k, ((R.1, ((R.2.1.1, R.2.1.2), ((R.2.2.1.1, R.2.2.1.2), (R.2.2.2.1, R.2.2.2.2)))), (key, (n, (who, (seq, code)))))) = some (recOk (k, R, key, n, who, seq, code)) := i_RecOk (r := (k, R, key, n, who, seq, code)) (by have := hR.1; simp only; omega) (by simp only; omega)
 unfold F_i_PutRec putRec
 simp only [alt2_self, e0, isWord_i, bnd_s]
 cases hok : recOk (k, R, key, n, who, seq, code) with
 | false => rw [if_neg (fun q => by cases q.1)]; rfl
 | true =>
 rw [bNot_t, cnd_f]
 by_cases hg : 0 ≤ g ∧ g ≤ 65535
 case neg => rw [decide_eq_false hg, if_neg (fun q => hg ⟨q.2.1, q.2.2.1⟩)]; rfl
 rw [decide_eq_true hg, bNot_t, cnd_f]
 by_cases hp : 0 ≤ p ∧ p ≤ 65535
 case neg => rw [decide_eq_false hp, if_neg (fun q => hp ⟨q.2.2.2.1, q.2.2.2.2⟩)]; rfl
 rw [decide_eq_true hp, bNot_t, cnd_f, if_pos ⟨rfl, hg.1, hg.2, hp.1, hp.2⟩]
 simp only [recOk, Bool.and_eq_true] at hok
 obtain ⟨hb, hw⟩ := hok
 have hw' := whoOk_has hw
 obtain ⟨_, hk1, hk2⟩ := pBody_put hb []
 rw [i_PutW (by simp) hg.1 (by omega), bnd_s, i_PutW (by simp [wordB]) hp.1 (by omega), bnd_s, room_ok (by simp [wordB]), chk_t, conv_has (show 0 ≤ k by omega)]
 have hl : (lApp ([] ++ wordB g ++ wordB p) [yN k.toNat]).length = 5 := by simp [lApp, wordB]
 have hbl : (bodyB k R key n).length ≤ 200 := by
  have := recB_len g p (k, R, key, n, who, seq, code)
  simp only [recB, List.length_append, List.length_cons, wordB_len] at this
  have h1 := rowB_len R
  have h2 := textB_len key
  unfold bodyB
  split
  ·omega
  split
  ·omega
  split
  ·simp
  ·simp
 rw [body_put (PR := F_i_PutRow) (PT := F_i_PutText) hb (by omega) (fun q => by rw [i_PutRow (by omega) hR, putRow, if_pos q]) (fun q => i_PutText (by omega) (by omega))]
 rw [rec_tail (PW := F_i_PutW) (SM := F_i_Sum) (by rw [List.length_append, hl]; omega) hw'.1 hw'.2.2.2.2.1 ⟨hw'.2.2.1, hw'.2.2.2.1⟩ i_PutW i_Sum]
 simp only [recB, lApp, List.append_assoc, List.cons_append, List.nil_append]
theorem markRec_m {r : Rec} {m : Int} (h : smC 1048576 r) (h0 : 0 ≤ m) (hm : m ≤ 576460752303423488) : ∃ m' x y, F_l_markRec (r, m) = some (m', x, y) ∧ x.length = r.2.1.2.1.2.length ∧ y.length = r.2.1.2.2.1.2.length ∧ m ≤ m' := by
 obtain ⟨m', x, y, a, b, c, d, e⟩ := markRow_at (r := r.2.1) (m := m) h.1 h0 hm
 refine ⟨m', x, y, ?_, c, d, e⟩
 unfold F_l_markRec
 rw [show F_l_markRow ((r.2.1.1, ((r.2.1.2.1.1, r.2.1.2.1.2), ((r.2.1.2.2.1.1, r.2.1.2.2.1.2), (r.2.1.2.2.2.1, r.2.1.2.2.2.2)))), m) = some (m', x, y) from a, bnd_s]
 simp only [c, d, nEq_r, chk_t]
theorem putRec_len (g p : Int) (r : Rec) : (putRec g p r).length ≤ 222 := by
 unfold putRec
 split
 ·have := recB_len g p r
  unfold sumB
  rw [List.length_append, wordB_len]; omega
 ·simp
theorem law_PutRec {x : Int × Int × Rec} (h : smC 9223372036854775807 x.2.2) : F_l_FnExactPutRec x = some true := by
 obtain ⟨g, p, r⟩ := x
 simp only at h
 obtain ⟨z, h1, h2, h3⟩ := szRec_ok (k := 1048576) (by omega) (by omega) h
 unfold F_l_FnExactPutRec
 simp only
 rw [show F_l_szRec ((r.1, ((r.2.1.1, ((r.2.1.2.1.1, r.2.1.2.1.2), ((r.2.1.2.2.1.1, r.2.1.2.2.1.2), (r.2.1.2.2.2.1, r.2.1.2.2.2.2)))), (r.2.2.1, (r.2.2.2.1, (r.2.2.2.2.1, (r.2.2.2.2.2.1, r.2.2.2.2.2.2)))))), 1048576) = some z from h1, bnd_s]
 by_cases hz : z < 0
 ·rw [iLt_y hz]; rfl
 rw [iLt_n (by omega), cnd_f]
 have hs := h3 (by omega)
 have e1 : F_l_toRec (r.1, ((r.2.1.1, ((r.2.1.2.1.1, r.2.1.2.1.2), ((r.2.1.2.2.1.1, r.2.1.2.2.1.2), (r.2.1.2.2.2.1, r.2.1.2.2.2.2)))), (r.2.2.1, (r.2.2.2.1, (r.2.2.2.2.1, (r.2.2.2.2.2.1, r.2.2.2.2.2.2)))))) = some r := toRec_ok (hs.mono (by omega))
 have e2 : F_s_PutRec (g, (p, (r.1, ((r.2.1.1, ((r.2.1.2.1.1, r.2.1.2.1.2), ((r.2.1.2.2.1.1, r.2.1.2.2.1.2), (r.2.1.2.2.2.1, r.2.1.2.2.2.2)))), (r.2.2.1, (r.2.2.2.1, (r.2.2.2.2.1, (r.2.2.2.2.2.1, r.2.2.2.2.2.2)))))))) = some (putRec g p r) := s_PutRec (r := r) hs
 have e3 : F_i_PutRec (g, (p, (r.1, ((r.2.1.1, ((r.2.1.2.1.1, r.2.1.2.1.2), ((r.2.1.2.2.1.1, r.2.1.2.2.1.2), (r.2.1.2.2.2.1, r.2.1.2.2.2.2)))), (r.2.2.1, (r.2.2.2.1, (r.2.2.2.2.1, (r.2.2.2.2.2.1, r.2.2.2.2.2.2)))))))) = some (putRec g p r) := i_PutRec (r := r) hs
 have hl := putRec_len g p r
 obtain ⟨m1, x1, y1, a1, a2, a3, a4⟩ := markRec_m (r := r) (m := 1) hs (by omega) (by omega)
 obtain ⟨m2, x2, c1, c2, c3, c4, c5⟩ := markByteS_ok (x := putRec g p r) (m := 1) (by omega) (by omega) (by omega)
 have e4 : F_l_eqRec ((r.1, ((r.2.1.1, ((r.2.1.2.1.1, r.2.1.2.1.2), ((r.2.1.2.2.1.1, r.2.1.2.2.1.2), (r.2.1.2.2.2.1, r.2.1.2.2.2.2)))), (r.2.2.1, (r.2.2.2.1, (r.2.2.2.2.1, (r.2.2.2.2.2.1, r.2.2.2.2.2.2)))))), (r.1, ((r.2.1.1, ((r.2.1.2.1.1, r.2.1.2.1.2), ((r.2.1.2.2.1.1, r.2.1.2.2.1.2), (r.2.1.2.2.2.1, r.2.1.2.2.2.2)))), (r.2.2.1, (r.2.2.2.1, (r.2.2.2.2.1, (r.2.2.2.2.2.1, r.2.2.2.2.2.2))))))) = some true := eqRec_ok (r := r) (hs.mono (by omega))
 have e5 := eqByteS_ok (x := putRec g p r) (by omega)
 have e7 : F_l_markRec ((r.1, ((r.2.1.1, ((r.2.1.2.1.1, r.2.1.2.1.2), ((r.2.1.2.2.1.1, r.2.1.2.2.1.2), (r.2.1.2.2.2.1, r.2.1.2.2.2.2)))), (r.2.2.1, (r.2.2.2.1, (r.2.2.2.2.1, (r.2.2.2.2.2.1, r.2.2.2.2.2.2)))))), 1) = some (m1, x1, y1) := a1
 simp (disch := omega) only [e1, e2, e3, e4, e5, e7, a2, a3, c1, c2, c3, bnd_s, cnd_f, bNot_t, nEq_r, chk_t, iLt_n, iNe_r, bNe_r]
end
end Go.Vs
