import Derived.Test.YtboohaconpkhaaaDoorVsW5
import Derived.Test.YtboohaconpkhaaaDoorVsQr1
set_option linter.all false
namespace Go.Vs
set_option linter.unusedVariables false
set_option linter.unusedSimpArgs false
noncomputable section
abbrev Cell := Int × List UInt8
theorem szByteS_ok {l : List UInt8} {k : Int} (h0 : 0 ≤ k) (hk : k ≤ 4611686018427387904) (hl : l.length ≤ 9223372036854775807) : SzR (F_l_szByteS (l, k)) k ((l.length : Int) ≤ k) := by
 have e : iSub .i64 k (lLen l) = k - l.length := iSub_ok (by simp only [lLen_def]; omega) (by simp only [lLen_def]; omega)
 exact (SzR.sub (P := True) h0 hk hl fun h => by simp only [e]; exact SzR.done).mono (Int.le_refl _) fun h => h.1
theorem toByteS_ok {x : List UInt8} (hl : x.length ≤ 140737488355328) : F_l_toByteS x = some x := by
 have : F_l_toByteS x = toLst (fun b => some b) 0 1 x := rfl
 rw [this]
 exact toLst_ok (by omega) (by omega) fun _ _ => rfl
theorem eqByteS_ok {x : List UInt8} (hl : x.length < 9223372036854775807) : F_l_eqByteS (x, x) = some true := by
 unfold F_l_eqByteS
 simp only [iNe_r, cnd_f]
 refine loop_exact (fun i => (i : Int)) x.length true ?_ ?_ 0 rfl
 ·intro i hi
  unfold S_l_eqByteS_0
  rw [iLt_y (by simp only [lLen_def]; omega), cnd_t, idx_at hi, bnd_s, bnd_s, iNe_r, cnd_f, iAdd_1 (by omega)]
 ·unfold S_l_eqByteS_0
  rw [iLt_n (by simp only [lLen_def]; omega), cnd_f]
theorem szCell_ok {c : Cell} {k : Int} (h0 : 0 ≤ k) (hk : k ≤ 4611686018427387904) (hl : c.2.length ≤ 9223372036854775807) : SzR (F_l_szCell (c, k)) k ((c.2.length : Int) ≤ k) := SzR.one h0 (szByteS_ok h0 hk hl)
theorem toCell_ok {c : Cell} (hl : c.2.length ≤ 140737488355328) : F_l_toCell c = some c := by
 unfold F_l_toCell; rw [toByteS_ok hl]; rfl
theorem eqCell_ok {c : Cell} (hl : c.2.length < 9223372036854775807) : F_l_eqCell (c, c) = some true := by
 unfold F_l_eqCell
 simp only [iNe_r, cnd_f, eqByteS_ok hl, bnd_s, bNot_t]
def HB (m : Int) (b : UInt8) (m' : Int) : Prop := m < 9223372036854775807 ∧ 0 ≤ m ∧ b = u8 (iConv .u8 m) ∧ m' = m + 1
theorem markByteS_big {x : List UInt8} {m : Int} (h0 : 0 ≤ m) (hm : m ≤ 1152921504606846976) (hl : x.length ≤ 140737488355328) : ∃ m' x', F_l_markByteS (x, m) = some (m', x') ∧ F_l_heldByteS (x', m) = some m' ∧ x'.length = x.length ∧ m ≤ m' ∧ m' ≤ m + x.length := by
 obtain ⟨l', m', h1, h2, h3, h4, h5⟩ := mark_loop (H := HB) (K := 1) (x := x) (m0 := m) (step := S_l_markByteS_0) (by omega) (by omega) (by
  intro l k i hi hll hx hk1 hk2
  refine ⟨u8 (iConv .u8 k), k + 1, ?_, ⟨by omega, by omega, rfl, rfl⟩, ?_, ?_⟩
  ·simp only [S_l_markByteS_0]
   rw [iLt_y (by simp only [lLen_def]; omega), cnd_t]
   simp (disch := omega) only [idx_n, hx, bnd_s, nOf_n, iAdd_ok]
  ·omega
  ·omega) (by
  intro l k hll
  simp only [S_l_markByteS_0]
  rw [iLt_n (by simp only [lLen_def]; omega), cnd_f])
 refine ⟨m', l', ?_, ?_, h3, h4, by omega⟩
 ·unfold F_l_markByteS
  simp only [h1, joinX_l, h3, nEq_r, chk_t]
 ·unfold F_l_heldByteS
  simp only
  rw [held_loop (H := HB) (m1 := m') (by omega) h2 (by
   rintro k k' i hi ⟨q1, q2, a, b⟩
   simp only [S_l_heldByteS_0]
   rw [iLt_y (by simp only [lLen_def]; omega), cnd_t, idx_at hi, bnd_s, a, iNe_r, cnd_f, b, iAdd_ok (by omega) (by omega), iAdd_ok (by omega) (by omega)]) (by
   intro k
   simp only [S_l_heldByteS_0]
   rw [iLt_n (by simp only [lLen_def]; omega), cnd_f])]
  rfl
theorem markByteS_ok {x : List UInt8} {m : Int} (h0 : 0 ≤ m) (hm : m ≤ 1152921504606846976) (hl : x.length ≤ 1048576) : ∃ m' x', F_l_markByteS (x, m) = some (m', x') ∧ F_l_heldByteS (x', m) = some m' ∧ x'.length = x.length ∧ m ≤ m' ∧ m' ≤ m + 1048576 := by
 obtain ⟨m', x', a, b, c, d, e⟩ := markByteS_big (x := x) h0 hm (by omega)
 exact ⟨m', x', a, b, c, d, by omega⟩
abbrev Row := List UInt8 × Cell × Cell × Int × Bool
def smR (B : Nat) (r : Row) : Prop := r.1.length ≤ B ∧ r.2.1.2.length ≤ B ∧ r.2.2.1.2.length ≤ B
theorem szRow_ok {r : Row} {k : Int} (h0 : 0 ≤ k) (hk : k ≤ 1048576) (hl : smR 9223372036854775807 r) : SzR (F_l_szRow (r, k)) k (smR 1048576 r) := by
 obtain ⟨a, b, c⟩ := hl
 have e : iSub .i64 k (lLen r.1) = k - r.1.length := iSub_ok (by simp only [lLen_def]; omega) (by simp only [lLen_def]; omega)
 unfold F_l_szRow
 refine (SzR.sub (P := r.2.1.2.length ≤ 1048576 ∧ r.2.2.1.2.length ≤ 1048576) h0 (by omega) a fun h => ?_).mono (Int.le_refl _) fun h => ⟨by have := h.1; omega, h.2⟩
 simp only [e]
 refine SzR.seq (by omega) ((szCell_ok (c := r.2.1) (by omega) (by omega) b).mono (Int.le_refl _) fun h => by omega) fun z hz hz2 => ?_
 exact SzR.one hz ((szCell_ok (c := r.2.2.1) hz (by omega) c).mono (Int.le_refl _) fun h => by omega)
theorem toRow_ok {r : Row} (h : smR 140737488355328 r) : F_l_toRow r = some r := by
 unfold F_l_toRow
 rw [toCell_ok (c := (r.2.1.1, r.2.1.2)) h.2.1, bnd_s, toCell_ok (c := (r.2.2.1.1, r.2.2.1.2)) h.2.2]; rfl
theorem eqRow_ok {r : Row} (h : smR 9223372036854775806 r) : F_l_eqRow (r, r) = some true := by
 have e1 := eqCell_ok (c := (r.2.1.1, r.2.1.2)) (Nat.lt_succ_of_le h.2.1)
 have e2 := eqCell_ok (c := (r.2.2.1.1, r.2.2.1.2)) (Nat.lt_succ_of_le h.2.2)
 unfold F_l_eqRow
 simp only [iNe_r, cnd_f, sEq_r, bNot_t, e1, e2, bnd_s, bNe_r]
theorem smR.mono {A B : Nat} {r : Row} (h : smR A r) (hab : A ≤ B) : smR B r := ⟨Nat.le_trans h.1 hab, Nat.le_trans h.2.1 hab, Nat.le_trans h.2.2 hab⟩
def cellOk (c : Cell) : Bool := decide (0 ≤ c.1 ∧ c.1 ≤ 5) && decide (c.2.length ≤ 20)
def cellText (c : Cell) : Option (List UInt8) := if cellOk c then decodeT c.1.toNat c.2 else none
def sameText (a b : Cell) : Bool := match cellText a, cellText b with
 | some x, some y => x == y
 | _, _ => false
theorem cellText_ok {c : Cell} {t : List UInt8} (h : cellText c = some t) : cellOk c = true ∧ decodeT c.1.toNat c.2 = some t := by
 unfold cellText at h
 split at h
 ·rename_i h1; exact ⟨h1, h⟩
 ·cases h
theorem s_CellOk (c : Cell) : F_s_CellOk c = some (cellOk c) := by
 unfold F_s_CellOk F_s_l5Cs cellOk
 simp only [s_In, bnd_s, cnd_if]
 split
 ·rename_i h
  have : (0 : Int) ≤ c.1 ∧ c.1 ≤ 5 := by simpa using h
  rw [decide_eq_true this]
  simp only [Bool.true_and, iLe, lLen_def]
  exact congrArg some (decide_eq_decide.2 (by omega))
 ·rename_i h
  have : ¬ ((0 : Int) ≤ c.1 ∧ c.1 ≤ 5) := by simpa using h
  rw [decide_eq_false this]; rfl
theorem i_CellOk (c : Cell) : F_i_CellOk c = some (cellOk c) := s_CellOk c
theorem cellText_f {c : Cell} {F : Int × List UInt8 → Option (List UInt8 × Bool)} (hF : ∀ {cs : Nat} {b : List UInt8}, cs ≤ 5 → b.length ≤ 1048576 → F ((cs : Int), b) = some (optR (decodeT cs b))) :
  (bnd (some (cellOk c)) (fun (z1 : Bool) => (cnd (bNot z1) (some ([], false)) (bnd (F (c.1, c.2)) (fun (z2 : ((List UInt8) × Bool)) => (some (z2.1, z2.2))))))) = some (optR (cellText c)) := by
 rw [bnd_s]
 unfold cellText
 cases h : cellOk c with
 | false => rfl
 | true =>
  simp only [bNot_t, cnd_f, if_true]
  simp only [cellOk, Bool.and_eq_true, decide_eq_true_eq] at h
  obtain ⟨⟨h0, h5⟩, hl⟩ := h
  obtain ⟨t, b⟩ := c
  simp only at h0 h5 hl ⊢
  obtain ⟨n, rfl⟩ := Int.eq_ofNat_of_zero_le h0
  rw [hF (by omega) (by omega), bnd_s]; rfl
theorem s_CellText (c : Cell) : F_s_CellText c = some (optR (cellText c)) := by
 unfold F_s_CellText
 rw [show F_s_CellOk (c.1, c.2) = some (cellOk c) from s_CellOk c]
 exact cellText_f fun h1 h2 => s_Decode h1 h2
theorem i_CellText (c : Cell) : F_i_CellText c = some (optR (cellText c)) := by
 unfold F_i_CellText
 rw [show F_i_CellOk (c.1, c.2) = some (cellOk c) from i_CellOk c]
 exact cellText_f fun h1 h2 => i_Decode h1 h2
theorem same_f {a b : Cell} {F : Cell → Option (List UInt8 × Bool)} (hF : ∀ c, F c = some (optR (cellText c))) : (bnd (F (a.1, a.2)) (fun (z1 : ((List UInt8) × Bool)) => (bnd
 (F (b.1, b.2)) (fun (z2 : ((List UInt8) × Bool)) => (cnd z1.2 (cnd z2.2 (some (sEq z1.1 z2.1)) (some false)) (some false)))))) = some (sameText a b) := by
 rw [hF, bnd_s, hF, bnd_s]
 unfold sameText
 cases h1 : cellText a <;> cases h2 : cellText b <;> rfl
theorem s_SameText (a b : Cell) : F_s_SameText (a, b) = some (sameText a b) := same_f s_CellText
theorem i_SameText (a b : Cell) : F_i_SameText (a, b) = some (sameText a b) := same_f i_CellText
def noCell (c : Cell) : Bool := decide (c.1 = 0) && c.2.isEmpty
def nameB (c : UInt8) : Bool := decide (97 ≤ c.toNat ∧ c.toNat ≤ 122) || decide (48 ≤ c.toNat ∧ c.toNat ≤ 57)
def nameOk (s : List UInt8) : Bool := s.all nameB && decide (1 ≤ s.length ∧ s.length ≤ 6)
def rOldOk (o : Cell) (has : Int) (aside : Bool) : Bool := if has = 2 then noCell o else decide (1 ≤ o.1 ∧ o.1 ≤ 5) && decide (o.2.length ≤ 20) && ((cellText o).isSome || (aside && decide (has = 1)))
def rNewOk (n : Cell) (has : Int) : Bool := if has = 1 then noCell n else decide (n.1 = 0) && (cellText n).isSome
def rowOk (r : Row) : Bool := nameOk r.1 && decide (1 ≤ r.2.2.2.1 ∧ r.2.2.2.1 ≤ 3) && rOldOk r.2.1 r.2.2.2.1 r.2.2.2.2 && rNewOk r.2.2.1 r.2.2.2.1 && (decide (r.2.2.2.1 ≠ 3) || sameText r.2.1 r.2.2.1)
theorem noCell_eq {c : Cell} (h : noCell c = true) : c = (0, []) := by
 obtain ⟨a, b⟩ := c
 simp only [noCell, Bool.and_eq_true, decide_eq_true_eq, List.isEmpty_iff] at h
 rw [h.1, h.2]
def wordB (n : Int) : List UInt8 := [yN (n.toNat / 256), yN (n.toNat % 256)]
def textB (s : List UInt8) : List UInt8 := if s.length ≤ 60 then wordB s.length ++ s else []
def cellB (c : Cell) : List UInt8 := yN c.1.toNat :: textB c.2
def flagN (b : Bool) : Nat := if b then 1 else 0
def rowB (r : Row) : List UInt8 := textB r.1 ++ (yN r.2.2.2.1.toNat :: yN (flagN r.2.2.2.2) :: ((if r.2.2.2.1 = 2 then [] else cellB r.2.1) ++ (if r.2.2.2.1 = 1 then [] else cellB r.2.2.1)))
def pOne : List UInt8 → Option (Int × List UInt8)
 | [] => none
 | x :: l => some ((x.toNat : Int), l)
def pWord : List UInt8 → Option (Int × List UInt8)
 | x :: y :: l => some (((x.toNat * 256 + y.toNat : Nat) : Int), l)
 | _ => none
def pText (l : List UInt8) : Option (List UInt8 × List UInt8) := match pWord l with
 | none => none
 | some (n, r) => if n ≤ 60 ∧ n ≤ r.length then some (r.take n.toNat, r.drop n.toNat) else none
def pCell (l : List UInt8) : Option (Cell × List UInt8) := match pOne l with
 | none => none
 | some (t, r) => match pText r with
  | none => none
  | some (s, r) => some ((t, s), r)
def pOld (has : Int) (l : List UInt8) : Option (Cell × List UInt8) := if has.toNat % 2 = 1 then pCell l else some ((0, []), l)
def pNew (has : Int) (l : List UInt8) : Option (Cell × List UInt8) := if has.toNat / 2 % 2 = 1 then pCell l else some ((0, []), l)
def pRow0 (l : List UInt8) : Option (Row × List UInt8) := match pText l with
 | none => none
 | some (key, l) => match pOne l with
  | none => none
  | some (has, l) => match pOne l with
   | none => none
   | some (aside, l) => if 1 < aside then none else match pOld has l with
    | none => none
    | some (old, l) => match pNew has l with
     | none => none
     | some (new, l) => some ((key, old, new, has, decide (aside = 1)), l)
def pRow (l : List UInt8) : Option (Row × List UInt8) := match pRow0 l with
 | none => none
 | some (r, l) => if rowOk r then some (r, l) else none
theorem pWord_put {n : Int} (h0 : 0 ≤ n) (h1 : n < 65536) (r : List UInt8) : pWord (wordB n ++ r) = some (n, r) := by
 have e0 := yN_toNat (n := n.toNat / 256) (by omega)
 have e1 := yN_toNat (n := n.toNat % 256) (by omega)
 simp only [wordB, List.cons_append, List.nil_append, pWord, e0, e1]
 congr 2; omega
theorem pText_put {s : List UInt8} (h : s.length ≤ 60) (r : List UInt8) : pText (textB s ++ r) = some (s, r) := by
 unfold textB pText
 rw [if_pos h, List.append_assoc, pWord_put (by omega) (by omega)]
 simp only
 rw [if_pos (by simp only [List.length_append]; omega)]
 simp
theorem pCell_put {c : Cell} (h0 : 0 ≤ c.1) (h1 : c.1 < 256) (h : c.2.length ≤ 60) (r : List UInt8) : pCell (cellB c ++ r) = some (c, r) := by
 simp only [cellB, List.cons_append, pCell, pOne, pText_put h, yN_toNat (n := c.1.toNat) (by omega)]
 rw [Int.toNat_of_nonneg h0]
theorem rowOk_has {r : Row} (h : rowOk r = true) : nameOk r.1 = true ∧ 1 ≤ r.2.2.2.1 ∧ r.2.2.2.1 ≤ 3 ∧ rOldOk r.2.1 r.2.2.2.1 r.2.2.2.2 = true ∧ rNewOk r.2.2.1 r.2.2.2.1 = true ∧ (r.2.2.2.1 = 3 → sameText r.2.1 r.2.2.1 = true) := by
 simp only [rowOk, Bool.and_eq_true, Bool.or_eq_true, decide_eq_true_eq] at h
 obtain ⟨⟨⟨⟨a, b⟩, c⟩, d⟩, e⟩ := h
 exact ⟨a, b.1, b.2, c, d, fun h3 => e.elim (fun k => (k h3).elim) id⟩
theorem nameOk_len {s : List UInt8} (h : nameOk s = true) : 1 ≤ s.length ∧ s.length ≤ 6 := by
 simp only [nameOk, Bool.and_eq_true, decide_eq_true_eq] at h
 exact h.2
theorem rOldOk_some {o : Cell} {has : Int} {aside : Bool} (h : rOldOk o has aside = true) (h2 : has ≠ 2) : 1 ≤ o.1 ∧ o.1 ≤ 5 ∧ o.2.length ≤ 20 ∧ ((cellText o).isSome = true ∨ (aside = true ∧ has = 1)) := by
 simp only [rOldOk, if_neg h2, Bool.and_eq_true, Bool.or_eq_true, decide_eq_true_eq] at h
 exact ⟨h.1.1.1, h.1.1.2, h.1.2, h.2⟩
theorem rNewOk_some {n : Cell} {has : Int} (h : rNewOk n has = true) (h2 : has ≠ 1) : n.1 = 0 ∧ (cellText n).isSome = true ∧ n.2.length ≤ 20 := by
 simp only [rNewOk, if_neg h2, Bool.and_eq_true, decide_eq_true_eq] at h
 refine ⟨h.1, h.2, ?_⟩
 obtain ⟨t, ht⟩ := Option.isSome_iff_exists.1 h.2
 have := (cellText_ok ht).1
 simp only [cellOk, Bool.and_eq_true, decide_eq_true_eq] at this
 exact this.2
theorem pRow_put {r : Row} (h : rowOk r = true) (l : List UInt8) : pRow (rowB r ++ l) = some (r, l) := by
 obtain ⟨a, b1, b2, c, d, e⟩ := rowOk_has h
 have hk := nameOk_len a
 obtain ⟨key, old, new, has, aside⟩ := r
 simp only at a b1 b2 c d e hk
 have key1 : pRow0 (rowB (key, old, new, has, aside) ++ l) = some ((key, old, new, has, aside), l) := by
  unfold rowB pRow0
  simp only [List.append_assoc, List.cons_append]
  rw [pText_put (by omega)]
  simp only [pOne, yN_toNat (n := has.toNat) (by omega), yN_toNat (n := flagN aside) (by unfold flagN; split <;> omega), Int.toNat_of_nonneg (show 0 ≤ has by omega)]
  rw [if_neg (by unfold flagN; split <;> omega)]
  have ea : decide (((flagN aside : Nat) : Int) = 1) = aside := by cases aside <;> rfl
  have eo : pOld has ((if has = 2 then [] else cellB old) ++ ((if has = 1 then [] else cellB new) ++ l)) = some (old, (if has = 1 then [] else cellB new) ++ l) := by
   unfold pOld
   by_cases h2 : has = 2
   ·subst h2
    have hn : noCell old = true := by simpa [rOldOk] using c
    rw [if_neg (by decide), if_pos rfl, noCell_eq hn]; rfl
   ·obtain ⟨o1, o2, o3, _⟩ := rOldOk_some c h2
    rw [if_pos (by omega), if_neg h2, pCell_put (by omega) (by omega) (by omega)]
  have en : pNew has ((if has = 1 then [] else cellB new) ++ l) = some (new, l) := by
   unfold pNew
   by_cases h2 : has = 1
   ·subst h2
    have hn : noCell new = true := by simpa [rNewOk] using d
    rw [if_neg (by decide), if_pos rfl, noCell_eq hn]; rfl
   ·obtain ⟨n1, n2, n3⟩ := rNewOk_some d h2
    rw [if_pos (by omega), if_neg h2, pCell_put (by omega) (by omega) (by omega)]
  rw [eo]
  simp only [en, ea]
 unfold pRow
 rw [key1]
 simp only [h, if_true]
theorem s_NameOk {s : List UInt8} (hl : s.length < 9223372036854775807) : F_s_NameOk s = some (nameOk s) := by
  unfold F_s_NameOk
  have stp : ∀ i (h : i < s.length), S_s_NameOk_0 s (i : Int) = if nameB s[i] then some (.inl ((i + 1 : Nat) : Int)) else some (.inr (.inr false)) := by
    intro i h
    unfold S_s_NameOk_0
    rw [iLt_y (by rw [lLen_def]; omega), cnd_t, idx_at h]
    simp only [bnd_s, conv64, s_In, iAdd_1 (show i < 9223372036854775807 by omega)]
    unfold nameB
    by_cases h1 : 97 ≤ s[i].toNat ∧ s[i].toNat ≤ 122
    · rw [decide_eq_true (show (97 : Int) ≤ (s[i].toNat : Int) ∧ (s[i].toNat : Int) ≤ 122 by omega), decide_eq_true h1]; rfl
    · rw [decide_eq_false (show ¬ ((97 : Int) ≤ (s[i].toNat : Int) ∧ (s[i].toNat : Int) ≤ 122) by omega), decide_eq_false h1]
      by_cases h2 : 48 ≤ s[i].toNat ∧ s[i].toNat ≤ 57
      · rw [decide_eq_true (show (48 : Int) ≤ (s[i].toNat : Int) ∧ (s[i].toNat : Int) ≤ 57 by omega), decide_eq_true h2]; rfl
      · rw [decide_eq_false (show ¬ ((48 : Int) ≤ (s[i].toNat : Int) ∧ (s[i].toNat : Int) ≤ 57) by omega), decide_eq_false h2]; rfl
  obtain ⟨r, h1, h2⟩ := loop_inv (step := S_s_NameOk_0 s) (fun i z => z = (i : Int) ∧ i ≤ s.length ∧ s.all nameB = (s.drop i).all nameB) s.length
    (fun r => joinX (some r) (fun (z1 : Unit) => (bnd (F_s_l1In ((lLen s), (1, 6))) (fun (z2 : Bool) => (some z2)))) = some (nameOk s)) (by
      rintro i z hi ⟨rfl, _, hp⟩
      rw [stp i hi]
      rw [List.drop_eq_getElem_cons hi, List.all_cons] at hp
      cases hb : nameB s[i] with
      | true =>
        left
        rw [hb, Bool.true_and] at hp
        exact ⟨_, by rw [if_pos rfl], rfl, hi, hp⟩
      | false =>
        right
        rw [hb, Bool.false_and] at hp
        exact ⟨_, by rw [if_neg (by decide)], by rw [joinX_r, nameOk, hp]; rfl⟩)
    (by
      rintro z ⟨rfl, _, hp⟩
      refine ⟨.inl (), ?_, ?_⟩
      · unfold S_s_NameOk_0
        rw [iLt_n (by rw [lLen_def]; exact Int.le_refl _), cnd_f]
      · rw [joinX_l, s_In, bnd_s, nameOk, hp, List.drop_length]
        simp only [List.all_nil, Bool.true_and, lLen_def]
        exact congrArg some (decide_eq_decide.2 (by omega))) 0 ⟨rfl, Nat.zero_le _, by rw [List.drop_zero]⟩
  rw [h1, h2]
theorem i_NameOk {s : List UInt8} (hl : s.length < 9223372036854775807) : F_i_NameOk s = some (nameOk s) := s_NameOk hl
theorem markCell_ok {c : Cell} {m : Int} (h0 : 0 ≤ m) (hm : m ≤ 1152921504606846976) (hl : c.2.length ≤ 1048576) : ∃ m' x', F_l_markCell (c, m) = some (m', x') ∧ F_l_heldCell ((c.1, x'), m) = some m' ∧ x'.length = c.2.length ∧ m ≤ m' ∧ m' ≤ m + 1048576 := by
 obtain ⟨m1, x1, a1, a2, a3, a4, a5⟩ := markByteS_ok (x := c.2) h0 hm hl
 refine ⟨m1, x1, ?_, ?_, a3, a4, a5⟩
 ·unfold F_l_markCell
  simp only [a1, bnd_s, a3, nEq_r, chk_t]
 ·unfold F_l_heldCell
  simp only [a2, bnd_s]
  rw [iLt_n (by omega), cnd_f]
theorem markRow_at {r : Row} {m : Int} (h : smR 1048576 r) (h0 : 0 ≤ m) (hm : m ≤ 576460752303423488) : ∃ m' x y, F_l_markRow (r, m) = some (m', x, y) ∧ F_l_heldRow ((r.1, (r.2.1.1, x), (r.2.2.1.1, y), r.2.2.2.1, r.2.2.2.2), m) = some m' ∧ x.length = r.2.1.2.length ∧ y.length = r.2.2.1.2.length ∧ m ≤ m' := by
 obtain ⟨m1, x1, a1, a2, a3, a4, a5⟩ := markCell_ok (c := r.2.1) (m := m) (by omega) (by omega) h.2.1
 obtain ⟨m2, x2, b1, b2, b3, b4, b5⟩ := markCell_ok (c := r.2.2.1) (m := m1) (by omega) (by omega) h.2.2
 refine ⟨m2, x1, x2, ?_, ?_, a3, b3, by omega⟩
 ·unfold F_l_markRow
  rw [show F_l_markCell ((r.2.1.1, r.2.1.2), m) = some (m1, x1) from a1, bnd_s]
  simp only [a3, nEq_r, chk_t]
  rw [show F_l_markCell ((r.2.2.1.1, r.2.2.1.2), m1) = some (m2, x2) from b1, bnd_s]
  simp only [b3, nEq_r, chk_t]
 ·unfold F_l_heldRow
  simp only [a2, bnd_s]
  rw [iLt_n (by omega), cnd_f]
  simp only [b2, bnd_s]
  rw [iLt_n (by omega), cnd_f]
end
end Go.Vs
