import Derived.Test.YtgleokjlebkdcaaVsW5
import Derived.Test.YtgleokjlebkdcaaVsQf3
set_option linter.all false
namespace Go.Vs
set_option linter.unusedVariables false
set_option linter.unusedSimpArgs false
noncomputable section
theorem alt2_tt {β : Type} {a b : Option β} {r : β} (h1 : a = some r) (h2 : b = some r) : alt2 a b = some r := by rw [h1, h2, alt2_self]
theorem flL_get : ∀ (l : List Wr) (s : List (List UInt8)) (i : Nat) (hi : i < s.length), (∀ w ∈ l, 0 ≤ w.1) → (flL s l)[i]? = some (rdL l i s[i])
 | [], s, i, hi, _ => by simp [flL, rdL, hi]
 | w :: l, s, i, hi, h => by
  have hw := h w List.mem_cons_self
  have ih := flL_get l (s.set w.1.toNat w.2) i (by simpa using hi) fun x hx => h x (List.mem_cons_of_mem _ hx)
  have e : flL s (w :: l) = flL (s.set w.1.toNat w.2) l := rfl
  have e2 : rdL (w :: l) i s[i] = rdL l i (if w.1 = (i : Int) then w.2 else s[i]) := rfl
  rw [e, ih, e2]
  congr 2
  rw [List.getElem_set]
  by_cases hk : w.1 = (i : Int)
  ·rw [if_pos (by omega), if_pos hk]
  ·rw [if_neg (by omega), if_neg hk]
theorem faL_get (n : Int) : ∀ (l : List Wr) (j : Nat) (s : List (List UInt8)) (i : Nat) (hi : i < s.length), (∀ w ∈ l, 0 ≤ w.1) → (faL n j s l)[i]? = some s[i] ∨ ∃ w ∈ l, w.1 = (i : Int) ∧ (faL n j s l)[i]? = some w.2
 | [], j, s, i, hi, _ => .inl (by simp [faL, hi])
 | w :: l, j, s, i, hi, h => by
  have hw := h w List.mem_cons_self
  have e : faL n j s (w :: l) = faL n (j + 1) (if kept n j then s.set w.1.toNat w.2 else s) l := rfl
  rw [e]
  cases hk : kept n j with
  | false =>
   simp only [Bool.false_eq_true, if_false]
   rcases faL_get n l (j + 1) s i hi (fun x hx => h x (List.mem_cons_of_mem _ hx)) with h1 | ⟨v, h1, h2, h3⟩
   ·exact .inl h1
   ·exact .inr ⟨v, List.mem_cons_of_mem _ h1, h2, h3⟩
  | true =>
   simp only [if_true]
   rcases faL_get n l (j + 1) (s.set w.1.toNat w.2) i (by simpa using hi) (fun x hx => h x (List.mem_cons_of_mem _ hx)) with h1 | ⟨v, h1, h2, h3⟩
   ·rw [List.getElem_set] at h1
    by_cases hq : w.1 = (i : Int)
    ·rw [if_pos (by omega)] at h1
     exact .inr ⟨w, List.mem_cons_self, hq, h1⟩
    ·rw [if_neg (by omega)] at h1
     exact .inl h1
   ·exact .inr ⟨v, List.mem_cons_of_mem _ h1, h2, h3⟩
theorem rdL_app (l : List Wr) (w : Wr) (i : Int) (b : List UInt8) : rdL (l ++ [w]) i b = if w.1 = i then w.2 else rdL l i b := by
 simp [rdL, List.foldl_append]
theorem any_loop {ρ : Type} {step : Bool × Int → Option ((Bool × Int) ⊕ (Bool ⊕ ρ))} {α : Type} (l : List α) (p : α → Bool) (hs : ∀ (t : Bool) (i : Nat) (h : i < l.length), step (t, (i : Int)) = some (.inl (t || p l[i], ((i + 1 : Nat) : Int)))) (he : ∀ t, step (t, (l.length : Int)) = some (.inr (.inl t))) (t0 : Bool) : loopX step (t0, 0) = some (.inl (t0 || l.any p)) :=
 loop_exact (fun i => (t0 || (l.take i).any p, (i : Int))) l.length _ (fun i hi => by
  rw [hs _ i hi]
  congr 2
  rw [List.take_succ_eq_append_getElem hi, List.any_append]
  simp [Bool.or_assoc]) (by rw [he, List.take_length]) _ (by simp)
theorem law_Devs {x : List UInt8} (hx : x.length ≤ 9223372036854775807) : F_l_FnDevs x = some true := by
 unfold F_l_FnDevs
 by_cases hb : 1048576 < x.length
 ·rw [big_y hb]; rfl
 have hx : B20 x := by unfold B20; omega
 rw [big_n (by unfold B20 at hx; omega), bnd_s, cnd_f]
 obtain ⟨h, e0⟩ := l1New_ok hx
 obtain ⟨d, s1, e1, gd, k1⟩ := l10Draw_ok (s := (0, h)) hx (Int.le_refl _)
 have a1 : F_s_DrawDev x = some d := by unfold F_s_DrawDev; rw [e0, bnd_s, e1, bnd_s]
 obtain ⟨d1, d2, d3, d4, d5⟩ := dev_of gd.ok
 obtain ⟨v2, q2, w2⟩ := at_ok hx 2 (by omega)
 obtain ⟨v3, q3, w3⟩ := at_ok hx 3 (by omega)
 obtain ⟨v4, q4, w4⟩ := at_ok hx 4 (by omega)
 obtain ⟨v5, q5, w5⟩ := at_ok hx 5 (by omega)
 obtain ⟨v6, q6, w6⟩ := at_ok hx 6 (by omega)
 have q2 : F_l_at (x, 2) = some (v2 : Int) := q2
 have q3 : F_l_at (x, 3) = some (v3 : Int) := q3
 have q4 : F_l_at (x, 4) = some (v4 : Int) := q4
 have q5 : F_l_at (x, 5) = some (v5 : Int) := q5
 have q6 : F_l_at (x, 6) = some (v6 : Int) := q6
 rw [a1, bnd_s, q2, bnd_s, iNe_y (by simp only [lLen_def]; omega), chk_t, q3, bnd_s, q4, bnd_s]
 have er : iRem (v2 : Int) (lLen d.1) = ((v2 % d.1.length : Nat) : Int) := rfl
 have hn : v2 % d.1.length < d.1.length := Nat.mod_lt _ (by omega)
 generalize hnn : v2 % d.1.length = n at er hn
 generalize hbb : [u8 (iConv .u8 (v3 : Int)), u8 (iConv .u8 (v4 : Int))] = b
 have hbl : b.length = 2 := by rw [← hbb]; rfl
 obtain ⟨wc, wg⟩ := wrC_good (x := d) (n := (n : Int)) (b := b) gd (by omega) (by omega) (by omega)
 have hsm := dOk_sm gd.ok
 have ew : wrD d (n : Int) b = (d.1, d.2.1 ++ [((n : Int), b)], -1, false) := by
  unfold wrD
  rw [wrDev_ok gd.ok, wc]
 generalize hX : (d.1, d.2.1 ++ [((n : Int), b)], (-1 : Int), false) = X at ew wg
 have hXs : X.1 = d.1 := by rw [← hX]
 have hXc : X.2.1 = d.2.1 ++ [((n : Int), b)] := by rw [← hX]
 have hXf : X.2.2.1 = -1 := by rw [← hX]
 have hXd : X.2.2.2 = false := by rw [← hX]
 have hXm := dOk_sm wg.ok
 obtain ⟨x1, x2, x3, x4, x5⟩ := dev_of wg.ok
 have efl : flD X = (flL X.1 X.2.1, [], -1, false) := by
  unfold flD
  rw [flDev_ok wg.ok, hXd, flC_yes (by omega), hXf]; rfl
 have hFg : GoodD 0 (flD X) := by
  have := flC_good wg
  unfold flD
  rw [flDev_ok wg.ok]; exact this
 have hFm := dOk_sm hFg.ok
 generalize hm : iAdd .i64 (iMul .i64 (v5 : Int) 256) (v6 : Int) = m
 have efa : faD X m = (faL (faN m) 0 X.1 X.2.1, [], -1, false) := by
  unfold faD
  rw [faDev_ok wg.ok]
 have hZok : dOk (faD X m) = true := by
  rw [efa]
  refine dOk_mk (by simp only [faL_len]; exact x1) (by simp) (by simp) (faL_mem x4 fun w hw => (x5 w hw).2.2) (by intro w hw; cases hw)
 have hZm := dOk_sm hZok
 rw [er, show F_i_WriteSec ((d.1, (d.2.1, (d.2.2.1, d.2.2.2))), ((n : Int), b)) = _ from i_WriteSec hsm (by omega), bnd_s]
 rw [show wrD d (n : Int) b = X from ew]
 rw [show F_i_FlushDev (X.1, (X.2.1, (X.2.2.1, X.2.2.2))) = _ from i_FlushDev hXm, bnd_s]
 have rX : ∀ i : Nat, F_i_ReadSec ((X.1, (X.2.1, (X.2.2.1, X.2.2.2))), (i : Int)) = some (rdD X i) := fun i => i_ReadSec hXm
 have rD : ∀ i : Nat, F_i_ReadSec ((d.1, (d.2.1, (d.2.2.1, d.2.2.2))), (i : Int)) = some (rdD d i) := fun i => i_ReadSec hsm
 have rF : ∀ i : Nat, F_i_ReadSec (((flD X).1, ((flD X).2.1, ((flD X).2.2.1, (flD X).2.2.2))), (i : Int)) = some (rdD (flD X) i) := fun i => i_ReadSec hFm
 have vX : ∀ (i : Nat) (hi : i < d.1.length), rdD X i = if n = i then b else rdL d.2.1 i d.1[i] := by
  intro i hi
  unfold rdD
  rw [rdSec_yes wg.ok (by rw [hXs]; exact hi)]
  simp only [hXs, hXc, rdL_app]
  by_cases hq : n = i
  ·rw [if_pos hq, if_pos (by omega)]
  ·rw [if_neg hq, if_neg (by omega)]
 have vD : ∀ (i : Nat) (hi : i < d.1.length), rdD d i = rdL d.2.1 i d.1[i] := fun i hi => rdSec_yes gd.ok hi
 have vF : ∀ (i : Nat) (hi : i < d.1.length), rdD (flD X) i = rdD X i := by
  intro i hi
  have hi' : i < (flD X).1.length := by rw [efl]; simpa [hXs] using hi
  unfold rdD
  rw [rdSec_yes hFg.ok hi', rdSec_yes wg.ok (by rw [hXs]; exact hi)]
  have h1 := flL_get X.2.1 X.1 i (by rw [hXs]; exact hi) fun w hw => (x5 w hw).1
  have h2 : (flD X).1 = flL X.1 X.2.1 := by rw [efl]
  have h3 : (flD X).2.1 = [] := by rw [efl]
  rw [h3]
  show (flD X).1[i] = _
  have h4 : (flD X).1[i]? = some (rdL X.2.1 i (X.1[i]'(by rw [hXs]; exact hi))) := by rw [h2]; exact h1
  rw [List.getElem?_eq_getElem hi'] at h4
  exact Option.some.inj h4
 have zlen : (faD X m).1.length = d.1.length := by rw [efa]; simp [faL_len, hXs]
 have may : ∀ (i : Nat) (hi : i < d.1.length), (sEq ((faD X m).1[i]'(by omega)) (X.1[i]'(by rw [hXs]; exact hi)) || X.2.1.any fun w => iEq w.1 (i : Int) && sEq w.2 ((faD X m).1[i]'(by omega))) = true := by
  intro i hi
  have hz : (faD X m).1[i]? = some ((faD X m).1[i]'(by omega)) := List.getElem?_eq_getElem (by omega)
  have h1 : (faD X m).1 = faL (faN m) 0 X.1 X.2.1 := by rw [efa]
  generalize (faD X m).1[i]'(by omega) = zi at hz ⊢
  rw [h1] at hz
  rcases faL_get (faN m) X.2.1 0 X.1 i (by rw [hXs]; exact hi) (fun w hw => (x5 w hw).1) with h2 | ⟨w, h2, h3, h4⟩
  ·rw [h2] at hz
   rw [Option.some.inj hz, sEq_r, Bool.true_or]
  ·rw [h4] at hz
   rw [Bool.or_eq_true]
   right
   rw [List.any_eq_true]
   refine ⟨w, h2, ?_⟩
   rw [Option.some.inj hz, h3, sEq_r, iEq_r]; rfl
 have inner : ∀ (i : Nat) (hi : i < d.1.length), loopX (S_l_FnDevs_0 X (faD X m) (i : Int)) (sEq ((faD X m).1[i]'(by omega)) (X.1[i]'(by rw [hXs]; exact hi)), 0) = some (.inl true) := by
  intro i hi
  rw [any_loop (step := S_l_FnDevs_0 X (faD X m) (i : Int)) X.2.1 (fun w => iEq w.1 (i : Int) && sEq w.2 ((faD X m).1[i]'(by omega))) (fun t j hj => by
   unfold S_l_FnDevs_0
   simp only
   rw [iLt_y (by simp only [lLen_def]; omega), cnd_t]
   cases t with
   | true => rw [cnd_t, iAdd_1 (by omega)]; rfl
   | false =>
    rw [cnd_f, idx_at hj, bnd_s]
    cases hq : iEq X.2.1[j].1 (i : Int) with
    | true => rw [cnd_t, bnd_s, idx_at (show i < (faD X m).1.length by omega), bnd_s, iAdd_1 (by omega)]; simp
    | false => rw [cnd_f, iAdd_1 (by omega)]; simp) (fun t => by
   unfold S_l_FnDevs_0
   simp only
   rw [iLt_n (by simp only [lLen_def]; omega), cnd_f]), may i hi]
 have key : (bnd (F_l_at (x, 5)) (fun (z8 : Int) => (bnd (F_l_at (x, 6)) (fun (z9 : Int) => (bnd (F_i_FallDev ((X.1, (X.2.1, (X.2.2.1, X.2.2.2))), (iAdd .i64 (iMul .i64 z8 256) z9))) (fun (z10 : Dv) => (joinX (loopX (S_l_FnDevs_2 d (v2 : Int) X (flD X) z10) 0) (fun (z11 : Unit) => (bnd (F_i_ReadSec ((X.1, (X.2.1, (X.2.2.1, X.2.2.2))), (n : Int))) (fun (z12 : (List UInt8)) => (cnd (sEq z12 b) (bnd (F_i_DevOk (X.1, (X.2.1, (X.2.2.1, X.2.2.2)))) (fun (z13 : Bool) => (cnd z13 (cnd (iEq (lLen (flD X).2.1) 0) (bnd (F_i_DevOk (z10.1, (z10.2.1, (z10.2.2.1, z10.2.2.2)))) (fun (z14 : Bool) => (cnd z14 (some (bNot z10.2.2.2)) (some false)))) (some false)) (some false)))) (some false))))))))))) : Option Bool) = some true := by
  rw [q5, bnd_s, q6, bnd_s, hm, show F_i_FallDev ((X.1, (X.2.1, (X.2.2.1, X.2.2.2))), m) = _ from i_FallDev hXm, bnd_s]
  rw [show loopX (S_l_FnDevs_2 d (v2 : Int) X (flD X) (faD X m)) 0 = some (.inl ()) from loop_exact (fun i => (i : Int)) d.1.length _ (fun i hi => by
   unfold S_l_FnDevs_2
   have hzi : idx (faD X m).1 (i : Int) = some ((faD X m).1[i]'(by omega)) := idx_at (by omega)
   have hxi : idx X.1 (i : Int) = some (X.1[i]'(by rw [hXs]; exact hi)) := idx_at (by rw [hXs]; exact hi)
   have hin := inner i hi
   have hin1 : loopX (S_l_FnDevs_1 X (faD X m) (i : Int)) (sEq ((faD X m).1[i]'(by omega)) (X.1[i]'(by rw [hXs]; exact hi)), 0) = some (.inl true) := hin
   rw [iLt_y (by simp only [lLen_def]; omega), cnd_t, rF, bnd_s, rX, bnd_s, vF i hi, sEq_r, bNot_t, cnd_f, show iRem (v2 : Int) (lLen d.1) = (n : Int) from er]
   by_cases hq : (i : Int) = n
   ·rw [hq, iNe_r, cnd_f, ← hq, hzi, bnd_s, hxi, bnd_s, hin1, joinX_l, bNot_t, cnd_f, joinX_l, iAdd_1 (by omega)]
   ·rw [iNe_y hq, cnd_t, bnd_s, rD, bnd_s, vX i hi, if_neg (by omega), vD i hi, sEq_r, bNot_t, cnd_f, hzi, bnd_s, hxi, bnd_s, hin, joinX_l, bNot_t, cnd_f, joinX_l, iAdd_1 (by omega)]) (by
   unfold S_l_FnDevs_2
   rw [iLt_n (by simp only [lLen_def]; omega), cnd_f]) 0 rfl, joinX_l]
  rw [rX, bnd_s, vX n hn, if_pos rfl, sEq_r, cnd_t, show F_i_DevOk (X.1, (X.2.1, (X.2.2.1, X.2.2.2))) = _ from i_DevOk hXm, bnd_s]
  rw [show devOk (X.1, (X.2.1, (X.2.2.1, X.2.2.2))).1 (X.1, (X.2.1, (X.2.2.1, X.2.2.2))).2.1 (X.1, (X.2.1, (X.2.2.1, X.2.2.2))).2.2.1 = true from wg.ok, cnd_t]
  rw [show (flD X).2.1 = [] from by rw [efl], show iEq (lLen ([] : List Wr)) 0 = true from rfl, cnd_t]
  rw [show F_i_DevOk ((faD X m).1, ((faD X m).2.1, ((faD X m).2.2.1, (faD X m).2.2.2))) = _ from i_DevOk hZm, bnd_s]
  rw [show devOk ((faD X m).1, ((faD X m).2.1, ((faD X m).2.2.1, (faD X m).2.2.2))).1 ((faD X m).1, ((faD X m).2.1, ((faD X m).2.2.1, (faD X m).2.2.2))).2.1 ((faD X m).1, ((faD X m).2.1, ((faD X m).2.2.1, (faD X m).2.2.2))).2.2.1 = true from hZok, cnd_t]
  rw [show (faD X m).2.2.2 = false from by rw [efa], bNot_f]
 exact alt2_tt key (alt2_tt key (alt2_tt key key))
end
end Go.Vs
