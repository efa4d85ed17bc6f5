import Derived.Test.YtgbapgjdkoojdaaVsQ
import Derived.Test.YtgbapgjdkoojdaaVsE3
set_option linter.unusedVariables false
set_option linter.unusedSimpArgs false
namespace Go.Proofs.Ytgbapgjdkoojdaa
open Go.Vs
set_option linter.unusedSimpArgs false
set_option maxHeartbeats 1000000
theorem runs25 (b : List UInt8) (n : Nat) (h : n + b.length < 2 ^ 62) : Runs Try.prog 25 [.val false [(.rd, .sl 1 (bD b))], .val false [(.rd, .lf (.int .i64 n))]] ⟨[(false, [.lf (.int .i64 (if b = cnt n b.length then ((n + b.length : Nat) : Int) else -1))])], [], []⟩ := by
 obtain ⟨c, hb, hs⟩ := body_of tr25
 refine runs_of_sw Try.func25 hb hs rfl (show 2 ≤ 22 by decide) ?_
 clear hb hs c
 refine q15 ?_
 unfold s25
 refine sw_seq (sw_reg ?_)
 unfold s25_0
 refine os_k fun K hK => ?_
 refine q4 ?_
 refine hK _ ?_
 clear hK K
 simp only [runOs, thenQ, blockQ]
 refine sw_seq (sw_seq (sw_reg ?_))
 unfold s25_1
 refine os_k fun K hK => ?_
 refine q4 ?_
 refine hK _ ?_
 clear hK K
 simp only [runOs, thenQ, blockQ]
 refine sw_block ?_
 refine sw_loop (fun k S => ∃ i : Nat, i ≤ b.length ∧ k = b.length - i ∧ b.take i = cnt n i ∧ S = ⟨[(0, .a (.c (.rf 0 [] 1 0 b.length))), (1, .a (.c (.lf (.int .i64 ((n + i : Nat) : Int))))), (5, .a (.c (.lf (.int .i64 (i : Int)))))], [(0, .im 1 (bD b))], 1, 0⟩) b.length ?_ ?_
 ·refine ⟨_, ⟨0, Nat.zero_le _, rfl, by simp [cnt], rfl⟩, Le.sub rfl rfl (keep_cons rfl (keep_cons rfl (keep_cons rfl keep_nil))) (fun r x h => h)⟩
 ·rintro k S hfix ⟨i, hi, hk, htake, rfl⟩
  clear hfix
  refine sw_seq (sw_seq (sw_reg ?_))
  unfold s25_2
  refine os_k fun K hK => ?_
  refine q4 ?_
  refine hK _ ?_
  clear hK K
  refine os_k fun K hK => ?_
  refine q4 ?_
  refine hK _ ?_
  clear hK K
  refine os_k fun K hK => ?_
  refine q4 ?_
  refine hK _ ?_
  clear hK K
  refine os_k fun K hK => ?_
  refine q4 ?_
  refine hK _ ?_
  clear hK K
  simp only [runOs, thenQ, blockQ]
  refine sw_cond (b := decide ((i : Int) < (b.length : Int))) rfl (fun hlt => ?_) (fun hge => ?_)
  ·refine sw_skip ?_
   have hib : i < b.length := by simpa using hlt
   have hw : IntKind.u8.wrap ((n + i : Nat) : Int) = ((UInt8.ofNat (n + i)).toNat : Int) := by
    rw [IntKind.wrap_u8]; simp
   simp only [thenQ, blockQ]
   refine sw_seq (sw_block (sw_seq (sw_seq (sw_reg ?_))))
   unfold s25_4
   refine os_k fun K hK => ?_
   refine q4 ?_
   refine hK _ ?_
   clear hK K
   refine os_k fun K hK => ?_
   refine q4 ?_
   refine hK _ ?_
   clear hK K
   refine os_k fun K hK => ?_
   refine q4 ?_
   refine ⟨trivial, ⟨by omega, by omega⟩, ?_⟩
   refine hK _ ?_
   clear hK K
   refine os_k fun K hK => ?_
   refine q4 ?_
   rw [Nat.zero_add]
   simp only [bD_get hib, Option.bind_some, List.getElem?_cons_zero, Option.some.injEq, exists_eq_left', toC]
   refine hK _ ?_
   clear hK K
   refine os_k fun K hK => ?_
   refine q4 ?_
   refine hK _ ?_
   clear hK K
   refine os_k fun K hK => ?_
   refine q4 ?_
   rw [hw]
   refine hK _ ?_
   clear hK K
   refine os_k fun K hK => ?_
   refine q4 ?_
   refine hK _ ?_
   clear hK K
   simp only [runOs, thenQ, blockQ]
   refine sw_cond (b := ((b[i].toNat : Int) != ((UInt8.ofNat (n + i)).toNat : Int))) rfl (fun hx => ?_) (fun hx => ?_)
   ·refine sw_seq (sw_reg ?_)
    unfold s25_5
    refine os_k fun K hK => ?_
    refine q4 ?_
    refine hK _ ?_
    clear hK K
    simp only [runOs, thenQ, blockQ]
    refine sw_ret ?_
    refine q3 ?_
    have : b ≠ cnt n b.length := by
     intro e
     have e2 : b[i]? = (cnt n b.length)[i]? := by rw [← e]
     simp only [cnt, List.getElem?_map, List.getElem?_range hib, Option.map_some, List.getElem?_eq_getElem hib, Option.some.injEq] at e2
     simp only [bne_iff_ne, ne_eq] at hx
     exact hx (by rw [e2])
    rw [if_neg this]
    exact leaves_vals rfl rfl rfl rfl
   ·refine sw_skip ?_
    simp only [thenQ, blockQ]
    refine sw_reg ?_
    unfold s25_6
    refine os_k fun K hK => ?_
    refine q4 ?_
    refine hK _ ?_
    clear hK K
    refine os_k fun K hK => ?_
    refine q4 ?_
    refine hK _ ?_
    clear hK K
    refine os_k fun K hK => ?_
    refine q4 ?_
    refine hK _ ?_
    clear hK K
    simp only [runOs, thenQ, blockQ]
    refine sw_reg ?_
    unfold s25_3
    refine os_k fun K hK => ?_
    refine q4 ?_
    refine hK _ ?_
    clear hK K
    refine os_k fun K hK => ?_
    refine q4 ?_
    refine hK _ ?_
    clear hK K
    refine os_k fun K hK => ?_
    refine q4 ?_
    refine hK _ ?_
    clear hK K
    simp only [runOs, thenQ, blockQ]
    have e1 : IntKind.i64.wrap (((n + i : Nat) : Int) + 1) = ((n + (i + 1) : Nat) : Int) := by rw [wrap64 (by omega) (by omega)]; omega
    have e2 : IntKind.i64.wrap ((i : Int) + 1) = ((i + 1 : Nat) : Int) := by rw [wrap64 (by omega) (by omega)]; rfl
    have hx' : b[i] = UInt8.ofNat (n + i) := by
     simp only [bne_eq_false_iff_eq] at hx
     exact UInt8.toNat_inj.1 (by omega)
    refine ⟨b.length - (i + 1), _, by omega, ⟨i + 1, by omega, rfl, ?_, rfl⟩, Le.sub rfl rfl (keep_cons rfl (keep_cons ?_ (keep_cons ?_ keep_nil))) (fun r x h => h)⟩
    ·rw [List.take_succ_eq_append_getElem hib, htake, hx']
     simp [cnt, List.range_succ]
    ·simp only [Vs.get, reduceIte, Nat.reduceEqDiff, e1]
    ·simp only [Vs.get, reduceIte, Nat.reduceEqDiff, e2]
  ·refine sw_exit ?_
   have hib : i = b.length := by
    have : ¬ i < b.length := by simpa using hge
    omega
   subst hib
   simp only [thenQ, blockQ, if_true]
   refine sw_seq (sw_reg ?_)
   unfold s25_7
   refine os_k fun K hK => ?_
   refine q4 ?_
   refine hK _ ?_
   clear hK K
   refine os_k fun K hK => ?_
   refine q4 ?_
   refine hK _ ?_
   clear hK K
   simp only [runOs, thenQ, blockQ]
   refine sw_ret ?_
   refine q3 ?_
   rw [List.take_length] at htake
   rw [if_pos htake]
   exact leaves_vals rfl rfl rfl rfl
end Go.Proofs.Ytgbapgjdkoojdaa
