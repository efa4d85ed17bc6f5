import Derived.Test.YtgbapgjdkoojdaaVsQ
import Derived.Test.YtgbapgjdkoojdaaVsSb
import Derived.Test.YtgbapgjdkoojdaaVsW2
set_option linter.unusedVariables false
set_option linter.unusedSimpArgs false
namespace Go.Proofs.Ytgbapgjdkoojdaa
open Go.Vs
set_option linter.unusedSimpArgs false
set_option maxHeartbeats 1000000
theorem runs23 (a b : List UInt8) (h : a.length < 2 ^ 62) : Runs Try.prog 23 [.val false [(.rd, .sl 1 (bD a))], .val false [(.rd, .sl 1 (bD b))]] ⟨[(false, [.lf (.bool (decide (a = b)))])], [], []⟩ := by
 obtain ⟨c, hb, hs⟩ := body_of tr23
 refine runs_of_sw Try.func23 hb hs rfl (show 2 ≤ 26 by decide) ?_
 clear hb hs c
 refine q15 ?_
 unfold s23
 refine sw_seq (sw_reg ?_)
 unfold s23_0
 refine os_k fun K hK => ?_
 refine q4 ?_
 refine hK _ ?_
 clear hK K
 simp only [runOs, thenQ, blockQ]
 refine sw_seq (sw_seq (sw_reg ?_))
 unfold s23_1
 refine os_k fun K hK => ?_
 refine q4 ?_
 refine hK _ ?_
 clear hK K
 refine os_k fun K hK => ?_
 refine q4 ?_
 refine hK _ ?_
 clear hK K
 refine os_k fun K hK => ?_
 refine q4 ?_
 refine hK _ ?_
 clear hK K
 refine os_k fun K hK => ?_
 refine q4 ?_
 refine hK _ ?_
 clear hK K
 refine os_k fun K hK => ?_
 refine q4 ?_
 refine hK _ ?_
 clear hK K
 simp only [runOs, thenQ, blockQ]
 refine sw_cond (b := ((a.length : Int) != (b.length : Int))) rfl (fun hne => ?_) (fun heq => ?_)
 ·refine sw_seq (sw_reg ?_)
  unfold s23_2
  refine os_k fun K hK => ?_
  refine q4 ?_
  refine hK _ ?_
  clear hK K
  simp only [runOs, thenQ, blockQ]
  refine sw_ret ?_
  simp only [thenQ, resK, ev, St.opd, Vs.get, reduceIte, Nat.reduceEqDiff, Option.getD_some]
  have : (decide (a = b)) = false := by
   simp only [bne_iff_ne, ne_eq] at hne
   simp only [decide_eq_false_iff_not]
   rintro rfl; exact hne rfl
  rw [this]
  exact leaves_vals rfl rfl rfl rfl
 ·refine sw_skip ?_
  have hlen : a.length = b.length := by
   simp only [bne_eq_false_iff_eq] at heq; omega
  simp only [thenQ]
  refine sw_seq (sw_seq (sw_reg ?_))
  unfold s23_3
  refine os_k fun K hK => ?_
  refine q4 ?_
  refine hK _ ?_
  clear hK K
  simp only [runOs, thenQ, blockQ]
  refine sw_block ?_
  refine sw_loop (fun k S => ∃ i : Nat, i ≤ a.length ∧ k = a.length - i ∧ a.take i = b.take i ∧ S = ⟨[(0, .a (.c (.rf 0 [] 1 0 a.length))), (1, .a (.c (.rf 1 [] 1 0 b.length))), (5, .a (.c (.lf (.int .i64 (i : Int)))))], [(0, .im 1 (bD a)), (1, .im 1 (bD b))], 2, 0⟩) a.length ?_ ?_
  ·refine ⟨_, ⟨0, Nat.zero_le _, rfl, by simp, rfl⟩, Le.sub rfl rfl (keep_cons rfl (keep_cons rfl (keep_cons rfl keep_nil))) (fun r x h => h)⟩
  ·rintro k S hfix ⟨i, hi, hk, htake, rfl⟩
   clear hfix
   refine sw_seq (sw_seq (sw_reg ?_))
   unfold s23_4
   refine os_k fun K hK => ?_
   refine q4 ?_
   refine hK _ ?_
   clear hK K
   refine os_k fun K hK => ?_
   refine q4 ?_
   refine hK _ ?_
   clear hK K
   refine os_k fun K hK => ?_
   refine q4 ?_
   refine hK _ ?_
   clear hK K
   refine os_k fun K hK => ?_
   refine q4 ?_
   refine hK _ ?_
   clear hK K
   simp only [runOs, thenQ, blockQ]
   refine sw_cond (b := decide ((i : Int) < (a.length : Int))) rfl (fun hlt => ?_) (fun hge => ?_)
   ·refine sw_skip ?_
    have hia : i < a.length := by simpa using hlt
    have hib : i < b.length := by omega
    simp only [thenQ, blockQ]
    refine sw_seq (sw_block (sw_seq (sw_drw (by kernel_rfl) ?_)))
    rw [show (List.filterMap (fun x => x.gi.dst) s23_6) = [17, 18, 19, 20, 21, 22, 23, 24, 25] from rfl]
    simp only [List.filter_cons, List.filter_nil, List.contains_cons, List.contains_nil, Nat.reduceBEq, Bool.or_false, Bool.false_or, Bool.or_true, Bool.true_or, Bool.or_self, Bool.not_true, Bool.not_false, if_true, if_false, Bool.false_eq_true]
    unfold s23_6
    refine dr_rd fun K hK => ?_
    refine q19 ?_
    refine hK _ ?_
    clear hK K
    simp only [Nat.lt_irrefl, if_false, List.nil_append, List.cons_append]
    refine dr_rd fun K hK => ?_
    refine q19 ?_
    refine hK _ ?_
    clear hK K
    simp only [Nat.lt_irrefl, if_false, List.nil_append, List.cons_append]
    refine dr_rd fun K hK => ?_
    refine q19 ?_
    refine ⟨trivial, ⟨by omega, by omega⟩, ?_⟩
    refine hK _ ?_
    clear hK K
    simp only [Nat.lt_irrefl, if_false, List.nil_append, List.cons_append]
    refine dr_rd fun K hK => ?_
    refine q19 ?_
    simp only [bD_get hia, Option.bind_some, List.getElem?_cons_zero, Option.some.injEq, exists_eq_left', toC]
    refine hK _ ?_
    clear hK K
    simp only [Nat.lt_irrefl, if_false, List.nil_append, List.cons_append]
    refine dr_rd fun K hK => ?_
    refine q19 ?_
    refine hK _ ?_
    clear hK K
    simp only [Nat.lt_irrefl, if_false, List.nil_append, List.cons_append]
    refine dr_rd fun K hK => ?_
    refine q19 ?_
    refine hK _ ?_
    clear hK K
    simp only [Nat.lt_irrefl, if_false, List.nil_append, List.cons_append]
    refine dr_rd fun K hK => ?_
    refine q19 ?_
    refine ⟨trivial, ⟨by omega, by omega⟩, ?_⟩
    refine hK _ ?_
    clear hK K
    simp only [Nat.lt_irrefl, if_false, List.nil_append, List.cons_append]
    refine dr_rd fun K hK => ?_
    refine q19 ?_
    simp only [bD_get hib, Option.bind_some, List.getElem?_cons_zero, Option.some.injEq, exists_eq_left', toC]
    refine hK _ ?_
    clear hK K
    simp only [Nat.lt_irrefl, if_false, List.nil_append, List.cons_append]
    refine dr_rd fun K hK => ?_
    refine q19 ?_
    refine hK _ ?_
    clear hK K
    simp only [Nat.lt_irrefl, if_false, List.nil_append, List.cons_append]
    simp only [drawGo, envSel, Nat.zero_add, Nat.reduceAdd, if_true, List.nil_append, List.cons_append, thenQ, blockQ]
    refine sw_cond (b := ((a[i].toNat : Int) != (b[i].toNat : Int))) rfl (fun hx => ?_) (fun hx => ?_)
    ·refine sw_seq (sw_reg ?_)
     unfold s23_7
     refine os_k fun K hK => ?_
     refine q4 ?_
     refine hK _ ?_
     clear hK K
     simp only [runOs, thenQ, blockQ]
     refine sw_ret ?_
     refine q3 ?_
     have : (decide (a = b)) = false := by
      simp only [bne_iff_ne, ne_eq] at hx
      simp only [decide_eq_false_iff_not]
      rintro rfl; exact hx rfl
     rw [this]
     exact leaves_vals rfl rfl rfl rfl
    ·refine sw_skip ?_
     simp only [thenQ, blockQ]
     refine sw_reg ?_
     unfold s23_5
     refine os_k fun K hK => ?_
     refine q4 ?_
     refine hK _ ?_
     clear hK K
     refine os_k fun K hK => ?_
     refine q4 ?_
     refine hK _ ?_
     clear hK K
     refine os_k fun K hK => ?_
     refine q4 ?_
     refine hK _ ?_
     clear hK K
     simp only [runOs, thenQ, blockQ]
     have hx' : a[i] = b[i] := by
      simp only [bne_eq_false_iff_eq] at hx
      exact UInt8.toNat_inj.1 (by omega)
     refine ⟨a.length - (i + 1), _, by omega, ⟨i + 1, by omega, rfl, ?_, rfl⟩, Le.sub rfl rfl (keep_cons rfl (keep_cons rfl (keep_cons ?_ keep_nil))) (fun r x h => h)⟩
     ·rw [List.take_succ_eq_append_getElem hia, List.take_succ_eq_append_getElem hib, htake, hx']
     ·have : IntKind.i64.wrap ((i : Int) + 1) = ((i + 1 : Nat) : Int) := by
       rw [wrap64 (by omega) (by omega)]; rfl
      simp only [Vs.get, reduceIte, Nat.reduceEqDiff, this]
   ·refine sw_exit ?_
    have hia : i = a.length := by
     have : ¬ i < a.length := by simpa using hge
     omega
    subst hia
    simp only [thenQ, blockQ, if_true]
    refine sw_seq (sw_reg ?_)
    unfold s23_8
    refine os_k fun K hK => ?_
    refine q4 ?_
    refine hK _ ?_
    clear hK K
    simp only [runOs, thenQ, blockQ]
    refine sw_ret ?_
    refine q3 ?_
    have : (decide (a = b)) = true := by
     rw [List.take_length] at htake
     rw [hlen, List.take_length] at htake
     simpa using htake
    rw [this]
    exact leaves_vals rfl rfl rfl rfl
end Go.Proofs.Ytgbapgjdkoojdaa
