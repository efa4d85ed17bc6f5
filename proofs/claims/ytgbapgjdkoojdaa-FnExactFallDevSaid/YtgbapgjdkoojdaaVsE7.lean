import Derived.Test.YtgbapgjdkoojdaaVsQ
import Derived.Test.YtgbapgjdkoojdaaVsSe
import Derived.Test.YtgbapgjdkoojdaaVsE6
import Derived.Test.YtgbapgjdkoojdaaVsW2
set_option linter.unusedVariables false
set_option linter.unusedSimpArgs false
namespace Go.Proofs.Ytgbapgjdkoojdaa
open Go.Vs
set_option linter.unusedSimpArgs false
set_option linter.unusedVariables false
set_option maxHeartbeats 1000000
theorem runs76 (b : List UInt8) (h : b.length < 2 ^ 62) : Runs Try.prog 76 [.val false [(.rd, .sl 1 (bD b))]] ⟨[(false, [.lf (.int .i64 (crc b : Nat))])], [], []⟩ := by
 obtain ⟨c, hb, hs⟩ := body_of tr76
 refine runs_of_sw Try.func76 hb hs rfl (show 1 ≤ 32 by decide) ?_
 clear hb hs c
 refine q15 ?_
 unfold s76
 refine sw_seq ?_
 refine sw_reg ?_
 unfold s76_0
 refine os_mvk ?_
 simp only [runOs, thenQ, blockQ, Vs.put, reduceIte, Nat.reduceEqDiff]
 refine sw_seq ?_
 refine sw_reg ?_
 unfold s76_1
 refine os_mvk ?_
 simp only [runOs, thenQ, blockQ, Vs.put, reduceIte, Nat.reduceEqDiff]
 refine sw_seq ?_
 refine sw_seq ?_
 refine sw_reg ?_
 unfold s76_2
 refine os_mvk ?_
 simp only [runOs, thenQ, blockQ, Vs.put, reduceIte, Nat.reduceEqDiff]
 refine sw_block ?_
 refine sw_loop_upd [0, 3, 4] (α := Nat) (fun i => [(3, .a (.c (.lf (.int .i64 (crc (b.take i) : Nat))))), (4, .a (.c (.lf (.int .i64 (i : Nat)))))]) (fun i => [(0, .im 1 (bD b))]) (1) (fun i => i ≤ b.length) (fun i => b.length - i) (0) [(0, 0)] ?_ (by decide) ?_ ?_ ?_
 ·exact Nat.zero_le _
 ·simp only [sel, Vs.get, upd, Vs.put, reduceIte, Nat.reduceEqDiff]
  repeat' (first | exact er_nil | refine er_un ?_ | refine er_cons rfl ?_ ?_)
  all_goals (try simp only [V.map, A.map, renC, Vs.get, reduceIte, Nat.reduceEqDiff, List.map_cons, List.map_nil, List.take_zero])
  all_goals (try rfl)
 ·repeat' (first | exact rr_nil | refine rr_cons 0 rfl rfl ?_ ?_)
  all_goals (try simp only [renRoot, renC, Vs.get, reduceIte, Nat.reduceEqDiff, List.map_cons, List.map_nil, List.take_zero])
  all_goals (try rfl)
 ·rintro i hinv
  simp only [sel, Vs.get, upd, Vs.put, reduceIte, Nat.reduceEqDiff]
  refine sw_seq ?_
  refine sw_seq ?_
  refine sw_reg ?_
  unfold s76_3
  refine os_mvt rfl ?_
  refine os_mvt rfl ?_
  first | refine os_lenr rfl ?_ | refine os_lenn rfl ?_
  refine os_bin rfl rfl rfl ?_
  simp only [runOs, thenQ, blockQ, Vs.put, reduceIte, Nat.reduceEqDiff]
  refine sw_cond rfl (fun h2 => ?_) (fun h2 => ?_)
  ·replace h2 := q1 h2
   have hib : i < b.length := by omega
   have e1 : IntKind.i64.wrap ((i : Int) + 1) = ((i + 1 : Nat) : Int) := by rw [wrap64 (by omega) (by omega)]; rfl
   have hcb := crc_lt (b.take i)
   have hb8 := b[i].toNat_lt
   have hx1 : IntKind.i64.wrap (b[i].toNat : Int) = (b[i].toNat : Int) := w64_nat (by omega)
   have hx2 : IntKind.i64.wrap ((b[i].toNat : Int) * 2 ^ 8) = ((256 * b[i].toNat : Nat) : Int) := by
    rw [show ((b[i].toNat : Int) * 2 ^ 8) = ((256 * b[i].toNat : Nat) : Int) by omega]; exact w64_nat (by omega)
   have hx0 := xor64 (a := crc (b.take i)) (b := 256 * b[i].toNat) (by omega) (by omega)
   refine sw_skip ?_
   simp only [thenQ, blockQ]
   refine sw_seq ?_
   refine sw_block ?_
   refine sw_seq ?_
   refine sw_reg ?_
   unfold s76_5
   refine os_mvt rfl ?_
   refine os_mvt rfl ?_
   refine os_mvt rfl ?_
   refine os_iad rfl rfl rfl (by omega) ?_
   refine os_k fun K hK => ?_
   refine q4 ?_
   try simp only [bD_get hib, List.getElem?_cons_zero, List.getElem?_cons_succ, List.take_succ_cons, List.take_zero, List.drop_succ_cons, List.drop_zero, List.nil_append, List.cons_append, List.append_nil, List.map_cons, List.map_nil, Option.bind_some, Option.some.injEq, exists_eq_left', List.length_cons, List.length_nil, Nat.zero_add, Nat.add_zero, Nat.reduceAdd, Nat.reduceLeDiff, Nat.reduceMul, toC, toCs]
   refine hK _ ?_
   clear hK K
   refine os_conv rfl ?_
   refine os_k fun K hK => ?_
   refine q4 ?_
   simp only [show (0:Int) ≤ 8 from by decide, show min (Int.toNat 8) IntKind.i64.bits = 8 from rfl, if_true, Option.some.injEq, exists_eq_left']
   refine hK _ ?_
   clear hK K
   refine os_bin rfl rfl rfl ?_
   refine os_mvt rfl ?_
   simp only [runOs, thenQ, blockQ, Vs.put, reduceIte, Nat.reduceEqDiff]
   refine sw_seq ?_
   refine sw_reg ?_
   unfold s76_6
   refine os_mvk ?_
   simp only [runOs, thenQ, blockQ, Vs.put, reduceIte, Nat.reduceEqDiff]
   refine sw_block ?_
   refine sw_loop_upd [0, 3, 4, 5] (α := Nat) (fun j => [(3, .a (.c (.lf (.int .i64 (crcN j (crc (b.take i) ^^^ (256 * b[i].toNat)) : Nat))))), (5, .a (.c (.lf (.int .i64 (j : Nat)))))]) (fun j => [(0, .im 1 (bD b))]) (1) (fun j => j ≤ 8) (fun j => 8 - j) (0) [(0, 0)] ?_ (by decide) ?_ ?_ ?_
   ·exact Nat.zero_le _
   ·simp only [sel, Vs.get, upd, Vs.put, reduceIte, Nat.reduceEqDiff]
    repeat' (first | exact er_nil | refine er_un ?_ | refine er_cons rfl ?_ ?_)
    all_goals (try simp only [V.map, A.map, renC, Vs.get, reduceIte, Nat.reduceEqDiff, List.map_cons, List.map_nil, crcN, hx0, hx1, hx2])
    all_goals (try rfl)
   ·repeat' (first | exact rr_nil | refine rr_cons 0 rfl rfl ?_ ?_)
    all_goals (try simp only [renRoot, renC, Vs.get, reduceIte, Nat.reduceEqDiff, List.map_cons, List.map_nil, crcN, hx0, hx1, hx2])
    all_goals (try rfl)
   ·rintro j hinv
    simp only [sel, Vs.get, upd, Vs.put, reduceIte, Nat.reduceEqDiff]
    have hcl := crcN_lt (n := j) (crcX_lt (crc_lt (b.take i)) b[i])
    have e2 : IntKind.i64.wrap ((j : Int) + 1) = ((j + 1 : Nat) : Int) := by rw [wrap64 (by omega) (by omega)]; rfl
    generalize hX : crcN j (crc (b.take i) ^^^ (256 * b[i].toNat)) = X at *
    have e3 : IntKind.i64.wrap ((X : Int) * 2 ^ 1) = ((2 * X : Nat) : Int) := by
     rw [show (X : Int) * 2 ^ 1 = ((2 * X : Nat) : Int) by omega]; exact w64_nat (by omega)
    refine sw_seq ?_
    refine sw_seq ?_
    refine sw_reg ?_
    unfold s76_7
    refine os_mvt rfl ?_
    refine os_bin rfl rfl rfl ?_
    simp only [runOs, thenQ, blockQ, Vs.put, reduceIte, Nat.reduceEqDiff]
    refine sw_cond rfl (fun h4 => ?_) (fun h4 => ?_)
    ·replace h4 := q1 h4
     refine sw_skip ?_
     simp only [thenQ, blockQ]
     refine sw_seq ?_
     refine sw_block ?_
     refine sw_seq ?_
     refine sw_reg ?_
     unfold s76_9
     refine os_mvt rfl ?_
     refine os_k fun K hK => ?_
     refine q4 ?_
     simp only [show (0:Int) ≤ 1 from by decide, show min (Int.toNat 1) IntKind.i64.bits = 1 from rfl, if_true, Option.some.injEq, exists_eq_left']
     refine hK _ ?_
     clear hK K
     refine os_mvt rfl ?_
     simp only [runOs, thenQ, blockQ, Vs.put, reduceIte, Nat.reduceEqDiff]
     refine sw_seq ?_
     refine sw_reg ?_
     unfold s76_10
     refine os_mvt rfl ?_
     refine os_bin rfl rfl rfl ?_
     simp only [runOs, thenQ, blockQ, Vs.put, reduceIte, Nat.reduceEqDiff]
     refine sw_cond rfl (fun h5 => ?_) (fun h5 => ?_)
     ·replace h5 := q1 h5
      simp only [e3] at h5
      have e4 := xor64 (a := 2 * X) (b := 69665) (by omega) (by omega)
      have e5 : crc1 X = 2 * X ^^^ 69665 := by rw [crc1, if_pos (by omega)]
      refine sw_reg ?_
      unfold s76_11
      refine os_mvt rfl ?_
      refine os_bin rfl rfl rfl ?_
      refine os_mvt rfl ?_
      simp only [runOs, thenQ, blockQ, Vs.put, reduceIte, Nat.reduceEqDiff]
      refine sw_reg ?_
      unfold s76_8
      refine os_mvt rfl ?_
      refine os_bin rfl rfl rfl ?_
      refine os_mvt rfl ?_
      simp only [runOs, thenQ, blockQ, Vs.put, reduceIte, Nat.reduceEqDiff]
      try simp only [thenQ, blockQ]
      refine ⟨j + 1, ?_, ?_, rfl, [(0, 0)], by decide, ?_, ?_⟩
      ·omega
      ·first | omega | (dsimp only; omega)
      ·simp only [sel, Vs.get, upd, Vs.put, reduceIte, Nat.reduceEqDiff]
       repeat' (first | exact er_nil | refine er_un ?_ | refine er_cons rfl ?_ ?_)
       all_goals (try simp only [V.map, A.map, renC, Vs.get, reduceIte, Nat.reduceEqDiff, List.map_cons, List.map_nil, e2, e3, crcN_succ, hX, e5])
       all_goals (try exact congrArg (fun z => V.a (A.c (C.lf (Value.int IntKind.i64 z)))) e4)
      ·repeat' (first | exact rr_nil | refine rr_cons 0 rfl rfl ?_ ?_)
       all_goals (try simp only [renRoot, renC, Vs.get, reduceIte, Nat.reduceEqDiff, List.map_cons, List.map_nil, e2, e3, crcN_succ, hX, e5])
     ·replace h5 := q1 h5
      simp only [e3] at h5
      have e5 : crc1 X = 2 * X := by rw [crc1, if_neg (by omega)]
      refine sw_skip ?_
      simp only [thenQ, blockQ]
      refine sw_reg ?_
      unfold s76_8
      refine os_mvt rfl ?_
      refine os_bin rfl rfl rfl ?_
      refine os_mvt rfl ?_
      simp only [runOs, thenQ, blockQ, Vs.put, reduceIte, Nat.reduceEqDiff]
      try simp only [thenQ, blockQ]
      refine ⟨j + 1, ?_, ?_, rfl, [(0, 0)], by decide, ?_, ?_⟩
      ·omega
      ·first | omega | (dsimp only; omega)
      ·simp only [sel, Vs.get, upd, Vs.put, reduceIte, Nat.reduceEqDiff]
       repeat' (first | exact er_nil | refine er_un ?_ | refine er_cons rfl ?_ ?_)
       all_goals (try simp only [V.map, A.map, renC, Vs.get, reduceIte, Nat.reduceEqDiff, List.map_cons, List.map_nil, e2, e3, crcN_succ, hX, e5])
      ·repeat' (first | exact rr_nil | refine rr_cons 0 rfl rfl ?_ ?_)
       all_goals (try simp only [renRoot, renC, Vs.get, reduceIte, Nat.reduceEqDiff, List.map_cons, List.map_nil, e2, e3, crcN_succ, hX, e5])
    ·replace h4 := q1 h4
     have hj : j = 8 := by omega
     subst hj
     refine sw_exit ?_
     refine q12 ?_
     refine sw_reg ?_
     unfold s76_4
     refine os_mvt rfl ?_
     refine os_bin rfl rfl rfl ?_
     refine os_mvt rfl ?_
     simp only [runOs, thenQ, blockQ, Vs.put, reduceIte, Nat.reduceEqDiff]
     try simp only [thenQ, blockQ]
     refine ⟨i + 1, ?_, ?_, rfl, [(0, 0)], by decide, ?_, ?_⟩
     ·exact hib
     ·first | omega | (dsimp only; omega)
     ·simp only [sel, Vs.get, upd, Vs.put, reduceIte, Nat.reduceEqDiff]
      repeat' (first | exact er_nil | refine er_un ?_ | refine er_cons rfl ?_ ?_)
      all_goals (try simp only [V.map, A.map, renC, Vs.get, reduceIte, Nat.reduceEqDiff, List.map_cons, List.map_nil, e1, crc_take hib, crcB, hX])
     ·repeat' (first | exact rr_nil | refine rr_cons 0 rfl rfl ?_ ?_)
      all_goals (try simp only [renRoot, renC, Vs.get, reduceIte, Nat.reduceEqDiff, List.map_cons, List.map_nil, e1, crc_take hib, crcB, hX])
  ·replace h2 := q1 h2
   have hib : i = b.length := by omega
   subst hib
   have hcb := crc_lt b
   have ea : IntKind.i64.wrap (((BitVec.ofInt IntKind.i64.bits ((crc b : Nat) : Int) &&& BitVec.ofInt IntKind.i64.bits 65535).toNat : Nat) : Int) = ((crc b : Nat) : Int) := (and_low (a := crc b) (k := 16) (m := 65535) (by omega) (by decide) (by decide)).trans (by rw [Nat.mod_eq_of_lt (show crc b < 2 ^ 16 by omega)])
   refine sw_exit ?_
   refine q12 ?_
   refine sw_seq ?_
   refine sw_reg ?_
   unfold s76_12
   refine os_mvt rfl ?_
   refine os_bin rfl rfl rfl ?_
   refine os_mvt rfl ?_
   simp only [runOs, thenQ, blockQ, Vs.put, reduceIte, Nat.reduceEqDiff]
   refine sw_ret ?_
   refine q3 ?_
   simp only [List.take_length, ea]
   exact leaves_vals rfl rfl rfl rfl
theorem runs79 (b : List UInt8) (h : b.length < 2 ^ 62) : Runs Try.prog 79 [.val false [(.rd, .sl 1 (bD b))]] ⟨[(false, [.lf (.int .i64 (crc b : Nat))])], [], []⟩ := by
 obtain ⟨c, hb, hs⟩ := body_of tr79
 refine runs_of_sw Try.func79 hb hs rfl (show 1 ≤ 29 by decide) ?_
 clear hb hs c
 refine q15 ?_
 unfold s79
 refine sw_seq ?_
 refine sw_reg ?_
 unfold s79_0
 refine os_mvk ?_
 simp only [runOs, thenQ, blockQ, Vs.put, reduceIte, Nat.reduceEqDiff]
 refine sw_seq ?_
 refine sw_reg ?_
 unfold s79_1
 refine os_mvk ?_
 simp only [runOs, thenQ, blockQ, Vs.put, reduceIte, Nat.reduceEqDiff]
 refine sw_seq ?_
 refine sw_seq ?_
 refine sw_reg ?_
 unfold s79_2
 refine os_mvt rfl ?_
 first | refine os_lenr rfl ?_ | refine os_lenn rfl ?_
 refine os_mvk ?_
 simp only [runOs, thenQ, blockQ, Vs.put, reduceIte, Nat.reduceEqDiff]
 refine sw_block ?_
 refine sw_loop_upd [3, 6, 7, 8] (α := Nat) (fun i => [(3, .a (.c (.lf (.int .i64 (crc (b.take i) : Nat))))), (8, .a (.c (.lf (.int .i64 (i : Nat)))))]) (fun i => [(0, .im 1 (bD b))]) (1) (fun i => i ≤ b.length) (fun i => b.length - i) (0) [(0, 0)] ?_ (by decide) ?_ ?_ ?_
 ·exact Nat.zero_le _
 ·simp only [sel, Vs.get, upd, Vs.put, reduceIte, Nat.reduceEqDiff]
  repeat' (first | exact er_nil | refine er_un ?_ | refine er_cons rfl ?_ ?_)
  all_goals (try simp only [V.map, A.map, renC, Vs.get, reduceIte, Nat.reduceEqDiff, List.map_cons, List.map_nil, List.take_zero])
  all_goals (try rfl)
 ·repeat' (first | exact rr_nil | refine rr_cons 0 rfl rfl ?_ ?_)
  all_goals (try simp only [renRoot, renC, Vs.get, reduceIte, Nat.reduceEqDiff, List.map_cons, List.map_nil, List.take_zero])
  all_goals (try rfl)
 ·rintro i hinv
  simp only [sel, Vs.get, upd, Vs.put, reduceIte, Nat.reduceEqDiff]
  refine sw_seq ?_
  refine sw_reg ?_
  unfold s79_3
  refine os_bin rfl rfl rfl ?_
  simp only [runOs, thenQ, blockQ, Vs.put, reduceIte, Nat.reduceEqDiff]
  refine sw_seq ?_
  refine sw_cond rfl (fun h2 => ?_) (fun h2 => ?_)
  ·replace h2 := q1 h2
   have hib : i < b.length := by omega
   have e1 : IntKind.i64.wrap ((i : Int) + 1) = ((i + 1 : Nat) : Int) := by rw [wrap64 (by omega) (by omega)]; rfl
   have hcb := crc_lt (b.take i)
   have hb8 := b[i].toNat_lt
   have hx1 : IntKind.i64.wrap (b[i].toNat : Int) = (b[i].toNat : Int) := w64_nat (by omega)
   have hx2 : IntKind.i64.wrap (256 * (b[i].toNat : Int)) = ((256 * b[i].toNat : Nat) : Int) := by
    rw [show (256 * (b[i].toNat : Int)) = ((256 * b[i].toNat : Nat) : Int) by omega]; exact w64_nat (by omega)
   have hx0 := xor64 (a := crc (b.take i)) (b := 256 * b[i].toNat) (by omega) (by omega)
   refine sw_skip ?_
   simp only [thenQ, blockQ]
   refine sw_seq ?_
   refine sw_block ?_
   refine sw_seq ?_
   refine sw_reg ?_
   unfold s79_4
   refine os_iad rfl rfl rfl (by omega) ?_
   refine os_k fun K hK => ?_
   refine q4 ?_
   try simp only [bD_get hib, List.getElem?_cons_zero, List.getElem?_cons_succ, List.take_succ_cons, List.take_zero, List.drop_succ_cons, List.drop_zero, List.nil_append, List.cons_append, List.append_nil, List.map_cons, List.map_nil, Option.bind_some, Option.some.injEq, exists_eq_left', List.length_cons, List.length_nil, Nat.zero_add, Nat.add_zero, Nat.reduceAdd, Nat.reduceLeDiff, Nat.reduceMul, toC, toCs]
   refine hK _ ?_
   clear hK K
   refine os_mvt rfl ?_
   simp only [runOs, thenQ, blockQ, Vs.put, reduceIte, Nat.reduceEqDiff]
   refine sw_seq ?_
   refine sw_reg ?_
   unfold s79_5
   refine os_mvt rfl ?_
   refine os_mvt rfl ?_
   refine os_conv rfl ?_
   refine os_bin rfl rfl rfl ?_
   refine os_bin rfl rfl rfl ?_
   refine os_mvt rfl ?_
   simp only [runOs, thenQ, blockQ, Vs.put, reduceIte, Nat.reduceEqDiff]
   refine sw_seq ?_
   refine sw_reg ?_
   unfold s79_6
   refine os_mvk ?_
   simp only [runOs, thenQ, blockQ, Vs.put, reduceIte, Nat.reduceEqDiff]
   refine sw_block ?_
   refine sw_loop_upd [3, 6, 7, 8, 17] (α := Nat) (fun j => [(3, .a (.c (.lf (.int .i64 (crcN j (crc (b.take i) ^^^ (256 * b[i].toNat)) : Nat))))), (17, .a (.c (.lf (.int .i64 (j : Nat)))))]) (fun j => [(0, .im 1 (bD b))]) (1) (fun j => j ≤ 8) (fun j => 8 - j) (0) [(0, 0)] ?_ (by decide) ?_ ?_ ?_
   ·exact Nat.zero_le _
   ·simp only [sel, Vs.get, upd, Vs.put, reduceIte, Nat.reduceEqDiff]
    repeat' (first | exact er_nil | refine er_un ?_ | refine er_cons rfl ?_ ?_)
    all_goals (try simp only [V.map, A.map, renC, Vs.get, reduceIte, Nat.reduceEqDiff, List.map_cons, List.map_nil, crcN, hx0, hx1, hx2])
    all_goals (try rfl)
   ·repeat' (first | exact rr_nil | refine rr_cons 0 rfl rfl ?_ ?_)
    all_goals (try simp only [renRoot, renC, Vs.get, reduceIte, Nat.reduceEqDiff, List.map_cons, List.map_nil, crcN, hx0, hx1, hx2])
    all_goals (try rfl)
   ·rintro j hinv
    simp only [sel, Vs.get, upd, Vs.put, reduceIte, Nat.reduceEqDiff]
    have hcl := crcN_lt (n := j) (crcX_lt (crc_lt (b.take i)) b[i])
    have e2 : IntKind.i64.wrap ((j : Int) + 1) = ((j + 1 : Nat) : Int) := by rw [wrap64 (by omega) (by omega)]; rfl
    generalize hX : crcN j (crc (b.take i) ^^^ (256 * b[i].toNat)) = X at *
    have e3 : IntKind.i64.wrap ((X : Int) * 2) = ((2 * X : Nat) : Int) := by
     rw [show (X : Int) * 2 = ((2 * X : Nat) : Int) by omega]; exact w64_nat (by omega)
    refine sw_seq ?_
    refine sw_reg ?_
    unfold s79_7
    refine os_bin rfl rfl rfl ?_
    simp only [runOs, thenQ, blockQ, Vs.put, reduceIte, Nat.reduceEqDiff]
    refine sw_seq ?_
    refine sw_cond rfl (fun h4 => ?_) (fun h4 => ?_)
    ·replace h4 := q1 h4
     refine sw_skip ?_
     simp only [thenQ, blockQ]
     refine sw_seq ?_
     refine sw_block ?_
     refine sw_seq ?_
     refine sw_reg ?_
     unfold s79_8
     refine os_mvt rfl ?_
     refine os_bin rfl rfl rfl ?_
     refine os_mvt rfl ?_
     simp only [runOs, thenQ, blockQ, Vs.put, reduceIte, Nat.reduceEqDiff]
     refine sw_seq ?_
     refine sw_reg ?_
     unfold s79_9
     refine os_mvt rfl ?_
     refine os_bin rfl rfl rfl ?_
     simp only [runOs, thenQ, blockQ, Vs.put, reduceIte, Nat.reduceEqDiff]
     refine sw_cond rfl (fun h5 => ?_) (fun h5 => ?_)
     ·replace h5 := q1 h5
      simp only [e3] at h5
      have e4 := xor64 (a := 2 * X) (b := 69665) (by omega) (by omega)
      have e5 : crc1 X = 2 * X ^^^ 69665 := by rw [crc1, if_pos (by omega)]
      refine sw_reg ?_
      unfold s79_10
      refine os_mvt rfl ?_
      refine os_bin rfl rfl rfl ?_
      refine os_mvt rfl ?_
      simp only [runOs, thenQ, blockQ, Vs.put, reduceIte, Nat.reduceEqDiff]
      refine sw_reg ?_
      unfold s79_11
      refine os_bin rfl rfl rfl ?_
      refine os_mvt rfl ?_
      simp only [runOs, thenQ, blockQ, Vs.put, reduceIte, Nat.reduceEqDiff]
      try simp only [thenQ, blockQ]
      refine ⟨j + 1, ?_, ?_, rfl, [(0, 0)], by decide, ?_, ?_⟩
      ·omega
      ·first | omega | (dsimp only; omega)
      ·simp only [sel, Vs.get, upd, Vs.put, reduceIte, Nat.reduceEqDiff]
       repeat' (first | exact er_nil | refine er_un ?_ | refine er_cons rfl ?_ ?_)
       all_goals (try simp only [V.map, A.map, renC, Vs.get, reduceIte, Nat.reduceEqDiff, List.map_cons, List.map_nil, e2, e3, crcN_succ, hX, e5])
       all_goals (try exact congrArg (fun z => V.a (A.c (C.lf (Value.int IntKind.i64 z)))) e4)
      ·repeat' (first | exact rr_nil | refine rr_cons 0 rfl rfl ?_ ?_)
       all_goals (try simp only [renRoot, renC, Vs.get, reduceIte, Nat.reduceEqDiff, List.map_cons, List.map_nil, e2, e3, crcN_succ, hX, e5])
     ·replace h5 := q1 h5
      simp only [e3] at h5
      have e5 : crc1 X = 2 * X := by rw [crc1, if_neg (by omega)]
      refine sw_skip ?_
      simp only [thenQ, blockQ]
      refine sw_reg ?_
      unfold s79_11
      refine os_bin rfl rfl rfl ?_
      refine os_mvt rfl ?_
      simp only [runOs, thenQ, blockQ, Vs.put, reduceIte, Nat.reduceEqDiff]
      try simp only [thenQ, blockQ]
      refine ⟨j + 1, ?_, ?_, rfl, [(0, 0)], by decide, ?_, ?_⟩
      ·omega
      ·first | omega | (dsimp only; omega)
      ·simp only [sel, Vs.get, upd, Vs.put, reduceIte, Nat.reduceEqDiff]
       repeat' (first | exact er_nil | refine er_un ?_ | refine er_cons rfl ?_ ?_)
       all_goals (try simp only [V.map, A.map, renC, Vs.get, reduceIte, Nat.reduceEqDiff, List.map_cons, List.map_nil, e2, e3, crcN_succ, hX, e5])
      ·repeat' (first | exact rr_nil | refine rr_cons 0 rfl rfl ?_ ?_)
       all_goals (try simp only [renRoot, renC, Vs.get, reduceIte, Nat.reduceEqDiff, List.map_cons, List.map_nil, e2, e3, crcN_succ, hX, e5])
    ·replace h4 := q1 h4
     have hj : j = 8 := by omega
     subst hj
     refine sw_exit ?_
     refine q12 ?_
     refine sw_reg ?_
     unfold s79_12
     refine os_bin rfl rfl rfl ?_
     refine os_mvt rfl ?_
     simp only [runOs, thenQ, blockQ, Vs.put, reduceIte, Nat.reduceEqDiff]
     try simp only [thenQ, blockQ]
     refine ⟨i + 1, ?_, ?_, rfl, [(0, 0)], by decide, ?_, ?_⟩
     ·exact hib
     ·first | omega | (dsimp only; omega)
     ·simp only [sel, Vs.get, upd, Vs.put, reduceIte, Nat.reduceEqDiff]
      repeat' (first | exact er_nil | refine er_un ?_ | refine er_cons rfl ?_ ?_)
      all_goals (try simp only [V.map, A.map, renC, Vs.get, reduceIte, Nat.reduceEqDiff, List.map_cons, List.map_nil, e1, crc_take hib, crcB, hX])
     ·repeat' (first | exact rr_nil | refine rr_cons 0 rfl rfl ?_ ?_)
      all_goals (try simp only [renRoot, renC, Vs.get, reduceIte, Nat.reduceEqDiff, List.map_cons, List.map_nil, e1, crc_take hib, crcB, hX])
  ·replace h2 := q1 h2
   have hib : i = b.length := by omega
   subst hib
   have hcb := crc_lt b
   have ea : IntKind.i64.wrap (((BitVec.ofInt IntKind.i64.bits ((crc b : Nat) : Int) &&& BitVec.ofInt IntKind.i64.bits 65535).toNat : Nat) : Int) = ((crc b : Nat) : Int) := (and_low (a := crc b) (k := 16) (m := 65535) (by omega) (by decide) (by decide)).trans (by rw [Nat.mod_eq_of_lt (show crc b < 2 ^ 16 by omega)])
   refine sw_exit ?_
   refine q12 ?_
   refine sw_seq ?_
   refine sw_reg ?_
   unfold s79_13
   refine os_mvt rfl ?_
   refine os_bin rfl rfl rfl ?_
   refine os_mvt rfl ?_
   simp only [runOs, thenQ, blockQ, Vs.put, reduceIte, Nat.reduceEqDiff]
   refine sw_ret ?_
   refine q3 ?_
   simp only [List.take_length, ea]
   exact leaves_vals rfl rfl rfl rfl
end Go.Proofs.Ytgbapgjdkoojdaa
