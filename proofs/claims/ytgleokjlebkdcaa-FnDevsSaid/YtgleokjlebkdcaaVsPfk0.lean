import Derived.Test.YtgleokjlebkdcaaProg
import Derived.Test.YtgleokjlebkdcaaVsPf
set_option linter.all false
namespace Go.Vs
open Go.Proofs
set_option maxRecDepth 100000
set_option linter.unusedVariables false
theorem mixed_Pf : Try.prog.follows .mixedOrders = true := by kernel_rfl
noncomputable def a_l_big : An := .d
theorem h_l_big (x : List UInt8) : fnX (P := Try.prog) [] [] (sOf Try.prog Try.f8) a_l_big (iOf Try.prog Try.f8) [(false, .L .Y)] [(false, .B)] x = F_l_big x := by kernel_rfl
noncomputable def e_l_big : SEnt Try.prog := ⟨8, [(false, .L .Y)], [(false, .B)], F_l_big, runs_see mixed_Pf Try.func8 (by kernel_rfl) h_l_big⟩
noncomputable def a_s_l1New : An := (.sq none .d (.sq none .d (.sq (some [.kt 0, .lt 3 (.I .i64)]) (.sq none .d (.bl (.lp [.kt 0, .lt 3 (.I .i64), .lt 4 (.I .i64)] .d))) .d)))
theorem h_s_l1New (x : List UInt8) : fnC (P := Try.prog) [] [] (sOf Try.prog Try.f43) a_s_l1New (iOf Try.prog Try.f43) x = F_s_l1New x := by kernel_rfl
noncomputable def e_s_l1New : CEnt Try.prog := ⟨43, F_s_l1New, makes_cur mixed_Pf Try.func43 (by kernel_rfl) h_s_l1New⟩
noncomputable def a_s_l1Byte : An := (.sq none .d (.sq none .d (.sq none .d (.sq (some [.bx 0 [.K, .L (.I .i64), .K], .lt 3 (.I .i64)]) .d .d))))
theorem h_s_l1Byte (x : (List UInt8) × Int × Int) : fnG (P := Try.prog) [] [] (sOf Try.prog Try.f78) a_s_l1Byte (iOf Try.prog Try.f78) [⟨true, false, .P (.L .Y) (.P (.I .i64) (.I
 .i64)), [.rx, .rd, .rd], (some (.P (.I .i64) (.I .i64)))⟩] [(false, .I .i64)] x = F_s_l1Byte x := by kernel_rfl
noncomputable def e_s_l1Byte : GEnt Try.prog := ⟨78, [⟨true, false, .P (.L .Y) (.P (.I .i64) (.I .i64)), [.rx, .rd, .rd], (some (.P (.I .i64) (.I .i64)))⟩], [(false, .I .i64)],
 F_s_l1Byte, runs_gen mixed_Pf Try.func78 (by kernel_rfl) h_s_l1Byte⟩
noncomputable def a_s_l1Below : An := .d
theorem h_s_l1Below (x : ((List UInt8) × Int × Int) × Int) : fnG (P := Try.prog) [.gen e_s_l1Byte] [] (sOf Try.prog Try.f49) a_s_l1Below (iOf Try.prog Try.f49) [⟨true, false, .P
 (.L .Y) (.P (.I .i64) (.I .i64)), [.rx, .rd, .rd], (some (.P (.I .i64) (.I .i64)))⟩, ⟨false, false, .I .i64, [.rd], none⟩] [(false, .I .i64)] x = F_s_l1Below x := by kernel_rfl
noncomputable def e_s_l1Below : GEnt Try.prog := ⟨49, [⟨true, false, .P (.L .Y) (.P (.I .i64) (.I .i64)), [.rx, .rd, .rd], (some (.P (.I .i64) (.I .i64)))⟩, ⟨false, false, .I .i64,
 [.rd], none⟩], [(false, .I .i64)], F_s_l1Below, runs_gen mixed_Pf Try.func49 (by kernel_rfl) h_s_l1Below⟩
noncomputable def a_s_l1In : An := .d
theorem h_s_l1In (x : Int × Int × Int) : fnX (P := Try.prog) [] [] (sOf Try.prog Try.f56) a_s_l1In (iOf Try.prog Try.f56) [(false, .I .i64), (false, .I .i64), (false, .I .i64)]
 [(false, .B)] x = F_s_l1In x := by kernel_rfl
noncomputable def e_s_l1In : SEnt Try.prog := ⟨56, [(false, .I .i64), (false, .I .i64), (false, .I .i64)], [(false, .B)], F_s_l1In, runs_see mixed_Pf Try.func56 (by kernel_rfl)
 h_s_l1In⟩
noncomputable def a_s_DevNew : An := (.sq none .d (.sq none .d (.sq none .d (.sq (some [.kt 2, .bx 3 [.O (.L .Y), .K, .K, .K]]) (.sq none .d (.bl (.lp [.kt 0, .kt 2, .bx 3 [.O (.L
 .Y), .K, .K, .K], .lt 4 (.I .i64)] .d))) .d))))
theorem h_s_DevNew (x : Int) : fnX (P := Try.prog) [.see e_s_l1In] [(17, .el .Y), (18, .el (.L .Y)), (19, .el (.L .Y))] (sOf Try.prog Try.f42) a_s_DevNew (iOf Try.prog Try.f42)
 [(false, .I .i64)] [(true, .P (.L (.L .Y)) (.P (.L (.P (.I .i64) (.L .Y))) (.P (.I .i64) .B)))] x = F_s_DevNew x := by kernel_rfl
noncomputable def e_s_DevNew : SEnt Try.prog := ⟨42, [(false, .I .i64)], [(true, .P (.L (.L .Y)) (.P (.L (.P (.I .i64) (.L .Y))) (.P (.I .i64) .B)))], F_s_DevNew, runs_see mixed_Pf
 Try.func42 (by kernel_rfl) h_s_DevNew⟩
noncomputable def a_s_l1Once : An := .d
theorem h_s_l1Once (x : ((List UInt8) × Int × Int) × Int) : fnG (P := Try.prog) [.gen e_s_l1Below] [] (sOf Try.prog Try.f50) a_s_l1Once (iOf Try.prog Try.f50) [⟨true, false, .P (.L
 .Y) (.P (.I .i64) (.I .i64)), [.rx, .rd, .rd], (some (.P (.I .i64) (.I .i64)))⟩, ⟨false, false, .I .i64, [.rd], none⟩] [(false, .B)] x = F_s_l1Once x := by kernel_rfl
noncomputable def e_s_l1Once : GEnt Try.prog := ⟨50, [⟨true, false, .P (.L .Y) (.P (.I .i64) (.I .i64)), [.rx, .rd, .rd], (some (.P (.I .i64) (.I .i64)))⟩, ⟨false, false, .I .i64,
 [.rd], none⟩], [(false, .B)], F_s_l1Once, runs_gen mixed_Pf Try.func50 (by kernel_rfl) h_s_l1Once⟩
noncomputable def a_s_l10Op : An := .d
theorem h_s_l10Op (x : (List (List UInt8)) × (List (Int × List UInt8)) × Int × Bool) : fnG (P := Try.prog) [] [] (sOf Try.prog Try.f87) a_s_l10Op (iOf Try.prog Try.f87) [⟨true,
 false, .P (.L (.L .Y)) (.P (.L (.P (.I .i64) (.L .Y))) (.P (.I .i64) .B)), [.rx, .rx, .rd, .rd], (some (.P (.I .i64) .B))⟩] [(false, .B)] x = F_s_l10Op x := by kernel_rfl
noncomputable def e_s_l10Op : GEnt Try.prog := ⟨87, [⟨true, false, .P (.L (.L .Y)) (.P (.L (.P (.I .i64) (.L .Y))) (.P (.I .i64) .B)), [.rx, .rx, .rd, .rd], (some (.P (.I .i64)
 .B))⟩], [(false, .B)], F_s_l10Op, runs_gen mixed_Pf Try.func87 (by kernel_rfl) h_s_l10Op⟩
def s77_0 : List GI := [⟨(some 3), .rd (.mv (.t 0)), none⟩,
 ⟨(some 4), .rd (.nilc (.t 3)), none⟩,
 ⟨(some 5), .rd (.fad 3 (.t 4)), none⟩,
 ⟨(some 6), .rd (.load none (.t 5)), none⟩,
 ⟨(some 7), .rd (.mv (.t 6)), none⟩,
 ⟨(some 8), .rd (.mv (.t 0)), (some (7, false))⟩,
 ⟨(some 9), .wr (.call 87 [(.t 8)]), (some (7, false))⟩,
 ⟨(some 10), .rd (.un .not (.t 9)), (some (7, false))⟩,
 ⟨(some 11), .rd (.pick (.t 7) (.k (.a (.c (.lf (.bool true))))) (.t 10)), none⟩]
def s77_1 : List GI := [⟨(some 2), .rd (.mv (.k (.a (.c (.lf (.int .i64 0)))))), none⟩]
def s77_2 : List GI := [⟨(some 12), .rd (.mv (.t 2)), none⟩,
 ⟨(some 13), .rd (.mv (.t 0)), none⟩,
 ⟨(some 14), .rd (.nilc (.t 13)), none⟩,
 ⟨(some 15), .rd (.fad 1 (.t 14)), none⟩,
 ⟨(some 16), .rd (.load none (.t 15)), none⟩,
 ⟨(some 17), .rd (.len (.t 16)), none⟩,
 ⟨(some 18), .rd (.bin .lss (.t 12) (.t 17)), none⟩]
def s77_4 : List DI := [⟨⟨(some 21), .rd (.mv (.t 0)), none⟩, [], false, 0, 0⟩,
 ⟨⟨(some 22), .rd (.nilc (.t 21)), none⟩, [0], false, 0, 0⟩,
 ⟨⟨(some 23), .rd (.fad 0 (.t 22)), none⟩, [1, 0], false, 0, 0⟩,
 ⟨⟨(some 24), .rd (.load none (.t 23)), none⟩, [2, 1, 0], false, 0, 0⟩,
 ⟨⟨(some 25), .rd (.mv (.t 0)), none⟩, [], false, 0, 0⟩,
 ⟨⟨(some 26), .rd (.nilc (.t 25)), none⟩, [4], false, 0, 0⟩,
 ⟨⟨(some 27), .rd (.fad 1 (.t 26)), none⟩, [5, 4], false, 0, 0⟩,
 ⟨⟨(some 28), .rd (.load none (.t 27)), none⟩, [6, 5, 4], false, 0, 0⟩,
 ⟨⟨(some 29), .rd (.mv (.t 2)), none⟩, [], false, 0, 0⟩,
 ⟨⟨(some 30), .rd (.iad 2 (.t 28) (.t 29)), none⟩, [7, 8, 6, 5, 4], false, 0, 0⟩,
 ⟨⟨(some 31), .rd (.fad 0 (.t 30)), none⟩, [9, 7, 8, 6, 5, 4], false, 0, 0⟩,
 ⟨⟨(some 32), .rd (.load none (.t 31)), none⟩, [10, 9, 7, 8, 6, 5, 4], false, 0, 0⟩,
 ⟨⟨(some 33), .rd (.mv (.t 0)), none⟩, [], false, 0, 0⟩,
 ⟨⟨(some 34), .rd (.nilc (.t 33)), none⟩, [12], false, 0, 0⟩,
 ⟨⟨(some 35), .rd (.fad 1 (.t 34)), none⟩, [13, 12], false, 0, 0⟩,
 ⟨⟨(some 36), .rd (.load none (.t 35)), none⟩, [14, 13, 12], false, 0, 0⟩,
 ⟨⟨(some 37), .rd (.mv (.t 2)), none⟩, [], false, 0, 0⟩,
 ⟨⟨(some 38), .rd (.iad 2 (.t 36) (.t 37)), none⟩, [15, 16, 14, 13, 12], false, 0, 0⟩,
 ⟨⟨(some 39), .rd (.fad 1 (.t 38)), none⟩, [17, 15, 16, 14, 13, 12], false, 0, 0⟩,
 ⟨⟨(some 40), .rd (.load none (.t 39)), none⟩, [18, 17, 15, 16, 14, 13, 12], false, 0, 0⟩,
 ⟨⟨(some 41), .rd (.iad 1 (.t 24) (.t 32)), none⟩, [3, 11, 19, 2, 1, 0, 10, 9, 7, 8, 6, 5, 4, 18, 17, 15, 16, 14, 13, 12], false, 0, 0⟩,
 ⟨⟨none, .wr (.store 1 (.t 41) (.t 40)), none⟩, [20, 3, 11, 19, 2, 1, 0, 10, 9, 7, 8, 6, 5, 4, 18, 17, 15, 16, 14, 13, 12], true, 0, 0⟩]
def s77_3 : List GI := [⟨(some 19), .rd (.mv (.t 2)), none⟩,
 ⟨(some 20), .rd (.bin .add (.t 19) (.k (.a (.c (.lf (.int .i64 1)))))), none⟩,
 ⟨(some 2), .rd (.mv (.t 20)), none⟩]
def s77_5 : List GI := [⟨(some 42), .rd (.mv (.t 0)), none⟩,
 ⟨(some 43), .wr (.lit 2 0 [.lf (.int .i64 0), .nl 1] []), none⟩,
 ⟨(some 44), .rd (.nilc (.t 42)), none⟩,
 ⟨(some 45), .rd (.fad 1 (.t 44)), none⟩,
 ⟨none, .wr (.store 1 (.t 45) (.t 43)), none⟩]
def s77 : Stm := (.seq (.seq (.reg s77_0) (.cond (.t 11) .ret .skip)) (.seq (.seq (.reg s77_1) (.block 0 (.loop (.seq (.seq (.reg s77_2) (.cond (.t 18) .skip (.exit 0))) (.seq (.block 1 (.drw s77_4)) (.reg s77_3)))))) (.reg s77_5)))
theorem tr77 : (Try.f77.body.bind (trC Try.prog Try.f77.ntmps)) = some s77 := by kernel_rfl
section
set_option maxHeartbeats 1000000
set_option maxRecDepth 4000
set_option linter.unusedSimpArgs false
theorem r_op (secs : List (List UInt8)) (cache : List Wr) (fuse : Int) (down : Bool) (hf : -1 ≤ fuse ∧ fuse ≤ 1000) : Runs Try.prog 87 [.ptr [(.rx, .sl 1 (sD secs)), (.rx, .sl 2 (wD cache)), (.rd, .lf (.int .i64 fuse)), (.rd, .lf (.bool down))]] ⟨[(false, [.lf (.bool (opR fuse))])], [], [[.lf (.int .i64 (opF fuse)), .lf (.bool (opD fuse down))]]⟩ :=
 e_s_l10Op.ok (secs, (cache, (fuse, down))) (opR fuse, (opF fuse, opD fuse down)) (by
  show F_s_l10Op (secs, (cache, (fuse, down))) = _
  unfold F_s_l10Op opR opF opD
  simp only
  by_cases h0 : fuse = 0
  ·subst h0; rfl
  have hb : (fuse == 0) = false := by simp [h0]
  rw [show iEq fuse 0 = false from by simp [iEq, h0], show ∀ x y : Option (Bool × (Int × Bool)), cnd false x y = y from fun _ _ => rfl]
  by_cases h1 : 0 < fuse
  ·have e : iSub .i64 fuse 1 = fuse - 1 := wrap64 (by omega) (by omega)
   rw [show iGt fuse 0 = true from by simp [iGt, h1], show ∀ x y : Option (Bool × (Int × Bool)), cnd true x y = x from fun _ _ => rfl, e]
   simp [hb, h0, h1]; rfl
  ·rw [show iGt fuse 0 = false from by simp [iGt]; omega, show ∀ x y : Option (Bool × (Int × Bool)), cnd false x y = y from fun _ _ => rfl]
   simp [hb, h0, h1]; rfl)
theorem runs77 (secs : List (List UInt8)) (cache : List Wr) (fuse : Int) (down : Bool) (hf : -1 ≤ fuse ∧ fuse ≤ 1000) (hl : secs.length < 2 ^ 40) (hm : cache.length < 2 ^ 40) (hd : ∀ w ∈ cache, 0 ≤ w.1 ∧ w.1 ≤ (secs.length : Int) - 1) : Runs Try.prog 77 [.ptr [(.ow, .sl 1 (sD secs)), (.ow, .sl 2 (wD cache)), (.rd, .lf (.int .i64 fuse)), (.rd, .lf (.bool down))]] ⟨[], [], [[.sl 1 (sD (flC secs cache fuse down).1), .sl 2 (wD (flC secs cache fuse down).2.1), .lf (.int .i64 (flC secs cache fuse down).2.2.1), .lf (.bool (flC secs cache fuse down).2.2.2)]]⟩ := by
 obtain ⟨c, hb, hs⟩ := body_of tr77
 refine runs_of_sw Try.func77 hb hs rfl (show 1 ≤ 46 by decide) ?_
 clear hb hs c
 simp only [inAs, inCells, flat, List.flatMap_cons, List.flatMap_nil, Arg.cells, List.cons_append, List.nil_append, inCs, inC, fixN, fixCs, fixC, nBox, inV, inB, rootB, List.length_cons, List.length_nil, List.take_succ_cons, List.take_zero, List.drop_succ_cons, List.drop_zero, env0, Nat.zero_add, Nat.add_zero, List.append_nil, Nat.reduceAdd, sD_len, wD_len]
 unfold s77
 refine sw_seq ?_
 refine sw_seq ?_
 refine sw_reg ?_
 unfold s77_0
 refine os_ev (evq_mvt rfl) ?_
 first | refine os_ev (evq_nilc rfl) ?_ | refine os_ev (evq_nile rfl) ?_
 first | refine os_ev (evq_fadb rfl) ?_ | refine os_ev (evq_fade rfl) ?_
 try simp only [List.take_zero, List.take_succ_cons, List.drop_zero, List.drop_succ_cons, List.nil_append, List.cons_append, List.append_nil, List.length_cons, List.length_nil, Nat.zero_add, Nat.add_zero, Nat.reduceAdd, Nat.reduceMul, toC, toCs, bD_len, sD_len, rep, List.getElem?_cons_zero, List.getElem?_cons_succ]
 first | refine os_ev (evq_ldb rfl rfl rfl) ?_ | refine os_ev (evq_ldl rfl rfl (rfl) rfl) ?_ | refine os_ev (evq_lds rfl rfl (rfl) rfl) ?_
 try simp only [List.take_zero, List.take_succ_cons, List.drop_zero, List.drop_succ_cons, List.nil_append, List.cons_append, List.append_nil, List.length_cons, List.length_nil, Nat.zero_add, Nat.add_zero, Nat.reduceAdd, Nat.reduceMul, toC, toCs, bD_len, sD_len, rep, List.getElem?_cons_zero, List.getElem?_cons_succ]
 refine os_ev (evq_mvt rfl) ?_
 simp only [Vs.put, reduceIte, Nat.reduceEqDiff]
 refine os_gs rfl (fun g7 => ?_) (fun g7 => ?_)
 ·try simp only [g7]
  try simp only [decide_eq_true_eq, decide_eq_false_iff_not, bne_iff_ne, beq_iff_eq, bne_eq_false_iff_eq, beq_eq_false_iff_ne, ne_eq, Int.not_lt, Int.not_le, gt_iff_lt, ge_iff_le, Bool.not_eq_true, Bool.not_eq_false, Bool.not_eq_true', Bool.not_eq_false', Bool.and_eq_true, Bool.or_eq_true, Bool.and_eq_false_iff, Bool.or_eq_false_iff] at g7
  subst g7
  refine os_gno rfl (by decide) ?_
  refine os_gno rfl (by decide) ?_
  refine os_gno rfl (by decide) ?_
  simp only [Vs.put, reduceIte, Nat.reduceEqDiff]
  refine os_ev (evq_pickt rfl rfl) ?_
  simp only [runOs, thenQ, blockQ, Vs.put, reduceIte, Nat.reduceEqDiff]
  refine sw_cond rfl (fun h1 => ?_) (fun h1 => ?_)
  ·try simp only [decide_eq_true_eq, decide_eq_false_iff_not, bne_iff_ne, beq_iff_eq, bne_eq_false_iff_eq, beq_eq_false_iff_ne, ne_eq, Int.not_lt, Int.not_le, gt_iff_lt, ge_iff_le, Bool.not_eq_true, Bool.not_eq_false, Bool.not_eq_true', Bool.not_eq_false', Bool.and_eq_true, Bool.or_eq_true, Bool.and_eq_false_iff, Bool.or_eq_false_iff] at h1
   refine sw_ret ?_
   simp only [thenQ, blockQ, resK, ev, St.opd, Vs.get, reduceIte, Nat.reduceEqDiff, Option.getD_some]
   rw [flC_no rfl]
   refine leaves_bx rfl rfl rfl ?_ rfl (take_cons rfl (by simp) (take_cons rfl (by simp) (take_lf (take_lf rfl)))) rfl rfl
   exact rs_ow rfl (rs_ow rfl (rs_ow rfl (rs_ow rfl rs_nil)))
  ·exact absurd h1 (by simp at h1)
 ·try simp only [g7]
  try simp only [decide_eq_true_eq, decide_eq_false_iff_not, bne_iff_ne, beq_iff_eq, bne_eq_false_iff_eq, beq_eq_false_iff_ne, ne_eq, Int.not_lt, Int.not_le, gt_iff_lt, ge_iff_le, Bool.not_eq_true, Bool.not_eq_false, Bool.not_eq_true', Bool.not_eq_false', Bool.and_eq_true, Bool.or_eq_true, Bool.and_eq_false_iff, Bool.or_eq_false_iff] at g7
  subst g7
  refine os_gdo rfl ?_
  refine os_ev (evq_mvt rfl) ?_
  simp only [Vs.put, reduceIte, Nat.reduceEqDiff]
  refine os_gdo rfl ?_
  refine os_callo ?_
  simp only [List.map_cons, List.map_nil, St.opd, Vs.get, Vs.put, reduceIte, Nat.reduceEqDiff, Option.getD_some]
  refine ⟨_, _, r_op secs cache fuse false hf, _, rfl, _, rfl, by simp [handIo, handBx], fa_cons (⟨rfl, .inl rfl, by simp [handIo, handBx], _, rfl, by simp, by first | rfl | (simp; done) | exact (List.take_of_length_le (by simp)).symm⟩) (fa_cons (⟨rfl, .inl rfl, by simp [handIo, handBx], _, rfl, by simp, by first | rfl | (simp; done) | exact (List.take_of_length_le (by simp)).symm⟩) (fa_cons (rfl) (fa_cons (rfl) (fa_nil)))), _, rfl, _, rfl, ?_⟩
  simp only [newCs, newRes, newA, resV, List.flatMap_cons, List.flatMap_nil, List.flatten_nil, List.flatten_cons, List.append_nil, List.nil_append, List.cons_append, List.length_cons, List.length_nil, List.drop_succ_cons, List.drop_zero, List.take_succ_cons, List.take_zero, if_true, if_false, Bool.false_eq_true, List.drop_nil, mixCs, isRx, Vs.put, reduceIte, Nat.reduceEqDiff, Nat.zero_add, Nat.reduceAdd, bD_len, sD_len]
  try simp only [setEnv, Vs.put, killEnv, del, cutR, reduceIte, Nat.reduceEqDiff, Nat.reduceAdd]
  refine os_gdo rfl ?_
  refine os_ev (evq_un rfl rfl) ?_
  refine os_ev (evq_pickf rfl rfl) ?_
  simp only [runOs, thenQ, blockQ, Vs.put, reduceIte, Nat.reduceEqDiff]
  refine sw_cond rfl (fun h1 => ?_) (fun h1 => ?_)
  ·have hz : fuse = 0 := by simpa [opR] using h1
   obtain ⟨z1, z2, _⟩ := op_zero (down := false) hz
   simp only [z1, z2]
   rw [flC_zero hz]
   refine sw_ret ?_
   simp only [thenQ, blockQ, resK, ev, St.opd, Vs.get, reduceIte, Nat.reduceEqDiff, Option.getD_some]
   refine leaves_bx rfl rfl rfl ?_ rfl (take_cons rfl (by simp) (take_cons rfl (by simp) (take_lf (take_lf rfl)))) rfl rfl
   exact rs_ow rfl (rs_ow rfl (rs_ow rfl (rs_ow rfl rs_nil)))
  ·have hz : ¬ fuse = 0 := by simpa [opR] using h1
   obtain ⟨z2, _⟩ := op_pos (down := false) hz
   simp only [z2]
   rw [flC_yes hz]
   refine sw_skip ?_
   simp only [thenQ, blockQ]
   refine sw_seq ?_
   refine sw_seq ?_
   refine sw_reg ?_
   unfold s77_1
   refine os_ev (evq_mvk) ?_
   simp only [runOs, thenQ, blockQ, Vs.put, reduceIte, Nat.reduceEqDiff]
   refine sw_block ?_
   refine sw_loop_upd [0, 2] (α := Nat) (fun i => [(2, .a (.c (.lf (.int .i64 (i : Nat)))))]) (fun i => [(0, .bx [.rf 1 [] 1 0 secs.length, .rf 2 [] 2 0 cache.length, .lf (.int .i64 (opF fuse)), .lf (.bool false)]), (1, .tr 1 (sD (flL secs (cache.take i)))), (2, .tr 2 (wH cache i))]) (3) (fun i => i ≤ cache.length) (fun i => cache.length - i) (0) [(0, 0), (1, 1), (2, 2)] ?_ (by decide) ?_ ?_ ?_
   ·exact Nat.zero_le _
   ·simp only [sel, Vs.get, upd, Vs.put, reduceIte, Nat.reduceEqDiff]
    repeat' (first | exact er_nil | refine er_un ?_ | refine er_cons rfl ?_ ?_)
    all_goals (try simp only [V.map, A.map, renC, Vs.get, reduceIte, Nat.reduceEqDiff, List.map_cons, List.map_nil])
    all_goals (try rfl)
   ·repeat' (first | exact rr_nil | refine rr_cons 0 rfl rfl ?_ ?_ | refine rr_cons 1 rfl rfl ?_ ?_ | refine rr_cons 2 rfl rfl ?_ ?_)
    all_goals (try simp only [renRoot, renC, Vs.get, reduceIte, Nat.reduceEqDiff, List.map_cons, List.map_nil])
    all_goals (try rfl)
   ·rintro i hinv
    simp only [sel, Vs.get, upd, Vs.put, reduceIte, Nat.reduceEqDiff]
    refine sw_seq ?_
    refine sw_seq ?_
    refine sw_reg ?_
    unfold s77_2
    refine os_ev (evq_mvt rfl) ?_
    refine os_ev (evq_mvt rfl) ?_
    simp only [Vs.put, reduceIte, Nat.reduceEqDiff]
    first | refine os_ev (evq_nilc rfl) ?_ | refine os_ev (evq_nile rfl) ?_
    first | refine os_ev (evq_fadb rfl) ?_ | refine os_ev (evq_fade rfl) ?_
    try simp only [List.take_zero, List.take_succ_cons, List.drop_zero, List.drop_succ_cons, List.nil_append, List.cons_append, List.append_nil, List.length_cons, List.length_nil, Nat.zero_add, Nat.add_zero, Nat.reduceAdd, Nat.reduceMul, toC, toCs, bD_len, sD_len, rep, List.getElem?_cons_zero, List.getElem?_cons_succ]
    first | refine os_ev (evq_ldb rfl rfl rfl) ?_ | refine os_ev (evq_ldl rfl rfl (rfl) rfl) ?_ | refine os_ev (evq_lds rfl rfl (rfl) rfl) ?_
    try simp only [List.take_zero, List.take_succ_cons, List.drop_zero, List.drop_succ_cons, List.nil_append, List.cons_append, List.append_nil, List.length_cons, List.length_nil, Nat.zero_add, Nat.add_zero, Nat.reduceAdd, Nat.reduceMul, toC, toCs, bD_len, sD_len, rep, List.getElem?_cons_zero, List.getElem?_cons_succ]
    first | refine os_ev (evq_lenr rfl) ?_ | refine os_ev (evq_lenn rfl) ?_
    refine os_ev (evq_bin rfl rfl rfl) ?_
    simp only [Vs.put, reduceIte, Nat.reduceEqDiff]
    simp only [runOs, thenQ, blockQ, Vs.put, reduceIte, Nat.reduceEqDiff]
    refine sw_cond rfl (fun h4 => ?_) (fun h4 => ?_)
    ·try simp only [decide_eq_true_eq, decide_eq_false_iff_not, bne_iff_ne, beq_iff_eq, bne_eq_false_iff_eq, beq_eq_false_iff_ne, ne_eq, Int.not_lt, Int.not_le, gt_iff_lt, ge_iff_le, Bool.not_eq_true, Bool.not_eq_false, Bool.not_eq_true', Bool.not_eq_false', Bool.and_eq_true, Bool.or_eq_true, Bool.and_eq_false_iff, Bool.or_eq_false_iff] at h4
     have hib : i < cache.length := by omega
     have e1 : IntKind.i64.wrap ((i : Int) + 1) = ((i + 1 : Nat) : Int) := by rw [wrap64 (by omega) (by omega)]; rfl
     have hdi := hd _ (List.getElem_mem hib)
     obtain ⟨k, hk⟩ : ∃ k : Nat, cache[i].1 = k := ⟨cache[i].1.toNat, by omega⟩
     have hkl : k < secs.length := by omega
     have him : k < (flL secs (cache.take i)).length := by rw [flL_len]; exact hkl
     refine sw_skip ?_
     simp only [thenQ, blockQ]
     refine sw_seq ?_
     refine sw_block ?_
     refine sw_go rfl rfl ?_
     unfold s77_4
     refine rd_ev (evq_mvt rfl) rfl ?_
     first | refine rd_ev (evq_nilc rfl) rfl ?_ | refine rd_ev (evq_nile rfl) rfl ?_
     first | refine rd_ev (evq_fadb rfl) rfl ?_ | refine rd_ev (evq_fade rfl) rfl ?_
     try simp only [List.take_zero, List.take_succ_cons, List.drop_zero, List.drop_succ_cons, List.nil_append, List.cons_append, List.append_nil, List.length_cons, List.length_nil, Nat.zero_add, Nat.add_zero, Nat.reduceAdd, Nat.reduceMul, toC, toCs, bD_len, sD_len, rep, List.getElem?_cons_zero, List.getElem?_cons_succ]
     first | refine rd_m0 (evq_ldb rfl rfl rfl) fa_nil (Nat.not_lt.2 (Nat.le_of_ble_eq_true rfl)) ?_ | refine rd_m0 (evq_ldl rfl rfl (rfl) rfl) fa_nil (Nat.not_lt.2 (Nat.le_of_ble_eq_true rfl)) ?_ | refine rd_m0 (evq_lds rfl rfl (rfl) rfl) fa_nil (Nat.not_lt.2 (Nat.le_of_ble_eq_true rfl)) ?_
     try simp only [List.take_zero, List.take_succ_cons, List.drop_zero, List.drop_succ_cons, List.nil_append, List.cons_append, List.append_nil, List.length_cons, List.length_nil, Nat.zero_add, Nat.add_zero, Nat.reduceAdd, Nat.reduceMul, toC, toCs, bD_len, sD_len, rep, List.getElem?_cons_zero, List.getElem?_cons_succ]
     refine rd_ev (evq_mvt rfl) rfl ?_
     simp only [Vs.put, reduceIte, Nat.reduceEqDiff]
     first | refine rd_ev (evq_nilc rfl) rfl ?_ | refine rd_ev (evq_nile rfl) rfl ?_
     first | refine rd_ev (evq_fadb rfl) rfl ?_ | refine rd_ev (evq_fade rfl) rfl ?_
     try simp only [List.take_zero, List.take_succ_cons, List.drop_zero, List.drop_succ_cons, List.nil_append, List.cons_append, List.append_nil, List.length_cons, List.length_nil, Nat.zero_add, Nat.add_zero, Nat.reduceAdd, Nat.reduceMul, toC, toCs, bD_len, sD_len, rep, List.getElem?_cons_zero, List.getElem?_cons_succ]
     first | refine rd_m0 (evq_ldb rfl rfl rfl) fa_nil (Nat.not_lt.2 (Nat.le_of_ble_eq_true rfl)) ?_ | refine rd_m0 (evq_ldl rfl rfl (rfl) rfl) fa_nil (Nat.not_lt.2 (Nat.le_of_ble_eq_true rfl)) ?_ | refine rd_m0 (evq_lds rfl rfl (rfl) rfl) fa_nil (Nat.not_lt.2 (Nat.le_of_ble_eq_true rfl)) ?_
     try simp only [List.take_zero, List.take_succ_cons, List.drop_zero, List.drop_succ_cons, List.nil_append, List.cons_append, List.append_nil, List.length_cons, List.length_nil, Nat.zero_add, Nat.add_zero, Nat.reduceAdd, Nat.reduceMul, toC, toCs, bD_len, sD_len, rep, List.getElem?_cons_zero, List.getElem?_cons_succ]
     refine rd_ev (evq_mvt rfl) rfl ?_
     refine rd_ev (evq_iad rfl rfl rfl (by omega)) rfl ?_
     simp only [Vs.put, reduceIte, Nat.reduceEqDiff]
     first | refine rd_ev (evq_fadb rfl) rfl ?_ | refine rd_ev (evq_fade rfl) rfl ?_
     try simp only [List.take_zero, List.take_succ_cons, List.drop_zero, List.drop_succ_cons, List.nil_append, List.cons_append, List.append_nil, List.length_cons, List.length_nil, Nat.zero_add, Nat.add_zero, Nat.reduceAdd, Nat.reduceMul, toC, toCs, bD_len, sD_len, rep, List.getElem?_cons_zero, List.getElem?_cons_succ]
     first | refine rd_m0 (evq_ldb rfl rfl rfl) fa_nil (Nat.not_lt.2 (Nat.le_of_ble_eq_true rfl)) ?_ | refine rd_m0 (evq_ldl rfl rfl (wH_get hib) rfl) fa_nil (Nat.not_lt.2 (Nat.le_of_ble_eq_true rfl)) ?_ | refine rd_m0 (evq_lds rfl rfl (wH_get hib) rfl) fa_nil (Nat.not_lt.2 (Nat.le_of_ble_eq_true rfl)) ?_ | refine rd_m0 (evq_ldl rfl rfl (rfl) rfl) fa_nil (Nat.not_lt.2 (Nat.le_of_ble_eq_true rfl)) ?_ | refine rd_m0 (evq_lds rfl rfl (rfl) rfl) fa_nil (Nat.not_lt.2 (Nat.le_of_ble_eq_true rfl)) ?_
     try simp only [List.take_zero, List.take_succ_cons, List.drop_zero, List.drop_succ_cons, List.nil_append, List.cons_append, List.append_nil, List.length_cons, List.length_nil, Nat.zero_add, Nat.add_zero, Nat.reduceAdd, Nat.reduceMul, toC, toCs, bD_len, sD_len, rep, List.getElem?_cons_zero, List.getElem?_cons_succ]
     refine rd_ev (evq_mvt rfl) rfl ?_
     first | refine rd_ev (evq_nilc rfl) rfl ?_ | refine rd_ev (evq_nile rfl) rfl ?_
     first | refine rd_ev (evq_fadb rfl) rfl ?_ | refine rd_ev (evq_fade rfl) rfl ?_
     try simp only [List.take_zero, List.take_succ_cons, List.drop_zero, List.drop_succ_cons, List.nil_append, List.cons_append, List.append_nil, List.length_cons, List.length_nil, Nat.zero_add, Nat.add_zero, Nat.reduceAdd, Nat.reduceMul, toC, toCs, bD_len, sD_len, rep, List.getElem?_cons_zero, List.getElem?_cons_succ]
     simp only [Vs.put, reduceIte, Nat.reduceEqDiff]
     first | refine rd_m0 (evq_ldb rfl rfl rfl) fa_nil (Nat.not_lt.2 (Nat.le_of_ble_eq_true rfl)) ?_ | refine rd_m0 (evq_ldl rfl rfl (rfl) rfl) fa_nil (Nat.not_lt.2 (Nat.le_of_ble_eq_true rfl)) ?_ | refine rd_m0 (evq_lds rfl rfl (rfl) rfl) fa_nil (Nat.not_lt.2 (Nat.le_of_ble_eq_true rfl)) ?_
     try simp only [List.take_zero, List.take_succ_cons, List.drop_zero, List.drop_succ_cons, List.nil_append, List.cons_append, List.append_nil, List.length_cons, List.length_nil, Nat.zero_add, Nat.add_zero, Nat.reduceAdd, Nat.reduceMul, toC, toCs, bD_len, sD_len, rep, List.getElem?_cons_zero, List.getElem?_cons_succ]
     refine rd_ev (evq_mvt rfl) rfl ?_
     refine rd_ev (evq_iad rfl rfl rfl (by omega)) rfl ?_
     first | refine rd_ev (evq_fadb rfl) rfl ?_ | refine rd_ev (evq_fade rfl) rfl ?_
     try simp only [List.take_zero, List.take_succ_cons, List.drop_zero, List.drop_succ_cons, List.nil_append, List.cons_append, List.append_nil, List.length_cons, List.length_nil, Nat.zero_add, Nat.add_zero, Nat.reduceAdd, Nat.reduceMul, toC, toCs, bD_len, sD_len, rep, List.getElem?_cons_zero, List.getElem?_cons_succ]
     first | refine rd_m0 (evq_ldb rfl rfl rfl) fa_nil (Nat.not_lt.2 (Nat.le_of_ble_eq_true rfl)) ?_ | refine rd_m0 (evq_ldl rfl rfl (wH_get hib) rfl) fa_nil (Nat.not_lt.2 (Nat.le_of_ble_eq_true rfl)) ?_ | refine rd_m0 (evq_lds rfl rfl (wH_get hib) rfl) fa_nil (Nat.not_lt.2 (Nat.le_of_ble_eq_true rfl)) ?_ | refine rd_m0 (evq_ldl rfl rfl (rfl) rfl) fa_nil (Nat.not_lt.2 (Nat.le_of_ble_eq_true rfl)) ?_ | refine rd_m0 (evq_lds rfl rfl (rfl) rfl) fa_nil (Nat.not_lt.2 (Nat.le_of_ble_eq_true rfl)) ?_
     try simp only [List.take_zero, List.take_succ_cons, List.drop_zero, List.drop_succ_cons, List.nil_append, List.cons_append, List.append_nil, List.length_cons, List.length_nil, Nat.zero_add, Nat.add_zero, Nat.reduceAdd, Nat.reduceMul, toC, toCs, bD_len, sD_len, rep, List.getElem?_cons_zero, List.getElem?_cons_succ]
     refine rd_ev (evq_iad (j := k) rfl rfl hk (by omega)) rfl ?_
     simp only [Vs.put, reduceIte, Nat.reduceEqDiff]
     refine rd_wr (by intros; nofun) ?_
     refine st_slice_in rfl rfl rfl rfl (wH_get hib) rfl (by simp) (by decide) rfl (sD_get him) (by simp) (Nat.le_of_ble_eq_true rfl) ?_
     simp only [killRoots, Root.map, List.map_cons, List.map_nil, del, reduceIte, Nat.reduceEqDiff, List.nil_append, Vs.put, killC]
     rw [sD_setS _ k cache[i].2 him, wH_set hib, ← flL_take hib hk]
     simp only [setEnv, killEnv, V.map, A.map, killC, pre_no, and_false, if_false, List.map_cons, List.map_nil, Vs.put, reduceIte, Nat.reduceEqDiff]
     refine ⟨fa_nil, .inr ⟨by first | rfl | trivial, by first | rfl | decide, ?_⟩⟩
     try simp only [setEnv, killEnv, V.map, A.map, killCs, killC, pre_no, and_false, if_false, List.map_cons, List.map_nil, Vs.put, reduceIte, Nat.reduceEqDiff, List.isPrefixOf, Bool.and_false, Bool.false_and, Bool.false_eq_true]
     try simp only [setEnv, Vs.put, killEnv, del, cutR, reduceIte, Nat.reduceEqDiff, Nat.reduceAdd]
     try refine rd_nil ?_
     simp only [thenQ, blockQ, Vs.put, reduceIte, Nat.reduceEqDiff]
     refine sw_reg ?_
     unfold s77_3
     refine os_ev (evq_mvt rfl) ?_
     refine os_ev (evq_bin rfl rfl rfl) ?_
     refine os_ev (evq_mvt rfl) ?_
     simp only [runOs, thenQ, blockQ, Vs.put, reduceIte, Nat.reduceEqDiff]
     try simp only [thenQ, blockQ]
     refine ⟨i + 1, ?_, ?_, rfl, [(0, 0), (1, 1), (2, 2)], by decide, ?_, ?_⟩
     ·omega
     ·first | omega | (dsimp only; omega)
     ·simp only [sel, Vs.get, upd, Vs.put, reduceIte, Nat.reduceEqDiff]
      repeat' (first | exact er_nil | refine er_un ?_ | refine er_cons rfl ?_ ?_)
      all_goals (try simp only [V.map, A.map, renC, Vs.get, reduceIte, Nat.reduceEqDiff, List.map_cons, List.map_nil, e1])
     ·repeat' (first | exact rr_nil | refine rr_cons 0 rfl rfl ?_ ?_ | refine rr_cons 1 rfl rfl ?_ ?_ | refine rr_cons 2 rfl rfl ?_ ?_)
      all_goals (try simp only [renRoot, renC, Vs.get, reduceIte, Nat.reduceEqDiff, List.map_cons, List.map_nil, e1])
    ·try simp only [decide_eq_true_eq, decide_eq_false_iff_not, bne_iff_ne, beq_iff_eq, bne_eq_false_iff_eq, beq_eq_false_iff_ne, ne_eq, Int.not_lt, Int.not_le, gt_iff_lt, ge_iff_le, Bool.not_eq_true, Bool.not_eq_false, Bool.not_eq_true', Bool.not_eq_false', Bool.and_eq_true, Bool.or_eq_true, Bool.and_eq_false_iff, Bool.or_eq_false_iff] at h4
     have hib : i = cache.length := by omega
     subst hib
     simp only [List.take_length]
     refine sw_exit ?_
     simp only [thenQ, blockQ, if_true, Nat.reduceEqDiff, if_false, reduceIte]
     refine sw_reg ?_
     unfold s77_5
     refine os_ev (evq_mvt rfl) ?_
     simp only [Vs.put, reduceIte, Nat.reduceEqDiff]
     refine os_wro (by intros; nofun) ?_
     refine .inl ⟨_, rfl, _, rfl, ?_⟩
     simp only [chunk, List.take_zero, List.take_succ_cons, List.drop_zero, List.drop_succ_cons, List.nil_append, List.cons_append, List.append_nil, List.length_cons, List.length_nil, Nat.zero_add, Nat.add_zero, Nat.reduceAdd, Nat.reduceMul, toC, toCs, bD_len, sD_len, rep, List.getElem?_cons_zero, List.getElem?_cons_succ]
     try simp only [setEnv, Vs.put, killEnv, del, cutR, reduceIte, Nat.reduceEqDiff, Nat.reduceAdd]
     first | refine os_ev (evq_nilc rfl) ?_ | refine os_ev (evq_nile rfl) ?_
     first | refine os_ev (evq_fadb rfl) ?_ | refine os_ev (evq_fade rfl) ?_
     try simp only [List.take_zero, List.take_succ_cons, List.drop_zero, List.drop_succ_cons, List.nil_append, List.cons_append, List.append_nil, List.length_cons, List.length_nil, Nat.zero_add, Nat.add_zero, Nat.reduceAdd, Nat.reduceMul, toC, toCs, bD_len, sD_len, rep, List.getElem?_cons_zero, List.getElem?_cons_succ]
     refine os_wro (by intros; nofun) ?_
     refine st_box rfl rfl rfl rfl (Nat.le_of_ble_eq_true rfl) ?_
     simp only [List.take_zero, List.take_succ_cons, List.drop_zero, List.drop_succ_cons, List.nil_append, List.cons_append, List.append_nil, List.length_cons, List.length_nil, Nat.zero_add, Nat.add_zero, Nat.reduceAdd, Nat.reduceMul, toC, toCs, bD_len, sD_len, rep, List.getElem?_cons_zero, List.getElem?_cons_succ]
     try simp only [setEnv, Vs.put, killEnv, del, cutR, reduceIte, Nat.reduceEqDiff, Nat.reduceAdd]
     simp only [runOs, thenQ, blockQ, Vs.put, reduceIte, Nat.reduceEqDiff]
     simp only [thenQ, blockQ, resK, ev, St.opd, Vs.get, reduceIte, Nat.reduceEqDiff, Option.getD_some]
     refine leaves_bx rfl rfl rfl ?_ rfl (take_cons rfl (by simp) (take_cons rfl (by simp) (take_lf (take_lf rfl)))) rfl rfl
     exact rs_ow rfl (rs_ow rfl (rs_ow rfl (rs_ow rfl rs_nil)))
end
noncomputable def e_s_l10Flush : GEnt Try.prog := ⟨77, [⟨true, false, .P (.L (.L .Y)) (.P (.L (.P (.I .i64) (.L .Y))) (.P (.I .i64) .B)), [.ow, .ow, .rd, .rd], (some (.P (.L (.L .Y)) (.P (.L (.P (.I .i64) (.L .Y))) (.P (.I .i64) .B))))⟩], [], F_s_l10Flush, fun x y hy => by
 unfold F_s_l10Flush at hy
 obtain ⟨h, hy⟩ := chk_some hy
 have h := of_decide_eq_true h
 have hy := Option.some.inj hy
 subst hy
 exact runs77 x.1 x.2.1 x.2.2.1 x.2.2.2 h.1 h.2.1 h.2.2.1 h.2.2.2⟩
noncomputable def a_s_l1Bytes : An := (.sq none .d (.sq none .d (.sq (some [.bx 0 [.K, .L (.I .i64), .L (.I .i64)], .ot 5 .Y]) (.sq none .d (.bl (.lp [.bx 0 [.K, .L (.I .i64), .L
 (.I .i64)], .kt 1, .ot 5 .Y, .lt 6 (.I .i64)] .d))) .d)))
theorem h_s_l1Bytes (x : ((List UInt8) × Int × Int) × Int) : fnG (P := Try.prog) [.gen e_s_l1Byte] [(7, .el .Y), (17, .el .Y), (18, .el .Y)] (sOf Try.prog Try.f74) a_s_l1Bytes (iOf
 Try.prog Try.f74) [⟨true, false, .P (.L .Y) (.P (.I .i64) (.I .i64)), [.rx, .rd, .rd], (some (.P (.I .i64) (.I .i64)))⟩, ⟨false, false, .I .i64, [.rd], none⟩] [(false, .L .Y)] x
 = F_s_l1Bytes x := by kernel_rfl
noncomputable def e_s_l1Bytes : GEnt Try.prog := ⟨74, [⟨true, false, .P (.L .Y) (.P (.I .i64) (.I .i64)), [.rx, .rd, .rd], (some (.P (.I .i64) (.I .i64)))⟩, ⟨false, false, .I .i64,
 [.rd], none⟩], [(false, .L .Y)], F_s_l1Bytes, runs_gen mixed_Pf Try.func74 (by kernel_rfl) h_s_l1Bytes⟩
noncomputable def a_s_l10Write : An := .d
theorem h_s_l10Write (x : ((List (List UInt8)) × (List (Int × List UInt8)) × Int × Bool) × Int × List UInt8) : fnG (P := Try.prog) [.see e_s_l1In, .gen e_s_l10Op] [(45, .el .Y),
 (47, .el .Y), (49, .el (.P (.I .i64) (.L .Y))), (50, .el (.P (.I .i64) (.L .Y)))] (sOf Try.prog Try.f76) a_s_l10Write (iOf Try.prog Try.f76) [⟨true, false, .P (.L (.L .Y)) (.P
 (.L (.P (.I .i64) (.L .Y))) (.P (.I .i64) .B)), [.rx, .ow, .rd, .rd], (some (.P (.L (.P (.I .i64) (.L .Y))) (.P (.I .i64) .B)))⟩, ⟨false, false, .I .i64, [.rd], none⟩, ⟨false,
 false, .L .Y, [.rd], none⟩] [] x = F_s_l10Write x := by kernel_rfl
noncomputable def e_s_l10Write : GEnt Try.prog := ⟨76, [⟨true, false, .P (.L (.L .Y)) (.P (.L (.P (.I .i64) (.L .Y))) (.P (.I .i64) .B)), [.rx, .ow, .rd, .rd], (some (.P (.L (.P
 (.I .i64) (.L .Y))) (.P (.I .i64) .B)))⟩, ⟨false, false, .I .i64, [.rd], none⟩, ⟨false, false, .L .Y, [.rd], none⟩], [], F_s_l10Write, runs_gen mixed_Pf Try.func76 (by
 kernel_rfl) h_s_l10Write⟩
noncomputable def a_s_l10Draw : An := (.sq none .d (.sq none .d (.sq (some [.bx 0 [.K, .L (.I .i64), .L (.I .i64)], .kt 2, .bx 3 [.O (.L .Y), .O (.P (.I .i64) (.L .Y)), .L (.I
 .i64), .L .B]]) (.sq none .d (.bl (.lp [.bx 0 [.K, .L (.I .i64), .L (.I .i64)], .kt 2, .bx 3 [.O (.L .Y), .O (.P (.I .i64) (.L .Y)), .L (.I .i64), .L .B], .lt 4 (.I .i64)] (.sq
 none .d (.sq (some [.bx 0 [.K, .L (.I .i64), .L (.I .i64)], .kt 2, .bx 3 [.O (.L .Y), .O (.P (.I .i64) (.L .Y)), .L (.I .i64), .L .B], .kt 4]) .d .d))))) .d)))
theorem h_s_l10Draw (x : (List UInt8) × Int × Int) : fnG (P := Try.prog) [.gen e_s_l1Below, .see e_s_DevNew, .gen e_s_l1Once, .gen e_s_l10Flush, .gen e_s_l1Bytes, .gen
 e_s_l10Write] [] (sOf Try.prog Try.f57) a_s_l10Draw (iOf Try.prog Try.f57) [⟨true, false, .P (.L .Y) (.P (.I .i64) (.I .i64)), [.rx, .rd, .rd], (some (.P (.I .i64) (.I .i64)))⟩]
 [(true, .P (.L (.L .Y)) (.P (.L (.P (.I .i64) (.L .Y))) (.P (.I .i64) .B)))] x = F_s_l10Draw x := by kernel_rfl
noncomputable def e_s_l10Draw : GEnt Try.prog := ⟨57, [⟨true, false, .P (.L .Y) (.P (.I .i64) (.I .i64)), [.rx, .rd, .rd], (some (.P (.I .i64) (.I .i64)))⟩], [(true, .P (.L (.L
 .Y)) (.P (.L (.P (.I .i64) (.L .Y))) (.P (.I .i64) .B)))], F_s_l10Draw, runs_gen mixed_Pf Try.func57 (by kernel_rfl) h_s_l10Draw⟩
noncomputable def a_s_DrawDev : An := .d
theorem h_s_DrawDev (x : List UInt8) : fnX (P := Try.prog) [.cur e_s_l1New, .gen e_s_l10Draw] [] (sOf Try.prog Try.f16) a_s_DrawDev (iOf Try.prog Try.f16) [(false, .L .Y)] [(true,
 .P (.L (.L .Y)) (.P (.L (.P (.I .i64) (.L .Y))) (.P (.I .i64) .B)))] x = F_s_DrawDev x := by kernel_rfl
noncomputable def e_s_DrawDev : SEnt Try.prog := ⟨16, [(false, .L .Y)], [(true, .P (.L (.L .Y)) (.P (.L (.P (.I .i64) (.L .Y))) (.P (.I .i64) .B)))], F_s_DrawDev, runs_see mixed_Pf
 Try.func16 (by kernel_rfl) h_s_DrawDev⟩
noncomputable def a_l_at : An := .d
theorem h_l_at (x : (List UInt8) × Int) : fnX (P := Try.prog) [] [] (sOf Try.prog Try.f15) a_l_at (iOf Try.prog Try.f15) [(false, .L .Y), (false, .I .i64)] [(false, .I .i64)] x =
 F_l_at x := by kernel_rfl
noncomputable def e_l_at : SEnt Try.prog := ⟨15, [(false, .L .Y), (false, .I .i64)], [(false, .I .i64)], F_l_at, runs_see mixed_Pf Try.func15 (by kernel_rfl) h_l_at⟩
end Go.Vs
