import Derived.Test.YtgbapgjdkoojdaaProg
import Derived.Test.YtgbapgjdkoojdaaVsW2
set_option linter.unusedVariables false
set_option linter.unusedSimpArgs false
namespace Go.Proofs.Ytgbapgjdkoojdaa
open Go.Vs
set_option maxRecDepth 100000
-- loop.example/g00475/laws.szDev
def s38_0 : List GI := [⟨(some 2), .wr (.box (.t 0)), none⟩,
  ⟨(some 4), .rd (.mv (.k (.a (.c (.lf (.int .i64 0)))))), none⟩]
def s38_1 : List GI := [⟨(some 5), .rd (.fad 0 (.t 2)), none⟩,
  ⟨(some 6), .rd (.load none (.t 5)), none⟩,
  ⟨(some 7), .rd (.mv (.t 1)), none⟩,
  ⟨(some 8), .wr (.call 94 [(.t 6), (.t 7)]), none⟩,
  ⟨(some 1), .rd (.mv (.t 8)), none⟩]
def s38_2 : List GI := [⟨(some 9), .rd (.mv (.t 1)), none⟩,
  ⟨(some 10), .rd (.bin .lss (.t 9) (.k (.a (.c (.lf (.int .i64 0)))))), none⟩]
def s38_3 : List GI := [⟨(some 4), .rd (.mv (.k (.a (.c (.lf (.int .i64 (-1))))))), none⟩]
def s38_4 : List GI := [⟨(some 11), .rd (.fad 1 (.t 2)), none⟩,
  ⟨(some 12), .rd (.load none (.t 11)), none⟩,
  ⟨(some 13), .rd (.mv (.t 1)), none⟩,
  ⟨(some 14), .wr (.call 95 [(.t 12), (.t 13)]), none⟩,
  ⟨(some 1), .rd (.mv (.t 14)), none⟩]
def s38_5 : List GI := [⟨(some 15), .rd (.mv (.t 1)), none⟩,
  ⟨(some 16), .rd (.bin .lss (.t 15) (.k (.a (.c (.lf (.int .i64 0)))))), none⟩]
def s38_6 : List GI := [⟨(some 4), .rd (.mv (.k (.a (.c (.lf (.int .i64 (-1))))))), none⟩]
def s38_7 : List GI := [⟨(some 17), .rd (.mv (.t 1)), none⟩,
  ⟨(some 4), .rd (.mv (.t 17)), none⟩]
def s38 : Stm := (.seq (.reg s38_0) (.seq (.reg s38_1) (.seq (.seq (.reg s38_2) (.cond (.t 10) (.seq (.reg s38_3) .ret) .skip)) (.seq (.reg s38_4) (.seq (.seq (.reg s38_5) (.cond (.t 16) (.seq (.reg s38_6) .ret) .skip)) (.seq (.reg s38_7) .ret))))))
theorem tr38 : (Try.f38.body.bind (trC Try.prog Try.f38.ntmps)) = some s38 := by kernel_rfl
-- loop.example/g00475/spec.DevOk
def s39_0 : List GI := [⟨(some 1), .wr (.box (.t 0)), none⟩,
  ⟨(some 2), .rd (.mv (.k (.a (.c (.lf (.bool false)))))), none⟩]
def s39_1 : List GI := [⟨(some 3), .rd (.mv (.k (.a (.c (.lf (.int .i64 0)))))), none⟩]
def s39_2 : List GI := [⟨(some 5), .rd (.mv (.t 3)), none⟩,
  ⟨(some 6), .rd (.fad 0 (.t 1)), none⟩,
  ⟨(some 7), .rd (.load none (.t 6)), none⟩,
  ⟨(some 8), .rd (.len (.t 7)), none⟩,
  ⟨(some 9), .rd (.bin .lss (.t 5) (.t 8)), none⟩]
def s39_4 : List GI := [⟨(some 12), .rd (.fad 0 (.t 1)), none⟩,
  ⟨(some 13), .rd (.load none (.t 12)), none⟩,
  ⟨(some 14), .rd (.mv (.t 3)), none⟩,
  ⟨(some 15), .rd (.iad 1 (.t 13) (.t 14)), none⟩,
  ⟨(some 16), .rd (.load none (.t 15)), none⟩,
  ⟨(some 17), .rd (.len (.t 16)), none⟩,
  ⟨(some 18), .rd (.bin .gtr (.t 17) (.k (.a (.c (.lf (.int .i64 120)))))), none⟩]
def s39_5 : List GI := [⟨(some 2), .rd (.mv (.k (.a (.c (.lf (.bool false)))))), none⟩]
def s39_3 : List GI := [⟨(some 10), .rd (.mv (.t 3)), none⟩,
  ⟨(some 11), .rd (.bin .add (.t 10) (.k (.a (.c (.lf (.int .i64 1)))))), none⟩,
  ⟨(some 3), .rd (.mv (.t 11)), none⟩]
def s39_6 : List GI := [⟨(some 4), .rd (.mv (.k (.a (.c (.lf (.int .i64 0)))))), none⟩]
def s39_7 : List GI := [⟨(some 19), .rd (.mv (.t 4)), none⟩,
  ⟨(some 20), .rd (.fad 1 (.t 1)), none⟩,
  ⟨(some 21), .rd (.load none (.t 20)), none⟩,
  ⟨(some 22), .rd (.len (.t 21)), none⟩,
  ⟨(some 23), .rd (.bin .lss (.t 19) (.t 22)), none⟩]
def s39_9 : List DI := [⟨⟨(some 26), .rd (.fad 1 (.t 1)), none⟩, [], false, 0, 0⟩,
  ⟨⟨(some 27), .rd (.load none (.t 26)), none⟩, [0], false, 0, 0⟩,
  ⟨⟨(some 28), .rd (.mv (.t 4)), none⟩, [], false, 0, 0⟩,
  ⟨⟨(some 29), .rd (.iad 2 (.t 27) (.t 28)), none⟩, [1, 2, 0], false, 0, 0⟩,
  ⟨⟨(some 30), .rd (.fad 0 (.t 29)), none⟩, [3, 1, 2, 0], false, 0, 0⟩,
  ⟨⟨(some 31), .rd (.load none (.t 30)), none⟩, [4, 3, 1, 2, 0], false, 0, 0⟩,
  ⟨⟨(some 32), .rd (.fad 0 (.t 1)), none⟩, [], false, 0, 0⟩,
  ⟨⟨(some 33), .rd (.load none (.t 32)), none⟩, [6], false, 0, 0⟩,
  ⟨⟨(some 34), .rd (.len (.t 33)), none⟩, [7, 6], false, 0, 0⟩,
  ⟨⟨(some 35), .rd (.bin .sub (.t 34) (.k (.a (.c (.lf (.int .i64 1)))))), none⟩, [8, 7, 6], false, 0, 0⟩,
  ⟨⟨(some 36), .wr (.call 74 [(.t 31), (.k (.a (.c (.lf (.int .i64 0))))), (.t 35)]), none⟩, [5, 9, 4, 3, 1, 2, 0, 8, 7, 6], true, 0, 0⟩,
  ⟨⟨(some 37), .rd (.un .not (.t 36)), none⟩, [10, 5, 9, 4, 3, 1, 2, 0, 8, 7, 6], false, 1, 1⟩,
  ⟨⟨(some 38), .rd (.mv (.t 37)), none⟩, [11, 10, 5, 9, 4, 3, 1, 2, 0, 8, 7, 6], false, 1, 1⟩,
  ⟨⟨(some 39), .rd (.fad 1 (.t 1)), (some (38, false))⟩, [12, 11, 10, 5, 9, 4, 3, 1, 2, 0, 8, 7, 6], false, 1, 1⟩,
  ⟨⟨(some 40), .rd (.load none (.t 39)), (some (38, false))⟩, [13, 12, 11, 10, 5, 9, 4, 3, 1, 2, 0, 8, 7, 6], false, 1, 1⟩,
  ⟨⟨(some 41), .rd (.mv (.t 4)), (some (38, false))⟩, [12, 11, 10, 5, 9, 4, 3, 1, 2, 0, 8, 7, 6], false, 1, 1⟩,
  ⟨⟨(some 42), .rd (.iad 2 (.t 40) (.t 41)), (some (38, false))⟩, [14, 15, 13, 12, 11, 10, 5, 9, 4, 3, 1, 2, 0, 8, 7, 6], false, 1, 1⟩,
  ⟨⟨(some 43), .rd (.fad 1 (.t 42)), (some (38, false))⟩, [16, 14, 15, 13, 12, 11, 10, 5, 9, 4, 3, 1, 2, 0, 8, 7, 6], false, 1, 1⟩,
  ⟨⟨(some 44), .rd (.load none (.t 43)), (some (38, false))⟩, [17, 16, 14, 15, 13, 12, 11, 10, 5, 9, 4, 3, 1, 2, 0, 8, 7, 6], false, 1, 1⟩,
  ⟨⟨(some 45), .rd (.len (.t 44)), (some (38, false))⟩, [18, 17, 16, 14, 15, 13, 12, 11, 10, 5, 9, 4, 3, 1, 2, 0, 8, 7, 6], false, 1, 1⟩,
  ⟨⟨(some 46), .rd (.bin .gtr (.t 45) (.k (.a (.c (.lf (.int .i64 120)))))), (some (38, false))⟩, [19, 18, 17, 16, 14, 15, 13, 12, 11, 10, 5, 9, 4, 3, 1, 2, 0, 8, 7, 6], false, 1, 1⟩,
  ⟨⟨(some 47), .rd (.pick (.t 38) (.k (.a (.c (.lf (.bool true))))) (.t 46)), none⟩, [20, 19, 18, 17, 16, 14, 15, 13, 12, 11, 10, 5, 9, 4, 3, 1, 2, 0, 8, 7, 6], false, 1, 1⟩]
def s39_10 : List GI := [⟨(some 2), .rd (.mv (.k (.a (.c (.lf (.bool false)))))), none⟩]
def s39_8 : List GI := [⟨(some 24), .rd (.mv (.t 4)), none⟩,
  ⟨(some 25), .rd (.bin .add (.t 24) (.k (.a (.c (.lf (.int .i64 1)))))), none⟩,
  ⟨(some 4), .rd (.mv (.t 25)), none⟩]
def s39_11 : List GI := [⟨(some 48), .rd (.fad 0 (.t 1)), none⟩,
  ⟨(some 49), .rd (.load none (.t 48)), none⟩,
  ⟨(some 50), .rd (.len (.t 49)), none⟩,
  ⟨(some 51), .wr (.call 74 [(.t 50), (.k (.a (.c (.lf (.int .i64 1))))), (.k (.a (.c (.lf (.int .i64 64)))))]), none⟩,
  ⟨(some 52), .rd (.mv (.t 51)), none⟩,
  ⟨(some 53), .rd (.fad 1 (.t 1)), (some (52, true))⟩,
  ⟨(some 54), .rd (.load none (.t 53)), (some (52, true))⟩,
  ⟨(some 55), .rd (.len (.t 54)), (some (52, true))⟩,
  ⟨(some 56), .rd (.bin .leq (.t 55) (.k (.a (.c (.lf (.int .i64 40)))))), (some (52, true))⟩,
  ⟨(some 57), .rd (.pick (.t 52) (.t 56) (.k (.a (.c (.lf (.bool false)))))), none⟩,
  ⟨(some 58), .rd (.mv (.t 57)), none⟩,
  ⟨(some 59), .rd (.fad 2 (.t 1)), (some (58, true))⟩,
  ⟨(some 60), .rd (.load none (.t 59)), (some (58, true))⟩,
  ⟨(some 61), .wr (.call 74 [(.t 60), (.k (.a (.c (.lf (.int .i64 (-1)))))), (.k (.a (.c (.lf (.int .i64 1000)))))]), (some (58, true))⟩,
  ⟨(some 62), .rd (.pick (.t 58) (.t 61) (.k (.a (.c (.lf (.bool false)))))), none⟩,
  ⟨(some 2), .rd (.mv (.t 62)), none⟩]
def s39 : Stm := (.seq (.reg s39_0) (.seq (.seq (.reg s39_1) (.block 0 (.loop (.seq (.seq (.reg s39_2) (.cond (.t 9) .skip (.exit 0))) (.seq (.block 1 (.seq (.reg s39_4) (.cond (.t 18) (.seq (.reg s39_5) .ret) .skip))) (.reg s39_3)))))) (.seq (.seq (.reg s39_6) (.block 2 (.loop (.seq (.seq (.reg s39_7) (.cond (.t 23) .skip (.exit 2))) (.seq (.block 3 (.seq (.drw s39_9) (.cond (.t 47) (.seq (.reg s39_10) .ret) .skip))) (.reg s39_8)))))) (.seq (.reg s39_11) .ret))))
theorem tr39 : (Try.f39.body.bind (trC Try.prog Try.f39.ntmps)) = some s39 := by kernel_rfl
-- loop.example/g00475/laws.toDev
def s40_0 : List GI := [⟨(some 1), .wr (.box (.t 0)), none⟩,
  ⟨(some 2), .wr (.alloc [.nl 1, .nl 2, .lf (.int .i64 0), .lf (.bool false)]), none⟩]
def s40_1 : List GI := [⟨(some 3), .wr (.alloc [.nl 1, .nl 2, .lf (.int .i64 0), .lf (.bool false)]), none⟩]
def s40_2 : List GI := [⟨(some 4), .rd (.fad 0 (.t 1)), none⟩,
  ⟨(some 5), .rd (.load none (.t 4)), none⟩,
  ⟨(some 6), .wr (.call 96 [(.t 5)]), none⟩,
  ⟨(some 7), .rd (.fad 0 (.t 3)), none⟩,
  ⟨none, .wr (.store 1 (.t 7) (.t 6)), none⟩]
def s40_3 : List GI := [⟨(some 8), .rd (.fad 1 (.t 1)), none⟩,
  ⟨(some 9), .rd (.load none (.t 8)), none⟩,
  ⟨(some 10), .wr (.call 97 [(.t 9)]), none⟩,
  ⟨(some 11), .rd (.fad 1 (.t 3)), none⟩,
  ⟨none, .wr (.store 1 (.t 11) (.t 10)), none⟩]
def s40_4 : List GI := [⟨(some 12), .rd (.fad 2 (.t 1)), none⟩,
  ⟨(some 13), .rd (.load none (.t 12)), none⟩,
  ⟨(some 14), .rd (.fad 2 (.t 3)), none⟩,
  ⟨none, .wr (.store 1 (.t 14) (.t 13)), none⟩]
def s40_5 : List GI := [⟨(some 15), .rd (.fad 3 (.t 1)), none⟩,
  ⟨(some 16), .rd (.load none (.t 15)), none⟩,
  ⟨(some 17), .rd (.fad 3 (.t 3)), none⟩,
  ⟨none, .wr (.store 1 (.t 17) (.t 16)), none⟩]
def s40_6 : List GI := [⟨(some 18), .rd (.load (some 4) (.t 3)), none⟩,
  ⟨none, .wr (.store 4 (.t 2) (.t 18)), none⟩]
def s40 : Stm := (.seq (.reg s40_0) (.seq (.reg s40_1) (.seq (.reg s40_2) (.seq (.reg s40_3) (.seq (.reg s40_4) (.seq (.reg s40_5) (.seq (.reg s40_6) .ret)))))))
theorem tr40 : (Try.f40.body.bind (trC Try.prog Try.f40.ntmps)) = some s40 := by kernel_rfl
-- loop.example/g00475/impl.DevOk
def s41_0 : List GI := [⟨(some 1), .wr (.box (.t 0)), none⟩,
  ⟨(some 2), .rd (.mv (.k (.a (.c (.lf (.bool false)))))), none⟩]
def s41_1 : List GI := [⟨(some 7), .rd (.fad 0 (.t 1)), none⟩,
  ⟨(some 8), .rd (.load none (.t 7)), none⟩,
  ⟨(some 9), .rd (.len (.t 8)), none⟩,
  ⟨(some 10), .wr (.call 77 [(.t 9), (.k (.a (.c (.lf (.int .i64 1))))), (.k (.a (.c (.lf (.int .i64 64)))))]), none⟩,
  ⟨(some 11), .rd (.un .not (.t 10)), none⟩,
  ⟨(some 12), .rd (.mv (.t 11)), none⟩,
  ⟨(some 13), .rd (.fad 1 (.t 1)), (some (12, false))⟩,
  ⟨(some 14), .rd (.load none (.t 13)), (some (12, false))⟩,
  ⟨(some 15), .rd (.len (.t 14)), (some (12, false))⟩,
  ⟨(some 16), .rd (.bin .gtr (.t 15) (.k (.a (.c (.lf (.int .i64 40)))))), (some (12, false))⟩,
  ⟨(some 17), .rd (.pick (.t 12) (.k (.a (.c (.lf (.bool true))))) (.t 16)), none⟩,
  ⟨(some 18), .rd (.mv (.t 17)), none⟩,
  ⟨(some 19), .rd (.fad 2 (.t 1)), (some (18, false))⟩,
  ⟨(some 20), .rd (.load none (.t 19)), (some (18, false))⟩,
  ⟨(some 21), .wr (.call 77 [(.t 20), (.k (.a (.c (.lf (.int .i64 (-1)))))), (.k (.a (.c (.lf (.int .i64 1000)))))]), (some (18, false))⟩,
  ⟨(some 22), .rd (.un .not (.t 21)), (some (18, false))⟩,
  ⟨(some 23), .rd (.pick (.t 18) (.k (.a (.c (.lf (.bool true))))) (.t 22)), none⟩]
def s41_2 : List GI := [⟨(some 2), .rd (.mv (.k (.a (.c (.lf (.bool false)))))), none⟩]
def s41_3 : List GI := [⟨(some 24), .rd (.fad 0 (.t 1)), none⟩,
  ⟨(some 25), .rd (.load none (.t 24)), none⟩,
  ⟨(some 26), .rd (.len (.t 25)), none⟩,
  ⟨(some 27), .rd (.mv (.k (.a (.c (.lf (.int .i64 0)))))), none⟩]
def s41_4 : List GI := [⟨(some 28), .rd (.bin .lss (.t 27) (.t 26)), none⟩]
def s41_5 : List GI := [⟨(some 29), .rd (.iad 1 (.t 25) (.t 27)), none⟩,
  ⟨(some 30), .rd (.load none (.t 29)), none⟩,
  ⟨(some 4), .rd (.mv (.t 30)), none⟩]
def s41_6 : List GI := [⟨(some 31), .rd (.mv (.t 4)), none⟩,
  ⟨(some 32), .rd (.len (.t 31)), none⟩,
  ⟨(some 33), .rd (.bin .gtr (.t 32) (.k (.a (.c (.lf (.int .i64 120)))))), none⟩]
def s41_7 : List GI := [⟨(some 2), .rd (.mv (.k (.a (.c (.lf (.bool false)))))), none⟩]
def s41_8 : List GI := [⟨(some 34), .rd (.bin .add (.t 27) (.k (.a (.c (.lf (.int .i64 1)))))), none⟩,
  ⟨(some 27), .rd (.mv (.t 34)), none⟩]
def s41_9 : List GI := [⟨(some 35), .rd (.fad 1 (.t 1)), none⟩,
  ⟨(some 36), .rd (.load none (.t 35)), none⟩,
  ⟨(some 37), .rd (.len (.t 36)), none⟩,
  ⟨(some 38), .rd (.mv (.k (.a (.c (.lf (.int .i64 0)))))), none⟩]
def s41_10 : List GI := [⟨(some 39), .rd (.bin .lss (.t 38) (.t 37)), none⟩]
def s41_11 : List GI := [⟨(some 40), .rd (.iad 2 (.t 36) (.t 38)), none⟩,
  ⟨(some 41), .rd (.load (some 2) (.t 40)), none⟩,
  ⟨(some 6), .wr (.alloc [.lf (.int .i64 0), .nl 1]), none⟩,
  ⟨none, .wr (.store 2 (.t 6) (.t 41)), none⟩]
def s41_12 : List GI := [⟨(some 42), .rd (.fad 0 (.t 6)), none⟩,
  ⟨(some 43), .rd (.load none (.t 42)), none⟩,
  ⟨(some 44), .rd (.fad 0 (.t 1)), none⟩,
  ⟨(some 45), .rd (.load none (.t 44)), none⟩,
  ⟨(some 46), .rd (.len (.t 45)), none⟩,
  ⟨(some 47), .rd (.bin .sub (.t 46) (.k (.a (.c (.lf (.int .i64 1)))))), none⟩,
  ⟨(some 48), .wr (.call 77 [(.t 43), (.k (.a (.c (.lf (.int .i64 0))))), (.t 47)]), none⟩,
  ⟨(some 49), .rd (.un .not (.t 48)), none⟩,
  ⟨(some 50), .rd (.mv (.t 49)), none⟩,
  ⟨(some 51), .rd (.fad 1 (.t 6)), (some (50, false))⟩,
  ⟨(some 52), .rd (.load none (.t 51)), (some (50, false))⟩,
  ⟨(some 53), .rd (.len (.t 52)), (some (50, false))⟩,
  ⟨(some 54), .rd (.bin .gtr (.t 53) (.k (.a (.c (.lf (.int .i64 120)))))), (some (50, false))⟩,
  ⟨(some 55), .rd (.pick (.t 50) (.k (.a (.c (.lf (.bool true))))) (.t 54)), none⟩]
def s41_13 : List GI := [⟨(some 2), .rd (.mv (.k (.a (.c (.lf (.bool false)))))), none⟩]
def s41_14 : List GI := [⟨(some 56), .rd (.bin .add (.t 38) (.k (.a (.c (.lf (.int .i64 1)))))), none⟩,
  ⟨(some 38), .rd (.mv (.t 56)), none⟩]
def s41_15 : List GI := [⟨(some 2), .rd (.mv (.k (.a (.c (.lf (.bool true)))))), none⟩]
def s41 : Stm := (.seq (.reg s41_0) (.seq (.seq (.reg s41_1) (.cond (.t 23) (.seq (.reg s41_2) .ret) .skip)) (.seq (.seq (.reg s41_3) (.block 0 (.loop (.seq (.reg s41_4) (.seq (.cond (.t 28) .skip (.exit 0)) (.seq (.block 1 (.seq (.reg s41_5) (.seq (.reg s41_6) (.cond (.t 33) (.seq (.reg s41_7) .ret) .skip)))) (.reg s41_8))))))) (.seq (.seq (.reg s41_9) (.block 2 (.loop (.seq (.reg s41_10) (.seq (.cond (.t 39) .skip (.exit 2)) (.seq (.block 3 (.seq (.reg s41_11) (.seq (.reg s41_12) (.cond (.t 55) (.seq (.reg s41_13) .ret) .skip)))) (.reg s41_14))))))) (.seq (.reg s41_15) .ret)))))
theorem tr41 : (Try.f41.body.bind (trC Try.prog Try.f41.ntmps)) = some s41 := by kernel_rfl
-- loop.example/g00475/laws.szByteSS
def s94_0 : List GI := [⟨(some 4), .rd (.mv (.k (.a (.c (.lf (.int .i64 0)))))), none⟩]
def s94_1 : List GI := [⟨(some 6), .rd (.mv (.t 1)), none⟩,
  ⟨(some 7), .rd (.mv (.t 0)), none⟩,
  ⟨(some 8), .rd (.len (.t 7)), none⟩,
  ⟨(some 9), .rd (.bin .sub (.t 6) (.t 8)), none⟩,
  ⟨(some 1), .rd (.mv (.t 9)), none⟩]
def s94_2 : List GI := [⟨(some 10), .rd (.mv (.t 1)), none⟩,
  ⟨(some 11), .rd (.bin .lss (.t 10) (.k (.a (.c (.lf (.int .i64 0)))))), none⟩]
def s94_3 : List GI := [⟨(some 4), .rd (.mv (.k (.a (.c (.lf (.int .i64 (-1))))))), none⟩]
def s94_4 : List GI := [⟨(some 5), .rd (.mv (.k (.a (.c (.lf (.int .i64 0)))))), none⟩]
def s94_5 : List GI := [⟨(some 12), .rd (.mv (.t 5)), none⟩,
  ⟨(some 13), .rd (.mv (.t 0)), none⟩,
  ⟨(some 14), .rd (.len (.t 13)), none⟩,
  ⟨(some 15), .rd (.bin .lss (.t 12) (.t 14)), none⟩]
def s94_7 : List GI := [⟨(some 18), .rd (.mv (.t 0)), none⟩,
  ⟨(some 19), .rd (.mv (.t 5)), none⟩,
  ⟨(some 20), .rd (.iad 1 (.t 18) (.t 19)), none⟩,
  ⟨(some 21), .rd (.load none (.t 20)), none⟩,
  ⟨(some 22), .rd (.mv (.t 1)), none⟩,
  ⟨(some 23), .wr (.call 128 [(.t 21), (.t 22)]), none⟩,
  ⟨(some 1), .rd (.mv (.t 23)), none⟩]
def s94_8 : List GI := [⟨(some 24), .rd (.mv (.t 1)), none⟩,
  ⟨(some 25), .rd (.bin .lss (.t 24) (.k (.a (.c (.lf (.int .i64 0)))))), none⟩]
def s94_9 : List GI := [⟨(some 4), .rd (.mv (.k (.a (.c (.lf (.int .i64 (-1))))))), none⟩]
def s94_6 : List GI := [⟨(some 16), .rd (.mv (.t 5)), none⟩,
  ⟨(some 17), .rd (.bin .add (.t 16) (.k (.a (.c (.lf (.int .i64 1)))))), none⟩,
  ⟨(some 5), .rd (.mv (.t 17)), none⟩]
def s94_10 : List GI := [⟨(some 26), .rd (.mv (.t 1)), none⟩,
  ⟨(some 4), .rd (.mv (.t 26)), none⟩]
def s94 : Stm := (.seq (.reg s94_0) (.seq (.reg s94_1) (.seq (.seq (.reg s94_2) (.cond (.t 11) (.seq (.reg s94_3) .ret) .skip)) (.seq (.seq (.reg s94_4) (.block 0 (.loop (.seq (.seq (.reg s94_5) (.cond (.t 15) .skip (.exit 0))) (.seq (.block 1 (.seq (.reg s94_7) (.seq (.reg s94_8) (.cond (.t 25) (.seq (.reg s94_9) .ret) .skip)))) (.reg s94_6)))))) (.seq (.reg s94_10) .ret)))))
theorem tr94 : (Try.f94.body.bind (trC Try.prog Try.f94.ntmps)) = some s94 := by kernel_rfl
-- loop.example/g00475/laws.szWrS
def s95_0 : List GI := [⟨(some 4), .rd (.mv (.k (.a (.c (.lf (.int .i64 0)))))), none⟩]
def s95_1 : List GI := [⟨(some 6), .rd (.mv (.t 1)), none⟩,
  ⟨(some 7), .rd (.mv (.t 0)), none⟩,
  ⟨(some 8), .rd (.len (.t 7)), none⟩,
  ⟨(some 9), .rd (.bin .sub (.t 6) (.t 8)), none⟩,
  ⟨(some 1), .rd (.mv (.t 9)), none⟩]
def s95_2 : List GI := [⟨(some 10), .rd (.mv (.t 1)), none⟩,
  ⟨(some 11), .rd (.bin .lss (.t 10) (.k (.a (.c (.lf (.int .i64 0)))))), none⟩]
def s95_3 : List GI := [⟨(some 4), .rd (.mv (.k (.a (.c (.lf (.int .i64 (-1))))))), none⟩]
def s95_4 : List GI := [⟨(some 5), .rd (.mv (.k (.a (.c (.lf (.int .i64 0)))))), none⟩]
def s95_5 : List GI := [⟨(some 12), .rd (.mv (.t 5)), none⟩,
  ⟨(some 13), .rd (.mv (.t 0)), none⟩,
  ⟨(some 14), .rd (.len (.t 13)), none⟩,
  ⟨(some 15), .rd (.bin .lss (.t 12) (.t 14)), none⟩]
def s95_7 : List GI := [⟨(some 18), .rd (.mv (.t 0)), none⟩,
  ⟨(some 19), .rd (.mv (.t 5)), none⟩,
  ⟨(some 20), .rd (.iad 2 (.t 18) (.t 19)), none⟩,
  ⟨(some 21), .rd (.load (some 2) (.t 20)), none⟩,
  ⟨(some 22), .rd (.mv (.t 1)), none⟩,
  ⟨(some 23), .wr (.call 129 [(.t 21), (.t 22)]), none⟩,
  ⟨(some 1), .rd (.mv (.t 23)), none⟩]
def s95_8 : List GI := [⟨(some 24), .rd (.mv (.t 1)), none⟩,
  ⟨(some 25), .rd (.bin .lss (.t 24) (.k (.a (.c (.lf (.int .i64 0)))))), none⟩]
def s95_9 : List GI := [⟨(some 4), .rd (.mv (.k (.a (.c (.lf (.int .i64 (-1))))))), none⟩]
def s95_6 : List GI := [⟨(some 16), .rd (.mv (.t 5)), none⟩,
  ⟨(some 17), .rd (.bin .add (.t 16) (.k (.a (.c (.lf (.int .i64 1)))))), none⟩,
  ⟨(some 5), .rd (.mv (.t 17)), none⟩]
def s95_10 : List GI := [⟨(some 26), .rd (.mv (.t 1)), none⟩,
  ⟨(some 4), .rd (.mv (.t 26)), none⟩]
def s95 : Stm := (.seq (.reg s95_0) (.seq (.reg s95_1) (.seq (.seq (.reg s95_2) (.cond (.t 11) (.seq (.reg s95_3) .ret) .skip)) (.seq (.seq (.reg s95_4) (.block 0 (.loop (.seq (.seq (.reg s95_5) (.cond (.t 15) .skip (.exit 0))) (.seq (.block 1 (.seq (.reg s95_7) (.seq (.reg s95_8) (.cond (.t 25) (.seq (.reg s95_9) .ret) .skip)))) (.reg s95_6)))))) (.seq (.reg s95_10) .ret)))))
theorem tr95 : (Try.f95.body.bind (trC Try.prog Try.f95.ntmps)) = some s95 := by kernel_rfl
-- loop.example/g00475/laws.toByteSS
def s96_0 : List GI := [⟨(some 2), .rd (.mv (.k (.a (.c (.nl 1))))), none⟩]
def s96_1 : List GI := [⟨(some 5), .rd (.mv (.t 0)), none⟩,
  ⟨(some 6), .rd (.len (.t 5)), none⟩,
  ⟨(some 7), .wr (.mks 1 24 [.nl 1] (.t 6) (.t 6)), none⟩,
  ⟨(some 3), .rd (.mv (.t 7)), none⟩]
def s96_2 : List GI := [⟨(some 4), .rd (.mv (.k (.a (.c (.lf (.int .i64 0)))))), none⟩]
def s96_3 : List GI := [⟨(some 8), .rd (.mv (.t 4)), none⟩,
  ⟨(some 9), .rd (.mv (.t 0)), none⟩,
  ⟨(some 10), .rd (.len (.t 9)), none⟩,
  ⟨(some 11), .rd (.bin .lss (.t 8) (.t 10)), none⟩]
def s96_5 : List GI := [⟨(some 14), .rd (.mv (.t 3)), none⟩,
  ⟨(some 15), .rd (.mv (.t 4)), none⟩,
  ⟨(some 16), .rd (.mv (.t 0)), none⟩,
  ⟨(some 17), .rd (.mv (.t 4)), none⟩,
  ⟨(some 18), .rd (.iad 1 (.t 16) (.t 17)), none⟩,
  ⟨(some 19), .rd (.load none (.t 18)), none⟩,
  ⟨(some 20), .wr (.call 27 [(.t 19)]), none⟩,
  ⟨(some 21), .rd (.iad 1 (.t 14) (.t 15)), none⟩,
  ⟨none, .wr (.store 1 (.t 21) (.t 20)), none⟩]
def s96_4 : List GI := [⟨(some 12), .rd (.mv (.t 4)), none⟩,
  ⟨(some 13), .rd (.bin .add (.t 12) (.k (.a (.c (.lf (.int .i64 1)))))), none⟩,
  ⟨(some 4), .rd (.mv (.t 13)), none⟩]
def s96_6 : List GI := [⟨(some 22), .rd (.mv (.t 3)), none⟩,
  ⟨(some 2), .rd (.mv (.t 22)), none⟩]
def s96 : Stm := (.seq (.reg s96_0) (.seq (.reg s96_1) (.seq (.seq (.reg s96_2) (.block 0 (.loop (.seq (.seq (.reg s96_3) (.cond (.t 11) .skip (.exit 0))) (.seq (.block 1 (.reg s96_5)) (.reg s96_4)))))) (.seq (.reg s96_6) .ret))))
theorem tr96 : (Try.f96.body.bind (trC Try.prog Try.f96.ntmps)) = some s96 := by kernel_rfl
-- loop.example/g00475/laws.toWrS
def s97_0 : List GI := [⟨(some 2), .rd (.mv (.k (.a (.c (.nl 2))))), none⟩]
def s97_1 : List GI := [⟨(some 5), .rd (.mv (.t 0)), none⟩,
  ⟨(some 6), .rd (.len (.t 5)), none⟩,
  ⟨(some 7), .wr (.mks 2 32 [.lf (.int .i64 0), .nl 1] (.t 6) (.t 6)), none⟩,
  ⟨(some 3), .rd (.mv (.t 7)), none⟩]
def s97_2 : List GI := [⟨(some 4), .rd (.mv (.k (.a (.c (.lf (.int .i64 0)))))), none⟩]
def s97_3 : List GI := [⟨(some 8), .rd (.mv (.t 4)), none⟩,
  ⟨(some 9), .rd (.mv (.t 0)), none⟩,
  ⟨(some 10), .rd (.len (.t 9)), none⟩,
  ⟨(some 11), .rd (.bin .lss (.t 8) (.t 10)), none⟩]
def s97_5 : List GI := [⟨(some 14), .rd (.mv (.t 3)), none⟩,
  ⟨(some 15), .rd (.mv (.t 4)), none⟩,
  ⟨(some 16), .rd (.mv (.t 0)), none⟩,
  ⟨(some 17), .rd (.mv (.t 4)), none⟩,
  ⟨(some 18), .rd (.iad 2 (.t 16) (.t 17)), none⟩,
  ⟨(some 19), .rd (.load (some 2) (.t 18)), none⟩,
  ⟨(some 20), .wr (.call 130 [(.t 19)]), none⟩,
  ⟨(some 21), .rd (.iad 2 (.t 14) (.t 15)), none⟩,
  ⟨none, .wr (.store 2 (.t 21) (.t 20)), none⟩]
def s97_4 : List GI := [⟨(some 12), .rd (.mv (.t 4)), none⟩,
  ⟨(some 13), .rd (.bin .add (.t 12) (.k (.a (.c (.lf (.int .i64 1)))))), none⟩,
  ⟨(some 4), .rd (.mv (.t 13)), none⟩]
def s97_6 : List GI := [⟨(some 22), .rd (.mv (.t 3)), none⟩,
  ⟨(some 2), .rd (.mv (.t 22)), none⟩]
def s97 : Stm := (.seq (.reg s97_0) (.seq (.reg s97_1) (.seq (.seq (.reg s97_2) (.block 0 (.loop (.seq (.seq (.reg s97_3) (.cond (.t 11) .skip (.exit 0))) (.seq (.block 1 (.reg s97_5)) (.reg s97_4)))))) (.seq (.reg s97_6) .ret))))
theorem tr97 : (Try.f97.body.bind (trC Try.prog Try.f97.ntmps)) = some s97 := by kernel_rfl
-- loop.example/g00475/laws.szByteS
def s128_0 : List GI := [⟨(some 4), .rd (.mv (.k (.a (.c (.lf (.int .i64 0)))))), none⟩]
def s128_1 : List GI := [⟨(some 5), .rd (.mv (.t 1)), none⟩,
  ⟨(some 6), .rd (.mv (.t 0)), none⟩,
  ⟨(some 7), .rd (.len (.t 6)), none⟩,
  ⟨(some 8), .rd (.bin .sub (.t 5) (.t 7)), none⟩,
  ⟨(some 1), .rd (.mv (.t 8)), none⟩]
def s128_2 : List GI := [⟨(some 9), .rd (.mv (.t 1)), none⟩,
  ⟨(some 10), .rd (.bin .lss (.t 9) (.k (.a (.c (.lf (.int .i64 0)))))), none⟩]
def s128_3 : List GI := [⟨(some 4), .rd (.mv (.k (.a (.c (.lf (.int .i64 (-1))))))), none⟩]
def s128_4 : List GI := [⟨(some 11), .rd (.mv (.t 1)), none⟩,
  ⟨(some 4), .rd (.mv (.t 11)), none⟩]
def s128 : Stm := (.seq (.reg s128_0) (.seq (.reg s128_1) (.seq (.seq (.reg s128_2) (.cond (.t 10) (.seq (.reg s128_3) .ret) .skip)) (.seq (.reg s128_4) .ret))))
theorem tr128 : (Try.f128.body.bind (trC Try.prog Try.f128.ntmps)) = some s128 := by kernel_rfl
-- loop.example/g00475/laws.szWr
def s129_0 : List GI := [⟨(some 2), .wr (.box (.t 0)), none⟩,
  ⟨(some 4), .rd (.mv (.k (.a (.c (.lf (.int .i64 0)))))), none⟩]
def s129_1 : List GI := [⟨(some 5), .rd (.fad 1 (.t 2)), none⟩,
  ⟨(some 6), .rd (.load none (.t 5)), none⟩,
  ⟨(some 7), .rd (.mv (.t 1)), none⟩,
  ⟨(some 8), .wr (.call 128 [(.t 6), (.t 7)]), none⟩,
  ⟨(some 1), .rd (.mv (.t 8)), none⟩]
def s129_2 : List GI := [⟨(some 9), .rd (.mv (.t 1)), none⟩,
  ⟨(some 10), .rd (.bin .lss (.t 9) (.k (.a (.c (.lf (.int .i64 0)))))), none⟩]
def s129_3 : List GI := [⟨(some 4), .rd (.mv (.k (.a (.c (.lf (.int .i64 (-1))))))), none⟩]
def s129_4 : List GI := [⟨(some 11), .rd (.mv (.t 1)), none⟩,
  ⟨(some 4), .rd (.mv (.t 11)), none⟩]
def s129 : Stm := (.seq (.reg s129_0) (.seq (.reg s129_1) (.seq (.seq (.reg s129_2) (.cond (.t 10) (.seq (.reg s129_3) .ret) .skip)) (.seq (.reg s129_4) .ret))))
theorem tr129 : (Try.f129.body.bind (trC Try.prog Try.f129.ntmps)) = some s129 := by kernel_rfl
-- loop.example/g00475/laws.toWr
def s130_0 : List GI := [⟨(some 1), .wr (.box (.t 0)), none⟩,
  ⟨(some 2), .wr (.alloc [.lf (.int .i64 0), .nl 1]), none⟩]
def s130_1 : List GI := [⟨(some 3), .wr (.alloc [.lf (.int .i64 0), .nl 1]), none⟩]
def s130_2 : List GI := [⟨(some 4), .rd (.fad 0 (.t 1)), none⟩,
  ⟨(some 5), .rd (.load none (.t 4)), none⟩,
  ⟨(some 6), .rd (.fad 0 (.t 3)), none⟩,
  ⟨none, .wr (.store 1 (.t 6) (.t 5)), none⟩]
def s130_3 : List GI := [⟨(some 7), .rd (.fad 1 (.t 1)), none⟩,
  ⟨(some 8), .rd (.load none (.t 7)), none⟩,
  ⟨(some 9), .wr (.call 27 [(.t 8)]), none⟩,
  ⟨(some 10), .rd (.fad 1 (.t 3)), none⟩,
  ⟨none, .wr (.store 1 (.t 10) (.t 9)), none⟩]
def s130_4 : List GI := [⟨(some 11), .rd (.load (some 2) (.t 3)), none⟩,
  ⟨none, .wr (.store 2 (.t 2) (.t 11)), none⟩]
def s130 : Stm := (.seq (.reg s130_0) (.seq (.reg s130_1) (.seq (.reg s130_2) (.seq (.reg s130_3) (.seq (.reg s130_4) .ret)))))
theorem tr130 : (Try.f130.body.bind (trC Try.prog Try.f130.ntmps)) = some s130 := by kernel_rfl
-- loop.example/g00475/laws.FnExactDevOk
def s8_0 : List GI := [⟨(some 1), .wr (.box (.t 0)), none⟩,
  ⟨(some 2), .rd (.mv (.k (.a (.c (.lf (.bool false)))))), none⟩]
def s8_1 : List GI := [⟨(some 3), .rd (.mv (.k (.a (.c (.lf (.int .i64 1048576)))))), none⟩]
def s8_2 : List GI := [⟨(some 7), .rd (.load (some 4) (.t 1)), none⟩,
  ⟨(some 8), .rd (.mv (.t 3)), none⟩,
  ⟨(some 9), .wr (.call 38 [(.t 7), (.t 8)]), none⟩,
  ⟨(some 3), .rd (.mv (.t 9)), none⟩]
def s8_3 : List GI := [⟨(some 10), .rd (.mv (.t 3)), none⟩,
  ⟨(some 11), .rd (.bin .lss (.t 10) (.k (.a (.c (.lf (.int .i64 0)))))), none⟩]
def s8_4 : List GI := [⟨(some 2), .rd (.mv (.k (.a (.c (.lf (.bool true)))))), none⟩]
def s8_5 : List GI := [⟨(some 12), .rd (.load (some 4) (.t 1)), none⟩,
  ⟨(some 13), .wr (.call 40 [(.t 12)]), none⟩,
  ⟨(some 14), .wr (.call 39 [(.t 13)]), none⟩,
  ⟨(some 4), .rd (.mv (.t 14)), none⟩]
def s8_6 : List GI := [⟨(some 15), .rd (.load (some 4) (.t 1)), none⟩,
  ⟨(some 16), .wr (.call 40 [(.t 15)]), none⟩,
  ⟨(some 5), .wr (.alloc [.nl 1, .nl 2, .lf (.int .i64 0), .lf (.bool false)]), none⟩,
  ⟨none, .wr (.store 4 (.t 5) (.t 16)), none⟩]
def s8_7 : List GI := [⟨(some 17), .rd (.load (some 4) (.t 5)), none⟩,
  ⟨(some 18), .wr (.call 41 [(.t 17)]), none⟩,
  ⟨(some 6), .rd (.mv (.t 18)), none⟩]
def s8_8 : List GI := [⟨(some 19), .rd (.mv (.t 6)), none⟩,
  ⟨(some 20), .rd (.mv (.t 4)), none⟩,
  ⟨(some 21), .rd (.beq true (.t 19) (.t 20)), none⟩]
def s8_9 : List GI := [⟨(some 2), .rd (.mv (.k (.a (.c (.lf (.bool false)))))), none⟩]
def s8_10 : List DI := [⟨⟨(some 22), .rd (.load (some 4) (.t 5)), none⟩, [], false, 0, 1⟩,
  ⟨⟨(some 23), .rd (.load (some 4) (.t 1)), none⟩, [], false, 0, 0⟩,
  ⟨⟨(some 24), .wr (.call 40 [(.t 23)]), none⟩, [1], true, 0, 0⟩,
  ⟨⟨(some 25), .wr (.call 31 [(.t 22), (.t 24)]), none⟩, [0, 2, 1], true, 0, 0⟩,
  ⟨⟨(some 26), .rd (.un .not (.t 25)), none⟩, [3, 0, 2, 1], false, 2, 2⟩]
def s8_11 : List GI := [⟨(some 2), .rd (.mv (.k (.a (.c (.lf (.bool false)))))), none⟩]
def s8_12 : List GI := [⟨(some 2), .rd (.mv (.k (.a (.c (.lf (.bool true)))))), none⟩]
def s8 : Stm := (.seq (.reg s8_0) (.seq (.reg s8_1) (.seq (.reg s8_2) (.seq (.seq (.reg s8_3) (.cond (.t 11) (.seq (.reg s8_4) .ret) .skip)) (.seq (.reg s8_5) (.seq (.reg s8_6) (.seq (.reg s8_7) (.seq (.seq (.reg s8_8) (.cond (.t 21) (.seq (.reg s8_9) .ret) .skip)) (.seq (.seq (.drw s8_10) (.cond (.t 26) (.seq (.reg s8_11) .ret) .skip)) (.seq (.reg s8_12) .ret))))))))))
theorem tr8 : (Try.f8.body.bind (trC Try.prog Try.f8.ntmps)) = some s8 := by kernel_rfl
end Go.Proofs.Ytgbapgjdkoojdaa
