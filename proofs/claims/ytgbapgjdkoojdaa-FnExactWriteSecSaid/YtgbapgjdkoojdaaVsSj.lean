import Derived.Test.YtgbapgjdkoojdaaProg
import Derived.Test.YtgbapgjdkoojdaaVsW2
set_option linter.unusedVariables false
set_option linter.unusedSimpArgs false
namespace Go.Proofs.Ytgbapgjdkoojdaa
open Go.Vs
set_option maxRecDepth 100000
-- loop.example/g00475/impl.ReadSec
def s46_0 : List GI := [⟨(some 2), .wr (.box (.t 0)), none⟩,
  ⟨(some 4), .rd (.mv (.k (.a (.c (.nl 1))))), none⟩]
def s46_1 : List GI := [⟨(some 6), .rd (.load (some 4) (.t 2)), none⟩,
  ⟨(some 7), .wr (.call 41 [(.t 6)]), none⟩,
  ⟨(some 8), .rd (.un .not (.t 7)), none⟩,
  ⟨(some 9), .rd (.mv (.t 8)), none⟩,
  ⟨(some 10), .rd (.mv (.t 1)), (some (9, false))⟩,
  ⟨(some 11), .rd (.fad 0 (.t 2)), (some (9, false))⟩,
  ⟨(some 12), .rd (.load none (.t 11)), (some (9, false))⟩,
  ⟨(some 13), .rd (.len (.t 12)), (some (9, false))⟩,
  ⟨(some 14), .rd (.bin .sub (.t 13) (.k (.a (.c (.lf (.int .i64 1)))))), (some (9, false))⟩,
  ⟨(some 15), .wr (.call 77 [(.t 10), (.k (.a (.c (.lf (.int .i64 0))))), (.t 14)]), (some (9, false))⟩,
  ⟨(some 16), .rd (.un .not (.t 15)), (some (9, false))⟩,
  ⟨(some 17), .rd (.pick (.t 9) (.k (.a (.c (.lf (.bool true))))) (.t 16)), none⟩]
def s46_2 : List GI := [⟨(some 4), .rd (.mv (.k (.a (.c (.nl 1))))), none⟩]
def s46_3 : List GI := [⟨(some 18), .rd (.fad 1 (.t 2)), none⟩,
  ⟨(some 19), .rd (.load none (.t 18)), none⟩,
  ⟨(some 20), .rd (.len (.t 19)), none⟩,
  ⟨(some 21), .rd (.bin .sub (.t 20) (.k (.a (.c (.lf (.int .i64 1)))))), none⟩,
  ⟨(some 5), .rd (.mv (.t 21)), none⟩]
def s46_4 : List GI := [⟨(some 22), .rd (.mv (.t 5)), none⟩,
  ⟨(some 23), .rd (.bin .geq (.t 22) (.k (.a (.c (.lf (.int .i64 0)))))), none⟩]
def s46_6 : List GI := [⟨(some 26), .rd (.fad 1 (.t 2)), none⟩,
  ⟨(some 27), .rd (.load none (.t 26)), none⟩,
  ⟨(some 28), .rd (.mv (.t 5)), none⟩,
  ⟨(some 29), .rd (.iad 2 (.t 27) (.t 28)), none⟩,
  ⟨(some 30), .rd (.fad 0 (.t 29)), none⟩,
  ⟨(some 31), .rd (.load none (.t 30)), none⟩,
  ⟨(some 32), .rd (.mv (.t 1)), none⟩,
  ⟨(some 33), .rd (.bin .eql (.t 31) (.t 32)), none⟩]
def s46_7 : List GI := [⟨(some 34), .rd (.fad 1 (.t 2)), none⟩,
  ⟨(some 35), .rd (.load none (.t 34)), none⟩,
  ⟨(some 36), .rd (.mv (.t 5)), none⟩,
  ⟨(some 37), .rd (.iad 2 (.t 35) (.t 36)), none⟩,
  ⟨(some 38), .rd (.fad 1 (.t 37)), none⟩,
  ⟨(some 39), .rd (.load none (.t 38)), none⟩,
  ⟨(some 40), .wr (.lit 1 1 [.nl 1] [(0, (.t 39))]), none⟩,
  ⟨(some 41), .wr (.call 101 [(.t 40)]), none⟩,
  ⟨(some 4), .rd (.mv (.t 41)), none⟩]
def s46_5 : List GI := [⟨(some 24), .rd (.mv (.t 5)), none⟩,
  ⟨(some 25), .rd (.bin .sub (.t 24) (.k (.a (.c (.lf (.int .i64 1)))))), none⟩,
  ⟨(some 5), .rd (.mv (.t 25)), none⟩]
def s46_8 : List GI := [⟨(some 42), .rd (.fad 0 (.t 2)), none⟩,
  ⟨(some 43), .rd (.load none (.t 42)), none⟩,
  ⟨(some 44), .rd (.mv (.t 1)), none⟩,
  ⟨(some 45), .rd (.iad 1 (.t 43) (.t 44)), none⟩,
  ⟨(some 46), .rd (.load none (.t 45)), none⟩,
  ⟨(some 47), .wr (.lit 1 1 [.nl 1] [(0, (.t 46))]), none⟩,
  ⟨(some 48), .wr (.call 101 [(.t 47)]), none⟩,
  ⟨(some 4), .rd (.mv (.t 48)), none⟩]
def s46 : Stm := (.seq (.reg s46_0) (.seq (.seq (.reg s46_1) (.cond (.t 17) (.seq (.reg s46_2) .ret) .skip)) (.seq (.seq (.reg s46_3) (.block 0 (.loop (.seq (.seq (.reg s46_4) (.cond (.t 23) .skip (.exit 0))) (.seq (.block 1 (.seq (.reg s46_6) (.cond (.t 33) (.seq (.reg s46_7) .ret) .skip))) (.reg s46_5)))))) (.seq (.reg s46_8) .ret))))
theorem tr46 : (Try.f46.body.bind (trC Try.prog Try.f46.ntmps)) = some s46 := by kernel_rfl
-- loop.example/g00475/spec.ReadSec
def s55_0 : List GI := [⟨(some 2), .wr (.box (.t 0)), none⟩,
  ⟨(some 4), .rd (.mv (.k (.a (.c (.nl 1))))), none⟩]
def s55_1 : List GI := [⟨(some 7), .rd (.load (some 4) (.t 2)), none⟩,
  ⟨(some 8), .wr (.call 39 [(.t 7)]), none⟩,
  ⟨(some 9), .rd (.un .not (.t 8)), none⟩,
  ⟨(some 10), .rd (.mv (.t 9)), none⟩,
  ⟨(some 11), .rd (.mv (.t 1)), (some (10, false))⟩,
  ⟨(some 12), .rd (.fad 0 (.t 2)), (some (10, false))⟩,
  ⟨(some 13), .rd (.load none (.t 12)), (some (10, false))⟩,
  ⟨(some 14), .rd (.len (.t 13)), (some (10, false))⟩,
  ⟨(some 15), .rd (.bin .sub (.t 14) (.k (.a (.c (.lf (.int .i64 1)))))), (some (10, false))⟩,
  ⟨(some 16), .wr (.call 74 [(.t 11), (.k (.a (.c (.lf (.int .i64 0))))), (.t 15)]), (some (10, false))⟩,
  ⟨(some 17), .rd (.un .not (.t 16)), (some (10, false))⟩,
  ⟨(some 18), .rd (.pick (.t 10) (.k (.a (.c (.lf (.bool true))))) (.t 17)), none⟩]
def s55_2 : List GI := [⟨(some 19), .wr (.lit 1 0 [.lf (.int .u8 0)] []), none⟩,
  ⟨(some 4), .rd (.mv (.t 19)), none⟩]
def s55_3 : List GI := [⟨(some 20), .rd (.fad 0 (.t 2)), none⟩,
  ⟨(some 21), .rd (.load none (.t 20)), none⟩,
  ⟨(some 22), .rd (.mv (.t 1)), none⟩,
  ⟨(some 23), .rd (.iad 1 (.t 21) (.t 22)), none⟩,
  ⟨(some 24), .rd (.load none (.t 23)), none⟩,
  ⟨(some 5), .rd (.mv (.t 24)), none⟩]
def s55_4 : List GI := [⟨(some 6), .rd (.mv (.k (.a (.c (.lf (.int .i64 0)))))), none⟩]
def s55_5 : List GI := [⟨(some 25), .rd (.mv (.t 6)), none⟩,
  ⟨(some 26), .rd (.fad 1 (.t 2)), none⟩,
  ⟨(some 27), .rd (.load none (.t 26)), none⟩,
  ⟨(some 28), .rd (.len (.t 27)), none⟩,
  ⟨(some 29), .rd (.bin .lss (.t 25) (.t 28)), none⟩]
def s55_7 : List GI := [⟨(some 32), .rd (.fad 1 (.t 2)), none⟩,
  ⟨(some 33), .rd (.load none (.t 32)), none⟩,
  ⟨(some 34), .rd (.mv (.t 6)), none⟩,
  ⟨(some 35), .rd (.iad 2 (.t 33) (.t 34)), none⟩,
  ⟨(some 36), .rd (.fad 0 (.t 35)), none⟩,
  ⟨(some 37), .rd (.load none (.t 36)), none⟩,
  ⟨(some 38), .rd (.mv (.t 1)), none⟩,
  ⟨(some 39), .rd (.bin .eql (.t 37) (.t 38)), none⟩]
def s55_8 : List GI := [⟨(some 40), .rd (.fad 1 (.t 2)), none⟩,
  ⟨(some 41), .rd (.load none (.t 40)), none⟩,
  ⟨(some 42), .rd (.mv (.t 6)), none⟩,
  ⟨(some 43), .rd (.iad 2 (.t 41) (.t 42)), none⟩,
  ⟨(some 44), .rd (.fad 1 (.t 43)), none⟩,
  ⟨(some 45), .rd (.load none (.t 44)), none⟩,
  ⟨(some 5), .rd (.mv (.t 45)), none⟩]
def s55_6 : List GI := [⟨(some 30), .rd (.mv (.t 6)), none⟩,
  ⟨(some 31), .rd (.bin .add (.t 30) (.k (.a (.c (.lf (.int .i64 1)))))), none⟩,
  ⟨(some 6), .rd (.mv (.t 31)), none⟩]
def s55_9 : List GI := [⟨(some 46), .wr (.lit 1 0 [.lf (.int .u8 0)] []), none⟩,
  ⟨(some 47), .rd (.mv (.t 5)), none⟩,
  ⟨(some 48), .wr (.app 1 1 [.lf (.int .u8 0)] (.t 46) (.t 47)), none⟩,
  ⟨(some 4), .rd (.mv (.t 48)), none⟩]
def s55 : Stm := (.seq (.reg s55_0) (.seq (.seq (.reg s55_1) (.cond (.t 18) (.seq (.reg s55_2) .ret) .skip)) (.seq (.reg s55_3) (.seq (.seq (.reg s55_4) (.block 0 (.loop (.seq (.seq (.reg s55_5) (.cond (.t 29) .skip (.exit 0))) (.seq (.block 1 (.seq (.reg s55_7) (.cond (.t 39) (.reg s55_8) .skip))) (.reg s55_6)))))) (.seq (.reg s55_9) .ret)))))
theorem tr55 : (Try.f55.body.bind (trC Try.prog Try.f55.ntmps)) = some s55 := by kernel_rfl
-- loop.example/g00475/laws.FnExactReadSec
def s12_0 : List GI := [⟨(some 2), .wr (.box (.t 0)), none⟩,
  ⟨(some 4), .rd (.mv (.k (.a (.c (.lf (.bool false)))))), none⟩]
def s12_1 : List GI := [⟨(some 5), .rd (.mv (.k (.a (.c (.lf (.int .i64 1048576)))))), none⟩]
def s12_2 : List GI := [⟨(some 13), .rd (.load (some 4) (.t 2)), none⟩,
  ⟨(some 14), .rd (.mv (.t 5)), none⟩,
  ⟨(some 15), .wr (.call 38 [(.t 13), (.t 14)]), none⟩,
  ⟨(some 5), .rd (.mv (.t 15)), none⟩]
def s12_3 : List GI := [⟨(some 16), .rd (.mv (.t 5)), none⟩,
  ⟨(some 17), .rd (.bin .lss (.t 16) (.k (.a (.c (.lf (.int .i64 0)))))), none⟩]
def s12_4 : List GI := [⟨(some 4), .rd (.mv (.k (.a (.c (.lf (.bool true)))))), none⟩]
def s12_5 : List GI := [⟨(some 18), .rd (.load (some 4) (.t 2)), none⟩,
  ⟨(some 19), .wr (.call 40 [(.t 18)]), none⟩,
  ⟨(some 20), .rd (.mv (.t 1)), none⟩,
  ⟨(some 21), .wr (.call 55 [(.t 19), (.t 20)]), none⟩,
  ⟨(some 6), .rd (.mv (.t 21)), none⟩]
def s12_6 : List GI := [⟨(some 22), .rd (.load (some 4) (.t 2)), none⟩,
  ⟨(some 23), .wr (.call 40 [(.t 22)]), none⟩,
  ⟨(some 7), .wr (.alloc [.nl 1, .nl 2, .lf (.int .i64 0), .lf (.bool false)]), none⟩,
  ⟨none, .wr (.store 4 (.t 7) (.t 23)), none⟩]
def s12_7 : List GI := [⟨(some 24), .rd (.load (some 4) (.t 7)), none⟩,
  ⟨(some 25), .rd (.mv (.t 1)), none⟩,
  ⟨(some 26), .wr (.call 46 [(.t 24), (.t 25)]), none⟩,
  ⟨(some 8), .rd (.mv (.t 26)), none⟩]
def s12_8 : List GI := [⟨(some 27), .rd (.mv (.t 8)), none⟩,
  ⟨(some 28), .rd (.mv (.t 6)), none⟩,
  ⟨(some 29), .wr (.call 23 [(.t 27), (.t 28)]), none⟩,
  ⟨(some 30), .rd (.un .not (.t 29)), none⟩]
def s12_9 : List GI := [⟨(some 4), .rd (.mv (.k (.a (.c (.lf (.bool false)))))), none⟩]
def s12_10 : List DI := [⟨⟨(some 31), .rd (.load (some 4) (.t 7)), none⟩, [], false, 0, 1⟩,
  ⟨⟨(some 32), .rd (.load (some 4) (.t 2)), none⟩, [], false, 0, 0⟩,
  ⟨⟨(some 33), .wr (.call 40 [(.t 32)]), none⟩, [1], true, 0, 0⟩,
  ⟨⟨(some 34), .wr (.call 31 [(.t 31), (.t 33)]), none⟩, [0, 2, 1], true, 0, 0⟩,
  ⟨⟨(some 35), .rd (.un .not (.t 34)), none⟩, [3, 0, 2, 1], false, 2, 2⟩]
def s12_11 : List GI := [⟨(some 4), .rd (.mv (.k (.a (.c (.lf (.bool false)))))), none⟩]
def s12_12 : List GI := [⟨(some 9), .rd (.mv (.k (.a (.c (.lf (.int .i64 1)))))), none⟩]
def s12_13 : List GI := [⟨(some 36), .rd (.load (some 4) (.t 7)), none⟩,
  ⟨(some 37), .rd (.mv (.t 9)), none⟩,
  ⟨(some 38), .wr (.call 32 [(.t 36), (.t 37)]), none⟩,
  ⟨(some 9), .rd (.mv (.t 38)), none⟩]
def s12_14 : List GI := [⟨(some 39), .rd (.mv (.t 9)), none⟩,
  ⟨(some 40), .rd (.bin .lss (.t 39) (.k (.a (.c (.lf (.int .i64 0)))))), none⟩,
  ⟨(some 41), .rd (.mv (.t 40)), none⟩,
  ⟨(some 42), .rd (.mv (.t 8)), (some (41, false))⟩,
  ⟨(some 43), .rd (.mv (.t 6)), (some (41, false))⟩,
  ⟨(some 44), .wr (.call 23 [(.t 42), (.t 43)]), (some (41, false))⟩,
  ⟨(some 45), .rd (.un .not (.t 44)), (some (41, false))⟩,
  ⟨(some 46), .rd (.pick (.t 41) (.k (.a (.c (.lf (.bool true))))) (.t 45)), none⟩]
def s12_15 : List GI := [⟨(some 4), .rd (.mv (.k (.a (.c (.lf (.bool false)))))), none⟩]
def s12_16 : List GI := [⟨(some 10), .rd (.mv (.k (.a (.c (.lf (.int .i64 1)))))), none⟩]
def s12_17 : List GI := [⟨(some 47), .rd (.mv (.t 8)), none⟩,
  ⟨(some 48), .rd (.mv (.t 10)), none⟩,
  ⟨(some 49), .wr (.call 24 [(.t 47), (.t 48)]), none⟩,
  ⟨(some 10), .rd (.mv (.t 49)), none⟩]
def s12_18 : List GI := [⟨(some 11), .rd (.mv (.k (.a (.c (.lf (.int .i64 1)))))), none⟩]
def s12_19 : List GI := [⟨(some 50), .rd (.mv (.t 8)), none⟩,
  ⟨(some 51), .rd (.mv (.t 11)), none⟩,
  ⟨(some 52), .wr (.call 25 [(.t 50), (.t 51)]), none⟩,
  ⟨(some 11), .rd (.mv (.t 52)), none⟩]
def s12_20 : List GI := [⟨(some 53), .rd (.mv (.t 11)), none⟩,
  ⟨(some 54), .rd (.bin .lss (.t 53) (.k (.a (.c (.lf (.int .i64 0)))))), none⟩]
def s12_21 : List GI := [⟨(some 4), .rd (.mv (.k (.a (.c (.lf (.bool false)))))), none⟩]
def s12_22 : List GI := [⟨(some 55), .rd (.mv (.t 11)), none⟩,
  ⟨(some 56), .rd (.mv (.t 10)), none⟩,
  ⟨(some 57), .rd (.bin .neq (.t 55) (.t 56)), none⟩]
def s12_23 : List GI := [⟨(some 4), .rd (.mv (.k (.a (.c (.lf (.bool false)))))), none⟩]
def s12_24 : List GI := [⟨(some 58), .rd (.load (some 4) (.t 2)), none⟩,
  ⟨(some 59), .wr (.call 40 [(.t 58)]), none⟩,
  ⟨(some 60), .rd (.mv (.t 1)), none⟩,
  ⟨(some 61), .wr (.call 46 [(.t 59), (.t 60)]), none⟩,
  ⟨(some 12), .rd (.mv (.t 61)), none⟩]
def s12_25 : List GI := [⟨(some 62), .rd (.mv (.t 12)), none⟩,
  ⟨(some 63), .rd (.mv (.t 6)), none⟩,
  ⟨(some 64), .wr (.call 23 [(.t 62), (.t 63)]), none⟩,
  ⟨(some 65), .rd (.un .not (.t 64)), none⟩]
def s12_26 : List GI := [⟨(some 4), .rd (.mv (.k (.a (.c (.lf (.bool false)))))), none⟩]
def s12_27 : List GI := [⟨(some 11), .rd (.mv (.k (.a (.c (.lf (.int .i64 1)))))), none⟩]
def s12_28 : List GI := [⟨(some 66), .rd (.mv (.t 8)), none⟩,
  ⟨(some 67), .rd (.mv (.t 11)), none⟩,
  ⟨(some 68), .wr (.call 25 [(.t 66), (.t 67)]), none⟩,
  ⟨(some 11), .rd (.mv (.t 68)), none⟩]
def s12_29 : List GI := [⟨(some 69), .rd (.mv (.t 11)), none⟩,
  ⟨(some 70), .rd (.bin .lss (.t 69) (.k (.a (.c (.lf (.int .i64 0)))))), none⟩]
def s12_30 : List GI := [⟨(some 4), .rd (.mv (.k (.a (.c (.lf (.bool false)))))), none⟩]
def s12_31 : List GI := [⟨(some 71), .rd (.mv (.t 11)), none⟩,
  ⟨(some 72), .rd (.mv (.t 10)), none⟩,
  ⟨(some 73), .rd (.bin .neq (.t 71) (.t 72)), none⟩]
def s12_32 : List GI := [⟨(some 4), .rd (.mv (.k (.a (.c (.lf (.bool false)))))), none⟩]
def s12_33 : List GI := [⟨(some 4), .rd (.mv (.k (.a (.c (.lf (.bool true)))))), none⟩]
def s12 : Stm := (.seq (.reg s12_0) (.seq (.reg s12_1) (.seq (.reg s12_2) (.seq (.seq (.reg s12_3) (.cond (.t 17) (.seq (.reg s12_4) .ret) .skip)) (.seq (.reg s12_5) (.seq (.reg s12_6) (.seq (.reg s12_7) (.seq (.seq (.reg s12_8) (.cond (.t 30) (.seq (.reg s12_9) .ret) .skip)) (.seq (.seq (.drw s12_10) (.cond (.t 35) (.seq (.reg s12_11) .ret) .skip)) (.seq (.reg s12_12) (.seq (.reg s12_13) (.seq (.seq (.reg s12_14) (.cond (.t 46) (.seq (.reg s12_15) .ret) .skip)) (.seq (.reg s12_16) (.seq (.reg s12_17) (.seq (.reg s12_18) (.seq (.reg s12_19) (.seq (.seq (.reg s12_20) (.cond (.t 54) (.seq (.reg s12_21) .ret) .skip)) (.seq (.seq (.reg s12_22) (.cond (.t 57) (.seq (.reg s12_23) .ret) .skip)) (.seq (.reg s12_24) (.seq (.seq (.reg s12_25) (.cond (.t 65) (.seq (.reg s12_26) .ret) .skip)) (.seq (.reg s12_27) (.seq (.reg s12_28) (.seq (.seq (.reg s12_29) (.cond (.t 70) (.seq (.reg s12_30) .ret) .skip)) (.seq (.seq (.reg s12_31) (.cond (.t 73) (.seq (.reg s12_32) .ret) .skip)) (.seq (.reg s12_33) .ret)))))))))))))))))))))))))
theorem tr12 : (Try.f12.body.bind (trC Try.prog Try.f12.ntmps)) = some s12 := by kernel_rfl
end Go.Proofs.Ytgbapgjdkoojdaa
