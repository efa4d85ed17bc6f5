import Derived.Test.YtgbapgjdkoojdaaProg
import Derived.Test.YtgbapgjdkoojdaaVsW2
set_option linter.unusedVariables false
set_option linter.unusedSimpArgs false
namespace Go.Proofs.Ytgbapgjdkoojdaa
open Go.Vs
set_option maxRecDepth 100000
-- loop.example/g00475/spec.Sum
def s76_0 : List GI := [⟨(some 2), .rd (.mv (.k (.a (.c (.lf (.int .i64 0)))))), none⟩]
def s76_1 : List GI := [⟨(some 3), .rd (.mv (.k (.a (.c (.lf (.int .i64 65535)))))), none⟩]
def s76_2 : List GI := [⟨(some 4), .rd (.mv (.k (.a (.c (.lf (.int .i64 0)))))), none⟩]
def s76_3 : List GI := [⟨(some 6), .rd (.mv (.t 4)), none⟩,
  ⟨(some 7), .rd (.mv (.t 0)), none⟩,
  ⟨(some 8), .rd (.len (.t 7)), none⟩,
  ⟨(some 9), .rd (.bin .lss (.t 6) (.t 8)), none⟩]
def s76_5 : List GI := [⟨(some 12), .rd (.mv (.t 3)), none⟩,
  ⟨(some 13), .rd (.mv (.t 0)), none⟩,
  ⟨(some 14), .rd (.mv (.t 4)), none⟩,
  ⟨(some 15), .rd (.iad 1 (.t 13) (.t 14)), none⟩,
  ⟨(some 16), .rd (.load none (.t 15)), none⟩,
  ⟨(some 17), .rd (.conv .i64 (.t 16)), none⟩,
  ⟨(some 18), .rd (.bin .shl (.t 17) (.k (.a (.c (.lf (.int .u64 8)))))), none⟩,
  ⟨(some 19), .rd (.bin .xor (.t 12) (.t 18)), none⟩,
  ⟨(some 3), .rd (.mv (.t 19)), none⟩]
def s76_6 : List GI := [⟨(some 5), .rd (.mv (.k (.a (.c (.lf (.int .i64 0)))))), none⟩]
def s76_7 : List GI := [⟨(some 20), .rd (.mv (.t 5)), none⟩,
  ⟨(some 21), .rd (.bin .lss (.t 20) (.k (.a (.c (.lf (.int .i64 8)))))), none⟩]
def s76_9 : List GI := [⟨(some 24), .rd (.mv (.t 3)), none⟩,
  ⟨(some 25), .rd (.bin .shl (.t 24) (.k (.a (.c (.lf (.int .u64 1)))))), none⟩,
  ⟨(some 3), .rd (.mv (.t 25)), none⟩]
def s76_10 : List GI := [⟨(some 26), .rd (.mv (.t 3)), none⟩,
  ⟨(some 27), .rd (.bin .gtr (.t 26) (.k (.a (.c (.lf (.int .i64 65535)))))), none⟩]
def s76_11 : List GI := [⟨(some 28), .rd (.mv (.t 3)), none⟩,
  ⟨(some 29), .rd (.bin .xor (.t 28) (.k (.a (.c (.lf (.int .i64 69665)))))), none⟩,
  ⟨(some 3), .rd (.mv (.t 29)), none⟩]
def s76_8 : List GI := [⟨(some 22), .rd (.mv (.t 5)), none⟩,
  ⟨(some 23), .rd (.bin .add (.t 22) (.k (.a (.c (.lf (.int .i64 1)))))), none⟩,
  ⟨(some 5), .rd (.mv (.t 23)), none⟩]
def s76_4 : List GI := [⟨(some 10), .rd (.mv (.t 4)), none⟩,
  ⟨(some 11), .rd (.bin .add (.t 10) (.k (.a (.c (.lf (.int .i64 1)))))), none⟩,
  ⟨(some 4), .rd (.mv (.t 11)), none⟩]
def s76_12 : List GI := [⟨(some 30), .rd (.mv (.t 3)), none⟩,
  ⟨(some 31), .rd (.bin .and (.t 30) (.k (.a (.c (.lf (.int .i64 65535)))))), none⟩,
  ⟨(some 2), .rd (.mv (.t 31)), none⟩]
def s76 : Stm := (.seq (.reg s76_0) (.seq (.reg s76_1) (.seq (.seq (.reg s76_2) (.block 0 (.loop (.seq (.seq (.reg s76_3) (.cond (.t 9) .skip (.exit 0))) (.seq (.block 1 (.seq (.reg s76_5) (.seq (.reg s76_6) (.block 2 (.loop (.seq (.seq (.reg s76_7) (.cond (.t 21) .skip (.exit 2))) (.seq (.block 3 (.seq (.reg s76_9) (.seq (.reg s76_10) (.cond (.t 27) (.reg s76_11) .skip)))) (.reg s76_8)))))))) (.reg s76_4)))))) (.seq (.reg s76_12) .ret))))
theorem tr76 : (Try.f76.body.bind (trC Try.prog Try.f76.ntmps)) = some s76 := by kernel_rfl
-- loop.example/g00475/impl.PutW
def s78_0 : List GI := [⟨(some 4), .rd (.mv (.k (.a (.c (.nl 1))))), none⟩]
def s78_1 : List GI := [⟨(some 5), .rd (.mv (.t 0)), none⟩,
  ⟨(some 6), .rd (.mv (.t 1)), none⟩,
  ⟨(some 7), .rd (.bin .shr (.t 6) (.k (.a (.c (.lf (.int .u64 8)))))), none⟩,
  ⟨(some 8), .rd (.bin .and (.t 7) (.k (.a (.c (.lf (.int .i64 255)))))), none⟩,
  ⟨(some 9), .rd (.conv .u8 (.t 8)), none⟩,
  ⟨(some 10), .rd (.mv (.t 1)), none⟩,
  ⟨(some 11), .rd (.bin .and (.t 10) (.k (.a (.c (.lf (.int .i64 255)))))), none⟩,
  ⟨(some 12), .rd (.conv .u8 (.t 11)), none⟩,
  ⟨(some 13), .wr (.lit 1 2 [.lf (.int .u8 0)] [(0, (.t 9)), (1, (.t 12))]), none⟩,
  ⟨(some 14), .wr (.lit 1 2 [.nl 1] [(0, (.t 5)), (1, (.t 13))]), none⟩,
  ⟨(some 15), .wr (.call 101 [(.t 14)]), none⟩,
  ⟨(some 4), .rd (.mv (.t 15)), none⟩]
def s78 : Stm := (.seq (.reg s78_0) (.seq (.reg s78_1) .ret))
theorem tr78 : (Try.f78.body.bind (trC Try.prog Try.f78.ntmps)) = some s78 := by kernel_rfl
-- loop.example/g00475/impl.Sum
def s79_0 : List GI := [⟨(some 2), .rd (.mv (.k (.a (.c (.lf (.int .i64 0)))))), none⟩]
def s79_1 : List GI := [⟨(some 3), .rd (.mv (.k (.a (.c (.lf (.int .i64 65535)))))), none⟩]
def s79_2 : List GI := [⟨(some 6), .rd (.mv (.t 0)), none⟩,
  ⟨(some 7), .rd (.len (.t 6)), none⟩,
  ⟨(some 8), .rd (.mv (.k (.a (.c (.lf (.int .i64 0)))))), none⟩]
def s79_3 : List GI := [⟨(some 9), .rd (.bin .lss (.t 8) (.t 7)), none⟩]
def s79_4 : List GI := [⟨(some 10), .rd (.iad 1 (.t 6) (.t 8)), none⟩,
  ⟨(some 11), .rd (.load none (.t 10)), none⟩,
  ⟨(some 5), .rd (.mv (.t 11)), none⟩]
def s79_5 : List GI := [⟨(some 12), .rd (.mv (.t 3)), none⟩,
  ⟨(some 13), .rd (.mv (.t 5)), none⟩,
  ⟨(some 14), .rd (.conv .i64 (.t 13)), none⟩,
  ⟨(some 15), .rd (.bin .mul (.k (.a (.c (.lf (.int .i64 256))))) (.t 14)), none⟩,
  ⟨(some 16), .rd (.bin .xor (.t 12) (.t 15)), none⟩,
  ⟨(some 3), .rd (.mv (.t 16)), none⟩]
def s79_6 : List GI := [⟨(some 17), .rd (.mv (.k (.a (.c (.lf (.int .i64 0)))))), none⟩]
def s79_7 : List GI := [⟨(some 18), .rd (.bin .lss (.t 17) (.k (.a (.c (.lf (.int .i64 8)))))), none⟩]
def s79_8 : List GI := [⟨(some 19), .rd (.mv (.t 3)), none⟩,
  ⟨(some 20), .rd (.bin .mul (.t 19) (.k (.a (.c (.lf (.int .i64 2)))))), none⟩,
  ⟨(some 3), .rd (.mv (.t 20)), none⟩]
def s79_9 : List GI := [⟨(some 21), .rd (.mv (.t 3)), none⟩,
  ⟨(some 22), .rd (.bin .gtr (.t 21) (.k (.a (.c (.lf (.int .i64 65535)))))), none⟩]
def s79_10 : List GI := [⟨(some 23), .rd (.mv (.t 3)), none⟩,
  ⟨(some 24), .rd (.bin .xor (.t 23) (.k (.a (.c (.lf (.int .i64 69665)))))), none⟩,
  ⟨(some 3), .rd (.mv (.t 24)), none⟩]
def s79_11 : List GI := [⟨(some 25), .rd (.bin .add (.t 17) (.k (.a (.c (.lf (.int .i64 1)))))), none⟩,
  ⟨(some 17), .rd (.mv (.t 25)), none⟩]
def s79_12 : List GI := [⟨(some 26), .rd (.bin .add (.t 8) (.k (.a (.c (.lf (.int .i64 1)))))), none⟩,
  ⟨(some 8), .rd (.mv (.t 26)), none⟩]
def s79_13 : List GI := [⟨(some 27), .rd (.mv (.t 3)), none⟩,
  ⟨(some 28), .rd (.bin .and (.t 27) (.k (.a (.c (.lf (.int .i64 65535)))))), none⟩,
  ⟨(some 2), .rd (.mv (.t 28)), none⟩]
def s79 : Stm := (.seq (.reg s79_0) (.seq (.reg s79_1) (.seq (.seq (.reg s79_2) (.block 0 (.loop (.seq (.reg s79_3) (.seq (.cond (.t 9) .skip (.exit 0)) (.seq (.block 1 (.seq (.reg s79_4) (.seq (.reg s79_5) (.seq (.reg s79_6) (.block 2 (.loop (.seq (.reg s79_7) (.seq (.cond (.t 18) .skip (.exit 2)) (.seq (.block 3 (.seq (.reg s79_8) (.seq (.reg s79_9) (.cond (.t 22) (.reg s79_10) .skip)))) (.reg s79_11)))))))))) (.reg s79_12))))))) (.seq (.reg s79_13) .ret))))
theorem tr79 : (Try.f79.body.bind (trC Try.prog Try.f79.ntmps)) = some s79 := by kernel_rfl
-- loop.example/g00475/impl.joined
def s101_0 : List GI := [⟨(some 2), .rd (.mv (.k (.a (.c (.nl 1))))), none⟩]
def s101_1 : List GI := [⟨(some 6), .wr (.lit 1 0 [.lf (.int .u8 0)] []), none⟩,
  ⟨(some 3), .rd (.mv (.t 6)), none⟩]
def s101_2 : List GI := [⟨(some 7), .rd (.mv (.t 0)), none⟩,
  ⟨(some 8), .rd (.len (.t 7)), none⟩,
  ⟨(some 9), .rd (.mv (.k (.a (.c (.lf (.int .i64 0)))))), none⟩]
def s101_3 : List GI := [⟨(some 10), .rd (.bin .lss (.t 9) (.t 8)), none⟩]
def s101_4 : List GI := [⟨(some 11), .rd (.iad 1 (.t 7) (.t 9)), none⟩,
  ⟨(some 12), .rd (.load none (.t 11)), none⟩,
  ⟨(some 5), .rd (.mv (.t 12)), none⟩]
def s101_5 : List GI := [⟨(some 13), .rd (.mv (.t 3)), none⟩,
  ⟨(some 14), .rd (.mv (.t 5)), none⟩,
  ⟨(some 15), .wr (.app 1 1 [.lf (.int .u8 0)] (.t 13) (.t 14)), none⟩,
  ⟨(some 3), .rd (.mv (.t 15)), none⟩]
def s101_6 : List GI := [⟨(some 16), .rd (.bin .add (.t 9) (.k (.a (.c (.lf (.int .i64 1)))))), none⟩,
  ⟨(some 9), .rd (.mv (.t 16)), none⟩]
def s101_7 : List GI := [⟨(some 17), .rd (.mv (.t 3)), none⟩,
  ⟨(some 2), .rd (.mv (.t 17)), none⟩]
def s101 : Stm := (.seq (.reg s101_0) (.seq (.reg s101_1) (.seq (.seq (.reg s101_2) (.block 0 (.loop (.seq (.reg s101_3) (.seq (.cond (.t 10) .skip (.exit 0)) (.seq (.block 1 (.seq (.reg s101_4) (.reg s101_5))) (.reg s101_6))))))) (.seq (.reg s101_7) .ret))))
theorem tr101 : (Try.f101.body.bind (trC Try.prog Try.f101.ntmps)) = some s101 := by kernel_rfl
-- loop.example/g00475/spec.HeadOf
def s21_0 : List GI := [⟨(some 4), .rd (.mv (.k (.a (.c (.nl 1))))), none⟩]
def s21_1 : List GI := [⟨(some 6), .rd (.mv (.t 0)), none⟩,
  ⟨(some 7), .wr (.call 74 [(.t 6), (.k (.a (.c (.lf (.int .i64 1))))), (.k (.a (.c (.lf (.int .i64 60000)))))]), none⟩,
  ⟨(some 8), .rd (.un .not (.t 7)), none⟩,
  ⟨(some 9), .rd (.mv (.t 8)), none⟩,
  ⟨(some 10), .rd (.mv (.t 1)), (some (9, false))⟩,
  ⟨(some 11), .wr (.call 74 [(.t 10), (.k (.a (.c (.lf (.int .i64 0))))), (.k (.a (.c (.lf (.int .i64 30)))))]), (some (9, false))⟩,
  ⟨(some 12), .rd (.un .not (.t 11)), (some (9, false))⟩,
  ⟨(some 13), .rd (.pick (.t 9) (.k (.a (.c (.lf (.bool true))))) (.t 12)), none⟩]
def s21_2 : List GI := [⟨(some 14), .wr (.lit 1 0 [.lf (.int .u8 0)] []), none⟩,
  ⟨(some 4), .rd (.mv (.t 14)), none⟩]
def s21_3 : List GI := [⟨(some 15), .wr (.lit 1 0 [.lf (.int .u8 0)] []), none⟩,
  ⟨(some 16), .rd (.mv (.t 0)), none⟩,
  ⟨(some 17), .wr (.call 75 [(.t 15), (.t 16)]), none⟩,
  ⟨(some 18), .rd (.mv (.t 1)), none⟩,
  ⟨(some 19), .wr (.call 75 [(.t 17), (.t 18)]), none⟩,
  ⟨(some 5), .rd (.mv (.t 19)), none⟩]
def s21_4 : List GI := [⟨(some 20), .rd (.mv (.t 5)), none⟩,
  ⟨(some 21), .rd (.mv (.t 5)), none⟩,
  ⟨(some 22), .wr (.call 76 [(.t 21)]), none⟩,
  ⟨(some 23), .wr (.call 75 [(.t 20), (.t 22)]), none⟩,
  ⟨(some 4), .rd (.mv (.t 23)), none⟩]
def s21 : Stm := (.seq (.reg s21_0) (.seq (.seq (.reg s21_1) (.cond (.t 13) (.seq (.reg s21_2) .ret) .skip)) (.seq (.reg s21_3) (.seq (.reg s21_4) .ret))))
theorem tr21 : (Try.f21.body.bind (trC Try.prog Try.f21.ntmps)) = some s21 := by kernel_rfl
-- loop.example/g00475/impl.HeadOf
def s22_0 : List GI := [⟨(some 4), .rd (.mv (.k (.a (.c (.nl 1))))), none⟩]
def s22_1 : List GI := [⟨(some 6), .rd (.mv (.t 0)), none⟩,
  ⟨(some 7), .wr (.call 77 [(.t 6), (.k (.a (.c (.lf (.int .i64 1))))), (.k (.a (.c (.lf (.int .i64 60000)))))]), none⟩,
  ⟨(some 8), .rd (.un .not (.t 7)), none⟩,
  ⟨(some 9), .rd (.mv (.t 8)), none⟩,
  ⟨(some 10), .rd (.mv (.t 1)), (some (9, false))⟩,
  ⟨(some 11), .wr (.call 77 [(.t 10), (.k (.a (.c (.lf (.int .i64 0))))), (.k (.a (.c (.lf (.int .i64 30)))))]), (some (9, false))⟩,
  ⟨(some 12), .rd (.un .not (.t 11)), (some (9, false))⟩,
  ⟨(some 13), .rd (.pick (.t 9) (.k (.a (.c (.lf (.bool true))))) (.t 12)), none⟩]
def s22_2 : List GI := [⟨(some 4), .rd (.mv (.k (.a (.c (.nl 1))))), none⟩]
def s22_3 : List GI := [⟨(some 14), .rd (.mv (.t 0)), none⟩,
  ⟨(some 15), .wr (.call 78 [(.k (.a (.c (.nl 1)))), (.t 14)]), none⟩,
  ⟨(some 16), .rd (.mv (.t 1)), none⟩,
  ⟨(some 17), .wr (.call 78 [(.t 15), (.t 16)]), none⟩,
  ⟨(some 5), .rd (.mv (.t 17)), none⟩]
def s22_4 : List GI := [⟨(some 18), .rd (.mv (.t 5)), none⟩,
  ⟨(some 19), .rd (.mv (.t 5)), none⟩,
  ⟨(some 20), .wr (.call 79 [(.t 19)]), none⟩,
  ⟨(some 21), .wr (.call 78 [(.t 18), (.t 20)]), none⟩,
  ⟨(some 4), .rd (.mv (.t 21)), none⟩]
def s22 : Stm := (.seq (.reg s22_0) (.seq (.seq (.reg s22_1) (.cond (.t 13) (.seq (.reg s22_2) .ret) .skip)) (.seq (.reg s22_3) (.seq (.reg s22_4) .ret))))
theorem tr22 : (Try.f22.body.bind (trC Try.prog Try.f22.ntmps)) = some s22 := by kernel_rfl
-- loop.example/g00475/laws.FnExactHeadOf
def s4_0 : List GI := [⟨(some 4), .rd (.mv (.k (.a (.c (.lf (.bool false)))))), none⟩]
def s4_1 : List GI := [⟨(some 10), .rd (.mv (.t 0)), none⟩,
  ⟨(some 11), .rd (.mv (.t 1)), none⟩,
  ⟨(some 12), .wr (.call 21 [(.t 10), (.t 11)]), none⟩,
  ⟨(some 5), .rd (.mv (.t 12)), none⟩]
def s4_2 : List GI := [⟨(some 13), .rd (.mv (.t 0)), none⟩,
  ⟨(some 14), .rd (.mv (.t 1)), none⟩,
  ⟨(some 15), .wr (.call 22 [(.t 13), (.t 14)]), none⟩,
  ⟨(some 6), .rd (.mv (.t 15)), none⟩]
def s4_3 : List GI := [⟨(some 16), .rd (.mv (.t 6)), none⟩,
  ⟨(some 17), .rd (.mv (.t 5)), none⟩,
  ⟨(some 18), .wr (.call 23 [(.t 16), (.t 17)]), none⟩,
  ⟨(some 19), .rd (.un .not (.t 18)), none⟩]
def s4_4 : List GI := [⟨(some 4), .rd (.mv (.k (.a (.c (.lf (.bool false)))))), none⟩]
def s4_5 : List GI := [⟨(some 7), .rd (.mv (.k (.a (.c (.lf (.int .i64 1)))))), none⟩]
def s4_6 : List GI := [⟨(some 20), .rd (.mv (.t 6)), none⟩,
  ⟨(some 21), .rd (.mv (.t 7)), none⟩,
  ⟨(some 22), .wr (.call 24 [(.t 20), (.t 21)]), none⟩,
  ⟨(some 7), .rd (.mv (.t 22)), none⟩]
def s4_7 : List GI := [⟨(some 8), .rd (.mv (.k (.a (.c (.lf (.int .i64 1)))))), none⟩]
def s4_8 : List GI := [⟨(some 23), .rd (.mv (.t 6)), none⟩,
  ⟨(some 24), .rd (.mv (.t 8)), none⟩,
  ⟨(some 25), .wr (.call 25 [(.t 23), (.t 24)]), none⟩,
  ⟨(some 8), .rd (.mv (.t 25)), none⟩]
def s4_9 : List GI := [⟨(some 26), .rd (.mv (.t 8)), none⟩,
  ⟨(some 27), .rd (.bin .lss (.t 26) (.k (.a (.c (.lf (.int .i64 0)))))), none⟩]
def s4_10 : List GI := [⟨(some 4), .rd (.mv (.k (.a (.c (.lf (.bool false)))))), none⟩]
def s4_11 : List GI := [⟨(some 28), .rd (.mv (.t 8)), none⟩,
  ⟨(some 29), .rd (.mv (.t 7)), none⟩,
  ⟨(some 30), .rd (.bin .neq (.t 28) (.t 29)), none⟩]
def s4_12 : List GI := [⟨(some 4), .rd (.mv (.k (.a (.c (.lf (.bool false)))))), none⟩]
def s4_13 : List GI := [⟨(some 31), .rd (.mv (.t 0)), none⟩,
  ⟨(some 32), .rd (.mv (.t 1)), none⟩,
  ⟨(some 33), .wr (.call 22 [(.t 31), (.t 32)]), none⟩,
  ⟨(some 9), .rd (.mv (.t 33)), none⟩]
def s4_14 : List GI := [⟨(some 34), .rd (.mv (.t 9)), none⟩,
  ⟨(some 35), .rd (.mv (.t 5)), none⟩,
  ⟨(some 36), .wr (.call 23 [(.t 34), (.t 35)]), none⟩,
  ⟨(some 37), .rd (.un .not (.t 36)), none⟩]
def s4_15 : List GI := [⟨(some 4), .rd (.mv (.k (.a (.c (.lf (.bool false)))))), none⟩]
def s4_16 : List GI := [⟨(some 8), .rd (.mv (.k (.a (.c (.lf (.int .i64 1)))))), none⟩]
def s4_17 : List GI := [⟨(some 38), .rd (.mv (.t 6)), none⟩,
  ⟨(some 39), .rd (.mv (.t 8)), none⟩,
  ⟨(some 40), .wr (.call 25 [(.t 38), (.t 39)]), none⟩,
  ⟨(some 8), .rd (.mv (.t 40)), none⟩]
def s4_18 : List GI := [⟨(some 41), .rd (.mv (.t 8)), none⟩,
  ⟨(some 42), .rd (.bin .lss (.t 41) (.k (.a (.c (.lf (.int .i64 0)))))), none⟩]
def s4_19 : List GI := [⟨(some 4), .rd (.mv (.k (.a (.c (.lf (.bool false)))))), none⟩]
def s4_20 : List GI := [⟨(some 43), .rd (.mv (.t 8)), none⟩,
  ⟨(some 44), .rd (.mv (.t 7)), none⟩,
  ⟨(some 45), .rd (.bin .neq (.t 43) (.t 44)), none⟩]
def s4_21 : List GI := [⟨(some 4), .rd (.mv (.k (.a (.c (.lf (.bool false)))))), none⟩]
def s4_22 : List GI := [⟨(some 4), .rd (.mv (.k (.a (.c (.lf (.bool true)))))), none⟩]
def s4 : Stm := (.seq (.reg s4_0) (.seq (.reg s4_1) (.seq (.reg s4_2) (.seq (.seq (.reg s4_3) (.cond (.t 19) (.seq (.reg s4_4) .ret) .skip)) (.seq (.reg s4_5) (.seq (.reg s4_6) (.seq (.reg s4_7) (.seq (.reg s4_8) (.seq (.seq (.reg s4_9) (.cond (.t 27) (.seq (.reg s4_10) .ret) .skip)) (.seq (.seq (.reg s4_11) (.cond (.t 30) (.seq (.reg s4_12) .ret) .skip)) (.seq (.reg s4_13) (.seq (.seq (.reg s4_14) (.cond (.t 37) (.seq (.reg s4_15) .ret) .skip)) (.seq (.reg s4_16) (.seq (.reg s4_17) (.seq (.seq (.reg s4_18) (.cond (.t 42) (.seq (.reg s4_19) .ret) .skip)) (.seq (.seq (.reg s4_20) (.cond (.t 45) (.seq (.reg s4_21) .ret) .skip)) (.seq (.reg s4_22) .ret)))))))))))))))))
theorem tr4 : (Try.f4.body.bind (trC Try.prog Try.f4.ntmps)) = some s4 := by kernel_rfl
end Go.Proofs.Ytgbapgjdkoojdaa
