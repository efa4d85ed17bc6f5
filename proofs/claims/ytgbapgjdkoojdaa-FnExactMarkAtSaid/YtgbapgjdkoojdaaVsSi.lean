import Derived.Test.YtgbapgjdkoojdaaProg
import Derived.Test.YtgbapgjdkoojdaaVsW2
set_option linter.unusedVariables false
set_option linter.unusedSimpArgs false
namespace Go.Proofs.Ytgbapgjdkoojdaa
open Go.Vs
set_option maxRecDepth 100000
-- loop.example/g00475/laws.szRowS
def s102_0 : List GI := [⟨(some 4), .rd (.mv (.k (.a (.c (.lf (.int .i64 0)))))), none⟩]
def s102_1 : List GI := [⟨(some 6), .rd (.mv (.t 1)), none⟩,
  ⟨(some 7), .rd (.mv (.t 0)), none⟩,
  ⟨(some 8), .rd (.len (.t 7)), none⟩,
  ⟨(some 9), .rd (.bin .sub (.t 6) (.t 8)), none⟩,
  ⟨(some 1), .rd (.mv (.t 9)), none⟩]
def s102_2 : List GI := [⟨(some 10), .rd (.mv (.t 1)), none⟩,
  ⟨(some 11), .rd (.bin .lss (.t 10) (.k (.a (.c (.lf (.int .i64 0)))))), none⟩]
def s102_3 : List GI := [⟨(some 4), .rd (.mv (.k (.a (.c (.lf (.int .i64 (-1))))))), none⟩]
def s102_4 : List GI := [⟨(some 5), .rd (.mv (.k (.a (.c (.lf (.int .i64 0)))))), none⟩]
def s102_5 : List GI := [⟨(some 12), .rd (.mv (.t 5)), none⟩,
  ⟨(some 13), .rd (.mv (.t 0)), none⟩,
  ⟨(some 14), .rd (.len (.t 13)), none⟩,
  ⟨(some 15), .rd (.bin .lss (.t 12) (.t 14)), none⟩]
def s102_7 : List GI := [⟨(some 18), .rd (.mv (.t 0)), none⟩,
  ⟨(some 19), .rd (.mv (.t 5)), none⟩,
  ⟨(some 20), .rd (.iad 7 (.t 18) (.t 19)), none⟩,
  ⟨(some 21), .rd (.load (some 7) (.t 20)), none⟩,
  ⟨(some 22), .rd (.mv (.t 1)), none⟩,
  ⟨(some 23), .wr (.call 131 [(.t 21), (.t 22)]), none⟩,
  ⟨(some 1), .rd (.mv (.t 23)), none⟩]
def s102_8 : List GI := [⟨(some 24), .rd (.mv (.t 1)), none⟩,
  ⟨(some 25), .rd (.bin .lss (.t 24) (.k (.a (.c (.lf (.int .i64 0)))))), none⟩]
def s102_9 : List GI := [⟨(some 4), .rd (.mv (.k (.a (.c (.lf (.int .i64 (-1))))))), none⟩]
def s102_6 : List GI := [⟨(some 16), .rd (.mv (.t 5)), none⟩,
  ⟨(some 17), .rd (.bin .add (.t 16) (.k (.a (.c (.lf (.int .i64 1)))))), none⟩,
  ⟨(some 5), .rd (.mv (.t 17)), none⟩]
def s102_10 : List GI := [⟨(some 26), .rd (.mv (.t 1)), none⟩,
  ⟨(some 4), .rd (.mv (.t 26)), none⟩]
def s102 : Stm := (.seq (.reg s102_0) (.seq (.reg s102_1) (.seq (.seq (.reg s102_2) (.cond (.t 11) (.seq (.reg s102_3) .ret) .skip)) (.seq (.seq (.reg s102_4) (.block 0 (.loop (.seq (.seq (.reg s102_5) (.cond (.t 15) .skip (.exit 0))) (.seq (.block 1 (.seq (.reg s102_7) (.seq (.reg s102_8) (.cond (.t 25) (.seq (.reg s102_9) .ret) .skip)))) (.reg s102_6)))))) (.seq (.reg s102_10) .ret)))))
theorem tr102 : (Try.f102.body.bind (trC Try.prog Try.f102.ntmps)) = some s102 := by kernel_rfl
-- loop.example/g00475/laws.szMarkS
def s103_0 : List GI := [⟨(some 4), .rd (.mv (.k (.a (.c (.lf (.int .i64 0)))))), none⟩]
def s103_1 : List GI := [⟨(some 5), .rd (.mv (.t 1)), none⟩,
  ⟨(some 6), .rd (.mv (.t 0)), none⟩,
  ⟨(some 7), .rd (.len (.t 6)), none⟩,
  ⟨(some 8), .rd (.bin .sub (.t 5) (.t 7)), none⟩,
  ⟨(some 1), .rd (.mv (.t 8)), none⟩]
def s103_2 : List GI := [⟨(some 9), .rd (.mv (.t 1)), none⟩,
  ⟨(some 10), .rd (.bin .lss (.t 9) (.k (.a (.c (.lf (.int .i64 0)))))), none⟩]
def s103_3 : List GI := [⟨(some 4), .rd (.mv (.k (.a (.c (.lf (.int .i64 (-1))))))), none⟩]
def s103_4 : List GI := [⟨(some 11), .rd (.mv (.t 1)), none⟩,
  ⟨(some 4), .rd (.mv (.t 11)), none⟩]
def s103 : Stm := (.seq (.reg s103_0) (.seq (.reg s103_1) (.seq (.seq (.reg s103_2) (.cond (.t 10) (.seq (.reg s103_3) .ret) .skip)) (.seq (.reg s103_4) .ret))))
theorem tr103 : (Try.f103.body.bind (trC Try.prog Try.f103.ntmps)) = some s103 := by kernel_rfl
-- loop.example/g00475/laws.szTab
def s47_0 : List GI := [⟨(some 2), .wr (.box (.t 0)), none⟩,
  ⟨(some 4), .rd (.mv (.k (.a (.c (.lf (.int .i64 0)))))), none⟩]
def s47_1 : List GI := [⟨(some 5), .rd (.fad 0 (.t 2)), none⟩,
  ⟨(some 6), .rd (.load none (.t 5)), none⟩,
  ⟨(some 7), .rd (.mv (.t 1)), none⟩,
  ⟨(some 8), .wr (.call 102 [(.t 6), (.t 7)]), none⟩,
  ⟨(some 1), .rd (.mv (.t 8)), none⟩]
def s47_2 : List GI := [⟨(some 9), .rd (.mv (.t 1)), none⟩,
  ⟨(some 10), .rd (.bin .lss (.t 9) (.k (.a (.c (.lf (.int .i64 0)))))), none⟩]
def s47_3 : List GI := [⟨(some 4), .rd (.mv (.k (.a (.c (.lf (.int .i64 (-1))))))), none⟩]
def s47_4 : List GI := [⟨(some 11), .rd (.fad 2 (.t 2)), none⟩,
  ⟨(some 12), .rd (.load none (.t 11)), none⟩,
  ⟨(some 13), .rd (.mv (.t 1)), none⟩,
  ⟨(some 14), .wr (.call 103 [(.t 12), (.t 13)]), none⟩,
  ⟨(some 1), .rd (.mv (.t 14)), none⟩]
def s47_5 : List GI := [⟨(some 15), .rd (.mv (.t 1)), none⟩,
  ⟨(some 16), .rd (.bin .lss (.t 15) (.k (.a (.c (.lf (.int .i64 0)))))), none⟩]
def s47_6 : List GI := [⟨(some 4), .rd (.mv (.k (.a (.c (.lf (.int .i64 (-1))))))), none⟩]
def s47_7 : List GI := [⟨(some 17), .rd (.mv (.t 1)), none⟩,
  ⟨(some 4), .rd (.mv (.t 17)), none⟩]
def s47 : Stm := (.seq (.reg s47_0) (.seq (.reg s47_1) (.seq (.seq (.reg s47_2) (.cond (.t 10) (.seq (.reg s47_3) .ret) .skip)) (.seq (.reg s47_4) (.seq (.seq (.reg s47_5) (.cond (.t 16) (.seq (.reg s47_6) .ret) .skip)) (.seq (.reg s47_7) .ret))))))
theorem tr47 : (Try.f47.body.bind (trC Try.prog Try.f47.ntmps)) = some s47 := by kernel_rfl
-- loop.example/g00475/laws.toRowS
def s104_0 : List GI := [⟨(some 2), .rd (.mv (.k (.a (.c (.nl 7))))), none⟩]
def s104_1 : List GI := [⟨(some 5), .rd (.mv (.t 0)), none⟩,
  ⟨(some 6), .rd (.len (.t 5)), none⟩,
  ⟨(some 7), .wr (.mks 7 96 [.lf (.string ⟨#[]⟩), .lf (.int .i64 0), .nl 1, .lf (.int .i64 0), .nl 1, .lf (.int .i64 0), .lf (.bool false)] (.t 6) (.t 6)), none⟩,
  ⟨(some 3), .rd (.mv (.t 7)), none⟩]
def s104_2 : List GI := [⟨(some 4), .rd (.mv (.k (.a (.c (.lf (.int .i64 0)))))), none⟩]
def s104_3 : List GI := [⟨(some 8), .rd (.mv (.t 4)), none⟩,
  ⟨(some 9), .rd (.mv (.t 0)), none⟩,
  ⟨(some 10), .rd (.len (.t 9)), none⟩,
  ⟨(some 11), .rd (.bin .lss (.t 8) (.t 10)), none⟩]
def s104_5 : List GI := [⟨(some 14), .rd (.mv (.t 3)), none⟩,
  ⟨(some 15), .rd (.mv (.t 4)), none⟩,
  ⟨(some 16), .rd (.mv (.t 0)), none⟩,
  ⟨(some 17), .rd (.mv (.t 4)), none⟩,
  ⟨(some 18), .rd (.iad 7 (.t 16) (.t 17)), none⟩,
  ⟨(some 19), .rd (.load (some 7) (.t 18)), none⟩,
  ⟨(some 20), .wr (.call 132 [(.t 19)]), none⟩,
  ⟨(some 21), .rd (.iad 7 (.t 14) (.t 15)), none⟩,
  ⟨none, .wr (.store 7 (.t 21) (.t 20)), none⟩]
def s104_4 : List GI := [⟨(some 12), .rd (.mv (.t 4)), none⟩,
  ⟨(some 13), .rd (.bin .add (.t 12) (.k (.a (.c (.lf (.int .i64 1)))))), none⟩,
  ⟨(some 4), .rd (.mv (.t 13)), none⟩]
def s104_6 : List GI := [⟨(some 22), .rd (.mv (.t 3)), none⟩,
  ⟨(some 2), .rd (.mv (.t 22)), none⟩]
def s104 : Stm := (.seq (.reg s104_0) (.seq (.reg s104_1) (.seq (.seq (.reg s104_2) (.block 0 (.loop (.seq (.seq (.reg s104_3) (.cond (.t 11) .skip (.exit 0))) (.seq (.block 1 (.reg s104_5)) (.reg s104_4)))))) (.seq (.reg s104_6) .ret))))
theorem tr104 : (Try.f104.body.bind (trC Try.prog Try.f104.ntmps)) = some s104 := by kernel_rfl
-- loop.example/g00475/laws.toMarkS
def s105_0 : List GI := [⟨(some 2), .rd (.mv (.k (.a (.c (.nl 3))))), none⟩]
def s105_1 : List GI := [⟨(some 5), .rd (.mv (.t 0)), none⟩,
  ⟨(some 6), .rd (.len (.t 5)), none⟩,
  ⟨(some 7), .wr (.mks 3 24 [.lf (.int .i64 0), .lf (.int .i64 0), .lf (.int .i64 0)] (.t 6) (.t 6)), none⟩,
  ⟨(some 3), .rd (.mv (.t 7)), none⟩]
def s105_2 : List GI := [⟨(some 4), .rd (.mv (.k (.a (.c (.lf (.int .i64 0)))))), none⟩]
def s105_3 : List GI := [⟨(some 8), .rd (.mv (.t 4)), none⟩,
  ⟨(some 9), .rd (.mv (.t 0)), none⟩,
  ⟨(some 10), .rd (.len (.t 9)), none⟩,
  ⟨(some 11), .rd (.bin .lss (.t 8) (.t 10)), none⟩]
def s105_5 : List GI := [⟨(some 14), .rd (.mv (.t 3)), none⟩,
  ⟨(some 15), .rd (.mv (.t 4)), none⟩,
  ⟨(some 16), .rd (.mv (.t 0)), none⟩,
  ⟨(some 17), .rd (.mv (.t 4)), none⟩,
  ⟨(some 18), .rd (.iad 3 (.t 16) (.t 17)), none⟩,
  ⟨(some 19), .rd (.load (some 3) (.t 18)), none⟩,
  ⟨(some 20), .wr (.call 133 [(.t 19)]), none⟩,
  ⟨(some 21), .rd (.iad 3 (.t 14) (.t 15)), none⟩,
  ⟨none, .wr (.store 3 (.t 21) (.t 20)), none⟩]
def s105_4 : List GI := [⟨(some 12), .rd (.mv (.t 4)), none⟩,
  ⟨(some 13), .rd (.bin .add (.t 12) (.k (.a (.c (.lf (.int .i64 1)))))), none⟩,
  ⟨(some 4), .rd (.mv (.t 13)), none⟩]
def s105_6 : List GI := [⟨(some 22), .rd (.mv (.t 3)), none⟩,
  ⟨(some 2), .rd (.mv (.t 22)), none⟩]
def s105 : Stm := (.seq (.reg s105_0) (.seq (.reg s105_1) (.seq (.seq (.reg s105_2) (.block 0 (.loop (.seq (.seq (.reg s105_3) (.cond (.t 11) .skip (.exit 0))) (.seq (.block 1 (.reg s105_5)) (.reg s105_4)))))) (.seq (.reg s105_6) .ret))))
theorem tr105 : (Try.f105.body.bind (trC Try.prog Try.f105.ntmps)) = some s105 := by kernel_rfl
-- loop.example/g00475/laws.toTab
def s49_0 : List GI := [⟨(some 1), .wr (.box (.t 0)), none⟩,
  ⟨(some 2), .wr (.alloc [.nl 7, .lf (.int .i64 0), .nl 3]), none⟩]
def s49_1 : List GI := [⟨(some 3), .wr (.alloc [.nl 7, .lf (.int .i64 0), .nl 3]), none⟩]
def s49_2 : List GI := [⟨(some 4), .rd (.fad 0 (.t 1)), none⟩,
  ⟨(some 5), .rd (.load none (.t 4)), none⟩,
  ⟨(some 6), .wr (.call 104 [(.t 5)]), none⟩,
  ⟨(some 7), .rd (.fad 0 (.t 3)), none⟩,
  ⟨none, .wr (.store 1 (.t 7) (.t 6)), none⟩]
def s49_3 : List GI := [⟨(some 8), .rd (.fad 1 (.t 1)), none⟩,
  ⟨(some 9), .rd (.load none (.t 8)), none⟩,
  ⟨(some 10), .rd (.fad 1 (.t 3)), none⟩,
  ⟨none, .wr (.store 1 (.t 10) (.t 9)), none⟩]
def s49_4 : List GI := [⟨(some 11), .rd (.fad 2 (.t 1)), none⟩,
  ⟨(some 12), .rd (.load none (.t 11)), none⟩,
  ⟨(some 13), .wr (.call 105 [(.t 12)]), none⟩,
  ⟨(some 14), .rd (.fad 2 (.t 3)), none⟩,
  ⟨none, .wr (.store 1 (.t 14) (.t 13)), none⟩]
def s49_5 : List GI := [⟨(some 15), .rd (.load (some 3) (.t 3)), none⟩,
  ⟨none, .wr (.store 3 (.t 2) (.t 15)), none⟩]
def s49 : Stm := (.seq (.reg s49_0) (.seq (.reg s49_1) (.seq (.reg s49_2) (.seq (.reg s49_3) (.seq (.reg s49_4) (.seq (.reg s49_5) .ret))))))
theorem tr49 : (Try.f49.body.bind (trC Try.prog Try.f49.ntmps)) = some s49 := by kernel_rfl
-- loop.example/g00475/laws.szRow
def s131_0 : List GI := [⟨(some 2), .wr (.box (.t 0)), none⟩,
  ⟨(some 4), .rd (.mv (.k (.a (.c (.lf (.int .i64 0)))))), none⟩]
def s131_1 : List GI := [⟨(some 5), .rd (.mv (.t 1)), none⟩,
  ⟨(some 6), .rd (.fad 0 (.t 2)), none⟩,
  ⟨(some 7), .rd (.load none (.t 6)), none⟩,
  ⟨(some 8), .rd (.sln (.t 7)), none⟩,
  ⟨(some 9), .rd (.bin .sub (.t 5) (.t 8)), none⟩,
  ⟨(some 1), .rd (.mv (.t 9)), none⟩]
def s131_2 : List GI := [⟨(some 10), .rd (.mv (.t 1)), none⟩,
  ⟨(some 11), .rd (.bin .lss (.t 10) (.k (.a (.c (.lf (.int .i64 0)))))), none⟩]
def s131_3 : List GI := [⟨(some 4), .rd (.mv (.k (.a (.c (.lf (.int .i64 (-1))))))), none⟩]
def s131_4 : List GI := [⟨(some 12), .rd (.fad 1 (.t 2)), none⟩,
  ⟨(some 13), .rd (.load (some 2) (.t 12)), none⟩,
  ⟨(some 14), .rd (.mv (.t 1)), none⟩,
  ⟨(some 15), .wr (.call 140 [(.t 13), (.t 14)]), none⟩,
  ⟨(some 1), .rd (.mv (.t 15)), none⟩]
def s131_5 : List GI := [⟨(some 16), .rd (.mv (.t 1)), none⟩,
  ⟨(some 17), .rd (.bin .lss (.t 16) (.k (.a (.c (.lf (.int .i64 0)))))), none⟩]
def s131_6 : List GI := [⟨(some 4), .rd (.mv (.k (.a (.c (.lf (.int .i64 (-1))))))), none⟩]
def s131_7 : List GI := [⟨(some 18), .rd (.fad 3 (.t 2)), none⟩,
  ⟨(some 19), .rd (.load (some 2) (.t 18)), none⟩,
  ⟨(some 20), .rd (.mv (.t 1)), none⟩,
  ⟨(some 21), .wr (.call 140 [(.t 19), (.t 20)]), none⟩,
  ⟨(some 1), .rd (.mv (.t 21)), none⟩]
def s131_8 : List GI := [⟨(some 22), .rd (.mv (.t 1)), none⟩,
  ⟨(some 23), .rd (.bin .lss (.t 22) (.k (.a (.c (.lf (.int .i64 0)))))), none⟩]
def s131_9 : List GI := [⟨(some 4), .rd (.mv (.k (.a (.c (.lf (.int .i64 (-1))))))), none⟩]
def s131_10 : List GI := [⟨(some 24), .rd (.mv (.t 1)), none⟩,
  ⟨(some 4), .rd (.mv (.t 24)), none⟩]
def s131 : Stm := (.seq (.reg s131_0) (.seq (.reg s131_1) (.seq (.seq (.reg s131_2) (.cond (.t 11) (.seq (.reg s131_3) .ret) .skip)) (.seq (.reg s131_4) (.seq (.seq (.reg s131_5) (.cond (.t 17) (.seq (.reg s131_6) .ret) .skip)) (.seq (.reg s131_7) (.seq (.seq (.reg s131_8) (.cond (.t 23) (.seq (.reg s131_9) .ret) .skip)) (.seq (.reg s131_10) .ret))))))))
theorem tr131 : (Try.f131.body.bind (trC Try.prog Try.f131.ntmps)) = some s131 := by kernel_rfl
-- loop.example/g00475/laws.szCell
def s140_0 : List GI := [⟨(some 2), .wr (.box (.t 0)), none⟩,
  ⟨(some 4), .rd (.mv (.k (.a (.c (.lf (.int .i64 0)))))), none⟩]
def s140_1 : List GI := [⟨(some 5), .rd (.fad 1 (.t 2)), none⟩,
  ⟨(some 6), .rd (.load none (.t 5)), none⟩,
  ⟨(some 7), .rd (.mv (.t 1)), none⟩,
  ⟨(some 8), .wr (.call 128 [(.t 6), (.t 7)]), none⟩,
  ⟨(some 1), .rd (.mv (.t 8)), none⟩]
def s140_2 : List GI := [⟨(some 9), .rd (.mv (.t 1)), none⟩,
  ⟨(some 10), .rd (.bin .lss (.t 9) (.k (.a (.c (.lf (.int .i64 0)))))), none⟩]
def s140_3 : List GI := [⟨(some 4), .rd (.mv (.k (.a (.c (.lf (.int .i64 (-1))))))), none⟩]
def s140_4 : List GI := [⟨(some 11), .rd (.mv (.t 1)), none⟩,
  ⟨(some 4), .rd (.mv (.t 11)), none⟩]
def s140 : Stm := (.seq (.reg s140_0) (.seq (.reg s140_1) (.seq (.seq (.reg s140_2) (.cond (.t 10) (.seq (.reg s140_3) .ret) .skip)) (.seq (.reg s140_4) .ret))))
theorem tr140 : (Try.f140.body.bind (trC Try.prog Try.f140.ntmps)) = some s140 := by kernel_rfl
-- loop.example/g00475/laws.toRow
def s132_0 : List GI := [⟨(some 1), .wr (.box (.t 0)), none⟩,
  ⟨(some 2), .wr (.alloc [.lf (.string ⟨#[]⟩), .lf (.int .i64 0), .nl 1, .lf (.int .i64 0), .nl 1, .lf (.int .i64 0), .lf (.bool false)]), none⟩]
def s132_1 : List GI := [⟨(some 3), .wr (.alloc [.lf (.string ⟨#[]⟩), .lf (.int .i64 0), .nl 1, .lf (.int .i64 0), .nl 1, .lf (.int .i64 0), .lf (.bool false)]), none⟩]
def s132_2 : List GI := [⟨(some 4), .rd (.fad 0 (.t 1)), none⟩,
  ⟨(some 5), .rd (.load none (.t 4)), none⟩,
  ⟨(some 6), .rd (.fad 0 (.t 3)), none⟩,
  ⟨none, .wr (.store 1 (.t 6) (.t 5)), none⟩]
def s132_3 : List GI := [⟨(some 7), .rd (.fad 1 (.t 1)), none⟩,
  ⟨(some 8), .rd (.load (some 2) (.t 7)), none⟩,
  ⟨(some 9), .wr (.call 141 [(.t 8)]), none⟩,
  ⟨(some 10), .rd (.fad 1 (.t 3)), none⟩,
  ⟨none, .wr (.store 2 (.t 10) (.t 9)), none⟩]
def s132_4 : List GI := [⟨(some 11), .rd (.fad 3 (.t 1)), none⟩,
  ⟨(some 12), .rd (.load (some 2) (.t 11)), none⟩,
  ⟨(some 13), .wr (.call 141 [(.t 12)]), none⟩,
  ⟨(some 14), .rd (.fad 3 (.t 3)), none⟩,
  ⟨none, .wr (.store 2 (.t 14) (.t 13)), none⟩]
def s132_5 : List GI := [⟨(some 15), .rd (.fad 5 (.t 1)), none⟩,
  ⟨(some 16), .rd (.load none (.t 15)), none⟩,
  ⟨(some 17), .rd (.fad 5 (.t 3)), none⟩,
  ⟨none, .wr (.store 1 (.t 17) (.t 16)), none⟩]
def s132_6 : List GI := [⟨(some 18), .rd (.fad 6 (.t 1)), none⟩,
  ⟨(some 19), .rd (.load none (.t 18)), none⟩,
  ⟨(some 20), .rd (.fad 6 (.t 3)), none⟩,
  ⟨none, .wr (.store 1 (.t 20) (.t 19)), none⟩]
def s132_7 : List GI := [⟨(some 21), .rd (.load (some 7) (.t 3)), none⟩,
  ⟨none, .wr (.store 7 (.t 2) (.t 21)), none⟩]
def s132 : Stm := (.seq (.reg s132_0) (.seq (.reg s132_1) (.seq (.reg s132_2) (.seq (.reg s132_3) (.seq (.reg s132_4) (.seq (.reg s132_5) (.seq (.reg s132_6) (.seq (.reg s132_7) .ret))))))))
theorem tr132 : (Try.f132.body.bind (trC Try.prog Try.f132.ntmps)) = some s132 := by kernel_rfl
-- loop.example/g00475/laws.toCell
def s141_0 : List GI := [⟨(some 1), .wr (.box (.t 0)), none⟩,
  ⟨(some 2), .wr (.alloc [.lf (.int .i64 0), .nl 1]), none⟩]
def s141_1 : List GI := [⟨(some 3), .wr (.alloc [.lf (.int .i64 0), .nl 1]), none⟩]
def s141_2 : List GI := [⟨(some 4), .rd (.fad 0 (.t 1)), none⟩,
  ⟨(some 5), .rd (.load none (.t 4)), none⟩,
  ⟨(some 6), .rd (.fad 0 (.t 3)), none⟩,
  ⟨none, .wr (.store 1 (.t 6) (.t 5)), none⟩]
def s141_3 : List GI := [⟨(some 7), .rd (.fad 1 (.t 1)), none⟩,
  ⟨(some 8), .rd (.load none (.t 7)), none⟩,
  ⟨(some 9), .wr (.call 27 [(.t 8)]), none⟩,
  ⟨(some 10), .rd (.fad 1 (.t 3)), none⟩,
  ⟨none, .wr (.store 1 (.t 10) (.t 9)), none⟩]
def s141_4 : List GI := [⟨(some 11), .rd (.load (some 2) (.t 3)), none⟩,
  ⟨none, .wr (.store 2 (.t 2) (.t 11)), none⟩]
def s141 : Stm := (.seq (.reg s141_0) (.seq (.reg s141_1) (.seq (.reg s141_2) (.seq (.reg s141_3) (.seq (.reg s141_4) .ret)))))
theorem tr141 : (Try.f141.body.bind (trC Try.prog Try.f141.ntmps)) = some s141 := by kernel_rfl
-- loop.example/g00475/laws.toMark
def s133_0 : List GI := [⟨(some 1), .wr (.box (.t 0)), none⟩,
  ⟨(some 2), .wr (.alloc [.lf (.int .i64 0), .lf (.int .i64 0), .lf (.int .i64 0)]), none⟩]
def s133_1 : List GI := [⟨(some 3), .wr (.alloc [.lf (.int .i64 0), .lf (.int .i64 0), .lf (.int .i64 0)]), none⟩]
def s133_2 : List GI := [⟨(some 4), .rd (.fad 0 (.t 1)), none⟩,
  ⟨(some 5), .rd (.load none (.t 4)), none⟩,
  ⟨(some 6), .rd (.fad 0 (.t 3)), none⟩,
  ⟨none, .wr (.store 1 (.t 6) (.t 5)), none⟩]
def s133_3 : List GI := [⟨(some 7), .rd (.fad 1 (.t 1)), none⟩,
  ⟨(some 8), .rd (.load none (.t 7)), none⟩,
  ⟨(some 9), .rd (.fad 1 (.t 3)), none⟩,
  ⟨none, .wr (.store 1 (.t 9) (.t 8)), none⟩]
def s133_4 : List GI := [⟨(some 10), .rd (.fad 2 (.t 1)), none⟩,
  ⟨(some 11), .rd (.load none (.t 10)), none⟩,
  ⟨(some 12), .rd (.fad 2 (.t 3)), none⟩,
  ⟨none, .wr (.store 1 (.t 12) (.t 11)), none⟩]
def s133_5 : List GI := [⟨(some 13), .rd (.load (some 3) (.t 3)), none⟩,
  ⟨none, .wr (.store 3 (.t 2) (.t 13)), none⟩]
def s133 : Stm := (.seq (.reg s133_0) (.seq (.reg s133_1) (.seq (.reg s133_2) (.seq (.reg s133_3) (.seq (.reg s133_4) (.seq (.reg s133_5) .ret))))))
theorem tr133 : (Try.f133.body.bind (trC Try.prog Try.f133.ntmps)) = some s133 := by kernel_rfl
-- loop.example/g00475/spec.MarkAt
def s48_0 : List GI := [⟨(some 2), .wr (.box (.t 0)), none⟩,
  ⟨(some 4), .wr (.alloc [.lf (.int .i64 0), .lf (.int .i64 0), .lf (.int .i64 0)]), none⟩,
  ⟨(some 5), .rd (.mv (.k (.a (.c (.lf (.bool false)))))), none⟩]
def s48_1 : List GI := [⟨(some 6), .rd (.mv (.k (.a (.c (.lf (.int .i64 0)))))), none⟩]
def s48_2 : List GI := [⟨(some 7), .rd (.mv (.t 6)), none⟩,
  ⟨(some 8), .rd (.fad 2 (.t 2)), none⟩,
  ⟨(some 9), .rd (.load none (.t 8)), none⟩,
  ⟨(some 10), .rd (.len (.t 9)), none⟩,
  ⟨(some 11), .rd (.bin .lss (.t 7) (.t 10)), none⟩]
def s48_4 : List GI := [⟨(some 14), .rd (.fad 2 (.t 2)), none⟩,
  ⟨(some 15), .rd (.load none (.t 14)), none⟩,
  ⟨(some 16), .rd (.mv (.t 6)), none⟩,
  ⟨(some 17), .rd (.iad 3 (.t 15) (.t 16)), none⟩,
  ⟨(some 18), .rd (.fad 0 (.t 17)), none⟩,
  ⟨(some 19), .rd (.load none (.t 18)), none⟩,
  ⟨(some 20), .rd (.mv (.t 1)), none⟩,
  ⟨(some 21), .rd (.bin .eql (.t 19) (.t 20)), none⟩]
def s48_5 : List GI := [⟨(some 22), .rd (.fad 2 (.t 2)), none⟩,
  ⟨(some 23), .rd (.load none (.t 22)), none⟩,
  ⟨(some 24), .rd (.mv (.t 6)), none⟩,
  ⟨(some 25), .rd (.iad 3 (.t 23) (.t 24)), none⟩,
  ⟨(some 26), .rd (.load (some 3) (.t 25)), none⟩,
  ⟨none, .wr (.store 3 (.t 4) (.t 26)), none⟩,
  ⟨(some 5), .rd (.mv (.k (.a (.c (.lf (.bool true)))))), none⟩]
def s48_3 : List GI := [⟨(some 12), .rd (.mv (.t 6)), none⟩,
  ⟨(some 13), .rd (.bin .add (.t 12) (.k (.a (.c (.lf (.int .i64 1)))))), none⟩,
  ⟨(some 6), .rd (.mv (.t 13)), none⟩]
def s48_6 : List GI := [⟨(some 27), .rd (.build [.lf (.int .i64 0), .lf (.int .i64 0), .lf (.int .i64 0)] []), none⟩,
  ⟨none, .wr (.store 3 (.t 4) (.t 27)), none⟩,
  ⟨(some 5), .rd (.mv (.k (.a (.c (.lf (.bool false)))))), none⟩]
def s48 : Stm := (.seq (.reg s48_0) (.seq (.seq (.reg s48_1) (.block 0 (.loop (.seq (.seq (.reg s48_2) (.cond (.t 11) .skip (.exit 0))) (.seq (.block 1 (.seq (.reg s48_4) (.cond (.t 21) (.seq (.reg s48_5) .ret) .skip))) (.reg s48_3)))))) (.seq (.reg s48_6) .ret)))
theorem tr48 : (Try.f48.body.bind (trC Try.prog Try.f48.ntmps)) = some s48 := by kernel_rfl
-- loop.example/g00475/impl.MarkAt
def s50_0 : List GI := [⟨(some 2), .wr (.box (.t 0)), none⟩,
  ⟨(some 4), .wr (.alloc [.lf (.int .i64 0), .lf (.int .i64 0), .lf (.int .i64 0)]), none⟩,
  ⟨(some 5), .rd (.mv (.k (.a (.c (.lf (.bool false)))))), none⟩]
def s50_1 : List GI := [⟨(some 8), .rd (.fad 2 (.t 2)), none⟩,
  ⟨(some 9), .rd (.load none (.t 8)), none⟩,
  ⟨(some 10), .rd (.len (.t 9)), none⟩,
  ⟨(some 11), .rd (.mv (.k (.a (.c (.lf (.int .i64 0)))))), none⟩]
def s50_2 : List GI := [⟨(some 12), .rd (.bin .lss (.t 11) (.t 10)), none⟩]
def s50_3 : List GI := [⟨(some 13), .rd (.iad 3 (.t 9) (.t 11)), none⟩,
  ⟨(some 14), .rd (.load (some 3) (.t 13)), none⟩,
  ⟨(some 7), .wr (.alloc [.lf (.int .i64 0), .lf (.int .i64 0), .lf (.int .i64 0)]), none⟩,
  ⟨none, .wr (.store 3 (.t 7) (.t 14)), none⟩]
def s50_4 : List GI := [⟨(some 15), .rd (.fad 0 (.t 7)), none⟩,
  ⟨(some 16), .rd (.load none (.t 15)), none⟩,
  ⟨(some 17), .rd (.mv (.t 1)), none⟩,
  ⟨(some 18), .rd (.bin .eql (.t 16) (.t 17)), none⟩]
def s50_5 : List GI := [⟨(some 19), .rd (.load (some 3) (.t 7)), none⟩,
  ⟨none, .wr (.store 3 (.t 4) (.t 19)), none⟩,
  ⟨(some 5), .rd (.mv (.k (.a (.c (.lf (.bool true)))))), none⟩]
def s50_6 : List GI := [⟨(some 20), .rd (.bin .add (.t 11) (.k (.a (.c (.lf (.int .i64 1)))))), none⟩,
  ⟨(some 11), .rd (.mv (.t 20)), none⟩]
def s50_7 : List GI := [⟨(some 21), .rd (.build [.lf (.int .i64 0), .lf (.int .i64 0), .lf (.int .i64 0)] []), none⟩,
  ⟨none, .wr (.store 3 (.t 4) (.t 21)), none⟩,
  ⟨(some 5), .rd (.mv (.k (.a (.c (.lf (.bool false)))))), none⟩]
def s50 : Stm := (.seq (.reg s50_0) (.seq (.seq (.reg s50_1) (.block 0 (.loop (.seq (.reg s50_2) (.seq (.cond (.t 12) .skip (.exit 0)) (.seq (.block 1 (.seq (.reg s50_3) (.seq (.reg s50_4) (.cond (.t 18) (.seq (.reg s50_5) .ret) .skip)))) (.reg s50_6))))))) (.seq (.reg s50_7) .ret)))
theorem tr50 : (Try.f50.body.bind (trC Try.prog Try.f50.ntmps)) = some s50 := by kernel_rfl
-- loop.example/g00475/laws.eqMark
def s51_0 : List GI := [⟨(some 2), .wr (.box (.t 0)), none⟩,
  ⟨(some 3), .wr (.box (.t 1)), none⟩,
  ⟨(some 4), .rd (.mv (.k (.a (.c (.lf (.bool false)))))), none⟩]
def s51_1 : List GI := [⟨(some 5), .rd (.fad 0 (.t 2)), none⟩,
  ⟨(some 6), .rd (.load none (.t 5)), none⟩,
  ⟨(some 7), .rd (.fad 0 (.t 3)), none⟩,
  ⟨(some 8), .rd (.load none (.t 7)), none⟩,
  ⟨(some 9), .rd (.bin .neq (.t 6) (.t 8)), none⟩]
def s51_2 : List GI := [⟨(some 4), .rd (.mv (.k (.a (.c (.lf (.bool false)))))), none⟩]
def s51_3 : List GI := [⟨(some 10), .rd (.fad 1 (.t 2)), none⟩,
  ⟨(some 11), .rd (.load none (.t 10)), none⟩,
  ⟨(some 12), .rd (.fad 1 (.t 3)), none⟩,
  ⟨(some 13), .rd (.load none (.t 12)), none⟩,
  ⟨(some 14), .rd (.bin .neq (.t 11) (.t 13)), none⟩]
def s51_4 : List GI := [⟨(some 4), .rd (.mv (.k (.a (.c (.lf (.bool false)))))), none⟩]
def s51_5 : List GI := [⟨(some 15), .rd (.fad 2 (.t 2)), none⟩,
  ⟨(some 16), .rd (.load none (.t 15)), none⟩,
  ⟨(some 17), .rd (.fad 2 (.t 3)), none⟩,
  ⟨(some 18), .rd (.load none (.t 17)), none⟩,
  ⟨(some 19), .rd (.bin .neq (.t 16) (.t 18)), none⟩]
def s51_6 : List GI := [⟨(some 4), .rd (.mv (.k (.a (.c (.lf (.bool false)))))), none⟩]
def s51_7 : List GI := [⟨(some 4), .rd (.mv (.k (.a (.c (.lf (.bool true)))))), none⟩]
def s51 : Stm := (.seq (.reg s51_0) (.seq (.seq (.reg s51_1) (.cond (.t 9) (.seq (.reg s51_2) .ret) .skip)) (.seq (.seq (.reg s51_3) (.cond (.t 14) (.seq (.reg s51_4) .ret) .skip)) (.seq (.seq (.reg s51_5) (.cond (.t 19) (.seq (.reg s51_6) .ret) .skip)) (.seq (.reg s51_7) .ret)))))
theorem tr51 : (Try.f51.body.bind (trC Try.prog Try.f51.ntmps)) = some s51 := by kernel_rfl
-- loop.example/g00475/laws.eqTab
def s52_0 : List GI := [⟨(some 2), .wr (.box (.t 0)), none⟩,
  ⟨(some 3), .wr (.box (.t 1)), none⟩,
  ⟨(some 4), .rd (.mv (.k (.a (.c (.lf (.bool false)))))), none⟩]
def s52_1 : List GI := [⟨(some 5), .rd (.fad 0 (.t 2)), none⟩,
  ⟨(some 6), .rd (.load none (.t 5)), none⟩,
  ⟨(some 7), .rd (.fad 0 (.t 3)), none⟩,
  ⟨(some 8), .rd (.load none (.t 7)), none⟩,
  ⟨(some 9), .wr (.call 106 [(.t 6), (.t 8)]), none⟩,
  ⟨(some 10), .rd (.un .not (.t 9)), none⟩]
def s52_2 : List GI := [⟨(some 4), .rd (.mv (.k (.a (.c (.lf (.bool false)))))), none⟩]
def s52_3 : List GI := [⟨(some 11), .rd (.fad 1 (.t 2)), none⟩,
  ⟨(some 12), .rd (.load none (.t 11)), none⟩,
  ⟨(some 13), .rd (.fad 1 (.t 3)), none⟩,
  ⟨(some 14), .rd (.load none (.t 13)), none⟩,
  ⟨(some 15), .rd (.bin .neq (.t 12) (.t 14)), none⟩]
def s52_4 : List GI := [⟨(some 4), .rd (.mv (.k (.a (.c (.lf (.bool false)))))), none⟩]
def s52_5 : List GI := [⟨(some 16), .rd (.fad 2 (.t 2)), none⟩,
  ⟨(some 17), .rd (.load none (.t 16)), none⟩,
  ⟨(some 18), .rd (.fad 2 (.t 3)), none⟩,
  ⟨(some 19), .rd (.load none (.t 18)), none⟩,
  ⟨(some 20), .wr (.call 107 [(.t 17), (.t 19)]), none⟩,
  ⟨(some 21), .rd (.un .not (.t 20)), none⟩]
def s52_6 : List GI := [⟨(some 4), .rd (.mv (.k (.a (.c (.lf (.bool false)))))), none⟩]
def s52_7 : List GI := [⟨(some 4), .rd (.mv (.k (.a (.c (.lf (.bool true)))))), none⟩]
def s52 : Stm := (.seq (.reg s52_0) (.seq (.seq (.reg s52_1) (.cond (.t 10) (.seq (.reg s52_2) .ret) .skip)) (.seq (.seq (.reg s52_3) (.cond (.t 15) (.seq (.reg s52_4) .ret) .skip)) (.seq (.seq (.reg s52_5) (.cond (.t 21) (.seq (.reg s52_6) .ret) .skip)) (.seq (.reg s52_7) .ret)))))
theorem tr52 : (Try.f52.body.bind (trC Try.prog Try.f52.ntmps)) = some s52 := by kernel_rfl
-- loop.example/g00475/laws.eqRowS
def s106_0 : List GI := [⟨(some 4), .rd (.mv (.k (.a (.c (.lf (.bool false)))))), none⟩]
def s106_1 : List GI := [⟨(some 6), .rd (.mv (.t 0)), none⟩,
  ⟨(some 7), .rd (.len (.t 6)), none⟩,
  ⟨(some 8), .rd (.mv (.t 1)), none⟩,
  ⟨(some 9), .rd (.len (.t 8)), none⟩,
  ⟨(some 10), .rd (.bin .neq (.t 7) (.t 9)), none⟩]
def s106_2 : List GI := [⟨(some 4), .rd (.mv (.k (.a (.c (.lf (.bool false)))))), none⟩]
def s106_3 : List GI := [⟨(some 5), .rd (.mv (.k (.a (.c (.lf (.int .i64 0)))))), none⟩]
def s106_4 : List GI := [⟨(some 11), .rd (.mv (.t 5)), none⟩,
  ⟨(some 12), .rd (.mv (.t 0)), none⟩,
  ⟨(some 13), .rd (.len (.t 12)), none⟩,
  ⟨(some 14), .rd (.bin .lss (.t 11) (.t 13)), none⟩]
def s106_6 : List DI := [⟨⟨(some 17), .rd (.mv (.t 0)), none⟩, [], false, 0, 0⟩,
  ⟨⟨(some 18), .rd (.mv (.t 5)), none⟩, [], false, 0, 0⟩,
  ⟨⟨(some 19), .rd (.iad 7 (.t 17) (.t 18)), none⟩, [0, 1], false, 0, 0⟩,
  ⟨⟨(some 20), .rd (.load (some 7) (.t 19)), none⟩, [2, 0, 1], false, 0, 0⟩,
  ⟨⟨(some 21), .rd (.mv (.t 1)), none⟩, [], false, 0, 0⟩,
  ⟨⟨(some 22), .rd (.mv (.t 5)), none⟩, [], false, 0, 0⟩,
  ⟨⟨(some 23), .rd (.iad 7 (.t 21) (.t 22)), none⟩, [4, 5], false, 0, 0⟩,
  ⟨⟨(some 24), .rd (.load (some 7) (.t 23)), none⟩, [6, 4, 5], false, 0, 0⟩,
  ⟨⟨(some 25), .wr (.call 134 [(.t 20), (.t 24)]), none⟩, [3, 7, 2, 0, 1, 6, 4, 5], true, 0, 0⟩,
  ⟨⟨(some 26), .rd (.un .not (.t 25)), none⟩, [8, 3, 7, 2, 0, 1, 6, 4, 5], false, 1, 1⟩]
def s106_7 : List GI := [⟨(some 4), .rd (.mv (.k (.a (.c (.lf (.bool false)))))), none⟩]
def s106_5 : List GI := [⟨(some 15), .rd (.mv (.t 5)), none⟩,
  ⟨(some 16), .rd (.bin .add (.t 15) (.k (.a (.c (.lf (.int .i64 1)))))), none⟩,
  ⟨(some 5), .rd (.mv (.t 16)), none⟩]
def s106_8 : List GI := [⟨(some 4), .rd (.mv (.k (.a (.c (.lf (.bool true)))))), none⟩]
def s106 : Stm := (.seq (.reg s106_0) (.seq (.seq (.reg s106_1) (.cond (.t 10) (.seq (.reg s106_2) .ret) .skip)) (.seq (.seq (.reg s106_3) (.block 0 (.loop (.seq (.seq (.reg s106_4) (.cond (.t 14) .skip (.exit 0))) (.seq (.block 1 (.seq (.drw s106_6) (.cond (.t 26) (.seq (.reg s106_7) .ret) .skip))) (.reg s106_5)))))) (.seq (.reg s106_8) .ret))))
theorem tr106 : (Try.f106.body.bind (trC Try.prog Try.f106.ntmps)) = some s106 := by kernel_rfl
-- loop.example/g00475/laws.eqMarkS
def s107_0 : List GI := [⟨(some 4), .rd (.mv (.k (.a (.c (.lf (.bool false)))))), none⟩]
def s107_1 : List GI := [⟨(some 6), .rd (.mv (.t 0)), none⟩,
  ⟨(some 7), .rd (.len (.t 6)), none⟩,
  ⟨(some 8), .rd (.mv (.t 1)), none⟩,
  ⟨(some 9), .rd (.len (.t 8)), none⟩,
  ⟨(some 10), .rd (.bin .neq (.t 7) (.t 9)), none⟩]
def s107_2 : List GI := [⟨(some 4), .rd (.mv (.k (.a (.c (.lf (.bool false)))))), none⟩]
def s107_3 : List GI := [⟨(some 5), .rd (.mv (.k (.a (.c (.lf (.int .i64 0)))))), none⟩]
def s107_4 : List GI := [⟨(some 11), .rd (.mv (.t 5)), none⟩,
  ⟨(some 12), .rd (.mv (.t 0)), none⟩,
  ⟨(some 13), .rd (.len (.t 12)), none⟩,
  ⟨(some 14), .rd (.bin .lss (.t 11) (.t 13)), none⟩]
def s107_6 : List DI := [⟨⟨(some 17), .rd (.mv (.t 0)), none⟩, [], false, 0, 0⟩,
  ⟨⟨(some 18), .rd (.mv (.t 5)), none⟩, [], false, 0, 0⟩,
  ⟨⟨(some 19), .rd (.iad 3 (.t 17) (.t 18)), none⟩, [0, 1], false, 0, 0⟩,
  ⟨⟨(some 20), .rd (.load (some 3) (.t 19)), none⟩, [2, 0, 1], false, 0, 0⟩,
  ⟨⟨(some 21), .rd (.mv (.t 1)), none⟩, [], false, 0, 0⟩,
  ⟨⟨(some 22), .rd (.mv (.t 5)), none⟩, [], false, 0, 0⟩,
  ⟨⟨(some 23), .rd (.iad 3 (.t 21) (.t 22)), none⟩, [4, 5], false, 0, 0⟩,
  ⟨⟨(some 24), .rd (.load (some 3) (.t 23)), none⟩, [6, 4, 5], false, 0, 0⟩,
  ⟨⟨(some 25), .wr (.call 51 [(.t 20), (.t 24)]), none⟩, [3, 7, 2, 0, 1, 6, 4, 5], true, 0, 0⟩,
  ⟨⟨(some 26), .rd (.un .not (.t 25)), none⟩, [8, 3, 7, 2, 0, 1, 6, 4, 5], false, 1, 1⟩]
def s107_7 : List GI := [⟨(some 4), .rd (.mv (.k (.a (.c (.lf (.bool false)))))), none⟩]
def s107_5 : List GI := [⟨(some 15), .rd (.mv (.t 5)), none⟩,
  ⟨(some 16), .rd (.bin .add (.t 15) (.k (.a (.c (.lf (.int .i64 1)))))), none⟩,
  ⟨(some 5), .rd (.mv (.t 16)), none⟩]
def s107_8 : List GI := [⟨(some 4), .rd (.mv (.k (.a (.c (.lf (.bool true)))))), none⟩]
def s107 : Stm := (.seq (.reg s107_0) (.seq (.seq (.reg s107_1) (.cond (.t 10) (.seq (.reg s107_2) .ret) .skip)) (.seq (.seq (.reg s107_3) (.block 0 (.loop (.seq (.seq (.reg s107_4) (.cond (.t 14) .skip (.exit 0))) (.seq (.block 1 (.seq (.drw s107_6) (.cond (.t 26) (.seq (.reg s107_7) .ret) .skip))) (.reg s107_5)))))) (.seq (.reg s107_8) .ret))))
theorem tr107 : (Try.f107.body.bind (trC Try.prog Try.f107.ntmps)) = some s107 := by kernel_rfl
-- loop.example/g00475/laws.eqRow
def s134_0 : List GI := [⟨(some 2), .wr (.box (.t 0)), none⟩,
  ⟨(some 3), .wr (.box (.t 1)), none⟩,
  ⟨(some 4), .rd (.mv (.k (.a (.c (.lf (.bool false)))))), none⟩]
def s134_1 : List GI := [⟨(some 5), .rd (.fad 0 (.t 2)), none⟩,
  ⟨(some 6), .rd (.load none (.t 5)), none⟩,
  ⟨(some 7), .rd (.fad 0 (.t 3)), none⟩,
  ⟨(some 8), .rd (.load none (.t 7)), none⟩,
  ⟨(some 9), .rd (.bin .neq (.t 6) (.t 8)), none⟩]
def s134_2 : List GI := [⟨(some 4), .rd (.mv (.k (.a (.c (.lf (.bool false)))))), none⟩]
def s134_3 : List GI := [⟨(some 10), .rd (.fad 1 (.t 2)), none⟩,
  ⟨(some 11), .rd (.load (some 2) (.t 10)), none⟩,
  ⟨(some 12), .rd (.fad 1 (.t 3)), none⟩,
  ⟨(some 13), .rd (.load (some 2) (.t 12)), none⟩,
  ⟨(some 14), .wr (.call 142 [(.t 11), (.t 13)]), none⟩,
  ⟨(some 15), .rd (.un .not (.t 14)), none⟩]
def s134_4 : List GI := [⟨(some 4), .rd (.mv (.k (.a (.c (.lf (.bool false)))))), none⟩]
def s134_5 : List GI := [⟨(some 16), .rd (.fad 3 (.t 2)), none⟩,
  ⟨(some 17), .rd (.load (some 2) (.t 16)), none⟩,
  ⟨(some 18), .rd (.fad 3 (.t 3)), none⟩,
  ⟨(some 19), .rd (.load (some 2) (.t 18)), none⟩,
  ⟨(some 20), .wr (.call 142 [(.t 17), (.t 19)]), none⟩,
  ⟨(some 21), .rd (.un .not (.t 20)), none⟩]
def s134_6 : List GI := [⟨(some 4), .rd (.mv (.k (.a (.c (.lf (.bool false)))))), none⟩]
def s134_7 : List GI := [⟨(some 22), .rd (.fad 5 (.t 2)), none⟩,
  ⟨(some 23), .rd (.load none (.t 22)), none⟩,
  ⟨(some 24), .rd (.fad 5 (.t 3)), none⟩,
  ⟨(some 25), .rd (.load none (.t 24)), none⟩,
  ⟨(some 26), .rd (.bin .neq (.t 23) (.t 25)), none⟩]
def s134_8 : List GI := [⟨(some 4), .rd (.mv (.k (.a (.c (.lf (.bool false)))))), none⟩]
def s134_9 : List GI := [⟨(some 27), .rd (.fad 6 (.t 2)), none⟩,
  ⟨(some 28), .rd (.load none (.t 27)), none⟩,
  ⟨(some 29), .rd (.fad 6 (.t 3)), none⟩,
  ⟨(some 30), .rd (.load none (.t 29)), none⟩,
  ⟨(some 31), .rd (.beq true (.t 28) (.t 30)), none⟩]
def s134_10 : List GI := [⟨(some 4), .rd (.mv (.k (.a (.c (.lf (.bool false)))))), none⟩]
def s134_11 : List GI := [⟨(some 4), .rd (.mv (.k (.a (.c (.lf (.bool true)))))), none⟩]
def s134 : Stm := (.seq (.reg s134_0) (.seq (.seq (.reg s134_1) (.cond (.t 9) (.seq (.reg s134_2) .ret) .skip)) (.seq (.seq (.reg s134_3) (.cond (.t 15) (.seq (.reg s134_4) .ret) .skip)) (.seq (.seq (.reg s134_5) (.cond (.t 21) (.seq (.reg s134_6) .ret) .skip)) (.seq (.seq (.reg s134_7) (.cond (.t 26) (.seq (.reg s134_8) .ret) .skip)) (.seq (.seq (.reg s134_9) (.cond (.t 31) (.seq (.reg s134_10) .ret) .skip)) (.seq (.reg s134_11) .ret)))))))
theorem tr134 : (Try.f134.body.bind (trC Try.prog Try.f134.ntmps)) = some s134 := by kernel_rfl
-- loop.example/g00475/laws.eqCell
def s142_0 : List GI := [⟨(some 2), .wr (.box (.t 0)), none⟩,
  ⟨(some 3), .wr (.box (.t 1)), none⟩,
  ⟨(some 4), .rd (.mv (.k (.a (.c (.lf (.bool false)))))), none⟩]
def s142_1 : List GI := [⟨(some 5), .rd (.fad 0 (.t 2)), none⟩,
  ⟨(some 6), .rd (.load none (.t 5)), none⟩,
  ⟨(some 7), .rd (.fad 0 (.t 3)), none⟩,
  ⟨(some 8), .rd (.load none (.t 7)), none⟩,
  ⟨(some 9), .rd (.bin .neq (.t 6) (.t 8)), none⟩]
def s142_2 : List GI := [⟨(some 4), .rd (.mv (.k (.a (.c (.lf (.bool false)))))), none⟩]
def s142_3 : List GI := [⟨(some 10), .rd (.fad 1 (.t 2)), none⟩,
  ⟨(some 11), .rd (.load none (.t 10)), none⟩,
  ⟨(some 12), .rd (.fad 1 (.t 3)), none⟩,
  ⟨(some 13), .rd (.load none (.t 12)), none⟩,
  ⟨(some 14), .wr (.call 23 [(.t 11), (.t 13)]), none⟩,
  ⟨(some 15), .rd (.un .not (.t 14)), none⟩]
def s142_4 : List GI := [⟨(some 4), .rd (.mv (.k (.a (.c (.lf (.bool false)))))), none⟩]
def s142_5 : List GI := [⟨(some 4), .rd (.mv (.k (.a (.c (.lf (.bool true)))))), none⟩]
def s142 : Stm := (.seq (.reg s142_0) (.seq (.seq (.reg s142_1) (.cond (.t 9) (.seq (.reg s142_2) .ret) .skip)) (.seq (.seq (.reg s142_3) (.cond (.t 15) (.seq (.reg s142_4) .ret) .skip)) (.seq (.reg s142_5) .ret))))
theorem tr142 : (Try.f142.body.bind (trC Try.prog Try.f142.ntmps)) = some s142 := by kernel_rfl
-- loop.example/g00475/laws.FnExactMarkAt
def s10_0 : List GI := [⟨(some 2), .wr (.box (.t 0)), none⟩,
  ⟨(some 4), .rd (.mv (.k (.a (.c (.lf (.bool false)))))), none⟩]
def s10_1 : List GI := [⟨(some 5), .rd (.mv (.k (.a (.c (.lf (.int .i64 1048576)))))), none⟩]
def s10_2 : List GI := [⟨(some 11), .rd (.load (some 3) (.t 2)), none⟩,
  ⟨(some 12), .rd (.mv (.t 5)), none⟩,
  ⟨(some 13), .wr (.call 47 [(.t 11), (.t 12)]), none⟩,
  ⟨(some 5), .rd (.mv (.t 13)), none⟩]
def s10_3 : List GI := [⟨(some 14), .rd (.mv (.t 5)), none⟩,
  ⟨(some 15), .rd (.bin .lss (.t 14) (.k (.a (.c (.lf (.int .i64 0)))))), none⟩]
def s10_4 : List GI := [⟨(some 4), .rd (.mv (.k (.a (.c (.lf (.bool true)))))), none⟩]
def s10_5 : List GI := [⟨(some 17), .rd (.load (some 3) (.t 2)), none⟩,
  ⟨(some 18), .wr (.call 49 [(.t 17)]), none⟩,
  ⟨(some 19), .rd (.mv (.t 1)), none⟩,
  ⟨(some 20), .wr (.call 48 [(.t 18), (.t 19)]), none⟩,
  ⟨(some 16), .rd (.mv (.t 20)), none⟩,
  ⟨(some 21), .rd (.ext 0 (.t 16)), none⟩,
  ⟨(some 22), .rd (.ext 1 (.t 16)), none⟩,
  ⟨(some 6), .wr (.alloc [.lf (.int .i64 0), .lf (.int .i64 0), .lf (.int .i64 0)]), none⟩,
  ⟨none, .wr (.store 3 (.t 6) (.t 21)), none⟩,
  ⟨(some 7), .rd (.mv (.t 22)), none⟩]
def s10_6 : List GI := [⟨(some 23), .rd (.load (some 3) (.t 2)), none⟩,
  ⟨(some 24), .wr (.call 49 [(.t 23)]), none⟩,
  ⟨(some 8), .wr (.alloc [.nl 7, .lf (.int .i64 0), .nl 3]), none⟩,
  ⟨none, .wr (.store 3 (.t 8) (.t 24)), none⟩]
def s10_7 : List GI := [⟨(some 26), .rd (.load (some 3) (.t 8)), none⟩,
  ⟨(some 27), .rd (.mv (.t 1)), none⟩,
  ⟨(some 28), .wr (.call 50 [(.t 26), (.t 27)]), none⟩,
  ⟨(some 25), .rd (.mv (.t 28)), none⟩,
  ⟨(some 29), .rd (.ext 0 (.t 25)), none⟩,
  ⟨(some 30), .rd (.ext 1 (.t 25)), none⟩,
  ⟨(some 9), .wr (.alloc [.lf (.int .i64 0), .lf (.int .i64 0), .lf (.int .i64 0)]), none⟩,
  ⟨none, .wr (.store 3 (.t 9) (.t 29)), none⟩,
  ⟨(some 10), .rd (.mv (.t 30)), none⟩]
def s10_8 : List GI := [⟨(some 31), .rd (.load (some 3) (.t 9)), none⟩,
  ⟨(some 32), .rd (.load (some 3) (.t 6)), none⟩,
  ⟨(some 33), .wr (.call 51 [(.t 31), (.t 32)]), none⟩,
  ⟨(some 34), .rd (.un .not (.t 33)), none⟩,
  ⟨(some 35), .rd (.mv (.t 34)), none⟩,
  ⟨(some 36), .rd (.mv (.t 10)), (some (35, false))⟩,
  ⟨(some 37), .rd (.mv (.t 7)), (some (35, false))⟩,
  ⟨(some 38), .rd (.beq true (.t 36) (.t 37)), (some (35, false))⟩,
  ⟨(some 39), .rd (.pick (.t 35) (.k (.a (.c (.lf (.bool true))))) (.t 38)), none⟩]
def s10_9 : List GI := [⟨(some 4), .rd (.mv (.k (.a (.c (.lf (.bool false)))))), none⟩]
def s10_10 : List DI := [⟨⟨(some 40), .rd (.load (some 3) (.t 8)), none⟩, [], false, 0, 1⟩,
  ⟨⟨(some 41), .rd (.load (some 3) (.t 2)), none⟩, [], false, 0, 0⟩,
  ⟨⟨(some 42), .wr (.call 49 [(.t 41)]), none⟩, [1], true, 0, 0⟩,
  ⟨⟨(some 43), .wr (.call 52 [(.t 40), (.t 42)]), none⟩, [0, 2, 1], true, 0, 0⟩,
  ⟨⟨(some 44), .rd (.un .not (.t 43)), none⟩, [3, 0, 2, 1], false, 2, 2⟩]
def s10_11 : List GI := [⟨(some 4), .rd (.mv (.k (.a (.c (.lf (.bool false)))))), none⟩]
def s10_12 : List GI := [⟨(some 4), .rd (.mv (.k (.a (.c (.lf (.bool true)))))), none⟩]
def s10 : Stm := (.seq (.reg s10_0) (.seq (.reg s10_1) (.seq (.reg s10_2) (.seq (.seq (.reg s10_3) (.cond (.t 15) (.seq (.reg s10_4) .ret) .skip)) (.seq (.reg s10_5) (.seq (.reg s10_6) (.seq (.reg s10_7) (.seq (.seq (.reg s10_8) (.cond (.t 39) (.seq (.reg s10_9) .ret) .skip)) (.seq (.seq (.drw s10_10) (.cond (.t 44) (.seq (.reg s10_11) .ret) .skip)) (.seq (.reg s10_12) .ret))))))))))
theorem tr10 : (Try.f10.body.bind (trC Try.prog Try.f10.ntmps)) = some s10 := by kernel_rfl
end Go.Proofs.Ytgbapgjdkoojdaa
