import Derived.Test.YtgbapgjdkoojdaaProg
import Derived.Test.YtgbapgjdkoojdaaVsW2
set_option linter.unusedVariables false
set_option linter.unusedSimpArgs false
namespace Go.Proofs.Ytgbapgjdkoojdaa
open Go.Vs
set_option maxRecDepth 100000
-- loop.example/g00475/spec.DevNew
def s29_0 : List GI := [⟨(some 2), .wr (.alloc [.nl 1, .nl 2, .lf (.int .i64 0), .lf (.bool false)]), none⟩]
def s29_1 : List GI := [⟨(some 5), .rd (.mv (.t 0)), none⟩,
  ⟨(some 6), .wr (.call 74 [(.t 5), (.k (.a (.c (.lf (.int .i64 1))))), (.k (.a (.c (.lf (.int .i64 64)))))]), none⟩,
  ⟨(some 7), .rd (.un .not (.t 6)), none⟩]
def s29_2 : List GI := [⟨(some 8), .rd (.build [.nl 1, .nl 2, .lf (.int .i64 0), .lf (.bool false)] []), none⟩,
  ⟨none, .wr (.store 4 (.t 2) (.t 8)), none⟩]
def s29_3 : List GI := [⟨(some 9), .rd (.build [.nl 1, .nl 2, .lf (.int .i64 0), .lf (.bool false)] [(2, 1, (.k (.a (.c (.lf (.int .i64 (-1)))))))]), none⟩,
  ⟨(some 3), .wr (.alloc [.nl 1, .nl 2, .lf (.int .i64 0), .lf (.bool false)]), none⟩,
  ⟨none, .wr (.store 4 (.t 3) (.t 9)), none⟩]
def s29_4 : List GI := [⟨(some 4), .rd (.mv (.k (.a (.c (.lf (.int .i64 0)))))), none⟩]
def s29_5 : List GI := [⟨(some 10), .rd (.mv (.t 4)), none⟩,
  ⟨(some 11), .rd (.mv (.t 0)), none⟩,
  ⟨(some 12), .rd (.bin .lss (.t 10) (.t 11)), none⟩]
def s29_7 : List GI := [⟨(some 15), .rd (.fad 0 (.t 3)), none⟩,
  ⟨(some 16), .rd (.load none (.t 15)), none⟩,
  ⟨(some 17), .wr (.lit 1 0 [.lf (.int .u8 0)] []), none⟩,
  ⟨(some 18), .wr (.lit 1 1 [.nl 1] [(0, (.t 17))]), none⟩,
  ⟨(some 19), .wr (.app 1 24 [.nl 1] (.t 16) (.t 18)), none⟩,
  ⟨(some 20), .rd (.fad 0 (.t 3)), none⟩,
  ⟨none, .wr (.store 1 (.t 20) (.t 19)), none⟩]
def s29_6 : List GI := [⟨(some 13), .rd (.mv (.t 4)), none⟩,
  ⟨(some 14), .rd (.bin .add (.t 13) (.k (.a (.c (.lf (.int .i64 1)))))), none⟩,
  ⟨(some 4), .rd (.mv (.t 14)), none⟩]
def s29_8 : List GI := [⟨(some 21), .rd (.load (some 4) (.t 3)), none⟩,
  ⟨none, .wr (.store 4 (.t 2) (.t 21)), none⟩]
def s29 : Stm := (.seq (.reg s29_0) (.seq (.seq (.reg s29_1) (.cond (.t 7) (.seq (.reg s29_2) .ret) .skip)) (.seq (.reg s29_3) (.seq (.seq (.reg s29_4) (.block 0 (.loop (.seq (.seq (.reg s29_5) (.cond (.t 12) .skip (.exit 0))) (.seq (.block 1 (.reg s29_7)) (.reg s29_6)))))) (.seq (.reg s29_8) .ret)))))
theorem tr29 : (Try.f29.body.bind (trC Try.prog Try.f29.ntmps)) = some s29 := by kernel_rfl
-- loop.example/g00475/impl.DevNew
def s30_0 : List GI := [⟨(some 2), .wr (.alloc [.nl 1, .nl 2, .lf (.int .i64 0), .lf (.bool false)]), none⟩]
def s30_1 : List GI := [⟨(some 3), .rd (.mv (.t 0)), none⟩,
  ⟨(some 4), .wr (.call 77 [(.t 3), (.k (.a (.c (.lf (.int .i64 1))))), (.k (.a (.c (.lf (.int .i64 64)))))]), none⟩,
  ⟨(some 5), .rd (.un .not (.t 4)), none⟩]
def s30_2 : List GI := [⟨(some 6), .rd (.build [.nl 1, .nl 2, .lf (.int .i64 0), .lf (.bool false)] []), none⟩,
  ⟨none, .wr (.store 4 (.t 2) (.t 6)), none⟩]
def s30_3 : List GI := [⟨(some 7), .rd (.mv (.t 0)), none⟩,
  ⟨(some 8), .wr (.mks 1 24 [.nl 1] (.t 7) (.t 7)), none⟩,
  ⟨(some 9), .rd (.build [.nl 1, .nl 2, .lf (.int .i64 0), .lf (.bool false)] [(0, 1, (.t 8)), (2, 1, (.k (.a (.c (.lf (.int .i64 (-1)))))))]), none⟩,
  ⟨none, .wr (.store 4 (.t 2) (.t 9)), none⟩]
def s30 : Stm := (.seq (.reg s30_0) (.seq (.seq (.reg s30_1) (.cond (.t 5) (.seq (.reg s30_2) .ret) .skip)) (.seq (.reg s30_3) .ret)))
theorem tr30 : (Try.f30.body.bind (trC Try.prog Try.f30.ntmps)) = some s30 := by kernel_rfl
-- loop.example/g00475/laws.eqDev
def s31_0 : List GI := [⟨(some 2), .wr (.box (.t 0)), none⟩,
  ⟨(some 3), .wr (.box (.t 1)), none⟩,
  ⟨(some 4), .rd (.mv (.k (.a (.c (.lf (.bool false)))))), none⟩]
def s31_1 : List GI := [⟨(some 5), .rd (.fad 0 (.t 2)), none⟩,
  ⟨(some 6), .rd (.load none (.t 5)), none⟩,
  ⟨(some 7), .rd (.fad 0 (.t 3)), none⟩,
  ⟨(some 8), .rd (.load none (.t 7)), none⟩,
  ⟨(some 9), .wr (.call 83 [(.t 6), (.t 8)]), none⟩,
  ⟨(some 10), .rd (.un .not (.t 9)), none⟩]
def s31_2 : List GI := [⟨(some 4), .rd (.mv (.k (.a (.c (.lf (.bool false)))))), none⟩]
def s31_3 : List GI := [⟨(some 11), .rd (.fad 1 (.t 2)), none⟩,
  ⟨(some 12), .rd (.load none (.t 11)), none⟩,
  ⟨(some 13), .rd (.fad 1 (.t 3)), none⟩,
  ⟨(some 14), .rd (.load none (.t 13)), none⟩,
  ⟨(some 15), .wr (.call 84 [(.t 12), (.t 14)]), none⟩,
  ⟨(some 16), .rd (.un .not (.t 15)), none⟩]
def s31_4 : List GI := [⟨(some 4), .rd (.mv (.k (.a (.c (.lf (.bool false)))))), none⟩]
def s31_5 : List GI := [⟨(some 17), .rd (.fad 2 (.t 2)), none⟩,
  ⟨(some 18), .rd (.load none (.t 17)), none⟩,
  ⟨(some 19), .rd (.fad 2 (.t 3)), none⟩,
  ⟨(some 20), .rd (.load none (.t 19)), none⟩,
  ⟨(some 21), .rd (.bin .neq (.t 18) (.t 20)), none⟩]
def s31_6 : List GI := [⟨(some 4), .rd (.mv (.k (.a (.c (.lf (.bool false)))))), none⟩]
def s31_7 : List GI := [⟨(some 22), .rd (.fad 3 (.t 2)), none⟩,
  ⟨(some 23), .rd (.load none (.t 22)), none⟩,
  ⟨(some 24), .rd (.fad 3 (.t 3)), none⟩,
  ⟨(some 25), .rd (.load none (.t 24)), none⟩,
  ⟨(some 26), .rd (.beq true (.t 23) (.t 25)), none⟩]
def s31_8 : List GI := [⟨(some 4), .rd (.mv (.k (.a (.c (.lf (.bool false)))))), none⟩]
def s31_9 : List GI := [⟨(some 4), .rd (.mv (.k (.a (.c (.lf (.bool true)))))), none⟩]
def s31 : Stm := (.seq (.reg s31_0) (.seq (.seq (.reg s31_1) (.cond (.t 10) (.seq (.reg s31_2) .ret) .skip)) (.seq (.seq (.reg s31_3) (.cond (.t 16) (.seq (.reg s31_4) .ret) .skip)) (.seq (.seq (.reg s31_5) (.cond (.t 21) (.seq (.reg s31_6) .ret) .skip)) (.seq (.seq (.reg s31_7) (.cond (.t 26) (.seq (.reg s31_8) .ret) .skip)) (.seq (.reg s31_9) .ret))))))
theorem tr31 : (Try.f31.body.bind (trC Try.prog Try.f31.ntmps)) = some s31 := by kernel_rfl
-- loop.example/g00475/laws.markDev
def s32_0 : List GI := [⟨(some 2), .wr (.box (.t 0)), none⟩,
  ⟨(some 4), .rd (.mv (.k (.a (.c (.lf (.int .i64 0)))))), none⟩]
def s32_1 : List GI := [⟨(some 5), .rd (.fad 0 (.t 2)), none⟩,
  ⟨(some 6), .rd (.load none (.t 5)), none⟩,
  ⟨(some 7), .rd (.mv (.t 1)), none⟩,
  ⟨(some 8), .wr (.call 85 [(.t 6), (.t 7)]), none⟩,
  ⟨(some 1), .rd (.mv (.t 8)), none⟩]
def s32_2 : List GI := [⟨(some 9), .rd (.fad 1 (.t 2)), none⟩,
  ⟨(some 10), .rd (.load none (.t 9)), none⟩,
  ⟨(some 11), .rd (.mv (.t 1)), none⟩,
  ⟨(some 12), .wr (.call 86 [(.t 10), (.t 11)]), none⟩,
  ⟨(some 1), .rd (.mv (.t 12)), none⟩]
def s32_3 : List GI := [⟨(some 13), .rd (.mv (.t 1)), none⟩,
  ⟨(some 4), .rd (.mv (.t 13)), none⟩]
def s32 : Stm := (.seq (.reg s32_0) (.seq (.reg s32_1) (.seq (.reg s32_2) (.seq (.reg s32_3) .ret))))
theorem tr32 : (Try.f32.body.bind (trC Try.prog Try.f32.ntmps)) = some s32 := by kernel_rfl
-- loop.example/g00475/laws.heldDev
def s33_0 : List GI := [⟨(some 2), .wr (.box (.t 0)), none⟩,
  ⟨(some 4), .rd (.mv (.k (.a (.c (.lf (.int .i64 0)))))), none⟩]
def s33_1 : List GI := [⟨(some 5), .rd (.fad 0 (.t 2)), none⟩,
  ⟨(some 6), .rd (.load none (.t 5)), none⟩,
  ⟨(some 7), .rd (.mv (.t 1)), none⟩,
  ⟨(some 8), .wr (.call 87 [(.t 6), (.t 7)]), none⟩,
  ⟨(some 1), .rd (.mv (.t 8)), none⟩]
def s33_2 : List GI := [⟨(some 9), .rd (.mv (.t 1)), none⟩,
  ⟨(some 10), .rd (.bin .lss (.t 9) (.k (.a (.c (.lf (.int .i64 0)))))), none⟩]
def s33_3 : List GI := [⟨(some 4), .rd (.mv (.k (.a (.c (.lf (.int .i64 (-1))))))), none⟩]
def s33_4 : List GI := [⟨(some 11), .rd (.fad 1 (.t 2)), none⟩,
  ⟨(some 12), .rd (.load none (.t 11)), none⟩,
  ⟨(some 13), .rd (.mv (.t 1)), none⟩,
  ⟨(some 14), .wr (.call 88 [(.t 12), (.t 13)]), none⟩,
  ⟨(some 1), .rd (.mv (.t 14)), none⟩]
def s33_5 : List GI := [⟨(some 15), .rd (.mv (.t 1)), none⟩,
  ⟨(some 16), .rd (.bin .lss (.t 15) (.k (.a (.c (.lf (.int .i64 0)))))), none⟩]
def s33_6 : List GI := [⟨(some 4), .rd (.mv (.k (.a (.c (.lf (.int .i64 (-1))))))), none⟩]
def s33_7 : List GI := [⟨(some 17), .rd (.mv (.t 1)), none⟩,
  ⟨(some 4), .rd (.mv (.t 17)), none⟩]
def s33 : Stm := (.seq (.reg s33_0) (.seq (.reg s33_1) (.seq (.seq (.reg s33_2) (.cond (.t 10) (.seq (.reg s33_3) .ret) .skip)) (.seq (.reg s33_4) (.seq (.seq (.reg s33_5) (.cond (.t 16) (.seq (.reg s33_6) .ret) .skip)) (.seq (.reg s33_7) .ret))))))
theorem tr33 : (Try.f33.body.bind (trC Try.prog Try.f33.ntmps)) = some s33 := by kernel_rfl
-- loop.example/g00475/laws.eqByteSS
def s83_0 : List GI := [⟨(some 4), .rd (.mv (.k (.a (.c (.lf (.bool false)))))), none⟩]
def s83_1 : List GI := [⟨(some 6), .rd (.mv (.t 0)), none⟩,
  ⟨(some 7), .rd (.len (.t 6)), none⟩,
  ⟨(some 8), .rd (.mv (.t 1)), none⟩,
  ⟨(some 9), .rd (.len (.t 8)), none⟩,
  ⟨(some 10), .rd (.bin .neq (.t 7) (.t 9)), none⟩]
def s83_2 : List GI := [⟨(some 4), .rd (.mv (.k (.a (.c (.lf (.bool false)))))), none⟩]
def s83_3 : List GI := [⟨(some 5), .rd (.mv (.k (.a (.c (.lf (.int .i64 0)))))), none⟩]
def s83_4 : List GI := [⟨(some 11), .rd (.mv (.t 5)), none⟩,
  ⟨(some 12), .rd (.mv (.t 0)), none⟩,
  ⟨(some 13), .rd (.len (.t 12)), none⟩,
  ⟨(some 14), .rd (.bin .lss (.t 11) (.t 13)), none⟩]
def s83_6 : List DI := [⟨⟨(some 17), .rd (.mv (.t 0)), none⟩, [], false, 0, 0⟩,
  ⟨⟨(some 18), .rd (.mv (.t 5)), none⟩, [], false, 0, 0⟩,
  ⟨⟨(some 19), .rd (.iad 1 (.t 17) (.t 18)), none⟩, [0, 1], false, 0, 0⟩,
  ⟨⟨(some 20), .rd (.load none (.t 19)), none⟩, [2, 0, 1], false, 0, 0⟩,
  ⟨⟨(some 21), .rd (.mv (.t 1)), none⟩, [], false, 0, 0⟩,
  ⟨⟨(some 22), .rd (.mv (.t 5)), none⟩, [], false, 0, 0⟩,
  ⟨⟨(some 23), .rd (.iad 1 (.t 21) (.t 22)), none⟩, [4, 5], false, 0, 0⟩,
  ⟨⟨(some 24), .rd (.load none (.t 23)), none⟩, [6, 4, 5], false, 0, 0⟩,
  ⟨⟨(some 25), .wr (.call 23 [(.t 20), (.t 24)]), none⟩, [3, 7, 2, 0, 1, 6, 4, 5], true, 0, 0⟩,
  ⟨⟨(some 26), .rd (.un .not (.t 25)), none⟩, [8, 3, 7, 2, 0, 1, 6, 4, 5], false, 1, 1⟩]
def s83_7 : List GI := [⟨(some 4), .rd (.mv (.k (.a (.c (.lf (.bool false)))))), none⟩]
def s83_5 : List GI := [⟨(some 15), .rd (.mv (.t 5)), none⟩,
  ⟨(some 16), .rd (.bin .add (.t 15) (.k (.a (.c (.lf (.int .i64 1)))))), none⟩,
  ⟨(some 5), .rd (.mv (.t 16)), none⟩]
def s83_8 : List GI := [⟨(some 4), .rd (.mv (.k (.a (.c (.lf (.bool true)))))), none⟩]
def s83 : Stm := (.seq (.reg s83_0) (.seq (.seq (.reg s83_1) (.cond (.t 10) (.seq (.reg s83_2) .ret) .skip)) (.seq (.seq (.reg s83_3) (.block 0 (.loop (.seq (.seq (.reg s83_4) (.cond (.t 14) .skip (.exit 0))) (.seq (.block 1 (.seq (.drw s83_6) (.cond (.t 26) (.seq (.reg s83_7) .ret) .skip))) (.reg s83_5)))))) (.seq (.reg s83_8) .ret))))
theorem tr83 : (Try.f83.body.bind (trC Try.prog Try.f83.ntmps)) = some s83 := by kernel_rfl
-- loop.example/g00475/laws.eqWrS
def s84_0 : List GI := [⟨(some 4), .rd (.mv (.k (.a (.c (.lf (.bool false)))))), none⟩]
def s84_1 : List GI := [⟨(some 6), .rd (.mv (.t 0)), none⟩,
  ⟨(some 7), .rd (.len (.t 6)), none⟩,
  ⟨(some 8), .rd (.mv (.t 1)), none⟩,
  ⟨(some 9), .rd (.len (.t 8)), none⟩,
  ⟨(some 10), .rd (.bin .neq (.t 7) (.t 9)), none⟩]
def s84_2 : List GI := [⟨(some 4), .rd (.mv (.k (.a (.c (.lf (.bool false)))))), none⟩]
def s84_3 : List GI := [⟨(some 5), .rd (.mv (.k (.a (.c (.lf (.int .i64 0)))))), none⟩]
def s84_4 : List GI := [⟨(some 11), .rd (.mv (.t 5)), none⟩,
  ⟨(some 12), .rd (.mv (.t 0)), none⟩,
  ⟨(some 13), .rd (.len (.t 12)), none⟩,
  ⟨(some 14), .rd (.bin .lss (.t 11) (.t 13)), none⟩]
def s84_6 : List DI := [⟨⟨(some 17), .rd (.mv (.t 0)), none⟩, [], false, 0, 0⟩,
  ⟨⟨(some 18), .rd (.mv (.t 5)), none⟩, [], false, 0, 0⟩,
  ⟨⟨(some 19), .rd (.iad 2 (.t 17) (.t 18)), none⟩, [0, 1], false, 0, 0⟩,
  ⟨⟨(some 20), .rd (.load (some 2) (.t 19)), none⟩, [2, 0, 1], false, 0, 0⟩,
  ⟨⟨(some 21), .rd (.mv (.t 1)), none⟩, [], false, 0, 0⟩,
  ⟨⟨(some 22), .rd (.mv (.t 5)), none⟩, [], false, 0, 0⟩,
  ⟨⟨(some 23), .rd (.iad 2 (.t 21) (.t 22)), none⟩, [4, 5], false, 0, 0⟩,
  ⟨⟨(some 24), .rd (.load (some 2) (.t 23)), none⟩, [6, 4, 5], false, 0, 0⟩,
  ⟨⟨(some 25), .wr (.call 126 [(.t 20), (.t 24)]), none⟩, [3, 7, 2, 0, 1, 6, 4, 5], true, 0, 0⟩,
  ⟨⟨(some 26), .rd (.un .not (.t 25)), none⟩, [8, 3, 7, 2, 0, 1, 6, 4, 5], false, 1, 1⟩]
def s84_7 : List GI := [⟨(some 4), .rd (.mv (.k (.a (.c (.lf (.bool false)))))), none⟩]
def s84_5 : List GI := [⟨(some 15), .rd (.mv (.t 5)), none⟩,
  ⟨(some 16), .rd (.bin .add (.t 15) (.k (.a (.c (.lf (.int .i64 1)))))), none⟩,
  ⟨(some 5), .rd (.mv (.t 16)), none⟩]
def s84_8 : List GI := [⟨(some 4), .rd (.mv (.k (.a (.c (.lf (.bool true)))))), none⟩]
def s84 : Stm := (.seq (.reg s84_0) (.seq (.seq (.reg s84_1) (.cond (.t 10) (.seq (.reg s84_2) .ret) .skip)) (.seq (.seq (.reg s84_3) (.block 0 (.loop (.seq (.seq (.reg s84_4) (.cond (.t 14) .skip (.exit 0))) (.seq (.block 1 (.seq (.drw s84_6) (.cond (.t 26) (.seq (.reg s84_7) .ret) .skip))) (.reg s84_5)))))) (.seq (.reg s84_8) .ret))))
theorem tr84 : (Try.f84.body.bind (trC Try.prog Try.f84.ntmps)) = some s84 := by kernel_rfl
-- loop.example/g00475/laws.eqWr
def s126_0 : List GI := [⟨(some 2), .wr (.box (.t 0)), none⟩,
  ⟨(some 3), .wr (.box (.t 1)), none⟩,
  ⟨(some 4), .rd (.mv (.k (.a (.c (.lf (.bool false)))))), none⟩]
def s126_1 : List GI := [⟨(some 5), .rd (.fad 0 (.t 2)), none⟩,
  ⟨(some 6), .rd (.load none (.t 5)), none⟩,
  ⟨(some 7), .rd (.fad 0 (.t 3)), none⟩,
  ⟨(some 8), .rd (.load none (.t 7)), none⟩,
  ⟨(some 9), .rd (.bin .neq (.t 6) (.t 8)), none⟩]
def s126_2 : List GI := [⟨(some 4), .rd (.mv (.k (.a (.c (.lf (.bool false)))))), none⟩]
def s126_3 : List GI := [⟨(some 10), .rd (.fad 1 (.t 2)), none⟩,
  ⟨(some 11), .rd (.load none (.t 10)), none⟩,
  ⟨(some 12), .rd (.fad 1 (.t 3)), none⟩,
  ⟨(some 13), .rd (.load none (.t 12)), none⟩,
  ⟨(some 14), .wr (.call 23 [(.t 11), (.t 13)]), none⟩,
  ⟨(some 15), .rd (.un .not (.t 14)), none⟩]
def s126_4 : List GI := [⟨(some 4), .rd (.mv (.k (.a (.c (.lf (.bool false)))))), none⟩]
def s126_5 : List GI := [⟨(some 4), .rd (.mv (.k (.a (.c (.lf (.bool true)))))), none⟩]
def s126 : Stm := (.seq (.reg s126_0) (.seq (.seq (.reg s126_1) (.cond (.t 9) (.seq (.reg s126_2) .ret) .skip)) (.seq (.seq (.reg s126_3) (.cond (.t 15) (.seq (.reg s126_4) .ret) .skip)) (.seq (.reg s126_5) .ret))))
theorem tr126 : (Try.f126.body.bind (trC Try.prog Try.f126.ntmps)) = some s126 := by kernel_rfl
-- loop.example/g00475/laws.markByteSS
def s85_0 : List GI := [⟨(some 4), .rd (.mv (.k (.a (.c (.lf (.int .i64 0)))))), none⟩]
def s85_1 : List GI := [⟨(some 5), .rd (.mv (.k (.a (.c (.lf (.int .i64 0)))))), none⟩]
def s85_2 : List GI := [⟨(some 6), .rd (.mv (.t 5)), none⟩,
  ⟨(some 7), .rd (.mv (.t 0)), none⟩,
  ⟨(some 8), .rd (.len (.t 7)), none⟩,
  ⟨(some 9), .rd (.bin .lss (.t 6) (.t 8)), none⟩]
def s85_4 : List GI := [⟨(some 12), .rd (.mv (.t 0)), none⟩,
  ⟨(some 13), .rd (.mv (.t 5)), none⟩,
  ⟨(some 14), .rd (.iad 1 (.t 12) (.t 13)), none⟩,
  ⟨(some 15), .rd (.load none (.t 14)), none⟩,
  ⟨(some 16), .rd (.mv (.t 1)), none⟩,
  ⟨(some 17), .wr (.call 24 [(.t 15), (.t 16)]), none⟩,
  ⟨(some 1), .rd (.mv (.t 17)), none⟩]
def s85_3 : List GI := [⟨(some 10), .rd (.mv (.t 5)), none⟩,
  ⟨(some 11), .rd (.bin .add (.t 10) (.k (.a (.c (.lf (.int .i64 1)))))), none⟩,
  ⟨(some 5), .rd (.mv (.t 11)), none⟩]
def s85_5 : List GI := [⟨(some 18), .rd (.mv (.t 1)), none⟩,
  ⟨(some 4), .rd (.mv (.t 18)), none⟩]
def s85 : Stm := (.seq (.reg s85_0) (.seq (.seq (.reg s85_1) (.block 0 (.loop (.seq (.seq (.reg s85_2) (.cond (.t 9) .skip (.exit 0))) (.seq (.block 1 (.reg s85_4)) (.reg s85_3)))))) (.seq (.reg s85_5) .ret)))
theorem tr85 : (Try.f85.body.bind (trC Try.prog Try.f85.ntmps)) = some s85 := by kernel_rfl
-- loop.example/g00475/laws.markWrS
def s86_0 : List GI := [⟨(some 4), .rd (.mv (.k (.a (.c (.lf (.int .i64 0)))))), none⟩]
def s86_1 : List GI := [⟨(some 5), .rd (.mv (.k (.a (.c (.lf (.int .i64 0)))))), none⟩]
def s86_2 : List GI := [⟨(some 6), .rd (.mv (.t 5)), none⟩,
  ⟨(some 7), .rd (.mv (.t 0)), none⟩,
  ⟨(some 8), .rd (.len (.t 7)), none⟩,
  ⟨(some 9), .rd (.bin .lss (.t 6) (.t 8)), none⟩]
def s86_4 : List GI := [⟨(some 12), .rd (.mv (.t 0)), none⟩,
  ⟨(some 13), .rd (.mv (.t 5)), none⟩,
  ⟨(some 14), .rd (.mv (.t 1)), none⟩,
  ⟨(some 15), .rd (.iad 2 (.t 12) (.t 13)), none⟩,
  ⟨(some 16), .rd (.fad 0 (.t 15)), none⟩,
  ⟨none, .wr (.store 1 (.t 16) (.t 14)), none⟩]
def s86_5 : List GI := [⟨(some 17), .rd (.mv (.t 1)), none⟩,
  ⟨(some 18), .rd (.bin .add (.t 17) (.k (.a (.c (.lf (.int .i64 1)))))), none⟩,
  ⟨(some 1), .rd (.mv (.t 18)), none⟩]
def s86_6 : List GI := [⟨(some 19), .rd (.mv (.t 0)), none⟩,
  ⟨(some 20), .rd (.mv (.t 5)), none⟩,
  ⟨(some 21), .rd (.iad 2 (.t 19) (.t 20)), none⟩,
  ⟨(some 22), .rd (.fad 1 (.t 21)), none⟩,
  ⟨(some 23), .rd (.load none (.t 22)), none⟩,
  ⟨(some 24), .rd (.mv (.t 1)), none⟩,
  ⟨(some 25), .wr (.call 24 [(.t 23), (.t 24)]), none⟩,
  ⟨(some 1), .rd (.mv (.t 25)), none⟩]
def s86_3 : List GI := [⟨(some 10), .rd (.mv (.t 5)), none⟩,
  ⟨(some 11), .rd (.bin .add (.t 10) (.k (.a (.c (.lf (.int .i64 1)))))), none⟩,
  ⟨(some 5), .rd (.mv (.t 11)), none⟩]
def s86_7 : List GI := [⟨(some 26), .rd (.mv (.t 1)), none⟩,
  ⟨(some 4), .rd (.mv (.t 26)), none⟩]
def s86 : Stm := (.seq (.reg s86_0) (.seq (.seq (.reg s86_1) (.block 0 (.loop (.seq (.seq (.reg s86_2) (.cond (.t 9) .skip (.exit 0))) (.seq (.block 1 (.seq (.reg s86_4) (.seq (.reg s86_5) (.reg s86_6)))) (.reg s86_3)))))) (.seq (.reg s86_7) .ret)))
theorem tr86 : (Try.f86.body.bind (trC Try.prog Try.f86.ntmps)) = some s86 := by kernel_rfl
-- loop.example/g00475/laws.heldByteSS
def s87_0 : List GI := [⟨(some 4), .rd (.mv (.k (.a (.c (.lf (.int .i64 0)))))), none⟩]
def s87_1 : List GI := [⟨(some 5), .rd (.mv (.k (.a (.c (.lf (.int .i64 0)))))), none⟩]
def s87_2 : List GI := [⟨(some 6), .rd (.mv (.t 5)), none⟩,
  ⟨(some 7), .rd (.mv (.t 0)), none⟩,
  ⟨(some 8), .rd (.len (.t 7)), none⟩,
  ⟨(some 9), .rd (.bin .lss (.t 6) (.t 8)), none⟩]
def s87_4 : List GI := [⟨(some 12), .rd (.mv (.t 0)), none⟩,
  ⟨(some 13), .rd (.mv (.t 5)), none⟩,
  ⟨(some 14), .rd (.iad 1 (.t 12) (.t 13)), none⟩,
  ⟨(some 15), .rd (.load none (.t 14)), none⟩,
  ⟨(some 16), .rd (.mv (.t 1)), none⟩,
  ⟨(some 17), .wr (.call 25 [(.t 15), (.t 16)]), none⟩,
  ⟨(some 1), .rd (.mv (.t 17)), none⟩]
def s87_5 : List GI := [⟨(some 18), .rd (.mv (.t 1)), none⟩,
  ⟨(some 19), .rd (.bin .lss (.t 18) (.k (.a (.c (.lf (.int .i64 0)))))), none⟩]
def s87_6 : List GI := [⟨(some 4), .rd (.mv (.k (.a (.c (.lf (.int .i64 (-1))))))), none⟩]
def s87_3 : List GI := [⟨(some 10), .rd (.mv (.t 5)), none⟩,
  ⟨(some 11), .rd (.bin .add (.t 10) (.k (.a (.c (.lf (.int .i64 1)))))), none⟩,
  ⟨(some 5), .rd (.mv (.t 11)), none⟩]
def s87_7 : List GI := [⟨(some 20), .rd (.mv (.t 1)), none⟩,
  ⟨(some 4), .rd (.mv (.t 20)), none⟩]
def s87 : Stm := (.seq (.reg s87_0) (.seq (.seq (.reg s87_1) (.block 0 (.loop (.seq (.seq (.reg s87_2) (.cond (.t 9) .skip (.exit 0))) (.seq (.block 1 (.seq (.reg s87_4) (.seq (.reg s87_5) (.cond (.t 19) (.seq (.reg s87_6) .ret) .skip)))) (.reg s87_3)))))) (.seq (.reg s87_7) .ret)))
theorem tr87 : (Try.f87.body.bind (trC Try.prog Try.f87.ntmps)) = some s87 := by kernel_rfl
-- loop.example/g00475/laws.heldWrS
def s88_0 : List GI := [⟨(some 4), .rd (.mv (.k (.a (.c (.lf (.int .i64 0)))))), none⟩]
def s88_1 : List GI := [⟨(some 5), .rd (.mv (.k (.a (.c (.lf (.int .i64 0)))))), none⟩]
def s88_2 : List GI := [⟨(some 6), .rd (.mv (.t 5)), none⟩,
  ⟨(some 7), .rd (.mv (.t 0)), none⟩,
  ⟨(some 8), .rd (.len (.t 7)), none⟩,
  ⟨(some 9), .rd (.bin .lss (.t 6) (.t 8)), none⟩]
def s88_4 : List GI := [⟨(some 12), .rd (.mv (.t 0)), none⟩,
  ⟨(some 13), .rd (.mv (.t 5)), none⟩,
  ⟨(some 14), .rd (.iad 2 (.t 12) (.t 13)), none⟩,
  ⟨(some 15), .rd (.fad 0 (.t 14)), none⟩,
  ⟨(some 16), .rd (.load none (.t 15)), none⟩,
  ⟨(some 17), .rd (.mv (.t 1)), none⟩,
  ⟨(some 18), .rd (.bin .neq (.t 16) (.t 17)), none⟩]
def s88_5 : List GI := [⟨(some 4), .rd (.mv (.k (.a (.c (.lf (.int .i64 (-1))))))), none⟩]
def s88_6 : List GI := [⟨(some 19), .rd (.mv (.t 1)), none⟩,
  ⟨(some 20), .rd (.bin .add (.t 19) (.k (.a (.c (.lf (.int .i64 1)))))), none⟩,
  ⟨(some 1), .rd (.mv (.t 20)), none⟩]
def s88_7 : List GI := [⟨(some 21), .rd (.mv (.t 0)), none⟩,
  ⟨(some 22), .rd (.mv (.t 5)), none⟩,
  ⟨(some 23), .rd (.iad 2 (.t 21) (.t 22)), none⟩,
  ⟨(some 24), .rd (.fad 1 (.t 23)), none⟩,
  ⟨(some 25), .rd (.load none (.t 24)), none⟩,
  ⟨(some 26), .rd (.mv (.t 1)), none⟩,
  ⟨(some 27), .wr (.call 25 [(.t 25), (.t 26)]), none⟩,
  ⟨(some 1), .rd (.mv (.t 27)), none⟩]
def s88_8 : List GI := [⟨(some 28), .rd (.mv (.t 1)), none⟩,
  ⟨(some 29), .rd (.bin .lss (.t 28) (.k (.a (.c (.lf (.int .i64 0)))))), none⟩]
def s88_9 : List GI := [⟨(some 4), .rd (.mv (.k (.a (.c (.lf (.int .i64 (-1))))))), none⟩]
def s88_3 : List GI := [⟨(some 10), .rd (.mv (.t 5)), none⟩,
  ⟨(some 11), .rd (.bin .add (.t 10) (.k (.a (.c (.lf (.int .i64 1)))))), none⟩,
  ⟨(some 5), .rd (.mv (.t 11)), none⟩]
def s88_10 : List GI := [⟨(some 30), .rd (.mv (.t 1)), none⟩,
  ⟨(some 4), .rd (.mv (.t 30)), none⟩]
def s88 : Stm := (.seq (.reg s88_0) (.seq (.seq (.reg s88_1) (.block 0 (.loop (.seq (.seq (.reg s88_2) (.cond (.t 9) .skip (.exit 0))) (.seq (.block 1 (.seq (.seq (.reg s88_4) (.cond (.t 18) (.seq (.reg s88_5) .ret) .skip)) (.seq (.reg s88_6) (.seq (.reg s88_7) (.seq (.reg s88_8) (.cond (.t 29) (.seq (.reg s88_9) .ret) .skip)))))) (.reg s88_3)))))) (.seq (.reg s88_10) .ret)))
theorem tr88 : (Try.f88.body.bind (trC Try.prog Try.f88.ntmps)) = some s88 := by kernel_rfl
-- loop.example/g00475/laws.FnExactDevNew
def s6_0 : List GI := [⟨(some 2), .rd (.mv (.k (.a (.c (.lf (.bool false)))))), none⟩]
def s6_1 : List GI := [⟨(some 8), .rd (.mv (.t 0)), none⟩,
  ⟨(some 9), .wr (.call 29 [(.t 8)]), none⟩,
  ⟨(some 3), .wr (.alloc [.nl 1, .nl 2, .lf (.int .i64 0), .lf (.bool false)]), none⟩,
  ⟨none, .wr (.store 4 (.t 3) (.t 9)), none⟩]
def s6_2 : List GI := [⟨(some 10), .rd (.mv (.t 0)), none⟩,
  ⟨(some 11), .wr (.call 30 [(.t 10)]), none⟩,
  ⟨(some 4), .wr (.alloc [.nl 1, .nl 2, .lf (.int .i64 0), .lf (.bool false)]), none⟩,
  ⟨none, .wr (.store 4 (.t 4) (.t 11)), none⟩]
def s6_3 : List GI := [⟨(some 12), .rd (.load (some 4) (.t 4)), none⟩,
  ⟨(some 13), .rd (.load (some 4) (.t 3)), none⟩,
  ⟨(some 14), .wr (.call 31 [(.t 12), (.t 13)]), none⟩,
  ⟨(some 15), .rd (.un .not (.t 14)), none⟩]
def s6_4 : List GI := [⟨(some 2), .rd (.mv (.k (.a (.c (.lf (.bool false)))))), none⟩]
def s6_5 : List GI := [⟨(some 5), .rd (.mv (.k (.a (.c (.lf (.int .i64 1)))))), none⟩]
def s6_6 : List GI := [⟨(some 16), .rd (.load (some 4) (.t 4)), none⟩,
  ⟨(some 17), .rd (.mv (.t 5)), none⟩,
  ⟨(some 18), .wr (.call 32 [(.t 16), (.t 17)]), none⟩,
  ⟨(some 5), .rd (.mv (.t 18)), none⟩]
def s6_7 : List GI := [⟨(some 6), .rd (.mv (.k (.a (.c (.lf (.int .i64 1)))))), none⟩]
def s6_8 : List GI := [⟨(some 19), .rd (.load (some 4) (.t 4)), none⟩,
  ⟨(some 20), .rd (.mv (.t 6)), none⟩,
  ⟨(some 21), .wr (.call 33 [(.t 19), (.t 20)]), none⟩,
  ⟨(some 6), .rd (.mv (.t 21)), none⟩]
def s6_9 : List GI := [⟨(some 22), .rd (.mv (.t 6)), none⟩,
  ⟨(some 23), .rd (.bin .lss (.t 22) (.k (.a (.c (.lf (.int .i64 0)))))), none⟩]
def s6_10 : List GI := [⟨(some 2), .rd (.mv (.k (.a (.c (.lf (.bool false)))))), none⟩]
def s6_11 : List GI := [⟨(some 24), .rd (.mv (.t 6)), none⟩,
  ⟨(some 25), .rd (.mv (.t 5)), none⟩,
  ⟨(some 26), .rd (.bin .neq (.t 24) (.t 25)), none⟩]
def s6_12 : List GI := [⟨(some 2), .rd (.mv (.k (.a (.c (.lf (.bool false)))))), none⟩]
def s6_13 : List GI := [⟨(some 27), .rd (.mv (.t 0)), none⟩,
  ⟨(some 28), .wr (.call 30 [(.t 27)]), none⟩,
  ⟨(some 7), .wr (.alloc [.nl 1, .nl 2, .lf (.int .i64 0), .lf (.bool false)]), none⟩,
  ⟨none, .wr (.store 4 (.t 7) (.t 28)), none⟩]
def s6_14 : List GI := [⟨(some 29), .rd (.load (some 4) (.t 7)), none⟩,
  ⟨(some 30), .rd (.load (some 4) (.t 3)), none⟩,
  ⟨(some 31), .wr (.call 31 [(.t 29), (.t 30)]), none⟩,
  ⟨(some 32), .rd (.un .not (.t 31)), none⟩]
def s6_15 : List GI := [⟨(some 2), .rd (.mv (.k (.a (.c (.lf (.bool false)))))), none⟩]
def s6_16 : List GI := [⟨(some 6), .rd (.mv (.k (.a (.c (.lf (.int .i64 1)))))), none⟩]
def s6_17 : List GI := [⟨(some 33), .rd (.load (some 4) (.t 4)), none⟩,
  ⟨(some 34), .rd (.mv (.t 6)), none⟩,
  ⟨(some 35), .wr (.call 33 [(.t 33), (.t 34)]), none⟩,
  ⟨(some 6), .rd (.mv (.t 35)), none⟩]
def s6_18 : List GI := [⟨(some 36), .rd (.mv (.t 6)), none⟩,
  ⟨(some 37), .rd (.bin .lss (.t 36) (.k (.a (.c (.lf (.int .i64 0)))))), none⟩]
def s6_19 : List GI := [⟨(some 2), .rd (.mv (.k (.a (.c (.lf (.bool false)))))), none⟩]
def s6_20 : List GI := [⟨(some 38), .rd (.mv (.t 6)), none⟩,
  ⟨(some 39), .rd (.mv (.t 5)), none⟩,
  ⟨(some 40), .rd (.bin .neq (.t 38) (.t 39)), none⟩]
def s6_21 : List GI := [⟨(some 2), .rd (.mv (.k (.a (.c (.lf (.bool false)))))), none⟩]
def s6_22 : List GI := [⟨(some 2), .rd (.mv (.k (.a (.c (.lf (.bool true)))))), none⟩]
def s6 : Stm := (.seq (.reg s6_0) (.seq (.reg s6_1) (.seq (.reg s6_2) (.seq (.seq (.reg s6_3) (.cond (.t 15) (.seq (.reg s6_4) .ret) .skip)) (.seq (.reg s6_5) (.seq (.reg s6_6) (.seq (.reg s6_7) (.seq (.reg s6_8) (.seq (.seq (.reg s6_9) (.cond (.t 23) (.seq (.reg s6_10) .ret) .skip)) (.seq (.seq (.reg s6_11) (.cond (.t 26) (.seq (.reg s6_12) .ret) .skip)) (.seq (.reg s6_13) (.seq (.seq (.reg s6_14) (.cond (.t 32) (.seq (.reg s6_15) .ret) .skip)) (.seq (.reg s6_16) (.seq (.reg s6_17) (.seq (.seq (.reg s6_18) (.cond (.t 37) (.seq (.reg s6_19) .ret) .skip)) (.seq (.seq (.reg s6_20) (.cond (.t 40) (.seq (.reg s6_21) .ret) .skip)) (.seq (.reg s6_22) .ret)))))))))))))))))
theorem tr6 : (Try.f6.body.bind (trC Try.prog Try.f6.ntmps)) = some s6 := by kernel_rfl
end Go.Proofs.Ytgbapgjdkoojdaa
