import Derived.Test.YtgbapgjdkoojdaaProg
import Derived.Test.YtgbapgjdkoojdaaVsW2
set_option linter.unusedVariables false
set_option linter.unusedSimpArgs false
namespace Go.Proofs.Ytgbapgjdkoojdaa
open Go.Vs
set_option maxRecDepth 100000
-- loop.example/g00475/laws.FnExactFinal
def s3_0 : List GI := [⟨(some 2), .rd (.mv (.k (.a (.c (.lf (.bool false)))))), none⟩]
def s3_1 : List GI := [⟨(some 5), .rd (.mv (.t 0)), none⟩,
  ⟨(some 6), .wr (.call 19 [(.t 5)]), none⟩,
  ⟨(some 3), .rd (.mv (.t 6)), none⟩]
def s3_2 : List GI := [⟨(some 7), .rd (.mv (.t 0)), none⟩,
  ⟨(some 8), .wr (.call 20 [(.t 7)]), none⟩,
  ⟨(some 4), .rd (.mv (.t 8)), none⟩]
def s3_3 : List GI := [⟨(some 9), .rd (.mv (.t 4)), none⟩,
  ⟨(some 10), .rd (.mv (.t 3)), none⟩,
  ⟨(some 11), .rd (.beq true (.t 9) (.t 10)), none⟩]
def s3_4 : List GI := [⟨(some 2), .rd (.mv (.k (.a (.c (.lf (.bool false)))))), none⟩]
def s3_5 : List GI := [⟨(some 2), .rd (.mv (.k (.a (.c (.lf (.bool true)))))), none⟩]
def s3 : Stm := (.seq (.reg s3_0) (.seq (.reg s3_1) (.seq (.reg s3_2) (.seq (.seq (.reg s3_3) (.cond (.t 11) (.seq (.reg s3_4) .ret) .skip)) (.seq (.reg s3_5) .ret)))))
theorem tr3 : (Try.f3.body.bind (trC Try.prog Try.f3.ntmps)) = some s3 := by kernel_rfl
-- loop.example/g00475/spec.Final
def s19_0 : List GI := [⟨(some 2), .rd (.mv (.k (.a (.c (.lf (.bool false)))))), none⟩]
def s19_1 : List GI := [⟨(some 3), .rd (.mv (.t 0)), none⟩,
  ⟨(some 4), .rd (.bin .eql (.t 3) (.k (.a (.c (.lf (.int .i64 5)))))), none⟩,
  ⟨(some 5), .rd (.mv (.t 4)), none⟩,
  ⟨(some 6), .rd (.mv (.t 0)), (some (5, false))⟩,
  ⟨(some 7), .rd (.bin .eql (.t 6) (.k (.a (.c (.lf (.int .i64 7)))))), (some (5, false))⟩,
  ⟨(some 8), .rd (.pick (.t 5) (.k (.a (.c (.lf (.bool true))))) (.t 7)), none⟩,
  ⟨(some 2), .rd (.mv (.t 8)), none⟩]
def s19 : Stm := (.seq (.reg s19_0) (.seq (.reg s19_1) .ret))
theorem tr19 : (Try.f19.body.bind (trC Try.prog Try.f19.ntmps)) = some s19 := by kernel_rfl
-- loop.example/g00475/impl.Final
def s20_0 : List GI := [⟨(some 2), .rd (.mv (.k (.a (.c (.lf (.bool false)))))), none⟩]
def s20_1 : List GI := [⟨(some 3), .rd (.mv (.t 0)), none⟩,
  ⟨(some 4), .rd (.bin .eql (.t 3) (.k (.a (.c (.lf (.int .i64 5)))))), none⟩,
  ⟨(some 5), .rd (.mv (.t 4)), none⟩,
  ⟨(some 6), .rd (.mv (.t 0)), (some (5, false))⟩,
  ⟨(some 7), .rd (.bin .eql (.t 6) (.k (.a (.c (.lf (.int .i64 7)))))), (some (5, false))⟩,
  ⟨(some 8), .rd (.pick (.t 5) (.k (.a (.c (.lf (.bool true))))) (.t 7)), none⟩,
  ⟨(some 2), .rd (.mv (.t 8)), none⟩]
def s20 : Stm := (.seq (.reg s20_0) (.seq (.reg s20_1) .ret))
theorem tr20 : (Try.f20.body.bind (trC Try.prog Try.f20.ntmps)) = some s20 := by kernel_rfl
-- loop.example/g00475/laws.eqByteS
def s23_0 : List GI := [⟨(some 4), .rd (.mv (.k (.a (.c (.lf (.bool false)))))), none⟩]
def s23_1 : List GI := [⟨(some 6), .rd (.mv (.t 0)), none⟩,
  ⟨(some 7), .rd (.len (.t 6)), none⟩,
  ⟨(some 8), .rd (.mv (.t 1)), none⟩,
  ⟨(some 9), .rd (.len (.t 8)), none⟩,
  ⟨(some 10), .rd (.bin .neq (.t 7) (.t 9)), none⟩]
def s23_2 : List GI := [⟨(some 4), .rd (.mv (.k (.a (.c (.lf (.bool false)))))), none⟩]
def s23_3 : List GI := [⟨(some 5), .rd (.mv (.k (.a (.c (.lf (.int .i64 0)))))), none⟩]
def s23_4 : List GI := [⟨(some 11), .rd (.mv (.t 5)), none⟩,
  ⟨(some 12), .rd (.mv (.t 0)), none⟩,
  ⟨(some 13), .rd (.len (.t 12)), none⟩,
  ⟨(some 14), .rd (.bin .lss (.t 11) (.t 13)), none⟩]
def s23_6 : List DI := [⟨⟨(some 17), .rd (.mv (.t 0)), none⟩, [], false, 0, 0⟩,
  ⟨⟨(some 18), .rd (.mv (.t 5)), none⟩, [], false, 0, 0⟩,
  ⟨⟨(some 19), .rd (.iad 1 (.t 17) (.t 18)), none⟩, [0, 1], false, 0, 0⟩,
  ⟨⟨(some 20), .rd (.load none (.t 19)), none⟩, [2, 0, 1], false, 0, 0⟩,
  ⟨⟨(some 21), .rd (.mv (.t 1)), none⟩, [], false, 0, 0⟩,
  ⟨⟨(some 22), .rd (.mv (.t 5)), none⟩, [], false, 0, 0⟩,
  ⟨⟨(some 23), .rd (.iad 1 (.t 21) (.t 22)), none⟩, [4, 5], false, 0, 0⟩,
  ⟨⟨(some 24), .rd (.load none (.t 23)), none⟩, [6, 4, 5], false, 0, 0⟩,
  ⟨⟨(some 25), .rd (.bin .neq (.t 20) (.t 24)), none⟩, [3, 7, 2, 0, 1, 6, 4, 5], false, 0, 0⟩]
def s23_7 : List GI := [⟨(some 4), .rd (.mv (.k (.a (.c (.lf (.bool false)))))), none⟩]
def s23_5 : List GI := [⟨(some 15), .rd (.mv (.t 5)), none⟩,
  ⟨(some 16), .rd (.bin .add (.t 15) (.k (.a (.c (.lf (.int .i64 1)))))), none⟩,
  ⟨(some 5), .rd (.mv (.t 16)), none⟩]
def s23_8 : List GI := [⟨(some 4), .rd (.mv (.k (.a (.c (.lf (.bool true)))))), none⟩]
def s23 : Stm := (.seq (.reg s23_0) (.seq (.seq (.reg s23_1) (.cond (.t 10) (.seq (.reg s23_2) .ret) .skip)) (.seq (.seq (.reg s23_3) (.block 0 (.loop (.seq (.seq (.reg s23_4) (.cond (.t 14) .skip (.exit 0))) (.seq (.block 1 (.seq (.drw s23_6) (.cond (.t 25) (.seq (.reg s23_7) .ret) .skip))) (.reg s23_5)))))) (.seq (.reg s23_8) .ret))))
theorem tr23 : (Try.f23.body.bind (trC Try.prog Try.f23.ntmps)) = some s23 := by kernel_rfl
end Go.Proofs.Ytgbapgjdkoojdaa
