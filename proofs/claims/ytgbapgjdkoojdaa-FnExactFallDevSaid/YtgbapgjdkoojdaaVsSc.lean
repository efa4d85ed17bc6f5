import Derived.Test.YtgbapgjdkoojdaaProg
import Derived.Test.YtgbapgjdkoojdaaVsW2
set_option linter.unusedVariables false
set_option linter.unusedSimpArgs false
namespace Go.Proofs.Ytgbapgjdkoojdaa
open Go.Vs
set_option maxRecDepth 100000
-- loop.example/g00475/laws.markByteS
def s24_0 : List GI := [⟨(some 4), .rd (.mv (.k (.a (.c (.lf (.int .i64 0)))))), none⟩]
def s24_1 : List GI := [⟨(some 5), .rd (.mv (.k (.a (.c (.lf (.int .i64 0)))))), none⟩]
def s24_2 : List GI := [⟨(some 6), .rd (.mv (.t 5)), none⟩,
  ⟨(some 7), .rd (.mv (.t 0)), none⟩,
  ⟨(some 8), .rd (.len (.t 7)), none⟩,
  ⟨(some 9), .rd (.bin .lss (.t 6) (.t 8)), none⟩]
def s24_4 : List GI := [⟨(some 12), .rd (.mv (.t 0)), none⟩,
  ⟨(some 13), .rd (.mv (.t 5)), none⟩,
  ⟨(some 14), .rd (.mv (.t 1)), none⟩,
  ⟨(some 15), .rd (.conv .u8 (.t 14)), none⟩,
  ⟨(some 16), .rd (.iad 1 (.t 12) (.t 13)), none⟩,
  ⟨none, .wr (.store 1 (.t 16) (.t 15)), none⟩]
def s24_5 : List GI := [⟨(some 17), .rd (.mv (.t 1)), none⟩,
  ⟨(some 18), .rd (.bin .add (.t 17) (.k (.a (.c (.lf (.int .i64 1)))))), none⟩,
  ⟨(some 1), .rd (.mv (.t 18)), none⟩]
def s24_3 : List GI := [⟨(some 10), .rd (.mv (.t 5)), none⟩,
  ⟨(some 11), .rd (.bin .add (.t 10) (.k (.a (.c (.lf (.int .i64 1)))))), none⟩,
  ⟨(some 5), .rd (.mv (.t 11)), none⟩]
def s24_6 : List GI := [⟨(some 19), .rd (.mv (.t 1)), none⟩,
  ⟨(some 4), .rd (.mv (.t 19)), none⟩]
def s24 : Stm := (.seq (.reg s24_0) (.seq (.seq (.reg s24_1) (.block 0 (.loop (.seq (.seq (.reg s24_2) (.cond (.t 9) .skip (.exit 0))) (.seq (.block 1 (.seq (.reg s24_4) (.reg s24_5))) (.reg s24_3)))))) (.seq (.reg s24_6) .ret)))
theorem tr24 : (Try.f24.body.bind (trC Try.prog Try.f24.ntmps)) = some s24 := by kernel_rfl
-- loop.example/g00475/laws.heldByteS
def s25_0 : List GI := [⟨(some 4), .rd (.mv (.k (.a (.c (.lf (.int .i64 0)))))), none⟩]
def s25_1 : List GI := [⟨(some 5), .rd (.mv (.k (.a (.c (.lf (.int .i64 0)))))), none⟩]
def s25_2 : List GI := [⟨(some 6), .rd (.mv (.t 5)), none⟩,
  ⟨(some 7), .rd (.mv (.t 0)), none⟩,
  ⟨(some 8), .rd (.len (.t 7)), none⟩,
  ⟨(some 9), .rd (.bin .lss (.t 6) (.t 8)), none⟩]
def s25_4 : List GI := [⟨(some 12), .rd (.mv (.t 0)), none⟩,
  ⟨(some 13), .rd (.mv (.t 5)), none⟩,
  ⟨(some 14), .rd (.iad 1 (.t 12) (.t 13)), none⟩,
  ⟨(some 15), .rd (.load none (.t 14)), none⟩,
  ⟨(some 16), .rd (.mv (.t 1)), none⟩,
  ⟨(some 17), .rd (.conv .u8 (.t 16)), none⟩,
  ⟨(some 18), .rd (.bin .neq (.t 15) (.t 17)), none⟩]
def s25_5 : List GI := [⟨(some 4), .rd (.mv (.k (.a (.c (.lf (.int .i64 (-1))))))), none⟩]
def s25_6 : List GI := [⟨(some 19), .rd (.mv (.t 1)), none⟩,
  ⟨(some 20), .rd (.bin .add (.t 19) (.k (.a (.c (.lf (.int .i64 1)))))), none⟩,
  ⟨(some 1), .rd (.mv (.t 20)), none⟩]
def s25_3 : List GI := [⟨(some 10), .rd (.mv (.t 5)), none⟩,
  ⟨(some 11), .rd (.bin .add (.t 10) (.k (.a (.c (.lf (.int .i64 1)))))), none⟩,
  ⟨(some 5), .rd (.mv (.t 11)), none⟩]
def s25_7 : List GI := [⟨(some 21), .rd (.mv (.t 1)), none⟩,
  ⟨(some 4), .rd (.mv (.t 21)), none⟩]
def s25 : Stm := (.seq (.reg s25_0) (.seq (.seq (.reg s25_1) (.block 0 (.loop (.seq (.seq (.reg s25_2) (.cond (.t 9) .skip (.exit 0))) (.seq (.block 1 (.seq (.seq (.reg s25_4) (.cond (.t 18) (.seq (.reg s25_5) .ret) .skip)) (.reg s25_6))) (.reg s25_3)))))) (.seq (.reg s25_7) .ret)))
theorem tr25 : (Try.f25.body.bind (trC Try.prog Try.f25.ntmps)) = some s25 := by kernel_rfl
-- loop.example/g00475/spec.l1In
def s74_0 : List GI := [⟨(some 6), .rd (.mv (.k (.a (.c (.lf (.bool false)))))), none⟩]
def s74_1 : List GI := [⟨(some 7), .rd (.mv (.t 0)), none⟩,
  ⟨(some 8), .rd (.mv (.t 1)), none⟩,
  ⟨(some 9), .rd (.bin .geq (.t 7) (.t 8)), none⟩,
  ⟨(some 10), .rd (.mv (.t 9)), none⟩,
  ⟨(some 11), .rd (.mv (.t 0)), (some (10, true))⟩,
  ⟨(some 12), .rd (.mv (.t 2)), (some (10, true))⟩,
  ⟨(some 13), .rd (.bin .leq (.t 11) (.t 12)), (some (10, true))⟩,
  ⟨(some 14), .rd (.pick (.t 10) (.t 13) (.k (.a (.c (.lf (.bool false)))))), none⟩,
  ⟨(some 6), .rd (.mv (.t 14)), none⟩]
def s74 : Stm := (.seq (.reg s74_0) (.seq (.reg s74_1) .ret))
theorem tr74 : (Try.f74.body.bind (trC Try.prog Try.f74.ntmps)) = some s74 := by kernel_rfl
-- loop.example/g00475/impl.within
def s77_0 : List GI := [⟨(some 6), .rd (.mv (.k (.a (.c (.lf (.bool false)))))), none⟩]
def s77_1 : List GI := [⟨(some 7), .rd (.mv (.t 0)), none⟩,
  ⟨(some 8), .rd (.mv (.t 1)), none⟩,
  ⟨(some 9), .rd (.bin .geq (.t 7) (.t 8)), none⟩,
  ⟨(some 10), .rd (.mv (.t 9)), none⟩,
  ⟨(some 11), .rd (.mv (.t 0)), (some (10, true))⟩,
  ⟨(some 12), .rd (.mv (.t 2)), (some (10, true))⟩,
  ⟨(some 13), .rd (.bin .leq (.t 11) (.t 12)), (some (10, true))⟩,
  ⟨(some 14), .rd (.pick (.t 10) (.t 13) (.k (.a (.c (.lf (.bool false)))))), none⟩,
  ⟨(some 6), .rd (.mv (.t 14)), none⟩]
def s77 : Stm := (.seq (.reg s77_0) (.seq (.reg s77_1) .ret))
theorem tr77 : (Try.f77.body.bind (trC Try.prog Try.f77.ntmps)) = some s77 := by kernel_rfl
end Go.Proofs.Ytgbapgjdkoojdaa
