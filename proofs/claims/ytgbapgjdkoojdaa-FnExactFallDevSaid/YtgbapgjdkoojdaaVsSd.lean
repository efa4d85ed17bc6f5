import Derived.Test.YtgbapgjdkoojdaaProg
import Derived.Test.YtgbapgjdkoojdaaVsW2
set_option linter.unusedVariables false
set_option linter.unusedSimpArgs false
namespace Go.Proofs.Ytgbapgjdkoojdaa
open Go.Vs
set_option maxRecDepth 100000
-- loop.example/g00475/spec.PutW
def s75_0 : List GI := [⟨(some 4), .rd (.mv (.k (.a (.c (.nl 1))))), none⟩]
def s75_1 : List GI := [⟨(some 6), .wr (.lit 1 0 [.lf (.int .u8 0)] []), none⟩,
  ⟨(some 7), .rd (.mv (.t 0)), none⟩,
  ⟨(some 8), .wr (.app 1 1 [.lf (.int .u8 0)] (.t 6) (.t 7)), none⟩,
  ⟨(some 5), .rd (.mv (.t 8)), none⟩]
def s75_2 : List GI := [⟨(some 9), .rd (.mv (.t 5)), none⟩,
  ⟨(some 10), .rd (.mv (.t 1)), none⟩,
  ⟨(some 11), .rd (.bin .shr (.t 10) (.k (.a (.c (.lf (.int .u64 8)))))), none⟩,
  ⟨(some 12), .rd (.conv .u8 (.t 11)), none⟩,
  ⟨(some 13), .rd (.mv (.t 1)), none⟩,
  ⟨(some 14), .rd (.conv .u8 (.t 13)), none⟩,
  ⟨(some 15), .wr (.lit 1 2 [.lf (.int .u8 0)] [(0, (.t 12)), (1, (.t 14))]), none⟩,
  ⟨(some 16), .wr (.app 1 1 [.lf (.int .u8 0)] (.t 9) (.t 15)), none⟩,
  ⟨(some 4), .rd (.mv (.t 16)), none⟩]
def s75 : Stm := (.seq (.reg s75_0) (.seq (.reg s75_1) (.seq (.reg s75_2) .ret)))
theorem tr75 : (Try.f75.body.bind (trC Try.prog Try.f75.ntmps)) = some s75 := by kernel_rfl
end Go.Proofs.Ytgbapgjdkoojdaa
