import Derived.Test.YtgbapgjdkoojdaaProg
import Derived.Test.YtgbapgjdkoojdaaVsW2
set_option linter.unusedVariables false
set_option linter.unusedSimpArgs false
namespace Go.Proofs.Ytgbapgjdkoojdaa
open Go.Vs
set_option maxRecDepth 100000
-- loop.example/g00475/spec.GetHead
def s26_0 : List GI := [⟨(some 2), .rd (.mv (.k (.a (.c (.lf (.int .i64 0)))))), none⟩,
  ⟨(some 3), .rd (.mv (.k (.a (.c (.lf (.int .i64 0)))))), none⟩,
  ⟨(some 4), .rd (.mv (.k (.a (.c (.lf (.bool false)))))), none⟩]
def s26_1 : List GI := [⟨(some 15), .rd (.mv (.t 0)), none⟩,
  ⟨(some 16), .wr (.call 80 [(.t 15), (.k (.a (.c (.lf (.int .i64 0)))))]), none⟩,
  ⟨(some 14), .rd (.mv (.t 16)), none⟩,
  ⟨(some 17), .rd (.ext 0 (.t 14)), none⟩,
  ⟨(some 18), .rd (.ext 1 (.t 14)), none⟩,
  ⟨(some 19), .rd (.ext 2 (.t 14)), none⟩,
  ⟨(some 5), .rd (.mv (.t 17)), none⟩,
  ⟨(some 6), .rd (.mv (.t 18)), none⟩,
  ⟨(some 7), .rd (.mv (.t 19)), none⟩]
def s26_2 : List GI := [⟨(some 21), .rd (.mv (.t 0)), none⟩,
  ⟨(some 22), .wr (.call 80 [(.t 21), (.k (.a (.c (.lf (.int .i64 2)))))]), none⟩,
  ⟨(some 20), .rd (.mv (.t 22)), none⟩,
  ⟨(some 23), .rd (.ext 0 (.t 20)), none⟩,
  ⟨(some 24), .rd (.ext 1 (.t 20)), none⟩,
  ⟨(some 25), .rd (.ext 2 (.t 20)), none⟩,
  ⟨(some 8), .rd (.mv (.t 23)), none⟩,
  ⟨(some 9), .rd (.mv (.t 24)), none⟩,
  ⟨(some 10), .rd (.mv (.t 25)), none⟩]
def s26_3 : List GI := [⟨(some 27), .rd (.mv (.t 0)), none⟩,
  ⟨(some 28), .wr (.call 80 [(.t 27), (.k (.a (.c (.lf (.int .i64 4)))))]), none⟩,
  ⟨(some 26), .rd (.mv (.t 28)), none⟩,
  ⟨(some 29), .rd (.ext 0 (.t 26)), none⟩,
  ⟨(some 30), .rd (.ext 1 (.t 26)), none⟩,
  ⟨(some 31), .rd (.ext 2 (.t 26)), none⟩,
  ⟨(some 11), .rd (.mv (.t 29)), none⟩,
  ⟨(some 12), .rd (.mv (.t 30)), none⟩,
  ⟨(some 13), .rd (.mv (.t 31)), none⟩]
def s26_4 : List GI := [⟨(some 32), .rd (.mv (.t 13)), none⟩,
  ⟨(some 33), .rd (.un .not (.t 32)), none⟩,
  ⟨(some 34), .rd (.mv (.t 33)), none⟩,
  ⟨(some 35), .rd (.mv (.t 0)), (some (34, false))⟩,
  ⟨(some 36), .rd (.len (.t 35)), (some (34, false))⟩,
  ⟨(some 37), .rd (.bin .neq (.t 36) (.k (.a (.c (.lf (.int .i64 6)))))), (some (34, false))⟩,
  ⟨(some 38), .rd (.pick (.t 34) (.k (.a (.c (.lf (.bool true))))) (.t 37)), none⟩,
  ⟨(some 39), .rd (.mv (.t 38)), none⟩,
  ⟨(some 40), .rd (.mv (.t 11)), (some (39, false))⟩,
  ⟨(some 41), .rd (.mv (.t 0)), (some (39, false))⟩,
  ⟨(some 42), .rd (.slc 1 (.t 41) none (some (.k (.a (.c (.lf (.int .i64 4))))))), (some (39, false))⟩,
  ⟨(some 43), .wr (.call 76 [(.t 42)]), (some (39, false))⟩,
  ⟨(some 44), .rd (.bin .neq (.t 40) (.t 43)), (some (39, false))⟩,
  ⟨(some 45), .rd (.pick (.t 39) (.k (.a (.c (.lf (.bool true))))) (.t 44)), none⟩,
  ⟨(some 46), .rd (.mv (.t 45)), none⟩,
  ⟨(some 47), .rd (.mv (.t 5)), (some (46, false))⟩,
  ⟨(some 48), .wr (.call 74 [(.t 47), (.k (.a (.c (.lf (.int .i64 1))))), (.k (.a (.c (.lf (.int .i64 60000)))))]), (some (46, false))⟩,
  ⟨(some 49), .rd (.un .not (.t 48)), (some (46, false))⟩,
  ⟨(some 50), .rd (.pick (.t 46) (.k (.a (.c (.lf (.bool true))))) (.t 49)), none⟩,
  ⟨(some 51), .rd (.mv (.t 50)), none⟩,
  ⟨(some 52), .rd (.mv (.t 8)), (some (51, false))⟩,
  ⟨(some 53), .rd (.bin .gtr (.t 52) (.k (.a (.c (.lf (.int .i64 30)))))), (some (51, false))⟩,
  ⟨(some 54), .rd (.pick (.t 51) (.k (.a (.c (.lf (.bool true))))) (.t 53)), none⟩]
def s26_5 : List GI := [⟨(some 2), .rd (.mv (.k (.a (.c (.lf (.int .i64 0)))))), none⟩,
  ⟨(some 3), .rd (.mv (.k (.a (.c (.lf (.int .i64 0)))))), none⟩,
  ⟨(some 4), .rd (.mv (.k (.a (.c (.lf (.bool false)))))), none⟩]
def s26_6 : List GI := [⟨(some 55), .rd (.mv (.t 5)), none⟩,
  ⟨(some 56), .rd (.mv (.t 8)), none⟩,
  ⟨(some 2), .rd (.mv (.t 55)), none⟩,
  ⟨(some 3), .rd (.mv (.t 56)), none⟩,
  ⟨(some 4), .rd (.mv (.k (.a (.c (.lf (.bool true)))))), none⟩]
def s26 : Stm := (.seq (.reg s26_0) (.seq (.reg s26_1) (.seq (.reg s26_2) (.seq (.reg s26_3) (.seq (.seq (.reg s26_4) (.cond (.t 54) (.seq (.reg s26_5) .ret) .skip)) (.seq (.reg s26_6) .ret))))))
theorem tr26 : (Try.f26.body.bind (trC Try.prog Try.f26.ntmps)) = some s26 := by kernel_rfl
-- loop.example/g00475/impl.GetHead
def s28_0 : List GI := [⟨(some 2), .rd (.mv (.k (.a (.c (.lf (.int .i64 0)))))), none⟩,
  ⟨(some 3), .rd (.mv (.k (.a (.c (.lf (.int .i64 0)))))), none⟩,
  ⟨(some 4), .rd (.mv (.k (.a (.c (.lf (.bool false)))))), none⟩]
def s28_1 : List GI := [⟨(some 8), .rd (.mv (.t 0)), none⟩,
  ⟨(some 9), .rd (.build [.nl 1, .lf (.int .i64 0), .lf (.bool false)] [(0, 1, (.t 8))]), none⟩,
  ⟨(some 10), .wr (.box (.t 9)), none⟩,
  ⟨(some 5), .rd (.mv (.t 10)), none⟩]
def s28_2 : List GI := [⟨(some 11), .rd (.mv (.t 5)), none⟩,
  ⟨(some 12), .wr (.call 81 [(.t 11)]), none⟩,
  ⟨(some 6), .rd (.mv (.t 12)), none⟩]
def s28_3 : List GI := [⟨(some 13), .rd (.mv (.t 5)), none⟩,
  ⟨(some 14), .wr (.call 81 [(.t 13)]), none⟩,
  ⟨(some 7), .rd (.mv (.t 14)), none⟩]
def s28_4 : List GI := [⟨(some 15), .rd (.mv (.t 5)), none⟩,
  ⟨(some 16), .wr (.call 82 [(.t 15)]), none⟩,
  ⟨(some 17), .rd (.un .not (.t 16)), none⟩,
  ⟨(some 18), .rd (.mv (.t 17)), none⟩,
  ⟨(some 19), .rd (.mv (.t 6)), (some (18, false))⟩,
  ⟨(some 20), .wr (.call 77 [(.t 19), (.k (.a (.c (.lf (.int .i64 1))))), (.k (.a (.c (.lf (.int .i64 60000)))))]), (some (18, false))⟩,
  ⟨(some 21), .rd (.un .not (.t 20)), (some (18, false))⟩,
  ⟨(some 22), .rd (.pick (.t 18) (.k (.a (.c (.lf (.bool true))))) (.t 21)), none⟩,
  ⟨(some 23), .rd (.mv (.t 22)), none⟩,
  ⟨(some 24), .rd (.mv (.t 7)), (some (23, false))⟩,
  ⟨(some 25), .wr (.call 77 [(.t 24), (.k (.a (.c (.lf (.int .i64 0))))), (.k (.a (.c (.lf (.int .i64 30)))))]), (some (23, false))⟩,
  ⟨(some 26), .rd (.un .not (.t 25)), (some (23, false))⟩,
  ⟨(some 27), .rd (.pick (.t 23) (.k (.a (.c (.lf (.bool true))))) (.t 26)), none⟩]
def s28_5 : List GI := [⟨(some 2), .rd (.mv (.k (.a (.c (.lf (.int .i64 0)))))), none⟩,
  ⟨(some 3), .rd (.mv (.k (.a (.c (.lf (.int .i64 0)))))), none⟩,
  ⟨(some 4), .rd (.mv (.k (.a (.c (.lf (.bool false)))))), none⟩]
def s28_6 : List GI := [⟨(some 28), .rd (.mv (.t 6)), none⟩,
  ⟨(some 29), .rd (.mv (.t 7)), none⟩,
  ⟨(some 2), .rd (.mv (.t 28)), none⟩,
  ⟨(some 3), .rd (.mv (.t 29)), none⟩,
  ⟨(some 4), .rd (.mv (.k (.a (.c (.lf (.bool true)))))), none⟩]
def s28 : Stm := (.seq (.reg s28_0) (.seq (.reg s28_1) (.seq (.reg s28_2) (.seq (.reg s28_3) (.seq (.seq (.reg s28_4) (.cond (.t 27) (.seq (.reg s28_5) .ret) .skip)) (.seq (.reg s28_6) .ret))))))
theorem tr28 : (Try.f28.body.bind (trC Try.prog Try.f28.ntmps)) = some s28 := by kernel_rfl
-- loop.example/g00475/spec.GetW
def s80_0 : List GI := [⟨(some 4), .rd (.mv (.k (.a (.c (.lf (.int .i64 0)))))), none⟩,
  ⟨(some 5), .rd (.mv (.k (.a (.c (.lf (.int .i64 0)))))), none⟩,
  ⟨(some 6), .rd (.mv (.k (.a (.c (.lf (.bool false)))))), none⟩]
def s80_1 : List GI := [⟨(some 7), .rd (.mv (.t 1)), none⟩,
  ⟨(some 8), .rd (.mv (.t 0)), none⟩,
  ⟨(some 9), .rd (.len (.t 8)), none⟩,
  ⟨(some 10), .rd (.bin .sub (.t 9) (.k (.a (.c (.lf (.int .i64 2)))))), none⟩,
  ⟨(some 11), .wr (.call 74 [(.t 7), (.k (.a (.c (.lf (.int .i64 0))))), (.t 10)]), none⟩,
  ⟨(some 12), .rd (.un .not (.t 11)), none⟩]
def s80_2 : List GI := [⟨(some 4), .rd (.mv (.k (.a (.c (.lf (.int .i64 0)))))), none⟩,
  ⟨(some 5), .rd (.mv (.k (.a (.c (.lf (.int .i64 0)))))), none⟩,
  ⟨(some 6), .rd (.mv (.k (.a (.c (.lf (.bool false)))))), none⟩]
def s80_3 : List DI := [⟨⟨(some 13), .rd (.mv (.t 0)), none⟩, [], false, 0, 0⟩,
  ⟨⟨(some 14), .rd (.mv (.t 1)), none⟩, [], false, 0, 0⟩,
  ⟨⟨(some 15), .rd (.iad 1 (.t 13) (.t 14)), none⟩, [0, 1], false, 0, 0⟩,
  ⟨⟨(some 16), .rd (.load none (.t 15)), none⟩, [2, 0, 1], false, 0, 0⟩,
  ⟨⟨(some 17), .rd (.conv .i64 (.t 16)), none⟩, [3, 2, 0, 1], false, 0, 0⟩,
  ⟨⟨(some 18), .rd (.bin .shl (.t 17) (.k (.a (.c (.lf (.int .u64 8)))))), none⟩, [4, 3, 2, 0, 1], false, 0, 0⟩,
  ⟨⟨(some 19), .rd (.mv (.t 0)), none⟩, [], false, 0, 0⟩,
  ⟨⟨(some 20), .rd (.mv (.t 1)), none⟩, [], false, 0, 0⟩,
  ⟨⟨(some 21), .rd (.bin .add (.t 20) (.k (.a (.c (.lf (.int .i64 1)))))), none⟩, [7], false, 0, 0⟩,
  ⟨⟨(some 22), .rd (.iad 1 (.t 19) (.t 21)), none⟩, [6, 8, 7], false, 0, 0⟩,
  ⟨⟨(some 23), .rd (.load none (.t 22)), none⟩, [9, 6, 8, 7], false, 0, 0⟩,
  ⟨⟨(some 24), .rd (.conv .i64 (.t 23)), none⟩, [10, 9, 6, 8, 7], false, 0, 0⟩,
  ⟨⟨(some 25), .rd (.bin .or (.t 18) (.t 24)), none⟩, [5, 11, 4, 3, 2, 0, 1, 10, 9, 6, 8, 7], false, 0, 0⟩,
  ⟨⟨(some 26), .rd (.mv (.t 1)), none⟩, [], false, 0, 0⟩,
  ⟨⟨(some 27), .rd (.bin .add (.t 26) (.k (.a (.c (.lf (.int .i64 2)))))), none⟩, [13], false, 0, 0⟩,
  ⟨⟨(some 4), .rd (.mv (.t 25)), none⟩, [12, 5, 11, 4, 3, 2, 0, 1, 10, 9, 6, 8, 7], false, 0, 0⟩,
  ⟨⟨(some 5), .rd (.mv (.t 27)), none⟩, [14, 15, 13, 12, 5, 11, 4, 3, 2, 0, 1, 10, 9, 6, 8, 7], false, 0, 0⟩,
  ⟨⟨(some 6), .rd (.mv (.k (.a (.c (.lf (.bool true)))))), none⟩, [16, 14, 15, 13, 12, 5, 11, 4, 3, 2, 0, 1, 10, 9, 6, 8, 7], false, 0, 0⟩]
def s80 : Stm := (.seq (.reg s80_0) (.seq (.seq (.reg s80_1) (.cond (.t 12) (.seq (.reg s80_2) .ret) .skip)) (.seq (.drw s80_3) .ret)))
theorem tr80 : (Try.f80.body.bind (trC Try.prog Try.f80.ntmps)) = some s80 := by kernel_rfl
-- (*loop.example/g00475/impl.scan).word
def s81_0 : List GI := [⟨(some 2), .rd (.mv (.k (.a (.c (.lf (.int .i64 0)))))), none⟩]
def s81_1 : List DI := [⟨⟨(some 7), .rd (.mv (.t 0)), none⟩, [], false, 0, 0⟩,
  ⟨⟨(some 8), .rd (.nilc (.t 7)), none⟩, [0], false, 0, 0⟩,
  ⟨⟨(some 9), .rd (.fad 0 (.t 8)), none⟩, [1, 0], false, 0, 0⟩,
  ⟨⟨(some 10), .rd (.load none (.t 9)), none⟩, [2, 1, 0], false, 0, 0⟩,
  ⟨⟨(some 11), .rd (.mv (.t 0)), none⟩, [], false, 0, 0⟩,
  ⟨⟨(some 12), .rd (.nilc (.t 11)), none⟩, [4], false, 0, 0⟩,
  ⟨⟨(some 13), .rd (.fad 1 (.t 12)), none⟩, [5, 4], false, 0, 0⟩,
  ⟨⟨(some 14), .rd (.load none (.t 13)), none⟩, [6, 5, 4], false, 0, 0⟩,
  ⟨⟨(some 15), .wr (.call 125 [(.t 10), (.t 14)]), none⟩, [3, 7, 2, 1, 0, 6, 5, 4], true, 0, 0⟩,
  ⟨⟨(some 6), .rd (.mv (.t 15)), none⟩, [8, 3, 7, 2, 1, 0, 6, 5, 4], false, 1, 1⟩,
  ⟨⟨(some 16), .rd (.ext 0 (.t 6)), none⟩, [9, 8, 3, 7, 2, 1, 0, 6, 5, 4], false, 1, 1⟩,
  ⟨⟨(some 17), .rd (.ext 1 (.t 6)), none⟩, [9, 8, 3, 7, 2, 1, 0, 6, 5, 4], false, 1, 1⟩,
  ⟨⟨(some 18), .rd (.ext 2 (.t 6)), none⟩, [9, 8, 3, 7, 2, 1, 0, 6, 5, 4], false, 1, 1⟩,
  ⟨⟨(some 3), .rd (.mv (.t 16)), none⟩, [10, 9, 8, 3, 7, 2, 1, 0, 6, 5, 4], false, 1, 1⟩,
  ⟨⟨(some 4), .rd (.mv (.t 17)), none⟩, [11, 13, 10, 9, 8, 3, 7, 2, 1, 0, 6, 5, 4], false, 1, 1⟩,
  ⟨⟨(some 5), .rd (.mv (.t 18)), none⟩, [12, 14, 11, 13, 10, 9, 8, 3, 7, 2, 1, 0, 6, 5, 4], false, 1, 1⟩]
def s81_2 : List GI := [⟨(some 19), .rd (.mv (.t 0)), none⟩,
  ⟨(some 20), .rd (.nilc (.t 19)), none⟩,
  ⟨(some 21), .rd (.fad 2 (.t 20)), none⟩,
  ⟨(some 22), .rd (.load none (.t 21)), none⟩,
  ⟨(some 23), .rd (.mv (.t 22)), none⟩,
  ⟨(some 24), .rd (.mv (.t 5)), (some (23, false))⟩,
  ⟨(some 25), .rd (.un .not (.t 24)), (some (23, false))⟩,
  ⟨(some 26), .rd (.pick (.t 23) (.k (.a (.c (.lf (.bool true))))) (.t 25)), none⟩]
def s81_3 : List GI := [⟨(some 27), .rd (.mv (.t 0)), none⟩,
  ⟨(some 28), .rd (.nilc (.t 27)), none⟩,
  ⟨(some 29), .rd (.fad 2 (.t 28)), none⟩,
  ⟨none, .wr (.store 1 (.t 29) (.k (.a (.c (.lf (.bool true)))))), none⟩]
def s81_4 : List GI := [⟨(some 2), .rd (.mv (.k (.a (.c (.lf (.int .i64 0)))))), none⟩]
def s81_5 : List GI := [⟨(some 30), .rd (.mv (.t 0)), none⟩,
  ⟨(some 31), .rd (.mv (.t 4)), none⟩,
  ⟨(some 32), .rd (.nilc (.t 30)), none⟩,
  ⟨(some 33), .rd (.fad 1 (.t 32)), none⟩,
  ⟨none, .wr (.store 1 (.t 33) (.t 31)), none⟩]
def s81_6 : List GI := [⟨(some 34), .rd (.mv (.t 3)), none⟩,
  ⟨(some 2), .rd (.mv (.t 34)), none⟩]
def s81 : Stm := (.seq (.reg s81_0) (.seq (.drw s81_1) (.seq (.seq (.reg s81_2) (.cond (.t 26) (.seq (.reg s81_3) (.seq (.reg s81_4) .ret)) .skip)) (.seq (.reg s81_5) (.seq (.reg s81_6) .ret)))))
theorem tr81 : (Try.f81.body.bind (trC Try.prog Try.f81.ntmps)) = some s81 := by kernel_rfl
-- (*loop.example/g00475/impl.scan).sum
def s82_0 : List GI := [⟨(some 2), .rd (.mv (.k (.a (.c (.lf (.bool false)))))), none⟩]
def s82_1 : List GI := [⟨(some 5), .rd (.mv (.t 0)), none⟩,
  ⟨(some 6), .rd (.nilc (.t 5)), none⟩,
  ⟨(some 7), .rd (.fad 1 (.t 6)), none⟩,
  ⟨(some 8), .rd (.load none (.t 7)), none⟩,
  ⟨(some 3), .rd (.mv (.t 8)), none⟩]
def s82_2 : List GI := [⟨(some 9), .rd (.mv (.t 0)), none⟩,
  ⟨(some 10), .wr (.call 81 [(.t 9)]), none⟩,
  ⟨(some 4), .rd (.mv (.t 10)), none⟩]
def s82_3 : List DI := [⟨⟨(some 11), .rd (.mv (.t 0)), none⟩, [], false, 0, 0⟩,
  ⟨⟨(some 12), .rd (.nilc (.t 11)), none⟩, [0], false, 0, 0⟩,
  ⟨⟨(some 13), .rd (.fad 2 (.t 12)), none⟩, [1, 0], false, 0, 0⟩,
  ⟨⟨(some 14), .rd (.load none (.t 13)), none⟩, [2, 1, 0], false, 0, 0⟩,
  ⟨⟨(some 15), .rd (.un .not (.t 14)), none⟩, [3, 2, 1, 0], false, 0, 0⟩,
  ⟨⟨(some 16), .rd (.mv (.t 15)), none⟩, [4, 3, 2, 1, 0], false, 0, 0⟩,
  ⟨⟨(some 17), .rd (.mv (.t 4)), (some (16, true))⟩, [5, 4, 3, 2, 1, 0], false, 0, 1⟩,
  ⟨⟨(some 18), .rd (.mv (.t 0)), (some (16, true))⟩, [5, 4, 3, 2, 1, 0], false, 0, 0⟩,
  ⟨⟨(some 19), .rd (.nilc (.t 18)), (some (16, true))⟩, [7, 5, 4, 3, 2, 1, 0], false, 0, 0⟩,
  ⟨⟨(some 20), .rd (.fad 0 (.t 19)), (some (16, true))⟩, [8, 7, 5, 4, 3, 2, 1, 0], false, 0, 0⟩,
  ⟨⟨(some 21), .rd (.load none (.t 20)), (some (16, true))⟩, [9, 8, 7, 5, 4, 3, 2, 1, 0], false, 0, 0⟩,
  ⟨⟨(some 22), .rd (.mv (.t 3)), (some (16, true))⟩, [5, 4, 3, 2, 1, 0], false, 0, 0⟩,
  ⟨⟨(some 23), .rd (.slc 1 (.t 21) none (some (.t 22))), (some (16, true))⟩, [10, 11, 9, 8, 7, 5, 4, 3, 2, 1, 0], false, 0, 0⟩,
  ⟨⟨(some 24), .wr (.call 79 [(.t 23)]), (some (16, true))⟩, [12, 10, 11, 9, 8, 7, 5, 4, 3, 2, 1, 0], true, 0, 0⟩,
  ⟨⟨(some 25), .rd (.bin .eql (.t 17) (.t 24)), (some (16, true))⟩, [6, 13, 12, 10, 11, 9, 8, 7, 5, 4, 3, 2, 1, 0], false, 1, 1⟩,
  ⟨⟨(some 26), .rd (.pick (.t 16) (.t 25) (.k (.a (.c (.lf (.bool false)))))), none⟩, [14, 6, 13, 12, 10, 11, 9, 8, 7, 5, 4, 3, 2, 1, 0], false, 1, 1⟩,
  ⟨⟨(some 27), .rd (.mv (.t 26)), none⟩, [15, 14, 6, 13, 12, 10, 11, 9, 8, 7, 5, 4, 3, 2, 1, 0], false, 1, 1⟩,
  ⟨⟨(some 28), .rd (.mv (.t 0)), (some (27, true))⟩, [16, 15, 14, 6, 13, 12, 10, 11, 9, 8, 7, 5, 4, 3, 2, 1, 0], false, 1, 1⟩,
  ⟨⟨(some 29), .rd (.nilc (.t 28)), (some (27, true))⟩, [17, 16, 15, 14, 6, 13, 12, 10, 11, 9, 8, 7, 5, 4, 3, 2, 1, 0], false, 1, 1⟩,
  ⟨⟨(some 30), .rd (.fad 1 (.t 29)), (some (27, true))⟩, [18, 17, 16, 15, 14, 6, 13, 12, 10, 11, 9, 8, 7, 5, 4, 3, 2, 1, 0], false, 1, 1⟩,
  ⟨⟨(some 31), .rd (.load none (.t 30)), (some (27, true))⟩, [19, 18, 17, 16, 15, 14, 6, 13, 12, 10, 11, 9, 8, 7, 5, 4, 3, 2, 1, 0], false, 1, 1⟩,
  ⟨⟨(some 32), .rd (.mv (.t 0)), (some (27, true))⟩, [16, 15, 14, 6, 13, 12, 10, 11, 9, 8, 7, 5, 4, 3, 2, 1, 0], false, 1, 1⟩,
  ⟨⟨(some 33), .rd (.nilc (.t 32)), (some (27, true))⟩, [21, 16, 15, 14, 6, 13, 12, 10, 11, 9, 8, 7, 5, 4, 3, 2, 1, 0], false, 1, 1⟩,
  ⟨⟨(some 34), .rd (.fad 0 (.t 33)), (some (27, true))⟩, [22, 21, 16, 15, 14, 6, 13, 12, 10, 11, 9, 8, 7, 5, 4, 3, 2, 1, 0], false, 1, 1⟩,
  ⟨⟨(some 35), .rd (.load none (.t 34)), (some (27, true))⟩, [23, 22, 21, 16, 15, 14, 6, 13, 12, 10, 11, 9, 8, 7, 5, 4, 3, 2, 1, 0], false, 1, 1⟩,
  ⟨⟨(some 36), .rd (.len (.t 35)), (some (27, true))⟩, [24, 23, 22, 21, 16, 15, 14, 6, 13, 12, 10, 11, 9, 8, 7, 5, 4, 3, 2, 1, 0], false, 1, 1⟩,
  ⟨⟨(some 37), .rd (.bin .eql (.t 31) (.t 36)), (some (27, true))⟩, [20, 25, 19, 18, 17, 24, 23, 22, 21, 16, 15, 14, 6, 13, 12, 10, 11, 9, 8, 7, 5, 4, 3, 2, 1, 0], false, 1, 1⟩,
  ⟨⟨(some 38), .rd (.pick (.t 27) (.t 37) (.k (.a (.c (.lf (.bool false)))))), none⟩, [26, 20, 25, 19, 18, 17, 24, 23, 22, 21, 16, 15, 14, 6, 13, 12, 10, 11, 9, 8, 7, 5, 4, 3, 2, 1, 0], false, 1, 1⟩,
  ⟨⟨(some 2), .rd (.mv (.t 38)), none⟩, [27, 26, 20, 25, 19, 18, 17, 24, 23, 22, 21, 16, 15, 14, 6, 13, 12, 10, 11, 9, 8, 7, 5, 4, 3, 2, 1, 0], false, 1, 1⟩]
def s82 : Stm := (.seq (.reg s82_0) (.seq (.reg s82_1) (.seq (.reg s82_2) (.seq (.drw s82_3) .ret))))
theorem tr82 : (Try.f82.body.bind (trC Try.prog Try.f82.ntmps)) = some s82 := by kernel_rfl
-- loop.example/g00475/impl.GetW
def s125_0 : List GI := [⟨(some 4), .rd (.mv (.k (.a (.c (.lf (.int .i64 0)))))), none⟩,
  ⟨(some 5), .rd (.mv (.k (.a (.c (.lf (.int .i64 0)))))), none⟩,
  ⟨(some 6), .rd (.mv (.k (.a (.c (.lf (.bool false)))))), none⟩]
def s125_1 : List GI := [⟨(some 7), .rd (.mv (.t 1)), none⟩,
  ⟨(some 8), .rd (.bin .lss (.t 7) (.k (.a (.c (.lf (.int .i64 0)))))), none⟩,
  ⟨(some 9), .rd (.mv (.t 8)), none⟩,
  ⟨(some 10), .rd (.mv (.t 1)), (some (9, false))⟩,
  ⟨(some 11), .rd (.mv (.t 0)), (some (9, false))⟩,
  ⟨(some 12), .rd (.len (.t 11)), (some (9, false))⟩,
  ⟨(some 13), .rd (.bin .sub (.t 12) (.k (.a (.c (.lf (.int .i64 2)))))), (some (9, false))⟩,
  ⟨(some 14), .rd (.bin .gtr (.t 10) (.t 13)), (some (9, false))⟩,
  ⟨(some 15), .rd (.pick (.t 9) (.k (.a (.c (.lf (.bool true))))) (.t 14)), none⟩]
def s125_2 : List GI := [⟨(some 4), .rd (.mv (.k (.a (.c (.lf (.int .i64 0)))))), none⟩,
  ⟨(some 5), .rd (.mv (.k (.a (.c (.lf (.int .i64 0)))))), none⟩,
  ⟨(some 6), .rd (.mv (.k (.a (.c (.lf (.bool false)))))), none⟩]
def s125_3 : List DI := [⟨⟨(some 16), .rd (.mv (.t 0)), none⟩, [], false, 0, 0⟩,
  ⟨⟨(some 17), .rd (.mv (.t 1)), none⟩, [], false, 0, 0⟩,
  ⟨⟨(some 18), .rd (.iad 1 (.t 16) (.t 17)), none⟩, [0, 1], false, 0, 0⟩,
  ⟨⟨(some 19), .rd (.load none (.t 18)), none⟩, [2, 0, 1], false, 0, 0⟩,
  ⟨⟨(some 20), .rd (.conv .i64 (.t 19)), none⟩, [3, 2, 0, 1], false, 0, 0⟩,
  ⟨⟨(some 21), .rd (.bin .shl (.t 20) (.k (.a (.c (.lf (.int .u64 8)))))), none⟩, [4, 3, 2, 0, 1], false, 0, 0⟩,
  ⟨⟨(some 22), .rd (.mv (.t 0)), none⟩, [], false, 0, 0⟩,
  ⟨⟨(some 23), .rd (.mv (.t 1)), none⟩, [], false, 0, 0⟩,
  ⟨⟨(some 24), .rd (.bin .add (.t 23) (.k (.a (.c (.lf (.int .i64 1)))))), none⟩, [7], false, 0, 0⟩,
  ⟨⟨(some 25), .rd (.iad 1 (.t 22) (.t 24)), none⟩, [6, 8, 7], false, 0, 0⟩,
  ⟨⟨(some 26), .rd (.load none (.t 25)), none⟩, [9, 6, 8, 7], false, 0, 0⟩,
  ⟨⟨(some 27), .rd (.conv .i64 (.t 26)), none⟩, [10, 9, 6, 8, 7], false, 0, 0⟩,
  ⟨⟨(some 28), .rd (.bin .or (.t 21) (.t 27)), none⟩, [5, 11, 4, 3, 2, 0, 1, 10, 9, 6, 8, 7], false, 0, 0⟩,
  ⟨⟨(some 29), .rd (.mv (.t 1)), none⟩, [], false, 0, 0⟩,
  ⟨⟨(some 30), .rd (.bin .add (.t 29) (.k (.a (.c (.lf (.int .i64 2)))))), none⟩, [13], false, 0, 0⟩,
  ⟨⟨(some 4), .rd (.mv (.t 28)), none⟩, [12, 5, 11, 4, 3, 2, 0, 1, 10, 9, 6, 8, 7], false, 0, 0⟩,
  ⟨⟨(some 5), .rd (.mv (.t 30)), none⟩, [14, 15, 13, 12, 5, 11, 4, 3, 2, 0, 1, 10, 9, 6, 8, 7], false, 0, 0⟩,
  ⟨⟨(some 6), .rd (.mv (.k (.a (.c (.lf (.bool true)))))), none⟩, [16, 14, 15, 13, 12, 5, 11, 4, 3, 2, 0, 1, 10, 9, 6, 8, 7], false, 0, 0⟩]
def s125 : Stm := (.seq (.reg s125_0) (.seq (.seq (.reg s125_1) (.cond (.t 15) (.seq (.reg s125_2) .ret) .skip)) (.seq (.drw s125_3) .ret)))
theorem tr125 : (Try.f125.body.bind (trC Try.prog Try.f125.ntmps)) = some s125 := by kernel_rfl
-- loop.example/g00475/laws.toByteS
def s27_0 : List GI := [⟨(some 2), .rd (.mv (.k (.a (.c (.nl 1))))), none⟩]
def s27_1 : List GI := [⟨(some 5), .rd (.mv (.t 0)), none⟩,
  ⟨(some 6), .rd (.len (.t 5)), none⟩,
  ⟨(some 7), .wr (.mks 1 1 [.lf (.int .u8 0)] (.t 6) (.t 6)), none⟩,
  ⟨(some 3), .rd (.mv (.t 7)), none⟩]
def s27_2 : List GI := [⟨(some 4), .rd (.mv (.k (.a (.c (.lf (.int .i64 0)))))), none⟩]
def s27_3 : List GI := [⟨(some 8), .rd (.mv (.t 4)), none⟩,
  ⟨(some 9), .rd (.mv (.t 0)), none⟩,
  ⟨(some 10), .rd (.len (.t 9)), none⟩,
  ⟨(some 11), .rd (.bin .lss (.t 8) (.t 10)), none⟩]
def s27_5 : List GI := [⟨(some 14), .rd (.mv (.t 3)), none⟩,
  ⟨(some 15), .rd (.mv (.t 4)), none⟩,
  ⟨(some 16), .rd (.mv (.t 0)), none⟩,
  ⟨(some 17), .rd (.mv (.t 4)), none⟩,
  ⟨(some 18), .rd (.iad 1 (.t 16) (.t 17)), none⟩,
  ⟨(some 19), .rd (.load none (.t 18)), none⟩,
  ⟨(some 20), .rd (.iad 1 (.t 14) (.t 15)), none⟩,
  ⟨none, .wr (.store 1 (.t 20) (.t 19)), none⟩]
def s27_4 : List GI := [⟨(some 12), .rd (.mv (.t 4)), none⟩,
  ⟨(some 13), .rd (.bin .add (.t 12) (.k (.a (.c (.lf (.int .i64 1)))))), none⟩,
  ⟨(some 4), .rd (.mv (.t 13)), none⟩]
def s27_6 : List GI := [⟨(some 21), .rd (.mv (.t 3)), none⟩,
  ⟨(some 2), .rd (.mv (.t 21)), none⟩]
def s27 : Stm := (.seq (.reg s27_0) (.seq (.reg s27_1) (.seq (.seq (.reg s27_2) (.block 0 (.loop (.seq (.seq (.reg s27_3) (.cond (.t 11) .skip (.exit 0))) (.seq (.block 1 (.reg s27_5)) (.reg s27_4)))))) (.seq (.reg s27_6) .ret))))
theorem tr27 : (Try.f27.body.bind (trC Try.prog Try.f27.ntmps)) = some s27 := by kernel_rfl
-- loop.example/g00475/laws.FnExactGetHead
def s5_0 : List GI := [⟨(some 2), .rd (.mv (.k (.a (.c (.lf (.bool false)))))), none⟩]
def s5_1 : List GI := [⟨(some 10), .rd (.mv (.t 0)), none⟩,
  ⟨(some 11), .rd (.len (.t 10)), none⟩,
  ⟨(some 12), .rd (.bin .gtr (.t 11) (.k (.a (.c (.lf (.int .i64 1048576)))))), none⟩]
def s5_2 : List GI := [⟨(some 2), .rd (.mv (.k (.a (.c (.lf (.bool true)))))), none⟩]
def s5_3 : List GI := [⟨(some 14), .rd (.mv (.t 0)), none⟩,
  ⟨(some 15), .wr (.call 27 [(.t 14)]), none⟩,
  ⟨(some 16), .wr (.call 26 [(.t 15)]), none⟩,
  ⟨(some 13), .rd (.mv (.t 16)), none⟩,
  ⟨(some 17), .rd (.ext 0 (.t 13)), none⟩,
  ⟨(some 18), .rd (.ext 1 (.t 13)), none⟩,
  ⟨(some 19), .rd (.ext 2 (.t 13)), none⟩,
  ⟨(some 3), .rd (.mv (.t 17)), none⟩,
  ⟨(some 4), .rd (.mv (.t 18)), none⟩,
  ⟨(some 5), .rd (.mv (.t 19)), none⟩]
def s5_4 : List GI := [⟨(some 20), .rd (.mv (.t 0)), none⟩,
  ⟨(some 21), .wr (.call 27 [(.t 20)]), none⟩,
  ⟨(some 6), .rd (.mv (.t 21)), none⟩]
def s5_5 : List GI := [⟨(some 23), .rd (.mv (.t 6)), none⟩,
  ⟨(some 24), .wr (.call 28 [(.t 23)]), none⟩,
  ⟨(some 22), .rd (.mv (.t 24)), none⟩,
  ⟨(some 25), .rd (.ext 0 (.t 22)), none⟩,
  ⟨(some 26), .rd (.ext 1 (.t 22)), none⟩,
  ⟨(some 27), .rd (.ext 2 (.t 22)), none⟩,
  ⟨(some 7), .rd (.mv (.t 25)), none⟩,
  ⟨(some 8), .rd (.mv (.t 26)), none⟩,
  ⟨(some 9), .rd (.mv (.t 27)), none⟩]
def s5_6 : List GI := [⟨(some 28), .rd (.mv (.t 7)), none⟩,
  ⟨(some 29), .rd (.mv (.t 3)), none⟩,
  ⟨(some 30), .rd (.bin .neq (.t 28) (.t 29)), none⟩,
  ⟨(some 31), .rd (.mv (.t 30)), none⟩,
  ⟨(some 32), .rd (.mv (.t 8)), (some (31, false))⟩,
  ⟨(some 33), .rd (.mv (.t 4)), (some (31, false))⟩,
  ⟨(some 34), .rd (.bin .neq (.t 32) (.t 33)), (some (31, false))⟩,
  ⟨(some 35), .rd (.pick (.t 31) (.k (.a (.c (.lf (.bool true))))) (.t 34)), none⟩,
  ⟨(some 36), .rd (.mv (.t 35)), none⟩,
  ⟨(some 37), .rd (.mv (.t 9)), (some (36, false))⟩,
  ⟨(some 38), .rd (.mv (.t 5)), (some (36, false))⟩,
  ⟨(some 39), .rd (.beq true (.t 37) (.t 38)), (some (36, false))⟩,
  ⟨(some 40), .rd (.pick (.t 36) (.k (.a (.c (.lf (.bool true))))) (.t 39)), none⟩]
def s5_7 : List GI := [⟨(some 2), .rd (.mv (.k (.a (.c (.lf (.bool false)))))), none⟩]
def s5_8 : List GI := [⟨(some 41), .rd (.mv (.t 6)), none⟩,
  ⟨(some 42), .rd (.mv (.t 0)), none⟩,
  ⟨(some 43), .wr (.call 27 [(.t 42)]), none⟩,
  ⟨(some 44), .wr (.call 23 [(.t 41), (.t 43)]), none⟩,
  ⟨(some 45), .rd (.un .not (.t 44)), none⟩]
def s5_9 : List GI := [⟨(some 2), .rd (.mv (.k (.a (.c (.lf (.bool false)))))), none⟩]
def s5_10 : List GI := [⟨(some 2), .rd (.mv (.k (.a (.c (.lf (.bool true)))))), none⟩]
def s5 : Stm := (.seq (.reg s5_0) (.seq (.seq (.reg s5_1) (.cond (.t 12) (.seq (.reg s5_2) .ret) .skip)) (.seq (.reg s5_3) (.seq (.reg s5_4) (.seq (.reg s5_5) (.seq (.seq (.reg s5_6) (.cond (.t 40) (.seq (.reg s5_7) .ret) .skip)) (.seq (.seq (.reg s5_8) (.cond (.t 45) (.seq (.reg s5_9) .ret) .skip)) (.seq (.reg s5_10) .ret))))))))
theorem tr5 : (Try.f5.body.bind (trC Try.prog Try.f5.ntmps)) = some s5 := by kernel_rfl
end Go.Proofs.Ytgbapgjdkoojdaa
