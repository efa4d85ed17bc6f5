import Derived.Test.YtgbapgjdkoojdaaProg
import Derived.Test.YtgbapgjdkoojdaaVsW2
set_option linter.unusedVariables false
set_option linter.unusedSimpArgs false
namespace Go.Proofs.Ytgbapgjdkoojdaa
open Go.Vs
set_option maxRecDepth 100000
-- loop.example/g00475/impl.copyDev
def s99_0 : List GI := [⟨(some 1), .wr (.box (.t 0)), none⟩,
  ⟨(some 2), .wr (.alloc [.nl 1, .nl 2, .lf (.int .i64 0), .lf (.bool false)]), none⟩]
def s99_1 : List GI := [⟨(some 8), .rd (.fad 2 (.t 1)), none⟩,
  ⟨(some 9), .rd (.load none (.t 8)), none⟩,
  ⟨(some 10), .rd (.fad 3 (.t 1)), none⟩,
  ⟨(some 11), .rd (.load none (.t 10)), none⟩,
  ⟨(some 12), .rd (.build [.nl 1, .nl 2, .lf (.int .i64 0), .lf (.bool false)] [(2, 1, (.t 9)), (3, 1, (.t 11))]), none⟩,
  ⟨(some 3), .wr (.alloc [.nl 1, .nl 2, .lf (.int .i64 0), .lf (.bool false)]), none⟩,
  ⟨none, .wr (.store 4 (.t 3) (.t 12)), none⟩]
def s99_2 : List GI := [⟨(some 13), .rd (.fad 0 (.t 1)), none⟩,
  ⟨(some 14), .rd (.load none (.t 13)), none⟩,
  ⟨(some 15), .rd (.len (.t 14)), none⟩,
  ⟨(some 16), .rd (.mv (.k (.a (.c (.lf (.int .i64 0)))))), none⟩]
def s99_3 : List GI := [⟨(some 17), .rd (.bin .lss (.t 16) (.t 15)), none⟩]
def s99_4 : List GI := [⟨(some 18), .rd (.iad 1 (.t 14) (.t 16)), none⟩,
  ⟨(some 19), .rd (.load none (.t 18)), none⟩,
  ⟨(some 5), .rd (.mv (.t 19)), none⟩]
def s99_5 : List DI := [⟨⟨(some 20), .rd (.fad 0 (.t 3)), none⟩, [], false, 0, 3⟩,
  ⟨⟨(some 21), .rd (.load none (.t 20)), none⟩, [0], false, 0, 3⟩,
  ⟨⟨(some 22), .rd (.mv (.t 5)), none⟩, [], false, 0, 0⟩,
  ⟨⟨(some 23), .wr (.lit 1 1 [.nl 1] [(0, (.t 22))]), none⟩, [2], true, 0, 0⟩,
  ⟨⟨(some 24), .wr (.call 101 [(.t 23)]), none⟩, [3, 2], true, 0, 0⟩,
  ⟨⟨(some 25), .wr (.lit 1 1 [.nl 1] [(0, (.t 24))]), none⟩, [4, 3, 2], true, 0, 0⟩,
  ⟨⟨(some 26), .wr (.app 1 24 [.nl 1] (.t 21) (.t 25)), none⟩, [1, 5, 0, 4, 3, 2], true, 0, 0⟩,
  ⟨⟨(some 27), .rd (.fad 0 (.t 3)), none⟩, [6, 1, 5, 0, 4, 3, 2], false, 4, 4⟩,
  ⟨⟨none, .wr (.store 1 (.t 27) (.t 26)), none⟩, [7, 6, 1, 5, 0, 4, 3, 2], true, 0, 0⟩]
def s99_6 : List GI := [⟨(some 28), .rd (.bin .add (.t 16) (.k (.a (.c (.lf (.int .i64 1)))))), none⟩,
  ⟨(some 16), .rd (.mv (.t 28)), none⟩]
def s99_7 : List GI := [⟨(some 29), .rd (.fad 1 (.t 1)), none⟩,
  ⟨(some 30), .rd (.load none (.t 29)), none⟩,
  ⟨(some 31), .rd (.len (.t 30)), none⟩,
  ⟨(some 32), .rd (.mv (.k (.a (.c (.lf (.int .i64 0)))))), none⟩]
def s99_8 : List GI := [⟨(some 33), .rd (.bin .lss (.t 32) (.t 31)), none⟩]
def s99_9 : List GI := [⟨(some 34), .rd (.iad 2 (.t 30) (.t 32)), none⟩,
  ⟨(some 35), .rd (.load (some 2) (.t 34)), none⟩,
  ⟨(some 7), .wr (.alloc [.lf (.int .i64 0), .nl 1]), none⟩,
  ⟨none, .wr (.store 2 (.t 7) (.t 35)), none⟩]
def s99_10 : List DI := [⟨⟨(some 36), .rd (.fad 1 (.t 3)), none⟩, [], false, 0, 3⟩,
  ⟨⟨(some 37), .rd (.load none (.t 36)), none⟩, [0], false, 0, 3⟩,
  ⟨⟨(some 38), .rd (.fad 0 (.t 7)), none⟩, [], false, 0, 2⟩,
  ⟨⟨(some 39), .rd (.load none (.t 38)), none⟩, [2], false, 0, 2⟩,
  ⟨⟨(some 40), .rd (.fad 1 (.t 7)), none⟩, [], false, 0, 0⟩,
  ⟨⟨(some 41), .rd (.load none (.t 40)), none⟩, [4], false, 0, 0⟩,
  ⟨⟨(some 42), .wr (.lit 1 1 [.nl 1] [(0, (.t 41))]), none⟩, [5, 4], true, 0, 0⟩,
  ⟨⟨(some 43), .wr (.call 101 [(.t 42)]), none⟩, [6, 5, 4], true, 0, 0⟩,
  ⟨⟨(some 44), .rd (.build [.lf (.int .i64 0), .nl 1] [(0, 1, (.t 39)), (1, 1, (.t 43))]), none⟩, [3, 7, 2, 6, 5, 4], false, 2, 2⟩,
  ⟨⟨(some 45), .wr (.lit 2 1 [.lf (.int .i64 0), .nl 1] [(0, (.t 44))]), none⟩, [8, 3, 7, 2, 6, 5, 4], true, 0, 0⟩,
  ⟨⟨(some 46), .wr (.app 2 32 [.lf (.int .i64 0), .nl 1] (.t 37) (.t 45)), none⟩, [1, 9, 0, 8, 3, 7, 2, 6, 5, 4], true, 0, 0⟩,
  ⟨⟨(some 47), .rd (.fad 1 (.t 3)), none⟩, [10, 1, 9, 0, 8, 3, 7, 2, 6, 5, 4], false, 4, 4⟩,
  ⟨⟨none, .wr (.store 1 (.t 47) (.t 46)), none⟩, [11, 10, 1, 9, 0, 8, 3, 7, 2, 6, 5, 4], true, 0, 0⟩]
def s99_11 : List GI := [⟨(some 48), .rd (.bin .add (.t 32) (.k (.a (.c (.lf (.int .i64 1)))))), none⟩,
  ⟨(some 32), .rd (.mv (.t 48)), none⟩]
def s99_12 : List GI := [⟨(some 49), .rd (.load (some 4) (.t 3)), none⟩,
  ⟨none, .wr (.store 4 (.t 2) (.t 49)), none⟩]
def s99 : Stm := (.seq (.reg s99_0) (.seq (.reg s99_1) (.seq (.seq (.reg s99_2) (.block 0 (.loop (.seq (.reg s99_3) (.seq (.cond (.t 17) .skip (.exit 0)) (.seq (.block 1 (.seq (.reg s99_4) (.drw s99_5))) (.reg s99_6))))))) (.seq (.seq (.reg s99_7) (.block 2 (.loop (.seq (.reg s99_8) (.seq (.cond (.t 33) .skip (.exit 2)) (.seq (.block 3 (.seq (.reg s99_9) (.drw s99_10))) (.reg s99_11))))))) (.seq (.reg s99_12) .ret)))))
theorem tr99 : (Try.f99.body.bind (trC Try.prog Try.f99.ntmps)) = some s99 := by kernel_rfl
-- loop.example/g00475/spec.l10Copy
def s114_0 : List GI := [⟨(some 1), .wr (.box (.t 0)), none⟩,
  ⟨(some 2), .wr (.alloc [.nl 1, .nl 2, .lf (.int .i64 0), .lf (.bool false)]), none⟩]
def s114_1 : List GI := [⟨(some 6), .rd (.fad 2 (.t 1)), none⟩,
  ⟨(some 7), .rd (.load none (.t 6)), none⟩,
  ⟨(some 8), .rd (.fad 3 (.t 1)), none⟩,
  ⟨(some 9), .rd (.load none (.t 8)), none⟩,
  ⟨(some 10), .rd (.build [.nl 1, .nl 2, .lf (.int .i64 0), .lf (.bool false)] [(2, 1, (.t 7)), (3, 1, (.t 9))]), none⟩,
  ⟨(some 3), .wr (.alloc [.nl 1, .nl 2, .lf (.int .i64 0), .lf (.bool false)]), none⟩,
  ⟨none, .wr (.store 4 (.t 3) (.t 10)), none⟩]
def s114_2 : List GI := [⟨(some 4), .rd (.mv (.k (.a (.c (.lf (.int .i64 0)))))), none⟩]
def s114_3 : List GI := [⟨(some 11), .rd (.mv (.t 4)), none⟩,
  ⟨(some 12), .rd (.fad 0 (.t 1)), none⟩,
  ⟨(some 13), .rd (.load none (.t 12)), none⟩,
  ⟨(some 14), .rd (.len (.t 13)), none⟩,
  ⟨(some 15), .rd (.bin .lss (.t 11) (.t 14)), none⟩]
def s114_5 : List DI := [⟨⟨(some 18), .rd (.fad 0 (.t 3)), none⟩, [], false, 0, 3⟩,
  ⟨⟨(some 19), .rd (.load none (.t 18)), none⟩, [0], false, 0, 3⟩,
  ⟨⟨(some 20), .wr (.lit 1 0 [.lf (.int .u8 0)] []), none⟩, [], true, 0, 0⟩,
  ⟨⟨(some 21), .rd (.fad 0 (.t 1)), none⟩, [], false, 0, 1⟩,
  ⟨⟨(some 22), .rd (.load none (.t 21)), none⟩, [3], false, 0, 1⟩,
  ⟨⟨(some 23), .rd (.mv (.t 4)), none⟩, [], false, 0, 1⟩,
  ⟨⟨(some 24), .rd (.iad 1 (.t 22) (.t 23)), none⟩, [4, 5, 3], false, 0, 1⟩,
  ⟨⟨(some 25), .rd (.load none (.t 24)), none⟩, [6, 4, 5, 3], false, 0, 1⟩,
  ⟨⟨(some 26), .wr (.app 1 1 [.lf (.int .u8 0)] (.t 20) (.t 25)), none⟩, [2, 7, 6, 4, 5, 3], true, 0, 0⟩,
  ⟨⟨(some 27), .wr (.lit 1 1 [.nl 1] [(0, (.t 26))]), none⟩, [8, 2, 7, 6, 4, 5, 3], true, 0, 0⟩,
  ⟨⟨(some 28), .wr (.app 1 24 [.nl 1] (.t 19) (.t 27)), none⟩, [1, 9, 0, 8, 2, 7, 6, 4, 5, 3], true, 0, 0⟩,
  ⟨⟨(some 29), .rd (.fad 0 (.t 3)), none⟩, [10, 1, 9, 0, 8, 2, 7, 6, 4, 5, 3], false, 4, 4⟩,
  ⟨⟨none, .wr (.store 1 (.t 29) (.t 28)), none⟩, [11, 10, 1, 9, 0, 8, 2, 7, 6, 4, 5, 3], true, 0, 0⟩]
def s114_4 : List GI := [⟨(some 16), .rd (.mv (.t 4)), none⟩,
  ⟨(some 17), .rd (.bin .add (.t 16) (.k (.a (.c (.lf (.int .i64 1)))))), none⟩,
  ⟨(some 4), .rd (.mv (.t 17)), none⟩]
def s114_6 : List GI := [⟨(some 5), .rd (.mv (.k (.a (.c (.lf (.int .i64 0)))))), none⟩]
def s114_7 : List GI := [⟨(some 30), .rd (.mv (.t 5)), none⟩,
  ⟨(some 31), .rd (.fad 1 (.t 1)), none⟩,
  ⟨(some 32), .rd (.load none (.t 31)), none⟩,
  ⟨(some 33), .rd (.len (.t 32)), none⟩,
  ⟨(some 34), .rd (.bin .lss (.t 30) (.t 33)), none⟩]
def s114_9 : List DI := [⟨⟨(some 37), .rd (.fad 1 (.t 3)), none⟩, [], false, 0, 3⟩,
  ⟨⟨(some 38), .rd (.load none (.t 37)), none⟩, [0], false, 0, 3⟩,
  ⟨⟨(some 39), .rd (.fad 1 (.t 1)), none⟩, [], false, 0, 2⟩,
  ⟨⟨(some 40), .rd (.load none (.t 39)), none⟩, [2], false, 0, 2⟩,
  ⟨⟨(some 41), .rd (.mv (.t 5)), none⟩, [], false, 0, 2⟩,
  ⟨⟨(some 42), .rd (.iad 2 (.t 40) (.t 41)), none⟩, [3, 4, 2], false, 0, 2⟩,
  ⟨⟨(some 43), .rd (.fad 0 (.t 42)), none⟩, [5, 3, 4, 2], false, 0, 2⟩,
  ⟨⟨(some 44), .rd (.load none (.t 43)), none⟩, [6, 5, 3, 4, 2], false, 0, 2⟩,
  ⟨⟨(some 45), .wr (.lit 1 0 [.lf (.int .u8 0)] []), none⟩, [], true, 0, 0⟩,
  ⟨⟨(some 46), .rd (.fad 1 (.t 1)), none⟩, [], false, 0, 1⟩,
  ⟨⟨(some 47), .rd (.load none (.t 46)), none⟩, [9], false, 0, 1⟩,
  ⟨⟨(some 48), .rd (.mv (.t 5)), none⟩, [], false, 0, 1⟩,
  ⟨⟨(some 49), .rd (.iad 2 (.t 47) (.t 48)), none⟩, [10, 11, 9], false, 0, 1⟩,
  ⟨⟨(some 50), .rd (.fad 1 (.t 49)), none⟩, [12, 10, 11, 9], false, 0, 1⟩,
  ⟨⟨(some 51), .rd (.load none (.t 50)), none⟩, [13, 12, 10, 11, 9], false, 0, 1⟩,
  ⟨⟨(some 52), .wr (.app 1 1 [.lf (.int .u8 0)] (.t 45) (.t 51)), none⟩, [8, 14, 13, 12, 10, 11, 9], true, 0, 0⟩,
  ⟨⟨(some 53), .rd (.build [.lf (.int .i64 0), .nl 1] [(0, 1, (.t 44)), (1, 1, (.t 52))]), none⟩, [7, 15, 6, 5, 3, 4, 2, 8, 14, 13, 12, 10, 11, 9], false, 2, 2⟩,
  ⟨⟨(some 54), .wr (.lit 2 1 [.lf (.int .i64 0), .nl 1] [(0, (.t 53))]), none⟩, [16, 7, 15, 6, 5, 3, 4, 2, 8, 14, 13, 12, 10, 11, 9], true, 0, 0⟩,
  ⟨⟨(some 55), .wr (.app 2 32 [.lf (.int .i64 0), .nl 1] (.t 38) (.t 54)), none⟩, [1, 17, 0, 16, 7, 15, 6, 5, 3, 4, 2, 8, 14, 13, 12, 10, 11, 9], true, 0, 0⟩,
  ⟨⟨(some 56), .rd (.fad 1 (.t 3)), none⟩, [18, 1, 17, 0, 16, 7, 15, 6, 5, 3, 4, 2, 8, 14, 13, 12, 10, 11, 9], false, 4, 4⟩,
  ⟨⟨none, .wr (.store 1 (.t 56) (.t 55)), none⟩, [19, 18, 1, 17, 0, 16, 7, 15, 6, 5, 3, 4, 2, 8, 14, 13, 12, 10, 11, 9], true, 0, 0⟩]
def s114_8 : List GI := [⟨(some 35), .rd (.mv (.t 5)), none⟩,
  ⟨(some 36), .rd (.bin .add (.t 35) (.k (.a (.c (.lf (.int .i64 1)))))), none⟩,
  ⟨(some 5), .rd (.mv (.t 36)), none⟩]
def s114_10 : List GI := [⟨(some 57), .rd (.load (some 4) (.t 3)), none⟩,
  ⟨none, .wr (.store 4 (.t 2) (.t 57)), none⟩]
def s114 : Stm := (.seq (.reg s114_0) (.seq (.reg s114_1) (.seq (.seq (.reg s114_2) (.block 0 (.loop (.seq (.seq (.reg s114_3) (.cond (.t 15) .skip (.exit 0))) (.seq (.block 1 (.drw s114_5)) (.reg s114_4)))))) (.seq (.seq (.reg s114_6) (.block 2 (.loop (.seq (.seq (.reg s114_7) (.cond (.t 34) .skip (.exit 2))) (.seq (.block 3 (.drw s114_9)) (.reg s114_8)))))) (.seq (.reg s114_10) .ret)))))
theorem tr114 : (Try.f114.body.bind (trC Try.prog Try.f114.ntmps)) = some s114 := by kernel_rfl
-- loop.example/g00475/impl.burn
def s100_0 : List GI := [⟨(some 1), .wr (.box (.t 0)), none⟩,
  ⟨(some 2), .wr (.alloc [.nl 1, .nl 2, .lf (.int .i64 0), .lf (.bool false)]), none⟩,
  ⟨(some 3), .rd (.mv (.k (.a (.c (.lf (.bool false)))))), none⟩]
def s100_1 : List GI := [⟨(some 4), .rd (.fad 2 (.t 1)), none⟩,
  ⟨(some 5), .rd (.load none (.t 4)), none⟩,
  ⟨(some 6), .rd (.bin .eql (.t 5) (.k (.a (.c (.lf (.int .i64 0)))))), none⟩]
def s100_2 : List GI := [⟨(some 7), .rd (.fad 3 (.t 1)), none⟩,
  ⟨none, .wr (.store 1 (.t 7) (.k (.a (.c (.lf (.bool true)))))), none⟩,
  ⟨(some 8), .rd (.fad 2 (.t 1)), none⟩,
  ⟨none, .wr (.store 1 (.t 8) (.k (.a (.c (.lf (.int .i64 (-1))))))), none⟩]
def s100_3 : List GI := [⟨(some 9), .rd (.load (some 4) (.t 1)), none⟩,
  ⟨none, .wr (.store 4 (.t 2) (.t 9)), none⟩,
  ⟨(some 3), .rd (.mv (.k (.a (.c (.lf (.bool false)))))), none⟩]
def s100_4 : List GI := [⟨(some 10), .rd (.fad 2 (.t 1)), none⟩,
  ⟨(some 11), .rd (.load none (.t 10)), none⟩,
  ⟨(some 12), .rd (.bin .gtr (.t 11) (.k (.a (.c (.lf (.int .i64 0)))))), none⟩]
def s100_5 : List GI := [⟨(some 13), .rd (.fad 2 (.t 1)), none⟩,
  ⟨(some 14), .rd (.load none (.t 13)), none⟩,
  ⟨(some 15), .rd (.bin .sub (.t 14) (.k (.a (.c (.lf (.int .i64 1)))))), none⟩,
  ⟨(some 16), .rd (.fad 2 (.t 1)), none⟩,
  ⟨none, .wr (.store 1 (.t 16) (.t 15)), none⟩]
def s100_6 : List GI := [⟨(some 17), .rd (.load (some 4) (.t 1)), none⟩,
  ⟨none, .wr (.store 4 (.t 2) (.t 17)), none⟩,
  ⟨(some 3), .rd (.mv (.k (.a (.c (.lf (.bool true)))))), none⟩]
def s100 : Stm := (.seq (.reg s100_0) (.seq (.seq (.reg s100_1) (.cond (.t 6) (.seq (.reg s100_2) (.seq (.reg s100_3) .ret)) .skip)) (.seq (.seq (.reg s100_4) (.cond (.t 12) (.reg s100_5) .skip)) (.seq (.reg s100_6) .ret))))
theorem tr100 : (Try.f100.body.bind (trC Try.prog Try.f100.ntmps)) = some s100 := by kernel_rfl
-- loop.example/g00475/spec.l10Op
def s137_0 : List GI := [⟨(some 2), .rd (.mv (.k (.a (.c (.lf (.bool false)))))), none⟩]
def s137_1 : List GI := [⟨(some 3), .rd (.mv (.t 0)), none⟩,
  ⟨(some 4), .rd (.nilc (.t 3)), none⟩,
  ⟨(some 5), .rd (.fad 2 (.t 4)), none⟩,
  ⟨(some 6), .rd (.load none (.t 5)), none⟩,
  ⟨(some 7), .rd (.bin .eql (.t 6) (.k (.a (.c (.lf (.int .i64 0)))))), none⟩]
def s137_2 : List GI := [⟨(some 8), .rd (.mv (.t 0)), none⟩,
  ⟨(some 9), .rd (.nilc (.t 8)), none⟩,
  ⟨(some 10), .rd (.fad 3 (.t 9)), none⟩,
  ⟨none, .wr (.store 1 (.t 10) (.k (.a (.c (.lf (.bool true)))))), none⟩]
def s137_3 : List GI := [⟨(some 11), .rd (.mv (.t 0)), none⟩,
  ⟨(some 12), .rd (.nilc (.t 11)), none⟩,
  ⟨(some 13), .rd (.fad 2 (.t 12)), none⟩,
  ⟨none, .wr (.store 1 (.t 13) (.k (.a (.c (.lf (.int .i64 (-1))))))), none⟩]
def s137_4 : List GI := [⟨(some 2), .rd (.mv (.k (.a (.c (.lf (.bool false)))))), none⟩]
def s137_5 : List GI := [⟨(some 14), .rd (.mv (.t 0)), none⟩,
  ⟨(some 15), .rd (.nilc (.t 14)), none⟩,
  ⟨(some 16), .rd (.fad 2 (.t 15)), none⟩,
  ⟨(some 17), .rd (.load none (.t 16)), none⟩,
  ⟨(some 18), .rd (.bin .gtr (.t 17) (.k (.a (.c (.lf (.int .i64 0)))))), none⟩]
def s137_6 : List GI := [⟨(some 19), .rd (.mv (.t 0)), none⟩,
  ⟨(some 20), .rd (.mv (.t 0)), none⟩,
  ⟨(some 21), .rd (.nilc (.t 20)), none⟩,
  ⟨(some 22), .rd (.fad 2 (.t 21)), none⟩,
  ⟨(some 23), .rd (.load none (.t 22)), none⟩,
  ⟨(some 24), .rd (.bin .sub (.t 23) (.k (.a (.c (.lf (.int .i64 1)))))), none⟩,
  ⟨(some 25), .rd (.nilc (.t 19)), none⟩,
  ⟨(some 26), .rd (.fad 2 (.t 25)), none⟩,
  ⟨none, .wr (.store 1 (.t 26) (.t 24)), none⟩]
def s137_7 : List GI := [⟨(some 2), .rd (.mv (.k (.a (.c (.lf (.bool true)))))), none⟩]
def s137 : Stm := (.seq (.reg s137_0) (.seq (.seq (.reg s137_1) (.cond (.t 7) (.seq (.reg s137_2) (.seq (.reg s137_3) (.seq (.reg s137_4) .ret))) .skip)) (.seq (.seq (.reg s137_5) (.cond (.t 18) (.reg s137_6) .skip)) (.seq (.reg s137_7) .ret))))
theorem tr137 : (Try.f137.body.bind (trC Try.prog Try.f137.ntmps)) = some s137 := by kernel_rfl
-- loop.example/g00475/spec.l10Write
def s115_0 : List GI := [⟨(some 6), .rd (.mv (.t 0)), none⟩,
  ⟨(some 7), .rd (.nilc (.t 6)), none⟩,
  ⟨(some 8), .rd (.fad 3 (.t 7)), none⟩,
  ⟨(some 9), .rd (.load none (.t 8)), none⟩,
  ⟨(some 10), .rd (.mv (.t 9)), none⟩,
  ⟨(some 11), .rd (.mv (.t 1)), (some (10, false))⟩,
  ⟨(some 12), .rd (.mv (.t 0)), (some (10, false))⟩,
  ⟨(some 13), .rd (.nilc (.t 12)), (some (10, false))⟩,
  ⟨(some 14), .rd (.fad 0 (.t 13)), (some (10, false))⟩,
  ⟨(some 15), .rd (.load none (.t 14)), (some (10, false))⟩,
  ⟨(some 16), .rd (.len (.t 15)), (some (10, false))⟩,
  ⟨(some 17), .rd (.bin .sub (.t 16) (.k (.a (.c (.lf (.int .i64 1)))))), (some (10, false))⟩,
  ⟨(some 18), .wr (.call 74 [(.t 11), (.k (.a (.c (.lf (.int .i64 0))))), (.t 17)]), (some (10, false))⟩,
  ⟨(some 19), .rd (.un .not (.t 18)), (some (10, false))⟩,
  ⟨(some 20), .rd (.pick (.t 10) (.k (.a (.c (.lf (.bool true))))) (.t 19)), none⟩,
  ⟨(some 21), .rd (.mv (.t 20)), none⟩,
  ⟨(some 22), .rd (.mv (.t 2)), (some (21, false))⟩,
  ⟨(some 23), .rd (.len (.t 22)), (some (21, false))⟩,
  ⟨(some 24), .rd (.bin .gtr (.t 23) (.k (.a (.c (.lf (.int .i64 120)))))), (some (21, false))⟩,
  ⟨(some 25), .rd (.pick (.t 21) (.k (.a (.c (.lf (.bool true))))) (.t 24)), none⟩,
  ⟨(some 26), .rd (.mv (.t 25)), none⟩,
  ⟨(some 27), .rd (.mv (.t 0)), (some (26, false))⟩,
  ⟨(some 28), .rd (.nilc (.t 27)), (some (26, false))⟩,
  ⟨(some 29), .rd (.fad 1 (.t 28)), (some (26, false))⟩,
  ⟨(some 30), .rd (.load none (.t 29)), (some (26, false))⟩,
  ⟨(some 31), .rd (.len (.t 30)), (some (26, false))⟩,
  ⟨(some 32), .rd (.bin .geq (.t 31) (.k (.a (.c (.lf (.int .i64 40)))))), (some (26, false))⟩,
  ⟨(some 33), .rd (.pick (.t 26) (.k (.a (.c (.lf (.bool true))))) (.t 32)), none⟩,
  ⟨(some 34), .rd (.mv (.t 33)), none⟩,
  ⟨(some 35), .rd (.mv (.t 0)), (some (34, false))⟩,
  ⟨(some 36), .wr (.call 137 [(.t 35)]), (some (34, false))⟩,
  ⟨(some 37), .rd (.un .not (.t 36)), (some (34, false))⟩,
  ⟨(some 38), .rd (.pick (.t 34) (.k (.a (.c (.lf (.bool true))))) (.t 37)), none⟩]
def s115_1 : List DI := [⟨⟨(some 39), .rd (.mv (.t 0)), none⟩, [], false, 0, 4⟩,
  ⟨⟨(some 40), .rd (.mv (.t 0)), none⟩, [], false, 0, 3⟩,
  ⟨⟨(some 41), .rd (.nilc (.t 40)), none⟩, [1], false, 0, 3⟩,
  ⟨⟨(some 42), .rd (.fad 1 (.t 41)), none⟩, [2, 1], false, 0, 3⟩,
  ⟨⟨(some 43), .rd (.load none (.t 42)), none⟩, [3, 2, 1], false, 0, 3⟩,
  ⟨⟨(some 44), .rd (.mv (.t 1)), none⟩, [], false, 0, 2⟩,
  ⟨⟨(some 45), .wr (.lit 1 0 [.lf (.int .u8 0)] []), none⟩, [], true, 0, 0⟩,
  ⟨⟨(some 46), .rd (.mv (.t 2)), none⟩, [], false, 0, 1⟩,
  ⟨⟨(some 47), .wr (.app 1 1 [.lf (.int .u8 0)] (.t 45) (.t 46)), none⟩, [6, 7], true, 0, 0⟩,
  ⟨⟨(some 48), .rd (.build [.lf (.int .i64 0), .nl 1] [(0, 1, (.t 44)), (1, 1, (.t 47))]), none⟩, [5, 8, 6, 7], false, 2, 2⟩,
  ⟨⟨(some 49), .wr (.lit 2 1 [.lf (.int .i64 0), .nl 1] [(0, (.t 48))]), none⟩, [9, 5, 8, 6, 7], true, 0, 0⟩,
  ⟨⟨(some 50), .wr (.app 2 32 [.lf (.int .i64 0), .nl 1] (.t 43) (.t 49)), none⟩, [4, 10, 3, 2, 1, 9, 5, 8, 6, 7], true, 0, 0⟩,
  ⟨⟨(some 51), .rd (.nilc (.t 39)), none⟩, [0, 11, 4, 10, 3, 2, 1, 9, 5, 8, 6, 7], false, 4, 4⟩,
  ⟨⟨(some 52), .rd (.fad 1 (.t 51)), none⟩, [12, 0, 11, 4, 10, 3, 2, 1, 9, 5, 8, 6, 7], false, 4, 4⟩,
  ⟨⟨none, .wr (.store 1 (.t 52) (.t 50)), none⟩, [13, 12, 0, 11, 4, 10, 3, 2, 1, 9, 5, 8, 6, 7], true, 0, 0⟩]
def s115 : Stm := (.seq (.seq (.reg s115_0) (.cond (.t 38) .ret .skip)) (.drw s115_1))
theorem tr115 : (Try.f115.body.bind (trC Try.prog Try.f115.ntmps)) = some s115 := by kernel_rfl
-- loop.example/g00475/spec.l10Flush
def s118_0 : List GI := [⟨(some 3), .rd (.mv (.t 0)), none⟩,
  ⟨(some 4), .rd (.nilc (.t 3)), none⟩,
  ⟨(some 5), .rd (.fad 3 (.t 4)), none⟩,
  ⟨(some 6), .rd (.load none (.t 5)), none⟩,
  ⟨(some 7), .rd (.mv (.t 6)), none⟩,
  ⟨(some 8), .rd (.mv (.t 0)), (some (7, false))⟩,
  ⟨(some 9), .wr (.call 137 [(.t 8)]), (some (7, false))⟩,
  ⟨(some 10), .rd (.un .not (.t 9)), (some (7, false))⟩,
  ⟨(some 11), .rd (.pick (.t 7) (.k (.a (.c (.lf (.bool true))))) (.t 10)), none⟩]
def s118_1 : List GI := [⟨(some 2), .rd (.mv (.k (.a (.c (.lf (.int .i64 0)))))), none⟩]
def s118_2 : List GI := [⟨(some 12), .rd (.mv (.t 2)), none⟩,
  ⟨(some 13), .rd (.mv (.t 0)), none⟩,
  ⟨(some 14), .rd (.nilc (.t 13)), none⟩,
  ⟨(some 15), .rd (.fad 1 (.t 14)), none⟩,
  ⟨(some 16), .rd (.load none (.t 15)), none⟩,
  ⟨(some 17), .rd (.len (.t 16)), none⟩,
  ⟨(some 18), .rd (.bin .lss (.t 12) (.t 17)), none⟩]
def s118_4 : List DI := [⟨⟨(some 21), .rd (.mv (.t 0)), none⟩, [], false, 0, 0⟩,
  ⟨⟨(some 22), .rd (.nilc (.t 21)), none⟩, [0], false, 0, 0⟩,
  ⟨⟨(some 23), .rd (.fad 0 (.t 22)), none⟩, [1, 0], false, 0, 0⟩,
  ⟨⟨(some 24), .rd (.load none (.t 23)), none⟩, [2, 1, 0], false, 0, 0⟩,
  ⟨⟨(some 25), .rd (.mv (.t 0)), none⟩, [], false, 0, 0⟩,
  ⟨⟨(some 26), .rd (.nilc (.t 25)), none⟩, [4], false, 0, 0⟩,
  ⟨⟨(some 27), .rd (.fad 1 (.t 26)), none⟩, [5, 4], false, 0, 0⟩,
  ⟨⟨(some 28), .rd (.load none (.t 27)), none⟩, [6, 5, 4], false, 0, 0⟩,
  ⟨⟨(some 29), .rd (.mv (.t 2)), none⟩, [], false, 0, 0⟩,
  ⟨⟨(some 30), .rd (.iad 2 (.t 28) (.t 29)), none⟩, [7, 8, 6, 5, 4], false, 0, 0⟩,
  ⟨⟨(some 31), .rd (.fad 0 (.t 30)), none⟩, [9, 7, 8, 6, 5, 4], false, 0, 0⟩,
  ⟨⟨(some 32), .rd (.load none (.t 31)), none⟩, [10, 9, 7, 8, 6, 5, 4], false, 0, 0⟩,
  ⟨⟨(some 33), .rd (.mv (.t 0)), none⟩, [], false, 0, 0⟩,
  ⟨⟨(some 34), .rd (.nilc (.t 33)), none⟩, [12], false, 0, 0⟩,
  ⟨⟨(some 35), .rd (.fad 1 (.t 34)), none⟩, [13, 12], false, 0, 0⟩,
  ⟨⟨(some 36), .rd (.load none (.t 35)), none⟩, [14, 13, 12], false, 0, 0⟩,
  ⟨⟨(some 37), .rd (.mv (.t 2)), none⟩, [], false, 0, 0⟩,
  ⟨⟨(some 38), .rd (.iad 2 (.t 36) (.t 37)), none⟩, [15, 16, 14, 13, 12], false, 0, 0⟩,
  ⟨⟨(some 39), .rd (.fad 1 (.t 38)), none⟩, [17, 15, 16, 14, 13, 12], false, 0, 0⟩,
  ⟨⟨(some 40), .rd (.load none (.t 39)), none⟩, [18, 17, 15, 16, 14, 13, 12], false, 0, 0⟩,
  ⟨⟨(some 41), .rd (.iad 1 (.t 24) (.t 32)), none⟩, [3, 11, 19, 2, 1, 0, 10, 9, 7, 8, 6, 5, 4, 18, 17, 15, 16, 14, 13, 12], false, 0, 0⟩,
  ⟨⟨none, .wr (.store 1 (.t 41) (.t 40)), none⟩, [20, 3, 11, 19, 2, 1, 0, 10, 9, 7, 8, 6, 5, 4, 18, 17, 15, 16, 14, 13, 12], true, 0, 0⟩]
def s118_3 : List GI := [⟨(some 19), .rd (.mv (.t 2)), none⟩,
  ⟨(some 20), .rd (.bin .add (.t 19) (.k (.a (.c (.lf (.int .i64 1)))))), none⟩,
  ⟨(some 2), .rd (.mv (.t 20)), none⟩]
def s118_5 : List GI := [⟨(some 42), .rd (.mv (.t 0)), none⟩,
  ⟨(some 43), .wr (.lit 2 0 [.lf (.int .i64 0), .nl 1] []), none⟩,
  ⟨(some 44), .rd (.nilc (.t 42)), none⟩,
  ⟨(some 45), .rd (.fad 1 (.t 44)), none⟩,
  ⟨none, .wr (.store 1 (.t 45) (.t 43)), none⟩]
def s118 : Stm := (.seq (.seq (.reg s118_0) (.cond (.t 11) .ret .skip)) (.seq (.seq (.reg s118_1) (.block 0 (.loop (.seq (.seq (.reg s118_2) (.cond (.t 18) .skip (.exit 0))) (.seq (.block 1 (.drw s118_4)) (.reg s118_3)))))) (.reg s118_5)))
theorem tr118 : (Try.f118.body.bind (trC Try.prog Try.f118.ntmps)) = some s118 := by kernel_rfl
-- loop.example/g00475/impl.WriteSec
def s43_0 : List GI := [⟨(some 3), .wr (.box (.t 0)), none⟩,
  ⟨(some 6), .wr (.alloc [.nl 1, .nl 2, .lf (.int .i64 0), .lf (.bool false)]), none⟩]
def s43_1 : List GI := [⟨(some 9), .rd (.load (some 4) (.t 3)), none⟩,
  ⟨(some 10), .wr (.call 99 [(.t 9)]), none⟩,
  ⟨(some 7), .wr (.alloc [.nl 1, .nl 2, .lf (.int .i64 0), .lf (.bool false)]), none⟩,
  ⟨none, .wr (.store 4 (.t 7) (.t 10)), none⟩]
def s43_2 : List GI := [⟨(some 11), .rd (.load (some 4) (.t 3)), none⟩,
  ⟨(some 12), .wr (.call 41 [(.t 11)]), none⟩,
  ⟨(some 13), .rd (.un .not (.t 12)), none⟩,
  ⟨(some 14), .rd (.mv (.t 13)), none⟩,
  ⟨(some 15), .rd (.fad 3 (.t 3)), (some (14, false))⟩,
  ⟨(some 16), .rd (.load none (.t 15)), (some (14, false))⟩,
  ⟨(some 17), .rd (.pick (.t 14) (.k (.a (.c (.lf (.bool true))))) (.t 16)), none⟩,
  ⟨(some 18), .rd (.mv (.t 17)), none⟩,
  ⟨(some 19), .rd (.mv (.t 1)), (some (18, false))⟩,
  ⟨(some 20), .rd (.fad 0 (.t 3)), (some (18, false))⟩,
  ⟨(some 21), .rd (.load none (.t 20)), (some (18, false))⟩,
  ⟨(some 22), .rd (.len (.t 21)), (some (18, false))⟩,
  ⟨(some 23), .rd (.bin .sub (.t 22) (.k (.a (.c (.lf (.int .i64 1)))))), (some (18, false))⟩,
  ⟨(some 24), .wr (.call 77 [(.t 19), (.k (.a (.c (.lf (.int .i64 0))))), (.t 23)]), (some (18, false))⟩,
  ⟨(some 25), .rd (.un .not (.t 24)), (some (18, false))⟩,
  ⟨(some 26), .rd (.pick (.t 18) (.k (.a (.c (.lf (.bool true))))) (.t 25)), none⟩,
  ⟨(some 27), .rd (.mv (.t 26)), none⟩,
  ⟨(some 28), .rd (.mv (.t 2)), (some (27, false))⟩,
  ⟨(some 29), .rd (.len (.t 28)), (some (27, false))⟩,
  ⟨(some 30), .rd (.bin .gtr (.t 29) (.k (.a (.c (.lf (.int .i64 120)))))), (some (27, false))⟩,
  ⟨(some 31), .rd (.pick (.t 27) (.k (.a (.c (.lf (.bool true))))) (.t 30)), none⟩,
  ⟨(some 32), .rd (.mv (.t 31)), none⟩,
  ⟨(some 33), .rd (.fad 1 (.t 3)), (some (32, false))⟩,
  ⟨(some 34), .rd (.load none (.t 33)), (some (32, false))⟩,
  ⟨(some 35), .rd (.len (.t 34)), (some (32, false))⟩,
  ⟨(some 36), .rd (.bin .eql (.t 35) (.k (.a (.c (.lf (.int .i64 40)))))), (some (32, false))⟩,
  ⟨(some 37), .rd (.pick (.t 32) (.k (.a (.c (.lf (.bool true))))) (.t 36)), none⟩]
def s43_3 : List GI := [⟨(some 38), .rd (.load (some 4) (.t 7)), none⟩,
  ⟨none, .wr (.store 4 (.t 6) (.t 38)), none⟩]
def s43_4 : List GI := [⟨(some 40), .rd (.load (some 4) (.t 7)), none⟩,
  ⟨(some 41), .wr (.call 100 [(.t 40)]), none⟩,
  ⟨(some 39), .rd (.mv (.t 41)), none⟩,
  ⟨(some 42), .rd (.ext 0 (.t 39)), none⟩,
  ⟨(some 43), .rd (.ext 1 (.t 39)), none⟩,
  ⟨none, .wr (.store 4 (.t 7) (.t 42)), none⟩,
  ⟨(some 8), .rd (.mv (.t 43)), none⟩]
def s43_5 : List GI := [⟨(some 44), .rd (.mv (.t 8)), none⟩]
def s43_6 : List DI := [⟨⟨(some 45), .rd (.fad 1 (.t 7)), none⟩, [], false, 0, 3⟩,
  ⟨⟨(some 46), .rd (.load none (.t 45)), none⟩, [0], false, 0, 3⟩,
  ⟨⟨(some 47), .rd (.mv (.t 1)), none⟩, [], false, 0, 2⟩,
  ⟨⟨(some 48), .rd (.mv (.t 2)), none⟩, [], false, 0, 0⟩,
  ⟨⟨(some 49), .wr (.lit 1 1 [.nl 1] [(0, (.t 48))]), none⟩, [3], true, 0, 0⟩,
  ⟨⟨(some 50), .wr (.call 101 [(.t 49)]), none⟩, [4, 3], true, 0, 0⟩,
  ⟨⟨(some 51), .rd (.build [.lf (.int .i64 0), .nl 1] [(0, 1, (.t 47)), (1, 1, (.t 50))]), none⟩, [2, 5, 4, 3], false, 2, 2⟩,
  ⟨⟨(some 52), .wr (.lit 2 1 [.lf (.int .i64 0), .nl 1] [(0, (.t 51))]), none⟩, [6, 2, 5, 4, 3], true, 0, 0⟩,
  ⟨⟨(some 53), .wr (.app 2 32 [.lf (.int .i64 0), .nl 1] (.t 46) (.t 52)), none⟩, [1, 7, 0, 6, 2, 5, 4, 3], true, 0, 0⟩,
  ⟨⟨(some 54), .rd (.fad 1 (.t 7)), none⟩, [8, 1, 7, 0, 6, 2, 5, 4, 3], false, 4, 4⟩,
  ⟨⟨none, .wr (.store 1 (.t 54) (.t 53)), none⟩, [9, 8, 1, 7, 0, 6, 2, 5, 4, 3], true, 0, 0⟩]
def s43_7 : List GI := [⟨(some 55), .rd (.load (some 4) (.t 7)), none⟩,
  ⟨none, .wr (.store 4 (.t 6) (.t 55)), none⟩]
def s43 : Stm := (.seq (.reg s43_0) (.seq (.reg s43_1) (.seq (.seq (.reg s43_2) (.cond (.t 37) (.seq (.reg s43_3) .ret) .skip)) (.seq (.reg s43_4) (.seq (.seq (.reg s43_5) (.cond (.t 44) (.drw s43_6) .skip)) (.seq (.reg s43_7) .ret))))))
theorem tr43 : (Try.f43.body.bind (trC Try.prog Try.f43.ntmps)) = some s43 := by kernel_rfl
-- loop.example/g00475/impl.FlushDev
def s44_0 : List GI := [⟨(some 1), .wr (.box (.t 0)), none⟩,
  ⟨(some 2), .wr (.alloc [.nl 1, .nl 2, .lf (.int .i64 0), .lf (.bool false)]), none⟩]
def s44_1 : List GI := [⟨(some 7), .rd (.load (some 4) (.t 1)), none⟩,
  ⟨(some 8), .wr (.call 99 [(.t 7)]), none⟩,
  ⟨(some 3), .wr (.alloc [.nl 1, .nl 2, .lf (.int .i64 0), .lf (.bool false)]), none⟩,
  ⟨none, .wr (.store 4 (.t 3) (.t 8)), none⟩]
def s44_2 : List GI := [⟨(some 9), .rd (.load (some 4) (.t 1)), none⟩,
  ⟨(some 10), .wr (.call 41 [(.t 9)]), none⟩,
  ⟨(some 11), .rd (.un .not (.t 10)), none⟩,
  ⟨(some 12), .rd (.mv (.t 11)), none⟩,
  ⟨(some 13), .rd (.fad 3 (.t 1)), (some (12, false))⟩,
  ⟨(some 14), .rd (.load none (.t 13)), (some (12, false))⟩,
  ⟨(some 15), .rd (.pick (.t 12) (.k (.a (.c (.lf (.bool true))))) (.t 14)), none⟩]
def s44_3 : List GI := [⟨(some 16), .rd (.load (some 4) (.t 3)), none⟩,
  ⟨none, .wr (.store 4 (.t 2) (.t 16)), none⟩]
def s44_4 : List GI := [⟨(some 18), .rd (.load (some 4) (.t 3)), none⟩,
  ⟨(some 19), .wr (.call 100 [(.t 18)]), none⟩,
  ⟨(some 17), .rd (.mv (.t 19)), none⟩,
  ⟨(some 20), .rd (.ext 0 (.t 17)), none⟩,
  ⟨(some 21), .rd (.ext 1 (.t 17)), none⟩,
  ⟨none, .wr (.store 4 (.t 3) (.t 20)), none⟩,
  ⟨(some 4), .rd (.mv (.t 21)), none⟩]
def s44_5 : List GI := [⟨(some 22), .rd (.mv (.t 4)), none⟩,
  ⟨(some 23), .rd (.un .not (.t 22)), none⟩]
def s44_6 : List GI := [⟨(some 24), .rd (.load (some 4) (.t 3)), none⟩,
  ⟨none, .wr (.store 4 (.t 2) (.t 24)), none⟩]
def s44_7 : List GI := [⟨(some 25), .rd (.fad 1 (.t 3)), none⟩,
  ⟨(some 26), .rd (.load none (.t 25)), none⟩,
  ⟨(some 27), .rd (.len (.t 26)), none⟩,
  ⟨(some 28), .rd (.mv (.k (.a (.c (.lf (.int .i64 0)))))), none⟩]
def s44_8 : List GI := [⟨(some 29), .rd (.bin .lss (.t 28) (.t 27)), none⟩]
def s44_9 : List GI := [⟨(some 30), .rd (.iad 2 (.t 26) (.t 28)), none⟩,
  ⟨(some 31), .rd (.load (some 2) (.t 30)), none⟩,
  ⟨(some 6), .wr (.alloc [.lf (.int .i64 0), .nl 1]), none⟩,
  ⟨none, .wr (.store 2 (.t 6) (.t 31)), none⟩]
def s44_10 : List DI := [⟨⟨(some 32), .rd (.fad 0 (.t 3)), none⟩, [], false, 0, 2⟩,
  ⟨⟨(some 33), .rd (.load none (.t 32)), none⟩, [0], false, 0, 2⟩,
  ⟨⟨(some 34), .rd (.fad 0 (.t 6)), none⟩, [], false, 0, 2⟩,
  ⟨⟨(some 35), .rd (.load none (.t 34)), none⟩, [2], false, 0, 2⟩,
  ⟨⟨(some 36), .rd (.fad 1 (.t 6)), none⟩, [], false, 0, 0⟩,
  ⟨⟨(some 37), .rd (.load none (.t 36)), none⟩, [4], false, 0, 0⟩,
  ⟨⟨(some 38), .wr (.lit 1 1 [.nl 1] [(0, (.t 37))]), none⟩, [5, 4], true, 0, 0⟩,
  ⟨⟨(some 39), .wr (.call 101 [(.t 38)]), none⟩, [6, 5, 4], true, 0, 0⟩,
  ⟨⟨(some 40), .rd (.iad 1 (.t 33) (.t 35)), none⟩, [1, 3, 7, 0, 2, 6, 5, 4], false, 2, 2⟩,
  ⟨⟨none, .wr (.store 1 (.t 40) (.t 39)), none⟩, [8, 1, 3, 7, 0, 2, 6, 5, 4], true, 0, 0⟩]
def s44_11 : List GI := [⟨(some 41), .rd (.bin .add (.t 28) (.k (.a (.c (.lf (.int .i64 1)))))), none⟩,
  ⟨(some 28), .rd (.mv (.t 41)), none⟩]
def s44_12 : List GI := [⟨(some 42), .rd (.fad 1 (.t 3)), none⟩,
  ⟨none, .wr (.store 1 (.t 42) (.k (.a (.c (.nl 2))))), none⟩]
def s44_13 : List GI := [⟨(some 43), .rd (.load (some 4) (.t 3)), none⟩,
  ⟨none, .wr (.store 4 (.t 2) (.t 43)), none⟩]
def s44 : Stm := (.seq (.reg s44_0) (.seq (.reg s44_1) (.seq (.seq (.reg s44_2) (.cond (.t 15) (.seq (.reg s44_3) .ret) .skip)) (.seq (.reg s44_4) (.seq (.seq (.reg s44_5) (.cond (.t 23) (.seq (.reg s44_6) .ret) .skip)) (.seq (.seq (.reg s44_7) (.block 0 (.loop (.seq (.reg s44_8) (.seq (.cond (.t 29) .skip (.exit 0)) (.seq (.block 1 (.seq (.reg s44_9) (.drw s44_10))) (.reg s44_11))))))) (.seq (.reg s44_12) (.seq (.reg s44_13) .ret))))))))
theorem tr44 : (Try.f44.body.bind (trC Try.prog Try.f44.ntmps)) = some s44 := by kernel_rfl
-- loop.example/g00475/impl.FallDev
def s45_0 : List GI := [⟨(some 2), .wr (.box (.t 0)), none⟩,
  ⟨(some 4), .wr (.alloc [.nl 1, .nl 2, .lf (.int .i64 0), .lf (.bool false)]), none⟩]
def s45_1 : List GI := [⟨(some 8), .rd (.load (some 4) (.t 2)), none⟩,
  ⟨(some 9), .wr (.call 99 [(.t 8)]), none⟩,
  ⟨(some 5), .wr (.alloc [.nl 1, .nl 2, .lf (.int .i64 0), .lf (.bool false)]), none⟩,
  ⟨none, .wr (.store 4 (.t 5) (.t 9)), none⟩]
def s45_2 : List GI := [⟨(some 10), .rd (.load (some 4) (.t 2)), none⟩,
  ⟨(some 11), .wr (.call 41 [(.t 10)]), none⟩,
  ⟨(some 12), .rd (.un .not (.t 11)), none⟩]
def s45_3 : List GI := [⟨(some 13), .rd (.load (some 4) (.t 5)), none⟩,
  ⟨none, .wr (.store 4 (.t 4) (.t 13)), none⟩]
def s45_4 : List GI := [⟨(some 14), .rd (.mv (.t 1)), none⟩,
  ⟨(some 15), .wr (.call 77 [(.t 14), (.k (.a (.c (.lf (.int .i64 0))))), (.k (.a (.c (.lf (.int .i64 1073741823)))))]), none⟩,
  ⟨(some 16), .rd (.un .not (.t 15)), none⟩]
def s45_5 : List GI := [⟨(some 1), .rd (.mv (.k (.a (.c (.lf (.int .i64 0)))))), none⟩]
def s45_6 : List GI := [⟨(some 17), .rd (.fad 1 (.t 5)), none⟩,
  ⟨(some 18), .rd (.load none (.t 17)), none⟩,
  ⟨(some 19), .rd (.len (.t 18)), none⟩,
  ⟨(some 20), .rd (.mv (.k (.a (.c (.lf (.int .i64 0)))))), none⟩]
def s45_7 : List GI := [⟨(some 21), .rd (.bin .lss (.t 20) (.t 19)), none⟩]
def s45_8 : List GI := [⟨(some 22), .rd (.mv (.t 20)), none⟩,
  ⟨(some 23), .rd (.iad 2 (.t 18) (.t 20)), none⟩,
  ⟨(some 24), .rd (.load (some 2) (.t 23)), none⟩,
  ⟨(some 7), .wr (.alloc [.lf (.int .i64 0), .nl 1]), none⟩,
  ⟨(some 6), .rd (.mv (.t 22)), none⟩,
  ⟨none, .wr (.store 2 (.t 7) (.t 24)), none⟩]
def s45_9 : List GI := [⟨(some 25), .rd (.mv (.t 6)), none⟩,
  ⟨(some 26), .rd (.bin .lss (.t 25) (.k (.a (.c (.lf (.int .i64 30)))))), none⟩,
  ⟨(some 27), .rd (.mv (.t 26)), none⟩,
  ⟨(some 28), .rd (.mv (.t 1)), (some (27, true))⟩,
  ⟨(some 29), .rd (.mv (.t 6)), (some (27, true))⟩,
  ⟨(some 30), .rd (.bin .shr (.t 28) (.t 29)), (some (27, true))⟩,
  ⟨(some 31), .rd (.bin .and (.t 30) (.k (.a (.c (.lf (.int .i64 1)))))), (some (27, true))⟩,
  ⟨(some 32), .rd (.bin .eql (.t 31) (.k (.a (.c (.lf (.int .i64 1)))))), (some (27, true))⟩,
  ⟨(some 33), .rd (.pick (.t 27) (.t 32) (.k (.a (.c (.lf (.bool false)))))), none⟩]
def s45_10 : List DI := [⟨⟨(some 34), .rd (.fad 0 (.t 5)), none⟩, [], false, 0, 2⟩,
  ⟨⟨(some 35), .rd (.load none (.t 34)), none⟩, [0], false, 0, 2⟩,
  ⟨⟨(some 36), .rd (.fad 0 (.t 7)), none⟩, [], false, 0, 2⟩,
  ⟨⟨(some 37), .rd (.load none (.t 36)), none⟩, [2], false, 0, 2⟩,
  ⟨⟨(some 38), .rd (.fad 1 (.t 7)), none⟩, [], false, 0, 0⟩,
  ⟨⟨(some 39), .rd (.load none (.t 38)), none⟩, [4], false, 0, 0⟩,
  ⟨⟨(some 40), .wr (.lit 1 1 [.nl 1] [(0, (.t 39))]), none⟩, [5, 4], true, 0, 0⟩,
  ⟨⟨(some 41), .wr (.call 101 [(.t 40)]), none⟩, [6, 5, 4], true, 0, 0⟩,
  ⟨⟨(some 42), .rd (.iad 1 (.t 35) (.t 37)), none⟩, [1, 3, 7, 0, 2, 6, 5, 4], false, 2, 2⟩,
  ⟨⟨none, .wr (.store 1 (.t 42) (.t 41)), none⟩, [8, 1, 3, 7, 0, 2, 6, 5, 4], true, 0, 0⟩]
def s45_11 : List GI := [⟨(some 43), .rd (.bin .add (.t 20) (.k (.a (.c (.lf (.int .i64 1)))))), none⟩,
  ⟨(some 20), .rd (.mv (.t 43)), none⟩]
def s45_12 : List GI := [⟨(some 44), .rd (.fad 1 (.t 5)), none⟩,
  ⟨none, .wr (.store 1 (.t 44) (.k (.a (.c (.nl 2))))), none⟩,
  ⟨(some 45), .rd (.fad 3 (.t 5)), none⟩,
  ⟨none, .wr (.store 1 (.t 45) (.k (.a (.c (.lf (.bool false)))))), none⟩,
  ⟨(some 46), .rd (.fad 2 (.t 5)), none⟩,
  ⟨none, .wr (.store 1 (.t 46) (.k (.a (.c (.lf (.int .i64 (-1))))))), none⟩]
def s45_13 : List GI := [⟨(some 47), .rd (.load (some 4) (.t 5)), none⟩,
  ⟨none, .wr (.store 4 (.t 4) (.t 47)), none⟩]
def s45 : Stm := (.seq (.reg s45_0) (.seq (.reg s45_1) (.seq (.seq (.reg s45_2) (.cond (.t 12) (.seq (.reg s45_3) .ret) .skip)) (.seq (.seq (.reg s45_4) (.cond (.t 16) (.reg s45_5) .skip)) (.seq (.seq (.reg s45_6) (.block 0 (.loop (.seq (.reg s45_7) (.seq (.cond (.t 21) .skip (.exit 0)) (.seq (.block 1 (.seq (.reg s45_8) (.seq (.reg s45_9) (.cond (.t 33) (.drw s45_10) .skip)))) (.reg s45_11))))))) (.seq (.reg s45_12) (.seq (.reg s45_13) .ret)))))))
theorem tr45 : (Try.f45.body.bind (trC Try.prog Try.f45.ntmps)) = some s45 := by kernel_rfl
-- loop.example/g00475/spec.WriteSec
def s59_0 : List GI := [⟨(some 3), .wr (.box (.t 0)), none⟩,
  ⟨(some 6), .wr (.alloc [.nl 1, .nl 2, .lf (.int .i64 0), .lf (.bool false)]), none⟩]
def s59_1 : List GI := [⟨(some 8), .rd (.load (some 4) (.t 3)), none⟩,
  ⟨(some 9), .wr (.call 114 [(.t 8)]), none⟩,
  ⟨(some 7), .wr (.alloc [.nl 1, .nl 2, .lf (.int .i64 0), .lf (.bool false)]), none⟩,
  ⟨none, .wr (.store 4 (.t 7) (.t 9)), none⟩]
def s59_2 : List GI := [⟨(some 10), .rd (.load (some 4) (.t 3)), none⟩,
  ⟨(some 11), .wr (.call 39 [(.t 10)]), none⟩]
def s59_3 : List GI := [⟨(some 12), .rd (.mv (.t 1)), none⟩,
  ⟨(some 13), .rd (.mv (.t 2)), none⟩,
  ⟨(some 14), .wr (.call 115 [(.t 7), (.t 12), (.t 13)]), none⟩]
def s59_4 : List GI := [⟨(some 15), .rd (.load (some 4) (.t 7)), none⟩,
  ⟨none, .wr (.store 4 (.t 6) (.t 15)), none⟩]
def s59 : Stm := (.seq (.reg s59_0) (.seq (.reg s59_1) (.seq (.seq (.reg s59_2) (.cond (.t 11) (.reg s59_3) .skip)) (.seq (.reg s59_4) .ret))))
theorem tr59 : (Try.f59.body.bind (trC Try.prog Try.f59.ntmps)) = some s59 := by kernel_rfl
-- loop.example/g00475/spec.FlushDev
def s67_0 : List GI := [⟨(some 1), .wr (.box (.t 0)), none⟩,
  ⟨(some 2), .wr (.alloc [.nl 1, .nl 2, .lf (.int .i64 0), .lf (.bool false)]), none⟩]
def s67_1 : List GI := [⟨(some 4), .rd (.load (some 4) (.t 1)), none⟩,
  ⟨(some 5), .wr (.call 114 [(.t 4)]), none⟩,
  ⟨(some 3), .wr (.alloc [.nl 1, .nl 2, .lf (.int .i64 0), .lf (.bool false)]), none⟩,
  ⟨none, .wr (.store 4 (.t 3) (.t 5)), none⟩]
def s67_2 : List GI := [⟨(some 6), .rd (.load (some 4) (.t 1)), none⟩,
  ⟨(some 7), .wr (.call 39 [(.t 6)]), none⟩]
def s67_3 : List GI := [⟨(some 8), .wr (.call 118 [(.t 3)]), none⟩]
def s67_4 : List GI := [⟨(some 9), .rd (.load (some 4) (.t 3)), none⟩,
  ⟨none, .wr (.store 4 (.t 2) (.t 9)), none⟩]
def s67 : Stm := (.seq (.reg s67_0) (.seq (.reg s67_1) (.seq (.seq (.reg s67_2) (.cond (.t 7) (.reg s67_3) .skip)) (.seq (.reg s67_4) .ret))))
theorem tr67 : (Try.f67.body.bind (trC Try.prog Try.f67.ntmps)) = some s67 := by kernel_rfl
-- loop.example/g00475/spec.FallDev
def s58_0 : List GI := [⟨(some 2), .wr (.box (.t 0)), none⟩,
  ⟨(some 4), .wr (.alloc [.nl 1, .nl 2, .lf (.int .i64 0), .lf (.bool false)]), none⟩]
def s58_1 : List GI := [⟨(some 7), .rd (.load (some 4) (.t 2)), none⟩,
  ⟨(some 8), .wr (.call 114 [(.t 7)]), none⟩,
  ⟨(some 5), .wr (.alloc [.nl 1, .nl 2, .lf (.int .i64 0), .lf (.bool false)]), none⟩,
  ⟨none, .wr (.store 4 (.t 5) (.t 8)), none⟩]
def s58_2 : List GI := [⟨(some 9), .rd (.load (some 4) (.t 2)), none⟩,
  ⟨(some 10), .wr (.call 39 [(.t 9)]), none⟩,
  ⟨(some 11), .rd (.un .not (.t 10)), none⟩]
def s58_3 : List GI := [⟨(some 12), .rd (.load (some 4) (.t 5)), none⟩,
  ⟨none, .wr (.store 4 (.t 4) (.t 12)), none⟩]
def s58_4 : List GI := [⟨(some 13), .rd (.mv (.t 1)), none⟩,
  ⟨(some 14), .wr (.call 74 [(.t 13), (.k (.a (.c (.lf (.int .i64 0))))), (.k (.a (.c (.lf (.int .i64 1073741823)))))]), none⟩,
  ⟨(some 15), .rd (.un .not (.t 14)), none⟩]
def s58_5 : List GI := [⟨(some 1), .rd (.mv (.k (.a (.c (.lf (.int .i64 0)))))), none⟩]
def s58_6 : List GI := [⟨(some 6), .rd (.mv (.k (.a (.c (.lf (.int .i64 0)))))), none⟩]
def s58_7 : List GI := [⟨(some 16), .rd (.mv (.t 6)), none⟩,
  ⟨(some 17), .rd (.fad 1 (.t 5)), none⟩,
  ⟨(some 18), .rd (.load none (.t 17)), none⟩,
  ⟨(some 19), .rd (.len (.t 18)), none⟩,
  ⟨(some 20), .rd (.bin .lss (.t 16) (.t 19)), none⟩,
  ⟨(some 21), .rd (.mv (.t 20)), none⟩,
  ⟨(some 22), .rd (.mv (.t 6)), (some (21, true))⟩,
  ⟨(some 23), .rd (.bin .lss (.t 22) (.k (.a (.c (.lf (.int .i64 30)))))), (some (21, true))⟩,
  ⟨(some 24), .rd (.pick (.t 21) (.t 23) (.k (.a (.c (.lf (.bool false)))))), none⟩]
def s58_9 : List GI := [⟨(some 27), .rd (.mv (.t 1)), none⟩,
  ⟨(some 28), .rd (.mv (.t 6)), none⟩,
  ⟨(some 29), .rd (.conv .u64 (.t 28)), none⟩,
  ⟨(some 30), .rd (.bin .shr (.t 27) (.t 29)), none⟩,
  ⟨(some 31), .rd (.bin .and (.t 30) (.k (.a (.c (.lf (.int .i64 1)))))), none⟩,
  ⟨(some 32), .rd (.bin .eql (.t 31) (.k (.a (.c (.lf (.int .i64 1)))))), none⟩]
def s58_10 : List DI := [⟨⟨(some 33), .rd (.fad 0 (.t 5)), none⟩, [], false, 0, 0⟩,
  ⟨⟨(some 34), .rd (.load none (.t 33)), none⟩, [0], false, 0, 0⟩,
  ⟨⟨(some 35), .rd (.fad 1 (.t 5)), none⟩, [], false, 0, 0⟩,
  ⟨⟨(some 36), .rd (.load none (.t 35)), none⟩, [2], false, 0, 0⟩,
  ⟨⟨(some 37), .rd (.mv (.t 6)), none⟩, [], false, 0, 0⟩,
  ⟨⟨(some 38), .rd (.iad 2 (.t 36) (.t 37)), none⟩, [3, 4, 2], false, 0, 0⟩,
  ⟨⟨(some 39), .rd (.fad 0 (.t 38)), none⟩, [5, 3, 4, 2], false, 0, 0⟩,
  ⟨⟨(some 40), .rd (.load none (.t 39)), none⟩, [6, 5, 3, 4, 2], false, 0, 0⟩,
  ⟨⟨(some 41), .rd (.fad 1 (.t 5)), none⟩, [], false, 0, 0⟩,
  ⟨⟨(some 42), .rd (.load none (.t 41)), none⟩, [8], false, 0, 0⟩,
  ⟨⟨(some 43), .rd (.mv (.t 6)), none⟩, [], false, 0, 0⟩,
  ⟨⟨(some 44), .rd (.iad 2 (.t 42) (.t 43)), none⟩, [9, 10, 8], false, 0, 0⟩,
  ⟨⟨(some 45), .rd (.fad 1 (.t 44)), none⟩, [11, 9, 10, 8], false, 0, 0⟩,
  ⟨⟨(some 46), .rd (.load none (.t 45)), none⟩, [12, 11, 9, 10, 8], false, 0, 0⟩,
  ⟨⟨(some 47), .rd (.iad 1 (.t 34) (.t 40)), none⟩, [1, 7, 13, 0, 6, 5, 3, 4, 2, 12, 11, 9, 10, 8], false, 0, 0⟩,
  ⟨⟨none, .wr (.store 1 (.t 47) (.t 46)), none⟩, [14, 1, 7, 13, 0, 6, 5, 3, 4, 2, 12, 11, 9, 10, 8], true, 0, 0⟩]
def s58_8 : List GI := [⟨(some 25), .rd (.mv (.t 6)), none⟩,
  ⟨(some 26), .rd (.bin .add (.t 25) (.k (.a (.c (.lf (.int .i64 1)))))), none⟩,
  ⟨(some 6), .rd (.mv (.t 26)), none⟩]
def s58_11 : List GI := [⟨(some 48), .wr (.lit 2 0 [.lf (.int .i64 0), .nl 1] []), none⟩,
  ⟨(some 49), .rd (.fad 1 (.t 5)), none⟩,
  ⟨none, .wr (.store 1 (.t 49) (.t 48)), none⟩]
def s58_12 : List GI := [⟨(some 50), .rd (.fad 3 (.t 5)), none⟩,
  ⟨none, .wr (.store 1 (.t 50) (.k (.a (.c (.lf (.bool false)))))), none⟩]
def s58_13 : List GI := [⟨(some 51), .rd (.fad 2 (.t 5)), none⟩,
  ⟨none, .wr (.store 1 (.t 51) (.k (.a (.c (.lf (.int .i64 (-1))))))), none⟩]
def s58_14 : List GI := [⟨(some 52), .rd (.load (some 4) (.t 5)), none⟩,
  ⟨none, .wr (.store 4 (.t 4) (.t 52)), none⟩]
def s58 : Stm := (.seq (.reg s58_0) (.seq (.reg s58_1) (.seq (.seq (.reg s58_2) (.cond (.t 11) (.seq (.reg s58_3) .ret) .skip)) (.seq (.seq (.reg s58_4) (.cond (.t 15) (.reg s58_5) .skip)) (.seq (.seq (.reg s58_6) (.block 0 (.loop (.seq (.seq (.reg s58_7) (.cond (.t 24) .skip (.exit 0))) (.seq (.block 1 (.seq (.reg s58_9) (.cond (.t 32) (.drw s58_10) .skip))) (.reg s58_8)))))) (.seq (.reg s58_11) (.seq (.reg s58_12) (.seq (.reg s58_13) (.seq (.reg s58_14) .ret)))))))))
theorem tr58 : (Try.f58.body.bind (trC Try.prog Try.f58.ntmps)) = some s58 := by kernel_rfl
-- loop.example/g00475/laws.FnExactFallDev
def s14_0 : List GI := [⟨(some 2), .wr (.box (.t 0)), none⟩,
  ⟨(some 4), .rd (.mv (.k (.a (.c (.lf (.bool false)))))), none⟩]
def s14_1 : List GI := [⟨(some 5), .rd (.mv (.k (.a (.c (.lf (.int .i64 1048576)))))), none⟩]
def s14_2 : List GI := [⟨(some 13), .rd (.load (some 4) (.t 2)), none⟩,
  ⟨(some 14), .rd (.mv (.t 5)), none⟩,
  ⟨(some 15), .wr (.call 38 [(.t 13), (.t 14)]), none⟩,
  ⟨(some 5), .rd (.mv (.t 15)), none⟩]
def s14_3 : List GI := [⟨(some 16), .rd (.mv (.t 5)), none⟩,
  ⟨(some 17), .rd (.bin .lss (.t 16) (.k (.a (.c (.lf (.int .i64 0)))))), none⟩]
def s14_4 : List GI := [⟨(some 4), .rd (.mv (.k (.a (.c (.lf (.bool true)))))), none⟩]
def s14_5 : List GI := [⟨(some 18), .rd (.load (some 4) (.t 2)), none⟩,
  ⟨(some 19), .wr (.call 40 [(.t 18)]), none⟩,
  ⟨(some 20), .rd (.mv (.t 1)), none⟩,
  ⟨(some 21), .wr (.call 58 [(.t 19), (.t 20)]), none⟩,
  ⟨(some 6), .wr (.alloc [.nl 1, .nl 2, .lf (.int .i64 0), .lf (.bool false)]), none⟩,
  ⟨none, .wr (.store 4 (.t 6) (.t 21)), none⟩]
def s14_6 : List GI := [⟨(some 22), .rd (.load (some 4) (.t 2)), none⟩,
  ⟨(some 23), .wr (.call 40 [(.t 22)]), none⟩,
  ⟨(some 7), .wr (.alloc [.nl 1, .nl 2, .lf (.int .i64 0), .lf (.bool false)]), none⟩,
  ⟨none, .wr (.store 4 (.t 7) (.t 23)), none⟩]
def s14_7 : List GI := [⟨(some 24), .rd (.load (some 4) (.t 7)), none⟩,
  ⟨(some 25), .rd (.mv (.t 1)), none⟩,
  ⟨(some 26), .wr (.call 45 [(.t 24), (.t 25)]), none⟩,
  ⟨(some 8), .wr (.alloc [.nl 1, .nl 2, .lf (.int .i64 0), .lf (.bool false)]), none⟩,
  ⟨none, .wr (.store 4 (.t 8) (.t 26)), none⟩]
def s14_8 : List GI := [⟨(some 27), .rd (.load (some 4) (.t 8)), none⟩,
  ⟨(some 28), .rd (.load (some 4) (.t 6)), none⟩,
  ⟨(some 29), .wr (.call 31 [(.t 27), (.t 28)]), none⟩,
  ⟨(some 30), .rd (.un .not (.t 29)), none⟩]
def s14_9 : List GI := [⟨(some 4), .rd (.mv (.k (.a (.c (.lf (.bool false)))))), none⟩]
def s14_10 : List DI := [⟨⟨(some 31), .rd (.load (some 4) (.t 7)), none⟩, [], false, 0, 1⟩,
  ⟨⟨(some 32), .rd (.load (some 4) (.t 2)), none⟩, [], false, 0, 0⟩,
  ⟨⟨(some 33), .wr (.call 40 [(.t 32)]), none⟩, [1], true, 0, 0⟩,
  ⟨⟨(some 34), .wr (.call 31 [(.t 31), (.t 33)]), none⟩, [0, 2, 1], true, 0, 0⟩,
  ⟨⟨(some 35), .rd (.un .not (.t 34)), none⟩, [3, 0, 2, 1], false, 2, 2⟩]
def s14_11 : List GI := [⟨(some 4), .rd (.mv (.k (.a (.c (.lf (.bool false)))))), none⟩]
def s14_12 : List GI := [⟨(some 9), .rd (.mv (.k (.a (.c (.lf (.int .i64 1)))))), none⟩]
def s14_13 : List GI := [⟨(some 36), .rd (.load (some 4) (.t 7)), none⟩,
  ⟨(some 37), .rd (.mv (.t 9)), none⟩,
  ⟨(some 38), .wr (.call 32 [(.t 36), (.t 37)]), none⟩,
  ⟨(some 9), .rd (.mv (.t 38)), none⟩]
def s14_14 : List GI := [⟨(some 39), .rd (.mv (.t 9)), none⟩,
  ⟨(some 40), .rd (.bin .lss (.t 39) (.k (.a (.c (.lf (.int .i64 0)))))), none⟩,
  ⟨(some 41), .rd (.mv (.t 40)), none⟩,
  ⟨(some 42), .rd (.load (some 4) (.t 8)), (some (41, false))⟩,
  ⟨(some 43), .rd (.load (some 4) (.t 6)), (some (41, false))⟩,
  ⟨(some 44), .wr (.call 31 [(.t 42), (.t 43)]), (some (41, false))⟩,
  ⟨(some 45), .rd (.un .not (.t 44)), (some (41, false))⟩,
  ⟨(some 46), .rd (.pick (.t 41) (.k (.a (.c (.lf (.bool true))))) (.t 45)), none⟩]
def s14_15 : List GI := [⟨(some 4), .rd (.mv (.k (.a (.c (.lf (.bool false)))))), none⟩]
def s14_16 : List GI := [⟨(some 10), .rd (.mv (.k (.a (.c (.lf (.int .i64 1)))))), none⟩]
def s14_17 : List GI := [⟨(some 47), .rd (.load (some 4) (.t 8)), none⟩,
  ⟨(some 48), .rd (.mv (.t 10)), none⟩,
  ⟨(some 49), .wr (.call 32 [(.t 47), (.t 48)]), none⟩,
  ⟨(some 10), .rd (.mv (.t 49)), none⟩]
def s14_18 : List GI := [⟨(some 11), .rd (.mv (.k (.a (.c (.lf (.int .i64 1)))))), none⟩]
def s14_19 : List GI := [⟨(some 50), .rd (.load (some 4) (.t 8)), none⟩,
  ⟨(some 51), .rd (.mv (.t 11)), none⟩,
  ⟨(some 52), .wr (.call 33 [(.t 50), (.t 51)]), none⟩,
  ⟨(some 11), .rd (.mv (.t 52)), none⟩]
def s14_20 : List GI := [⟨(some 53), .rd (.mv (.t 11)), none⟩,
  ⟨(some 54), .rd (.bin .lss (.t 53) (.k (.a (.c (.lf (.int .i64 0)))))), none⟩]
def s14_21 : List GI := [⟨(some 4), .rd (.mv (.k (.a (.c (.lf (.bool false)))))), none⟩]
def s14_22 : List GI := [⟨(some 55), .rd (.mv (.t 11)), none⟩,
  ⟨(some 56), .rd (.mv (.t 10)), none⟩,
  ⟨(some 57), .rd (.bin .neq (.t 55) (.t 56)), none⟩]
def s14_23 : List GI := [⟨(some 4), .rd (.mv (.k (.a (.c (.lf (.bool false)))))), none⟩]
def s14_24 : List GI := [⟨(some 58), .rd (.load (some 4) (.t 2)), none⟩,
  ⟨(some 59), .wr (.call 40 [(.t 58)]), none⟩,
  ⟨(some 60), .rd (.mv (.t 1)), none⟩,
  ⟨(some 61), .wr (.call 45 [(.t 59), (.t 60)]), none⟩,
  ⟨(some 12), .wr (.alloc [.nl 1, .nl 2, .lf (.int .i64 0), .lf (.bool false)]), none⟩,
  ⟨none, .wr (.store 4 (.t 12) (.t 61)), none⟩]
def s14_25 : List GI := [⟨(some 62), .rd (.load (some 4) (.t 12)), none⟩,
  ⟨(some 63), .rd (.load (some 4) (.t 6)), none⟩,
  ⟨(some 64), .wr (.call 31 [(.t 62), (.t 63)]), none⟩,
  ⟨(some 65), .rd (.un .not (.t 64)), none⟩]
def s14_26 : List GI := [⟨(some 4), .rd (.mv (.k (.a (.c (.lf (.bool false)))))), none⟩]
def s14_27 : List GI := [⟨(some 11), .rd (.mv (.k (.a (.c (.lf (.int .i64 1)))))), none⟩]
def s14_28 : List GI := [⟨(some 66), .rd (.load (some 4) (.t 8)), none⟩,
  ⟨(some 67), .rd (.mv (.t 11)), none⟩,
  ⟨(some 68), .wr (.call 33 [(.t 66), (.t 67)]), none⟩,
  ⟨(some 11), .rd (.mv (.t 68)), none⟩]
def s14_29 : List GI := [⟨(some 69), .rd (.mv (.t 11)), none⟩,
  ⟨(some 70), .rd (.bin .lss (.t 69) (.k (.a (.c (.lf (.int .i64 0)))))), none⟩]
def s14_30 : List GI := [⟨(some 4), .rd (.mv (.k (.a (.c (.lf (.bool false)))))), none⟩]
def s14_31 : List GI := [⟨(some 71), .rd (.mv (.t 11)), none⟩,
  ⟨(some 72), .rd (.mv (.t 10)), none⟩,
  ⟨(some 73), .rd (.bin .neq (.t 71) (.t 72)), none⟩]
def s14_32 : List GI := [⟨(some 4), .rd (.mv (.k (.a (.c (.lf (.bool false)))))), none⟩]
def s14_33 : List GI := [⟨(some 4), .rd (.mv (.k (.a (.c (.lf (.bool true)))))), none⟩]
def s14 : Stm := (.seq (.reg s14_0) (.seq (.reg s14_1) (.seq (.reg s14_2) (.seq (.seq (.reg s14_3) (.cond (.t 17) (.seq (.reg s14_4) .ret) .skip)) (.seq (.reg s14_5) (.seq (.reg s14_6) (.seq (.reg s14_7) (.seq (.seq (.reg s14_8) (.cond (.t 30) (.seq (.reg s14_9) .ret) .skip)) (.seq (.seq (.drw s14_10) (.cond (.t 35) (.seq (.reg s14_11) .ret) .skip)) (.seq (.reg s14_12) (.seq (.reg s14_13) (.seq (.seq (.reg s14_14) (.cond (.t 46) (.seq (.reg s14_15) .ret) .skip)) (.seq (.reg s14_16) (.seq (.reg s14_17) (.seq (.reg s14_18) (.seq (.reg s14_19) (.seq (.seq (.reg s14_20) (.cond (.t 54) (.seq (.reg s14_21) .ret) .skip)) (.seq (.seq (.reg s14_22) (.cond (.t 57) (.seq (.reg s14_23) .ret) .skip)) (.seq (.reg s14_24) (.seq (.seq (.reg s14_25) (.cond (.t 65) (.seq (.reg s14_26) .ret) .skip)) (.seq (.reg s14_27) (.seq (.reg s14_28) (.seq (.seq (.reg s14_29) (.cond (.t 70) (.seq (.reg s14_30) .ret) .skip)) (.seq (.seq (.reg s14_31) (.cond (.t 73) (.seq (.reg s14_32) .ret) .skip)) (.seq (.reg s14_33) .ret)))))))))))))))))))))))))
theorem tr14 : (Try.f14.body.bind (trC Try.prog Try.f14.ntmps)) = some s14 := by kernel_rfl
-- loop.example/g00475/laws.FnExactWriteSec
def s15_0 : List GI := [⟨(some 3), .wr (.box (.t 0)), none⟩,
  ⟨(some 6), .rd (.mv (.k (.a (.c (.lf (.bool false)))))), none⟩]
def s15_1 : List GI := [⟨(some 16), .rd (.mv (.t 2)), none⟩,
  ⟨(some 17), .rd (.len (.t 16)), none⟩,
  ⟨(some 18), .rd (.bin .gtr (.t 17) (.k (.a (.c (.lf (.int .i64 1048576)))))), none⟩]
def s15_2 : List GI := [⟨(some 6), .rd (.mv (.k (.a (.c (.lf (.bool true)))))), none⟩]
def s15_3 : List GI := [⟨(some 7), .rd (.mv (.k (.a (.c (.lf (.int .i64 1048576)))))), none⟩]
def s15_4 : List GI := [⟨(some 19), .rd (.load (some 4) (.t 3)), none⟩,
  ⟨(some 20), .rd (.mv (.t 7)), none⟩,
  ⟨(some 21), .wr (.call 38 [(.t 19), (.t 20)]), none⟩,
  ⟨(some 7), .rd (.mv (.t 21)), none⟩]
def s15_5 : List GI := [⟨(some 22), .rd (.mv (.t 7)), none⟩,
  ⟨(some 23), .rd (.bin .lss (.t 22) (.k (.a (.c (.lf (.int .i64 0)))))), none⟩]
def s15_6 : List GI := [⟨(some 6), .rd (.mv (.k (.a (.c (.lf (.bool true)))))), none⟩]
def s15_7 : List GI := [⟨(some 24), .rd (.load (some 4) (.t 3)), none⟩,
  ⟨(some 25), .wr (.call 40 [(.t 24)]), none⟩,
  ⟨(some 26), .rd (.mv (.t 1)), none⟩,
  ⟨(some 27), .rd (.mv (.t 2)), none⟩,
  ⟨(some 28), .wr (.call 27 [(.t 27)]), none⟩,
  ⟨(some 29), .wr (.call 59 [(.t 25), (.t 26), (.t 28)]), none⟩,
  ⟨(some 8), .wr (.alloc [.nl 1, .nl 2, .lf (.int .i64 0), .lf (.bool false)]), none⟩,
  ⟨none, .wr (.store 4 (.t 8) (.t 29)), none⟩]
def s15_8 : List GI := [⟨(some 30), .rd (.load (some 4) (.t 3)), none⟩,
  ⟨(some 31), .wr (.call 40 [(.t 30)]), none⟩,
  ⟨(some 9), .wr (.alloc [.nl 1, .nl 2, .lf (.int .i64 0), .lf (.bool false)]), none⟩,
  ⟨none, .wr (.store 4 (.t 9) (.t 31)), none⟩]
def s15_9 : List GI := [⟨(some 32), .rd (.mv (.t 2)), none⟩,
  ⟨(some 33), .wr (.call 27 [(.t 32)]), none⟩,
  ⟨(some 10), .rd (.mv (.t 33)), none⟩]
def s15_10 : List GI := [⟨(some 34), .rd (.load (some 4) (.t 9)), none⟩,
  ⟨(some 35), .rd (.mv (.t 1)), none⟩,
  ⟨(some 36), .rd (.mv (.t 10)), none⟩,
  ⟨(some 37), .wr (.call 43 [(.t 34), (.t 35), (.t 36)]), none⟩,
  ⟨(some 11), .wr (.alloc [.nl 1, .nl 2, .lf (.int .i64 0), .lf (.bool false)]), none⟩,
  ⟨none, .wr (.store 4 (.t 11) (.t 37)), none⟩]
def s15_11 : List GI := [⟨(some 38), .rd (.load (some 4) (.t 11)), none⟩,
  ⟨(some 39), .rd (.load (some 4) (.t 8)), none⟩,
  ⟨(some 40), .wr (.call 31 [(.t 38), (.t 39)]), none⟩,
  ⟨(some 41), .rd (.un .not (.t 40)), none⟩]
def s15_12 : List GI := [⟨(some 6), .rd (.mv (.k (.a (.c (.lf (.bool false)))))), none⟩]
def s15_13 : List DI := [⟨⟨(some 42), .rd (.load (some 4) (.t 9)), none⟩, [], false, 0, 1⟩,
  ⟨⟨(some 43), .rd (.load (some 4) (.t 3)), none⟩, [], false, 0, 0⟩,
  ⟨⟨(some 44), .wr (.call 40 [(.t 43)]), none⟩, [1], true, 0, 0⟩,
  ⟨⟨(some 45), .wr (.call 31 [(.t 42), (.t 44)]), none⟩, [0, 2, 1], true, 0, 0⟩,
  ⟨⟨(some 46), .rd (.un .not (.t 45)), none⟩, [3, 0, 2, 1], false, 2, 2⟩]
def s15_14 : List GI := [⟨(some 6), .rd (.mv (.k (.a (.c (.lf (.bool false)))))), none⟩]
def s15_15 : List GI := [⟨(some 47), .rd (.mv (.t 10)), none⟩,
  ⟨(some 48), .rd (.mv (.t 2)), none⟩,
  ⟨(some 49), .wr (.call 27 [(.t 48)]), none⟩,
  ⟨(some 50), .wr (.call 23 [(.t 47), (.t 49)]), none⟩,
  ⟨(some 51), .rd (.un .not (.t 50)), none⟩]
def s15_16 : List GI := [⟨(some 6), .rd (.mv (.k (.a (.c (.lf (.bool false)))))), none⟩]
def s15_17 : List GI := [⟨(some 12), .rd (.mv (.k (.a (.c (.lf (.int .i64 1)))))), none⟩]
def s15_18 : List GI := [⟨(some 52), .rd (.load (some 4) (.t 9)), none⟩,
  ⟨(some 53), .rd (.mv (.t 12)), none⟩,
  ⟨(some 54), .wr (.call 32 [(.t 52), (.t 53)]), none⟩,
  ⟨(some 12), .rd (.mv (.t 54)), none⟩]
def s15_19 : List GI := [⟨(some 55), .rd (.mv (.t 10)), none⟩,
  ⟨(some 56), .rd (.mv (.t 12)), none⟩,
  ⟨(some 57), .wr (.call 24 [(.t 55), (.t 56)]), none⟩,
  ⟨(some 12), .rd (.mv (.t 57)), none⟩]
def s15_20 : List GI := [⟨(some 58), .rd (.mv (.t 12)), none⟩,
  ⟨(some 59), .rd (.bin .lss (.t 58) (.k (.a (.c (.lf (.int .i64 0)))))), none⟩,
  ⟨(some 60), .rd (.mv (.t 59)), none⟩,
  ⟨(some 61), .rd (.load (some 4) (.t 11)), (some (60, false))⟩,
  ⟨(some 62), .rd (.load (some 4) (.t 8)), (some (60, false))⟩,
  ⟨(some 63), .wr (.call 31 [(.t 61), (.t 62)]), (some (60, false))⟩,
  ⟨(some 64), .rd (.un .not (.t 63)), (some (60, false))⟩,
  ⟨(some 65), .rd (.pick (.t 60) (.k (.a (.c (.lf (.bool true))))) (.t 64)), none⟩]
def s15_21 : List GI := [⟨(some 6), .rd (.mv (.k (.a (.c (.lf (.bool false)))))), none⟩]
def s15_22 : List GI := [⟨(some 13), .rd (.mv (.k (.a (.c (.lf (.int .i64 1)))))), none⟩]
def s15_23 : List GI := [⟨(some 66), .rd (.load (some 4) (.t 11)), none⟩,
  ⟨(some 67), .rd (.mv (.t 13)), none⟩,
  ⟨(some 68), .wr (.call 32 [(.t 66), (.t 67)]), none⟩,
  ⟨(some 13), .rd (.mv (.t 68)), none⟩]
def s15_24 : List GI := [⟨(some 14), .rd (.mv (.k (.a (.c (.lf (.int .i64 1)))))), none⟩]
def s15_25 : List GI := [⟨(some 69), .rd (.load (some 4) (.t 11)), none⟩,
  ⟨(some 70), .rd (.mv (.t 14)), none⟩,
  ⟨(some 71), .wr (.call 33 [(.t 69), (.t 70)]), none⟩,
  ⟨(some 14), .rd (.mv (.t 71)), none⟩]
def s15_26 : List GI := [⟨(some 72), .rd (.mv (.t 14)), none⟩,
  ⟨(some 73), .rd (.bin .lss (.t 72) (.k (.a (.c (.lf (.int .i64 0)))))), none⟩]
def s15_27 : List GI := [⟨(some 6), .rd (.mv (.k (.a (.c (.lf (.bool false)))))), none⟩]
def s15_28 : List GI := [⟨(some 74), .rd (.mv (.t 14)), none⟩,
  ⟨(some 75), .rd (.mv (.t 13)), none⟩,
  ⟨(some 76), .rd (.bin .neq (.t 74) (.t 75)), none⟩]
def s15_29 : List GI := [⟨(some 6), .rd (.mv (.k (.a (.c (.lf (.bool false)))))), none⟩]
def s15_30 : List GI := [⟨(some 77), .rd (.load (some 4) (.t 3)), none⟩,
  ⟨(some 78), .wr (.call 40 [(.t 77)]), none⟩,
  ⟨(some 79), .rd (.mv (.t 1)), none⟩,
  ⟨(some 80), .rd (.mv (.t 2)), none⟩,
  ⟨(some 81), .wr (.call 27 [(.t 80)]), none⟩,
  ⟨(some 82), .wr (.call 43 [(.t 78), (.t 79), (.t 81)]), none⟩,
  ⟨(some 15), .wr (.alloc [.nl 1, .nl 2, .lf (.int .i64 0), .lf (.bool false)]), none⟩,
  ⟨none, .wr (.store 4 (.t 15) (.t 82)), none⟩]
def s15_31 : List GI := [⟨(some 83), .rd (.load (some 4) (.t 15)), none⟩,
  ⟨(some 84), .rd (.load (some 4) (.t 8)), none⟩,
  ⟨(some 85), .wr (.call 31 [(.t 83), (.t 84)]), none⟩,
  ⟨(some 86), .rd (.un .not (.t 85)), none⟩]
def s15_32 : List GI := [⟨(some 6), .rd (.mv (.k (.a (.c (.lf (.bool false)))))), none⟩]
def s15_33 : List GI := [⟨(some 14), .rd (.mv (.k (.a (.c (.lf (.int .i64 1)))))), none⟩]
def s15_34 : List GI := [⟨(some 87), .rd (.load (some 4) (.t 11)), none⟩,
  ⟨(some 88), .rd (.mv (.t 14)), none⟩,
  ⟨(some 89), .wr (.call 33 [(.t 87), (.t 88)]), none⟩,
  ⟨(some 14), .rd (.mv (.t 89)), none⟩]
def s15_35 : List GI := [⟨(some 90), .rd (.mv (.t 14)), none⟩,
  ⟨(some 91), .rd (.bin .lss (.t 90) (.k (.a (.c (.lf (.int .i64 0)))))), none⟩]
def s15_36 : List GI := [⟨(some 6), .rd (.mv (.k (.a (.c (.lf (.bool false)))))), none⟩]
def s15_37 : List GI := [⟨(some 92), .rd (.mv (.t 14)), none⟩,
  ⟨(some 93), .rd (.mv (.t 13)), none⟩,
  ⟨(some 94), .rd (.bin .neq (.t 92) (.t 93)), none⟩]
def s15_38 : List GI := [⟨(some 6), .rd (.mv (.k (.a (.c (.lf (.bool false)))))), none⟩]
def s15_39 : List GI := [⟨(some 6), .rd (.mv (.k (.a (.c (.lf (.bool true)))))), none⟩]
def s15 : Stm := (.seq (.reg s15_0) (.seq (.seq (.reg s15_1) (.cond (.t 18) (.seq (.reg s15_2) .ret) .skip)) (.seq (.reg s15_3) (.seq (.reg s15_4) (.seq (.seq (.reg s15_5) (.cond (.t 23) (.seq (.reg s15_6) .ret) .skip)) (.seq (.reg s15_7) (.seq (.reg s15_8) (.seq (.reg s15_9) (.seq (.reg s15_10) (.seq (.seq (.reg s15_11) (.cond (.t 41) (.seq (.reg s15_12) .ret) .skip)) (.seq (.seq (.drw s15_13) (.cond (.t 46) (.seq (.reg s15_14) .ret) .skip)) (.seq (.seq (.reg s15_15) (.cond (.t 51) (.seq (.reg s15_16) .ret) .skip)) (.seq (.reg s15_17) (.seq (.reg s15_18) (.seq (.reg s15_19) (.seq (.seq (.reg s15_20) (.cond (.t 65) (.seq (.reg s15_21) .ret) .skip)) (.seq (.reg s15_22) (.seq (.reg s15_23) (.seq (.reg s15_24) (.seq (.reg s15_25) (.seq (.seq (.reg s15_26) (.cond (.t 73) (.seq (.reg s15_27) .ret) .skip)) (.seq (.seq (.reg s15_28) (.cond (.t 76) (.seq (.reg s15_29) .ret) .skip)) (.seq (.reg s15_30) (.seq (.seq (.reg s15_31) (.cond (.t 86) (.seq (.reg s15_32) .ret) .skip)) (.seq (.reg s15_33) (.seq (.reg s15_34) (.seq (.seq (.reg s15_35) (.cond (.t 91) (.seq (.reg s15_36) .ret) .skip)) (.seq (.seq (.reg s15_37) (.cond (.t 94) (.seq (.reg s15_38) .ret) .skip)) (.seq (.reg s15_39) .ret)))))))))))))))))))))))))))))
theorem tr15 : (Try.f15.body.bind (trC Try.prog Try.f15.ntmps)) = some s15 := by kernel_rfl
-- loop.example/g00475/laws.FnExactFlushDev
def s17_0 : List GI := [⟨(some 1), .wr (.box (.t 0)), none⟩,
  ⟨(some 2), .rd (.mv (.k (.a (.c (.lf (.bool false)))))), none⟩]
def s17_1 : List GI := [⟨(some 3), .rd (.mv (.k (.a (.c (.lf (.int .i64 1048576)))))), none⟩]
def s17_2 : List GI := [⟨(some 11), .rd (.load (some 4) (.t 1)), none⟩,
  ⟨(some 12), .rd (.mv (.t 3)), none⟩,
  ⟨(some 13), .wr (.call 38 [(.t 11), (.t 12)]), none⟩,
  ⟨(some 3), .rd (.mv (.t 13)), none⟩]
def s17_3 : List GI := [⟨(some 14), .rd (.mv (.t 3)), none⟩,
  ⟨(some 15), .rd (.bin .lss (.t 14) (.k (.a (.c (.lf (.int .i64 0)))))), none⟩]
def s17_4 : List GI := [⟨(some 2), .rd (.mv (.k (.a (.c (.lf (.bool true)))))), none⟩]
def s17_5 : List GI := [⟨(some 16), .rd (.load (some 4) (.t 1)), none⟩,
  ⟨(some 17), .wr (.call 40 [(.t 16)]), none⟩,
  ⟨(some 18), .wr (.call 67 [(.t 17)]), none⟩,
  ⟨(some 4), .wr (.alloc [.nl 1, .nl 2, .lf (.int .i64 0), .lf (.bool false)]), none⟩,
  ⟨none, .wr (.store 4 (.t 4) (.t 18)), none⟩]
def s17_6 : List GI := [⟨(some 19), .rd (.load (some 4) (.t 1)), none⟩,
  ⟨(some 20), .wr (.call 40 [(.t 19)]), none⟩,
  ⟨(some 5), .wr (.alloc [.nl 1, .nl 2, .lf (.int .i64 0), .lf (.bool false)]), none⟩,
  ⟨none, .wr (.store 4 (.t 5) (.t 20)), none⟩]
def s17_7 : List GI := [⟨(some 21), .rd (.load (some 4) (.t 5)), none⟩,
  ⟨(some 22), .wr (.call 44 [(.t 21)]), none⟩,
  ⟨(some 6), .wr (.alloc [.nl 1, .nl 2, .lf (.int .i64 0), .lf (.bool false)]), none⟩,
  ⟨none, .wr (.store 4 (.t 6) (.t 22)), none⟩]
def s17_8 : List GI := [⟨(some 23), .rd (.load (some 4) (.t 6)), none⟩,
  ⟨(some 24), .rd (.load (some 4) (.t 4)), none⟩,
  ⟨(some 25), .wr (.call 31 [(.t 23), (.t 24)]), none⟩,
  ⟨(some 26), .rd (.un .not (.t 25)), none⟩]
def s17_9 : List GI := [⟨(some 2), .rd (.mv (.k (.a (.c (.lf (.bool false)))))), none⟩]
def s17_10 : List DI := [⟨⟨(some 27), .rd (.load (some 4) (.t 5)), none⟩, [], false, 0, 1⟩,
  ⟨⟨(some 28), .rd (.load (some 4) (.t 1)), none⟩, [], false, 0, 0⟩,
  ⟨⟨(some 29), .wr (.call 40 [(.t 28)]), none⟩, [1], true, 0, 0⟩,
  ⟨⟨(some 30), .wr (.call 31 [(.t 27), (.t 29)]), none⟩, [0, 2, 1], true, 0, 0⟩,
  ⟨⟨(some 31), .rd (.un .not (.t 30)), none⟩, [3, 0, 2, 1], false, 2, 2⟩]
def s17_11 : List GI := [⟨(some 2), .rd (.mv (.k (.a (.c (.lf (.bool false)))))), none⟩]
def s17_12 : List GI := [⟨(some 7), .rd (.mv (.k (.a (.c (.lf (.int .i64 1)))))), none⟩]
def s17_13 : List GI := [⟨(some 32), .rd (.load (some 4) (.t 5)), none⟩,
  ⟨(some 33), .rd (.mv (.t 7)), none⟩,
  ⟨(some 34), .wr (.call 32 [(.t 32), (.t 33)]), none⟩,
  ⟨(some 7), .rd (.mv (.t 34)), none⟩]
def s17_14 : List GI := [⟨(some 35), .rd (.mv (.t 7)), none⟩,
  ⟨(some 36), .rd (.bin .lss (.t 35) (.k (.a (.c (.lf (.int .i64 0)))))), none⟩,
  ⟨(some 37), .rd (.mv (.t 36)), none⟩,
  ⟨(some 38), .rd (.load (some 4) (.t 6)), (some (37, false))⟩,
  ⟨(some 39), .rd (.load (some 4) (.t 4)), (some (37, false))⟩,
  ⟨(some 40), .wr (.call 31 [(.t 38), (.t 39)]), (some (37, false))⟩,
  ⟨(some 41), .rd (.un .not (.t 40)), (some (37, false))⟩,
  ⟨(some 42), .rd (.pick (.t 37) (.k (.a (.c (.lf (.bool true))))) (.t 41)), none⟩]
def s17_15 : List GI := [⟨(some 2), .rd (.mv (.k (.a (.c (.lf (.bool false)))))), none⟩]
def s17_16 : List GI := [⟨(some 8), .rd (.mv (.k (.a (.c (.lf (.int .i64 1)))))), none⟩]
def s17_17 : List GI := [⟨(some 43), .rd (.load (some 4) (.t 6)), none⟩,
  ⟨(some 44), .rd (.mv (.t 8)), none⟩,
  ⟨(some 45), .wr (.call 32 [(.t 43), (.t 44)]), none⟩,
  ⟨(some 8), .rd (.mv (.t 45)), none⟩]
def s17_18 : List GI := [⟨(some 9), .rd (.mv (.k (.a (.c (.lf (.int .i64 1)))))), none⟩]
def s17_19 : List GI := [⟨(some 46), .rd (.load (some 4) (.t 6)), none⟩,
  ⟨(some 47), .rd (.mv (.t 9)), none⟩,
  ⟨(some 48), .wr (.call 33 [(.t 46), (.t 47)]), none⟩,
  ⟨(some 9), .rd (.mv (.t 48)), none⟩]
def s17_20 : List GI := [⟨(some 49), .rd (.mv (.t 9)), none⟩,
  ⟨(some 50), .rd (.bin .lss (.t 49) (.k (.a (.c (.lf (.int .i64 0)))))), none⟩]
def s17_21 : List GI := [⟨(some 2), .rd (.mv (.k (.a (.c (.lf (.bool false)))))), none⟩]
def s17_22 : List GI := [⟨(some 51), .rd (.mv (.t 9)), none⟩,
  ⟨(some 52), .rd (.mv (.t 8)), none⟩,
  ⟨(some 53), .rd (.bin .neq (.t 51) (.t 52)), none⟩]
def s17_23 : List GI := [⟨(some 2), .rd (.mv (.k (.a (.c (.lf (.bool false)))))), none⟩]
def s17_24 : List GI := [⟨(some 54), .rd (.load (some 4) (.t 1)), none⟩,
  ⟨(some 55), .wr (.call 40 [(.t 54)]), none⟩,
  ⟨(some 56), .wr (.call 44 [(.t 55)]), none⟩,
  ⟨(some 10), .wr (.alloc [.nl 1, .nl 2, .lf (.int .i64 0), .lf (.bool false)]), none⟩,
  ⟨none, .wr (.store 4 (.t 10) (.t 56)), none⟩]
def s17_25 : List GI := [⟨(some 57), .rd (.load (some 4) (.t 10)), none⟩,
  ⟨(some 58), .rd (.load (some 4) (.t 4)), none⟩,
  ⟨(some 59), .wr (.call 31 [(.t 57), (.t 58)]), none⟩,
  ⟨(some 60), .rd (.un .not (.t 59)), none⟩]
def s17_26 : List GI := [⟨(some 2), .rd (.mv (.k (.a (.c (.lf (.bool false)))))), none⟩]
def s17_27 : List GI := [⟨(some 9), .rd (.mv (.k (.a (.c (.lf (.int .i64 1)))))), none⟩]
def s17_28 : List GI := [⟨(some 61), .rd (.load (some 4) (.t 6)), none⟩,
  ⟨(some 62), .rd (.mv (.t 9)), none⟩,
  ⟨(some 63), .wr (.call 33 [(.t 61), (.t 62)]), none⟩,
  ⟨(some 9), .rd (.mv (.t 63)), none⟩]
def s17_29 : List GI := [⟨(some 64), .rd (.mv (.t 9)), none⟩,
  ⟨(some 65), .rd (.bin .lss (.t 64) (.k (.a (.c (.lf (.int .i64 0)))))), none⟩]
def s17_30 : List GI := [⟨(some 2), .rd (.mv (.k (.a (.c (.lf (.bool false)))))), none⟩]
def s17_31 : List GI := [⟨(some 66), .rd (.mv (.t 9)), none⟩,
  ⟨(some 67), .rd (.mv (.t 8)), none⟩,
  ⟨(some 68), .rd (.bin .neq (.t 66) (.t 67)), none⟩]
def s17_32 : List GI := [⟨(some 2), .rd (.mv (.k (.a (.c (.lf (.bool false)))))), none⟩]
def s17_33 : List GI := [⟨(some 2), .rd (.mv (.k (.a (.c (.lf (.bool true)))))), none⟩]
def s17 : Stm := (.seq (.reg s17_0) (.seq (.reg s17_1) (.seq (.reg s17_2) (.seq (.seq (.reg s17_3) (.cond (.t 15) (.seq (.reg s17_4) .ret) .skip)) (.seq (.reg s17_5) (.seq (.reg s17_6) (.seq (.reg s17_7) (.seq (.seq (.reg s17_8) (.cond (.t 26) (.seq (.reg s17_9) .ret) .skip)) (.seq (.seq (.drw s17_10) (.cond (.t 31) (.seq (.reg s17_11) .ret) .skip)) (.seq (.reg s17_12) (.seq (.reg s17_13) (.seq (.seq (.reg s17_14) (.cond (.t 42) (.seq (.reg s17_15) .ret) .skip)) (.seq (.reg s17_16) (.seq (.reg s17_17) (.seq (.reg s17_18) (.seq (.reg s17_19) (.seq (.seq (.reg s17_20) (.cond (.t 50) (.seq (.reg s17_21) .ret) .skip)) (.seq (.seq (.reg s17_22) (.cond (.t 53) (.seq (.reg s17_23) .ret) .skip)) (.seq (.reg s17_24) (.seq (.seq (.reg s17_25) (.cond (.t 60) (.seq (.reg s17_26) .ret) .skip)) (.seq (.reg s17_27) (.seq (.reg s17_28) (.seq (.seq (.reg s17_29) (.cond (.t 65) (.seq (.reg s17_30) .ret) .skip)) (.seq (.seq (.reg s17_31) (.cond (.t 68) (.seq (.reg s17_32) .ret) .skip)) (.seq (.reg s17_33) .ret)))))))))))))))))))))))))
theorem tr17 : (Try.f17.body.bind (trC Try.prog Try.f17.ntmps)) = some s17 := by kernel_rfl
end Go.Proofs.Ytgbapgjdkoojdaa
