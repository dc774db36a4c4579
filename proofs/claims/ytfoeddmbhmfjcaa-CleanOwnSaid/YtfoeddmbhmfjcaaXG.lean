/- Merged texts: K2, Q8, Q9, QA, QU. -/
import Derived.Test.YtfoeddmbhmfjcaaXD
import Derived.Test.YtfoeddmbhmfjcaaProg
import Derived.Test.YtfoeddmbhmfjcaaXF
set_option linter.unusedSimpArgs false
set_option linter.unusedVariables false
/- Functions of the program, compiled. -/
namespace Go.Proofs.Ytfoeddmbhmfjcaa
set_option maxRecDepth 100000
def ac_29 : AC :=
(.seq (.reg false [⟨some 2, .mv (.const (.slice none 0 0)), none, [], []⟩] [0])
(.seq (.reg false [⟨some 3, .mv (.const (.slice none 0 0)), none, [], []⟩] [0, 3])
(.seq (.reg false [⟨some 4, .mv (.tmp 3), none, [3], []⟩,
    ⟨some 5, .mv (.tmp 0), none, [0], []⟩,
    ⟨some 6, .append 5 1 1 (.tmp 4) (.tmp 5), none, [4, 5], []⟩,
    ⟨some 2, .mv (.tmp 6), none, [6], []⟩] [2])
.ret)))
theorem ok_29 : FnOk Try.prog 29 7 ac_29 [.tmp 2] := ⟨Try.f29, Try.func29, by kernel_rfl, by kernel_rfl, by kernel_rfl, by kernel_rfl, by kernel_rfl⟩
def ac_49 : AC :=
(.seq (.reg false [⟨some 2, .mv (.const (.slice none 0 0)), none, [], []⟩] [0])
(.seq (.reg false [⟨some 3, .mv (.const (.slice none 0 0)), none, [], []⟩] [0, 3])
(.seq (.reg false [⟨some 4, .mv (.tmp 3), none, [3], []⟩,
    ⟨some 5, .mv (.tmp 0), none, [0], []⟩,
    ⟨some 6, .append 4 1 1 (.tmp 4) (.tmp 5), none, [4, 5], []⟩,
    ⟨some 2, .mv (.tmp 6), none, [6], []⟩] [2])
.ret)))
theorem ok_49 : FnOk Try.prog 49 7 ac_49 [.tmp 2] := ⟨Try.f49, Try.func49, by kernel_rfl, by kernel_rfl, by kernel_rfl, by kernel_rfl, by kernel_rfl⟩
def ac_50 : AC :=
(.seq (.reg false [⟨some 2, .mv (.const (.slice none 0 0)), none, [], []⟩] [0])
(.seq (.reg false [⟨some 3, .mv (.const (.slice none 0 0)), none, [], []⟩] [0, 3])
(.seq (.seq (.reg false [⟨some 4, .mv (.const (.int .i64 (0))), none, [], []⟩] [0, 3, 4])
(.block 0 (.loop (.seq (.seq (.reg false [⟨some 5, .mv (.tmp 4), none, [4], []⟩,
    ⟨some 6, .mv (.tmp 0), none, [0], []⟩,
    ⟨some 7, .len false (.tmp 6), none, [6], []⟩,
    ⟨some 8, .bin .lss (.tmp 5) (.tmp 7), none, [5, 7], []⟩] [0, 3, 4, 8])
(.cond (.tmp 8)
.skip
(.exit 0)))
(.seq (.block 1 (.reg true [⟨some 11, .mv (.tmp 3), none, [3], []⟩,
    ⟨some 12, .mv (.tmp 0), none, [0], []⟩,
    ⟨some 13, .mv (.tmp 4), none, [4], []⟩,
    ⟨some 14, .idx 3 (.tmp 12) (.tmp 13), none, [12, 13], [1, 2]⟩,
    ⟨some 15, .foff 0 (.tmp 14), none, [14], [3, 1, 2]⟩,
    ⟨some 16, .load false 1 (.tmp 15), none, [15], [4, 3, 1, 2]⟩,
    ⟨some 17, .mv (.tmp 0), none, [0], []⟩,
    ⟨some 18, .mv (.tmp 4), none, [4], []⟩,
    ⟨some 19, .idx 3 (.tmp 17) (.tmp 18), none, [17, 18], [6, 7]⟩,
    ⟨some 20, .foff 1 (.tmp 19), none, [19], [8, 6, 7]⟩,
    ⟨some 21, .load false 1 (.tmp 20), none, [20], [9, 8, 6, 7]⟩,
    ⟨some 22, .mv (.tmp 0), none, [0], []⟩,
    ⟨some 23, .mv (.tmp 4), none, [4], []⟩,
    ⟨some 24, .idx 3 (.tmp 22) (.tmp 23), none, [22, 23], [11, 12]⟩,
    ⟨some 25, .foff 2 (.tmp 24), none, [24], [13, 11, 12]⟩,
    ⟨some 26, .load false 1 (.tmp 25), none, [25], [14, 13, 11, 12]⟩,
    ⟨some 27, .call 29 [(.tmp 26)], none, [26], [15, 14, 13, 11, 12]⟩,
    ⟨some 28, .build [(.int .i64 (0)), (.int .i64 (0)), (.slice none 0 0)] [(0, 1, (.tmp 16)), (1, 1, (.tmp 21)), (2, 1, (.tmp 27))], none, [16, 21, 27], [5, 10, 16, 4, 3, 1, 2, 9, 8, 6, 7, 15, 14, 13, 11, 12]⟩,
    ⟨some 29, .bslice 57 3 1 [(.int .i64 (0)), (.int .i64 (0)), (.slice none 0 0)] [(0, 3, (.tmp 28))], none, [28], [17, 5, 10, 16, 4, 3, 1, 2, 9, 8, 6, 7, 15, 14, 13, 11, 12]⟩,
    ⟨some 30, .append 57 3 40 (.tmp 11) (.tmp 29), none, [11, 29], [0, 18, 16, 17, 5, 10, 4, 3, 1, 2, 9, 8, 6, 7, 15, 14, 13, 11, 12]⟩,
    ⟨some 3, .mv (.tmp 30), none, [30], [19, 0, 1, 2, 3, 4, 5, 6, 7, 8, 9, 10, 11, 12, 13, 14, 15, 16, 17, 18]⟩] [0, 3, 4]))
(.reg false [⟨some 9, .mv (.tmp 4), none, [4], []⟩,
    ⟨some 10, .bin .add (.tmp 9) (.const (.int .i64 (1))), none, [9], []⟩,
    ⟨some 4, .mv (.tmp 10), none, [10], []⟩] [0, 3, 4]))))))
(.seq (.reg false [⟨some 31, .mv (.tmp 3), none, [3], []⟩,
    ⟨some 2, .mv (.tmp 31), none, [31], []⟩] [2])
.ret))))
theorem ok_50 : FnOk Try.prog 50 32 ac_50 [.tmp 2] := ⟨Try.f50, Try.func50, by kernel_rfl, by kernel_rfl, by kernel_rfl, by kernel_rfl, by kernel_rfl⟩
def ac_51 : AC :=
(.seq (.reg false [⟨some 1, .box 69 (.tmp 0), none, [0], []⟩,
    ⟨some 2, .new 62 [(.int .i64 (0)), (.slice none 0 0)], none, [], []⟩] [1, 2])
(.seq (.reg true [⟨some 3, .foff 0 (.tmp 1), none, [1], []⟩,
    ⟨some 4, .load false 1 (.tmp 3), none, [3], [0]⟩,
    ⟨some 5, .foff 1 (.tmp 1), none, [1], []⟩,
    ⟨some 6, .load false 1 (.tmp 5), none, [5], [2]⟩,
    ⟨some 7, .call 50 [(.tmp 6)], none, [6], [3, 2]⟩,
    ⟨some 8, .build [(.int .i64 (0)), (.slice none 0 0)] [(0, 1, (.tmp 4)), (1, 1, (.tmp 7))], none, [4, 7], [1, 4, 0, 3, 2]⟩,
    ⟨none, .store 2 (.tmp 2) (.tmp 8), none, [2, 8], [5, 4, 0, 1, 2, 3]⟩] [2])
.ret))
theorem ok_51 : FnOk Try.prog 51 9 ac_51 [.cell 2 true 2] := ⟨Try.f51, Try.func51, by kernel_rfl, by kernel_rfl, by kernel_rfl, by kernel_rfl, by kernel_rfl⟩
def ac_18 : AC :=
(.seq (.reg false [⟨some 1, .box 32 (.tmp 0), none, [0], []⟩,
    ⟨some 2, .new 36 [(.slice none 0 0), (.slice none 0 0), (.slice none 0 0), (.int .i64 (0))], none, [], []⟩] [1, 2])
(.seq (.reg true [⟨some 5, .foff 1 (.tmp 1), none, [1], []⟩,
    ⟨some 6, .load false 1 (.tmp 5), none, [5], [0]⟩,
    ⟨some 7, .call 49 [(.tmp 6)], none, [6], [1, 0]⟩,
    ⟨some 8, .foff 2 (.tmp 1), none, [1], []⟩,
    ⟨some 9, .load false 1 (.tmp 8), none, [8], [3]⟩,
    ⟨some 10, .call 50 [(.tmp 9)], none, [9], [4, 2, 3, 1, 0]⟩,
    ⟨some 11, .foff 3 (.tmp 1), none, [1], []⟩,
    ⟨some 12, .load false 1 (.tmp 11), none, [11], [6]⟩,
    ⟨some 13, .build [(.slice none 0 0), (.slice none 0 0), (.slice none 0 0), (.int .i64 (0))] [(1, 1, (.tmp 7)), (2, 1, (.tmp 10)), (3, 1, (.tmp 12))], none, [7, 10, 12], [2, 5, 7, 1, 0, 4, 3, 6]⟩,
    ⟨some 3, .new 36 [(.slice none 0 0), (.slice none 0 0), (.slice none 0 0), (.int .i64 (0))], none, [], []⟩,
    ⟨none, .store 4 (.tmp 3) (.tmp 13), none, [3, 13], [9, 8, 5, 0, 1, 2, 3, 4, 6, 7]⟩] [1, 2, 3])
(.seq (.seq (.reg false [⟨some 4, .mv (.const (.int .i64 (0))), none, [], []⟩] [1, 2, 3, 4])
(.block 0 (.loop (.seq (.seq (.reg false [⟨some 14, .mv (.tmp 4), none, [4], []⟩,
    ⟨some 15, .foff 0 (.tmp 1), none, [1], []⟩,
    ⟨some 16, .load false 1 (.tmp 15), none, [15], []⟩,
    ⟨some 17, .len false (.tmp 16), none, [16], []⟩,
    ⟨some 18, .bin .lss (.tmp 14) (.tmp 17), none, [14, 17], []⟩] [1, 2, 3, 4, 18])
(.cond (.tmp 18)
.skip
(.exit 0)))
(.seq (.block 1 (.reg true [⟨some 21, .foff 0 (.tmp 3), none, [3], []⟩,
    ⟨some 22, .load false 1 (.tmp 21), none, [21], [0]⟩,
    ⟨some 23, .foff 0 (.tmp 1), none, [1], []⟩,
    ⟨some 24, .load false 1 (.tmp 23), none, [23], [2]⟩,
    ⟨some 25, .mv (.tmp 4), none, [4], []⟩,
    ⟨some 26, .idx 2 (.tmp 24) (.tmp 25), none, [24, 25], [3, 4, 2]⟩,
    ⟨some 27, .load true 2 (.tmp 26), none, [26], [5, 3, 4, 2]⟩,
    ⟨some 28, .call 51 [(.tmp 27)], none, [27], [6, 5, 3, 4, 2]⟩,
    ⟨some 29, .bslice 62 2 1 [(.int .i64 (0)), (.slice none 0 0)] [(0, 2, (.tmp 28))], none, [28], [7, 6, 5, 3, 4, 2]⟩,
    ⟨some 30, .append 62 2 32 (.tmp 22) (.tmp 29), none, [22, 29], [1, 8, 7, 0, 6, 5, 3, 4, 2]⟩,
    ⟨some 31, .foff 0 (.tmp 3), none, [3], [0, 1, 2, 3, 4, 5, 6, 7, 8, 9]⟩,
    ⟨none, .store 1 (.tmp 31) (.tmp 30), none, [31, 30], [10, 9, 0, 1, 2, 3, 4, 5, 6, 7, 8]⟩] [1, 2, 3, 4]))
(.reg false [⟨some 19, .mv (.tmp 4), none, [4], []⟩,
    ⟨some 20, .bin .add (.tmp 19) (.const (.int .i64 (1))), none, [19], []⟩,
    ⟨some 4, .mv (.tmp 20), none, [20], []⟩] [1, 2, 3, 4]))))))
(.seq (.reg false [⟨some 32, .load true 4 (.tmp 3), none, [3], []⟩,
    ⟨none, .store 4 (.tmp 2) (.tmp 32), none, [2, 32], []⟩] [2])
.ret))))
theorem ok_18 : FnOk Try.prog 18 33 ac_18 [.cell 2 true 4] := ⟨Try.f18, Try.func18, by kernel_rfl, by kernel_rfl, by kernel_rfl, by kernel_rfl, by kernel_rfl⟩
def ac_45 : AC :=
(.seq (.reg false [⟨some 4, .mv (.const (.bool false)), none, [], []⟩] [0, 1])
(.seq (.seq (.reg false [⟨some 6, .mv (.tmp 0), none, [0], []⟩,
    ⟨some 7, .len false (.tmp 6), none, [6], []⟩,
    ⟨some 8, .mv (.tmp 1), none, [1], []⟩,
    ⟨some 9, .len false (.tmp 8), none, [8], []⟩,
    ⟨some 10, .bin .neq (.tmp 7) (.tmp 9), none, [7, 9], []⟩] [0, 1, 10])
(.cond (.tmp 10)
(.seq (.reg false [⟨some 4, .mv (.const (.bool false)), none, [], []⟩] [4])
.ret)
.skip))
(.seq (.seq (.reg false [⟨some 5, .mv (.const (.int .i64 (0))), none, [], []⟩] [0, 1, 5])
(.block 0 (.loop (.seq (.seq (.reg false [⟨some 11, .mv (.tmp 5), none, [5], []⟩,
    ⟨some 12, .mv (.tmp 0), none, [0], []⟩,
    ⟨some 13, .len false (.tmp 12), none, [12], []⟩,
    ⟨some 14, .bin .lss (.tmp 11) (.tmp 13), none, [11, 13], []⟩] [0, 1, 5, 14])
(.cond (.tmp 14)
.skip
(.exit 0)))
(.seq (.block 1 (.seq (.reg true [⟨some 17, .mv (.tmp 0), none, [0], []⟩,
    ⟨some 18, .mv (.tmp 5), none, [5], []⟩,
    ⟨some 19, .idx 1 (.tmp 17) (.tmp 18), none, [17, 18], [0, 1]⟩,
    ⟨some 20, .load false 1 (.tmp 19), none, [19], [2, 0, 1]⟩,
    ⟨some 21, .mv (.tmp 1), none, [1], []⟩,
    ⟨some 22, .mv (.tmp 5), none, [5], []⟩,
    ⟨some 23, .idx 1 (.tmp 21) (.tmp 22), none, [21, 22], [4, 5]⟩,
    ⟨some 24, .load false 1 (.tmp 23), none, [23], [6, 4, 5]⟩,
    ⟨some 25, .bin .neq (.tmp 20) (.tmp 24), none, [20, 24], [3, 7, 2, 0, 1, 6, 4, 5]⟩] [0, 1, 5, 25])
(.cond (.tmp 25)
(.seq (.reg false [⟨some 4, .mv (.const (.bool false)), none, [], []⟩] [4])
.ret)
.skip)))
(.reg false [⟨some 15, .mv (.tmp 5), none, [5], []⟩,
    ⟨some 16, .bin .add (.tmp 15) (.const (.int .i64 (1))), none, [15], []⟩,
    ⟨some 5, .mv (.tmp 16), none, [16], []⟩] [0, 1, 5]))))))
(.seq (.reg false [⟨some 4, .mv (.const (.bool true)), none, [], []⟩] [4])
.ret))))
theorem ok_45 : FnOk Try.prog 45 26 ac_45 [.tmp 4] := ⟨Try.f45, Try.func45, by kernel_rfl, by kernel_rfl, by kernel_rfl, by kernel_rfl, by kernel_rfl⟩
def ac_61 : AC :=
(.seq (.reg false [⟨some 4, .mv (.const (.bool false)), none, [], []⟩] [0, 1])
(.seq (.seq (.reg false [⟨some 6, .mv (.tmp 0), none, [0], []⟩,
    ⟨some 7, .len false (.tmp 6), none, [6], []⟩,
    ⟨some 8, .mv (.tmp 1), none, [1], []⟩,
    ⟨some 9, .len false (.tmp 8), none, [8], []⟩,
    ⟨some 10, .bin .neq (.tmp 7) (.tmp 9), none, [7, 9], []⟩] [0, 1, 10])
(.cond (.tmp 10)
(.seq (.reg false [⟨some 4, .mv (.const (.bool false)), none, [], []⟩] [4])
.ret)
.skip))
(.seq (.seq (.reg false [⟨some 5, .mv (.const (.int .i64 (0))), none, [], []⟩] [0, 1, 5])
(.block 0 (.loop (.seq (.seq (.reg false [⟨some 11, .mv (.tmp 5), none, [5], []⟩,
    ⟨some 12, .mv (.tmp 0), none, [0], []⟩,
    ⟨some 13, .len false (.tmp 12), none, [12], []⟩,
    ⟨some 14, .bin .lss (.tmp 11) (.tmp 13), none, [11, 13], []⟩] [0, 1, 5, 14])
(.cond (.tmp 14)
.skip
(.exit 0)))
(.seq (.block 1 (.seq (.reg true [⟨some 17, .mv (.tmp 0), none, [0], []⟩,
    ⟨some 18, .mv (.tmp 5), none, [5], []⟩,
    ⟨some 19, .idx 1 (.tmp 17) (.tmp 18), none, [17, 18], [0, 1]⟩,
    ⟨some 20, .load false 1 (.tmp 19), none, [19], [2, 0, 1]⟩,
    ⟨some 21, .mv (.tmp 1), none, [1], []⟩,
    ⟨some 22, .mv (.tmp 5), none, [5], []⟩,
    ⟨some 23, .idx 1 (.tmp 21) (.tmp 22), none, [21, 22], [4, 5]⟩,
    ⟨some 24, .load false 1 (.tmp 23), none, [23], [6, 4, 5]⟩,
    ⟨some 25, .beq true (.tmp 20) (.tmp 24), none, [20, 24], [3, 7, 2, 0, 1, 6, 4, 5]⟩] [0, 1, 5, 25])
(.cond (.tmp 25)
(.seq (.reg false [⟨some 4, .mv (.const (.bool false)), none, [], []⟩] [4])
.ret)
.skip)))
(.reg false [⟨some 15, .mv (.tmp 5), none, [5], []⟩,
    ⟨some 16, .bin .add (.tmp 15) (.const (.int .i64 (1))), none, [15], []⟩,
    ⟨some 5, .mv (.tmp 16), none, [16], []⟩] [0, 1, 5]))))))
(.seq (.reg false [⟨some 4, .mv (.const (.bool true)), none, [], []⟩] [4])
.ret))))
theorem ok_61 : FnOk Try.prog 61 26 ac_61 [.tmp 4] := ⟨Try.f61, Try.func61, by kernel_rfl, by kernel_rfl, by kernel_rfl, by kernel_rfl, by kernel_rfl⟩
def ac_27 : AC :=
(.seq (.reg false [⟨some 4, .mv (.const (.int .i64 (0))), none, [], []⟩] [0, 1])
(.seq (.seq (.reg false [⟨some 6, .mv (.tmp 0), none, [0], []⟩,
    ⟨some 7, .len false (.tmp 6), none, [6], []⟩,
    ⟨some 8, .mv (.tmp 1), none, [1], []⟩,
    ⟨some 9, .len false (.tmp 8), none, [8], []⟩,
    ⟨some 10, .bin .neq (.tmp 7) (.tmp 9), none, [7, 9], []⟩] [0, 1, 10])
(.cond (.tmp 10)
(.seq (.reg false [⟨some 4, .mv (.const (.int .i64 (1))), none, [], []⟩] [4])
.ret)
.skip))
(.seq (.seq (.reg false [⟨some 5, .mv (.const (.int .i64 (0))), none, [], []⟩] [0, 1, 5])
(.block 0 (.loop (.seq (.seq (.reg false [⟨some 11, .mv (.tmp 5), none, [5], []⟩,
    ⟨some 12, .mv (.tmp 0), none, [0], []⟩,
    ⟨some 13, .len false (.tmp 12), none, [12], []⟩,
    ⟨some 14, .bin .lss (.tmp 11) (.tmp 13), none, [11, 13], []⟩] [0, 1, 5, 14])
(.cond (.tmp 14)
.skip
(.exit 0)))
(.seq (.block 1 (.seq (.reg true [⟨some 17, .mv (.tmp 0), none, [0], []⟩,
    ⟨some 18, .mv (.tmp 5), none, [5], []⟩,
    ⟨some 19, .idx 3 (.tmp 17) (.tmp 18), none, [17, 18], [0, 1]⟩,
    ⟨some 20, .foff 0 (.tmp 19), none, [19], [2, 0, 1]⟩,
    ⟨some 21, .load false 1 (.tmp 20), none, [20], [3, 2, 0, 1]⟩,
    ⟨some 22, .mv (.tmp 1), none, [1], []⟩,
    ⟨some 23, .mv (.tmp 5), none, [5], []⟩,
    ⟨some 24, .idx 3 (.tmp 22) (.tmp 23), none, [22, 23], [5, 6]⟩,
    ⟨some 25, .foff 0 (.tmp 24), none, [24], [7, 5, 6]⟩,
    ⟨some 26, .load false 1 (.tmp 25), none, [25], [8, 7, 5, 6]⟩,
    ⟨some 27, .bin .neq (.tmp 21) (.tmp 26), none, [21, 26], [4, 9, 3, 2, 0, 1, 8, 7, 5, 6]⟩,
    ⟨some 28, .mv (.tmp 27), none, [27], [10, 4, 9, 3, 2, 0, 1, 8, 7, 5, 6]⟩,
    ⟨some 29, .mv (.tmp 0), some (28, false), [0, 28], [11, 10, 4, 9, 3, 2, 0, 1, 8, 7, 5, 6]⟩,
    ⟨some 30, .mv (.tmp 5), some (28, false), [5, 28], [11, 10, 4, 9, 3, 2, 0, 1, 8, 7, 5, 6]⟩,
    ⟨some 31, .idx 3 (.tmp 29) (.tmp 30), some (28, false), [29, 30, 28], [12, 13, 11, 10, 4, 9, 3, 2, 0, 1, 8, 7, 5, 6]⟩,
    ⟨some 32, .foff 1 (.tmp 31), some (28, false), [31, 28], [14, 11, 12, 13, 10, 4, 9, 3, 2, 0, 1, 8, 7, 5, 6]⟩,
    ⟨some 33, .load false 1 (.tmp 32), some (28, false), [32, 28], [15, 11, 14, 12, 13, 10, 4, 9, 3, 2, 0, 1, 8, 7, 5, 6]⟩,
    ⟨some 34, .mv (.tmp 1), some (28, false), [1, 28], [11, 10, 4, 9, 3, 2, 0, 1, 8, 7, 5, 6]⟩,
    ⟨some 35, .mv (.tmp 5), some (28, false), [5, 28], [11, 10, 4, 9, 3, 2, 0, 1, 8, 7, 5, 6]⟩,
    ⟨some 36, .idx 3 (.tmp 34) (.tmp 35), some (28, false), [34, 35, 28], [17, 18, 11, 10, 4, 9, 3, 2, 0, 1, 8, 7, 5, 6]⟩,
    ⟨some 37, .foff 1 (.tmp 36), some (28, false), [36, 28], [19, 11, 17, 18, 10, 4, 9, 3, 2, 0, 1, 8, 7, 5, 6]⟩,
    ⟨some 38, .load false 1 (.tmp 37), some (28, false), [37, 28], [20, 11, 19, 17, 18, 10, 4, 9, 3, 2, 0, 1, 8, 7, 5, 6]⟩,
    ⟨some 39, .bin .neq (.tmp 33) (.tmp 38), some (28, false), [33, 38, 28], [16, 21, 11, 15, 14, 12, 13, 10, 4, 9, 3, 2, 0, 1, 8, 7, 5, 6, 20, 19, 17, 18]⟩,
    ⟨some 40, .pick (.tmp 28) (.const (.bool true)) (.tmp 39), none, [28, 39], [11, 22, 10, 4, 9, 3, 2, 0, 1, 8, 7, 5, 6, 16, 21, 15, 14, 12, 13, 20, 19, 17, 18]⟩,
    ⟨some 41, .mv (.tmp 40), none, [40], [23, 11, 22, 10, 4, 9, 3, 2, 0, 1, 8, 7, 5, 6, 16, 21, 15, 14, 12, 13, 20, 19, 17, 18]⟩,
    ⟨some 42, .mv (.tmp 0), some (41, false), [0, 41], [24, 23, 11, 22, 10, 4, 9, 3, 2, 0, 1, 8, 7, 5, 6, 16, 21, 15, 14, 12, 13, 20, 19, 17, 18]⟩,
    ⟨some 43, .mv (.tmp 5), some (41, false), [5, 41], [24, 23, 11, 22, 10, 4, 9, 3, 2, 0, 1, 8, 7, 5, 6, 16, 21, 15, 14, 12, 13, 20, 19, 17, 18]⟩,
    ⟨some 44, .idx 3 (.tmp 42) (.tmp 43), some (41, false), [42, 43, 41], [25, 26, 24, 23, 11, 22, 10, 4, 9, 3, 2, 0, 1, 8, 7, 5, 6, 16, 21, 15, 14, 12, 13, 20, 19, 17, 18]⟩,
    ⟨some 45, .foff 2 (.tmp 44), some (41, false), [44, 41], [27, 24, 25, 26, 23, 11, 22, 10, 4, 9, 3, 2, 0, 1, 8, 7, 5, 6, 16, 21, 15, 14, 12, 13, 20, 19, 17, 18]⟩,
    ⟨some 46, .load false 1 (.tmp 45), some (41, false), [45, 41], [28, 24, 27, 25, 26, 23, 11, 22, 10, 4, 9, 3, 2, 0, 1, 8, 7, 5, 6, 16, 21, 15, 14, 12, 13, 20, 19, 17, 18]⟩,
    ⟨some 47, .mv (.tmp 1), some (41, false), [1, 41], [24, 23, 11, 22, 10, 4, 9, 3, 2, 0, 1, 8, 7, 5, 6, 16, 21, 15, 14, 12, 13, 20, 19, 17, 18]⟩,
    ⟨some 48, .mv (.tmp 5), some (41, false), [5, 41], [24, 23, 11, 22, 10, 4, 9, 3, 2, 0, 1, 8, 7, 5, 6, 16, 21, 15, 14, 12, 13, 20, 19, 17, 18]⟩,
    ⟨some 49, .idx 3 (.tmp 47) (.tmp 48), some (41, false), [47, 48, 41], [30, 31, 24, 23, 11, 22, 10, 4, 9, 3, 2, 0, 1, 8, 7, 5, 6, 16, 21, 15, 14, 12, 13, 20, 19, 17, 18]⟩,
    ⟨some 50, .foff 2 (.tmp 49), some (41, false), [49, 41], [32, 24, 30, 31, 23, 11, 22, 10, 4, 9, 3, 2, 0, 1, 8, 7, 5, 6, 16, 21, 15, 14, 12, 13, 20, 19, 17, 18]⟩,
    ⟨some 51, .load false 1 (.tmp 50), some (41, false), [50, 41], [33, 24, 32, 30, 31, 23, 11, 22, 10, 4, 9, 3, 2, 0, 1, 8, 7, 5, 6, 16, 21, 15, 14, 12, 13, 20, 19, 17, 18]⟩,
    ⟨some 52, .call 45 [(.tmp 46), (.tmp 51)], some (41, false), [46, 51, 41], [29, 34, 24, 28, 27, 25, 26, 23, 11, 22, 10, 4, 9, 3, 2, 0, 1, 8, 7, 5, 6, 16, 21, 15, 14, 12, 13, 20, 19, 17, 18, 33, 32, 30, 31]⟩,
    ⟨some 53, .un .not (.tmp 52), some (41, false), [52, 41], [35, 24, 29, 34, 28, 27, 25, 26, 23, 11, 22, 10, 4, 9, 3, 2, 0, 1, 8, 7, 5, 6, 16, 21, 15, 14, 12, 13, 20, 19, 17, 18, 33, 32, 30, 31]⟩,
    ⟨some 54, .pick (.tmp 41) (.const (.bool true)) (.tmp 53), none, [41, 53], [24, 36, 23, 11, 22, 10, 4, 9, 3, 2, 0, 1, 8, 7, 5, 6, 16, 21, 15, 14, 12, 13, 20, 19, 17, 18, 35, 29, 34, 28, 27, 25, 26, 33, 32, 30, 31]⟩] [0, 1, 5, 54])
(.cond (.tmp 54)
(.seq (.reg false [⟨some 4, .mv (.const (.int .i64 (1))), none, [], []⟩] [4])
.ret)
.skip)))
(.reg false [⟨some 15, .mv (.tmp 5), none, [5], []⟩,
    ⟨some 16, .bin .add (.tmp 15) (.const (.int .i64 (1))), none, [15], []⟩,
    ⟨some 5, .mv (.tmp 16), none, [16], []⟩] [0, 1, 5]))))))
(.seq (.reg false [⟨some 4, .mv (.const (.int .i64 (0))), none, [], []⟩] [4])
.ret))))
theorem ok_27 : FnOk Try.prog 27 55 ac_27 [.tmp 4] := ⟨Try.f27, Try.func27, by kernel_rfl, by kernel_rfl, by kernel_rfl, by kernel_rfl, by kernel_rfl⟩
def ac_62 : AC :=
(.seq (.reg false [⟨some 2, .box 62 (.tmp 0), none, [0], []⟩,
    ⟨some 3, .box 69 (.tmp 1), none, [1], []⟩,
    ⟨some 4, .mv (.const (.int .i64 (0))), none, [], []⟩] [2, 3])
(.seq (.seq (.reg false [⟨some 5, .foff 0 (.tmp 2), none, [2], []⟩,
    ⟨some 6, .load false 1 (.tmp 5), none, [5], []⟩,
    ⟨some 7, .foff 0 (.tmp 3), none, [3], []⟩,
    ⟨some 8, .load false 1 (.tmp 7), none, [7], []⟩,
    ⟨some 9, .bin .neq (.tmp 6) (.tmp 8), none, [6, 8], []⟩] [2, 3, 9])
(.cond (.tmp 9)
(.seq (.reg false [⟨some 4, .mv (.const (.int .i64 (1))), none, [], []⟩] [4])
.ret)
.skip))
(.seq (.reg false [⟨some 10, .foff 1 (.tmp 2), none, [2], []⟩,
    ⟨some 11, .load false 1 (.tmp 10), none, [10], []⟩,
    ⟨some 12, .foff 1 (.tmp 3), none, [3], []⟩,
    ⟨some 13, .load false 1 (.tmp 12), none, [12], []⟩,
    ⟨some 14, .call 27 [(.tmp 11), (.tmp 13)], none, [11, 13], []⟩,
    ⟨some 4, .mv (.tmp 14), none, [14], []⟩] [4])
.ret)))
theorem ok_62 : FnOk Try.prog 62 15 ac_62 [.tmp 4] := ⟨Try.f62, Try.func62, by kernel_rfl, by kernel_rfl, by kernel_rfl, by kernel_rfl, by kernel_rfl⟩
def ac_25 : AC :=
(.seq (.reg false [⟨some 2, .box 36 (.tmp 0), none, [0], []⟩,
    ⟨some 3, .box 32 (.tmp 1), none, [1], []⟩,
    ⟨some 4, .mv (.const (.int .i64 (0))), none, [], []⟩] [2, 3])
(.seq (.seq (.reg false [⟨some 6, .foff 3 (.tmp 2), none, [2], []⟩,
    ⟨some 7, .load false 1 (.tmp 6), none, [6], []⟩,
    ⟨some 8, .foff 3 (.tmp 3), none, [3], []⟩,
    ⟨some 9, .load false 1 (.tmp 8), none, [8], []⟩,
    ⟨some 10, .bin .neq (.tmp 7) (.tmp 9), none, [7, 9], []⟩,
    ⟨some 11, .mv (.tmp 10), none, [10], []⟩,
    ⟨some 12, .foff 1 (.tmp 2), some (11, false), [2, 11], []⟩,
    ⟨some 13, .load false 1 (.tmp 12), some (11, false), [12, 11], []⟩,
    ⟨some 14, .foff 1 (.tmp 3), some (11, false), [3, 11], []⟩,
    ⟨some 15, .load false 1 (.tmp 14), some (11, false), [14, 11], []⟩,
    ⟨some 16, .call 61 [(.tmp 13), (.tmp 15)], some (11, false), [13, 15, 11], []⟩,
    ⟨some 17, .un .not (.tmp 16), some (11, false), [16, 11], []⟩,
    ⟨some 18, .pick (.tmp 11) (.const (.bool true)) (.tmp 17), none, [11, 17], []⟩,
    ⟨some 19, .mv (.tmp 18), none, [18], []⟩,
    ⟨some 20, .foff 2 (.tmp 2), some (19, false), [2, 19], []⟩,
    ⟨some 21, .load false 1 (.tmp 20), some (19, false), [20, 19], []⟩,
    ⟨some 22, .foff 2 (.tmp 3), some (19, false), [3, 19], []⟩,
    ⟨some 23, .load false 1 (.tmp 22), some (19, false), [22, 19], []⟩,
    ⟨some 24, .call 27 [(.tmp 21), (.tmp 23)], some (19, false), [21, 23, 19], []⟩,
    ⟨some 25, .bin .neq (.tmp 24) (.const (.int .i64 (0))), some (19, false), [24, 19], []⟩,
    ⟨some 26, .pick (.tmp 19) (.const (.bool true)) (.tmp 25), none, [19, 25], []⟩,
    ⟨some 27, .mv (.tmp 26), none, [26], []⟩,
    ⟨some 28, .foff 0 (.tmp 2), some (27, false), [2, 27], []⟩,
    ⟨some 29, .load false 1 (.tmp 28), some (27, false), [28, 27], []⟩,
    ⟨some 30, .len false (.tmp 29), some (27, false), [29, 27], []⟩,
    ⟨some 31, .foff 0 (.tmp 3), some (27, false), [3, 27], []⟩,
    ⟨some 32, .load false 1 (.tmp 31), some (27, false), [31, 27], []⟩,
    ⟨some 33, .len false (.tmp 32), some (27, false), [32, 27], []⟩,
    ⟨some 34, .bin .neq (.tmp 30) (.tmp 33), some (27, false), [30, 33, 27], []⟩,
    ⟨some 35, .pick (.tmp 27) (.const (.bool true)) (.tmp 34), none, [27, 34], []⟩] [2, 3, 35])
(.cond (.tmp 35)
(.seq (.reg false [⟨some 4, .mv (.const (.int .i64 (1))), none, [], []⟩] [4])
.ret)
.skip))
(.seq (.seq (.reg false [⟨some 5, .mv (.const (.int .i64 (0))), none, [], []⟩] [2, 3, 5])
(.block 0 (.loop (.seq (.seq (.reg false [⟨some 36, .mv (.tmp 5), none, [5], []⟩,
    ⟨some 37, .foff 0 (.tmp 2), none, [2], []⟩,
    ⟨some 38, .load false 1 (.tmp 37), none, [37], []⟩,
    ⟨some 39, .len false (.tmp 38), none, [38], []⟩,
    ⟨some 40, .bin .lss (.tmp 36) (.tmp 39), none, [36, 39], []⟩] [2, 3, 5, 40])
(.cond (.tmp 40)
.skip
(.exit 0)))
(.seq (.block 1 (.seq (.reg true [⟨some 43, .foff 0 (.tmp 2), none, [2], []⟩,
    ⟨some 44, .load false 1 (.tmp 43), none, [43], [0]⟩,
    ⟨some 45, .mv (.tmp 5), none, [5], []⟩,
    ⟨some 46, .idx 2 (.tmp 44) (.tmp 45), none, [44, 45], [1, 2, 0]⟩,
    ⟨some 47, .load true 2 (.tmp 46), none, [46], [3, 1, 2, 0]⟩,
    ⟨some 48, .foff 0 (.tmp 3), none, [3], []⟩,
    ⟨some 49, .load false 1 (.tmp 48), none, [48], [5]⟩,
    ⟨some 50, .mv (.tmp 5), none, [5], []⟩,
    ⟨some 51, .idx 2 (.tmp 49) (.tmp 50), none, [49, 50], [6, 7, 5]⟩,
    ⟨some 52, .load true 2 (.tmp 51), none, [51], [8, 6, 7, 5]⟩,
    ⟨some 53, .call 62 [(.tmp 47), (.tmp 52)], none, [47, 52], [4, 9, 3, 1, 2, 0, 8, 6, 7, 5]⟩,
    ⟨some 54, .bin .neq (.tmp 53) (.const (.int .i64 (0))), none, [53], [10, 4, 9, 3, 1, 2, 0, 8, 6, 7, 5]⟩] [2, 3, 5, 54])
(.cond (.tmp 54)
(.seq (.reg false [⟨some 4, .mv (.const (.int .i64 (1))), none, [], []⟩] [4])
.ret)
.skip)))
(.reg false [⟨some 41, .mv (.tmp 5), none, [5], []⟩,
    ⟨some 42, .bin .add (.tmp 41) (.const (.int .i64 (1))), none, [41], []⟩,
    ⟨some 5, .mv (.tmp 42), none, [42], []⟩] [2, 3, 5]))))))
(.seq (.reg false [⟨some 4, .mv (.const (.int .i64 (0))), none, [], []⟩] [4])
.ret))))
theorem ok_25 : FnOk Try.prog 25 55 ac_25 [.tmp 4] := ⟨Try.f25, Try.func25, by kernel_rfl, by kernel_rfl, by kernel_rfl, by kernel_rfl, by kernel_rfl⟩
def ac_26 : AC :=
(.seq (.reg false [⟨some 2, .mv (.const (.int .i64 (0))), none, [], []⟩] [0])
(.seq (.reg false [⟨some 3, .mv (.tmp 0), none, [0], []⟩,
    ⟨some 2, .mv (.tmp 3), none, [3], []⟩] [2])
.ret))
theorem ok_26 : FnOk Try.prog 26 4 ac_26 [.tmp 2] := ⟨Try.f26, Try.func26, by kernel_rfl, by kernel_rfl, by kernel_rfl, by kernel_rfl, by kernel_rfl⟩
def ac_17 : AC :=
(.seq (.reg false [⟨some 2, .mv (.const (.int .i64 (0))), none, [], []⟩] [0])
(.seq (.reg false [⟨some 3, .mv (.tmp 0), none, [0], []⟩,
    ⟨some 2, .mv (.tmp 3), none, [3], []⟩] [2])
.ret))
theorem ok_17 : FnOk Try.prog 17 4 ac_17 [.tmp 2] := ⟨Try.f17, Try.func17, by kernel_rfl, by kernel_rfl, by kernel_rfl, by kernel_rfl, by kernel_rfl⟩
def ac_47 : AC :=
(.seq (.reg false [⟨some 2, .new 36 [(.slice none 0 0), (.slice none 0 0), (.slice none 0 0), (.int .i64 (0))], none, [], []⟩,
    ⟨some 3, .mv (.const (.int .i64 (0))), none, [], []⟩] [0, 2])
(.seq (.seq (.reg false [⟨some 4, .mv (.tmp 0), none, [0], []⟩,
    ⟨some 5, .bin .lss (.tmp 4) (.const (.int .i64 (1))), none, [4], []⟩,
    ⟨some 6, .mv (.tmp 5), none, [5], []⟩,
    ⟨some 7, .mv (.tmp 0), some (6, false), [0, 6], []⟩,
    ⟨some 8, .bin .gtr (.tmp 7) (.const (.int .i64 (64))), some (6, false), [7, 6], []⟩,
    ⟨some 9, .pick (.tmp 6) (.const (.bool true)) (.tmp 8), none, [6, 8], []⟩] [0, 2, 9])
(.cond (.tmp 9)
(.seq (.reg false [⟨some 10, .build [(.slice none 0 0), (.slice none 0 0), (.slice none 0 0), (.int .i64 (0))] [], none, [], []⟩,
    ⟨none, .store 4 (.tmp 2) (.tmp 10), none, [2, 10], []⟩,
    ⟨some 3, .mv (.const (.int .i64 (4))), none, [], []⟩] [2, 3])
.ret)
.skip))
(.seq (.reg true [⟨some 11, .mv (.tmp 0), none, [0], []⟩,
    ⟨some 12, .mksl 62 2 32 [(.int .i64 (0)), (.slice none 0 0)] (.tmp 11) (.tmp 11), none, [11, 11], [0]⟩,
    ⟨some 13, .mv (.tmp 0), none, [0], []⟩,
    ⟨some 14, .mksl 4 1 1 [(.bool false)] (.tmp 13) (.tmp 13), none, [13, 13], [2]⟩,
    ⟨some 15, .build [(.slice none 0 0), (.slice none 0 0), (.slice none 0 0), (.int .i64 (0))] [(0, 1, (.tmp 12)), (1, 1, (.tmp 14)), (2, 1, (.const (.slice none 0 0))), (3, 1, (.const (.int .i64 (1))))], none, [12, 14], [1, 3, 0, 2]⟩,
    ⟨none, .store 4 (.tmp 2) (.tmp 15), none, [2, 15], [4, 0, 1, 2, 3]⟩,
    ⟨some 3, .mv (.const (.int .i64 (0))), none, [], [5, 0, 1, 2, 3, 4]⟩] [2, 3])
.ret)))
theorem ok_47 : FnOk Try.prog 47 16 ac_47 [.cell 2 true 4, .tmp 3] := ⟨Try.f47, Try.func47, by kernel_rfl, by kernel_rfl, by kernel_rfl, by kernel_rfl, by kernel_rfl⟩
def ac_32 : AC :=
(.seq (.reg false [⟨some 2, .mv (.const (.int .i64 (0))), none, [], []⟩] [0, 2])
(.block 0 (.loop (.seq (.seq (.reg false [⟨some 3, .mv (.tmp 2), none, [2], []⟩,
    ⟨some 4, .mv (.tmp 0), none, [0], []⟩,
    ⟨some 5, .len false (.tmp 4), none, [4], []⟩,
    ⟨some 6, .bin .lss (.tmp 3) (.tmp 5), none, [3, 5], []⟩] [0, 2, 6])
(.cond (.tmp 6)
.skip
(.exit 0)))
(.seq (.block 1 (.reg false [⟨some 9, .mv (.tmp 0), none, [0], []⟩,
    ⟨some 10, .mv (.tmp 2), none, [2], []⟩,
    ⟨some 11, .idx 1 (.tmp 9) (.tmp 10), none, [9, 10], []⟩,
    ⟨some 12, .load false 1 (.tmp 11), none, [11], []⟩,
    ⟨some 13, .bin .xor (.tmp 12) (.const (.int .u8 (85))), none, [12], []⟩,
    ⟨some 14, .idx 1 (.tmp 9) (.tmp 10), none, [9, 10], []⟩,
    ⟨none, .store 1 (.tmp 14) (.tmp 13), none, [14, 13], []⟩] [0, 2]))
(.reg false [⟨some 7, .mv (.tmp 2), none, [2], []⟩,
    ⟨some 8, .bin .add (.tmp 7) (.const (.int .i64 (1))), none, [7], []⟩,
    ⟨some 2, .mv (.tmp 8), none, [8], []⟩] [0, 2]))))))
theorem ok_32 : FnOk Try.prog 32 15 ac_32 [] := ⟨Try.f32, Try.func32, by kernel_rfl, by kernel_rfl, by kernel_rfl, by kernel_rfl, by kernel_rfl⟩
end Go.Proofs.Ytfoeddmbhmfjcaa
/- The law's copies: CopyBytes, CopyBools, OfBlocks, Of. -/
namespace Go.Proofs.Ytfoeddmbhmfjcaa
open Go.RowKit
set_option maxRecDepth 100000
theorem copyBytes_spec (fr : Bool) (d : List Int) (nb : Nat) (h : d.length ≤ 140737488355328) : ASound Try.prog 29 [fB fr d] nb (.ret (fB true d) []) := by
  refine ok_29.sound (by simp) ⟨al_fB d, trivial⟩ ?_
  simp only [ac_29, len_B, h, SS, boxA, cellsOf, foffA, loadA, ldA, idxA, fldA, binA, binVal, isSh, intVal, lenA, slenA, pickA, storeA, setN, getN, fillA, extA, beqA, eqsA, eqL, isnilA, unA, unVal, convA, nilA, sconvA, b2sA, b2sOf, bytesOf, mmA, srcA, appA, sliceA, lohi, mkslA, envA, ↓reduceIte, Nat.reduceEqDiff, Nat.reduceAdd, Nat.reduceMul, reduceCtorEq, Nat.reduceLeDiff, fB, fBools, fBlks, fSegs, aBlk, aSg, aSt, stRow, List.drop_zero, List.take_succ_cons, List.take_zero, List.take_nil, Nat.mul_one, Nat.one_mul, List.cons_append, List.nil_append]
  refine Ends.weak (Weak.freezeC 256 rfl (l := [(2, .fs true (eB d) d.length)]) (h := []) ?_ ?_) (Ends.data (.inr rfl) (by simp [resL, resOne, tupOf, getN, s_envOf, s_envOf0, s_heapOf, s_heapOf0, s_put1, s_app0, s_app1]) (al_fB d))
  · simp [tk_B, tk_Bools, tk_Blks, tk_Segs, AlL_append, renL_append, okL, okH, rowIs, okV, okHV, rowVt, vtL, okF, okHF, rowFz, fzL, fzV, fzOne, nilLike, oldLike, rn, s_envOf, s_envOf0, s_heapOf, s_heapOf0, s_put, s_put0, s_put1, s_app0, s_app1, Al, AlL, ren, renL, al_B, al_Bools, al_Blks, al_Segs, ren_B, ren_Bools, ren_Blks, ren_Segs, fB, fBools, fBlks, fSegs]
  · simp [tk_B, tk_Bools, tk_Blks, tk_Segs, AlL_append, renL_append, okL, okH, rowIs, okV, okHV, rowVt, vtL, okF, okHF, rowFz, fzL, fzV, fzOne, nilLike, oldLike, rn, s_envOf, s_envOf0, s_heapOf, s_heapOf0, s_put, s_put0, s_put1, s_app0, s_app1, Al, AlL, ren, renL, al_B, al_Bools, al_Blks, al_Segs, ren_B, ren_Bools, ren_Blks, ren_Segs, fB, fBools, fBlks, fSegs]
theorem copyBools_spec (fr : Bool) (d : List Bool) (nb : Nat) (h : d.length ≤ 140737488355328) : ASound Try.prog 49 [fBools fr d] nb (.ret (fBools true d) []) := by
  refine ok_49.sound (by simp) ⟨al_fBools d, trivial⟩ ?_
  simp only [ac_49, len_Bools, h, SS, boxA, cellsOf, foffA, loadA, ldA, idxA, fldA, binA, binVal, isSh, intVal, lenA, slenA, pickA, storeA, setN, getN, fillA, extA, beqA, eqsA, eqL, isnilA, unA, unVal, convA, nilA, sconvA, b2sA, b2sOf, bytesOf, mmA, srcA, appA, sliceA, lohi, mkslA, envA, ↓reduceIte, Nat.reduceEqDiff, Nat.reduceAdd, Nat.reduceMul, reduceCtorEq, Nat.reduceLeDiff, fB, fBools, fBlks, fSegs, aBlk, aSg, aSt, stRow, List.drop_zero, List.take_succ_cons, List.take_zero, List.take_nil, Nat.mul_one, Nat.one_mul, List.cons_append, List.nil_append]
  refine Ends.weak (Weak.freezeC 256 rfl (l := [(2, .fs true (eBools d) d.length)]) (h := []) ?_ ?_) (Ends.data (.inr rfl) (by simp [resL, resOne, tupOf, getN, s_envOf, s_envOf0, s_heapOf, s_heapOf0, s_put1, s_app0, s_app1]) (al_fBools d))
  · simp [tk_B, tk_Bools, tk_Blks, tk_Segs, AlL_append, renL_append, okL, okH, rowIs, okV, okHV, rowVt, vtL, okF, okHF, rowFz, fzL, fzV, fzOne, nilLike, oldLike, rn, s_envOf, s_envOf0, s_heapOf, s_heapOf0, s_put, s_put0, s_put1, s_app0, s_app1, Al, AlL, ren, renL, al_B, al_Bools, al_Blks, al_Segs, ren_B, ren_Bools, ren_Blks, ren_Segs, fB, fBools, fBlks, fSegs]
  · simp [tk_B, tk_Bools, tk_Blks, tk_Segs, AlL_append, renL_append, okL, okH, rowIs, okV, okHV, rowVt, vtL, okF, okHF, rowFz, fzL, fzV, fzOne, nilLike, oldLike, rn, s_envOf, s_envOf0, s_heapOf, s_heapOf0, s_put, s_put0, s_put1, s_app0, s_app1, Al, AlL, ren, renL, al_B, al_Bools, al_Blks, al_Segs, ren_B, ren_Bools, ren_Blks, ren_Segs, fB, fBools, fBlks, fSegs]
abbrev L_ofB (fr : Bool) (l : List Blk) (k : Nat) : ASt := ⟨envOf [(0, fBlks fr l), (3, .os 0 0 k 3), (4, .v (.int .i64 k))], heapOf [(0, .row true 57 (eBlks true (l.take k)))], 1⟩
theorem ofBlocks_spec (fr : Bool) (l : List Blk) (nb : Nat) (h : l.length * 40 ≤ 140737488355328) (hd : ∀ b ∈ l, b.data.length ≤ 140737488355328) : ASound Try.prog 50 [fBlks fr l] nb (.ret (fBlks true l) []) := by
  refine ok_50.sound (by simp) ⟨al_fBlks l, trivial⟩ ?_
  simp only [ac_50, SS, boxA, cellsOf, foffA, loadA, ldA, idxA, fldA, binA, binVal, isSh, intVal, lenA, slenA, pickA, storeA, setN, getN, fillA, extA, beqA, eqsA, eqL, isnilA, unA, unVal, convA, nilA, sconvA, b2sA, b2sOf, bytesOf, mmA, srcA, appA, sliceA, lohi, mkslA, envA, ↓reduceIte, Nat.reduceEqDiff, Nat.reduceAdd, Nat.reduceMul, reduceCtorEq, Nat.reduceLeDiff, fB, fBools, fBlks, fSegs, aBlk, aSg, aSt, stRow, List.drop_zero, List.take_succ_cons, List.take_zero, List.take_nil, Nat.mul_one, Nat.one_mul, List.cons_append, List.nil_append]
  refine AWc.family (L_ofB fr l) (fun k => k ≤ l.length) (fun k => l.length - k) 0 (Nat.zero_le _) ?_ ?_
  · refine Weak.trans (Weak.virtC 57 3 (l := [(0, fBlks fr l), (3, .os 192 0 0 3), (4, .v (.int .i64 0))]) (h := []) ?_ ?_) (Weak.calc [(192, 0)] (by decide) ?_ ?_)
    all_goals simp [show eBlks true [] = [] from rfl, tk_B, tk_Bools, tk_Blks, tk_Segs, AlL_append, renL_append, okL, okH, rowIs, okV, okHV, rowVt, vtL, okF, okHF, rowFz, fzL, fzV, fzOne, nilLike, oldLike, rn, s_envOf, s_envOf0, s_heapOf, s_heapOf0, s_put, s_put0, s_put1, s_app0, s_app1, Al, AlL, ren, renL, al_B, al_Bools, al_Blks, al_Segs, ren_B, ren_Bools, ren_Blks, ren_Segs, fB, fBools, fBlks, fSegs]
  · intro k hk
    by_cases hlt : k < l.length
    · obtain ⟨b, hb, e1, e0⟩ := lt_at hlt
      obtain ⟨g0, g1, g2, g3⟩ := get_Blks3 (fr := fr) hb
      have hl : (eBlks true (l.take k)).length = k * 3 := by rw [len_Blks]; simp; omega
      have hcap : (k + 1) * 40 ≤ 140737488355328 := by omega
      simp only [L_ofB, g0, g1, g3, e1, e0, SS, boxA, cellsOf, foffA, loadA, ldA, idxA, fldA, binA, binVal, isSh, intVal, lenA, slenA, pickA, storeA, setN, getN, fillA, extA, beqA, eqsA, eqL, isnilA, unA, unVal, convA, nilA, sconvA, b2sA, b2sOf, bytesOf, mmA, srcA, appA, sliceA, lohi, mkslA, envA, ↓reduceIte, Nat.reduceEqDiff, Nat.reduceAdd, Nat.reduceMul, reduceCtorEq, Nat.reduceLeDiff, fB, fBools, fBlks, fSegs, aBlk, aSg, aSt, stRow, List.drop_zero, List.take_succ_cons, List.take_zero, List.take_nil, Nat.mul_one, Nat.one_mul, List.cons_append, List.nil_append]
      refine ⟨_, copyBytes_spec fr b.data _ (hd b (List.mem_of_getElem? hb)), ?_⟩
      simp only [hl, hcap, SS, boxA, cellsOf, foffA, loadA, ldA, idxA, fldA, binA, binVal, isSh, intVal, lenA, slenA, pickA, storeA, setN, getN, fillA, extA, beqA, eqsA, eqL, isnilA, unA, unVal, convA, nilA, sconvA, b2sA, b2sOf, bytesOf, mmA, srcA, appA, sliceA, lohi, mkslA, envA, ↓reduceIte, Nat.reduceEqDiff, Nat.reduceAdd, Nat.reduceMul, reduceCtorEq, Nat.reduceLeDiff, fB, fBools, fBlks, fSegs, aBlk, aSg, aSt, stRow, List.drop_zero, List.take_succ_cons, List.take_zero, List.take_nil, Nat.mul_one, Nat.one_mul, List.cons_append, List.nil_append]
      refine ⟨by rfl, famC_next (k + 1) (by omega) (by omega) ?_⟩
      refine Weak.calc [(1473, 0)] (by decide) ?_ ?_ <;> simp [tk_B, tk_Bools, tk_Blks, tk_Segs, AlL_append, renL_append, okL, okH, rowIs, okV, okHV, rowVt, vtL, okF, okHF, rowFz, fzL, fzV, fzOne, nilLike, oldLike, rn, s_envOf, s_envOf0, s_heapOf, s_heapOf0, s_put, s_put0, s_put1, s_app0, s_app1, Al, AlL, ren, renL, al_B, al_Bools, al_Blks, al_Segs, ren_B, ren_Bools, ren_Blks, ren_Segs, fB, fBools, fBlks, fSegs, snoc_Blks hb, eBlk, wrap64 (x := (k : Int) + 1) (by omega)]
    · have e1 : ¬ ((k : Int) < (l.length : Int)) := by omega
      obtain rfl : k = l.length := by omega
      simp only [L_ofB, e1, SS, boxA, cellsOf, foffA, loadA, ldA, idxA, fldA, binA, binVal, isSh, intVal, lenA, slenA, pickA, storeA, setN, getN, fillA, extA, beqA, eqsA, eqL, isnilA, unA, unVal, convA, nilA, sconvA, b2sA, b2sOf, bytesOf, mmA, srcA, appA, sliceA, lohi, mkslA, envA, ↓reduceIte, Nat.reduceEqDiff, Nat.reduceAdd, Nat.reduceMul, reduceCtorEq, Nat.reduceLeDiff, fB, fBools, fBlks, fSegs, aBlk, aSg, aSt, stRow, List.drop_zero, List.take_succ_cons, List.take_zero, List.take_nil, Nat.mul_one, Nat.one_mul, List.cons_append, List.nil_append]
      rw [List.take_length]
      refine Ends.weak (Weak.freezeC 0 rfl (l := [(2, .fs true (eBlks true l) l.length)]) (h := []) ?_ ?_) (Ends.data (.inr rfl) (by simp [fBlks, resL, resOne, tupOf, getN, s_envOf, s_envOf0, s_heapOf, s_heapOf0, s_put1, s_app0, s_app1]) (al_fBlks l))
      · simp [tk_B, tk_Bools, tk_Blks, tk_Segs, AlL_append, renL_append, okL, okH, rowIs, okV, okHV, rowVt, vtL, okF, okHF, rowFz, fzL, fzV, fzOne, nilLike, oldLike, rn, s_envOf, s_envOf0, s_heapOf, s_heapOf0, s_put, s_put0, s_put1, s_app0, s_app1, Al, AlL, ren, renL, al_B, al_Bools, al_Blks, al_Segs, ren_B, ren_Bools, ren_Blks, ren_Segs, fB, fBools, fBlks, fSegs]
      · simp [tk_B, tk_Bools, tk_Blks, tk_Segs, AlL_append, renL_append, okL, okH, rowIs, okV, okHV, rowVt, vtL, okF, okHF, rowFz, fzL, fzV, fzOne, nilLike, oldLike, rn, s_envOf, s_envOf0, s_heapOf, s_heapOf0, s_put, s_put0, s_put1, s_app0, s_app1, Al, AlL, ren, renL, al_B, al_Bools, al_Blks, al_Segs, ren_B, ren_Bools, ren_Blks, ren_Segs, fB, fBools, fBlks, fSegs]
theorem ofSg_spec (fr : Bool) (g : Sg) (nb : Nat) (h : g.blocks.length * 40 ≤ 140737488355328) (hd : ∀ b ∈ g.blocks, b.data.length ≤ 140737488355328) : ASound Try.prog 51 [aSg fr g] nb (.ret (aSg true g) []) := by
  refine ok_51.sound (by simp) ⟨al_aSg g, trivial⟩ ?_
  simp only [ac_51, SS, boxA, cellsOf, foffA, loadA, ldA, idxA, fldA, binA, binVal, isSh, intVal, lenA, slenA, pickA, storeA, setN, getN, fillA, extA, beqA, eqsA, eqL, isnilA, unA, unVal, convA, nilA, sconvA, b2sA, b2sOf, bytesOf, mmA, srcA, appA, sliceA, lohi, mkslA, envA, ↓reduceIte, Nat.reduceEqDiff, Nat.reduceAdd, Nat.reduceMul, reduceCtorEq, Nat.reduceLeDiff, fB, fBools, fBlks, fSegs, aBlk, aSg, aSt, stRow, List.drop_zero, List.take_succ_cons, List.take_zero, List.take_nil, Nat.mul_one, Nat.one_mul, List.cons_append, List.nil_append]
  refine ⟨_, ofBlocks_spec fr g.blocks _ h hd, ?_⟩
  simp only [SS, boxA, cellsOf, foffA, loadA, ldA, idxA, fldA, binA, binVal, isSh, intVal, lenA, slenA, pickA, storeA, setN, getN, fillA, extA, beqA, eqsA, eqL, isnilA, unA, unVal, convA, nilA, sconvA, b2sA, b2sOf, bytesOf, mmA, srcA, appA, sliceA, lohi, mkslA, envA, ↓reduceIte, Nat.reduceEqDiff, Nat.reduceAdd, Nat.reduceMul, reduceCtorEq, Nat.reduceLeDiff, fB, fBools, fBlks, fSegs, aBlk, aSg, aSt, stRow, List.drop_zero, List.take_succ_cons, List.take_zero, List.take_nil, Nat.mul_one, Nat.one_mul, List.cons_append, List.nil_append]
  refine ⟨by rfl, ?_⟩
  exact Ends.data (.inr rfl) (by simp [fBlks, resL, resOne, tupOf, getN, s_envOf, s_envOf0, s_heapOf, s_heapOf0, s_put1, s_app0, s_app1]) (al_aSg g)
/-- a state that fits into memory -/
structure SZ (s : St) : Prop where
  segs : s.segs.length * 32 ≤ 140737488355328
  held : s.held.length ≤ 140737488355328
  opn : s.opn.length * 40 ≤ 140737488355328
  opnD : ∀ b ∈ s.opn, b.data.length ≤ 140737488355328
  seg : ∀ g ∈ s.segs, g.blocks.length * 40 ≤ 140737488355328
  segD : ∀ g ∈ s.segs, ∀ b ∈ g.blocks, b.data.length ≤ 140737488355328
abbrev L_of (fr : Bool) (s : St) (k : Nat) : ASt := ⟨envOf [(1, .op 0 0), (2, .op 1 0), (3, .op 2 0), (4, .v (.int .i64 k))],
  heapOf [(0, stRow 32 fr s), (1, .row true 36 [.v (.slice none 0 0), .v (.slice none 0 0), .v (.slice none 0 0), .v (.int .i64 0)]),
    (2, .row true 36 [.os 3 0 k 2, fBools true s.held, fBlks true s.opn, .v (.int .i64 s.next)]), (3, .row true 62 (eSegs true (s.segs.take k)))], 4⟩
theorem ofSt_spec (fr : Bool) (s : St) (nb : Nat) (h : SZ s) : ASound Try.prog 18 [aSt fr s] nb (.ret (aSt true s) []) := by
  refine ok_18.sound (by simp) ⟨al_aSt s, trivial⟩ ?_
  simp only [ac_18, SS, boxA, cellsOf, foffA, loadA, ldA, idxA, fldA, binA, binVal, isSh, intVal, lenA, slenA, pickA, storeA, setN, getN, fillA, extA, beqA, eqsA, eqL, isnilA, unA, unVal, convA, nilA, sconvA, b2sA, b2sOf, bytesOf, mmA, srcA, appA, sliceA, lohi, mkslA, envA, ↓reduceIte, Nat.reduceEqDiff, Nat.reduceAdd, Nat.reduceMul, reduceCtorEq, Nat.reduceLeDiff, fB, fBools, fBlks, fSegs, aBlk, aSg, aSt, stRow, List.drop_zero, List.take_succ_cons, List.take_zero, List.take_nil, Nat.mul_one, Nat.one_mul, List.cons_append, List.nil_append]
  refine ⟨_, copyBools_spec fr s.held _ h.held, ?_⟩
  simp only [SS, boxA, cellsOf, foffA, loadA, ldA, idxA, fldA, binA, binVal, isSh, intVal, lenA, slenA, pickA, storeA, setN, getN, fillA, extA, beqA, eqsA, eqL, isnilA, unA, unVal, convA, nilA, sconvA, b2sA, b2sOf, bytesOf, mmA, srcA, appA, sliceA, lohi, mkslA, envA, ↓reduceIte, Nat.reduceEqDiff, Nat.reduceAdd, Nat.reduceMul, reduceCtorEq, Nat.reduceLeDiff, fB, fBools, fBlks, fSegs, aBlk, aSg, aSt, stRow, List.drop_zero, List.take_succ_cons, List.take_zero, List.take_nil, Nat.mul_one, Nat.one_mul, List.cons_append, List.nil_append]
  refine ⟨_, ofBlocks_spec fr s.opn _ h.opn h.opnD, ?_⟩
  simp only [SS, boxA, cellsOf, foffA, loadA, ldA, idxA, fldA, binA, binVal, isSh, intVal, lenA, slenA, pickA, storeA, setN, getN, fillA, extA, beqA, eqsA, eqL, isnilA, unA, unVal, convA, nilA, sconvA, b2sA, b2sOf, bytesOf, mmA, srcA, appA, sliceA, lohi, mkslA, envA, ↓reduceIte, Nat.reduceEqDiff, Nat.reduceAdd, Nat.reduceMul, reduceCtorEq, Nat.reduceLeDiff, fB, fBools, fBlks, fSegs, aBlk, aSg, aSt, stRow, List.drop_zero, List.take_succ_cons, List.take_zero, List.take_nil, Nat.mul_one, Nat.one_mul, List.cons_append, List.nil_append]
  refine ⟨by rfl, ?_⟩
  refine AWc.family (L_of fr s) (fun k => k ≤ s.segs.length) (fun k => s.segs.length - k) 0 (Nat.zero_le _) ?_ ?_
  · refine Weak.trans (Weak.virtC 62 2 (l := [(1, .op 0 0), (2, .op 64 0), (3, .op 704 0), (4, .v (.int .i64 0))])
      (h := [(0, stRow 32 fr s), (64, .row true 36 [.v (.slice none 0 0), .v (.slice none 0 0), .v (.slice none 0 0), .v (.int .i64 0)]), (704, .row true 36 [.os 896 0 0 2, fBools true s.held, fBlks true s.opn, .v (.int .i64 s.next)])]) ?_ ?_)
      (Weak.calc [(0, 0), (64, 1), (704, 2), (896, 3)] (by decide) ?_ ?_)
    all_goals simp [show eSegs true [] = [] from rfl, tk_B, tk_Bools, tk_Blks, tk_Segs, AlL_append, renL_append, okL, okH, rowIs, okV, okHV, rowVt, vtL, okF, okHF, rowFz, fzL, fzV, fzOne, nilLike, oldLike, rn, s_envOf, s_envOf0, s_heapOf, s_heapOf0, s_put, s_put0, s_put1, s_app0, s_app1, Al, AlL, ren, renL, al_B, al_Bools, al_Blks, al_Segs, ren_B, ren_Bools, ren_Blks, ren_Segs, fB, fBools, fBlks, fSegs]
  · intro k hk
    by_cases hlt : k < s.segs.length
    · obtain ⟨g, hg, e1, e0⟩ := lt_at hlt
      obtain ⟨g0, g1⟩ := get_Segs (fr := fr) hg
      have hl : (eSegs true (s.segs.take k)).length = k * 2 := by rw [len_Segs]; simp; omega
      have hcap : (k + 1) * 32 ≤ 140737488355328 := by have := h.segs; omega
      have hgm := List.mem_of_getElem? hg
      have e2 : k * 2 + 2 ≤ s.segs.length * 2 := by omega
      simp only [L_of, g0, g1, e1, e0, e2, len_Segs, SS, boxA, cellsOf, foffA, loadA, ldA, idxA, fldA, binA, binVal, isSh, intVal, lenA, slenA, pickA, storeA, setN, getN, fillA, extA, beqA, eqsA, eqL, isnilA, unA, unVal, convA, nilA, sconvA, b2sA, b2sOf, bytesOf, mmA, srcA, appA, sliceA, lohi, mkslA, envA, ↓reduceIte, Nat.reduceEqDiff, Nat.reduceAdd, Nat.reduceMul, reduceCtorEq, Nat.reduceLeDiff, fB, fBools, fBlks, fSegs, aBlk, aSg, aSt, stRow, List.drop_zero, List.take_succ_cons, List.take_zero, List.take_nil, Nat.mul_one, Nat.one_mul, List.cons_append, List.nil_append]
      refine ⟨_, ofSg_spec fr g _ (h.seg g hgm) (h.segD g hgm), ?_⟩
      simp only [hl, hcap, SS, boxA, cellsOf, foffA, loadA, ldA, idxA, fldA, binA, binVal, isSh, intVal, lenA, slenA, pickA, storeA, setN, getN, fillA, extA, beqA, eqsA, eqL, isnilA, unA, unVal, convA, nilA, sconvA, b2sA, b2sOf, bytesOf, mmA, srcA, appA, sliceA, lohi, mkslA, envA, ↓reduceIte, Nat.reduceEqDiff, Nat.reduceAdd, Nat.reduceMul, reduceCtorEq, Nat.reduceLeDiff, fB, fBools, fBlks, fSegs, aBlk, aSg, aSt, stRow, List.drop_zero, List.take_succ_cons, List.take_zero, List.take_nil, Nat.mul_one, Nat.one_mul, List.cons_append, List.nil_append]
      refine ⟨by rfl, famC_next (k + 1) (by omega) (by omega) ?_⟩
      have := h.segs
      refine Weak.calc [(0, 0), (1, 1), (2, 2), (900, 3)] (by decide) ?_ ?_ <;> simp [tk_B, tk_Bools, tk_Blks, tk_Segs, AlL_append, renL_append, okL, okH, rowIs, okV, okHV, rowVt, vtL, okF, okHF, rowFz, fzL, fzV, fzOne, nilLike, oldLike, rn, s_envOf, s_envOf0, s_heapOf, s_heapOf0, s_put, s_put0, s_put1, s_app0, s_app1, Al, AlL, ren, renL, al_B, al_Bools, al_Blks, al_Segs, ren_B, ren_Bools, ren_Blks, ren_Segs, fB, fBools, fBlks, fSegs, snoc_Segs hg, eSg, wrap64 (x := (k : Int) + 1) (by omega)]
    · have e1 : ¬ ((k : Int) < (s.segs.length : Int)) := by omega
      obtain rfl : k = s.segs.length := by omega
      simp only [L_of, e1, SS, boxA, cellsOf, foffA, loadA, ldA, idxA, fldA, binA, binVal, isSh, intVal, lenA, slenA, pickA, storeA, setN, getN, fillA, extA, beqA, eqsA, eqL, isnilA, unA, unVal, convA, nilA, sconvA, b2sA, b2sOf, bytesOf, mmA, srcA, appA, sliceA, lohi, mkslA, envA, ↓reduceIte, Nat.reduceEqDiff, Nat.reduceAdd, Nat.reduceMul, reduceCtorEq, Nat.reduceLeDiff, fB, fBools, fBlks, fSegs, aBlk, aSg, aSt, stRow, List.drop_zero, List.take_succ_cons, List.take_zero, List.take_nil, Nat.mul_one, Nat.one_mul, List.cons_append, List.nil_append]
      rw [List.take_length]
      refine Ends.weak (Weak.freezeC 3 rfl (l := [(2, .op 1 0)]) (h := [(1, .row true 36 [fSegs true s.segs, fBools true s.held, fBlks true s.opn, .v (.int .i64 s.next)])]) ?_ ?_) (Ends.data (.inr rfl) (by simp [fSegs, fBools, fBlks, resL, resOne, tupOf, getN, s_envOf, s_envOf0, s_heapOf, s_heapOf0, s_put1, s_app0, s_app1]) (al_aSt s))
      · simp [tk_B, tk_Bools, tk_Blks, tk_Segs, AlL_append, renL_append, okL, okH, rowIs, okV, okHV, rowVt, vtL, okF, okHF, rowFz, fzL, fzV, fzOne, nilLike, oldLike, rn, s_envOf, s_envOf0, s_heapOf, s_heapOf0, s_put, s_put0, s_put1, s_app0, s_app1, Al, AlL, ren, renL, al_B, al_Bools, al_Blks, al_Segs, ren_B, ren_Bools, ren_Blks, ren_Segs, fB, fBools, fBlks, fSegs]
      · simp [tk_B, tk_Bools, tk_Blks, tk_Segs, AlL_append, renL_append, okL, okH, rowIs, okV, okHV, rowVt, vtL, okF, okHF, rowFz, fzL, fzV, fzOne, nilLike, oldLike, rn, s_envOf, s_envOf0, s_heapOf, s_heapOf0, s_put, s_put0, s_put1, s_app0, s_app1, Al, AlL, ren, renL, al_B, al_Bools, al_Blks, al_Segs, ren_B, ren_Bools, ren_Blks, ren_Segs, fB, fBools, fBlks, fSegs]
end Go.Proofs.Ytfoeddmbhmfjcaa
/- The law's comparisons: SameBytes, SameBools, AlikeBlocks, Alike; num. -/
namespace Go.Proofs.Ytfoeddmbhmfjcaa
open Go.RowKit
set_option maxRecDepth 100000
theorem num15_spec (x : Int) (nb : Nat) : ASound Try.prog 26 [.v (.int .i64 x)] nb (.ret (.v (.int .i64 x)) []) := by
  refine ok_26.sound (by simp) ⟨trivial, trivial⟩ ?_
  simp only [ac_26, SS, boxA, cellsOf, foffA, loadA, ldA, idxA, fldA, binA, binVal, isSh, intVal, lenA, slenA, pickA, storeA, setN, getN, fillA, extA, beqA, eqsA, eqL, isnilA, unA, unVal, convA, nilA, sconvA, b2sA, b2sOf, bytesOf, mmA, srcA, appA, sliceA, lohi, mkslA, envA, ↓reduceIte, Nat.reduceEqDiff, Nat.reduceAdd, Nat.reduceMul, reduceCtorEq, Nat.reduceLeDiff, fB, fBools, fBlks, fSegs, aBlk, aSg, aSt, stRow, List.drop_zero, List.take_succ_cons, List.take_zero, List.take_nil, Nat.mul_one, Nat.one_mul, List.cons_append, List.nil_append]
  exact Ends.data (.inr rfl) (by simp [resL, resOne, tupOf, getN, s_envOf, s_envOf0, s_heapOf, s_heapOf0, s_put1, s_app0, s_app1]) trivial
theorem num16_spec (x : Int) (nb : Nat) : ASound Try.prog 17 [.v (.int .i64 x)] nb (.ret (.v (.int .i64 x)) []) := by
  refine ok_17.sound (by simp) ⟨trivial, trivial⟩ ?_
  simp only [ac_17, SS, boxA, cellsOf, foffA, loadA, ldA, idxA, fldA, binA, binVal, isSh, intVal, lenA, slenA, pickA, storeA, setN, getN, fillA, extA, beqA, eqsA, eqL, isnilA, unA, unVal, convA, nilA, sconvA, b2sA, b2sOf, bytesOf, mmA, srcA, appA, sliceA, lohi, mkslA, envA, ↓reduceIte, Nat.reduceEqDiff, Nat.reduceAdd, Nat.reduceMul, reduceCtorEq, Nat.reduceLeDiff, fB, fBools, fBlks, fSegs, aBlk, aSg, aSt, stRow, List.drop_zero, List.take_succ_cons, List.take_zero, List.take_nil, Nat.mul_one, Nat.one_mul, List.cons_append, List.nil_append]
  exact Ends.data (.inr rfl) (by simp [resL, resOne, tupOf, getN, s_envOf, s_envOf0, s_heapOf, s_heapOf0, s_put1, s_app0, s_app1]) trivial
theorem eq_upto {α : Type} {a b : List α} (hl : a.length = b.length) (h : ∀ j, j < a.length → a[j]? = b[j]?) : a = b := by
  apply List.ext_getElem? 
  intro j
  by_cases hj : j < a.length
  · exact h j hj
  · rw [List.getElem?_eq_none (by omega), List.getElem?_eq_none (by omega)]
abbrev L_sameB (fa fb : Bool) (a b : List Int) (k : Nat) : ASt := ⟨envOf [(0, fB fa a), (1, fB fb b), (5, .v (.int .i64 k))], heapOf [], 0⟩
theorem sameBytes_spec (fa fb : Bool) (a b : List Int) (nb : Nat) (hz : a.length ≤ 140737488355328) : ASound Try.prog 45 [fB fa a, fB fb b] nb (.ret (.v (.bool (decide (a = b)))) []) := by
  refine ok_45.sound (by simp) ⟨al_fB a, al_fB b, trivial⟩ ?_
  simp only [ac_45, SS, boxA, cellsOf, foffA, loadA, ldA, idxA, fldA, binA, binVal, isSh, intVal, lenA, slenA, pickA, storeA, setN, getN, fillA, extA, beqA, eqsA, eqL, isnilA, unA, unVal, convA, nilA, sconvA, b2sA, b2sOf, bytesOf, mmA, srcA, appA, sliceA, lohi, mkslA, envA, ↓reduceIte, Nat.reduceEqDiff, Nat.reduceAdd, Nat.reduceMul, reduceCtorEq, Nat.reduceLeDiff, fB, fBools, fBlks, fSegs, aBlk, aSg, aSt, stRow, List.drop_zero, List.take_succ_cons, List.take_zero, List.take_nil, Nat.mul_one, Nat.one_mul, List.cons_append, List.nil_append]
  by_cases hl : a.length = b.length
  · have hl' : (a.length : Int) = (b.length : Int) := by omega
    simp only [hl', not_true, SS, boxA, cellsOf, foffA, loadA, ldA, idxA, fldA, binA, binVal, isSh, intVal, lenA, slenA, pickA, storeA, setN, getN, fillA, extA, beqA, eqsA, eqL, isnilA, unA, unVal, convA, nilA, sconvA, b2sA, b2sOf, bytesOf, mmA, srcA, appA, sliceA, lohi, mkslA, envA, ↓reduceIte, Nat.reduceEqDiff, Nat.reduceAdd, Nat.reduceMul, reduceCtorEq, Nat.reduceLeDiff, fB, fBools, fBlks, fSegs, aBlk, aSg, aSt, stRow, List.drop_zero, List.take_succ_cons, List.take_zero, List.take_nil, Nat.mul_one, Nat.one_mul, List.cons_append, List.nil_append]
    refine AWc.family (L_sameB fa fb a b) (fun k => k ≤ a.length ∧ ∀ j, j < k → a[j]? = b[j]?) (fun k => a.length - k) 0 ⟨Nat.zero_le _, fun j h => absurd h (Nat.not_lt_zero _)⟩ ?_ ?_
    · refine Weak.calc [] (by decide) ?_ ?_ <;> simp [tk_B, tk_Bools, tk_Blks, tk_Segs, AlL_append, renL_append, okL, okH, rowIs, okV, okHV, rowVt, vtL, okF, okHF, rowFz, fzL, fzV, fzOne, nilLike, oldLike, rn, s_envOf, s_envOf0, s_heapOf, s_heapOf0, s_put, s_put0, s_put1, s_app0, s_app1, Al, AlL, ren, renL, al_B, al_Bools, al_Blks, al_Segs, ren_B, ren_Bools, ren_Blks, ren_Segs, fB, fBools, fBlks, fSegs]
    · rintro k ⟨hk, hj⟩
      by_cases hlt : k < a.length
      · obtain ⟨x, hx, e1, e0⟩ := lt_at hlt
        obtain ⟨y, hy, e2, _⟩ := lt_at (show k < b.length by omega)
        have g1 := get_B hx
        have g2 := get_B hy
        simp only [L_sameB, g1, g2, e1, e0, e2, SS, boxA, cellsOf, foffA, loadA, ldA, idxA, fldA, binA, binVal, isSh, intVal, lenA, slenA, pickA, storeA, setN, getN, fillA, extA, beqA, eqsA, eqL, isnilA, unA, unVal, convA, nilA, sconvA, b2sA, b2sOf, bytesOf, mmA, srcA, appA, sliceA, lohi, mkslA, envA, ↓reduceIte, Nat.reduceEqDiff, Nat.reduceAdd, Nat.reduceMul, reduceCtorEq, Nat.reduceLeDiff, fB, fBools, fBlks, fSegs, aBlk, aSg, aSt, stRow, List.drop_zero, List.take_succ_cons, List.take_zero, List.take_nil, Nat.mul_one, Nat.one_mul, List.cons_append, List.nil_append]
        refine ⟨by rfl, ?_⟩
        split
        · rename_i hne
          have : ¬ a = b := by intro h; subst h; rw [hx] at hy; cases hy; exact hne rfl
          exact Ends.data (.inr rfl) (by simp [this, resL, resOne, tupOf, getN, s_envOf, s_envOf0, s_heapOf, s_heapOf0, s_put1, s_app0, s_app1]) trivial
        · rename_i hne
          have hxy : x = y := by simpa using hne
          refine famC_next (k + 1) (by omega) ⟨by omega, fun j hj1 => ?_⟩ ?_
          · by_cases e : j = k
            · subst e; rw [hx, hy, hxy]
            · exact hj j (by omega)
          · refine Weak.calc [] (by decide) ?_ ?_ <;> simp [tk_B, tk_Bools, tk_Blks, tk_Segs, AlL_append, renL_append, okL, okH, rowIs, okV, okHV, rowVt, vtL, okF, okHF, rowFz, fzL, fzV, fzOne, nilLike, oldLike, rn, s_envOf, s_envOf0, s_heapOf, s_heapOf0, s_put, s_put0, s_put1, s_app0, s_app1, Al, AlL, ren, renL, al_B, al_Bools, al_Blks, al_Segs, ren_B, ren_Bools, ren_Blks, ren_Segs, fB, fBools, fBlks, fSegs, wrap64 (x := (k : Int) + 1) (by omega)]
      · have e1 : ¬ ((k : Int) < (a.length : Int)) := by omega
        simp only [L_sameB, e1, SS, boxA, cellsOf, foffA, loadA, ldA, idxA, fldA, binA, binVal, isSh, intVal, lenA, slenA, pickA, storeA, setN, getN, fillA, extA, beqA, eqsA, eqL, isnilA, unA, unVal, convA, nilA, sconvA, b2sA, b2sOf, bytesOf, mmA, srcA, appA, sliceA, lohi, mkslA, envA, ↓reduceIte, Nat.reduceEqDiff, Nat.reduceAdd, Nat.reduceMul, reduceCtorEq, Nat.reduceLeDiff, fB, fBools, fBlks, fSegs, aBlk, aSg, aSt, stRow, List.drop_zero, List.take_succ_cons, List.take_zero, List.take_nil, Nat.mul_one, Nat.one_mul, List.cons_append, List.nil_append]
        have : a = b := eq_upto hl fun j h => hj j (by omega)
        exact Ends.data (.inr rfl) (by simp [this, resL, resOne, tupOf, getN, s_envOf, s_envOf0, s_heapOf, s_heapOf0, s_put1, s_app0, s_app1]) trivial
  · have hl' : ¬ (a.length : Int) = (b.length : Int) := by omega
    simp only [hl', not_false_eq_true, SS, boxA, cellsOf, foffA, loadA, ldA, idxA, fldA, binA, binVal, isSh, intVal, lenA, slenA, pickA, storeA, setN, getN, fillA, extA, beqA, eqsA, eqL, isnilA, unA, unVal, convA, nilA, sconvA, b2sA, b2sOf, bytesOf, mmA, srcA, appA, sliceA, lohi, mkslA, envA, ↓reduceIte, Nat.reduceEqDiff, Nat.reduceAdd, Nat.reduceMul, reduceCtorEq, Nat.reduceLeDiff, fB, fBools, fBlks, fSegs, aBlk, aSg, aSt, stRow, List.drop_zero, List.take_succ_cons, List.take_zero, List.take_nil, Nat.mul_one, Nat.one_mul, List.cons_append, List.nil_append]
    have : ¬ a = b := fun h => hl (by rw [h])
    exact Ends.data (.inr rfl) (by simp [this, resL, resOne, tupOf, getN, s_envOf, s_envOf0, s_heapOf, s_heapOf0, s_put1, s_app0, s_app1]) trivial
abbrev L_sameO (fa fb : Bool) (a b : List Bool) (k : Nat) : ASt := ⟨envOf [(0, fBools fa a), (1, fBools fb b), (5, .v (.int .i64 k))], heapOf [], 0⟩
theorem sameBools_spec (fa fb : Bool) (a b : List Bool) (nb : Nat) (hz : a.length ≤ 140737488355328) : ASound Try.prog 61 [fBools fa a, fBools fb b] nb (.ret (.v (.bool (decide (a = b)))) []) := by
  refine ok_61.sound (by simp) ⟨al_fBools a, al_fBools b, trivial⟩ ?_
  simp only [ac_61, SS, boxA, cellsOf, foffA, loadA, ldA, idxA, fldA, binA, binVal, isSh, intVal, lenA, slenA, pickA, storeA, setN, getN, fillA, extA, beqA, eqsA, eqL, isnilA, unA, unVal, convA, nilA, sconvA, b2sA, b2sOf, bytesOf, mmA, srcA, appA, sliceA, lohi, mkslA, envA, ↓reduceIte, Nat.reduceEqDiff, Nat.reduceAdd, Nat.reduceMul, reduceCtorEq, Nat.reduceLeDiff, fB, fBools, fBlks, fSegs, aBlk, aSg, aSt, stRow, List.drop_zero, List.take_succ_cons, List.take_zero, List.take_nil, Nat.mul_one, Nat.one_mul, List.cons_append, List.nil_append]
  by_cases hl : a.length = b.length
  · have hl' : (a.length : Int) = (b.length : Int) := by omega
    simp only [hl', not_true, SS, boxA, cellsOf, foffA, loadA, ldA, idxA, fldA, binA, binVal, isSh, intVal, lenA, slenA, pickA, storeA, setN, getN, fillA, extA, beqA, eqsA, eqL, isnilA, unA, unVal, convA, nilA, sconvA, b2sA, b2sOf, bytesOf, mmA, srcA, appA, sliceA, lohi, mkslA, envA, ↓reduceIte, Nat.reduceEqDiff, Nat.reduceAdd, Nat.reduceMul, reduceCtorEq, Nat.reduceLeDiff, fB, fBools, fBlks, fSegs, aBlk, aSg, aSt, stRow, List.drop_zero, List.take_succ_cons, List.take_zero, List.take_nil, Nat.mul_one, Nat.one_mul, List.cons_append, List.nil_append]
    refine AWc.family (L_sameO fa fb a b) (fun k => k ≤ a.length ∧ ∀ j, j < k → a[j]? = b[j]?) (fun k => a.length - k) 0 ⟨Nat.zero_le _, fun j h => absurd h (Nat.not_lt_zero _)⟩ ?_ ?_
    · refine Weak.calc [] (by decide) ?_ ?_ <;> simp [tk_B, tk_Bools, tk_Blks, tk_Segs, AlL_append, renL_append, okL, okH, rowIs, okV, okHV, rowVt, vtL, okF, okHF, rowFz, fzL, fzV, fzOne, nilLike, oldLike, rn, s_envOf, s_envOf0, s_heapOf, s_heapOf0, s_put, s_put0, s_put1, s_app0, s_app1, Al, AlL, ren, renL, al_B, al_Bools, al_Blks, al_Segs, ren_B, ren_Bools, ren_Blks, ren_Segs, fB, fBools, fBlks, fSegs]
    · rintro k ⟨hk, hj⟩
      by_cases hlt : k < a.length
      · obtain ⟨x, hx, e1, e0⟩ := lt_at hlt
        obtain ⟨y, hy, e2, _⟩ := lt_at (show k < b.length by omega)
        have g1 := get_Bools hx
        have g2 := get_Bools hy
        simp only [L_sameO, g1, g2, e1, e0, e2, SS, boxA, cellsOf, foffA, loadA, ldA, idxA, fldA, binA, binVal, isSh, intVal, lenA, slenA, pickA, storeA, setN, getN, fillA, extA, beqA, eqsA, eqL, isnilA, unA, unVal, convA, nilA, sconvA, b2sA, b2sOf, bytesOf, mmA, srcA, appA, sliceA, lohi, mkslA, envA, ↓reduceIte, Nat.reduceEqDiff, Nat.reduceAdd, Nat.reduceMul, reduceCtorEq, Nat.reduceLeDiff, fB, fBools, fBlks, fSegs, aBlk, aSg, aSt, stRow, List.drop_zero, List.take_succ_cons, List.take_zero, List.take_nil, Nat.mul_one, Nat.one_mul, List.cons_append, List.nil_append]
        refine ⟨by rfl, ?_⟩
        split
        · rename_i hne
          have : ¬ a = b := by intro h; subst h; rw [hx] at hy; cases hy; simp at hne
          exact Ends.data (.inr rfl) (by simp [this, resL, resOne, tupOf, getN, s_envOf, s_envOf0, s_heapOf, s_heapOf0, s_put1, s_app0, s_app1]) trivial
        · rename_i hne
          have hxy : x = y := by simpa using hne
          refine famC_next (k + 1) (by omega) ⟨by omega, fun j hj1 => ?_⟩ ?_
          · by_cases e : j = k
            · subst e; rw [hx, hy, hxy]
            · exact hj j (by omega)
          · refine Weak.calc [] (by decide) ?_ ?_ <;> simp [tk_B, tk_Bools, tk_Blks, tk_Segs, AlL_append, renL_append, okL, okH, rowIs, okV, okHV, rowVt, vtL, okF, okHF, rowFz, fzL, fzV, fzOne, nilLike, oldLike, rn, s_envOf, s_envOf0, s_heapOf, s_heapOf0, s_put, s_put0, s_put1, s_app0, s_app1, Al, AlL, ren, renL, al_B, al_Bools, al_Blks, al_Segs, ren_B, ren_Bools, ren_Blks, ren_Segs, fB, fBools, fBlks, fSegs, wrap64 (x := (k : Int) + 1) (by omega)]
      · have e1 : ¬ ((k : Int) < (a.length : Int)) := by omega
        simp only [L_sameO, e1, SS, boxA, cellsOf, foffA, loadA, ldA, idxA, fldA, binA, binVal, isSh, intVal, lenA, slenA, pickA, storeA, setN, getN, fillA, extA, beqA, eqsA, eqL, isnilA, unA, unVal, convA, nilA, sconvA, b2sA, b2sOf, bytesOf, mmA, srcA, appA, sliceA, lohi, mkslA, envA, ↓reduceIte, Nat.reduceEqDiff, Nat.reduceAdd, Nat.reduceMul, reduceCtorEq, Nat.reduceLeDiff, fB, fBools, fBlks, fSegs, aBlk, aSg, aSt, stRow, List.drop_zero, List.take_succ_cons, List.take_zero, List.take_nil, Nat.mul_one, Nat.one_mul, List.cons_append, List.nil_append]
        have : a = b := eq_upto hl fun j h => hj j (by omega)
        exact Ends.data (.inr rfl) (by simp [this, resL, resOne, tupOf, getN, s_envOf, s_envOf0, s_heapOf, s_heapOf0, s_put1, s_app0, s_app1]) trivial
  · have hl' : ¬ (a.length : Int) = (b.length : Int) := by omega
    simp only [hl', not_false_eq_true, SS, boxA, cellsOf, foffA, loadA, ldA, idxA, fldA, binA, binVal, isSh, intVal, lenA, slenA, pickA, storeA, setN, getN, fillA, extA, beqA, eqsA, eqL, isnilA, unA, unVal, convA, nilA, sconvA, b2sA, b2sOf, bytesOf, mmA, srcA, appA, sliceA, lohi, mkslA, envA, ↓reduceIte, Nat.reduceEqDiff, Nat.reduceAdd, Nat.reduceMul, reduceCtorEq, Nat.reduceLeDiff, fB, fBools, fBlks, fSegs, aBlk, aSg, aSt, stRow, List.drop_zero, List.take_succ_cons, List.take_zero, List.take_nil, Nat.mul_one, Nat.one_mul, List.cons_append, List.nil_append]
    have : ¬ a = b := fun h => hl (by rw [h])
    exact Ends.data (.inr rfl) (by simp [this, resL, resOne, tupOf, getN, s_envOf, s_envOf0, s_heapOf, s_heapOf0, s_put1, s_app0, s_app1]) trivial
abbrev L_alB (fa fb : Bool) (a b : List Blk) (k : Nat) : ASt := ⟨envOf [(0, fBlks fa a), (1, fBlks fb b), (5, .v (.int .i64 k))], heapOf [], 0⟩
def no01 (p : Prop) [Decidable p] : Int := if p then 0 else 1
theorem alikeBlocks_spec (fa fb : Bool) (a b : List Blk) (nb : Nat) (hz : a.length ≤ 140737488355328) (hd : ∀ x ∈ a, x.data.length ≤ 140737488355328) : ASound Try.prog 27 [fBlks fa a, fBlks fb b] nb (.ret (.v (.int .i64 (no01 (a = b)))) []) := by
  refine ok_27.sound (by simp) ⟨al_fBlks a, al_fBlks b, trivial⟩ ?_
  simp only [ac_27, SS, boxA, cellsOf, foffA, loadA, ldA, idxA, fldA, binA, binVal, isSh, intVal, lenA, slenA, pickA, storeA, setN, getN, fillA, extA, beqA, eqsA, eqL, isnilA, unA, unVal, convA, nilA, sconvA, b2sA, b2sOf, bytesOf, mmA, srcA, appA, sliceA, lohi, mkslA, envA, ↓reduceIte, Nat.reduceEqDiff, Nat.reduceAdd, Nat.reduceMul, reduceCtorEq, Nat.reduceLeDiff, fB, fBools, fBlks, fSegs, aBlk, aSg, aSt, stRow, List.drop_zero, List.take_succ_cons, List.take_zero, List.take_nil, Nat.mul_one, Nat.one_mul, List.cons_append, List.nil_append]
  by_cases hl : a.length = b.length
  · have hl' : (a.length : Int) = (b.length : Int) := by omega
    simp only [hl', not_true, SS, boxA, cellsOf, foffA, loadA, ldA, idxA, fldA, binA, binVal, isSh, intVal, lenA, slenA, pickA, storeA, setN, getN, fillA, extA, beqA, eqsA, eqL, isnilA, unA, unVal, convA, nilA, sconvA, b2sA, b2sOf, bytesOf, mmA, srcA, appA, sliceA, lohi, mkslA, envA, ↓reduceIte, Nat.reduceEqDiff, Nat.reduceAdd, Nat.reduceMul, reduceCtorEq, Nat.reduceLeDiff, fB, fBools, fBlks, fSegs, aBlk, aSg, aSt, stRow, List.drop_zero, List.take_succ_cons, List.take_zero, List.take_nil, Nat.mul_one, Nat.one_mul, List.cons_append, List.nil_append]
    refine AWc.family (L_alB fa fb a b) (fun k => k ≤ a.length ∧ ∀ j, j < k → a[j]? = b[j]?) (fun k => a.length - k) 0 ⟨Nat.zero_le _, fun j h => absurd h (Nat.not_lt_zero _)⟩ ?_ ?_
    · refine Weak.calc [] (by decide) ?_ ?_ <;> simp [tk_B, tk_Bools, tk_Blks, tk_Segs, AlL_append, renL_append, okL, okH, rowIs, okV, okHV, rowVt, vtL, okF, okHF, rowFz, fzL, fzV, fzOne, nilLike, oldLike, rn, s_envOf, s_envOf0, s_heapOf, s_heapOf0, s_put, s_put0, s_put1, s_app0, s_app1, Al, AlL, ren, renL, al_B, al_Bools, al_Blks, al_Segs, ren_B, ren_Bools, ren_Blks, ren_Segs, fB, fBools, fBlks, fSegs]
    · rintro k ⟨hk, hj⟩
      by_cases hlt : k < a.length
      · obtain ⟨x, hx, e1, e0⟩ := lt_at hlt
        obtain ⟨y, hy, e2, _⟩ := lt_at (show k < b.length by omega)
        obtain ⟨g0, g1, g2, g3⟩ := get_Blks3 (fr := fa) hx
        obtain ⟨q0, q1, q2, q3⟩ := get_Blks3 (fr := fb) hy
        have bad : x ≠ y → no01 (a = b) = 1 := fun h => if_neg (by intro h1; subst h1; rw [hx] at hy; cases hy; exact h rfl)
        by_cases ho : x.own = y.own
        · by_cases hi : x.idx = y.idx
          · simp only [L_alB, g0, g1, g2, g3, q0, q1, q2, q3, e1, e0, e2, ho, hi, not_true, SS, boxA, cellsOf, foffA, loadA, ldA, idxA, fldA, binA, binVal, isSh, intVal, lenA, slenA, pickA, storeA, setN, getN, fillA, extA, beqA, eqsA, eqL, isnilA, unA, unVal, convA, nilA, sconvA, b2sA, b2sOf, bytesOf, mmA, srcA, appA, sliceA, lohi, mkslA, envA, ↓reduceIte, Nat.reduceEqDiff, Nat.reduceAdd, Nat.reduceMul, reduceCtorEq, Nat.reduceLeDiff, fB, fBools, fBlks, fSegs, aBlk, aSg, aSt, stRow, List.drop_zero, List.take_succ_cons, List.take_zero, List.take_nil, Nat.mul_one, Nat.one_mul, List.cons_append, List.nil_append]
            refine ⟨_, sameBytes_spec fa fb x.data y.data _ (hd x (List.mem_of_getElem? hx)), ?_⟩
            simp only [SS, boxA, cellsOf, foffA, loadA, ldA, idxA, fldA, binA, binVal, isSh, intVal, lenA, slenA, pickA, storeA, setN, getN, fillA, extA, beqA, eqsA, eqL, isnilA, unA, unVal, convA, nilA, sconvA, b2sA, b2sOf, bytesOf, mmA, srcA, appA, sliceA, lohi, mkslA, envA, ↓reduceIte, Nat.reduceEqDiff, Nat.reduceAdd, Nat.reduceMul, reduceCtorEq, Nat.reduceLeDiff, fB, fBools, fBlks, fSegs, aBlk, aSg, aSt, stRow, List.drop_zero, List.take_succ_cons, List.take_zero, List.take_nil, Nat.mul_one, Nat.one_mul, List.cons_append, List.nil_append]
            refine ⟨by rfl, ?_⟩
            by_cases hdt : x.data = y.data
            · have hxy : x = y := by cases x; cases y; simp_all
              rw [if_neg (by simp [hdt])]
              refine famC_next (k + 1) (by omega) ⟨by omega, fun j hj1 => ?_⟩ ?_
              · by_cases e : j = k
                · subst e; rw [hx, hy, hxy]
                · exact hj j (by omega)
              · refine Weak.calc [] (by decide) ?_ ?_ <;> simp [tk_B, tk_Bools, tk_Blks, tk_Segs, AlL_append, renL_append, okL, okH, rowIs, okV, okHV, rowVt, vtL, okF, okHF, rowFz, fzL, fzV, fzOne, nilLike, oldLike, rn, s_envOf, s_envOf0, s_heapOf, s_heapOf0, s_put, s_put0, s_put1, s_app0, s_app1, Al, AlL, ren, renL, al_B, al_Bools, al_Blks, al_Segs, ren_B, ren_Bools, ren_Blks, ren_Segs, fB, fBools, fBlks, fSegs, wrap64 (x := (k : Int) + 1) (by omega)]
            · rw [if_pos (by simp [hdt])]
              rw [bad (fun h => hdt (by rw [h]))]
              exact Ends.data (.inr rfl) (by simp [resL, resOne, tupOf, getN, s_envOf, s_envOf0, s_heapOf, s_heapOf0, s_put1, s_app0, s_app1]) trivial
          · simp only [L_alB, g0, g1, g2, g3, q0, q1, q2, q3, e1, e0, e2, ho, hi, not_true, not_false_eq_true, SS, boxA, cellsOf, foffA, loadA, ldA, idxA, fldA, binA, binVal, isSh, intVal, lenA, slenA, pickA, storeA, setN, getN, fillA, extA, beqA, eqsA, eqL, isnilA, unA, unVal, convA, nilA, sconvA, b2sA, b2sOf, bytesOf, mmA, srcA, appA, sliceA, lohi, mkslA, envA, ↓reduceIte, Nat.reduceEqDiff, Nat.reduceAdd, Nat.reduceMul, reduceCtorEq, Nat.reduceLeDiff, fB, fBools, fBlks, fSegs, aBlk, aSg, aSt, stRow, List.drop_zero, List.take_succ_cons, List.take_zero, List.take_nil, Nat.mul_one, Nat.one_mul, List.cons_append, List.nil_append]
            refine ⟨by rfl, ?_⟩
            rw [bad (fun h => hi (by rw [h]))]
            exact Ends.data (.inr rfl) (by simp [resL, resOne, tupOf, getN, s_envOf, s_envOf0, s_heapOf, s_heapOf0, s_put1, s_app0, s_app1]) trivial
        · simp only [L_alB, g0, g1, g2, g3, q0, q1, q2, q3, e1, e0, e2, ho, not_false_eq_true, SS, boxA, cellsOf, foffA, loadA, ldA, idxA, fldA, binA, binVal, isSh, intVal, lenA, slenA, pickA, storeA, setN, getN, fillA, extA, beqA, eqsA, eqL, isnilA, unA, unVal, convA, nilA, sconvA, b2sA, b2sOf, bytesOf, mmA, srcA, appA, sliceA, lohi, mkslA, envA, ↓reduceIte, Nat.reduceEqDiff, Nat.reduceAdd, Nat.reduceMul, reduceCtorEq, Nat.reduceLeDiff, fB, fBools, fBlks, fSegs, aBlk, aSg, aSt, stRow, List.drop_zero, List.take_succ_cons, List.take_zero, List.take_nil, Nat.mul_one, Nat.one_mul, List.cons_append, List.nil_append]
          refine ⟨by rfl, ?_⟩
          rw [bad (fun h => ho (by rw [h]))]
          exact Ends.data (.inr rfl) (by simp [resL, resOne, tupOf, getN, s_envOf, s_envOf0, s_heapOf, s_heapOf0, s_put1, s_app0, s_app1]) trivial
      · have e1 : ¬ ((k : Int) < (a.length : Int)) := by omega
        simp only [L_alB, e1, SS, boxA, cellsOf, foffA, loadA, ldA, idxA, fldA, binA, binVal, isSh, intVal, lenA, slenA, pickA, storeA, setN, getN, fillA, extA, beqA, eqsA, eqL, isnilA, unA, unVal, convA, nilA, sconvA, b2sA, b2sOf, bytesOf, mmA, srcA, appA, sliceA, lohi, mkslA, envA, ↓reduceIte, Nat.reduceEqDiff, Nat.reduceAdd, Nat.reduceMul, reduceCtorEq, Nat.reduceLeDiff, fB, fBools, fBlks, fSegs, aBlk, aSg, aSt, stRow, List.drop_zero, List.take_succ_cons, List.take_zero, List.take_nil, Nat.mul_one, Nat.one_mul, List.cons_append, List.nil_append]
        have : a = b := eq_upto hl fun j h => hj j (by omega)
        exact Ends.data (.inr rfl) (by simp [no01, this, resL, resOne, tupOf, getN, s_envOf, s_envOf0, s_heapOf, s_heapOf0, s_put1, s_app0, s_app1]) trivial
  · have hl' : ¬ (a.length : Int) = (b.length : Int) := by omega
    simp only [hl', not_false_eq_true, SS, boxA, cellsOf, foffA, loadA, ldA, idxA, fldA, binA, binVal, isSh, intVal, lenA, slenA, pickA, storeA, setN, getN, fillA, extA, beqA, eqsA, eqL, isnilA, unA, unVal, convA, nilA, sconvA, b2sA, b2sOf, bytesOf, mmA, srcA, appA, sliceA, lohi, mkslA, envA, ↓reduceIte, Nat.reduceEqDiff, Nat.reduceAdd, Nat.reduceMul, reduceCtorEq, Nat.reduceLeDiff, fB, fBools, fBlks, fSegs, aBlk, aSg, aSt, stRow, List.drop_zero, List.take_succ_cons, List.take_zero, List.take_nil, Nat.mul_one, Nat.one_mul, List.cons_append, List.nil_append]
    have : ¬ a = b := fun h => hl (by rw [h])
    exact Ends.data (.inr rfl) (by simp [no01, this, resL, resOne, tupOf, getN, s_envOf, s_envOf0, s_heapOf, s_heapOf0, s_put1, s_app0, s_app1]) trivial
end Go.Proofs.Ytfoeddmbhmfjcaa
/- The law's Alike. -/
namespace Go.Proofs.Ytfoeddmbhmfjcaa
open Go.RowKit
set_option maxRecDepth 100000
theorem alikeSg_spec (fa fb : Bool) (a b : Sg) (nb : Nat) (hz : a.blocks.length * 40 ≤ 140737488355328) (hd : ∀ x ∈ a.blocks, x.data.length ≤ 140737488355328) : ASound Try.prog 62 [aSg fa a, aSg fb b] nb (.ret (.v (.int .i64 (no01 (a = b)))) []) := by
  refine ok_62.sound (by simp) ⟨al_aSg a, al_aSg b, trivial⟩ ?_
  simp only [ac_62, SS, boxA, cellsOf, foffA, loadA, ldA, idxA, fldA, binA, binVal, isSh, intVal, lenA, slenA, pickA, storeA, setN, getN, fillA, extA, beqA, eqsA, eqL, isnilA, unA, unVal, convA, nilA, sconvA, b2sA, b2sOf, bytesOf, mmA, srcA, appA, sliceA, lohi, mkslA, envA, ↓reduceIte, Nat.reduceEqDiff, Nat.reduceAdd, Nat.reduceMul, reduceCtorEq, Nat.reduceLeDiff, fB, fBools, fBlks, fSegs, aBlk, aSg, aSt, stRow, List.drop_zero, List.take_succ_cons, List.take_zero, List.take_nil, Nat.mul_one, Nat.one_mul, List.cons_append, List.nil_append]
  by_cases hs : a.seq = b.seq
  · simp only [hs, not_true, SS, boxA, cellsOf, foffA, loadA, ldA, idxA, fldA, binA, binVal, isSh, intVal, lenA, slenA, pickA, storeA, setN, getN, fillA, extA, beqA, eqsA, eqL, isnilA, unA, unVal, convA, nilA, sconvA, b2sA, b2sOf, bytesOf, mmA, srcA, appA, sliceA, lohi, mkslA, envA, ↓reduceIte, Nat.reduceEqDiff, Nat.reduceAdd, Nat.reduceMul, reduceCtorEq, Nat.reduceLeDiff, fB, fBools, fBlks, fSegs, aBlk, aSg, aSt, stRow, List.drop_zero, List.take_succ_cons, List.take_zero, List.take_nil, Nat.mul_one, Nat.one_mul, List.cons_append, List.nil_append]
    refine ⟨_, alikeBlocks_spec fa fb a.blocks b.blocks _ (by omega) hd, ?_⟩
    simp only [SS, boxA, cellsOf, foffA, loadA, ldA, idxA, fldA, binA, binVal, isSh, intVal, lenA, slenA, pickA, storeA, setN, getN, fillA, extA, beqA, eqsA, eqL, isnilA, unA, unVal, convA, nilA, sconvA, b2sA, b2sOf, bytesOf, mmA, srcA, appA, sliceA, lohi, mkslA, envA, ↓reduceIte, Nat.reduceEqDiff, Nat.reduceAdd, Nat.reduceMul, reduceCtorEq, Nat.reduceLeDiff, fB, fBools, fBlks, fSegs, aBlk, aSg, aSt, stRow, List.drop_zero, List.take_succ_cons, List.take_zero, List.take_nil, Nat.mul_one, Nat.one_mul, List.cons_append, List.nil_append]
    have : (a = b) = (a.blocks = b.blocks) := by cases a; cases b; simp_all
    exact Ends.data (.inr rfl) (by simp [no01, this, resL, resOne, tupOf, getN, s_envOf, s_envOf0, s_heapOf, s_heapOf0, s_put1, s_app0, s_app1]) trivial
  · simp only [hs, not_false_eq_true, SS, boxA, cellsOf, foffA, loadA, ldA, idxA, fldA, binA, binVal, isSh, intVal, lenA, slenA, pickA, storeA, setN, getN, fillA, extA, beqA, eqsA, eqL, isnilA, unA, unVal, convA, nilA, sconvA, b2sA, b2sOf, bytesOf, mmA, srcA, appA, sliceA, lohi, mkslA, envA, ↓reduceIte, Nat.reduceEqDiff, Nat.reduceAdd, Nat.reduceMul, reduceCtorEq, Nat.reduceLeDiff, fB, fBools, fBlks, fSegs, aBlk, aSg, aSt, stRow, List.drop_zero, List.take_succ_cons, List.take_zero, List.take_nil, Nat.mul_one, Nat.one_mul, List.cons_append, List.nil_append]
    have : ¬ a = b := fun h => hs (by rw [h])
    exact Ends.data (.inr rfl) (by simp [no01, this, resL, resOne, tupOf, getN, s_envOf, s_envOf0, s_heapOf, s_heapOf0, s_put1, s_app0, s_app1]) trivial
abbrev L_al (fa fb : Bool) (a b : St) (k : Nat) : ASt := ⟨envOf [(2, .op 0 0), (3, .op 1 0), (5, .v (.int .i64 k))], heapOf [(0, stRow 36 fa a), (1, stRow 32 fb b)], 2⟩
theorem alikeSt_spec (fa fb : Bool) (a b : St) (nb : Nat) (h : SZ a) : ASound Try.prog 25 [aSt fa a, aSt fb b] nb (.ret (.v (.int .i64 (no01 (a = b)))) []) := by
  refine ok_25.sound (by simp) ⟨al_aSt a, al_aSt b, trivial⟩ ?_
  simp only [ac_25, SS, boxA, cellsOf, foffA, loadA, ldA, idxA, fldA, binA, binVal, isSh, intVal, lenA, slenA, pickA, storeA, setN, getN, fillA, extA, beqA, eqsA, eqL, isnilA, unA, unVal, convA, nilA, sconvA, b2sA, b2sOf, bytesOf, mmA, srcA, appA, sliceA, lohi, mkslA, envA, ↓reduceIte, Nat.reduceEqDiff, Nat.reduceAdd, Nat.reduceMul, reduceCtorEq, Nat.reduceLeDiff, fB, fBools, fBlks, fSegs, aBlk, aSg, aSt, stRow, List.drop_zero, List.take_succ_cons, List.take_zero, List.take_nil, Nat.mul_one, Nat.one_mul, List.cons_append, List.nil_append]
  by_cases hn : a.next = b.next
  · simp only [hn, not_true, SS, boxA, cellsOf, foffA, loadA, ldA, idxA, fldA, binA, binVal, isSh, intVal, lenA, slenA, pickA, storeA, setN, getN, fillA, extA, beqA, eqsA, eqL, isnilA, unA, unVal, convA, nilA, sconvA, b2sA, b2sOf, bytesOf, mmA, srcA, appA, sliceA, lohi, mkslA, envA, ↓reduceIte, Nat.reduceEqDiff, Nat.reduceAdd, Nat.reduceMul, reduceCtorEq, Nat.reduceLeDiff, fB, fBools, fBlks, fSegs, aBlk, aSg, aSt, stRow, List.drop_zero, List.take_succ_cons, List.take_zero, List.take_nil, Nat.mul_one, Nat.one_mul, List.cons_append, List.nil_append]
    refine ⟨_, sameBools_spec fa fb a.held b.held _ h.held, ?_⟩
    by_cases hh : a.held = b.held
    · simp only [hh, decide_true, Bool.not_true, SS, boxA, cellsOf, foffA, loadA, ldA, idxA, fldA, binA, binVal, isSh, intVal, lenA, slenA, pickA, storeA, setN, getN, fillA, extA, beqA, eqsA, eqL, isnilA, unA, unVal, convA, nilA, sconvA, b2sA, b2sOf, bytesOf, mmA, srcA, appA, sliceA, lohi, mkslA, envA, ↓reduceIte, Nat.reduceEqDiff, Nat.reduceAdd, Nat.reduceMul, reduceCtorEq, Nat.reduceLeDiff, fB, fBools, fBlks, fSegs, aBlk, aSg, aSt, stRow, List.drop_zero, List.take_succ_cons, List.take_zero, List.take_nil, Nat.mul_one, Nat.one_mul, List.cons_append, List.nil_append]
      refine ⟨_, alikeBlocks_spec fa fb a.opn b.opn _ (by have := h.opn; omega) h.opnD, ?_⟩
      by_cases ho : a.opn = b.opn
      · have n0 : no01 (a.opn = b.opn) = 0 := if_pos ho
        simp only [n0, not_true, SS, boxA, cellsOf, foffA, loadA, ldA, idxA, fldA, binA, binVal, isSh, intVal, lenA, slenA, pickA, storeA, setN, getN, fillA, extA, beqA, eqsA, eqL, isnilA, unA, unVal, convA, nilA, sconvA, b2sA, b2sOf, bytesOf, mmA, srcA, appA, sliceA, lohi, mkslA, envA, ↓reduceIte, Nat.reduceEqDiff, Nat.reduceAdd, Nat.reduceMul, reduceCtorEq, Nat.reduceLeDiff, fB, fBools, fBlks, fSegs, aBlk, aSg, aSt, stRow, List.drop_zero, List.take_succ_cons, List.take_zero, List.take_nil, Nat.mul_one, Nat.one_mul, List.cons_append, List.nil_append]
        by_cases hl : a.segs.length = b.segs.length
        · have hl' : (a.segs.length : Int) = (b.segs.length : Int) := by omega
          simp only [hl', not_true, SS, boxA, cellsOf, foffA, loadA, ldA, idxA, fldA, binA, binVal, isSh, intVal, lenA, slenA, pickA, storeA, setN, getN, fillA, extA, beqA, eqsA, eqL, isnilA, unA, unVal, convA, nilA, sconvA, b2sA, b2sOf, bytesOf, mmA, srcA, appA, sliceA, lohi, mkslA, envA, ↓reduceIte, Nat.reduceEqDiff, Nat.reduceAdd, Nat.reduceMul, reduceCtorEq, Nat.reduceLeDiff, fB, fBools, fBlks, fSegs, aBlk, aSg, aSt, stRow, List.drop_zero, List.take_succ_cons, List.take_zero, List.take_nil, Nat.mul_one, Nat.one_mul, List.cons_append, List.nil_append]
          refine AWc.family (L_al fa fb a b) (fun k => k ≤ a.segs.length ∧ ∀ j, j < k → a.segs[j]? = b.segs[j]?) (fun k => a.segs.length - k) 0 ⟨Nat.zero_le _, fun j h => absurd h (Nat.not_lt_zero _)⟩ ?_ ?_
          · refine Weak.calc [(0, 0), (64, 1)] (by decide) ?_ ?_ <;> simp [hn, hh, tk_B, tk_Bools, tk_Blks, tk_Segs, AlL_append, renL_append, okL, okH, rowIs, okV, okHV, rowVt, vtL, okF, okHF, rowFz, fzL, fzV, fzOne, nilLike, oldLike, rn, s_envOf, s_envOf0, s_heapOf, s_heapOf0, s_put, s_put0, s_put1, s_app0, s_app1, Al, AlL, ren, renL, al_B, al_Bools, al_Blks, al_Segs, ren_B, ren_Bools, ren_Blks, ren_Segs, fB, fBools, fBlks, fSegs]
          · rintro k ⟨hk, hj⟩
            by_cases hlt : k < a.segs.length
            · obtain ⟨x, hx, e1, e0⟩ := lt_at hlt
              obtain ⟨y, hy, e2, _⟩ := lt_at (show k < b.segs.length by omega)
              obtain ⟨g0, g1⟩ := get_Segs (fr := fa) hx
              obtain ⟨q0, q1⟩ := get_Segs (fr := fb) hy
              have e3 : k * 2 + 2 ≤ a.segs.length * 2 := by omega
              have e4 : k * 2 + 2 ≤ b.segs.length * 2 := by omega
              have bad : x ≠ y → ¬ a = b := fun h => by intro h1; subst h1; rw [hx] at hy; cases hy; exact h rfl
              simp only [L_al, g0, g1, q0, q1, e1, e0, e2, e3, e4, len_Segs, SS, boxA, cellsOf, foffA, loadA, ldA, idxA, fldA, binA, binVal, isSh, intVal, lenA, slenA, pickA, storeA, setN, getN, fillA, extA, beqA, eqsA, eqL, isnilA, unA, unVal, convA, nilA, sconvA, b2sA, b2sOf, bytesOf, mmA, srcA, appA, sliceA, lohi, mkslA, envA, ↓reduceIte, Nat.reduceEqDiff, Nat.reduceAdd, Nat.reduceMul, reduceCtorEq, Nat.reduceLeDiff, fB, fBools, fBlks, fSegs, aBlk, aSg, aSt, stRow, List.drop_zero, List.take_succ_cons, List.take_zero, List.take_nil, Nat.mul_one, Nat.one_mul, List.cons_append, List.nil_append]
              refine ⟨_, alikeSg_spec fa fb x y _ (h.seg x (List.mem_of_getElem? hx)) (h.segD x (List.mem_of_getElem? hx)), ?_⟩
              simp only [SS, boxA, cellsOf, foffA, loadA, ldA, idxA, fldA, binA, binVal, isSh, intVal, lenA, slenA, pickA, storeA, setN, getN, fillA, extA, beqA, eqsA, eqL, isnilA, unA, unVal, convA, nilA, sconvA, b2sA, b2sOf, bytesOf, mmA, srcA, appA, sliceA, lohi, mkslA, envA, ↓reduceIte, Nat.reduceEqDiff, Nat.reduceAdd, Nat.reduceMul, reduceCtorEq, Nat.reduceLeDiff, fB, fBools, fBlks, fSegs, aBlk, aSg, aSt, stRow, List.drop_zero, List.take_succ_cons, List.take_zero, List.take_nil, Nat.mul_one, Nat.one_mul, List.cons_append, List.nil_append]
              refine ⟨by rfl, ?_⟩
              by_cases hxy : x = y
              · rw [if_neg (by simp [no01, hxy])]
                refine famC_next (k + 1) (by omega) ⟨by omega, fun j hj1 => ?_⟩ ?_
                · by_cases e : j = k
                  · subst e; rw [hx, hy, hxy]
                  · exact hj j (by omega)
                · have := h.segs
                  refine Weak.calc [(0, 0), (1, 1)] (by decide) ?_ ?_ <;> simp [tk_B, tk_Bools, tk_Blks, tk_Segs, AlL_append, renL_append, okL, okH, rowIs, okV, okHV, rowVt, vtL, okF, okHF, rowFz, fzL, fzV, fzOne, nilLike, oldLike, rn, s_envOf, s_envOf0, s_heapOf, s_heapOf0, s_put, s_put0, s_put1, s_app0, s_app1, Al, AlL, ren, renL, al_B, al_Bools, al_Blks, al_Segs, ren_B, ren_Bools, ren_Blks, ren_Segs, fB, fBools, fBlks, fSegs, wrap64 (x := (k : Int) + 1) (by omega)]
              · rw [if_pos (by simp [no01, hxy])]
                exact Ends.data (.inr rfl) (by simp [no01, bad hxy, resL, resOne, tupOf, getN, s_envOf, s_envOf0, s_heapOf, s_heapOf0, s_put1, s_app0, s_app1]) trivial
            · have e1 : ¬ ((k : Int) < (a.segs.length : Int)) := by omega
              simp only [L_al, e1, SS, boxA, cellsOf, foffA, loadA, ldA, idxA, fldA, binA, binVal, isSh, intVal, lenA, slenA, pickA, storeA, setN, getN, fillA, extA, beqA, eqsA, eqL, isnilA, unA, unVal, convA, nilA, sconvA, b2sA, b2sOf, bytesOf, mmA, srcA, appA, sliceA, lohi, mkslA, envA, ↓reduceIte, Nat.reduceEqDiff, Nat.reduceAdd, Nat.reduceMul, reduceCtorEq, Nat.reduceLeDiff, fB, fBools, fBlks, fSegs, aBlk, aSg, aSt, stRow, List.drop_zero, List.take_succ_cons, List.take_zero, List.take_nil, Nat.mul_one, Nat.one_mul, List.cons_append, List.nil_append]
              have : a = b := by
                have hs : a.segs = b.segs := eq_upto hl fun j h => hj j (by omega)
                cases a; cases b; simp_all
              exact Ends.data (.inr rfl) (by simp [no01, this, resL, resOne, tupOf, getN, s_envOf, s_envOf0, s_heapOf, s_heapOf0, s_put1, s_app0, s_app1]) trivial
        · have hl' : ¬ (a.segs.length : Int) = (b.segs.length : Int) := by omega
          simp only [hl', not_false_eq_true, SS, boxA, cellsOf, foffA, loadA, ldA, idxA, fldA, binA, binVal, isSh, intVal, lenA, slenA, pickA, storeA, setN, getN, fillA, extA, beqA, eqsA, eqL, isnilA, unA, unVal, convA, nilA, sconvA, b2sA, b2sOf, bytesOf, mmA, srcA, appA, sliceA, lohi, mkslA, envA, ↓reduceIte, Nat.reduceEqDiff, Nat.reduceAdd, Nat.reduceMul, reduceCtorEq, Nat.reduceLeDiff, fB, fBools, fBlks, fSegs, aBlk, aSg, aSt, stRow, List.drop_zero, List.take_succ_cons, List.take_zero, List.take_nil, Nat.mul_one, Nat.one_mul, List.cons_append, List.nil_append]
          have : ¬ a = b := fun h => hl (by rw [h])
          exact Ends.data (.inr rfl) (by simp [no01, this, resL, resOne, tupOf, getN, s_envOf, s_envOf0, s_heapOf, s_heapOf0, s_put1, s_app0, s_app1]) trivial
      · have n1 : no01 (a.opn = b.opn) = 1 := if_neg ho
        simp only [n1, Int.reduceEq, not_false_eq_true, SS, boxA, cellsOf, foffA, loadA, ldA, idxA, fldA, binA, binVal, isSh, intVal, lenA, slenA, pickA, storeA, setN, getN, fillA, extA, beqA, eqsA, eqL, isnilA, unA, unVal, convA, nilA, sconvA, b2sA, b2sOf, bytesOf, mmA, srcA, appA, sliceA, lohi, mkslA, envA, ↓reduceIte, Nat.reduceEqDiff, Nat.reduceAdd, Nat.reduceMul, reduceCtorEq, Nat.reduceLeDiff, fB, fBools, fBlks, fSegs, aBlk, aSg, aSt, stRow, List.drop_zero, List.take_succ_cons, List.take_zero, List.take_nil, Nat.mul_one, Nat.one_mul, List.cons_append, List.nil_append]
        have : ¬ a = b := fun h => ho (by rw [h])
        exact Ends.data (.inr rfl) (by simp [no01, this, resL, resOne, tupOf, getN, s_envOf, s_envOf0, s_heapOf, s_heapOf0, s_put1, s_app0, s_app1]) trivial
    · simp only [hh, decide_false, Bool.not_false, SS, boxA, cellsOf, foffA, loadA, ldA, idxA, fldA, binA, binVal, isSh, intVal, lenA, slenA, pickA, storeA, setN, getN, fillA, extA, beqA, eqsA, eqL, isnilA, unA, unVal, convA, nilA, sconvA, b2sA, b2sOf, bytesOf, mmA, srcA, appA, sliceA, lohi, mkslA, envA, ↓reduceIte, Nat.reduceEqDiff, Nat.reduceAdd, Nat.reduceMul, reduceCtorEq, Nat.reduceLeDiff, fB, fBools, fBlks, fSegs, aBlk, aSg, aSt, stRow, List.drop_zero, List.take_succ_cons, List.take_zero, List.take_nil, Nat.mul_one, Nat.one_mul, List.cons_append, List.nil_append]
      have : ¬ a = b := fun h => hh (by rw [h])
      exact Ends.data (.inr rfl) (by simp [no01, this, resL, resOne, tupOf, getN, s_envOf, s_envOf0, s_heapOf, s_heapOf0, s_put1, s_app0, s_app1]) trivial
  · simp only [hn, not_false_eq_true, SS, boxA, cellsOf, foffA, loadA, ldA, idxA, fldA, binA, binVal, isSh, intVal, lenA, slenA, pickA, storeA, setN, getN, fillA, extA, beqA, eqsA, eqL, isnilA, unA, unVal, convA, nilA, sconvA, b2sA, b2sOf, bytesOf, mmA, srcA, appA, sliceA, lohi, mkslA, envA, ↓reduceIte, Nat.reduceEqDiff, Nat.reduceAdd, Nat.reduceMul, reduceCtorEq, Nat.reduceLeDiff, fB, fBools, fBlks, fSegs, aBlk, aSg, aSt, stRow, List.drop_zero, List.take_succ_cons, List.take_zero, List.take_nil, Nat.mul_one, Nat.one_mul, List.cons_append, List.nil_append]
    have : ¬ a = b := fun h => hn (by rw [h])
    exact Ends.data (.inr rfl) (by simp [no01, this, resL, resOne, tupOf, getN, s_envOf, s_envOf0, s_heapOf, s_heapOf0, s_put1, s_app0, s_app1]) trivial
end Go.Proofs.Ytfoeddmbhmfjcaa
/- The law's copies, with what one knows of their blocks: unmarked, at their start, of one element type each. -/
namespace Go.Proofs.Ytfoeddmbhmfjcaa
open Go.RowKit
set_option maxRecDepth 100000
def uB (fr : Bool) (l : List Int) : AV := .us fr 5 (eB l) l.length
def uBools (fr : Bool) (l : List Bool) : AV := .us fr 4 (eBools l) l.length
def ueBlk (fr : Bool) (b : Blk) : List AV := [.v (.int .i64 b.own), .v (.int .i64 b.idx), .us fr 5 (eB b.data) b.data.length]
def ueBlks (fr : Bool) (l : List Blk) : List AV := l.flatMap (ueBlk fr)
def uBlks (fr : Bool) (l : List Blk) : AV := .us fr 57 (ueBlks fr l) l.length
def ueSg (fr : Bool) (s : Sg) : List AV := [.v (.int .i64 s.seq), .us fr 57 (ueBlks fr s.blocks) s.blocks.length]
def ueSegs (fr : Bool) (l : List Sg) : List AV := l.flatMap (ueSg fr)
def uSegs (fr : Bool) (l : List Sg) : AV := .us fr 62 (ueSegs fr l) l.length
def uSg (fr : Bool) (s : Sg) : AV := .agg [.v (.int .i64 s.seq), uBlks fr s.blocks]
def uSt (fr : Bool) (s : St) : AV := .agg [uSegs fr s.segs, uBools fr s.held, uBlks fr s.opn, .v (.int .i64 s.next)]
section
variable {p : Nat → Prop} {fr : Bool}
theorem al_ueBlk (b : Blk) : AlL p (ueBlk fr b) := ⟨trivial, trivial, al_B _, trivial⟩
theorem al_ueBlks (l : List Blk) : AlL p (ueBlks fr l) := AlL_flat al_ueBlk l
theorem al_ueSg (s : Sg) : AlL p (ueSg fr s) := ⟨trivial, al_ueBlks _, trivial⟩
theorem al_ueSegs (l : List Sg) : AlL p (ueSegs fr l) := AlL_flat al_ueSg l
theorem al_uB (l : List Int) : Al p (uB fr l) := al_B l
theorem al_uBools (l : List Bool) : Al p (uBools fr l) := al_Bools l
theorem al_uBlks (l : List Blk) : Al p (uBlks fr l) := al_ueBlks l
theorem al_uSg (s : Sg) : Al p (uSg fr s) := ⟨trivial, al_ueBlks _, trivial⟩
theorem al_uSt (s : St) : Al p (uSt fr s) := ⟨al_ueSegs _, al_Bools _, al_ueBlks _, trivial, trivial⟩
theorem ren_ueBlks {ρ : Nat → Nat} (l : List Blk) : renL ρ (ueBlks fr l) = ueBlks fr l := renL_id (p := fun _ => False) (fun _ h => h.elim) (al_ueBlks l)
theorem ren_ueSegs {ρ : Nat → Nat} (l : List Sg) : renL ρ (ueSegs fr l) = ueSegs fr l := renL_id (p := fun _ => False) (fun _ h => h.elim) (al_ueSegs l)
theorem len_ueBlks (l : List Blk) : (ueBlks fr l).length = l.length * 3 := flat_len (e := ueBlk fr) (fun _ => rfl) l
theorem len_ueSegs (l : List Sg) : (ueSegs fr l).length = l.length * 2 := flat_len (e := ueSg fr) (fun _ => rfl) l
theorem snoc_ueBlks {l : List Blk} {k : Nat} {b : Blk} (h : l[k]? = some b) : ueBlks fr (l.take (k + 1)) = ueBlks fr (l.take k) ++ ueBlk fr b := by
  obtain ⟨hk, rfl⟩ := List.getElem?_eq_some_iff.1 h
  rw [List.take_succ_eq_append_getElem hk]; simp only [ueBlks, List.flatMap_append, List.flatMap_cons, List.flatMap_nil, List.append_nil]
theorem snoc_ueSegs {l : List Sg} {k : Nat} {b : Sg} (h : l[k]? = some b) : ueSegs fr (l.take (k + 1)) = ueSegs fr (l.take k) ++ ueSg fr b := by
  obtain ⟨hk, rfl⟩ := List.getElem?_eq_some_iff.1 h
  rw [List.take_succ_eq_append_getElem hk]; simp only [ueSegs, List.flatMap_append, List.flatMap_cons, List.flatMap_nil, List.append_nil]
theorem tk_ueBlks (l : List Blk) : (ueBlks fr l).take (l.length * 3) = ueBlks fr l := by rw [← len_ueBlks (fr := fr), List.take_length]
theorem tk_ueSegs (l : List Sg) : (ueSegs fr l).take (l.length * 2) = ueSegs fr l := by rw [← len_ueSegs (fr := fr), List.take_length]
end
theorem copyBytes_U (fr : Bool) (d : List Int) (nb : Nat) (h : d.length ≤ 140737488355328) : ASound Try.prog 29 [fB fr d] nb (.ret (uB true d) []) := by
  refine ok_29.sound (by simp) ⟨al_fB d, trivial⟩ ?_
  simp only [ac_29, len_B, h, SS, boxA, cellsOf, foffA, loadA, ldA, idxA, fldA, binA, binVal, isSh, intVal, lenA, slenA, pickA, storeA, setN, getN, fillA, extA, beqA, eqsA, eqL, isnilA, unA, unVal, convA, nilA, sconvA, b2sA, b2sOf, bytesOf, mmA, srcA, appA, sliceA, lohi, mkslA, envA, ↓reduceIte, Nat.reduceEqDiff, Nat.reduceAdd, Nat.reduceMul, reduceCtorEq, Nat.reduceLeDiff, fB, fBools, fBlks, fSegs, aBlk, aSg, aSt, stRow, List.drop_zero, List.take_succ_cons, List.take_zero, List.take_nil, Nat.mul_one, Nat.one_mul, List.cons_append, List.nil_append]
  refine Ends.weak (Weak.freezeUC 256 rfl (l := [(2, uB true d)]) (h := []) ?_ ?_) (Ends.data (.inr rfl) (by simp [resL, resOne, tupOf, getN, s_envOf, s_envOf0, s_heapOf, s_heapOf0, s_put1, s_app0, s_app1]) (al_uB d))
  · simp [tk_B, tk_Bools, tk_Blks, tk_Segs, AlL_append, renL_append, okL, okH, rowIs, okV, okHV, rowVt, vtL, okF, okHF, rowFz, fzL, fzV, fzOne, nilLike, oldLike, rn, s_envOf, s_envOf0, s_heapOf, s_heapOf0, s_put, s_put0, s_put1, s_app0, s_app1, Al, AlL, ren, renL, al_B, al_Bools, al_Blks, al_Segs, ren_B, ren_Bools, ren_Blks, ren_Segs, fB, fBools, fBlks, fSegs, okFU, okHFU, rowFzU, fzLU, fzVU, fzOneU, tk_ueBlks, tk_ueSegs, al_ueBlks, al_ueSegs, ren_ueBlks, ren_ueSegs, uB, uBools, uBlks, uSegs]
  · simp [tk_B, tk_Bools, tk_Blks, tk_Segs, AlL_append, renL_append, okL, okH, rowIs, okV, okHV, rowVt, vtL, okF, okHF, rowFz, fzL, fzV, fzOne, nilLike, oldLike, rn, s_envOf, s_envOf0, s_heapOf, s_heapOf0, s_put, s_put0, s_put1, s_app0, s_app1, Al, AlL, ren, renL, al_B, al_Bools, al_Blks, al_Segs, ren_B, ren_Bools, ren_Blks, ren_Segs, fB, fBools, fBlks, fSegs, okFU, okHFU, rowFzU, fzLU, fzVU, fzOneU, tk_ueBlks, tk_ueSegs, al_ueBlks, al_ueSegs, ren_ueBlks, ren_ueSegs, uB, uBools, uBlks, uSegs]
theorem copyBools_U (fr : Bool) (d : List Bool) (nb : Nat) (h : d.length ≤ 140737488355328) : ASound Try.prog 49 [fBools fr d] nb (.ret (uBools true d) []) := by
  refine ok_49.sound (by simp) ⟨al_fBools d, trivial⟩ ?_
  simp only [ac_49, len_Bools, h, SS, boxA, cellsOf, foffA, loadA, ldA, idxA, fldA, binA, binVal, isSh, intVal, lenA, slenA, pickA, storeA, setN, getN, fillA, extA, beqA, eqsA, eqL, isnilA, unA, unVal, convA, nilA, sconvA, b2sA, b2sOf, bytesOf, mmA, srcA, appA, sliceA, lohi, mkslA, envA, ↓reduceIte, Nat.reduceEqDiff, Nat.reduceAdd, Nat.reduceMul, reduceCtorEq, Nat.reduceLeDiff, fB, fBools, fBlks, fSegs, aBlk, aSg, aSt, stRow, List.drop_zero, List.take_succ_cons, List.take_zero, List.take_nil, Nat.mul_one, Nat.one_mul, List.cons_append, List.nil_append]
  refine Ends.weak (Weak.freezeUC 256 rfl (l := [(2, uBools true d)]) (h := []) ?_ ?_) (Ends.data (.inr rfl) (by simp [resL, resOne, tupOf, getN, s_envOf, s_envOf0, s_heapOf, s_heapOf0, s_put1, s_app0, s_app1]) (al_uBools d))
  · simp [tk_B, tk_Bools, tk_Blks, tk_Segs, AlL_append, renL_append, okL, okH, rowIs, okV, okHV, rowVt, vtL, okF, okHF, rowFz, fzL, fzV, fzOne, nilLike, oldLike, rn, s_envOf, s_envOf0, s_heapOf, s_heapOf0, s_put, s_put0, s_put1, s_app0, s_app1, Al, AlL, ren, renL, al_B, al_Bools, al_Blks, al_Segs, ren_B, ren_Bools, ren_Blks, ren_Segs, fB, fBools, fBlks, fSegs, okFU, okHFU, rowFzU, fzLU, fzVU, fzOneU, tk_ueBlks, tk_ueSegs, al_ueBlks, al_ueSegs, ren_ueBlks, ren_ueSegs, uB, uBools, uBlks, uSegs]
  · simp [tk_B, tk_Bools, tk_Blks, tk_Segs, AlL_append, renL_append, okL, okH, rowIs, okV, okHV, rowVt, vtL, okF, okHF, rowFz, fzL, fzV, fzOne, nilLike, oldLike, rn, s_envOf, s_envOf0, s_heapOf, s_heapOf0, s_put, s_put0, s_put1, s_app0, s_app1, Al, AlL, ren, renL, al_B, al_Bools, al_Blks, al_Segs, ren_B, ren_Bools, ren_Blks, ren_Segs, fB, fBools, fBlks, fSegs, okFU, okHFU, rowFzU, fzLU, fzVU, fzOneU, tk_ueBlks, tk_ueSegs, al_ueBlks, al_ueSegs, ren_ueBlks, ren_ueSegs, uB, uBools, uBlks, uSegs]
abbrev L_ofBU (fr : Bool) (l : List Blk) (k : Nat) : ASt := ⟨envOf [(0, fBlks fr l), (3, .os 0 0 k 3), (4, .v (.int .i64 k))], heapOf [(0, .row true 57 (ueBlks true (l.take k)))], 1⟩
theorem ofBlocks_U (fr : Bool) (l : List Blk) (nb : Nat) (h : l.length * 40 ≤ 140737488355328) (hd : ∀ b ∈ l, b.data.length ≤ 140737488355328) : ASound Try.prog 50 [fBlks fr l] nb (.ret (uBlks true l) []) := by
  refine ok_50.sound (by simp) ⟨al_fBlks l, trivial⟩ ?_
  simp only [ac_50, SS, boxA, cellsOf, foffA, loadA, ldA, idxA, fldA, binA, binVal, isSh, intVal, lenA, slenA, pickA, storeA, setN, getN, fillA, extA, beqA, eqsA, eqL, isnilA, unA, unVal, convA, nilA, sconvA, b2sA, b2sOf, bytesOf, mmA, srcA, appA, sliceA, lohi, mkslA, envA, ↓reduceIte, Nat.reduceEqDiff, Nat.reduceAdd, Nat.reduceMul, reduceCtorEq, Nat.reduceLeDiff, fB, fBools, fBlks, fSegs, aBlk, aSg, aSt, stRow, List.drop_zero, List.take_succ_cons, List.take_zero, List.take_nil, Nat.mul_one, Nat.one_mul, List.cons_append, List.nil_append]
  refine AWc.family (L_ofBU fr l) (fun k => k ≤ l.length) (fun k => l.length - k) 0 (Nat.zero_le _) ?_ ?_
  · refine Weak.trans (Weak.virtC 57 3 (l := [(0, fBlks fr l), (3, .os 192 0 0 3), (4, .v (.int .i64 0))]) (h := []) ?_ ?_) (Weak.calc [(192, 0)] (by decide) ?_ ?_)
    all_goals simp [show ueBlks true [] = [] from rfl, tk_B, tk_Bools, tk_Blks, tk_Segs, AlL_append, renL_append, okL, okH, rowIs, okV, okHV, rowVt, vtL, okF, okHF, rowFz, fzL, fzV, fzOne, nilLike, oldLike, rn, s_envOf, s_envOf0, s_heapOf, s_heapOf0, s_put, s_put0, s_put1, s_app0, s_app1, Al, AlL, ren, renL, al_B, al_Bools, al_Blks, al_Segs, ren_B, ren_Bools, ren_Blks, ren_Segs, fB, fBools, fBlks, fSegs, okFU, okHFU, rowFzU, fzLU, fzVU, fzOneU, tk_ueBlks, tk_ueSegs, al_ueBlks, al_ueSegs, ren_ueBlks, ren_ueSegs, uB, uBools, uBlks, uSegs]
  · intro k hk
    by_cases hlt : k < l.length
    · obtain ⟨b, hb, e1, e0⟩ := lt_at hlt
      obtain ⟨g0, g1, g2, g3⟩ := get_Blks3 (fr := fr) hb
      have hl : (ueBlks true (l.take k)).length = k * 3 := by rw [len_ueBlks]; simp; omega
      have hcap : (k + 1) * 40 ≤ 140737488355328 := by omega
      simp only [L_ofBU, g0, g1, g3, e1, e0, SS, boxA, cellsOf, foffA, loadA, ldA, idxA, fldA, binA, binVal, isSh, intVal, lenA, slenA, pickA, storeA, setN, getN, fillA, extA, beqA, eqsA, eqL, isnilA, unA, unVal, convA, nilA, sconvA, b2sA, b2sOf, bytesOf, mmA, srcA, appA, sliceA, lohi, mkslA, envA, ↓reduceIte, Nat.reduceEqDiff, Nat.reduceAdd, Nat.reduceMul, reduceCtorEq, Nat.reduceLeDiff, fB, fBools, fBlks, fSegs, aBlk, aSg, aSt, stRow, List.drop_zero, List.take_succ_cons, List.take_zero, List.take_nil, Nat.mul_one, Nat.one_mul, List.cons_append, List.nil_append]
      refine ⟨_, copyBytes_U fr b.data _ (hd b (List.mem_of_getElem? hb)), ?_⟩
      simp only [uB, hl, hcap, SS, boxA, cellsOf, foffA, loadA, ldA, idxA, fldA, binA, binVal, isSh, intVal, lenA, slenA, pickA, storeA, setN, getN, fillA, extA, beqA, eqsA, eqL, isnilA, unA, unVal, convA, nilA, sconvA, b2sA, b2sOf, bytesOf, mmA, srcA, appA, sliceA, lohi, mkslA, envA, ↓reduceIte, Nat.reduceEqDiff, Nat.reduceAdd, Nat.reduceMul, reduceCtorEq, Nat.reduceLeDiff, fB, fBools, fBlks, fSegs, aBlk, aSg, aSt, stRow, List.drop_zero, List.take_succ_cons, List.take_zero, List.take_nil, Nat.mul_one, Nat.one_mul, List.cons_append, List.nil_append]
      refine ⟨by rfl, famC_next (k + 1) (by omega) (by omega) ?_⟩
      refine Weak.calc [(1473, 0)] (by decide) ?_ ?_ <;> simp [tk_B, tk_Bools, tk_Blks, tk_Segs, AlL_append, renL_append, okL, okH, rowIs, okV, okHV, rowVt, vtL, okF, okHF, rowFz, fzL, fzV, fzOne, nilLike, oldLike, rn, s_envOf, s_envOf0, s_heapOf, s_heapOf0, s_put, s_put0, s_put1, s_app0, s_app1, Al, AlL, ren, renL, al_B, al_Bools, al_Blks, al_Segs, ren_B, ren_Bools, ren_Blks, ren_Segs, fB, fBools, fBlks, fSegs, okFU, okHFU, rowFzU, fzLU, fzVU, fzOneU, tk_ueBlks, tk_ueSegs, al_ueBlks, al_ueSegs, ren_ueBlks, ren_ueSegs, uB, uBools, uBlks, uSegs, snoc_ueBlks hb, ueBlk, wrap64 (x := (k : Int) + 1) (by omega)]
    · have e1 : ¬ ((k : Int) < (l.length : Int)) := by omega
      obtain rfl : k = l.length := by omega
      simp only [L_ofBU, e1, SS, boxA, cellsOf, foffA, loadA, ldA, idxA, fldA, binA, binVal, isSh, intVal, lenA, slenA, pickA, storeA, setN, getN, fillA, extA, beqA, eqsA, eqL, isnilA, unA, unVal, convA, nilA, sconvA, b2sA, b2sOf, bytesOf, mmA, srcA, appA, sliceA, lohi, mkslA, envA, ↓reduceIte, Nat.reduceEqDiff, Nat.reduceAdd, Nat.reduceMul, reduceCtorEq, Nat.reduceLeDiff, fB, fBools, fBlks, fSegs, aBlk, aSg, aSt, stRow, List.drop_zero, List.take_succ_cons, List.take_zero, List.take_nil, Nat.mul_one, Nat.one_mul, List.cons_append, List.nil_append]
      rw [List.take_length]
      refine Ends.weak (Weak.freezeUC 0 rfl (l := [(2, uBlks true l)]) (h := []) ?_ ?_) (Ends.data (.inr rfl) (by simp [resL, resOne, tupOf, getN, s_envOf, s_envOf0, s_heapOf, s_heapOf0, s_put1, s_app0, s_app1]) (al_uBlks l))
      · simp [tk_B, tk_Bools, tk_Blks, tk_Segs, AlL_append, renL_append, okL, okH, rowIs, okV, okHV, rowVt, vtL, okF, okHF, rowFz, fzL, fzV, fzOne, nilLike, oldLike, rn, s_envOf, s_envOf0, s_heapOf, s_heapOf0, s_put, s_put0, s_put1, s_app0, s_app1, Al, AlL, ren, renL, al_B, al_Bools, al_Blks, al_Segs, ren_B, ren_Bools, ren_Blks, ren_Segs, fB, fBools, fBlks, fSegs, okFU, okHFU, rowFzU, fzLU, fzVU, fzOneU, tk_ueBlks, tk_ueSegs, al_ueBlks, al_ueSegs, ren_ueBlks, ren_ueSegs, uB, uBools, uBlks, uSegs]
      · simp [tk_B, tk_Bools, tk_Blks, tk_Segs, AlL_append, renL_append, okL, okH, rowIs, okV, okHV, rowVt, vtL, okF, okHF, rowFz, fzL, fzV, fzOne, nilLike, oldLike, rn, s_envOf, s_envOf0, s_heapOf, s_heapOf0, s_put, s_put0, s_put1, s_app0, s_app1, Al, AlL, ren, renL, al_B, al_Bools, al_Blks, al_Segs, ren_B, ren_Bools, ren_Blks, ren_Segs, fB, fBools, fBlks, fSegs, okFU, okHFU, rowFzU, fzLU, fzVU, fzOneU, tk_ueBlks, tk_ueSegs, al_ueBlks, al_ueSegs, ren_ueBlks, ren_ueSegs, uB, uBools, uBlks, uSegs]
theorem ofSg_U (fr : Bool) (g : Sg) (nb : Nat) (h : g.blocks.length * 40 ≤ 140737488355328) (hd : ∀ b ∈ g.blocks, b.data.length ≤ 140737488355328) : ASound Try.prog 51 [aSg fr g] nb (.ret (uSg true g) []) := by
  refine ok_51.sound (by simp) ⟨al_aSg g, trivial⟩ ?_
  simp only [ac_51, SS, boxA, cellsOf, foffA, loadA, ldA, idxA, fldA, binA, binVal, isSh, intVal, lenA, slenA, pickA, storeA, setN, getN, fillA, extA, beqA, eqsA, eqL, isnilA, unA, unVal, convA, nilA, sconvA, b2sA, b2sOf, bytesOf, mmA, srcA, appA, sliceA, lohi, mkslA, envA, ↓reduceIte, Nat.reduceEqDiff, Nat.reduceAdd, Nat.reduceMul, reduceCtorEq, Nat.reduceLeDiff, fB, fBools, fBlks, fSegs, aBlk, aSg, aSt, stRow, List.drop_zero, List.take_succ_cons, List.take_zero, List.take_nil, Nat.mul_one, Nat.one_mul, List.cons_append, List.nil_append]
  refine ⟨_, ofBlocks_U fr g.blocks _ h hd, ?_⟩
  simp only [uBlks, SS, boxA, cellsOf, foffA, loadA, ldA, idxA, fldA, binA, binVal, isSh, intVal, lenA, slenA, pickA, storeA, setN, getN, fillA, extA, beqA, eqsA, eqL, isnilA, unA, unVal, convA, nilA, sconvA, b2sA, b2sOf, bytesOf, mmA, srcA, appA, sliceA, lohi, mkslA, envA, ↓reduceIte, Nat.reduceEqDiff, Nat.reduceAdd, Nat.reduceMul, reduceCtorEq, Nat.reduceLeDiff, fB, fBools, fBlks, fSegs, aBlk, aSg, aSt, stRow, List.drop_zero, List.take_succ_cons, List.take_zero, List.take_nil, Nat.mul_one, Nat.one_mul, List.cons_append, List.nil_append]
  refine ⟨by rfl, ?_⟩
  exact Ends.data (.inr rfl) (by simp [uSg, uBlks, resL, resOne, tupOf, getN, s_envOf, s_envOf0, s_heapOf, s_heapOf0, s_put1, s_app0, s_app1]) (al_uSg g)
abbrev L_ofU (fr : Bool) (s : St) (k : Nat) : ASt := ⟨envOf [(1, .op 0 0), (2, .op 1 0), (3, .op 2 0), (4, .v (.int .i64 k))],
  heapOf [(0, stRow 32 fr s), (1, .row true 36 [.v (.slice none 0 0), .v (.slice none 0 0), .v (.slice none 0 0), .v (.int .i64 0)]),
    (2, .row true 36 [.os 3 0 k 2, uBools true s.held, uBlks true s.opn, .v (.int .i64 s.next)]), (3, .row true 62 (ueSegs true (s.segs.take k)))], 4⟩
theorem ofSt_U (fr : Bool) (s : St) (nb : Nat) (h : SZ s) : ASound Try.prog 18 [aSt fr s] nb (.ret (uSt true s) []) := by
  refine ok_18.sound (by simp) ⟨al_aSt s, trivial⟩ ?_
  simp only [ac_18, SS, boxA, cellsOf, foffA, loadA, ldA, idxA, fldA, binA, binVal, isSh, intVal, lenA, slenA, pickA, storeA, setN, getN, fillA, extA, beqA, eqsA, eqL, isnilA, unA, unVal, convA, nilA, sconvA, b2sA, b2sOf, bytesOf, mmA, srcA, appA, sliceA, lohi, mkslA, envA, ↓reduceIte, Nat.reduceEqDiff, Nat.reduceAdd, Nat.reduceMul, reduceCtorEq, Nat.reduceLeDiff, fB, fBools, fBlks, fSegs, aBlk, aSg, aSt, stRow, List.drop_zero, List.take_succ_cons, List.take_zero, List.take_nil, Nat.mul_one, Nat.one_mul, List.cons_append, List.nil_append]
  refine ⟨_, copyBools_U fr s.held _ h.held, ?_⟩
  simp only [uBools, SS, boxA, cellsOf, foffA, loadA, ldA, idxA, fldA, binA, binVal, isSh, intVal, lenA, slenA, pickA, storeA, setN, getN, fillA, extA, beqA, eqsA, eqL, isnilA, unA, unVal, convA, nilA, sconvA, b2sA, b2sOf, bytesOf, mmA, srcA, appA, sliceA, lohi, mkslA, envA, ↓reduceIte, Nat.reduceEqDiff, Nat.reduceAdd, Nat.reduceMul, reduceCtorEq, Nat.reduceLeDiff, fB, fBools, fBlks, fSegs, aBlk, aSg, aSt, stRow, List.drop_zero, List.take_succ_cons, List.take_zero, List.take_nil, Nat.mul_one, Nat.one_mul, List.cons_append, List.nil_append]
  refine ⟨_, ofBlocks_U fr s.opn _ h.opn h.opnD, ?_⟩
  simp only [uBlks, SS, boxA, cellsOf, foffA, loadA, ldA, idxA, fldA, binA, binVal, isSh, intVal, lenA, slenA, pickA, storeA, setN, getN, fillA, extA, beqA, eqsA, eqL, isnilA, unA, unVal, convA, nilA, sconvA, b2sA, b2sOf, bytesOf, mmA, srcA, appA, sliceA, lohi, mkslA, envA, ↓reduceIte, Nat.reduceEqDiff, Nat.reduceAdd, Nat.reduceMul, reduceCtorEq, Nat.reduceLeDiff, fB, fBools, fBlks, fSegs, aBlk, aSg, aSt, stRow, List.drop_zero, List.take_succ_cons, List.take_zero, List.take_nil, Nat.mul_one, Nat.one_mul, List.cons_append, List.nil_append]
  refine ⟨by rfl, ?_⟩
  refine AWc.family (L_ofU fr s) (fun k => k ≤ s.segs.length) (fun k => s.segs.length - k) 0 (Nat.zero_le _) ?_ ?_
  · refine Weak.trans (Weak.virtC 62 2 (l := [(1, .op 0 0), (2, .op 64 0), (3, .op 704 0), (4, .v (.int .i64 0))])
      (h := [(0, stRow 32 fr s), (64, .row true 36 [.v (.slice none 0 0), .v (.slice none 0 0), .v (.slice none 0 0), .v (.int .i64 0)]), (704, .row true 36 [.os 896 0 0 2, uBools true s.held, uBlks true s.opn, .v (.int .i64 s.next)])]) ?_ ?_)
      (Weak.calc [(0, 0), (64, 1), (704, 2), (896, 3)] (by decide) ?_ ?_)
    all_goals simp [show ueSegs true [] = [] from rfl, tk_B, tk_Bools, tk_Blks, tk_Segs, AlL_append, renL_append, okL, okH, rowIs, okV, okHV, rowVt, vtL, okF, okHF, rowFz, fzL, fzV, fzOne, nilLike, oldLike, rn, s_envOf, s_envOf0, s_heapOf, s_heapOf0, s_put, s_put0, s_put1, s_app0, s_app1, Al, AlL, ren, renL, al_B, al_Bools, al_Blks, al_Segs, ren_B, ren_Bools, ren_Blks, ren_Segs, fB, fBools, fBlks, fSegs, okFU, okHFU, rowFzU, fzLU, fzVU, fzOneU, tk_ueBlks, tk_ueSegs, al_ueBlks, al_ueSegs, ren_ueBlks, ren_ueSegs, uB, uBools, uBlks, uSegs]
  · intro k hk
    by_cases hlt : k < s.segs.length
    · obtain ⟨g, hg, e1, e0⟩ := lt_at hlt
      obtain ⟨g0, g1⟩ := get_Segs (fr := fr) hg
      have hl : (ueSegs true (s.segs.take k)).length = k * 2 := by rw [len_ueSegs]; simp; omega
      have hcap : (k + 1) * 32 ≤ 140737488355328 := by have := h.segs; omega
      have hgm := List.mem_of_getElem? hg
      have e2 : k * 2 + 2 ≤ s.segs.length * 2 := by omega
      simp only [L_ofU, uBools, uBlks, g0, g1, e1, e0, e2, len_Segs, SS, boxA, cellsOf, foffA, loadA, ldA, idxA, fldA, binA, binVal, isSh, intVal, lenA, slenA, pickA, storeA, setN, getN, fillA, extA, beqA, eqsA, eqL, isnilA, unA, unVal, convA, nilA, sconvA, b2sA, b2sOf, bytesOf, mmA, srcA, appA, sliceA, lohi, mkslA, envA, ↓reduceIte, Nat.reduceEqDiff, Nat.reduceAdd, Nat.reduceMul, reduceCtorEq, Nat.reduceLeDiff, fB, fBools, fBlks, fSegs, aBlk, aSg, aSt, stRow, List.drop_zero, List.take_succ_cons, List.take_zero, List.take_nil, Nat.mul_one, Nat.one_mul, List.cons_append, List.nil_append]
      refine ⟨_, ofSg_U fr g _ (h.seg g hgm) (h.segD g hgm), ?_⟩
      simp only [uSg, uBlks, hl, hcap, SS, boxA, cellsOf, foffA, loadA, ldA, idxA, fldA, binA, binVal, isSh, intVal, lenA, slenA, pickA, storeA, setN, getN, fillA, extA, beqA, eqsA, eqL, isnilA, unA, unVal, convA, nilA, sconvA, b2sA, b2sOf, bytesOf, mmA, srcA, appA, sliceA, lohi, mkslA, envA, ↓reduceIte, Nat.reduceEqDiff, Nat.reduceAdd, Nat.reduceMul, reduceCtorEq, Nat.reduceLeDiff, fB, fBools, fBlks, fSegs, aBlk, aSg, aSt, stRow, List.drop_zero, List.take_succ_cons, List.take_zero, List.take_nil, Nat.mul_one, Nat.one_mul, List.cons_append, List.nil_append]
      refine ⟨by rfl, famC_next (k + 1) (by omega) (by omega) ?_⟩
      have := h.segs
      refine Weak.calc [(0, 0), (1, 1), (2, 2), (900, 3)] (by decide) ?_ ?_ <;> simp [tk_B, tk_Bools, tk_Blks, tk_Segs, AlL_append, renL_append, okL, okH, rowIs, okV, okHV, rowVt, vtL, okF, okHF, rowFz, fzL, fzV, fzOne, nilLike, oldLike, rn, s_envOf, s_envOf0, s_heapOf, s_heapOf0, s_put, s_put0, s_put1, s_app0, s_app1, Al, AlL, ren, renL, al_B, al_Bools, al_Blks, al_Segs, ren_B, ren_Bools, ren_Blks, ren_Segs, fB, fBools, fBlks, fSegs, okFU, okHFU, rowFzU, fzLU, fzVU, fzOneU, tk_ueBlks, tk_ueSegs, al_ueBlks, al_ueSegs, ren_ueBlks, ren_ueSegs, uB, uBools, uBlks, uSegs, snoc_ueSegs hg, ueSg, wrap64 (x := (k : Int) + 1) (by omega)]
    · have e1 : ¬ ((k : Int) < (s.segs.length : Int)) := by omega
      obtain rfl : k = s.segs.length := by omega
      simp only [L_ofU, uBools, uBlks, e1, SS, boxA, cellsOf, foffA, loadA, ldA, idxA, fldA, binA, binVal, isSh, intVal, lenA, slenA, pickA, storeA, setN, getN, fillA, extA, beqA, eqsA, eqL, isnilA, unA, unVal, convA, nilA, sconvA, b2sA, b2sOf, bytesOf, mmA, srcA, appA, sliceA, lohi, mkslA, envA, ↓reduceIte, Nat.reduceEqDiff, Nat.reduceAdd, Nat.reduceMul, reduceCtorEq, Nat.reduceLeDiff, fB, fBools, fBlks, fSegs, aBlk, aSg, aSt, stRow, List.drop_zero, List.take_succ_cons, List.take_zero, List.take_nil, Nat.mul_one, Nat.one_mul, List.cons_append, List.nil_append]
      rw [List.take_length]
      refine Ends.weak (Weak.freezeUC 3 rfl (l := [(2, .op 1 0)]) (h := [(1, .row true 36 [uSegs true s.segs, uBools true s.held, uBlks true s.opn, .v (.int .i64 s.next)])]) ?_ ?_) (Ends.data (.inr rfl) (by simp [uSt, resL, resOne, tupOf, getN, s_envOf, s_envOf0, s_heapOf, s_heapOf0, s_put1, s_app0, s_app1]) (al_uSt s))
      · simp [tk_B, tk_Bools, tk_Blks, tk_Segs, AlL_append, renL_append, okL, okH, rowIs, okV, okHV, rowVt, vtL, okF, okHF, rowFz, fzL, fzV, fzOne, nilLike, oldLike, rn, s_envOf, s_envOf0, s_heapOf, s_heapOf0, s_put, s_put0, s_put1, s_app0, s_app1, Al, AlL, ren, renL, al_B, al_Bools, al_Blks, al_Segs, ren_B, ren_Bools, ren_Blks, ren_Segs, fB, fBools, fBlks, fSegs, okFU, okHFU, rowFzU, fzLU, fzVU, fzOneU, tk_ueBlks, tk_ueSegs, al_ueBlks, al_ueSegs, ren_ueBlks, ren_ueSegs, uB, uBools, uBlks, uSegs]
      · simp [tk_B, tk_Bools, tk_Blks, tk_Segs, AlL_append, renL_append, okL, okH, rowIs, okV, okHV, rowVt, vtL, okF, okHF, rowFz, fzL, fzV, fzOne, nilLike, oldLike, rn, s_envOf, s_envOf0, s_heapOf, s_heapOf0, s_put, s_put0, s_put1, s_app0, s_app1, Al, AlL, ren, renL, al_B, al_Bools, al_Blks, al_Segs, ren_B, ren_Bools, ren_Blks, ren_Segs, fB, fBools, fBlks, fSegs, okFU, okHFU, rowFzU, fzLU, fzVU, fzOneU, tk_ueBlks, tk_ueSegs, al_ueBlks, al_ueSegs, ren_ueBlks, ren_ueSegs, uB, uBools, uBlks, uSegs]
end Go.Proofs.Ytfoeddmbhmfjcaa
