/- Merged texts: K1, Q4, Q5, Q6, Q7. -/
import Derived.Test.YtfoeddmbhmfjcaaXD
import Derived.Test.YtfoeddmbhmfjcaaProg
import Derived.Test.YtfoeddmbhmfjcaaXE
import Derived.Test.YtfoeddmbhmfjcaaXB
set_option linter.unusedSimpArgs false
set_option linter.unusedVariables false
/- Functions of the program, compiled. -/
namespace Go.Proofs.Ytfoeddmbhmfjcaa
set_option maxRecDepth 100000
def ac_66 : AC :=
(.seq (.reg false [⟨some 2, .mv (.const (.slice none 0 0)), none, [], []⟩] [0])
(.seq (.reg false [⟨some 3, .mv (.const (.slice none 0 0)), none, [], []⟩] [0, 3])
(.seq (.reg false [⟨some 4, .mv (.tmp 3), none, [3], []⟩,
    ⟨some 5, .mv (.tmp 0), none, [0], []⟩,
    ⟨some 6, .append 5 1 1 (.tmp 4) (.tmp 5), none, [4, 5], []⟩,
    ⟨some 2, .mv (.tmp 6), none, [6], []⟩] [2])
.ret)))
theorem ok_66 : FnOk Try.prog 66 7 ac_66 [.tmp 2] := ⟨Try.f66, Try.func66, by kernel_rfl, by kernel_rfl, by kernel_rfl, by kernel_rfl, by kernel_rfl⟩
def ac_60 : AC :=
(.seq (.reg false [⟨some 2, .mv (.const (.slice none 0 0)), none, [], []⟩] [0])
(.seq (.reg false [⟨some 3, .mv (.const (.slice none 0 0)), none, [], []⟩] [0, 3])
(.seq (.seq (.reg false [⟨some 4, .mv (.const (.int .i64 (0))), none, [], []⟩] [0, 3, 4])
(.block 0 (.loop (.seq (.seq (.reg false [⟨some 5, .mv (.tmp 4), none, [4], []⟩,
    ⟨some 6, .mv (.tmp 0), none, [0], []⟩,
    ⟨some 7, .len false (.tmp 6), none, [6], []⟩,
    ⟨some 8, .bin .lss (.tmp 5) (.tmp 7), none, [5, 7], []⟩] [0, 3, 4, 8])
(.cond (.tmp 8)
.skip
(.exit 0)))
(.seq (.block 1 (.reg true [⟨some 11, .mv (.tmp 3), none, [3], []⟩,
    ⟨some 12, .mv (.tmp 0), none, [0], []⟩,
    ⟨some 13, .mv (.tmp 4), none, [4], []⟩,
    ⟨some 14, .idx 3 (.tmp 12) (.tmp 13), none, [12, 13], [1, 2]⟩,
    ⟨some 15, .foff 0 (.tmp 14), none, [14], [3, 1, 2]⟩,
    ⟨some 16, .load false 1 (.tmp 15), none, [15], [4, 3, 1, 2]⟩,
    ⟨some 17, .mv (.tmp 0), none, [0], []⟩,
    ⟨some 18, .mv (.tmp 4), none, [4], []⟩,
    ⟨some 19, .idx 3 (.tmp 17) (.tmp 18), none, [17, 18], [6, 7]⟩,
    ⟨some 20, .foff 1 (.tmp 19), none, [19], [8, 6, 7]⟩,
    ⟨some 21, .load false 1 (.tmp 20), none, [20], [9, 8, 6, 7]⟩,
    ⟨some 22, .mv (.tmp 0), none, [0], []⟩,
    ⟨some 23, .mv (.tmp 4), none, [4], []⟩,
    ⟨some 24, .idx 3 (.tmp 22) (.tmp 23), none, [22, 23], [11, 12]⟩,
    ⟨some 25, .foff 2 (.tmp 24), none, [24], [13, 11, 12]⟩,
    ⟨some 26, .load false 1 (.tmp 25), none, [25], [14, 13, 11, 12]⟩,
    ⟨some 27, .call 66 [(.tmp 26)], none, [26], [15, 14, 13, 11, 12]⟩,
    ⟨some 28, .build [(.int .i64 (0)), (.int .i64 (0)), (.slice none 0 0)] [(0, 1, (.tmp 16)), (1, 1, (.tmp 21)), (2, 1, (.tmp 27))], none, [16, 21, 27], [5, 10, 16, 4, 3, 1, 2, 9, 8, 6, 7, 15, 14, 13, 11, 12]⟩,
    ⟨some 29, .bslice 55 3 1 [(.int .i64 (0)), (.int .i64 (0)), (.slice none 0 0)] [(0, 3, (.tmp 28))], none, [28], [17, 5, 10, 16, 4, 3, 1, 2, 9, 8, 6, 7, 15, 14, 13, 11, 12]⟩,
    ⟨some 30, .append 55 3 40 (.tmp 11) (.tmp 29), none, [11, 29], [0, 18, 16, 17, 5, 10, 4, 3, 1, 2, 9, 8, 6, 7, 15, 14, 13, 11, 12]⟩,
    ⟨some 3, .mv (.tmp 30), none, [30], [19, 0, 1, 2, 3, 4, 5, 6, 7, 8, 9, 10, 11, 12, 13, 14, 15, 16, 17, 18]⟩] [0, 3, 4]))
(.reg false [⟨some 9, .mv (.tmp 4), none, [4], []⟩,
    ⟨some 10, .bin .add (.tmp 9) (.const (.int .i64 (1))), none, [9], []⟩,
    ⟨some 4, .mv (.tmp 10), none, [10], []⟩] [0, 3, 4]))))))
(.seq (.reg false [⟨some 31, .mv (.tmp 3), none, [3], []⟩,
    ⟨some 2, .mv (.tmp 31), none, [31], []⟩] [2])
.ret))))
theorem ok_60 : FnOk Try.prog 60 32 ac_60 [.tmp 2] := ⟨Try.f60, Try.func60, by kernel_rfl, by kernel_rfl, by kernel_rfl, by kernel_rfl, by kernel_rfl⟩
def ac_55 : AC :=
(.seq (.reg false [⟨some 1, .box 32 (.tmp 0), none, [0], []⟩,
    ⟨some 2, .new 32 [(.slice none 0 0), (.slice none 0 0), (.slice none 0 0), (.int .i64 (0))], none, [], []⟩] [1, 2])
(.seq (.reg true [⟨some 5, .foff 3 (.tmp 1), none, [1], []⟩,
    ⟨some 6, .load false 1 (.tmp 5), none, [5], [0]⟩,
    ⟨some 7, .foff 2 (.tmp 1), none, [1], []⟩,
    ⟨some 8, .load false 1 (.tmp 7), none, [7], [2]⟩,
    ⟨some 9, .call 60 [(.tmp 8)], none, [8], [3, 2]⟩,
    ⟨some 10, .build [(.slice none 0 0), (.slice none 0 0), (.slice none 0 0), (.int .i64 (0))] [(3, 1, (.tmp 6)), (2, 1, (.tmp 9))], none, [6, 9], [1, 4, 0, 3, 2]⟩,
    ⟨some 3, .new 32 [(.slice none 0 0), (.slice none 0 0), (.slice none 0 0), (.int .i64 (0))], none, [], []⟩,
    ⟨none, .store 4 (.tmp 3) (.tmp 10), none, [3, 10], [6, 5, 4, 0, 1, 2, 3]⟩] [1, 2, 3])
(.seq (.reg false [⟨some 11, .foff 1 (.tmp 3), none, [3], []⟩,
    ⟨some 12, .load false 1 (.tmp 11), none, [11], []⟩,
    ⟨some 13, .foff 1 (.tmp 1), none, [1], []⟩,
    ⟨some 14, .load false 1 (.tmp 13), none, [13], []⟩,
    ⟨some 15, .append 4 1 1 (.tmp 12) (.tmp 14), none, [12, 14], []⟩,
    ⟨some 16, .foff 1 (.tmp 3), none, [3], []⟩,
    ⟨none, .store 1 (.tmp 16) (.tmp 15), none, [16, 15], []⟩] [1, 2, 3])
(.seq (.seq (.reg false [⟨some 4, .mv (.const (.int .i64 (0))), none, [], []⟩] [1, 2, 3, 4])
(.block 0 (.loop (.seq (.seq (.reg false [⟨some 17, .mv (.tmp 4), none, [4], []⟩,
    ⟨some 18, .foff 0 (.tmp 1), none, [1], []⟩,
    ⟨some 19, .load false 1 (.tmp 18), none, [18], []⟩,
    ⟨some 20, .len false (.tmp 19), none, [19], []⟩,
    ⟨some 21, .bin .lss (.tmp 17) (.tmp 20), none, [17, 20], []⟩] [1, 2, 3, 4, 21])
(.cond (.tmp 21)
.skip
(.exit 0)))
(.seq (.block 1 (.reg true [⟨some 24, .foff 0 (.tmp 3), none, [3], []⟩,
    ⟨some 25, .load false 1 (.tmp 24), none, [24], [0]⟩,
    ⟨some 26, .foff 0 (.tmp 1), none, [1], []⟩,
    ⟨some 27, .load false 1 (.tmp 26), none, [26], [2]⟩,
    ⟨some 28, .mv (.tmp 4), none, [4], []⟩,
    ⟨some 29, .idx 2 (.tmp 27) (.tmp 28), none, [27, 28], [3, 4, 2]⟩,
    ⟨some 30, .foff 0 (.tmp 29), none, [29], [5, 3, 4, 2]⟩,
    ⟨some 31, .load false 1 (.tmp 30), none, [30], [6, 5, 3, 4, 2]⟩,
    ⟨some 32, .foff 0 (.tmp 1), none, [1], []⟩,
    ⟨some 33, .load false 1 (.tmp 32), none, [32], [8]⟩,
    ⟨some 34, .mv (.tmp 4), none, [4], []⟩,
    ⟨some 35, .idx 2 (.tmp 33) (.tmp 34), none, [33, 34], [9, 10, 8]⟩,
    ⟨some 36, .foff 1 (.tmp 35), none, [35], [11, 9, 10, 8]⟩,
    ⟨some 37, .load false 1 (.tmp 36), none, [36], [12, 11, 9, 10, 8]⟩,
    ⟨some 38, .call 60 [(.tmp 37)], none, [37], [13, 12, 11, 9, 10, 8]⟩,
    ⟨some 39, .build [(.int .i64 (0)), (.slice none 0 0)] [(0, 1, (.tmp 31)), (1, 1, (.tmp 38))], none, [31, 38], [7, 14, 6, 5, 3, 4, 2, 13, 12, 11, 9, 10, 8]⟩,
    ⟨some 40, .bslice 69 2 1 [(.int .i64 (0)), (.slice none 0 0)] [(0, 2, (.tmp 39))], none, [39], [15, 7, 14, 6, 5, 3, 4, 2, 13, 12, 11, 9, 10, 8]⟩,
    ⟨some 41, .append 69 2 32 (.tmp 25) (.tmp 40), none, [25, 40], [1, 16, 14, 0, 15, 7, 6, 5, 3, 4, 2, 13, 12, 11, 9, 10, 8]⟩,
    ⟨some 42, .foff 0 (.tmp 3), none, [3], [0, 1, 2, 3, 4, 5, 6, 7, 8, 9, 10, 11, 12, 13, 14, 15, 16, 17]⟩,
    ⟨none, .store 1 (.tmp 42) (.tmp 41), none, [42, 41], [18, 17, 0, 1, 2, 3, 4, 5, 6, 7, 8, 9, 10, 11, 12, 13, 14, 15, 16]⟩] [1, 2, 3, 4]))
(.reg false [⟨some 22, .mv (.tmp 4), none, [4], []⟩,
    ⟨some 23, .bin .add (.tmp 22) (.const (.int .i64 (1))), none, [22], []⟩,
    ⟨some 4, .mv (.tmp 23), none, [23], []⟩] [1, 2, 3, 4]))))))
(.seq (.reg false [⟨some 43, .load true 4 (.tmp 3), none, [3], []⟩,
    ⟨none, .store 4 (.tmp 2) (.tmp 43), none, [2, 43], []⟩] [2])
.ret)))))
theorem ok_55 : FnOk Try.prog 55 44 ac_55 [.cell 2 true 4] := ⟨Try.f55, Try.func55, by kernel_rfl, by kernel_rfl, by kernel_rfl, by kernel_rfl, by kernel_rfl⟩
def ac_22 : AC :=
(.seq (.reg false [⟨some 2, .box 32 (.tmp 0), none, [0], []⟩,
    ⟨some 4, .mv (.const (.slice none 0 0)), none, [], []⟩,
    ⟨some 5, .mv (.const (.int .i64 (0))), none, [], []⟩] [1, 2])
(.seq (.reg false [⟨some 15, .load true 4 (.tmp 2), none, [2], []⟩,
    ⟨some 16, .mv (.tmp 1), none, [1], []⟩,
    ⟨some 17, .call 58 [(.tmp 15), (.tmp 16)], none, [15, 16], []⟩,
    ⟨some 6, .mv (.tmp 17), none, [17], []⟩] [1, 2, 6])
(.seq (.seq (.reg false [⟨some 18, .mv (.tmp 6), none, [6], []⟩,
    ⟨some 19, .bin .neq (.tmp 18) (.const (.int .i64 (0))), none, [18], []⟩] [1, 2, 6, 19])
(.cond (.tmp 19)
(.seq (.reg false [⟨some 20, .mv (.tmp 6), none, [6], []⟩,
    ⟨some 4, .mv (.const (.slice none 0 0)), none, [], []⟩,
    ⟨some 5, .mv (.tmp 20), none, [20], []⟩] [4, 5])
.ret)
.skip))
(.seq (.reg false [⟨some 7, .mv (.const (.slice none 0 0)), none, [], []⟩] [1, 2, 7])
(.seq (.reg false [⟨some 21, .foff 0 (.tmp 2), none, [2], []⟩,
    ⟨some 22, .load false 1 (.tmp 21), none, [21], []⟩,
    ⟨some 23, .mv (.tmp 1), none, [1], []⟩,
    ⟨some 24, .idx 2 (.tmp 22) (.tmp 23), none, [22, 23], []⟩,
    ⟨some 25, .load true 2 (.tmp 24), none, [24], []⟩,
    ⟨some 8, .new 69 [(.int .i64 (0)), (.slice none 0 0)], none, [], []⟩,
    ⟨none, .store 2 (.tmp 8) (.tmp 25), none, [8, 25], []⟩] [2, 7, 8])
(.seq (.seq (.reg false [⟨some 9, .mv (.const (.int .i64 (0))), none, [], []⟩] [2, 7, 8, 9])
(.block 0 (.loop (.seq (.seq (.reg false [⟨some 26, .mv (.tmp 9), none, [9], []⟩,
    ⟨some 27, .foff 1 (.tmp 8), none, [8], []⟩,
    ⟨some 28, .load false 1 (.tmp 27), none, [27], []⟩,
    ⟨some 29, .len false (.tmp 28), none, [28], []⟩,
    ⟨some 30, .bin .lss (.tmp 26) (.tmp 29), none, [26, 29], []⟩] [2, 7, 8, 9, 30])
(.cond (.tmp 30)
.skip
(.exit 0)))
(.seq (.block 1 (.seq (.reg false [⟨some 33, .foff 1 (.tmp 8), none, [8], []⟩,
    ⟨some 34, .load false 1 (.tmp 33), none, [33], []⟩,
    ⟨some 35, .mv (.tmp 9), none, [9], []⟩,
    ⟨some 36, .idx 3 (.tmp 34) (.tmp 35), none, [34, 35], []⟩,
    ⟨some 37, .load true 3 (.tmp 36), none, [36], []⟩,
    ⟨some 10, .new 55 [(.int .i64 (0)), (.int .i64 (0)), (.slice none 0 0)], none, [], []⟩,
    ⟨none, .store 3 (.tmp 10) (.tmp 37), none, [10, 37], []⟩] [2, 7, 8, 9, 10])
(.seq (.reg false [⟨some 39, .load true 4 (.tmp 2), none, [2], []⟩,
    ⟨some 40, .foff 0 (.tmp 10), none, [10], []⟩,
    ⟨some 41, .load false 1 (.tmp 40), none, [40], []⟩,
    ⟨some 42, .foff 1 (.tmp 10), none, [10], []⟩,
    ⟨some 43, .load false 1 (.tmp 42), none, [42], []⟩,
    ⟨some 44, .call 59 [(.tmp 39), (.tmp 41), (.tmp 43)], none, [39, 41, 43], []⟩,
    ⟨some 38, .mv (.tmp 44), none, [44], []⟩,
    ⟨some 45, .ext 0 (.tmp 38), none, [38], []⟩,
    ⟨some 46, .ext 1 (.tmp 38), none, [38], []⟩,
    ⟨some 47, .ext 2 (.tmp 38), none, [38], []⟩,
    ⟨some 48, .ext 3 (.tmp 38), none, [38], []⟩,
    ⟨some 11, .mv (.tmp 45), none, [45], []⟩,
    ⟨some 12, .mv (.tmp 46), none, [46], []⟩,
    ⟨some 13, .mv (.tmp 47), none, [47], []⟩,
    ⟨some 14, .mv (.tmp 48), none, [48], []⟩] [2, 7, 8, 9, 10, 11, 12, 14])
(.seq (.reg false [⟨some 49, .mv (.tmp 11), none, [11], []⟩,
    ⟨some 50, .foff 0 (.tmp 8), none, [8], []⟩,
    ⟨some 51, .load false 1 (.tmp 50), none, [50], []⟩,
    ⟨some 52, .bin .eql (.tmp 49) (.tmp 51), none, [49, 51], []⟩,
    ⟨some 53, .mv (.tmp 52), none, [52], []⟩,
    ⟨some 54, .mv (.tmp 12), some (53, true), [12, 53], []⟩,
    ⟨some 55, .mv (.tmp 9), some (53, true), [9, 53], []⟩,
    ⟨some 56, .bin .eql (.tmp 54) (.tmp 55), some (53, true), [54, 55, 53], []⟩,
    ⟨some 57, .pick (.tmp 53) (.tmp 56) (.const (.bool false)), none, [53, 56], []⟩,
    ⟨some 58, .mv (.tmp 57), none, [57], []⟩,
    ⟨some 59, .foff 2 (.tmp 10), some (58, true), [10, 58], []⟩,
    ⟨some 60, .load false 1 (.tmp 59), some (58, true), [59, 58], []⟩,
    ⟨some 61, .len false (.tmp 60), some (58, true), [60, 58], []⟩,
    ⟨some 62, .bin .gtr (.tmp 61) (.const (.int .i64 (0))), some (58, true), [61, 58], []⟩,
    ⟨some 63, .mv (.tmp 62), some (58, true), [62, 58], []⟩,
    ⟨some 64, .mv (.tmp 14), some (63, false), [14, 63], []⟩,
    ⟨some 65, .bin .gtr (.tmp 64) (.const (.int .i64 (1))), some (63, false), [64, 63], []⟩,
    ⟨some 66, .pick (.tmp 63) (.const (.bool true)) (.tmp 65), some (58, true), [63, 65, 58], []⟩,
    ⟨some 67, .pick (.tmp 58) (.tmp 66) (.const (.bool false)), none, [58, 66], []⟩] [2, 7, 8, 9, 10, 67])
(.cond (.tmp 67)
(.reg false [⟨some 68, .mv (.tmp 7), none, [7], []⟩,
    ⟨some 69, .load true 3 (.tmp 10), none, [10], []⟩,
    ⟨some 70, .bslice 55 3 1 [(.int .i64 (0)), (.int .i64 (0)), (.slice none 0 0)] [(0, 3, (.tmp 69))], none, [69], []⟩,
    ⟨some 71, .append 55 3 40 (.tmp 68) (.tmp 70), none, [68, 70], []⟩,
    ⟨some 7, .mv (.tmp 71), none, [71], []⟩] [2, 7, 8, 9])
.skip)))))
(.reg false [⟨some 31, .mv (.tmp 9), none, [9], []⟩,
    ⟨some 32, .bin .add (.tmp 31) (.const (.int .i64 (1))), none, [31], []⟩,
    ⟨some 9, .mv (.tmp 32), none, [32], []⟩] [2, 7, 8, 9]))))))
(.weak (.seq (.reg false [⟨some 72, .mv (.tmp 7), none, [7], []⟩,
    ⟨some 73, .call 60 [(.tmp 72)], none, [72], []⟩,
    ⟨some 4, .mv (.tmp 73), none, [73], []⟩,
    ⟨some 5, .mv (.const (.int .i64 (0))), none, [], []⟩] [4, 5])
.ret))))))))
theorem ok_22 : FnOk Try.prog 22 74 ac_22 [.tmp 4, .tmp 5] := ⟨Try.f22, Try.func22, by kernel_rfl, by kernel_rfl, by kernel_rfl, by kernel_rfl, by kernel_rfl⟩
def ac_20 : AC :=
(.seq (.reg false [⟨some 1, .box 32 (.tmp 0), none, [0], []⟩,
    ⟨some 2, .new 32 [(.slice none 0 0), (.slice none 0 0), (.slice none 0 0), (.int .i64 (0))], none, [], []⟩,
    ⟨some 3, .mv (.const (.int .i64 (0))), none, [], []⟩,
    ⟨some 4, .mv (.const (.int .i64 (0))), none, [], []⟩] [1, 2])
(.seq (.block 0 (.seq (.reg false [⟨some 8, .load true 4 (.tmp 1), none, [1], []⟩,
    ⟨some 9, .call 34 [(.tmp 8)], none, [8], []⟩,
    ⟨some 10, .bin .neq (.tmp 9) (.const (.int .i64 (0))), none, [9], []⟩,
    ⟨some 7, .mv (.tmp 10), none, [10], []⟩] [1, 2, 7])
(.cond (.tmp 7)
(.seq (.reg false [⟨some 11, .build [(.slice none 0 0), (.slice none 0 0), (.slice none 0 0), (.int .i64 (0))] [], none, [], []⟩,
    ⟨none, .store 4 (.tmp 2) (.tmp 11), none, [2, 11], []⟩,
    ⟨some 3, .mv (.const (.int .i64 (0))), none, [], []⟩,
    ⟨some 4, .mv (.const (.int .i64 (9))), none, [], []⟩] [2, 3, 4])
.ret)
(.seq (.reg false [⟨some 13, .foff 2 (.tmp 1), none, [1], []⟩,
    ⟨some 14, .load false 1 (.tmp 13), none, [13], []⟩,
    ⟨some 15, .len false (.tmp 14), none, [14], []⟩,
    ⟨some 16, .bin .eql (.tmp 15) (.const (.int .i64 (0))), none, [15], []⟩,
    ⟨some 12, .mv (.tmp 16), none, [16], []⟩] [1, 2, 12])
(.cond (.tmp 12)
(.seq (.reg false [⟨some 17, .build [(.slice none 0 0), (.slice none 0 0), (.slice none 0 0), (.int .i64 (0))] [], none, [], []⟩,
    ⟨none, .store 4 (.tmp 2) (.tmp 17), none, [2, 17], []⟩,
    ⟨some 3, .mv (.const (.int .i64 (0))), none, [], []⟩,
    ⟨some 4, .mv (.const (.int .i64 (71))), none, [], []⟩] [2, 3, 4])
.ret)
(.seq (.reg false [⟨some 19, .foff 3 (.tmp 1), none, [1], []⟩,
    ⟨some 20, .load false 1 (.tmp 19), none, [19], []⟩,
    ⟨some 21, .bin .geq (.tmp 20) (.const (.int .i64 (1099511627776))), none, [20], []⟩,
    ⟨some 18, .mv (.tmp 21), none, [21], []⟩] [1, 2, 18])
(.cond (.tmp 18)
(.seq (.reg false [⟨some 22, .build [(.slice none 0 0), (.slice none 0 0), (.slice none 0 0), (.int .i64 (0))] [], none, [], []⟩,
    ⟨none, .store 4 (.tmp 2) (.tmp 22), none, [2, 22], []⟩,
    ⟨some 3, .mv (.const (.int .i64 (0))), none, [], []⟩,
    ⟨some 4, .mv (.const (.int .i64 (51))), none, [], []⟩] [2, 3, 4])
.ret)
.skip)))))))
(.seq (.seq (.reg false [⟨some 5, .mv (.const (.int .i64 (0))), none, [], []⟩] [1, 2, 5])
(.block 1 (.loop (.seq (.seq (.reg false [⟨some 23, .mv (.tmp 5), none, [5], []⟩,
    ⟨some 24, .foff 0 (.tmp 1), none, [1], []⟩,
    ⟨some 25, .load false 1 (.tmp 24), none, [24], []⟩,
    ⟨some 26, .len false (.tmp 25), none, [25], []⟩,
    ⟨some 27, .bin .lss (.tmp 23) (.tmp 26), none, [23, 26], []⟩] [1, 2, 5, 27])
(.cond (.tmp 27)
.skip
(.exit 1)))
(.seq (.block 2 (.seq (.reg false [⟨some 30, .foff 0 (.tmp 1), none, [1], []⟩,
    ⟨some 31, .load false 1 (.tmp 30), none, [30], []⟩,
    ⟨some 32, .mv (.tmp 5), none, [5], []⟩,
    ⟨some 33, .idx 2 (.tmp 31) (.tmp 32), none, [31, 32], []⟩,
    ⟨some 34, .load true 2 (.tmp 33), none, [33], []⟩,
    ⟨some 35, .call 54 [(.tmp 34)], none, [34], []⟩,
    ⟨some 36, .mv (.tmp 35), none, [35], []⟩,
    ⟨some 37, .foff 1 (.tmp 1), some (36, true), [1, 36], []⟩,
    ⟨some 38, .load false 1 (.tmp 37), some (36, true), [37, 36], []⟩,
    ⟨some 39, .mv (.tmp 5), some (36, true), [5, 36], []⟩,
    ⟨some 40, .idx 1 (.tmp 38) (.tmp 39), some (36, true), [38, 39, 36], []⟩,
    ⟨some 41, .load false 1 (.tmp 40), some (36, true), [40, 36], []⟩,
    ⟨some 42, .un .not (.tmp 41), some (36, true), [41, 36], []⟩,
    ⟨some 43, .pick (.tmp 36) (.tmp 42) (.const (.bool false)), none, [36, 42], []⟩] [1, 2, 5, 43])
(.cond (.tmp 43)
(.seq (.reg false [⟨some 44, .load true 4 (.tmp 1), none, [1], []⟩,
    ⟨some 45, .call 55 [(.tmp 44)], none, [44], []⟩,
    ⟨some 6, .new 32 [(.slice none 0 0), (.slice none 0 0), (.slice none 0 0), (.int .i64 (0))], none, [], []⟩,
    ⟨none, .store 4 (.tmp 6) (.tmp 45), none, [6, 45], []⟩] [1, 2, 5, 6])
(.seq (.reg false [⟨some 46, .foff 0 (.tmp 6), none, [6], []⟩,
    ⟨some 47, .load false 1 (.tmp 46), none, [46], []⟩,
    ⟨some 48, .mv (.tmp 5), none, [5], []⟩,
    ⟨some 49, .foff 3 (.tmp 1), none, [1], []⟩,
    ⟨some 50, .load false 1 (.tmp 49), none, [49], []⟩,
    ⟨some 51, .foff 2 (.tmp 6), none, [6], []⟩,
    ⟨some 52, .load false 1 (.tmp 51), none, [51], []⟩,
    ⟨some 53, .build [(.int .i64 (0)), (.slice none 0 0)] [(0, 1, (.tmp 50)), (1, 1, (.tmp 52))], none, [50, 52], []⟩,
    ⟨some 54, .idx 2 (.tmp 47) (.tmp 48), none, [47, 48], []⟩,
    ⟨none, .store 2 (.tmp 54) (.tmp 53), none, [54, 53], []⟩] [2, 5, 6])
(.seq (.reg false [⟨some 55, .foff 2 (.tmp 6), none, [6], []⟩,
    ⟨none, .store 1 (.tmp 55) (.const (.slice none 0 0)), none, [55], []⟩] [2, 5, 6])
(.seq (.reg false [⟨some 56, .foff 3 (.tmp 6), none, [6], []⟩,
    ⟨some 57, .load false 1 (.tmp 56), none, [56], []⟩,
    ⟨some 58, .bin .add (.tmp 57) (.const (.int .i64 (1))), none, [57], []⟩,
    ⟨some 59, .foff 3 (.tmp 6), none, [6], []⟩,
    ⟨none, .store 1 (.tmp 59) (.tmp 58), none, [59, 58], []⟩] [2, 5, 6])
(.seq (.reg false [⟨some 60, .load true 4 (.tmp 6), none, [6], []⟩,
    ⟨some 61, .mv (.tmp 5), none, [5], []⟩,
    ⟨none, .store 4 (.tmp 2) (.tmp 60), none, [2, 60], []⟩,
    ⟨some 3, .mv (.tmp 61), none, [61], []⟩,
    ⟨some 4, .mv (.const (.int .i64 (0))), none, [], []⟩] [2, 3, 4])
.ret)))))
.skip)))
(.reg false [⟨some 28, .mv (.tmp 5), none, [5], []⟩,
    ⟨some 29, .bin .add (.tmp 28) (.const (.int .i64 (1))), none, [28], []⟩,
    ⟨some 5, .mv (.tmp 29), none, [29], []⟩] [1, 2, 5]))))))
(.seq (.reg false [⟨some 62, .build [(.slice none 0 0), (.slice none 0 0), (.slice none 0 0), (.int .i64 (0))] [], none, [], []⟩,
    ⟨none, .store 4 (.tmp 2) (.tmp 62), none, [2, 62], []⟩,
    ⟨some 3, .mv (.const (.int .i64 (0))), none, [], []⟩,
    ⟨some 4, .mv (.const (.int .i64 (51))), none, [], []⟩] [2, 3, 4])
.ret))))
theorem ok_20 : FnOk Try.prog 20 63 ac_20 [.cell 2 true 4, .tmp 3, .tmp 4] := ⟨Try.f20, Try.func20, by kernel_rfl, by kernel_rfl, by kernel_rfl, by kernel_rfl, by kernel_rfl⟩
def ac_24 : AC :=
(.seq (.reg false [⟨some 2, .box 32 (.tmp 0), none, [0], []⟩,
    ⟨some 4, .new 32 [(.slice none 0 0), (.slice none 0 0), (.slice none 0 0), (.int .i64 (0))], none, [], []⟩,
    ⟨some 5, .mv (.const (.int .i64 (0))), none, [], []⟩] [1, 2, 4])
(.seq (.reg false [⟨some 10, .load true 4 (.tmp 2), none, [2], []⟩,
    ⟨some 11, .mv (.tmp 1), none, [1], []⟩,
    ⟨some 12, .call 22 [(.tmp 10), (.tmp 11)], none, [10, 11], []⟩,
    ⟨some 9, .mv (.tmp 12), none, [12], []⟩,
    ⟨some 13, .ext 0 (.tmp 9), none, [9], []⟩,
    ⟨some 14, .ext 1 (.tmp 9), none, [9], []⟩,
    ⟨some 6, .mv (.tmp 13), none, [13], []⟩,
    ⟨some 7, .mv (.tmp 14), none, [14], []⟩] [1, 2, 4, 6, 7])
(.seq (.block 0 (.seq (.reg false [⟨some 16, .mv (.tmp 7), none, [7], []⟩,
    ⟨some 17, .bin .neq (.tmp 16) (.const (.int .i64 (0))), none, [16], []⟩,
    ⟨some 15, .mv (.tmp 17), none, [17], []⟩] [1, 2, 4, 6, 7, 15])
(.cond (.tmp 15)
(.seq (.reg false [⟨some 18, .build [(.slice none 0 0), (.slice none 0 0), (.slice none 0 0), (.int .i64 (0))] [], none, [], []⟩,
    ⟨some 19, .mv (.tmp 7), none, [7], []⟩,
    ⟨none, .store 4 (.tmp 4) (.tmp 18), none, [4, 18], []⟩,
    ⟨some 5, .mv (.tmp 19), none, [19], []⟩] [4, 5])
.ret)
(.seq (.reg false [⟨some 21, .mv (.tmp 6), none, [6], []⟩,
    ⟨some 22, .len false (.tmp 21), none, [21], []⟩,
    ⟨some 23, .bin .gtr (.tmp 22) (.const (.int .i64 (0))), none, [22], []⟩,
    ⟨some 20, .mv (.tmp 23), none, [23], []⟩] [1, 2, 4, 20])
(.cond (.tmp 20)
(.seq (.reg false [⟨some 24, .build [(.slice none 0 0), (.slice none 0 0), (.slice none 0 0), (.int .i64 (0))] [], none, [], []⟩,
    ⟨none, .store 4 (.tmp 4) (.tmp 24), none, [4, 24], []⟩,
    ⟨some 5, .mv (.const (.int .i64 (91))), none, [], []⟩] [4, 5])
.ret)
.skip)))))
(.seq (.reg false [⟨some 25, .load true 4 (.tmp 2), none, [2], []⟩,
    ⟨some 26, .call 55 [(.tmp 25)], none, [25], []⟩,
    ⟨some 8, .new 32 [(.slice none 0 0), (.slice none 0 0), (.slice none 0 0), (.int .i64 (0))], none, [], []⟩,
    ⟨none, .store 4 (.tmp 8) (.tmp 26), none, [8, 26], []⟩] [1, 4, 8])
(.seq (.reg false [⟨some 27, .foff 0 (.tmp 8), none, [8], []⟩,
    ⟨some 28, .load false 1 (.tmp 27), none, [27], []⟩,
    ⟨some 29, .mv (.tmp 1), none, [1], []⟩,
    ⟨some 30, .build [(.int .i64 (0)), (.slice none 0 0)] [], none, [], []⟩,
    ⟨some 31, .idx 2 (.tmp 28) (.tmp 29), none, [28, 29], []⟩,
    ⟨none, .store 2 (.tmp 31) (.tmp 30), none, [31, 30], []⟩] [4, 8])
(.seq (.reg false [⟨some 32, .load true 4 (.tmp 8), none, [8], []⟩,
    ⟨none, .store 4 (.tmp 4) (.tmp 32), none, [4, 32], []⟩,
    ⟨some 5, .mv (.const (.int .i64 (0))), none, [], []⟩] [4, 5])
.ret))))))
theorem ok_24 : FnOk Try.prog 24 33 ac_24 [.cell 4 true 4, .tmp 5] := ⟨Try.f24, Try.func24, by kernel_rfl, by kernel_rfl, by kernel_rfl, by kernel_rfl, by kernel_rfl⟩
def ac_31 : AC :=
(.seq (.reg false [⟨some 2, .box 32 (.tmp 0), none, [0], []⟩,
    ⟨some 3, .box 55 (.tmp 1), none, [1], []⟩,
    ⟨some 4, .new 32 [(.slice none 0 0), (.slice none 0 0), (.slice none 0 0), (.int .i64 (0))], none, [], []⟩,
    ⟨some 5, .mv (.const (.int .i64 (0))), none, [], []⟩] [2, 3, 4])
(.seq (.block 0 (.seq (.reg false [⟨some 8, .load true 4 (.tmp 2), none, [2], []⟩,
    ⟨some 9, .call 34 [(.tmp 8)], none, [8], []⟩,
    ⟨some 10, .bin .neq (.tmp 9) (.const (.int .i64 (0))), none, [9], []⟩,
    ⟨some 7, .mv (.tmp 10), none, [10], []⟩] [2, 3, 4, 7])
(.cond (.tmp 7)
(.seq (.reg false [⟨some 11, .build [(.slice none 0 0), (.slice none 0 0), (.slice none 0 0), (.int .i64 (0))] [], none, [], []⟩,
    ⟨none, .store 4 (.tmp 4) (.tmp 11), none, [4, 11], []⟩,
    ⟨some 5, .mv (.const (.int .i64 (9))), none, [], []⟩] [4, 5])
.ret)
(.seq (.reg false [⟨some 13, .load true 3 (.tmp 3), none, [3], []⟩,
    ⟨some 14, .call 65 [(.tmp 13)], none, [13], []⟩,
    ⟨some 15, .un .not (.tmp 14), none, [14], []⟩,
    ⟨some 12, .mv (.tmp 15), none, [15], []⟩] [2, 3, 4, 12])
(.cond (.tmp 12)
(.seq (.reg false [⟨some 16, .build [(.slice none 0 0), (.slice none 0 0), (.slice none 0 0), (.int .i64 (0))] [], none, [], []⟩,
    ⟨none, .store 4 (.tmp 4) (.tmp 16), none, [4, 16], []⟩,
    ⟨some 5, .mv (.const (.int .i64 (1))), none, [], []⟩] [4, 5])
.ret)
(.seq (.reg false [⟨some 18, .foff 2 (.tmp 2), none, [2], []⟩,
    ⟨some 19, .load false 1 (.tmp 18), none, [18], []⟩,
    ⟨some 20, .len false (.tmp 19), none, [19], []⟩,
    ⟨some 21, .bin .geq (.tmp 20) (.const (.int .i64 (8))), none, [20], []⟩,
    ⟨some 17, .mv (.tmp 21), none, [21], []⟩] [2, 3, 4, 17])
(.cond (.tmp 17)
(.seq (.reg false [⟨some 22, .build [(.slice none 0 0), (.slice none 0 0), (.slice none 0 0), (.int .i64 (0))] [], none, [], []⟩,
    ⟨none, .store 4 (.tmp 4) (.tmp 22), none, [4, 22], []⟩,
    ⟨some 5, .mv (.const (.int .i64 (51))), none, [], []⟩] [4, 5])
.ret)
.skip)))))))
(.seq (.reg false [⟨some 23, .load true 4 (.tmp 2), none, [2], []⟩,
    ⟨some 24, .call 55 [(.tmp 23)], none, [23], []⟩,
    ⟨some 6, .new 32 [(.slice none 0 0), (.slice none 0 0), (.slice none 0 0), (.int .i64 (0))], none, [], []⟩,
    ⟨none, .store 4 (.tmp 6) (.tmp 24), none, [6, 24], []⟩] [3, 4, 6])
(.seq (.reg true [⟨some 25, .foff 2 (.tmp 6), none, [6], []⟩,
    ⟨some 26, .load false 1 (.tmp 25), none, [25], [0]⟩,
    ⟨some 27, .foff 0 (.tmp 3), none, [3], []⟩,
    ⟨some 28, .load false 1 (.tmp 27), none, [27], [2]⟩,
    ⟨some 29, .foff 1 (.tmp 3), none, [3], []⟩,
    ⟨some 30, .load false 1 (.tmp 29), none, [29], [4]⟩,
    ⟨some 31, .foff 2 (.tmp 3), none, [3], []⟩,
    ⟨some 32, .load false 1 (.tmp 31), none, [31], [6]⟩,
    ⟨some 33, .call 66 [(.tmp 32)], none, [32], [7, 6]⟩,
    ⟨some 34, .build [(.int .i64 (0)), (.int .i64 (0)), (.slice none 0 0)] [(0, 1, (.tmp 28)), (1, 1, (.tmp 30)), (2, 1, (.tmp 33))], none, [28, 30, 33], [3, 5, 8, 2, 4, 7, 6]⟩,
    ⟨some 35, .bslice 55 3 1 [(.int .i64 (0)), (.int .i64 (0)), (.slice none 0 0)] [(0, 3, (.tmp 34))], none, [34], [9, 3, 5, 8, 2, 4, 7, 6]⟩,
    ⟨some 36, .append 55 3 40 (.tmp 26) (.tmp 35), none, [26, 35], [1, 10, 8, 0, 9, 3, 5, 2, 4, 7, 6]⟩,
    ⟨some 37, .foff 2 (.tmp 6), none, [6], [0, 1, 2, 3, 4, 5, 6, 7, 8, 9, 10, 11]⟩,
    ⟨none, .store 1 (.tmp 37) (.tmp 36), none, [37, 36], [12, 11, 0, 1, 2, 3, 4, 5, 6, 7, 8, 9, 10]⟩] [4, 6])
(.seq (.reg false [⟨some 38, .load true 4 (.tmp 6), none, [6], []⟩,
    ⟨none, .store 4 (.tmp 4) (.tmp 38), none, [4, 38], []⟩,
    ⟨some 5, .mv (.const (.int .i64 (0))), none, [], []⟩] [4, 5])
.ret)))))
theorem ok_31 : FnOk Try.prog 31 39 ac_31 [.cell 4 true 4, .tmp 5] := ⟨Try.f31, Try.func31, by kernel_rfl, by kernel_rfl, by kernel_rfl, by kernel_rfl, by kernel_rfl⟩
end Go.Proofs.Ytfoeddmbhmfjcaa
/- The page's copies: Copied, OwnBlocks, Own. -/
namespace Go.Proofs.Ytfoeddmbhmfjcaa
open Go.RowKit
set_option maxRecDepth 100000
theorem copied_spec (fr : Bool) (d : List Int) (nb : Nat) (h : d.length ≤ 140737488355328) : ASound Try.prog 66 [fB fr d] nb (.ret (fB true d) []) := by
  refine ok_66.sound (by simp) ⟨al_fB d, trivial⟩ ?_
  simp only [ac_66, len_B, h, SS, boxA, cellsOf, foffA, loadA, ldA, idxA, fldA, binA, binVal, isSh, intVal, lenA, slenA, pickA, storeA, setN, getN, fillA, extA, beqA, eqsA, eqL, isnilA, unA, unVal, convA, nilA, sconvA, b2sA, b2sOf, bytesOf, mmA, srcA, appA, sliceA, lohi, mkslA, envA, ↓reduceIte, Nat.reduceEqDiff, Nat.reduceAdd, Nat.reduceMul, reduceCtorEq, Nat.reduceLeDiff, fB, fBools, fBlks, fSegs, aBlk, aSg, aSt, stRow, List.drop_zero, List.take_succ_cons, List.take_zero, List.take_nil, Nat.mul_one, Nat.one_mul, List.cons_append, List.nil_append]
  refine Ends.weak (Weak.freezeC 256 rfl (l := [(2, .fs true (eB d) d.length)]) (h := []) ?_ ?_) (Ends.data (.inr rfl) (by simp [resL, resOne, tupOf, getN, s_envOf, s_envOf0, s_heapOf, s_heapOf0, s_put1, s_app0, s_app1]) (al_fB d))
  · simp [tk_B, tk_Bools, tk_Blks, tk_Segs, AlL_append, renL_append, okL, okH, rowIs, okV, okHV, rowVt, vtL, okF, okHF, rowFz, fzL, fzV, fzOne, nilLike, oldLike, rn, s_envOf, s_envOf0, s_heapOf, s_heapOf0, s_put, s_put0, s_put1, s_app0, s_app1, Al, AlL, ren, renL, al_B, al_Bools, al_Blks, al_Segs, ren_B, ren_Bools, ren_Blks, ren_Segs, fB, fBools, fBlks, fSegs]
  · simp [tk_B, tk_Bools, tk_Blks, tk_Segs, AlL_append, renL_append, okL, okH, rowIs, okV, okHV, rowVt, vtL, okF, okHF, rowFz, fzL, fzV, fzOne, nilLike, oldLike, rn, s_envOf, s_envOf0, s_heapOf, s_heapOf0, s_put, s_put0, s_put1, s_app0, s_app1, Al, AlL, ren, renL, al_B, al_Bools, al_Blks, al_Segs, ren_B, ren_Bools, ren_Blks, ren_Segs, fB, fBools, fBlks, fSegs]
abbrev L_ownB (fr : Bool) (l : List Blk) (k : Nat) : ASt := ⟨envOf [(0, fBlks fr l), (3, .os 0 0 k 3), (4, .v (.int .i64 k))], heapOf [(0, .row true 55 (eBlks true (l.take k)))], 1⟩
theorem ownBlocks_gen (fr : Bool) (l : List Blk) (nb : Nat) (h : l.length * 40 ≤ 140737488355328) (hd : ∀ b ∈ l, b.data.length ≤ 140737488355328) {r : AV} {W : List (Nat × Option AObj)}
    (he : ∀ nx, Ends 32 [.tmp 2] nb r W .ret ⟨envOf [(2, .os 0 0 l.length 3)], heapOf [(0, .row true 55 (eBlks true l))], nx⟩) : ASound Try.prog 60 [fBlks fr l] nb (.ret r W) := by
  refine ok_60.sound (by simp) ⟨al_fBlks l, trivial⟩ ?_
  simp only [ac_60, SS, boxA, cellsOf, foffA, loadA, ldA, idxA, fldA, binA, binVal, isSh, intVal, lenA, slenA, pickA, storeA, setN, getN, fillA, extA, beqA, eqsA, eqL, isnilA, unA, unVal, convA, nilA, sconvA, b2sA, b2sOf, bytesOf, mmA, srcA, appA, sliceA, lohi, mkslA, envA, ↓reduceIte, Nat.reduceEqDiff, Nat.reduceAdd, Nat.reduceMul, reduceCtorEq, Nat.reduceLeDiff, fB, fBools, fBlks, fSegs, aBlk, aSg, aSt, stRow, List.drop_zero, List.take_succ_cons, List.take_zero, List.take_nil, Nat.mul_one, Nat.one_mul, List.cons_append, List.nil_append]
  refine AWc.family (L_ownB fr l) (fun k => k ≤ l.length) (fun k => l.length - k) 0 (Nat.zero_le _) ?_ ?_
  · refine Weak.trans (Weak.virtC 55 3 (l := [(0, fBlks fr l), (3, .os 192 0 0 3), (4, .v (.int .i64 0))]) (h := []) ?_ ?_) (Weak.calc [(192, 0)] (by decide) ?_ ?_)
    all_goals simp [show eBlks true [] = [] from rfl, tk_B, tk_Bools, tk_Blks, tk_Segs, AlL_append, renL_append, okL, okH, rowIs, okV, okHV, rowVt, vtL, okF, okHF, rowFz, fzL, fzV, fzOne, nilLike, oldLike, rn, s_envOf, s_envOf0, s_heapOf, s_heapOf0, s_put, s_put0, s_put1, s_app0, s_app1, Al, AlL, ren, renL, al_B, al_Bools, al_Blks, al_Segs, ren_B, ren_Bools, ren_Blks, ren_Segs, fB, fBools, fBlks, fSegs]
  · intro k hk
    by_cases hlt : k < l.length
    · obtain ⟨b, hb, e1, e0⟩ := lt_at hlt
      obtain ⟨g0, g1, g2, g3⟩ := get_Blks3 (fr := fr) hb
      have hl : (eBlks true (l.take k)).length = k * 3 := by rw [len_Blks]; simp; omega
      have hcap : (k + 1) * 40 ≤ 140737488355328 := by omega
      simp only [L_ownB, g0, g1, g3, e1, e0, SS, boxA, cellsOf, foffA, loadA, ldA, idxA, fldA, binA, binVal, isSh, intVal, lenA, slenA, pickA, storeA, setN, getN, fillA, extA, beqA, eqsA, eqL, isnilA, unA, unVal, convA, nilA, sconvA, b2sA, b2sOf, bytesOf, mmA, srcA, appA, sliceA, lohi, mkslA, envA, ↓reduceIte, Nat.reduceEqDiff, Nat.reduceAdd, Nat.reduceMul, reduceCtorEq, Nat.reduceLeDiff, fB, fBools, fBlks, fSegs, aBlk, aSg, aSt, stRow, List.drop_zero, List.take_succ_cons, List.take_zero, List.take_nil, Nat.mul_one, Nat.one_mul, List.cons_append, List.nil_append]
      refine ⟨_, copied_spec fr b.data _ (hd b (List.mem_of_getElem? hb)), ?_⟩
      simp only [hl, hcap, SS, boxA, cellsOf, foffA, loadA, ldA, idxA, fldA, binA, binVal, isSh, intVal, lenA, slenA, pickA, storeA, setN, getN, fillA, extA, beqA, eqsA, eqL, isnilA, unA, unVal, convA, nilA, sconvA, b2sA, b2sOf, bytesOf, mmA, srcA, appA, sliceA, lohi, mkslA, envA, ↓reduceIte, Nat.reduceEqDiff, Nat.reduceAdd, Nat.reduceMul, reduceCtorEq, Nat.reduceLeDiff, fB, fBools, fBlks, fSegs, aBlk, aSg, aSt, stRow, List.drop_zero, List.take_succ_cons, List.take_zero, List.take_nil, Nat.mul_one, Nat.one_mul, List.cons_append, List.nil_append]
      refine ⟨by rfl, famC_next (k + 1) (by omega) (by omega) ?_⟩
      refine Weak.calc [(1473, 0)] (by decide) ?_ ?_ <;> simp [tk_B, tk_Bools, tk_Blks, tk_Segs, AlL_append, renL_append, okL, okH, rowIs, okV, okHV, rowVt, vtL, okF, okHF, rowFz, fzL, fzV, fzOne, nilLike, oldLike, rn, s_envOf, s_envOf0, s_heapOf, s_heapOf0, s_put, s_put0, s_put1, s_app0, s_app1, Al, AlL, ren, renL, al_B, al_Bools, al_Blks, al_Segs, ren_B, ren_Bools, ren_Blks, ren_Segs, fB, fBools, fBlks, fSegs, snoc_Blks hb, eBlk, wrap64 (x := (k : Int) + 1) (by omega)]
    · have e1 : ¬ ((k : Int) < (l.length : Int)) := by omega
      obtain rfl : k = l.length := by omega
      simp only [L_ownB, e1, SS, boxA, cellsOf, foffA, loadA, ldA, idxA, fldA, binA, binVal, isSh, intVal, lenA, slenA, pickA, storeA, setN, getN, fillA, extA, beqA, eqsA, eqL, isnilA, unA, unVal, convA, nilA, sconvA, b2sA, b2sOf, bytesOf, mmA, srcA, appA, sliceA, lohi, mkslA, envA, ↓reduceIte, Nat.reduceEqDiff, Nat.reduceAdd, Nat.reduceMul, reduceCtorEq, Nat.reduceLeDiff, fB, fBools, fBlks, fSegs, aBlk, aSg, aSt, stRow, List.drop_zero, List.take_succ_cons, List.take_zero, List.take_nil, Nat.mul_one, Nat.one_mul, List.cons_append, List.nil_append]
      rw [List.take_length]
      exact he _
theorem ownBlocks_spec (fr : Bool) (l : List Blk) (nb : Nat) (h : l.length * 40 ≤ 140737488355328) (hd : ∀ b ∈ l, b.data.length ≤ 140737488355328) : ASound Try.prog 60 [fBlks fr l] nb (.ret (fBlks true l) []) := by
  refine ownBlocks_gen fr l nb h hd fun nx => ?_
  refine Ends.weak (Weak.freezeC 0 rfl (l := [(2, .fs true (eBlks true l) l.length)]) (h := []) ?_ ?_) (Ends.data (.inr rfl) (by simp [fBlks, resL, resOne, tupOf, getN, s_envOf, s_envOf0, s_heapOf, s_heapOf0, s_put1, s_app0, s_app1]) (al_fBlks l))
  · simp [tk_B, tk_Bools, tk_Blks, tk_Segs, AlL_append, renL_append, okL, okH, rowIs, okV, okHV, rowVt, vtL, okF, okHF, rowFz, fzL, fzV, fzOne, nilLike, oldLike, rn, s_envOf, s_envOf0, s_heapOf, s_heapOf0, s_put, s_put0, s_put1, s_app0, s_app1, Al, AlL, ren, renL, al_B, al_Bools, al_Blks, al_Segs, ren_B, ren_Bools, ren_Blks, ren_Segs, fB, fBools, fBlks, fSegs]
  · simp [tk_B, tk_Bools, tk_Blks, tk_Segs, AlL_append, renL_append, okL, okH, rowIs, okV, okHV, rowVt, vtL, okF, okHF, rowFz, fzL, fzV, fzOne, nilLike, oldLike, rn, s_envOf, s_envOf0, s_heapOf, s_heapOf0, s_put, s_put0, s_put1, s_app0, s_app1, Al, AlL, ren, renL, al_B, al_Bools, al_Blks, al_Segs, ren_B, ren_Bools, ren_Blks, ren_Segs, fB, fBools, fBlks, fSegs]
theorem ownBlocks_os (fr : Bool) (l : List Blk) (nb : Nat) (h : l.length * 40 ≤ 140737488355328) (hd : ∀ b ∈ l, b.data.length ≤ 140737488355328) : ASound Try.prog 60 [fBlks fr l] nb (.ret (.os nb 0 l.length 3) [(nb, some (.row true 55 (eBlks true l)))]) :=
  ownBlocks_gen fr l nb h hd fun nx => Ends.rows1 (i := 0) (.inr rfl) (by simp [resL, resOne, tupOf, getN, s_envOf, s_envOf0, s_heapOf, s_heapOf0, s_put1, s_app0, s_app1]; rfl) rfl (al_Blks l) (by simp [Al]) (by simp [ren, rn])
end Go.Proofs.Ytfoeddmbhmfjcaa
/- The page's Own. -/
namespace Go.Proofs.Ytfoeddmbhmfjcaa
open Go.RowKit
set_option maxRecDepth 100000
/-- the bounds of a state that may be -/
structure RB (s : St) : Prop where
  n64 : s.segs.length ≤ 64
  held : s.held.length ≤ 64
  opn : s.opn.length ≤ 8
  opnD : ∀ b ∈ s.opn, b.data.length ≤ 32
  seg : ∀ g ∈ s.segs, g.blocks.length ≤ 8
  segD : ∀ g ∈ s.segs, ∀ b ∈ g.blocks, b.data.length ≤ 32
theorem mayB'_len {b : Blk} (h : mayB' b = true) : b.data.length ≤ 32 := by simp [mayB'] at h; omega
theorem rchk_RB {s : St} (h : rchk s = true) : RB s := by
  simp only [rchk, Bool.and_eq_true, rHead, decide_eq_true_eq, List.all_eq_true] at h
  obtain ⟨⟨h1, h2⟩, h3⟩ := h
  have seg : ∀ g ∈ s.segs, g.blocks.length ≤ 8 ∧ ∀ b ∈ g.blocks, b.data.length ≤ 32 := by
    intro g hg
    obtain ⟨i, hi, rfl⟩ := List.mem_iff_getElem.1 hg
    have h4 := h2 i (List.mem_range.2 hi)
    rw [segOkAt, List.getElem?_eq_getElem hi] at h4
    simp only [Bool.or_eq_true, Bool.and_eq_true] at h4
    rcases h4 with h4 | ⟨⟨h4, _⟩, _⟩
    · simp only [freeB', decide_eq_true_eq] at h4
      have : s.segs[i].blocks = [] := List.eq_nil_of_length_eq_zero h4.2
      rw [this]; simp
    · simp only [sgOk', Bool.and_eq_true, decide_eq_true_eq, List.all_eq_true] at h4
      exact ⟨by omega, fun b hb => mayB'_len (h4.2 b hb)⟩
  exact ⟨by omega, by omega, by omega, fun b hb => mayB'_len (h3 b hb), fun g hg => (seg g hg).1, fun g hg => (seg g hg).2⟩
abbrev L_own (fr : Bool) (s : St) (k : Nat) : ASt := ⟨envOf [(1, .op 0 0), (2, .op 1 0), (3, .op 2 0), (4, .v (.int .i64 k))],
  heapOf [(0, stRow 32 fr s), (1, .row true 32 [.v (.slice none 0 0), .v (.slice none 0 0), .v (.slice none 0 0), .v (.int .i64 0)]),
    (2, .row true 32 [.os 3 0 k 2, fBools true s.held, .os 4 0 s.opn.length 3, .v (.int .i64 s.next)]), (3, .row true 69 (eSegs true (s.segs.take k))), (4, .row true 55 (eBlks true s.opn))], 5⟩
/-- in memory of its own: the rows of segments and of what is open, and data -/
theorem rOwn_os (fr : Bool) (s : St) (nb : Nat) (h : RB s) : ASound Try.prog 55 [aSt fr s] nb
    (.ret (.agg [.os nb 0 s.segs.length 2, fBools true s.held, .os (nb + 1) 0 s.opn.length 3, .v (.int .i64 s.next)]) [(nb, some (.row true 69 (eSegs true s.segs))), (nb + 1, some (.row true 55 (eBlks true s.opn)))]) := by
  have hH : s.held.length ≤ 140737488355328 := by have := h.held; omega
  refine ok_55.sound (by simp) ⟨al_aSt s, trivial⟩ ?_
  simp only [ac_55, SS, boxA, cellsOf, foffA, loadA, ldA, idxA, fldA, binA, binVal, isSh, intVal, lenA, slenA, pickA, storeA, setN, getN, fillA, extA, beqA, eqsA, eqL, isnilA, unA, unVal, convA, nilA, sconvA, b2sA, b2sOf, bytesOf, mmA, srcA, appA, sliceA, lohi, mkslA, envA, ↓reduceIte, Nat.reduceEqDiff, Nat.reduceAdd, Nat.reduceMul, reduceCtorEq, Nat.reduceLeDiff, fB, fBools, fBlks, fSegs, aBlk, aSg, aSt, stRow, List.drop_zero, List.take_succ_cons, List.take_zero, List.take_nil, Nat.mul_one, Nat.one_mul, List.cons_append, List.nil_append]
  refine ⟨_, ownBlocks_os fr s.opn _ (by have := h.opn; omega) (fun b hb => by have := h.opnD b hb; omega), ?_⟩
  simp only [len_Bools, hH, SS, boxA, cellsOf, foffA, loadA, ldA, idxA, fldA, binA, binVal, isSh, intVal, lenA, slenA, pickA, storeA, setN, getN, fillA, extA, beqA, eqsA, eqL, isnilA, unA, unVal, convA, nilA, sconvA, b2sA, b2sOf, bytesOf, mmA, srcA, appA, sliceA, lohi, mkslA, envA, ↓reduceIte, Nat.reduceEqDiff, Nat.reduceAdd, Nat.reduceMul, reduceCtorEq, Nat.reduceLeDiff, fB, fBools, fBlks, fSegs, aBlk, aSg, aSt, stRow, List.drop_zero, List.take_succ_cons, List.take_zero, List.take_nil, Nat.mul_one, Nat.one_mul, List.cons_append, List.nil_append]
  refine ⟨by rfl, ?_⟩
  refine AWc.family (L_own fr s) (fun k => k ≤ s.segs.length) (fun k => s.segs.length - k) 0 (Nat.zero_le _) ?_ ?_
  · refine Weak.trans (Weak.freezeC 896 rfl (l := [(1, .op 0 0), (2, .op 64 0), (3, .op 512 0), (4, .v (.int .i64 0))])
      (h := [(0, stRow 32 fr s), (64, .row true 32 [.v (.slice none 0 0), .v (.slice none 0 0), .v (.slice none 0 0), .v (.int .i64 0)]), (512, .row true 32 [.v (.slice none 0 0), fBools true s.held, .os 384 0 s.opn.length 3, .v (.int .i64 s.next)]), (384, .row true 55 (eBlks true s.opn))]) ?_ ?_)
      (Weak.trans (Weak.virtC 69 2 (l := [(1, .op 0 0), (2, .op 64 0), (3, .op 512 0), (4, .v (.int .i64 0))])
      (h := [(0, stRow 32 fr s), (64, .row true 32 [.v (.slice none 0 0), .v (.slice none 0 0), .v (.slice none 0 0), .v (.int .i64 0)]), (512, .row true 32 [.os 1152 0 0 2, fBools true s.held, .os 384 0 s.opn.length 3, .v (.int .i64 s.next)]), (384, .row true 55 (eBlks true s.opn))]) ?_ ?_)
      (Weak.calc [(0, 0), (64, 1), (512, 2), (1152, 3), (384, 4)] (by decide) ?_ ?_))
    all_goals simp [show eSegs true [] = [] from rfl, tk_B, tk_Bools, tk_Blks, tk_Segs, AlL_append, renL_append, okL, okH, rowIs, okV, okHV, rowVt, vtL, okF, okHF, rowFz, fzL, fzV, fzOne, nilLike, oldLike, rn, s_envOf, s_envOf0, s_heapOf, s_heapOf0, s_put, s_put0, s_put1, s_app0, s_app1, Al, AlL, ren, renL, al_B, al_Bools, al_Blks, al_Segs, ren_B, ren_Bools, ren_Blks, ren_Segs, fB, fBools, fBlks, fSegs]
  · intro k hk
    by_cases hlt : k < s.segs.length
    · obtain ⟨g, hg, e1, e0⟩ := lt_at hlt
      obtain ⟨g0, g1⟩ := get_Segs (fr := fr) hg
      have hl : (eSegs true (s.segs.take k)).length = k * 2 := by rw [len_Segs]; simp; omega
      have hcap : (k + 1) * 32 ≤ 140737488355328 := by have := h.n64; omega
      have hgm := List.mem_of_getElem? hg
      simp only [L_own, g0, g1, e1, e0, SS, boxA, cellsOf, foffA, loadA, ldA, idxA, fldA, binA, binVal, isSh, intVal, lenA, slenA, pickA, storeA, setN, getN, fillA, extA, beqA, eqsA, eqL, isnilA, unA, unVal, convA, nilA, sconvA, b2sA, b2sOf, bytesOf, mmA, srcA, appA, sliceA, lohi, mkslA, envA, ↓reduceIte, Nat.reduceEqDiff, Nat.reduceAdd, Nat.reduceMul, reduceCtorEq, Nat.reduceLeDiff, fB, fBools, fBlks, fSegs, aBlk, aSg, aSt, stRow, List.drop_zero, List.take_succ_cons, List.take_zero, List.take_nil, Nat.mul_one, Nat.one_mul, List.cons_append, List.nil_append]
      refine ⟨_, ownBlocks_spec fr g.blocks _ (by have := h.seg g hgm; omega) (fun b hb => by have := h.segD g hgm b hb; omega), ?_⟩
      simp only [hl, hcap, SS, boxA, cellsOf, foffA, loadA, ldA, idxA, fldA, binA, binVal, isSh, intVal, lenA, slenA, pickA, storeA, setN, getN, fillA, extA, beqA, eqsA, eqL, isnilA, unA, unVal, convA, nilA, sconvA, b2sA, b2sOf, bytesOf, mmA, srcA, appA, sliceA, lohi, mkslA, envA, ↓reduceIte, Nat.reduceEqDiff, Nat.reduceAdd, Nat.reduceMul, reduceCtorEq, Nat.reduceLeDiff, fB, fBools, fBlks, fSegs, aBlk, aSg, aSt, stRow, List.drop_zero, List.take_succ_cons, List.take_zero, List.take_nil, Nat.mul_one, Nat.one_mul, List.cons_append, List.nil_append]
      refine ⟨by rfl, famC_next (k + 1) (by omega) (by omega) ?_⟩
      refine Weak.calc [(0, 0), (1, 1), (2, 2), (1413, 3), (4, 4)] (by decide) ?_ ?_ <;> simp [tk_B, tk_Bools, tk_Blks, tk_Segs, AlL_append, renL_append, okL, okH, rowIs, okV, okHV, rowVt, vtL, okF, okHF, rowFz, fzL, fzV, fzOne, nilLike, oldLike, rn, s_envOf, s_envOf0, s_heapOf, s_heapOf0, s_put, s_put0, s_put1, s_app0, s_app1, Al, AlL, ren, renL, al_B, al_Bools, al_Blks, al_Segs, ren_B, ren_Bools, ren_Blks, ren_Segs, fB, fBools, fBlks, fSegs, snoc_Segs hg, eSg, wrap64 (x := (k : Int) + 1) (by omega)]
    · have e1 : ¬ ((k : Int) < (s.segs.length : Int)) := by omega
      obtain rfl : k = s.segs.length := by omega
      simp only [L_own, e1, SS, boxA, cellsOf, foffA, loadA, ldA, idxA, fldA, binA, binVal, isSh, intVal, lenA, slenA, pickA, storeA, setN, getN, fillA, extA, beqA, eqsA, eqL, isnilA, unA, unVal, convA, nilA, sconvA, b2sA, b2sOf, bytesOf, mmA, srcA, appA, sliceA, lohi, mkslA, envA, ↓reduceIte, Nat.reduceEqDiff, Nat.reduceAdd, Nat.reduceMul, reduceCtorEq, Nat.reduceLeDiff, fB, fBools, fBlks, fSegs, aBlk, aSg, aSt, stRow, List.drop_zero, List.take_succ_cons, List.take_zero, List.take_nil, Nat.mul_one, Nat.one_mul, List.cons_append, List.nil_append]
      rw [List.take_length]
      exact Ends.rows2 (i := 3) (i' := 4) (.inr rfl) (by simp [resL, resOne, tupOf, getN, s_envOf, s_envOf0, s_heapOf, s_heapOf0, s_put1, s_app0, s_app1]; rfl) (by decide) rfl (al_Segs s.segs) rfl (al_Blks s.opn) (by simp [Al, AlL, fBools, al_Bools]) (by simp [ren, renL, rn, fBools, ren_Bools])
end Go.Proofs.Ytfoeddmbhmfjcaa
/- The page's Live. -/
namespace Go.Proofs.Ytfoeddmbhmfjcaa
open Go.RowKit
set_option maxRecDepth 100000
/-- is a block of the segment needed? -/
def keepB (s : St) (x : Sg) (p : Blk × Nat) : Bool := decide ((lastF s p.1.own p.1.idx).q = x.seq ∧ (lastF s p.1.own p.1.idx).a = (p.2 : Int) ∧ (0 < p.1.data.length ∨ 1 < (lastF s p.1.own p.1.idx).n))
def keepL (s : St) (x : Sg) (k : Nat) : List Blk := ((x.blocks.take k).zipIdx.filter (keepB s x)).map (·.1)
def rlive (s : St) (slot : Int) : List Blk := if usedE s slot = 0 then (match s.segs[slot.toNat]? with | some x => keepL s x x.blocks.length | none => []) else []
theorem keepL_succ {s : St} {x : Sg} {k : Nat} {b : Blk} (h : x.blocks[k]? = some b) : keepL s x (k + 1) = if keepB s x (b, k) = true then keepL s x k ++ [b] else keepL s x k := by
  obtain ⟨hk, rfl⟩ := List.getElem?_eq_some_iff.1 h
  unfold keepL
  rw [List.take_succ_eq_append_getElem hk, List.zipIdx_append, List.filter_append, List.map_append]
  have : min k x.blocks.length = k := by omega
  simp only [List.length_take, this, Nat.zero_add, List.zipIdx_cons, List.zipIdx_nil, List.filter_cons, List.filter_nil]
  split <;> simp
theorem keepL_len (s : St) (x : Sg) (k : Nat) : (keepL s x k).length ≤ x.blocks.length := by
  unfold keepL
  rw [List.length_map]
  refine Nat.le_trans (List.length_filter_le _ _) ?_
  simp; omega
theorem keepL_mem {s : St} {x : Sg} {k : Nat} {b : Blk} (h : b ∈ keepL s x k) : b ∈ x.blocks := by
  unfold keepL at h
  rw [List.mem_map] at h
  obtain ⟨⟨b', i⟩, h1, rfl⟩ := h
  have h2 := (List.mem_filter.1 h1).1
  have := List.mem_zipIdx h2
  exact List.mem_of_mem_take (by rw [this.2.2]; exact List.getElem_mem _)
theorem usedE_0 {s : St} {slot : Int} (h : usedE s slot = 0) : rchk s = true ∧ ∃ (k : Nat) (x : Sg), slot = k ∧ s.segs[k]? = some x ∧ freeB' x = false := by
  unfold usedE at h
  split at h
  · rename_i h1
    refine ⟨h1, ?_⟩
    split at h
    · rename_i h2
      obtain ⟨k, rfl⟩ : ∃ k : Nat, slot = k := ⟨slot.toNat, by omega⟩
      have h3 : k < s.segs.length := by omega
      rw [Int.toNat_natCast, List.getElem?_eq_getElem h3] at h
      simp only at h
      refine ⟨k, _, rfl, List.getElem?_eq_getElem h3, ?_⟩
      cases hf : freeB' s.segs[k] with
      | true => rw [hf] at h; cases h
      | false => rfl
    · cases h
  · cases h
abbrev L_live (fr : Bool) (s : St) (x : Sg) (k : Nat) : ASt := ⟨envOf [(2, .op 0 0), (7, .os 2 0 (keepL s x k).length 3), (8, .op 1 0), (9, .v (.int .i64 k))],
  heapOf [(0, stRow 32 fr s), (1, .row true 69 [.v (.int .i64 x.seq), fBlks fr x.blocks]), (2, .row true 55 (eBlks fr (keepL s x k)))], 3⟩
set_option maxHeartbeats 1000000 in
theorem rLive_spec (fr : Bool) (s : St) (slot : Int) (nb : Nat) : ASound Try.prog 22 [aSt fr s, .v (.int .i64 slot)] nb (.ret (.tup [fBlks true (rlive s slot), .v (.int .i64 (usedE s slot))]) []) := by
  refine ok_22.sound (by simp) ⟨al_aSt s, trivial, trivial⟩ ?_
  simp only [ac_22, SS, boxA, cellsOf, foffA, loadA, ldA, idxA, fldA, binA, binVal, isSh, intVal, lenA, slenA, pickA, storeA, setN, getN, fillA, extA, beqA, eqsA, eqL, isnilA, unA, unVal, convA, nilA, sconvA, b2sA, b2sOf, bytesOf, mmA, srcA, appA, sliceA, lohi, mkslA, envA, ↓reduceIte, Nat.reduceEqDiff, Nat.reduceAdd, Nat.reduceMul, reduceCtorEq, Nat.reduceLeDiff, fB, fBools, fBlks, fSegs, aBlk, aSg, aSt, stRow, List.drop_zero, List.take_succ_cons, List.take_zero, List.take_nil, Nat.mul_one, Nat.one_mul, List.cons_append, List.nil_append]
  refine ⟨_, used_spec fr s slot _, ?_⟩
  simp only [SS, boxA, cellsOf, foffA, loadA, ldA, idxA, fldA, binA, binVal, isSh, intVal, lenA, slenA, pickA, storeA, setN, getN, fillA, extA, beqA, eqsA, eqL, isnilA, unA, unVal, convA, nilA, sconvA, b2sA, b2sOf, bytesOf, mmA, srcA, appA, sliceA, lohi, mkslA, envA, ↓reduceIte, Nat.reduceEqDiff, Nat.reduceAdd, Nat.reduceMul, reduceCtorEq, Nat.reduceLeDiff, fB, fBools, fBlks, fSegs, aBlk, aSg, aSt, stRow, List.drop_zero, List.take_succ_cons, List.take_zero, List.take_nil, Nat.mul_one, Nat.one_mul, List.cons_append, List.nil_append]
  by_cases hu : usedE s slot = 0
  · obtain ⟨hc, i, x, rfl, hx, hf⟩ := usedE_0 hu
    have rb := rchk_RB hc
    have hlt : i < s.segs.length := by rw [List.getElem?_eq_some_iff] at hx; exact hx.1
    have e1 : (i : Int) < (s.segs.length : Int) := by omega
    have e0 : (0 : Int) ≤ (i : Int) := by omega
    obtain ⟨g0, g1⟩ := get_Segs (fr := fr) hx
    have hxm := List.mem_of_getElem? hx
    simp only [hu, not_true, e1, e0, g0, g1, SS, boxA, cellsOf, foffA, loadA, ldA, idxA, fldA, binA, binVal, isSh, intVal, lenA, slenA, pickA, storeA, setN, getN, fillA, extA, beqA, eqsA, eqL, isnilA, unA, unVal, convA, nilA, sconvA, b2sA, b2sOf, bytesOf, mmA, srcA, appA, sliceA, lohi, mkslA, envA, ↓reduceIte, Nat.reduceEqDiff, Nat.reduceAdd, Nat.reduceMul, reduceCtorEq, Nat.reduceLeDiff, fB, fBools, fBlks, fSegs, aBlk, aSg, aSt, stRow, List.drop_zero, List.take_succ_cons, List.take_zero, List.take_nil, Nat.mul_one, Nat.one_mul, List.cons_append, List.nil_append]
    refine AWc.family (L_live fr s x) (fun k => k ≤ x.blocks.length) (fun k => x.blocks.length - k) 0 (Nat.zero_le _) ?_ ?_
    · refine Weak.trans (Weak.virtC 55 3 (l := [(2, .op 0 0), (7, .os 1152 0 0 3), (8, .op 960 0), (9, .v (.int .i64 0))])
        (h := [(0, stRow 32 fr s), (960, .row true 69 [.v (.int .i64 x.seq), fBlks fr x.blocks])]) ?_ ?_) (Weak.calc [(0, 0), (960, 1), (1152, 2)] (by decide) ?_ ?_)
      all_goals simp [show keepL s x 0 = [] from rfl, show eBlks fr [] = [] from rfl, tk_B, tk_Bools, tk_Blks, tk_Segs, AlL_append, renL_append, okL, okH, rowIs, okV, okHV, rowVt, vtL, okF, okHF, rowFz, fzL, fzV, fzOne, nilLike, oldLike, rn, s_envOf, s_envOf0, s_heapOf, s_heapOf0, s_put, s_put0, s_put1, s_app0, s_app1, Al, AlL, ren, renL, al_B, al_Bools, al_Blks, al_Segs, ren_B, ren_Bools, ren_Blks, ren_Segs, fB, fBools, fBlks, fSegs]
    · intro k hk
      by_cases hkl : k < x.blocks.length
      · obtain ⟨b, hb, f1, f0⟩ := lt_at hkl
        obtain ⟨b0, b1, b2, b3⟩ := get_Blks3 (fr := fr) hb
        have hks := keepL_succ (s := s) hb
        have hl8 := rb.seg x hxm
        have hkl8 := keepL_len s x k
        simp only [L_live, b0, b1, b2, f1, f0, SS, boxA, cellsOf, foffA, loadA, ldA, idxA, fldA, binA, binVal, isSh, intVal, lenA, slenA, pickA, storeA, setN, getN, fillA, extA, beqA, eqsA, eqL, isnilA, unA, unVal, convA, nilA, sconvA, b2sA, b2sOf, bytesOf, mmA, srcA, appA, sliceA, lohi, mkslA, envA, ↓reduceIte, Nat.reduceEqDiff, Nat.reduceAdd, Nat.reduceMul, reduceCtorEq, Nat.reduceLeDiff, fB, fBools, fBlks, fSegs, aBlk, aSg, aSt, stRow, List.drop_zero, List.take_succ_cons, List.take_zero, List.take_nil, Nat.mul_one, Nat.one_mul, List.cons_append, List.nil_append]
        refine ⟨_, last_spec fr s b.own b.idx _ rb.n64 rb.seg rb.opn, ?_⟩
        have hl : (eBlks fr (keepL s x k)).length = (keepL s x k).length * 3 := len_Blks _
        have hcap : ((keepL s x k).length + 1) * 40 ≤ 140737488355328 := by omega
        simp only [hl, hcap, SS, boxA, cellsOf, foffA, loadA, ldA, idxA, fldA, binA, binVal, isSh, intVal, lenA, slenA, pickA, storeA, setN, getN, fillA, extA, beqA, eqsA, eqL, isnilA, unA, unVal, convA, nilA, sconvA, b2sA, b2sOf, bytesOf, mmA, srcA, appA, sliceA, lohi, mkslA, envA, ↓reduceIte, Nat.reduceEqDiff, Nat.reduceAdd, Nat.reduceMul, reduceCtorEq, Nat.reduceLeDiff, fB, fBools, fBlks, fSegs, aBlk, aSg, aSt, stRow, List.drop_zero, List.take_succ_cons, List.take_zero, List.take_nil, Nat.mul_one, Nat.one_mul, List.cons_append, List.nil_append]
        repeat' split
        all_goals refine famC_next (k + 1) (by omega) (by omega) ?_
        all_goals by_cases hkb : keepB s x (b, k) = true
        all_goals first | rw [if_pos hkb] at hks | rw [if_neg hkb] at hks
        all_goals first
          | (refine Weak.calc [(0, 0), (1, 1), (3139, 2)] (by decide) ?_ ?_ <;> (simp [hks, app_Blks, one_Blks, wrap64 (x := (k : Int) + 1) (by omega), tk_B, tk_Bools, tk_Blks, tk_Segs, AlL_append, renL_append, okL, okH, rowIs, okV, okHV, rowVt, vtL, okF, okHF, rowFz, fzL, fzV, fzOne, nilLike, oldLike, rn, s_envOf, s_envOf0, s_heapOf, s_heapOf0, s_put, s_put0, s_put1, s_app0, s_app1, Al, AlL, ren, renL, al_B, al_Bools, al_Blks, al_Segs, ren_B, ren_Bools, ren_Blks, ren_Segs, fB, fBools, fBlks, fSegs]; done))
          | (refine Weak.calc [(0, 0), (1, 1), (2, 2)] (by decide) ?_ ?_ <;> (simp [hks, wrap64 (x := (k : Int) + 1) (by omega), tk_B, tk_Bools, tk_Blks, tk_Segs, AlL_append, renL_append, okL, okH, rowIs, okV, okHV, rowVt, vtL, okF, okHF, rowFz, fzL, fzV, fzOne, nilLike, oldLike, rn, s_envOf, s_envOf0, s_heapOf, s_heapOf0, s_put, s_put0, s_put1, s_app0, s_app1, Al, AlL, ren, renL, al_B, al_Bools, al_Blks, al_Segs, ren_B, ren_Bools, ren_Blks, ren_Segs, fB, fBools, fBlks, fSegs]; done))
          | (exfalso; simp only [keepB, decide_eq_true_eq] at hkb; omega)
      · have f1 : ¬ ((k : Int) < (x.blocks.length : Int)) := by omega
        obtain rfl : k = x.blocks.length := by omega
        simp only [L_live, f1, SS, boxA, cellsOf, foffA, loadA, ldA, idxA, fldA, binA, binVal, isSh, intVal, lenA, slenA, pickA, storeA, setN, getN, fillA, extA, beqA, eqsA, eqL, isnilA, unA, unVal, convA, nilA, sconvA, b2sA, b2sOf, bytesOf, mmA, srcA, appA, sliceA, lohi, mkslA, envA, ↓reduceIte, Nat.reduceEqDiff, Nat.reduceAdd, Nat.reduceMul, reduceCtorEq, Nat.reduceLeDiff, fB, fBools, fBlks, fSegs, aBlk, aSg, aSt, stRow, List.drop_zero, List.take_succ_cons, List.take_zero, List.take_nil, Nat.mul_one, Nat.one_mul, List.cons_append, List.nil_append]
        have hl8 := rb.seg x hxm
        have hle := keepL_len s x x.blocks.length
        have hrl : rlive s i = keepL s x x.blocks.length := by simp [rlive, hu, hx]
        generalize hL : keepL s x x.blocks.length = L at hle hrl
        refine ⟨⟨envOf [(7, fBlks fr L)], heapOf [], 0⟩, Weak.trans (Weak.freezeC 2 rfl (l := [(7, .fs true (eBlks fr L) L.length)]) (h := []) ?_ ?_) (Weak.calc [] (by decide) ?_ ?_), ?_⟩
        · simp [tk_B, tk_Bools, tk_Blks, tk_Segs, AlL_append, renL_append, okL, okH, rowIs, okV, okHV, rowVt, vtL, okF, okHF, rowFz, fzL, fzV, fzOne, nilLike, oldLike, rn, s_envOf, s_envOf0, s_heapOf, s_heapOf0, s_put, s_put0, s_put1, s_app0, s_app1, Al, AlL, ren, renL, al_B, al_Bools, al_Blks, al_Segs, ren_B, ren_Bools, ren_Blks, ren_Segs, fB, fBools, fBlks, fSegs]
        · simp [tk_B, tk_Bools, tk_Blks, tk_Segs, AlL_append, renL_append, okL, okH, rowIs, okV, okHV, rowVt, vtL, okF, okHF, rowFz, fzL, fzV, fzOne, nilLike, oldLike, rn, s_envOf, s_envOf0, s_heapOf, s_heapOf0, s_put, s_put0, s_put1, s_app0, s_app1, Al, AlL, ren, renL, al_B, al_Bools, al_Blks, al_Segs, ren_B, ren_Bools, ren_Blks, ren_Segs, fB, fBools, fBlks, fSegs]
        · cases fr <;> simp [tk_B, tk_Bools, tk_Blks, tk_Segs, AlL_append, renL_append, okL, okH, rowIs, okV, okHV, rowVt, vtL, okF, okHF, rowFz, fzL, fzV, fzOne, nilLike, oldLike, rn, s_envOf, s_envOf0, s_heapOf, s_heapOf0, s_put, s_put0, s_put1, s_app0, s_app1, Al, AlL, ren, renL, al_B, al_Bools, al_Blks, al_Segs, ren_B, ren_Bools, ren_Blks, ren_Segs, fB, fBools, fBlks, fSegs]
        · simp [tk_B, tk_Bools, tk_Blks, tk_Segs, AlL_append, renL_append, okL, okH, rowIs, okV, okHV, rowVt, vtL, okF, okHF, rowFz, fzL, fzV, fzOne, nilLike, oldLike, rn, s_envOf, s_envOf0, s_heapOf, s_heapOf0, s_put, s_put0, s_put1, s_app0, s_app1, Al, AlL, ren, renL, al_B, al_Bools, al_Blks, al_Segs, ren_B, ren_Bools, ren_Blks, ren_Segs, fB, fBools, fBlks, fSegs]
        · simp only [SS, boxA, cellsOf, foffA, loadA, ldA, idxA, fldA, binA, binVal, isSh, intVal, lenA, slenA, pickA, storeA, setN, getN, fillA, extA, beqA, eqsA, eqL, isnilA, unA, unVal, convA, nilA, sconvA, b2sA, b2sOf, bytesOf, mmA, srcA, appA, sliceA, lohi, mkslA, envA, ↓reduceIte, Nat.reduceEqDiff, Nat.reduceAdd, Nat.reduceMul, reduceCtorEq, Nat.reduceLeDiff, fB, fBools, fBlks, fSegs, aBlk, aSg, aSt, stRow, List.drop_zero, List.take_succ_cons, List.take_zero, List.take_nil, Nat.mul_one, Nat.one_mul, List.cons_append, List.nil_append]
          refine ⟨_, ownBlocks_spec fr L _ (by omega) (fun b hb => ?_), ?_⟩
          · rw [← hL] at hb
            have := rb.segD x hxm b (keepL_mem hb)
            omega
          · simp only [SS, boxA, cellsOf, foffA, loadA, ldA, idxA, fldA, binA, binVal, isSh, intVal, lenA, slenA, pickA, storeA, setN, getN, fillA, extA, beqA, eqsA, eqL, isnilA, unA, unVal, convA, nilA, sconvA, b2sA, b2sOf, bytesOf, mmA, srcA, appA, sliceA, lohi, mkslA, envA, ↓reduceIte, Nat.reduceEqDiff, Nat.reduceAdd, Nat.reduceMul, reduceCtorEq, Nat.reduceLeDiff, fB, fBools, fBlks, fSegs, aBlk, aSg, aSt, stRow, List.drop_zero, List.take_succ_cons, List.take_zero, List.take_nil, Nat.mul_one, Nat.one_mul, List.cons_append, List.nil_append]
            exact Ends.data (.inr rfl) (by simp [hrl, resL, resOne, tupOf, getN, s_envOf, s_envOf0, s_heapOf, s_heapOf0, s_put1, s_app0, s_app1]) ⟨al_Blks _, trivial, trivial⟩
  · simp only [hu, not_false_eq_true, SS, boxA, cellsOf, foffA, loadA, ldA, idxA, fldA, binA, binVal, isSh, intVal, lenA, slenA, pickA, storeA, setN, getN, fillA, extA, beqA, eqsA, eqL, isnilA, unA, unVal, convA, nilA, sconvA, b2sA, b2sOf, bytesOf, mmA, srcA, appA, sliceA, lohi, mkslA, envA, ↓reduceIte, Nat.reduceEqDiff, Nat.reduceAdd, Nat.reduceMul, reduceCtorEq, Nat.reduceLeDiff, fB, fBools, fBlks, fSegs, aBlk, aSg, aSt, stRow, List.drop_zero, List.take_succ_cons, List.take_zero, List.take_nil, Nat.mul_one, Nat.one_mul, List.cons_append, List.nil_append]
    refine Ends.weak (Weak.calc [] (l := [(4, fBlks true []), (5, .v (.int .i64 (usedE s slot)))]) (h := []) (nx := 0) (by decide) ?_ ?_) (Ends.data (.inr rfl) (by simp [rlive, hu, fBlks, resL, resOne, tupOf, getN, s_envOf, s_envOf0, s_heapOf, s_heapOf0, s_put1, s_app0, s_app1]) ⟨al_Blks _, trivial, trivial⟩)
    all_goals simp [show eBlks true [] = [] from rfl, tk_B, tk_Bools, tk_Blks, tk_Segs, AlL_append, renL_append, okL, okH, rowIs, okV, okHV, rowVt, vtL, okF, okHF, rowFz, fzL, fzV, fzOne, nilLike, oldLike, rn, s_envOf, s_envOf0, s_heapOf, s_heapOf0, s_put, s_put0, s_put1, s_app0, s_app1, Al, AlL, ren, renL, al_B, al_Bools, al_Blks, al_Segs, ren_B, ren_Bools, ren_Blks, ren_Segs, fB, fBools, fBlks, fSegs]
end Go.Proofs.Ytfoeddmbhmfjcaa
/- The page's Free, Seal, Put. -/
namespace Go.Proofs.Ytfoeddmbhmfjcaa
open Go.RowKit
set_option maxRecDepth 100000
theorem imp_zero : Imp (.agg [.v (.slice none 0 0), .v (.slice none 0 0), .v (.slice none 0 0), .v (.int .i64 0)]) (aSt true St.zero) := Imp.aggL ⟨Imp.nil _, Imp.nil _, Imp.nil _, Imp.refl _, trivial⟩
/-- with an error: the zero state -/
theorem Ends.zero {N : Nat} {rs : List RV} {nb : Nat} {s : ASt} {x : Int} (h : (resL s rs).map tupOf = some (.tup [.agg [.v (.slice none 0 0), .v (.slice none 0 0), .v (.slice none 0 0), .v (.int .i64 0)], .v (.int .i64 x)])) :
    Ends N rs nb (.tup [aSt true St.zero, .v (.int .i64 x)]) [] .ret s := Ends.imp (.inr rfl) h ⟨⟨trivial, trivial, trivial, trivial, trivial⟩, trivial, trivial⟩ (Imp.tupL ⟨imp_zero, Imp.refl _, trivial⟩)
/-- a segment's cells, its blocks nil, or in memory of their own -/
theorem imp_setSegs {l : List Sg} {k : Nat} (hk : k < l.length) (q : Int) (n : Nat) : Imp (.fs true (((eSegs true l).set (k * 2) (.v (.int .i64 q))).set (k * 2 + 1) (.v (.slice none 0 0))) n) (.fs true (eSegs true (l.set k ⟨q, []⟩)) n) := by
  have h := set_Segs (fr := true) hk ⟨q, []⟩
  have h2 : (((eSegs true l).set (k * 2) (.v (.int .i64 q))).set (k * 2 + 1) (.v (.slice none 0 0))).set (k * 2 + 1) (fBlks true []) = eSegs true (l.set k ⟨q, []⟩) := by rw [List.set_set]; exact h
  rw [← h2]
  exact Imp.set (by rw [List.getElem?_set_self (by rw [List.length_set, len_Segs]; omega)]) (Imp.nil true)
theorem pu_set {l : List AV} {j : Nat} {a : AV} (h : PuL l) (ha : Pu a) : PuL (l.set j a) := by
  rw [PuL, AlL_iff] at *
  intro x hx
  rcases List.mem_or_eq_of_mem_set hx with h1 | h1
  · exact h x h1
  · rw [h1]; exact ha
def rfrE (s : St) (slot : Int) : Int := if usedE s slot = 0 then (if 0 < (rlive s slot).length then 91 else 0) else usedE s slot
def rfrSt (s : St) (slot : Int) : St := if rfrE s slot = 0 then ⟨s.segs.set slot.toNat ⟨0, []⟩, s.held, s.opn, s.next⟩ else St.zero
set_option maxHeartbeats 1000000 in
theorem rFree_spec (fr : Bool) (s : St) (slot : Int) (nb : Nat) : ASound Try.prog 24 [aSt fr s, .v (.int .i64 slot)] nb (.ret (.tup [aSt true (rfrSt s slot), .v (.int .i64 (rfrE s slot))]) []) := by
  refine ok_24.sound (by simp) ⟨al_aSt s, trivial, trivial⟩ ?_
  simp only [ac_24, SS, boxA, cellsOf, foffA, loadA, ldA, idxA, fldA, binA, binVal, isSh, intVal, lenA, slenA, pickA, storeA, setN, getN, fillA, extA, beqA, eqsA, eqL, isnilA, unA, unVal, convA, nilA, sconvA, b2sA, b2sOf, bytesOf, mmA, srcA, appA, sliceA, lohi, mkslA, envA, ↓reduceIte, Nat.reduceEqDiff, Nat.reduceAdd, Nat.reduceMul, reduceCtorEq, Nat.reduceLeDiff, fB, fBools, fBlks, fSegs, aBlk, aSg, aSt, stRow, List.drop_zero, List.take_succ_cons, List.take_zero, List.take_nil, Nat.mul_one, Nat.one_mul, List.cons_append, List.nil_append]
  refine ⟨_, rLive_spec fr s slot _, ?_⟩
  simp only [SS, boxA, cellsOf, foffA, loadA, ldA, idxA, fldA, binA, binVal, isSh, intVal, lenA, slenA, pickA, storeA, setN, getN, fillA, extA, beqA, eqsA, eqL, isnilA, unA, unVal, convA, nilA, sconvA, b2sA, b2sOf, bytesOf, mmA, srcA, appA, sliceA, lohi, mkslA, envA, ↓reduceIte, Nat.reduceEqDiff, Nat.reduceAdd, Nat.reduceMul, reduceCtorEq, Nat.reduceLeDiff, fB, fBools, fBlks, fSegs, aBlk, aSg, aSt, stRow, List.drop_zero, List.take_succ_cons, List.take_zero, List.take_nil, Nat.mul_one, Nat.one_mul, List.cons_append, List.nil_append]
  by_cases hu : usedE s slot = 0
  · by_cases hl : 0 < (rlive s slot).length
    · have hl' : (0 : Int) < ((rlive s slot).length : Int) := by omega
      simp only [hu, hl', not_true, SS, boxA, cellsOf, foffA, loadA, ldA, idxA, fldA, binA, binVal, isSh, intVal, lenA, slenA, pickA, storeA, setN, getN, fillA, extA, beqA, eqsA, eqL, isnilA, unA, unVal, convA, nilA, sconvA, b2sA, b2sOf, bytesOf, mmA, srcA, appA, sliceA, lohi, mkslA, envA, ↓reduceIte, Nat.reduceEqDiff, Nat.reduceAdd, Nat.reduceMul, reduceCtorEq, Nat.reduceLeDiff, fB, fBools, fBlks, fSegs, aBlk, aSg, aSt, stRow, List.drop_zero, List.take_succ_cons, List.take_zero, List.take_nil, Nat.mul_one, Nat.one_mul, List.cons_append, List.nil_append]
      have e : rfrE s slot = 91 := by simp [rfrE, hu, hl]
      rw [rfrSt, e, if_neg (by decide)]
      exact Ends.zero (by simp [resL, resOne, tupOf, getN, s_envOf, s_envOf0, s_heapOf, s_heapOf0, s_put1, s_app0, s_app1])
    · have hl' : ¬ ((0 : Int) < ((rlive s slot).length : Int)) := by omega
      simp only [hu, hl', not_true, SS, boxA, cellsOf, foffA, loadA, ldA, idxA, fldA, binA, binVal, isSh, intVal, lenA, slenA, pickA, storeA, setN, getN, fillA, extA, beqA, eqsA, eqL, isnilA, unA, unVal, convA, nilA, sconvA, b2sA, b2sOf, bytesOf, mmA, srcA, appA, sliceA, lohi, mkslA, envA, ↓reduceIte, Nat.reduceEqDiff, Nat.reduceAdd, Nat.reduceMul, reduceCtorEq, Nat.reduceLeDiff, fB, fBools, fBlks, fSegs, aBlk, aSg, aSt, stRow, List.drop_zero, List.take_succ_cons, List.take_zero, List.take_nil, Nat.mul_one, Nat.one_mul, List.cons_append, List.nil_append]
      obtain ⟨hc, i, x, rfl, hx, hf⟩ := usedE_0 hu
      refine ⟨_, rOwn_os fr s _ (rchk_RB hc), ?_⟩
      have hlt : i < s.segs.length := by rw [List.getElem?_eq_some_iff] at hx; exact hx.1
      have e1 : (i : Int) < (s.segs.length : Int) := by omega
      have e0 : (0 : Int) ≤ (i : Int) := by omega
      have e2 : i * 2 + 2 ≤ s.segs.length * 2 := by omega
      simp only [e1, e0, e2, len_Segs, SS, boxA, cellsOf, foffA, loadA, ldA, idxA, fldA, binA, binVal, isSh, intVal, lenA, slenA, pickA, storeA, setN, getN, fillA, extA, beqA, eqsA, eqL, isnilA, unA, unVal, convA, nilA, sconvA, b2sA, b2sOf, bytesOf, mmA, srcA, appA, sliceA, lohi, mkslA, envA, ↓reduceIte, Nat.reduceEqDiff, Nat.reduceAdd, Nat.reduceMul, reduceCtorEq, Nat.reduceLeDiff, fB, fBools, fBlks, fSegs, aBlk, aSg, aSt, stRow, List.drop_zero, List.take_succ_cons, List.take_zero, List.take_nil, Nat.mul_one, Nat.one_mul, List.cons_append, List.nil_append]
      have e : rfrE s i = 0 := by simp [rfrE, hu, hl]
      rw [rfrSt, e, if_pos rfl]
      refine Ends.weak (Weak.trans (Weak.freezeC 1217 rfl (l := [(4, .op 64 0), (5, .v (.int .i64 0))])
        (h := [(64, .row true 32 [.os 1216 0 s.segs.length 2, fBools true s.held, fBlks true s.opn, .v (.int .i64 s.next)]), (1216, .row true 69 (((eSegs true s.segs).set (i * 2) (.v (.int .i64 0))).set (i * 2 + 1) (.v (.slice none 0 0))))]) ?_ ?_)
        (Weak.freezeC 1216 rfl (l := [(4, .op 64 0), (5, .v (.int .i64 0))])
        (h := [(64, .row true 32 [.fs true (((eSegs true s.segs).set (i * 2) (.v (.int .i64 0))).set (i * 2 + 1) (.v (.slice none 0 0))) s.segs.length, fBools true s.held, fBlks true s.opn, .v (.int .i64 s.next)])]) ?_ ?_)) ?_
      · simp [tk_B, tk_Bools, tk_Blks, tk_Segs, AlL_append, renL_append, okL, okH, rowIs, okV, okHV, rowVt, vtL, okF, okHF, rowFz, fzL, fzV, fzOne, nilLike, oldLike, rn, s_envOf, s_envOf0, s_heapOf, s_heapOf0, s_put, s_put0, s_put1, s_app0, s_app1, Al, AlL, ren, renL, al_B, al_Bools, al_Blks, al_Segs, ren_B, ren_Bools, ren_Blks, ren_Segs, fB, fBools, fBlks, fSegs]
      · simp [tk_B, tk_Bools, tk_Blks, tk_Segs, AlL_append, renL_append, okL, okH, rowIs, okV, okHV, rowVt, vtL, okF, okHF, rowFz, fzL, fzV, fzOne, nilLike, oldLike, rn, s_envOf, s_envOf0, s_heapOf, s_heapOf0, s_put, s_put0, s_put1, s_app0, s_app1, Al, AlL, ren, renL, al_B, al_Bools, al_Blks, al_Segs, ren_B, ren_Bools, ren_Blks, ren_Segs, fB, fBools, fBlks, fSegs]
      · simp [tk_B, tk_Bools, tk_Blks, tk_Segs, AlL_append, renL_append, okL, okH, rowIs, okV, okHV, rowVt, vtL, okF, okHF, rowFz, fzL, fzV, fzOne, nilLike, oldLike, rn, s_envOf, s_envOf0, s_heapOf, s_heapOf0, s_put, s_put0, s_put1, s_app0, s_app1, Al, AlL, ren, renL, al_B, al_Bools, al_Blks, al_Segs, ren_B, ren_Bools, ren_Blks, ren_Segs, fB, fBools, fBlks, fSegs]
      · simp [tk_B, tk_Bools, tk_Blks, tk_Segs, AlL_append, renL_append, okL, okH, rowIs, okV, okHV, rowVt, vtL, okF, okHF, rowFz, fzL, fzV, fzOne, nilLike, oldLike, rn, s_envOf, s_envOf0, s_heapOf, s_heapOf0, s_put, s_put0, s_put1, s_app0, s_app1, Al, AlL, ren, renL, al_B, al_Bools, al_Blks, al_Segs, ren_B, ren_Bools, ren_Blks, ren_Segs, fB, fBools, fBlks, fSegs]
        exact .inl (List.take_of_length_le (by simp [len_Segs])).symm
      · refine Ends.imp (.inr rfl) (r0 := .tup [.agg [.fs true (((eSegs true s.segs).set (i * 2) (.v (.int .i64 0))).set (i * 2 + 1) (.v (.slice none 0 0))) s.segs.length, fBools true s.held, fBlks true s.opn, .v (.int .i64 s.next)], .v (.int .i64 0)]) (by simp [resL, resOne, tupOf, getN, s_envOf, s_envOf0, s_heapOf, s_heapOf0, s_put1, s_app0, s_app1]) ⟨⟨pu_set (pu_set (al_Segs _) trivial) trivial, al_Bools _, al_Blks _, trivial, trivial⟩, trivial, trivial⟩ (Imp.tupL ⟨Imp.aggL ⟨?_, Imp.refl _, Imp.refl _, Imp.refl _, trivial⟩, Imp.refl _, trivial⟩)
        rw [Int.toNat_natCast, List.length_set]
        exact imp_setSegs hlt 0 _
  · simp only [hu, not_false_eq_true, SS, boxA, cellsOf, foffA, loadA, ldA, idxA, fldA, binA, binVal, isSh, intVal, lenA, slenA, pickA, storeA, setN, getN, fillA, extA, beqA, eqsA, eqL, isnilA, unA, unVal, convA, nilA, sconvA, b2sA, b2sOf, bytesOf, mmA, srcA, appA, sliceA, lohi, mkslA, envA, ↓reduceIte, Nat.reduceEqDiff, Nat.reduceAdd, Nat.reduceMul, reduceCtorEq, Nat.reduceLeDiff, fB, fBools, fBlks, fSegs, aBlk, aSg, aSt, stRow, List.drop_zero, List.take_succ_cons, List.take_zero, List.take_nil, Nat.mul_one, Nat.one_mul, List.cons_append, List.nil_append]
    have e : rfrE s slot = usedE s slot := by simp [rfrE, hu]
    rw [rfrSt, e, if_neg hu]
    exact Ends.zero (by simp [resL, resOne, tupOf, getN, s_envOf, s_envOf0, s_heapOf, s_heapOf0, s_put1, s_app0, s_app1])
/-- the first slot that is free and not held -/
def rAt (s : St) : Option Nat := (List.range s.segs.length).find? fun i => match s.segs[i]?, s.held[i]? with | some x, some h => freeB' x && !h | _, _ => false
def rslE (s : St) : Int := if rchk s = true then (if s.opn.length = 0 then 71 else if 1099511627776 ≤ s.next then 51 else match rAt s with | some _ => 0 | none => 51) else 9
def rslAt (s : St) : Nat := if rslE s = 0 then (rAt s).getD 0 else 0
def rslSt (s : St) : St := if rslE s = 0 then ⟨s.segs.set (rslAt s) ⟨s.next, s.opn⟩, s.held, [], s.next + 1⟩ else St.zero
theorem Ends.zero3 {N : Nat} {rs : List RV} {nb : Nat} {s : ASt} {x : Int} (h : (resL s rs).map tupOf = some (.tup [.agg [.v (.slice none 0 0), .v (.slice none 0 0), .v (.slice none 0 0), .v (.int .i64 0)], .v (.int .i64 0), .v (.int .i64 x)])) :
    Ends N rs nb (.tup [aSt true St.zero, .v (.int .i64 ((0 : Nat) : Int)), .v (.int .i64 x)]) [] .ret s := Ends.imp (.inr rfl) h ⟨⟨trivial, trivial, trivial, trivial, trivial⟩, trivial, trivial, trivial⟩ (Imp.tupL ⟨imp_zero, Imp.refl _, Imp.refl _, trivial⟩)
abbrev L_seal (fr : Bool) (s : St) (k : Nat) : ASt := ⟨envOf [(1, .op 0 0), (2, .op 1 0), (5, .v (.int .i64 k))], heapOf [(0, stRow 32 fr s), (1, .row true 32 [.v (.slice none 0 0), .v (.slice none 0 0), .v (.slice none 0 0), .v (.int .i64 0)])], 2⟩
set_option maxHeartbeats 1000000 in
theorem rSeal_spec (fr : Bool) (s : St) (nb : Nat) : ASound Try.prog 20 [aSt fr s] nb (.ret (.tup [aSt true (rslSt s), .v (.int .i64 (rslAt s : Nat)), .v (.int .i64 (rslE s))]) []) := by
  refine ok_20.sound (by simp) ⟨al_aSt s, trivial⟩ ?_
  simp only [ac_20, SS, boxA, cellsOf, foffA, loadA, ldA, idxA, fldA, binA, binVal, isSh, intVal, lenA, slenA, pickA, storeA, setN, getN, fillA, extA, beqA, eqsA, eqL, isnilA, unA, unVal, convA, nilA, sconvA, b2sA, b2sOf, bytesOf, mmA, srcA, appA, sliceA, lohi, mkslA, envA, ↓reduceIte, Nat.reduceEqDiff, Nat.reduceAdd, Nat.reduceMul, reduceCtorEq, Nat.reduceLeDiff, fB, fBools, fBlks, fSegs, aBlk, aSg, aSt, stRow, List.drop_zero, List.take_succ_cons, List.take_zero, List.take_nil, Nat.mul_one, Nat.one_mul, List.cons_append, List.nil_append]
  refine ⟨_, rCheck_spec fr s _, ?_⟩
  simp only [SS, boxA, cellsOf, foffA, loadA, ldA, idxA, fldA, binA, binVal, isSh, intVal, lenA, slenA, pickA, storeA, setN, getN, fillA, extA, beqA, eqsA, eqL, isnilA, unA, unVal, convA, nilA, sconvA, b2sA, b2sOf, bytesOf, mmA, srcA, appA, sliceA, lohi, mkslA, envA, ↓reduceIte, Nat.reduceEqDiff, Nat.reduceAdd, Nat.reduceMul, reduceCtorEq, Nat.reduceLeDiff, fB, fBools, fBlks, fSegs, aBlk, aSg, aSt, stRow, List.drop_zero, List.take_succ_cons, List.take_zero, List.take_nil, Nat.mul_one, Nat.one_mul, List.cons_append, List.nil_append]
  have err : ∀ {x : Int}, rslE s = x → x ≠ 0 → rslSt s = St.zero ∧ rslAt s = 0 := fun h hx => by rw [rslSt, rslAt, h, if_neg hx, if_neg hx]; exact ⟨rfl, rfl⟩
  cases hc : rchk s with
  | false =>
    simp only [errN_f, SS, boxA, cellsOf, foffA, loadA, ldA, idxA, fldA, binA, binVal, isSh, intVal, lenA, slenA, pickA, storeA, setN, getN, fillA, extA, beqA, eqsA, eqL, isnilA, unA, unVal, convA, nilA, sconvA, b2sA, b2sOf, bytesOf, mmA, srcA, appA, sliceA, lohi, mkslA, envA, ↓reduceIte, Nat.reduceEqDiff, Nat.reduceAdd, Nat.reduceMul, reduceCtorEq, Nat.reduceLeDiff, fB, fBools, fBlks, fSegs, aBlk, aSg, aSt, stRow, List.drop_zero, List.take_succ_cons, List.take_zero, List.take_nil, Nat.mul_one, Nat.one_mul, List.cons_append, List.nil_append]
    have e : rslE s = 9 := by simp [rslE, hc]
    rw [(err e (by decide)).1, (err e (by decide)).2, e]
    exact Ends.zero3 (by simp [resL, resOne, tupOf, getN, s_envOf, s_envOf0, s_heapOf, s_heapOf0, s_put1, s_app0, s_app1])
  | true =>
    have rb := rchk_RB hc
    simp only [errN_t, SS, boxA, cellsOf, foffA, loadA, ldA, idxA, fldA, binA, binVal, isSh, intVal, lenA, slenA, pickA, storeA, setN, getN, fillA, extA, beqA, eqsA, eqL, isnilA, unA, unVal, convA, nilA, sconvA, b2sA, b2sOf, bytesOf, mmA, srcA, appA, sliceA, lohi, mkslA, envA, ↓reduceIte, Nat.reduceEqDiff, Nat.reduceAdd, Nat.reduceMul, reduceCtorEq, Nat.reduceLeDiff, fB, fBools, fBlks, fSegs, aBlk, aSg, aSt, stRow, List.drop_zero, List.take_succ_cons, List.take_zero, List.take_nil, Nat.mul_one, Nat.one_mul, List.cons_append, List.nil_append]
    by_cases ho : s.opn.length = 0
    · have ho' : (s.opn.length : Int) = 0 := by omega
      simp only [ho', SS, boxA, cellsOf, foffA, loadA, ldA, idxA, fldA, binA, binVal, isSh, intVal, lenA, slenA, pickA, storeA, setN, getN, fillA, extA, beqA, eqsA, eqL, isnilA, unA, unVal, convA, nilA, sconvA, b2sA, b2sOf, bytesOf, mmA, srcA, appA, sliceA, lohi, mkslA, envA, ↓reduceIte, Nat.reduceEqDiff, Nat.reduceAdd, Nat.reduceMul, reduceCtorEq, Nat.reduceLeDiff, fB, fBools, fBlks, fSegs, aBlk, aSg, aSt, stRow, List.drop_zero, List.take_succ_cons, List.take_zero, List.take_nil, Nat.mul_one, Nat.one_mul, List.cons_append, List.nil_append]
      have e : rslE s = 71 := by simp [rslE, hc, ho]
      rw [(err e (by decide)).1, (err e (by decide)).2, e]
      exact Ends.zero3 (by simp [resL, resOne, tupOf, getN, s_envOf, s_envOf0, s_heapOf, s_heapOf0, s_put1, s_app0, s_app1])
    · have ho' : ¬ (s.opn.length : Int) = 0 := by omega
      by_cases hn : 1099511627776 ≤ s.next
      · simp only [ho', hn, SS, boxA, cellsOf, foffA, loadA, ldA, idxA, fldA, binA, binVal, isSh, intVal, lenA, slenA, pickA, storeA, setN, getN, fillA, extA, beqA, eqsA, eqL, isnilA, unA, unVal, convA, nilA, sconvA, b2sA, b2sOf, bytesOf, mmA, srcA, appA, sliceA, lohi, mkslA, envA, ↓reduceIte, Nat.reduceEqDiff, Nat.reduceAdd, Nat.reduceMul, reduceCtorEq, Nat.reduceLeDiff, fB, fBools, fBlks, fSegs, aBlk, aSg, aSt, stRow, List.drop_zero, List.take_succ_cons, List.take_zero, List.take_nil, Nat.mul_one, Nat.one_mul, List.cons_append, List.nil_append]
        have e : rslE s = 51 := by simp [rslE, hc, hn]; intro h9; simp [h9] at ho
        rw [(err e (by decide)).1, (err e (by decide)).2, e]
        exact Ends.zero3 (by simp [resL, resOne, tupOf, getN, s_envOf, s_envOf0, s_heapOf, s_heapOf0, s_put1, s_app0, s_app1])
      · simp only [ho', hn, SS, boxA, cellsOf, foffA, loadA, ldA, idxA, fldA, binA, binVal, isSh, intVal, lenA, slenA, pickA, storeA, setN, getN, fillA, extA, beqA, eqsA, eqL, isnilA, unA, unVal, convA, nilA, sconvA, b2sA, b2sOf, bytesOf, mmA, srcA, appA, sliceA, lohi, mkslA, envA, ↓reduceIte, Nat.reduceEqDiff, Nat.reduceAdd, Nat.reduceMul, reduceCtorEq, Nat.reduceLeDiff, fB, fBools, fBlks, fSegs, aBlk, aSg, aSt, stRow, List.drop_zero, List.take_succ_cons, List.take_zero, List.take_nil, Nat.mul_one, Nat.one_mul, List.cons_append, List.nil_append]
        have heq : s.held.length = s.segs.length := by simp only [rchk, rHead, Bool.and_eq_true, decide_eq_true_eq] at hc; omega
        have ho2 : s.opn ≠ [] := fun h9 => ho (by rw [h9]; rfl)
        refine AWc.family (L_seal fr s) (fun k => k ≤ s.segs.length ∧ ∀ (j : Nat) x h, j < k → s.segs[j]? = some x → s.held[j]? = some h → (freeB' x && !h) = false) (fun k => s.segs.length - k) 0 ⟨Nat.zero_le _, fun j x h h9 => absurd h9 (Nat.not_lt_zero _)⟩ ?_ ?_
        · refine Weak.calc [(0, 0), (64, 1)] (by decide) ?_ ?_ <;> simp [tk_B, tk_Bools, tk_Blks, tk_Segs, AlL_append, renL_append, okL, okH, rowIs, okV, okHV, rowVt, vtL, okF, okHF, rowFz, fzL, fzV, fzOne, nilLike, oldLike, rn, s_envOf, s_envOf0, s_heapOf, s_heapOf0, s_put, s_put0, s_put1, s_app0, s_app1, Al, AlL, ren, renL, al_B, al_Bools, al_Blks, al_Segs, ren_B, ren_Bools, ren_Blks, ren_Segs, fB, fBools, fBlks, fSegs]
        · rintro k ⟨hk, hno⟩
          by_cases hlt : k < s.segs.length
          · obtain ⟨x, hx, e1, e0⟩ := lt_at hlt
            obtain ⟨h, hh, e2, _⟩ := lt_at (show k < s.held.length by omega)
            obtain ⟨g0, g1⟩ := get_Segs (fr := fr) hx
            have g2 := get_Bools hh
            simp only [L_seal, g0, g1, e1, e0, SS, boxA, cellsOf, foffA, loadA, ldA, idxA, fldA, binA, binVal, isSh, intVal, lenA, slenA, pickA, storeA, setN, getN, fillA, extA, beqA, eqsA, eqL, isnilA, unA, unVal, convA, nilA, sconvA, b2sA, b2sOf, bytesOf, mmA, srcA, appA, sliceA, lohi, mkslA, envA, ↓reduceIte, Nat.reduceEqDiff, Nat.reduceAdd, Nat.reduceMul, reduceCtorEq, Nat.reduceLeDiff, fB, fBools, fBlks, fSegs, aBlk, aSg, aSt, stRow, List.drop_zero, List.take_succ_cons, List.take_zero, List.take_nil, Nat.mul_one, Nat.one_mul, List.cons_append, List.nil_append]
            refine ⟨_, rfree_spec fr x _, ?_⟩
            simp only [g2, e2, e1, e0, SS, boxA, cellsOf, foffA, loadA, ldA, idxA, fldA, binA, binVal, isSh, intVal, lenA, slenA, pickA, storeA, setN, getN, fillA, extA, beqA, eqsA, eqL, isnilA, unA, unVal, convA, nilA, sconvA, b2sA, b2sOf, bytesOf, mmA, srcA, appA, sliceA, lohi, mkslA, envA, ↓reduceIte, Nat.reduceEqDiff, Nat.reduceAdd, Nat.reduceMul, reduceCtorEq, Nat.reduceLeDiff, fB, fBools, fBlks, fSegs, aBlk, aSg, aSt, stRow, List.drop_zero, List.take_succ_cons, List.take_zero, List.take_nil, Nat.mul_one, Nat.one_mul, List.cons_append, List.nil_append]
            have next : (freeB' x && !h) = false → ∀ j x' h', j < k + 1 → s.segs[j]? = some x' → s.held[j]? = some h' → (freeB' x' && !h') = false := by
              intro h9 j x' h' hj hx' hh'
              by_cases e : j = k
              · subst e; rw [hx] at hx'; rw [hh] at hh'; cases hx'; cases hh'; exact h9
              · exact hno j x' h' (by omega) hx' hh'
            have e3 : k * 2 + 2 ≤ s.segs.length * 2 := by omega
            have h64 : k ≤ 64 := by have := rb.n64; omega
            split
            · rename_i hf
              split
              · rename_i hh0
                have hat : rAt s = some k := by
                  unfold rAt
                  rw [List.find?_range_eq_some]
                  refine ⟨by rw [hx, hh]; simp [hf, hh0], List.mem_range.2 hlt, fun j hj => ?_⟩
                  rw [List.getElem?_eq_getElem (show j < s.segs.length by omega), List.getElem?_eq_getElem (show j < s.held.length by omega)]
                  simp only [hno j _ _ hj (List.getElem?_eq_getElem (show j < s.segs.length by omega)) (List.getElem?_eq_getElem (show j < s.held.length by omega))]
                  simp
                have e : rslE s = 0 := by simp [rslE, hc, hn, hat]; exact ho2
                have ea : rslAt s = k := by simp [rslAt, e, hat]
                have hwr : IntKind.i64.wrap (s.next + 1) = s.next + 1 := wrap64 (by simp only [rchk, rHead, Bool.and_eq_true, decide_eq_true_eq] at hc; omega)
                refine ⟨_, rOwn_os fr s _ rb, ?_⟩
                simp only [e1, e0, e3, len_Segs, hwr, SS, boxA, cellsOf, foffA, loadA, ldA, idxA, fldA, binA, binVal, isSh, intVal, lenA, slenA, pickA, storeA, setN, getN, fillA, extA, beqA, eqsA, eqL, isnilA, unA, unVal, convA, nilA, sconvA, b2sA, b2sOf, bytesOf, mmA, srcA, appA, sliceA, lohi, mkslA, envA, ↓reduceIte, Nat.reduceEqDiff, Nat.reduceAdd, Nat.reduceMul, reduceCtorEq, Nat.reduceLeDiff, fB, fBools, fBlks, fSegs, aBlk, aSg, aSt, stRow, List.drop_zero, List.take_succ_cons, List.take_zero, List.take_nil, Nat.mul_one, Nat.one_mul, List.cons_append, List.nil_append]
                rw [rslSt, e, if_pos rfl, ea]
                refine Ends.weak (Weak.trans (Weak.freezeC 1283 rfl (l := [(2, .op 1 0), (3, .v (.int .i64 k)), (4, .v (.int .i64 0))])
                  (h := [(1, .row true 32 [.os 1282 0 s.segs.length 2, fBools true s.held, .v (.slice none 0 0), .v (.int .i64 (s.next + 1))]), (1282, .row true 69 (((eSegs true s.segs).set (k * 2) (.v (.int .i64 s.next))).set (k * 2 + 1) (fBlks true s.opn)))]) ?_ ?_)
                  (Weak.freezeC 1282 rfl (l := [(2, .op 1 0), (3, .v (.int .i64 k)), (4, .v (.int .i64 0))])
                  (h := [(1, .row true 32 [.fs true (((eSegs true s.segs).set (k * 2) (.v (.int .i64 s.next))).set (k * 2 + 1) (fBlks true s.opn)) s.segs.length, fBools true s.held, .v (.slice none 0 0), .v (.int .i64 (s.next + 1))])]) ?_ ?_)) ?_
                · simp [tk_B, tk_Bools, tk_Blks, tk_Segs, AlL_append, renL_append, okL, okH, rowIs, okV, okHV, rowVt, vtL, okF, okHF, rowFz, fzL, fzV, fzOne, nilLike, oldLike, rn, s_envOf, s_envOf0, s_heapOf, s_heapOf0, s_put, s_put0, s_put1, s_app0, s_app1, Al, AlL, ren, renL, al_B, al_Bools, al_Blks, al_Segs, ren_B, ren_Bools, ren_Blks, ren_Segs, fB, fBools, fBlks, fSegs]
                · simp only [okHF, rowFz, s_put1, s_heapOf, Nat.reduceEqDiff, ↓reduceIte]
                  exact ⟨⟨by decide, ⟨trivial, trivial⟩, .inl rfl⟩, ⟨by decide, ⟨trivial, trivial⟩, .inr (.inr ⟨k * 2 + 1, s.opn.length, 3, by rw [List.getElem?_set_self (by simp [len_Segs]; omega)], by rw [tk_Blks, List.set_set]; rfl⟩)⟩, trivial⟩
                · simp [tk_B, tk_Bools, tk_Blks, tk_Segs, AlL_append, renL_append, okL, okH, rowIs, okV, okHV, rowVt, vtL, okF, okHF, rowFz, fzL, fzV, fzOne, nilLike, oldLike, rn, s_envOf, s_envOf0, s_heapOf, s_heapOf0, s_put, s_put0, s_put1, s_app0, s_app1, Al, AlL, ren, renL, al_B, al_Bools, al_Blks, al_Segs, ren_B, ren_Bools, ren_Blks, ren_Segs, fB, fBools, fBlks, fSegs]
                · simp [tk_B, tk_Bools, tk_Blks, tk_Segs, AlL_append, renL_append, okL, okH, rowIs, okV, okHV, rowVt, vtL, okF, okHF, rowFz, fzL, fzV, fzOne, nilLike, oldLike, rn, s_envOf, s_envOf0, s_heapOf, s_heapOf0, s_put, s_put0, s_put1, s_app0, s_app1, Al, AlL, ren, renL, al_B, al_Bools, al_Blks, al_Segs, ren_B, ren_Bools, ren_Blks, ren_Segs, fB, fBools, fBlks, fSegs]
                  exact .inl (List.take_of_length_le (by simp [len_Segs])).symm
                · rw [set_Segs (fr := true) hlt ⟨s.next, s.opn⟩]
                  exact Ends.imp (.inr rfl) (r0 := .tup [.agg [.fs true (eSegs true (s.segs.set k ⟨s.next, s.opn⟩)) s.segs.length, fBools true s.held, .v (.slice none 0 0), .v (.int .i64 (s.next + 1))], .v (.int .i64 k), .v (.int .i64 0)]) (by simp [resL, resOne, tupOf, getN, s_envOf, s_envOf0, s_heapOf, s_heapOf0, s_put1, s_app0, s_app1]) ⟨⟨al_Segs _, al_Bools _, trivial, trivial, trivial⟩, trivial, trivial, trivial⟩
                    (Imp.tupL ⟨Imp.aggL ⟨by rw [List.length_set]; exact Imp.refl _, Imp.refl _, Imp.nil _, Imp.refl _, trivial⟩, Imp.refl _, Imp.refl _, trivial⟩)
              · rename_i hh0
                refine famC_next (k + 1) (by omega) ⟨by omega, next (by simp [hf]; simpa using hh0)⟩ ?_
                refine Weak.calc [(0, 0), (1, 1)] (by decide) ?_ ?_ <;> simp [tk_B, tk_Bools, tk_Blks, tk_Segs, AlL_append, renL_append, okL, okH, rowIs, okV, okHV, rowVt, vtL, okF, okHF, rowFz, fzL, fzV, fzOne, nilLike, oldLike, rn, s_envOf, s_envOf0, s_heapOf, s_heapOf0, s_put, s_put0, s_put1, s_app0, s_app1, Al, AlL, ren, renL, al_B, al_Bools, al_Blks, al_Segs, ren_B, ren_Bools, ren_Blks, ren_Segs, fB, fBools, fBlks, fSegs, wrap64 (x := (k : Int) + 1) (by omega)]
            · rename_i hf
              refine famC_next (k + 1) (by omega) ⟨by omega, next (by simp [show freeB' x = false by simpa using hf])⟩ ?_
              refine Weak.calc [(0, 0), (1, 1)] (by decide) ?_ ?_ <;> simp [tk_B, tk_Bools, tk_Blks, tk_Segs, AlL_append, renL_append, okL, okH, rowIs, okV, okHV, rowVt, vtL, okF, okHF, rowFz, fzL, fzV, fzOne, nilLike, oldLike, rn, s_envOf, s_envOf0, s_heapOf, s_heapOf0, s_put, s_put0, s_put1, s_app0, s_app1, Al, AlL, ren, renL, al_B, al_Bools, al_Blks, al_Segs, ren_B, ren_Bools, ren_Blks, ren_Segs, fB, fBools, fBlks, fSegs, wrap64 (x := (k : Int) + 1) (by omega)]
          · have e1 : ¬ ((k : Int) < (s.segs.length : Int)) := by omega
            simp only [L_seal, e1, SS, boxA, cellsOf, foffA, loadA, ldA, idxA, fldA, binA, binVal, isSh, intVal, lenA, slenA, pickA, storeA, setN, getN, fillA, extA, beqA, eqsA, eqL, isnilA, unA, unVal, convA, nilA, sconvA, b2sA, b2sOf, bytesOf, mmA, srcA, appA, sliceA, lohi, mkslA, envA, ↓reduceIte, Nat.reduceEqDiff, Nat.reduceAdd, Nat.reduceMul, reduceCtorEq, Nat.reduceLeDiff, fB, fBools, fBlks, fSegs, aBlk, aSg, aSt, stRow, List.drop_zero, List.take_succ_cons, List.take_zero, List.take_nil, Nat.mul_one, Nat.one_mul, List.cons_append, List.nil_append]
            have e : rslE s = 51 := by
              have : rAt s = none := by
                unfold rAt
                rw [List.find?_eq_none]
                intro j hj
                have hjl := List.mem_range.1 hj
                rw [List.getElem?_eq_getElem hjl, List.getElem?_eq_getElem (show j < s.held.length by omega)]
                simp only [hno j _ _ (by omega) (List.getElem?_eq_getElem hjl) (List.getElem?_eq_getElem (show j < s.held.length by omega))]
                simp
              simp [rslE, hc, hn, this]; intro h9; exact absurd h9 ho2
            rw [(err e (by decide)).1, (err e (by decide)).2, e]
            exact Ends.zero3 (by simp [resL, resOne, tupOf, getN, s_envOf, s_envOf0, s_heapOf, s_heapOf0, s_put1, s_app0, s_app1])
def rputE (s : St) (b : Blk) : Int := if rchk s = true then (if mayB' b = true then (if 8 ≤ s.opn.length then 51 else 0) else 1) else 9
def rputSt (s : St) (b : Blk) : St := if rputE s b = 0 then ⟨s.segs, s.held, s.opn ++ [b], s.next⟩ else St.zero
set_option maxHeartbeats 1000000 in
theorem rPut_spec (fr fb : Bool) (s : St) (b : Blk) (nb : Nat) : ASound Try.prog 31 [aSt fr s, aBlk fb b] nb (.ret (.tup [aSt true (rputSt s b), .v (.int .i64 (rputE s b))]) []) := by
  refine ok_31.sound (by simp) ⟨al_aSt s, al_aBlk b, trivial⟩ ?_
  simp only [ac_31, SS, boxA, cellsOf, foffA, loadA, ldA, idxA, fldA, binA, binVal, isSh, intVal, lenA, slenA, pickA, storeA, setN, getN, fillA, extA, beqA, eqsA, eqL, isnilA, unA, unVal, convA, nilA, sconvA, b2sA, b2sOf, bytesOf, mmA, srcA, appA, sliceA, lohi, mkslA, envA, ↓reduceIte, Nat.reduceEqDiff, Nat.reduceAdd, Nat.reduceMul, reduceCtorEq, Nat.reduceLeDiff, fB, fBools, fBlks, fSegs, aBlk, aSg, aSt, stRow, List.drop_zero, List.take_succ_cons, List.take_zero, List.take_nil, Nat.mul_one, Nat.one_mul, List.cons_append, List.nil_append]
  refine ⟨_, rCheck_spec fr s _, ?_⟩
  simp only [SS, boxA, cellsOf, foffA, loadA, ldA, idxA, fldA, binA, binVal, isSh, intVal, lenA, slenA, pickA, storeA, setN, getN, fillA, extA, beqA, eqsA, eqL, isnilA, unA, unVal, convA, nilA, sconvA, b2sA, b2sOf, bytesOf, mmA, srcA, appA, sliceA, lohi, mkslA, envA, ↓reduceIte, Nat.reduceEqDiff, Nat.reduceAdd, Nat.reduceMul, reduceCtorEq, Nat.reduceLeDiff, fB, fBools, fBlks, fSegs, aBlk, aSg, aSt, stRow, List.drop_zero, List.take_succ_cons, List.take_zero, List.take_nil, Nat.mul_one, Nat.one_mul, List.cons_append, List.nil_append]
  cases hc : rchk s with
  | false =>
    simp only [errN_f, Int.reduceEq, not_false_eq_true, SS, boxA, cellsOf, foffA, loadA, ldA, idxA, fldA, binA, binVal, isSh, intVal, lenA, slenA, pickA, storeA, setN, getN, fillA, extA, beqA, eqsA, eqL, isnilA, unA, unVal, convA, nilA, sconvA, b2sA, b2sOf, bytesOf, mmA, srcA, appA, sliceA, lohi, mkslA, envA, ↓reduceIte, Nat.reduceEqDiff, Nat.reduceAdd, Nat.reduceMul, reduceCtorEq, Nat.reduceLeDiff, fB, fBools, fBlks, fSegs, aBlk, aSg, aSt, stRow, List.drop_zero, List.take_succ_cons, List.take_zero, List.take_nil, Nat.mul_one, Nat.one_mul, List.cons_append, List.nil_append]
    have e : rputE s b = 9 := by simp [rputE, hc]
    rw [rputSt, e, if_neg (by decide)]
    exact Ends.zero (by simp [resL, resOne, tupOf, getN, s_envOf, s_envOf0, s_heapOf, s_heapOf0, s_put1, s_app0, s_app1])
  | true =>
    have rb := rchk_RB hc
    simp only [errN_t, SS, boxA, cellsOf, foffA, loadA, ldA, idxA, fldA, binA, binVal, isSh, intVal, lenA, slenA, pickA, storeA, setN, getN, fillA, extA, beqA, eqsA, eqL, isnilA, unA, unVal, convA, nilA, sconvA, b2sA, b2sOf, bytesOf, mmA, srcA, appA, sliceA, lohi, mkslA, envA, ↓reduceIte, Nat.reduceEqDiff, Nat.reduceAdd, Nat.reduceMul, reduceCtorEq, Nat.reduceLeDiff, fB, fBools, fBlks, fSegs, aBlk, aSg, aSt, stRow, List.drop_zero, List.take_succ_cons, List.take_zero, List.take_nil, Nat.mul_one, Nat.one_mul, List.cons_append, List.nil_append]
    refine ⟨_, rmay_spec fb b _, ?_⟩
    cases hm : mayB' b with
    | false =>
      simp only [SS, boxA, cellsOf, foffA, loadA, ldA, idxA, fldA, binA, binVal, isSh, intVal, lenA, slenA, pickA, storeA, setN, getN, fillA, extA, beqA, eqsA, eqL, isnilA, unA, unVal, convA, nilA, sconvA, b2sA, b2sOf, bytesOf, mmA, srcA, appA, sliceA, lohi, mkslA, envA, ↓reduceIte, Nat.reduceEqDiff, Nat.reduceAdd, Nat.reduceMul, reduceCtorEq, Nat.reduceLeDiff, fB, fBools, fBlks, fSegs, aBlk, aSg, aSt, stRow, List.drop_zero, List.take_succ_cons, List.take_zero, List.take_nil, Nat.mul_one, Nat.one_mul, List.cons_append, List.nil_append]
      have e : rputE s b = 1 := by simp [rputE, hc, hm]
      rw [rputSt, e, if_neg (by decide)]
      exact Ends.zero (by simp [resL, resOne, tupOf, getN, s_envOf, s_envOf0, s_heapOf, s_heapOf0, s_put1, s_app0, s_app1])
    | true =>
      simp only [SS, boxA, cellsOf, foffA, loadA, ldA, idxA, fldA, binA, binVal, isSh, intVal, lenA, slenA, pickA, storeA, setN, getN, fillA, extA, beqA, eqsA, eqL, isnilA, unA, unVal, convA, nilA, sconvA, b2sA, b2sOf, bytesOf, mmA, srcA, appA, sliceA, lohi, mkslA, envA, ↓reduceIte, Nat.reduceEqDiff, Nat.reduceAdd, Nat.reduceMul, reduceCtorEq, Nat.reduceLeDiff, fB, fBools, fBlks, fSegs, aBlk, aSg, aSt, stRow, List.drop_zero, List.take_succ_cons, List.take_zero, List.take_nil, Nat.mul_one, Nat.one_mul, List.cons_append, List.nil_append]
      by_cases ho : 8 ≤ s.opn.length
      · have ho' : (8 : Int) ≤ (s.opn.length : Int) := by omega
        simp only [ho', SS, boxA, cellsOf, foffA, loadA, ldA, idxA, fldA, binA, binVal, isSh, intVal, lenA, slenA, pickA, storeA, setN, getN, fillA, extA, beqA, eqsA, eqL, isnilA, unA, unVal, convA, nilA, sconvA, b2sA, b2sOf, bytesOf, mmA, srcA, appA, sliceA, lohi, mkslA, envA, ↓reduceIte, Nat.reduceEqDiff, Nat.reduceAdd, Nat.reduceMul, reduceCtorEq, Nat.reduceLeDiff, fB, fBools, fBlks, fSegs, aBlk, aSg, aSt, stRow, List.drop_zero, List.take_succ_cons, List.take_zero, List.take_nil, Nat.mul_one, Nat.one_mul, List.cons_append, List.nil_append]
        have e : rputE s b = 51 := by simp [rputE, hc, hm, ho]
        rw [rputSt, e, if_neg (by decide)]
        exact Ends.zero (by simp [resL, resOne, tupOf, getN, s_envOf, s_envOf0, s_heapOf, s_heapOf0, s_put1, s_app0, s_app1])
      · have ho' : ¬ (8 : Int) ≤ (s.opn.length : Int) := by omega
        simp only [ho', SS, boxA, cellsOf, foffA, loadA, ldA, idxA, fldA, binA, binVal, isSh, intVal, lenA, slenA, pickA, storeA, setN, getN, fillA, extA, beqA, eqsA, eqL, isnilA, unA, unVal, convA, nilA, sconvA, b2sA, b2sOf, bytesOf, mmA, srcA, appA, sliceA, lohi, mkslA, envA, ↓reduceIte, Nat.reduceEqDiff, Nat.reduceAdd, Nat.reduceMul, reduceCtorEq, Nat.reduceLeDiff, fB, fBools, fBlks, fSegs, aBlk, aSg, aSt, stRow, List.drop_zero, List.take_succ_cons, List.take_zero, List.take_nil, Nat.mul_one, Nat.one_mul, List.cons_append, List.nil_append]
        refine ⟨_, rOwn_os fr s _ rb, ?_⟩
        have hcap : (s.opn.length + 1) * 40 ≤ 140737488355328 := by omega
        simp only [len_Blks, hcap, SS, boxA, cellsOf, foffA, loadA, ldA, idxA, fldA, binA, binVal, isSh, intVal, lenA, slenA, pickA, storeA, setN, getN, fillA, extA, beqA, eqsA, eqL, isnilA, unA, unVal, convA, nilA, sconvA, b2sA, b2sOf, bytesOf, mmA, srcA, appA, sliceA, lohi, mkslA, envA, ↓reduceIte, Nat.reduceEqDiff, Nat.reduceAdd, Nat.reduceMul, reduceCtorEq, Nat.reduceLeDiff, fB, fBools, fBlks, fSegs, aBlk, aSg, aSt, stRow, List.drop_zero, List.take_succ_cons, List.take_zero, List.take_nil, Nat.mul_one, Nat.one_mul, List.cons_append, List.nil_append]
        refine ⟨_, copied_spec fb b.data _ (by have := mayB'_len hm; omega), ?_⟩
        simp only [len_Blks, hcap, SS, boxA, cellsOf, foffA, loadA, ldA, idxA, fldA, binA, binVal, isSh, intVal, lenA, slenA, pickA, storeA, setN, getN, fillA, extA, beqA, eqsA, eqL, isnilA, unA, unVal, convA, nilA, sconvA, b2sA, b2sOf, bytesOf, mmA, srcA, appA, sliceA, lohi, mkslA, envA, ↓reduceIte, Nat.reduceEqDiff, Nat.reduceAdd, Nat.reduceMul, reduceCtorEq, Nat.reduceLeDiff, fB, fBools, fBlks, fSegs, aBlk, aSg, aSt, stRow, List.drop_zero, List.take_succ_cons, List.take_zero, List.take_nil, Nat.mul_one, Nat.one_mul, List.cons_append, List.nil_append]
        have e : rputE s b = 0 := by simp [rputE, hc, hm, ho]
        rw [rputSt, e, if_pos rfl]
        refine ⟨by rfl, Ends.weak (Weak.trans (Weak.freezeC 2048 rfl (l := [(4, .op 128 0), (5, .v (.int .i64 0))])
            (h := [(128, .row true 32 [.os 1152 0 s.segs.length 2, fBools true s.held, fBlks true (s.opn ++ [b]), .v (.int .i64 s.next)]), (1152, .row true 69 (eSegs true s.segs))]) ?_ ?_)
          (Weak.freezeC 1152 rfl (l := [(4, .op 128 0), (5, .v (.int .i64 0))])
            (h := [(128, .row true 32 [fSegs true s.segs, fBools true s.held, fBlks true (s.opn ++ [b]), .v (.int .i64 s.next)])]) ?_ ?_)) ?_⟩
        · simp [tk_B, tk_Bools, tk_Blks, tk_Segs, AlL_append, renL_append, okL, okH, rowIs, okV, okHV, rowVt, vtL, okF, okHF, rowFz, fzL, fzV, fzOne, nilLike, oldLike, rn, s_envOf, s_envOf0, s_heapOf, s_heapOf0, s_put, s_put0, s_put1, s_app0, s_app1, Al, AlL, ren, renL, al_B, al_Bools, al_Blks, al_Segs, ren_B, ren_Bools, ren_Blks, ren_Segs, fB, fBools, fBlks, fSegs]
        · simp [tk_B, tk_Bools, tk_Blks, tk_Segs, AlL_append, renL_append, okL, okH, rowIs, okV, okHV, rowVt, vtL, okF, okHF, rowFz, fzL, fzV, fzOne, nilLike, oldLike, rn, s_envOf, s_envOf0, s_heapOf, s_heapOf0, s_put, s_put0, s_put1, s_app0, s_app1, Al, AlL, ren, renL, al_B, al_Bools, al_Blks, al_Segs, ren_B, ren_Bools, ren_Blks, ren_Segs, fB, fBools, fBlks, fSegs]
          refine .inl (Eq.symm ?_)
          rw [List.take_of_length_le (by simp [len_Blks]; omega)]
          simp [eBlks, eBlk, fB]
        · simp [tk_B, tk_Bools, tk_Blks, tk_Segs, AlL_append, renL_append, okL, okH, rowIs, okV, okHV, rowVt, vtL, okF, okHF, rowFz, fzL, fzV, fzOne, nilLike, oldLike, rn, s_envOf, s_envOf0, s_heapOf, s_heapOf0, s_put, s_put0, s_put1, s_app0, s_app1, Al, AlL, ren, renL, al_B, al_Bools, al_Blks, al_Segs, ren_B, ren_Bools, ren_Blks, ren_Segs, fB, fBools, fBlks, fSegs]
        · simp [tk_B, tk_Bools, tk_Blks, tk_Segs, AlL_append, renL_append, okL, okH, rowIs, okV, okHV, rowVt, vtL, okF, okHF, rowFz, fzL, fzV, fzOne, nilLike, oldLike, rn, s_envOf, s_envOf0, s_heapOf, s_heapOf0, s_put, s_put0, s_put1, s_app0, s_app1, Al, AlL, ren, renL, al_B, al_Bools, al_Blks, al_Segs, ren_B, ren_Bools, ren_Blks, ren_Segs, fB, fBools, fBlks, fSegs]
        · exact Ends.data (.inr rfl) (by simp [fSegs, fBools, fBlks, resL, resOne, tupOf, getN, s_envOf, s_envOf0, s_heapOf, s_heapOf0, s_put1, s_app0, s_app1]) ⟨al_aSt ⟨s.segs, s.held, s.opn ++ [b], s.next⟩, trivial, trivial⟩
end Go.Proofs.Ytfoeddmbhmfjcaa
