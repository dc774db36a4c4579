/- Merged texts: K7, J8, J9, JA, JB, JC. -/
import Derived.Test.YtfoeddmbhmfjcaaXD
import Derived.Test.YtfoeddmbhmfjcaaProg
import Derived.Test.YtfoeddmbhmfjcaaXH
import Derived.Test.YtfoeddmbhmfjcaaXG
import Derived.Test.YtfoeddmbhmfjcaaXJ
import Derived.Test.YtfoeddmbhmfjcaaXI
set_option linter.unusedSimpArgs false
set_option linter.unusedVariables false
/- Functions of the program, compiled. -/
namespace Go.Proofs.Ytfoeddmbhmfjcaa
set_option maxRecDepth 100000
def ac_73 : AC :=
(.seq (.reg false [⟨some 3, .box 32 (.tmp 0), none, [0], []⟩,
    ⟨some 6, .mv (.const (.int .i64 (0))), none, [], []⟩,
    ⟨some 7, .mv (.const (.int .i64 (0))), none, [], []⟩,
    ⟨some 8, .mv (.const (.bool false)), none, [], []⟩] [1, 2, 3])
(.seq (.reg false [⟨some 9, .mv (.const (.int .i64 (0))), none, [], []⟩,
    ⟨some 10, .mv (.const (.int .i64 (0))), none, [], []⟩,
    ⟨some 11, .mv (.const (.bool false)), none, [], []⟩] [1, 2, 3, 9, 10, 11])
(.seq (.reg false [⟨some 16, .foff 2 (.tmp 3), none, [3], []⟩,
    ⟨some 17, .load false 1 (.tmp 16), none, [16], []⟩,
    ⟨some 18, .call 60 [(.tmp 17)], none, [17], []⟩,
    ⟨some 12, .mv (.tmp 18), none, [18], []⟩] [1, 2, 3, 9, 10, 11, 12])
(.seq (.seq (.reg false [⟨some 13, .mv (.const (.int .i64 (0))), none, [], []⟩] [1, 2, 3, 9, 10, 11, 12, 13])
(.block 0 (.loop (.seq (.seq (.reg false [⟨some 19, .mv (.tmp 13), none, [13], []⟩,
    ⟨some 20, .foff 0 (.tmp 3), none, [3], []⟩,
    ⟨some 21, .load false 1 (.tmp 20), none, [20], []⟩,
    ⟨some 22, .len false (.tmp 21), none, [21], []⟩,
    ⟨some 23, .bin .lss (.tmp 19) (.tmp 22), none, [19, 22], []⟩] [1, 2, 3, 9, 10, 11, 12, 13, 23])
(.cond (.tmp 23)
.skip
(.exit 0)))
(.seq (.block 1 (.reg false [⟨some 26, .mv (.tmp 12), none, [12], []⟩,
    ⟨some 27, .foff 0 (.tmp 3), none, [3], []⟩,
    ⟨some 28, .load false 1 (.tmp 27), none, [27], []⟩,
    ⟨some 29, .mv (.tmp 13), none, [13], []⟩,
    ⟨some 30, .idx 2 (.tmp 28) (.tmp 29), none, [28, 29], []⟩,
    ⟨some 31, .foff 1 (.tmp 30), none, [30], []⟩,
    ⟨some 32, .load false 1 (.tmp 31), none, [31], []⟩,
    ⟨some 33, .append 55 3 40 (.tmp 26) (.tmp 32), none, [26, 32], []⟩,
    ⟨some 12, .mv (.tmp 33), none, [33], []⟩] [1, 2, 3, 9, 10, 11, 12, 13]))
(.reg false [⟨some 24, .mv (.tmp 13), none, [13], []⟩,
    ⟨some 25, .bin .add (.tmp 24) (.const (.int .i64 (1))), none, [24], []⟩,
    ⟨some 13, .mv (.tmp 25), none, [25], []⟩] [1, 2, 3, 9, 10, 11, 12, 13]))))))
(.seq (.seq (.reg false [⟨some 14, .mv (.const (.int .i64 (0))), none, [], []⟩] [1, 2, 9, 10, 11, 12, 14])
(.block 2 (.loop (.seq (.seq (.reg false [⟨some 34, .mv (.tmp 14), none, [14], []⟩,
    ⟨some 35, .mv (.tmp 12), none, [12], []⟩,
    ⟨some 36, .len false (.tmp 35), none, [35], []⟩,
    ⟨some 37, .bin .lss (.tmp 34) (.tmp 36), none, [34, 36], []⟩] [1, 2, 9, 10, 11, 12, 14, 37])
(.cond (.tmp 37)
.skip
(.exit 2)))
(.seq (.block 3 (.seq (.reg false [⟨some 40, .mv (.tmp 12), none, [12], []⟩,
    ⟨some 41, .mv (.tmp 14), none, [14], []⟩,
    ⟨some 42, .idx 3 (.tmp 40) (.tmp 41), none, [40, 41], []⟩,
    ⟨some 43, .load true 3 (.tmp 42), none, [42], []⟩,
    ⟨some 15, .new 55 [(.int .i64 (0)), (.int .i64 (0)), (.slice none 0 0)], none, [], []⟩,
    ⟨none, .store 3 (.tmp 15) (.tmp 43), none, [15, 43], []⟩] [1, 2, 9, 10, 11, 12, 14, 15])
(.seq (.seq (.reg false [⟨some 44, .foff 0 (.tmp 15), none, [15], []⟩,
    ⟨some 45, .load false 1 (.tmp 44), none, [44], []⟩,
    ⟨some 46, .mv (.tmp 1), none, [1], []⟩,
    ⟨some 47, .bin .lss (.tmp 45) (.tmp 46), none, [45, 46], []⟩,
    ⟨some 48, .mv (.tmp 47), none, [47], []⟩,
    ⟨some 49, .foff 0 (.tmp 15), some (48, false), [15, 48], []⟩,
    ⟨some 50, .load false 1 (.tmp 49), some (48, false), [49, 48], []⟩,
    ⟨some 51, .mv (.tmp 1), some (48, false), [1, 48], []⟩,
    ⟨some 52, .bin .eql (.tmp 50) (.tmp 51), some (48, false), [50, 51, 48], []⟩,
    ⟨some 53, .mv (.tmp 52), some (48, false), [52, 48], []⟩,
    ⟨some 54, .foff 1 (.tmp 15), some (53, true), [15, 53], []⟩,
    ⟨some 55, .load false 1 (.tmp 54), some (53, true), [54, 53], []⟩,
    ⟨some 56, .mv (.tmp 2), some (53, true), [2, 53], []⟩,
    ⟨some 57, .bin .leq (.tmp 55) (.tmp 56), some (53, true), [55, 56, 53], []⟩,
    ⟨some 58, .pick (.tmp 53) (.tmp 57) (.const (.bool false)), some (48, false), [53, 57, 48], []⟩,
    ⟨some 59, .mv (.tmp 58), some (48, false), [58, 48], []⟩,
    ⟨some 60, .mv (.tmp 1), some (59, true), [1, 59], []⟩,
    ⟨some 61, .bin .gtr (.tmp 60) (.const (.int .i64 (0))), some (59, true), [60, 59], []⟩,
    ⟨some 62, .pick (.tmp 59) (.tmp 61) (.const (.bool false)), some (48, false), [59, 61, 48], []⟩,
    ⟨some 63, .pick (.tmp 48) (.const (.bool true)) (.tmp 62), none, [48, 62], []⟩] [1, 2, 9, 10, 11, 12, 14, 15, 63])
(.cond (.tmp 63)
(.exit 3)
.skip))
(.seq (.reg false [⟨some 64, .mv (.tmp 11), none, [11], []⟩,
    ⟨some 65, .un .not (.tmp 64), none, [64], []⟩,
    ⟨some 66, .mv (.tmp 65), none, [65], []⟩,
    ⟨some 67, .foff 0 (.tmp 15), some (66, false), [15, 66], []⟩,
    ⟨some 68, .load false 1 (.tmp 67), some (66, false), [67, 66], []⟩,
    ⟨some 69, .mv (.tmp 9), some (66, false), [9, 66], []⟩,
    ⟨some 70, .bin .lss (.tmp 68) (.tmp 69), some (66, false), [68, 69, 66], []⟩,
    ⟨some 71, .pick (.tmp 66) (.const (.bool true)) (.tmp 70), none, [66, 70], []⟩,
    ⟨some 72, .mv (.tmp 71), none, [71], []⟩,
    ⟨some 73, .foff 0 (.tmp 15), some (72, false), [15, 72], []⟩,
    ⟨some 74, .load false 1 (.tmp 73), some (72, false), [73, 72], []⟩,
    ⟨some 75, .mv (.tmp 9), some (72, false), [9, 72], []⟩,
    ⟨some 76, .bin .eql (.tmp 74) (.tmp 75), some (72, false), [74, 75, 72], []⟩,
    ⟨some 77, .mv (.tmp 76), some (72, false), [76, 72], []⟩,
    ⟨some 78, .foff 1 (.tmp 15), some (77, true), [15, 77], []⟩,
    ⟨some 79, .load false 1 (.tmp 78), some (77, true), [78, 77], []⟩,
    ⟨some 80, .mv (.tmp 10), some (77, true), [10, 77], []⟩,
    ⟨some 81, .bin .lss (.tmp 79) (.tmp 80), some (77, true), [79, 80, 77], []⟩,
    ⟨some 82, .pick (.tmp 77) (.tmp 81) (.const (.bool false)), some (72, false), [77, 81, 72], []⟩,
    ⟨some 83, .pick (.tmp 72) (.const (.bool true)) (.tmp 82), none, [72, 82], []⟩] [1, 2, 9, 10, 11, 12, 14, 15, 83])
(.cond (.tmp 83)
(.reg true [⟨some 84, .foff 0 (.tmp 15), none, [15], []⟩,
    ⟨some 85, .load false 1 (.tmp 84), none, [84], [0]⟩,
    ⟨some 86, .foff 1 (.tmp 15), none, [15], []⟩,
    ⟨some 87, .load false 1 (.tmp 86), none, [86], [2]⟩,
    ⟨some 9, .mv (.tmp 85), none, [85], [1, 0]⟩,
    ⟨some 10, .mv (.tmp 87), none, [87], [3, 4, 0, 1, 2]⟩,
    ⟨some 11, .mv (.const (.bool true)), none, [], [5, 0, 1, 2, 3, 4]⟩] [1, 2, 9, 10, 11, 12, 14])
.skip)))))
(.reg false [⟨some 38, .mv (.tmp 14), none, [14], []⟩,
    ⟨some 39, .bin .add (.tmp 38) (.const (.int .i64 (1))), none, [38], []⟩,
    ⟨some 14, .mv (.tmp 39), none, [39], []⟩] [1, 2, 9, 10, 11, 12, 14]))))))
(.seq (.reg false [⟨some 88, .mv (.tmp 9), none, [9], []⟩,
    ⟨some 89, .mv (.tmp 10), none, [10], []⟩,
    ⟨some 90, .mv (.tmp 11), none, [11], []⟩,
    ⟨some 6, .mv (.tmp 88), none, [88], []⟩,
    ⟨some 7, .mv (.tmp 89), none, [89], []⟩,
    ⟨some 8, .mv (.tmp 90), none, [90], []⟩] [6, 7, 8])
.ret))))))
theorem ok_73 : FnOk Try.prog 73 91 ac_73 [.tmp 6, .tmp 7, .tmp 8] := ⟨Try.f73, Try.func73, by kernel_rfl, by kernel_rfl, by kernel_rfl, by kernel_rfl, by kernel_rfl⟩
def ac_44 : AC :=
(.seq (.reg false [⟨some 1, .box 32 (.tmp 0), none, [0], []⟩,
    ⟨some 2, .mv (.const (.slice none 0 0)), none, [], []⟩,
    ⟨some 3, .mv (.const (.int .i64 (0))), none, [], []⟩] [1])
(.seq (.seq (.reg false [⟨some 14, .load true 4 (.tmp 1), none, [1], []⟩,
    ⟨some 15, .call 34 [(.tmp 14)], none, [14], []⟩,
    ⟨some 16, .bin .neq (.tmp 15) (.const (.int .i64 (0))), none, [15], []⟩] [1, 16])
(.cond (.tmp 16)
(.seq (.reg false [⟨some 2, .mv (.const (.slice none 0 0)), none, [], []⟩,
    ⟨some 3, .mv (.const (.int .i64 (9))), none, [], []⟩] [2, 3])
.ret)
.skip))
(.seq (.reg false [⟨some 4, .mv (.const (.slice none 0 0)), none, [], []⟩] [1, 4])
(.seq (.reg false [⟨some 5, .mv (.const (.int .i64 (0))), none, [], []⟩,
    ⟨some 6, .mv (.const (.int .i64 (0))), none, [], []⟩] [1, 4, 5, 6])
(.block 0 (.loop (.block 1 (.seq (.reg false [⟨some 18, .load true 4 (.tmp 1), none, [1], []⟩,
    ⟨some 19, .mv (.tmp 5), none, [5], []⟩,
    ⟨some 20, .mv (.tmp 6), none, [6], []⟩,
    ⟨some 21, .call 73 [(.tmp 18), (.tmp 19), (.tmp 20)], none, [18, 19, 20], []⟩,
    ⟨some 17, .mv (.tmp 21), none, [21], []⟩,
    ⟨some 22, .ext 0 (.tmp 17), none, [17], []⟩,
    ⟨some 23, .ext 1 (.tmp 17), none, [17], []⟩,
    ⟨some 24, .ext 2 (.tmp 17), none, [17], []⟩,
    ⟨some 7, .mv (.tmp 22), none, [22], []⟩,
    ⟨some 8, .mv (.tmp 23), none, [23], []⟩,
    ⟨some 9, .mv (.tmp 24), none, [24], []⟩] [1, 4, 7, 8, 9])
(.seq (.seq (.reg false [⟨some 25, .mv (.tmp 9), none, [9], []⟩,
    ⟨some 26, .un .not (.tmp 25), none, [25], []⟩] [1, 4, 7, 8, 26])
(.cond (.tmp 26)
(.seq (.reg false [⟨some 27, .mv (.tmp 4), none, [4], []⟩,
    ⟨some 2, .mv (.tmp 27), none, [27], []⟩,
    ⟨some 3, .mv (.const (.int .i64 (0))), none, [], []⟩] [2, 3])
.ret)
.skip))
(.seq (.reg false [⟨some 28, .mv (.tmp 7), none, [7], []⟩,
    ⟨some 29, .mv (.tmp 8), none, [8], []⟩,
    ⟨some 5, .mv (.tmp 28), none, [28], []⟩,
    ⟨some 6, .mv (.tmp 29), none, [29], []⟩] [1, 4, 5, 6])
(.seq (.reg false [⟨some 31, .load true 4 (.tmp 1), none, [1], []⟩,
    ⟨some 32, .mv (.tmp 5), none, [5], []⟩,
    ⟨some 33, .mv (.tmp 6), none, [6], []⟩,
    ⟨some 34, .call 59 [(.tmp 31), (.tmp 32), (.tmp 33)], none, [31, 32, 33], []⟩,
    ⟨some 30, .mv (.tmp 34), none, [34], []⟩,
    ⟨some 35, .ext 0 (.tmp 30), none, [30], []⟩,
    ⟨some 36, .ext 1 (.tmp 30), none, [30], []⟩,
    ⟨some 37, .ext 2 (.tmp 30), none, [30], []⟩,
    ⟨some 38, .ext 3 (.tmp 30), none, [30], []⟩,
    ⟨some 10, .mv (.tmp 35), none, [35], []⟩,
    ⟨some 11, .mv (.tmp 36), none, [36], []⟩,
    ⟨some 12, .mv (.tmp 37), none, [37], []⟩,
    ⟨some 13, .mv (.tmp 38), none, [38], []⟩] [1, 4, 5, 6, 12])
(.seq (.reg false [⟨some 39, .mv (.tmp 12), none, [12], []⟩,
    ⟨some 40, .len false (.tmp 39), none, [39], []⟩,
    ⟨some 41, .bin .gtr (.tmp 40) (.const (.int .i64 (0))), none, [40], []⟩] [1, 4, 5, 6, 12, 41])
(.cond (.tmp 41)
(.reg false [⟨some 42, .mv (.tmp 4), none, [4], []⟩,
    ⟨some 43, .mv (.tmp 5), none, [5], []⟩,
    ⟨some 44, .mv (.tmp 6), none, [6], []⟩,
    ⟨some 45, .mv (.tmp 12), none, [12], []⟩,
    ⟨some 46, .call 66 [(.tmp 45)], none, [45], []⟩,
    ⟨some 47, .build [(.int .i64 (0)), (.int .i64 (0)), (.slice none 0 0)] [(0, 1, (.tmp 43)), (1, 1, (.tmp 44)), (2, 1, (.tmp 46))], none, [43, 44, 46], []⟩,
    ⟨some 48, .bslice 55 3 1 [(.int .i64 (0)), (.int .i64 (0)), (.slice none 0 0)] [(0, 3, (.tmp 47))], none, [47], []⟩,
    ⟨some 49, .append 55 3 40 (.tmp 42) (.tmp 48), none, [42, 48], []⟩,
    ⟨some 4, .mv (.tmp 49), none, [49], []⟩] [1, 4, 5, 6])
.skip)))))))))))))
theorem ok_44 : FnOk Try.prog 44 50 ac_44 [.tmp 2, .tmp 3] := ⟨Try.f44, Try.func44, by kernel_rfl, by kernel_rfl, by kernel_rfl, by kernel_rfl, by kernel_rfl⟩
def ac_42 : AC :=
(.seq (.reg false [⟨some 3, .box 32 (.tmp 0), none, [0], []⟩,
    ⟨some 6, .mv (.const (.slice none 0 0)), none, [], []⟩,
    ⟨some 7, .mv (.const (.bool false)), none, [], []⟩,
    ⟨some 8, .mv (.const (.int .i64 (0))), none, [], []⟩] [1, 2, 3])
(.seq (.seq (.reg false [⟨some 13, .load true 4 (.tmp 3), none, [3], []⟩,
    ⟨some 14, .call 34 [(.tmp 13)], none, [13], []⟩,
    ⟨some 15, .bin .neq (.tmp 14) (.const (.int .i64 (0))), none, [14], []⟩] [1, 2, 3, 15])
(.cond (.tmp 15)
(.seq (.reg false [⟨some 6, .mv (.const (.slice none 0 0)), none, [], []⟩,
    ⟨some 7, .mv (.const (.bool false)), none, [], []⟩,
    ⟨some 8, .mv (.const (.int .i64 (9))), none, [], []⟩] [6, 7, 8])
.ret)
.skip))
(.seq (.reg false [⟨some 17, .load true 4 (.tmp 3), none, [3], []⟩,
    ⟨some 18, .mv (.tmp 1), none, [1], []⟩,
    ⟨some 19, .mv (.tmp 2), none, [2], []⟩,
    ⟨some 20, .call 59 [(.tmp 17), (.tmp 18), (.tmp 19)], none, [17, 18, 19], []⟩,
    ⟨some 16, .mv (.tmp 20), none, [20], []⟩,
    ⟨some 21, .ext 0 (.tmp 16), none, [16], []⟩,
    ⟨some 22, .ext 1 (.tmp 16), none, [16], []⟩,
    ⟨some 23, .ext 2 (.tmp 16), none, [16], []⟩,
    ⟨some 24, .ext 3 (.tmp 16), none, [16], []⟩,
    ⟨some 9, .mv (.tmp 21), none, [21], []⟩,
    ⟨some 10, .mv (.tmp 22), none, [22], []⟩,
    ⟨some 11, .mv (.tmp 23), none, [23], []⟩,
    ⟨some 12, .mv (.tmp 24), none, [24], []⟩] [11, 12])
(.seq (.seq (.reg false [⟨some 25, .mv (.tmp 12), none, [12], []⟩,
    ⟨some 26, .bin .eql (.tmp 25) (.const (.int .i64 (0))), none, [25], []⟩,
    ⟨some 27, .mv (.tmp 26), none, [26], []⟩,
    ⟨some 28, .mv (.tmp 11), some (27, false), [11, 27], []⟩,
    ⟨some 29, .len false (.tmp 28), some (27, false), [28, 27], []⟩,
    ⟨some 30, .bin .eql (.tmp 29) (.const (.int .i64 (0))), some (27, false), [29, 27], []⟩,
    ⟨some 31, .pick (.tmp 27) (.const (.bool true)) (.tmp 30), none, [27, 30], []⟩] [11, 31])
(.cond (.tmp 31)
(.seq (.reg false [⟨some 6, .mv (.const (.slice none 0 0)), none, [], []⟩,
    ⟨some 7, .mv (.const (.bool false)), none, [], []⟩,
    ⟨some 8, .mv (.const (.int .i64 (0))), none, [], []⟩] [6, 7, 8])
.ret)
.skip))
(.seq (.reg false [⟨some 32, .mv (.tmp 11), none, [11], []⟩,
    ⟨some 33, .call 66 [(.tmp 32)], none, [32], []⟩,
    ⟨some 6, .mv (.tmp 33), none, [33], []⟩,
    ⟨some 7, .mv (.const (.bool true)), none, [], []⟩,
    ⟨some 8, .mv (.const (.int .i64 (0))), none, [], []⟩] [6, 7, 8])
.ret)))))
theorem ok_42 : FnOk Try.prog 42 34 ac_42 [.tmp 6, .tmp 7, .tmp 8] := ⟨Try.f42, Try.func42, by kernel_rfl, by kernel_rfl, by kernel_rfl, by kernel_rfl, by kernel_rfl⟩
def ac_10 : AC :=
(.seq (.reg false [⟨some 4, .box 32 (.tmp 0), none, [0], []⟩,
    ⟨some 5, .box 55 (.tmp 1), none, [1], []⟩,
    ⟨some 8, .mv (.const (.bool false)), none, [], []⟩] [2, 3, 4, 5])
(.seq (.reg false [⟨some 25, .load true 4 (.tmp 4), none, [4], []⟩,
    ⟨some 26, .call 18 [(.tmp 25)], none, [25], []⟩,
    ⟨some 9, .new 36 [(.slice none 0 0), (.slice none 0 0), (.slice none 0 0), (.int .i64 (0))], none, [], []⟩,
    ⟨none, .store 4 (.tmp 9) (.tmp 26), none, [9, 26], []⟩] [2, 3, 4, 5, 9])
(.seq (.reg true [⟨some 27, .foff 0 (.tmp 5), none, [5], []⟩,
    ⟨some 28, .load false 1 (.tmp 27), none, [27], [0]⟩,
    ⟨some 29, .foff 1 (.tmp 5), none, [5], []⟩,
    ⟨some 30, .load false 1 (.tmp 29), none, [29], [2]⟩,
    ⟨some 31, .foff 2 (.tmp 5), none, [5], []⟩,
    ⟨some 32, .load false 1 (.tmp 31), none, [31], [4]⟩,
    ⟨some 33, .call 29 [(.tmp 32)], none, [32], [5, 4]⟩,
    ⟨some 34, .build [(.int .i64 (0)), (.int .i64 (0)), (.slice none 0 0)] [(0, 1, (.tmp 28)), (1, 1, (.tmp 30)), (2, 1, (.tmp 33))], none, [28, 30, 33], [1, 3, 6, 0, 2, 5, 4]⟩,
    ⟨some 10, .new 57 [(.int .i64 (0)), (.int .i64 (0)), (.slice none 0 0)], none, [], []⟩,
    ⟨none, .store 3 (.tmp 10) (.tmp 34), none, [10, 34], [8, 7, 6, 0, 1, 2, 3, 4, 5]⟩] [2, 3, 4, 5, 9, 10])
(.seq (.reg false [⟨some 36, .load true 4 (.tmp 9), none, [9], []⟩,
    ⟨some 37, .load true 3 (.tmp 10), none, [10], []⟩,
    ⟨some 38, .call 30 [(.tmp 36), (.tmp 37)], none, [36, 37], []⟩,
    ⟨some 35, .mv (.tmp 38), none, [38], []⟩,
    ⟨some 39, .ext 0 (.tmp 35), none, [35], []⟩,
    ⟨some 40, .ext 1 (.tmp 35), none, [35], []⟩,
    ⟨some 11, .new 36 [(.slice none 0 0), (.slice none 0 0), (.slice none 0 0), (.int .i64 (0))], none, [], []⟩,
    ⟨none, .store 4 (.tmp 11) (.tmp 39), none, [11, 39], []⟩,
    ⟨some 12, .mv (.tmp 40), none, [40], []⟩] [2, 3, 4, 5, 9, 10, 11, 12])
(.seq (.reg false [⟨some 42, .load true 4 (.tmp 4), none, [4], []⟩,
    ⟨some 43, .load true 3 (.tmp 5), none, [5], []⟩,
    ⟨some 44, .call 31 [(.tmp 42), (.tmp 43)], none, [42, 43], []⟩,
    ⟨some 41, .mv (.tmp 44), none, [44], []⟩,
    ⟨some 45, .ext 0 (.tmp 41), none, [41], []⟩,
    ⟨some 46, .ext 1 (.tmp 41), none, [41], []⟩,
    ⟨some 13, .new 32 [(.slice none 0 0), (.slice none 0 0), (.slice none 0 0), (.int .i64 (0))], none, [], []⟩,
    ⟨none, .store 4 (.tmp 13) (.tmp 45), none, [13, 45], []⟩,
    ⟨some 14, .mv (.tmp 46), none, [46], []⟩] [2, 3, 4, 5, 9, 10, 11, 12, 13, 14])
(.seq (.reg false [⟨some 48, .load true 4 (.tmp 9), none, [9], []⟩,
    ⟨some 49, .mv (.tmp 2), none, [2], []⟩,
    ⟨some 50, .mv (.tmp 3), none, [3], []⟩,
    ⟨some 51, .call 41 [(.tmp 48), (.tmp 49), (.tmp 50)], none, [48, 49, 50], []⟩,
    ⟨some 47, .mv (.tmp 51), none, [51], []⟩,
    ⟨some 52, .ext 0 (.tmp 47), none, [47], []⟩,
    ⟨some 53, .ext 1 (.tmp 47), none, [47], []⟩,
    ⟨some 54, .ext 2 (.tmp 47), none, [47], []⟩,
    ⟨some 15, .mv (.tmp 52), none, [52], []⟩,
    ⟨some 16, .mv (.tmp 53), none, [53], []⟩,
    ⟨some 17, .mv (.tmp 54), none, [54], []⟩] [2, 3, 4, 5, 9, 10, 11, 12, 13, 14, 15, 16, 17])
(.seq (.reg false [⟨some 56, .load true 4 (.tmp 4), none, [4], []⟩,
    ⟨some 57, .mv (.tmp 2), none, [2], []⟩,
    ⟨some 58, .mv (.tmp 3), none, [3], []⟩,
    ⟨some 59, .call 42 [(.tmp 56), (.tmp 57), (.tmp 58)], none, [56, 57, 58], []⟩,
    ⟨some 55, .mv (.tmp 59), none, [59], []⟩,
    ⟨some 60, .ext 0 (.tmp 55), none, [55], []⟩,
    ⟨some 61, .ext 1 (.tmp 55), none, [55], []⟩,
    ⟨some 62, .ext 2 (.tmp 55), none, [55], []⟩,
    ⟨some 18, .mv (.tmp 60), none, [60], []⟩,
    ⟨some 19, .mv (.tmp 61), none, [61], []⟩,
    ⟨some 20, .mv (.tmp 62), none, [62], []⟩] [4, 5, 9, 10, 11, 12, 13, 14, 15, 16, 17, 18, 19, 20])
(.seq (.reg false [⟨some 64, .load true 4 (.tmp 9), none, [9], []⟩,
    ⟨some 65, .call 43 [(.tmp 64)], none, [64], []⟩,
    ⟨some 63, .mv (.tmp 65), none, [65], []⟩,
    ⟨some 66, .ext 0 (.tmp 63), none, [63], []⟩,
    ⟨some 67, .ext 1 (.tmp 63), none, [63], []⟩,
    ⟨some 21, .mv (.tmp 66), none, [66], []⟩,
    ⟨some 22, .mv (.tmp 67), none, [67], []⟩] [4, 5, 9, 10, 11, 12, 13, 14, 15, 16, 17, 18, 19, 20, 21, 22])
(.seq (.reg false [⟨some 69, .load true 4 (.tmp 4), none, [4], []⟩,
    ⟨some 70, .call 44 [(.tmp 69)], none, [69], []⟩,
    ⟨some 68, .mv (.tmp 70), none, [70], []⟩,
    ⟨some 71, .ext 0 (.tmp 68), none, [68], []⟩,
    ⟨some 72, .ext 1 (.tmp 68), none, [68], []⟩,
    ⟨some 23, .mv (.tmp 71), none, [71], []⟩,
    ⟨some 24, .mv (.tmp 72), none, [72], []⟩] [4, 5, 9, 10, 11, 12, 13, 14, 15, 16, 17, 18, 19, 20, 21, 22, 23, 24])
(.seq (.seq (.reg false [⟨some 73, .load true 4 (.tmp 11), none, [11], []⟩,
    ⟨some 74, .load true 4 (.tmp 13), none, [13], []⟩,
    ⟨some 75, .call 25 [(.tmp 73), (.tmp 74)], none, [73, 74], []⟩,
    ⟨some 76, .bin .neq (.tmp 75) (.const (.int .i64 (0))), none, [75], []⟩,
    ⟨some 77, .mv (.tmp 76), none, [76], []⟩,
    ⟨some 78, .mv (.tmp 12), some (77, false), [12, 77], []⟩,
    ⟨some 79, .call 26 [(.tmp 78)], some (77, false), [78, 77], []⟩,
    ⟨some 80, .mv (.tmp 14), some (77, false), [14, 77], []⟩,
    ⟨some 81, .bin .neq (.tmp 79) (.tmp 80), some (77, false), [79, 80, 77], []⟩,
    ⟨some 82, .pick (.tmp 77) (.const (.bool true)) (.tmp 81), none, [77, 81], []⟩,
    ⟨some 83, .mv (.tmp 82), none, [82], []⟩,
    ⟨some 84, .mv (.tmp 15), some (83, false), [15, 83], []⟩,
    ⟨some 85, .mv (.tmp 18), some (83, false), [18, 83], []⟩,
    ⟨some 86, .call 45 [(.tmp 84), (.tmp 85)], some (83, false), [84, 85, 83], []⟩,
    ⟨some 87, .un .not (.tmp 86), some (83, false), [86, 83], []⟩,
    ⟨some 88, .pick (.tmp 83) (.const (.bool true)) (.tmp 87), none, [83, 87], []⟩,
    ⟨some 89, .mv (.tmp 88), none, [88], []⟩,
    ⟨some 90, .mv (.tmp 16), some (89, false), [16, 89], []⟩,
    ⟨some 91, .mv (.tmp 19), some (89, false), [19, 89], []⟩,
    ⟨some 92, .beq true (.tmp 90) (.tmp 91), some (89, false), [90, 91, 89], []⟩,
    ⟨some 93, .pick (.tmp 89) (.const (.bool true)) (.tmp 92), none, [89, 92], []⟩,
    ⟨some 94, .mv (.tmp 93), none, [93], []⟩,
    ⟨some 95, .mv (.tmp 17), some (94, false), [17, 94], []⟩,
    ⟨some 96, .call 26 [(.tmp 95)], some (94, false), [95, 94], []⟩,
    ⟨some 97, .mv (.tmp 20), some (94, false), [20, 94], []⟩,
    ⟨some 98, .bin .neq (.tmp 96) (.tmp 97), some (94, false), [96, 97, 94], []⟩,
    ⟨some 99, .pick (.tmp 94) (.const (.bool true)) (.tmp 98), none, [94, 98], []⟩,
    ⟨some 100, .mv (.tmp 99), none, [99], []⟩,
    ⟨some 101, .mv (.tmp 21), some (100, false), [21, 100], []⟩,
    ⟨some 102, .mv (.tmp 23), some (100, false), [23, 100], []⟩,
    ⟨some 103, .call 27 [(.tmp 101), (.tmp 102)], some (100, false), [101, 102, 100], []⟩,
    ⟨some 104, .bin .neq (.tmp 103) (.const (.int .i64 (0))), some (100, false), [103, 100], []⟩,
    ⟨some 105, .pick (.tmp 100) (.const (.bool true)) (.tmp 104), none, [100, 104], []⟩,
    ⟨some 106, .mv (.tmp 105), none, [105], []⟩,
    ⟨some 107, .mv (.tmp 22), some (106, false), [22, 106], []⟩,
    ⟨some 108, .call 26 [(.tmp 107)], some (106, false), [107, 106], []⟩,
    ⟨some 109, .mv (.tmp 24), some (106, false), [24, 106], []⟩,
    ⟨some 110, .bin .neq (.tmp 108) (.tmp 109), some (106, false), [108, 109, 106], []⟩,
    ⟨some 111, .pick (.tmp 106) (.const (.bool true)) (.tmp 110), none, [106, 110], []⟩] [4, 5, 9, 10, 111])
(.cond (.tmp 111)
(.seq (.reg false [⟨some 8, .mv (.const (.bool false)), none, [], []⟩] [8])
.ret)
.skip))
(.seq (.reg true [⟨some 112, .load true 4 (.tmp 9), none, [9], []⟩,
    ⟨some 113, .call 46 [(.tmp 112)], none, [112], [0]⟩,
    ⟨some 114, .call 26 [(.tmp 113)], none, [113], [1, 0]⟩,
    ⟨some 115, .load true 4 (.tmp 4), none, [4], []⟩,
    ⟨some 116, .call 34 [(.tmp 115)], none, [115], [3, 2, 1, 0]⟩,
    ⟨some 117, .bin .eql (.tmp 114) (.tmp 116), none, [114, 116], [2, 4, 1, 0, 3]⟩,
    ⟨some 118, .mv (.tmp 117), none, [117], [5, 4, 2, 1, 0, 3]⟩,
    ⟨some 119, .load true 4 (.tmp 9), some (118, true), [9, 118], [6, 5, 4, 2, 1, 0, 3]⟩,
    ⟨some 120, .load true 4 (.tmp 4), some (118, true), [4, 118], [6, 5, 4, 2, 1, 0, 3]⟩,
    ⟨some 121, .call 25 [(.tmp 119), (.tmp 120)], some (118, true), [119, 120, 118], [7, 8, 6, 5, 4, 2, 1, 0, 3]⟩,
    ⟨some 122, .bin .eql (.tmp 121) (.const (.int .i64 (0))), some (118, true), [121, 118], [9, 6, 7, 8, 5, 4, 2, 1, 0, 3]⟩,
    ⟨some 123, .pick (.tmp 118) (.tmp 122) (.const (.bool false)), none, [118, 122], [6, 10, 5, 4, 2, 1, 0, 3, 9, 7, 8]⟩,
    ⟨some 124, .mv (.tmp 123), none, [123], [11, 9, 6, 10, 5, 4, 2, 1, 0, 3, 7, 8]⟩,
    ⟨some 125, .foff 2 (.tmp 10), some (124, true), [10, 124], [12, 11, 9, 6, 10, 5, 4, 2, 1, 0, 3, 7, 8]⟩,
    ⟨some 126, .load false 1 (.tmp 125), some (124, true), [125, 124], [13, 12, 11, 9, 6, 10, 5, 4, 2, 1, 0, 3, 7, 8]⟩,
    ⟨some 127, .foff 2 (.tmp 5), some (124, true), [5, 124], [12, 11, 9, 6, 10, 5, 4, 2, 1, 0, 3, 7, 8]⟩,
    ⟨some 128, .load false 1 (.tmp 127), some (124, true), [127, 124], [15, 12, 11, 9, 6, 10, 5, 4, 2, 1, 0, 3, 7, 8]⟩,
    ⟨some 129, .call 45 [(.tmp 126), (.tmp 128)], some (124, true), [126, 128, 124], [14, 16, 12, 13, 11, 9, 6, 10, 5, 4, 2, 1, 0, 3, 7, 8, 15]⟩,
    ⟨some 130, .pick (.tmp 124) (.tmp 129) (.const (.bool false)), none, [124, 129], [12, 17, 11, 9, 6, 10, 5, 4, 2, 1, 0, 3, 7, 8, 14, 16, 13, 15]⟩,
    ⟨some 131, .mv (.tmp 130), none, [130], [18, 17, 12, 11, 9, 6, 10, 5, 4, 2, 1, 0, 3, 7, 8, 14, 16, 13, 15]⟩,
    ⟨some 132, .call 28 [], some (131, true), [131], [19, 18, 17, 12, 11, 9, 6, 10, 5, 4, 2, 1, 0, 3, 7, 8, 14, 16, 13, 15]⟩,
    ⟨some 133, .pick (.tmp 131) (.tmp 132) (.const (.bool false)), none, [131, 132], [19, 20, 18, 17, 12, 11, 9, 6, 10, 5, 4, 2, 1, 0, 3, 7, 8, 14, 16, 13, 15]⟩,
    ⟨some 8, .mv (.tmp 133), none, [133], [21, 20, 0, 1, 2, 3, 4, 5, 6, 7, 8, 9, 10, 11, 12, 13, 14, 15, 16, 17, 18, 19]⟩] [8])
.ret)))))))))))
theorem ok_10 : FnOk Try.prog 10 134 ac_10 [.tmp 8] := ⟨Try.f10, Try.func10, by kernel_rfl, by kernel_rfl, by kernel_rfl, by kernel_rfl, by kernel_rfl⟩
end Go.Proofs.Ytfoeddmbhmfjcaa
/- The page's next kind, and all there is. -/
namespace Go.Proofs.Ytfoeddmbhmfjcaa
open Go.RowKit
set_option maxRecDepth 100000
theorem ite_intro {p A B : Prop} [Decidable p] (h : p → A) (k : ¬ p → B) : if p then A else B := by split <;> (first | exact h ‹_› | exact k ‹_›)
def allB (s : St) : List Blk := s.opn ++ s.segs.flatMap fun x => x.blocks
abbrev NA := Int × Int × Bool
def nxStep (o x : Int) (A : NA) (b : Blk) : NA := if b.own < o ∨ (b.own = o ∧ b.idx ≤ x ∧ 0 < o) then A else if A.2.2 = false ∨ b.own < A.1 ∨ (b.own = A.1 ∧ b.idx < A.2.1) then (b.own, b.idx, true) else A
def nxt (s : St) (o x : Int) : NA := (allB s).foldl (nxStep o x) (0, 0, false)
def eMix (fr : Bool) (a l : List Blk) : List AV := eBlks true a ++ eBlks fr l
theorem len_mix (fr : Bool) (a l : List Blk) : (eMix fr a l).length = (a.length + l.length) * 3 := by rw [eMix, List.length_append, len_Blks, len_Blks]; omega
theorem get_mix {fr : Bool} {a l : List Blk} {k : Nat} {b : Blk} (h : (a ++ l)[k]? = some b) : ∃ f, (eMix fr a l)[k * 3]? = some (.v (.int .i64 b.own)) ∧ (eMix fr a l)[k * 3 + 1]? = some (.v (.int .i64 b.idx)) ∧ (eMix fr a l)[k * 3 + 1 + 1]? = some (fB f b.data) ∧ (eMix fr a l)[k * 3 + 2]? = some (fB f b.data) := by
  unfold eMix
  by_cases hk : k < a.length
  · rw [List.getElem?_append_left hk] at h
    obtain ⟨g0, g1, g2, g3⟩ := get_Blks3 (fr := true) h
    have hl : (eBlks true a).length = a.length * 3 := len_Blks ..
    refine ⟨true, ?_, ?_, ?_, ?_⟩ <;> rw [List.getElem?_append_left (by omega)] <;> assumption
  · rw [List.getElem?_append_right (by omega)] at h
    obtain ⟨g0, g1, g2, g3⟩ := get_Blks3 (fr := fr) h
    have hl : (eBlks true a).length = a.length * 3 := len_Blks ..
    refine ⟨fr, ?_, ?_, ?_, ?_⟩ <;> rw [List.getElem?_append_right (by omega), hl]
    · rw [show k * 3 - a.length * 3 = (k - a.length) * 3 from by omega]; exact g0
    · rw [show k * 3 + 1 - a.length * 3 = (k - a.length) * 3 + 1 from by omega]; exact g1
    · rw [show k * 3 + 1 + 1 - a.length * 3 = (k - a.length) * 3 + 1 + 1 from by omega]; exact g2
    · rw [show k * 3 + 2 - a.length * 3 = (k - a.length) * 3 + 2 from by omega]; exact g3
theorem mix_snoc (fr : Bool) (a l m : List Blk) : eMix fr a l ++ eBlks fr m = eMix fr a (l ++ m) := by simp [eMix, eBlks]
theorem al_mix {p : Nat → Prop} (fr : Bool) (a l : List Blk) : AlL p (eMix fr a l) := by rw [eMix, AlL_append]; exact ⟨al_Blks a, al_Blks l⟩
theorem ren_mix (f : Nat → Nat) (fr : Bool) (a l : List Blk) : renL f (eMix fr a l) = eMix fr a l := by rw [eMix, renL_append, ren_Blks, ren_Blks]
abbrev flatN (s : St) (i : Nat) : List Blk := (s.segs.take i).flatMap fun x => x.blocks
abbrev L1_nx (fr : Bool) (s : St) (o x : Int) (i : Nat) : ASt := ⟨envOf [(1, .v (.int .i64 o)), (2, .v (.int .i64 x)), (3, .op 0 0), (9, .v (.int .i64 0)), (10, .v (.int .i64 0)), (11, .v (.bool false)), (12, .os 1 0 (s.opn.length + (flatN s i).length) 3), (13, .v (.int .i64 i))],
  heapOf [(0, stRow 32 fr s), (1, .row true 55 (eMix fr s.opn (flatN s i)))], 2⟩
abbrev L2_nx (fr : Bool) (s : St) (o x : Int) (k : Nat) (A : NA) : ASt := ⟨envOf [(1, .v (.int .i64 o)), (2, .v (.int .i64 x)), (9, .v (.int .i64 A.1)), (10, .v (.int .i64 A.2.1)), (11, .v (.bool A.2.2)), (12, .os 0 0 (allB s).length 3), (14, .v (.int .i64 k))],
  heapOf [(0, .row true 55 (eMix fr s.opn (s.segs.flatMap fun x => x.blocks)))], 1⟩
theorem flatN_len {s : St} (h2 : ∀ g ∈ s.segs, g.blocks.length ≤ 8) : ∀ i, (flatN s i).length ≤ 8 * i
  | 0 => by simp [flatN]
  | i + 1 => by
    have ih := flatN_len h2 i
    by_cases hi : i < s.segs.length
    · rw [flatN, List.take_succ_eq_append_getElem hi, List.flatMap_append, List.length_append]
      have := h2 _ (List.getElem_mem hi)
      simp only [List.flatMap_cons, List.flatMap_nil, List.append_nil]
      unfold flatN at ih
      omega
    · rw [flatN, List.take_of_length_le (by omega)]
      rw [flatN, List.take_of_length_le (by omega)] at ih
      omega
set_option maxHeartbeats 1000000 in
theorem next_spec (fr : Bool) (s : St) (o x : Int) (nb : Nat) (rb : RB s) : ASound Try.prog 73 [aSt fr s, .v (.int .i64 o), .v (.int .i64 x)] nb
    (.ret (.tup [.v (.int .i64 (nxt s o x).1), .v (.int .i64 (nxt s o x).2.1), .v (.bool (nxt s o x).2.2)]) []) := by
  have h1 := rb.n64
  have h2 := rb.seg
  have h3 := rb.opn
  refine ok_73.sound (by simp) ⟨al_aSt s, trivial, trivial, trivial⟩ ?_
  simp only [ac_73, SS, boxA, cellsOf, foffA, loadA, ldA, idxA, fldA, binA, binVal, isSh, intVal, lenA, slenA, pickA, storeA, setN, getN, fillA, extA, beqA, eqsA, eqL, isnilA, unA, unVal, convA, nilA, sconvA, b2sA, b2sOf, bytesOf, mmA, srcA, appA, sliceA, lohi, mkslA, envA, ↓reduceIte, Nat.reduceEqDiff, Nat.reduceAdd, Nat.reduceMul, reduceCtorEq, Nat.reduceLeDiff, fB, fBools, fBlks, fSegs, aBlk, aSg, aSt, stRow, List.drop_zero, List.take_succ_cons, List.take_zero, List.take_nil, Nat.mul_one, Nat.one_mul, List.cons_append, List.nil_append]
  refine ⟨_, ownBlocks_os fr s.opn _ (by omega) (fun b hb => by have := rb.opnD b hb; omega), ?_⟩
  simp only [SS, boxA, cellsOf, foffA, loadA, ldA, idxA, fldA, binA, binVal, isSh, intVal, lenA, slenA, pickA, storeA, setN, getN, fillA, extA, beqA, eqsA, eqL, isnilA, unA, unVal, convA, nilA, sconvA, b2sA, b2sOf, bytesOf, mmA, srcA, appA, sliceA, lohi, mkslA, envA, ↓reduceIte, Nat.reduceEqDiff, Nat.reduceAdd, Nat.reduceMul, reduceCtorEq, Nat.reduceLeDiff, fB, fBools, fBlks, fSegs, aBlk, aSg, aSt, stRow, List.drop_zero, List.take_succ_cons, List.take_zero, List.take_nil, Nat.mul_one, Nat.one_mul, List.cons_append, List.nil_append]
  refine AWc.family (fun i => L1_nx fr s o x i) (fun i => i ≤ s.segs.length) (fun i => s.segs.length - i) 0 (Nat.zero_le _) ?_ ?_
  · refine Weak.calc [(0, 0), (576, 1)] (by decide) ?_ ?_ <;> simp [flatN, eMix, tk_B, tk_Bools, tk_Blks, tk_Segs, AlL_append, renL_append, okL, okH, rowIs, okV, okHV, rowVt, vtL, okF, okHF, rowFz, fzL, fzV, fzOne, nilLike, oldLike, rn, s_envOf, s_envOf0, s_heapOf, s_heapOf0, s_put, s_put0, s_put1, s_app0, s_app1, Al, AlL, ren, renL, al_B, al_Bools, al_Blks, al_Segs, ren_B, ren_Bools, ren_Blks, ren_Segs, fB, fBools, fBlks, fSegs, show eBlks fr [] = [] from rfl]
  · intro i hi
    have hfl := flatN_len h2 i
    by_cases hlt : i < s.segs.length
    · obtain ⟨g, hg, e1, e0⟩ := lt_at hlt
      obtain ⟨g0, g1⟩ := get_Segs (fr := fr) hg
      have hgl := h2 g (List.mem_of_getElem? hg)
      have hf : flatN s (i + 1) = flatN s i ++ g.blocks := by
        obtain ⟨hk, rfl⟩ := List.getElem?_eq_some_iff.1 hg
        rw [flatN, List.take_succ_eq_append_getElem hk, List.flatMap_append]; simp
      simp only [L1_nx, g0, g1, e1, e0, len_mix, len_Blks, SS, boxA, cellsOf, foffA, loadA, ldA, idxA, fldA, binA, binVal, isSh, intVal, lenA, slenA, pickA, storeA, setN, getN, fillA, extA, beqA, eqsA, eqL, isnilA, unA, unVal, convA, nilA, sconvA, b2sA, b2sOf, bytesOf, mmA, srcA, appA, sliceA, lohi, mkslA, envA, ↓reduceIte, Nat.reduceEqDiff, Nat.reduceAdd, Nat.reduceMul, reduceCtorEq, Nat.reduceLeDiff, fB, fBools, fBlks, fSegs, aBlk, aSg, aSt, stRow, List.drop_zero, List.take_succ_cons, List.take_zero, List.take_nil, Nat.mul_one, Nat.one_mul, List.cons_append, List.nil_append]
      rw [if_pos (by omega)]
      refine famC_next (i + 1) (by omega) (by omega) ?_
      refine Weak.calc [(0, 0), (770, 1)] (by decide) ?_ ?_ <;> simp [tk_B, tk_Bools, tk_Blks, tk_Segs, AlL_append, renL_append, okL, okH, rowIs, okV, okHV, rowVt, vtL, okF, okHF, rowFz, fzL, fzV, fzOne, nilLike, oldLike, rn, s_envOf, s_envOf0, s_heapOf, s_heapOf0, s_put, s_put0, s_put1, s_app0, s_app1, Al, AlL, ren, renL, al_B, al_Bools, al_Blks, al_Segs, ren_B, ren_Bools, ren_Blks, ren_Segs, fB, fBools, fBlks, fSegs, hf, mix_snoc, al_mix, ren_mix, Nat.add_assoc, wrap64 (x := (i : Int) + 1) (by omega)]
    · have e1 : ¬ ((i : Int) < (s.segs.length : Int)) := by omega
      obtain rfl : i = s.segs.length := by omega
      have hff : flatN s s.segs.length = s.segs.flatMap fun x => x.blocks := by rw [flatN, List.take_length]
      have hall : (allB s).length = s.opn.length + (flatN s s.segs.length).length := by rw [hff, allB, List.length_append]
      simp only [L1_nx, e1, len_mix, len_Blks, SS, boxA, cellsOf, foffA, loadA, ldA, idxA, fldA, binA, binVal, isSh, intVal, lenA, slenA, pickA, storeA, setN, getN, fillA, extA, beqA, eqsA, eqL, isnilA, unA, unVal, convA, nilA, sconvA, b2sA, b2sOf, bytesOf, mmA, srcA, appA, sliceA, lohi, mkslA, envA, ↓reduceIte, Nat.reduceEqDiff, Nat.reduceAdd, Nat.reduceMul, reduceCtorEq, Nat.reduceLeDiff, fB, fBools, fBlks, fSegs, aBlk, aSg, aSt, stRow, List.drop_zero, List.take_succ_cons, List.take_zero, List.take_nil, Nat.mul_one, Nat.one_mul, List.cons_append, List.nil_append]
      refine AWc.family (fun k => L2_nx fr s o x k (((allB s).take k).foldl (nxStep o x) (0, 0, false))) (fun k => k ≤ (allB s).length) (fun k => (allB s).length - k) 0 (Nat.zero_le _) ?_ ?_
      · refine Weak.calc [(1, 0)] (by decide) ?_ ?_ <;> simp [tk_B, tk_Bools, tk_Blks, tk_Segs, AlL_append, renL_append, okL, okH, rowIs, okV, okHV, rowVt, vtL, okF, okHF, rowFz, fzL, fzV, fzOne, nilLike, oldLike, rn, s_envOf, s_envOf0, s_heapOf, s_heapOf0, s_put, s_put0, s_put1, s_app0, s_app1, Al, AlL, ren, renL, al_B, al_Bools, al_Blks, al_Segs, ren_B, ren_Bools, ren_Blks, ren_Segs, fB, fBools, fBlks, fSegs, al_mix, ren_mix, hall, hff]
      · intro k hk
        by_cases hkl : k < (allB s).length
        · obtain ⟨b, hb, f1, f0⟩ := lt_at hkl
          obtain ⟨q, b0, b1, b2, b3⟩ := get_mix (fr := fr) hb
          have hs := fold_take hb (nxStep o x) (0, 0, false)
          generalize ((allB s).take k).foldl (nxStep o x) (0, 0, false) = A at hs
          obtain ⟨Ao, Ai, As⟩ := A
          have hq1 : nxStep o x (Ao, Ai, false) b = if b.own < o ∨ (b.own = o ∧ b.idx ≤ x ∧ 0 < o) then (Ao, Ai, false) else (b.own, b.idx, true) := by simp [nxStep]
          have hq2 : nxStep o x (Ao, Ai, true) b = if b.own < o ∨ (b.own = o ∧ b.idx ≤ x ∧ 0 < o) then (Ao, Ai, true) else if b.own < Ao ∨ (b.own = Ao ∧ b.idx < Ai) then (b.own, b.idx, true) else (Ao, Ai, true) := by simp [nxStep]
          have hml : (eMix fr s.opn (s.segs.flatMap fun x => x.blocks)).length = (allB s).length * 3 := by rw [len_mix, hall, hff]
          cases As
          · simp only [L2_nx, b0, b1, b2, b3, f1, f0, hml, SS, boxA, cellsOf, foffA, loadA, ldA, idxA, fldA, binA, binVal, isSh, intVal, lenA, slenA, pickA, storeA, setN, getN, fillA, extA, beqA, eqsA, eqL, isnilA, unA, unVal, convA, nilA, sconvA, b2sA, b2sOf, bytesOf, mmA, srcA, appA, sliceA, lohi, mkslA, envA, ↓reduceIte, Nat.reduceEqDiff, Nat.reduceAdd, Nat.reduceMul, reduceCtorEq, Nat.reduceLeDiff, fB, fBools, fBlks, fSegs, aBlk, aSg, aSt, stRow, List.drop_zero, List.take_succ_cons, List.take_zero, List.take_nil, Nat.mul_one, Nat.one_mul, List.cons_append, List.nil_append]
            repeat' (refine ite_intro (fun _ => ?_) (fun _ => ?_))
            all_goals try (refine ⟨by rfl, ?_⟩)
            all_goals
              refine famC_next (k + 1) (by omega) (by omega) ?_
              rw [hs, hq1]
              first | rw [if_pos (by omega)] | rw [if_neg (by omega)]
              refine Weak.calc [(0, 0)] (by decide) ?_ ?_
              · simp [tk_B, tk_Bools, tk_Blks, tk_Segs, AlL_append, renL_append, okL, okH, rowIs, okV, okHV, rowVt, vtL, okF, okHF, rowFz, fzL, fzV, fzOne, nilLike, oldLike, rn, s_envOf, s_envOf0, s_heapOf, s_heapOf0, s_put, s_put0, s_put1, s_app0, s_app1, Al, AlL, ren, renL, al_B, al_Bools, al_Blks, al_Segs, ren_B, ren_Bools, ren_Blks, ren_Segs, fB, fBools, fBlks, fSegs, wrap64 (x := (k : Int) + 1) (by omega)]
              · simp [tk_B, tk_Bools, tk_Blks, tk_Segs, AlL_append, renL_append, okL, okH, rowIs, okV, okHV, rowVt, vtL, okF, okHF, rowFz, fzL, fzV, fzOne, nilLike, oldLike, rn, s_envOf, s_envOf0, s_heapOf, s_heapOf0, s_put, s_put0, s_put1, s_app0, s_app1, Al, AlL, ren, renL, al_B, al_Bools, al_Blks, al_Segs, ren_B, ren_Bools, ren_Blks, ren_Segs, fB, fBools, fBlks, fSegs, al_mix, ren_mix]
          · simp only [L2_nx, b0, b1, b2, b3, f1, f0, hml, SS, boxA, cellsOf, foffA, loadA, ldA, idxA, fldA, binA, binVal, isSh, intVal, lenA, slenA, pickA, storeA, setN, getN, fillA, extA, beqA, eqsA, eqL, isnilA, unA, unVal, convA, nilA, sconvA, b2sA, b2sOf, bytesOf, mmA, srcA, appA, sliceA, lohi, mkslA, envA, ↓reduceIte, Nat.reduceEqDiff, Nat.reduceAdd, Nat.reduceMul, reduceCtorEq, Nat.reduceLeDiff, fB, fBools, fBlks, fSegs, aBlk, aSg, aSt, stRow, List.drop_zero, List.take_succ_cons, List.take_zero, List.take_nil, Nat.mul_one, Nat.one_mul, List.cons_append, List.nil_append]
            repeat' (refine ite_intro (fun _ => ?_) (fun _ => ?_))
            all_goals try (refine ⟨by rfl, ?_⟩)
            all_goals
              refine famC_next (k + 1) (by omega) (by omega) ?_
              rw [hs, hq2]
              first | rw [if_pos (by omega)] | (rw [if_neg (by omega)]; first | rw [if_pos (by omega)] | rw [if_neg (by omega)])
              refine Weak.calc [(0, 0)] (by decide) ?_ ?_
              · simp [tk_B, tk_Bools, tk_Blks, tk_Segs, AlL_append, renL_append, okL, okH, rowIs, okV, okHV, rowVt, vtL, okF, okHF, rowFz, fzL, fzV, fzOne, nilLike, oldLike, rn, s_envOf, s_envOf0, s_heapOf, s_heapOf0, s_put, s_put0, s_put1, s_app0, s_app1, Al, AlL, ren, renL, al_B, al_Bools, al_Blks, al_Segs, ren_B, ren_Bools, ren_Blks, ren_Segs, fB, fBools, fBlks, fSegs, wrap64 (x := (k : Int) + 1) (by omega)]
              · simp [tk_B, tk_Bools, tk_Blks, tk_Segs, AlL_append, renL_append, okL, okH, rowIs, okV, okHV, rowVt, vtL, okF, okHF, rowFz, fzL, fzV, fzOne, nilLike, oldLike, rn, s_envOf, s_envOf0, s_heapOf, s_heapOf0, s_put, s_put0, s_put1, s_app0, s_app1, Al, AlL, ren, renL, al_B, al_Bools, al_Blks, al_Segs, ren_B, ren_Bools, ren_Blks, ren_Segs, fB, fBools, fBlks, fSegs, al_mix, ren_mix]
        · have f1 : ¬ ((k : Int) < ((allB s).length : Int)) := by omega
          obtain rfl : k = (allB s).length := by omega
          rw [List.take_length]
          simp only [L2_nx, f1, SS, boxA, cellsOf, foffA, loadA, ldA, idxA, fldA, binA, binVal, isSh, intVal, lenA, slenA, pickA, storeA, setN, getN, fillA, extA, beqA, eqsA, eqL, isnilA, unA, unVal, convA, nilA, sconvA, b2sA, b2sOf, bytesOf, mmA, srcA, appA, sliceA, lohi, mkslA, envA, ↓reduceIte, Nat.reduceEqDiff, Nat.reduceAdd, Nat.reduceMul, reduceCtorEq, Nat.reduceLeDiff, fB, fBools, fBlks, fSegs, aBlk, aSg, aSt, stRow, List.drop_zero, List.take_succ_cons, List.take_zero, List.take_nil, Nat.mul_one, Nat.one_mul, List.cons_append, List.nil_append]
          exact Ends.data (.inr rfl) (by simp [nxt, resL, resOne, tupOf, getN, s_envOf, s_envOf0, s_heapOf, s_heapOf0, s_put1, s_app0, s_app1]) ⟨trivial, trivial, trivial, trivial⟩
end Go.Proofs.Ytfoeddmbhmfjcaa
/- All kinds, in order, one behind the other. -/
namespace Go.Proofs.Ytfoeddmbhmfjcaa
open Go.RowKit
theorem noteN_keys {seq : Int} {l : List Blk} {q : Vers} {j : Kd} : ∀ k, j ∈ (noteN seq l q k).keys → j ∈ q.keys ∨ ∃ b ∈ l, kindOf b = j
  | 0, h => .inl h
  | k + 1, h => by
    simp only [noteN] at h
    split at h
    · rename_i b hb
      rcases mem_keyAdd.1 h with h1 | h1
      · exact noteN_keys k h1
      · exact .inr ⟨b, List.mem_of_getElem? hb, h1.symm⟩
    · exact noteN_keys k h
theorem segsN_keys {s : St} {j : Kd} : ∀ k, j ∈ (segsN s k).keys → ∃ b ∈ allB s, kindOf b = j
  | 0, h => by simp [segsN, vers0] at h
  | k + 1, h => by
    simp only [segsN] at h
    split at h
    · rename_i x hx
      rcases noteN_keys _ h with h1 | ⟨b, h1, h2⟩
      · exact segsN_keys k h1
      · exact ⟨b, List.mem_append_right _ (List.mem_flatMap.2 ⟨x, List.mem_of_getElem? hx, h1⟩), h2⟩
    · exact segsN_keys k h
theorem mem_keys {s : St} {j : Kd} : j ∈ (versOf s).keys ↔ ∃ b ∈ allB s, kindOf b = j := by
  constructor
  · intro h
    rcases noteN_keys _ h with h1 | ⟨b, h1, h2⟩
    · exact segsN_keys _ h1
    · exact ⟨b, List.mem_append_left _ h1, h2⟩
  · rintro ⟨b, hb, rfl⟩
    rcases List.mem_append.1 hb with h1 | h1
    · obtain ⟨i, hi⟩ := List.getElem?_of_mem h1
      exact noteN_mem _ i b (idx_lt hi) hi
    · obtain ⟨x, hx, h2⟩ := List.mem_flatMap.1 h1
      obtain ⟨i, hi⟩ := List.getElem?_of_mem hx
      obtain ⟨k, hk⟩ := List.getElem?_of_mem h2
      exact versOf_mem hi hk
theorem keyAdd_nodup {l : List Kd} (h : l.Nodup) (k : Kd) : (keyAdd l k).Nodup := by
  unfold keyAdd
  split
  · exact h
  · rename_i hk
    rw [List.nodup_append]
    refine ⟨h, by simp, fun a ha b hb => ?_⟩
    rw [List.mem_singleton] at hb
    subst hb
    exact fun e => hk (e ▸ ha)
theorem noteN_nodup {seq : Int} {l : List Blk} {q : Vers} (h : q.keys.Nodup) : ∀ k, (noteN seq l q k).keys.Nodup
  | 0 => h
  | k + 1 => by
    simp only [noteN]
    split
    · exact keyAdd_nodup (noteN_nodup h k) _
    · exact noteN_nodup h k
theorem keys_nodup (s : St) : (versOf s).keys.Nodup := by
  refine noteN_nodup ?_ _
  generalize s.segs.length = n
  induction n with
  | zero => exact List.nodup_nil
  | succ k ih =>
    simp only [segsN]
    split
    · exact noteN_nodup ih _
    · exact ih
theorem own_pos {s : St} (g : Good s) {b : Blk} (hb : b ∈ allB s) : 0 < b.own := by
  have key : ∀ b : Blk, mayBlk b = true → 0 < b.own := by
    intro b h
    simp only [mayBlk, mayB, decide_eq_true_eq, Bool.and_eq_true] at h
    omega
  rcases List.mem_append.1 hb with h1 | h1
  · exact key b (List.all_eq_true.1 g.opnMay b h1)
  · obtain ⟨x, hx, h2⟩ := List.mem_flatMap.1 h1
    obtain ⟨i, hi⟩ := List.getElem?_of_mem hx
    cases hf : freeB x with
    | true =>
      simp only [freeB, decide_eq_true_eq] at hf
      have : x.blocks = [] := List.eq_nil_of_length_eq_zero (by omega)
      rw [this] at h2; cases h2
    | false =>
      have := (g.seg i x hi hf).1
      simp only [sgOk, Bool.and_eq_true, decide_eq_true_eq, List.all_eq_true] at this
      exact key b (this.2 b h2)
/-- the kind is behind (o, x) -/
def behind (o x : Int) (k : Kd) : Prop := ¬ (k.1 < o ∨ (k.1 = o ∧ k.2 ≤ x ∧ 0 < o))
theorem nxt_fold (o x : Int) : ∀ (l : List Blk) (A : NA), (A.2.2 = true → behind o x (A.1, A.2.1)) → (A.2.2 = false → A = (0, 0, false)) →
    let r := l.foldl (nxStep o x) A
    (r.2.2 = false → r = (0, 0, false) ∧ A.2.2 = false ∧ ∀ b ∈ l, ¬ behind o x (kindOf b)) ∧
    (r.2.2 = true → behind o x (r.1, r.2.1) ∧ ((∃ b ∈ l, kindOf b = (r.1, r.2.1)) ∨ (A.2.2 = true ∧ (A.1, A.2.1) = (r.1, r.2.1))) ∧ (∀ b ∈ l, behind o x (kindOf b) → kLe (r.1, r.2.1) (kindOf b) = true) ∧ (A.2.2 = true → kLe (r.1, r.2.1) (A.1, A.2.1) = true))
  | [], A, h1, h0 => by
    refine ⟨fun h => ⟨h0 h, h, by simp⟩, fun h => ⟨h1 h, .inr ⟨h, rfl⟩, by simp, fun _ => by simp [kLe]⟩⟩
  | b :: l, A, h1, h0 => by
    obtain ⟨Ao, Ai, As⟩ := A
    simp only at h1 h0
    have step : (behind o x (kindOf b) ∧ nxStep o x (Ao, Ai, As) b = (b.own, b.idx, true) ∧ (As = true → kLe (kindOf b) (Ao, Ai) = true)) ∨
        (nxStep o x (Ao, Ai, As) b = (Ao, Ai, As) ∧ (behind o x (kindOf b) → As = true ∧ kLe (Ao, Ai) (kindOf b) = true)) := by
      unfold nxStep
      by_cases c1 : b.own < o ∨ (b.own = o ∧ b.idx ≤ x ∧ 0 < o)
      · rw [if_pos c1]
        exact .inr ⟨rfl, fun hb => absurd c1 hb⟩
      · rw [if_neg c1]
        by_cases c2 : As = false ∨ b.own < Ao ∨ (b.own = Ao ∧ b.idx < Ai)
        · rw [if_pos c2]
          refine .inl ⟨c1, rfl, fun hs => ?_⟩
          subst hs
          simp only [Bool.true_eq_false, false_or] at c2
          exact decide_eq_true (show b.own < Ao ∨ b.own = Ao ∧ b.idx ≤ Ai by omega)
        · rw [if_neg c2]
          refine .inr ⟨rfl, fun _ => ?_⟩
          cases As with
          | false => exact absurd (.inl rfl) c2
          | true =>
            simp only [Bool.true_eq_false, false_or] at c2
            refine ⟨rfl, ?_⟩
            exact decide_eq_true (show Ao < b.own ∨ Ao = b.own ∧ Ai ≤ b.idx by omega)
    intro r
    have tr : ∀ {a b c : Kd}, kLe a b = true → kLe b c = true → kLe a c = true := by
      intro a b c h1 h2
      simp only [kLe, decide_eq_true_eq] at *; omega
    rcases step with ⟨c1, e, c2⟩ | ⟨e, c2⟩
    · have hr : r = l.foldl (nxStep o x) (b.own, b.idx, true) := by show (b :: l).foldl _ _ = _; rw [List.foldl_cons, e]
      have ih := nxt_fold o x l (b.own, b.idx, true) (fun _ => c1) (fun h => by cases h)
      rw [← hr] at ih
      simp only at ih
      refine ⟨fun h => (by have := (ih.1 h).2.1; cases this), fun h => ?_⟩
      obtain ⟨i1, i2, i3, i4⟩ := ih.2 h
      refine ⟨i1, .inl ?_, fun b' hb' hk => ?_, fun hs => tr (i4 trivial) (c2 hs)⟩
      · rcases i2 with ⟨b', h5, h6⟩ | ⟨_, h6⟩
        · exact ⟨b', List.mem_cons_of_mem _ h5, h6⟩
        · exact ⟨b, List.mem_cons_self, h6⟩
      · rcases List.mem_cons.1 hb' with rfl | h5
        · exact i4 trivial
        · exact i3 b' h5 hk
    · have hr : r = l.foldl (nxStep o x) (Ao, Ai, As) := by show (b :: l).foldl _ _ = _; rw [List.foldl_cons, e]
      have ih := nxt_fold o x l (Ao, Ai, As) h1 h0
      rw [← hr] at ih
      simp only at ih
      refine ⟨fun h => ?_, fun h => ?_⟩
      · obtain ⟨i1, i2, i3⟩ := ih.1 h
        refine ⟨i1, i2, fun b' hb' => ?_⟩
        rcases List.mem_cons.1 hb' with rfl | h5
        · intro hk
          have := (c2 hk).1
          rw [i2] at this; cases this
        · exact i3 b' h5
      · obtain ⟨i1, i2, i3, i4⟩ := ih.2 h
        refine ⟨i1, ?_, fun b' hb' hk => ?_, i4⟩
        · rcases i2 with ⟨b', h5, h6⟩ | h6
          · exact .inl ⟨b', List.mem_cons_of_mem _ h5, h6⟩
          · exact .inr h6
        · rcases List.mem_cons.1 hb' with rfl | h5
          · obtain ⟨k1, k2⟩ := c2 hk
            exact tr (i4 k1) k2
          · exact i3 b' h5 hk
/-- all kinds, in order -/
def kS (s : St) : List Kd := (versOf s).keys.mergeSort kLe
theorem kS_mem {s : St} {k : Kd} : k ∈ kS s ↔ ∃ b ∈ allB s, kindOf b = k := by rw [kS, List.mem_mergeSort]; exact mem_keys
theorem kLe_trans (a b c : Kd) (h1 : kLe a b = true) (h2 : kLe b c = true) : kLe a c = true := by simp only [kLe, decide_eq_true_eq] at *; omega
theorem kLe_total (a b : Kd) : (kLe a b || kLe b a) = true := by simp only [kLe, Bool.or_eq_true, decide_eq_true_eq]; omega
theorem kLe_anti {a b : Kd} (h1 : kLe a b = true) (h2 : kLe b a = true) : a = b := by simp only [kLe, decide_eq_true_eq] at *; exact Prod.ext (by omega) (by omega)
theorem kS_sorted (s : St) : (kS s).Pairwise fun a b => kLe a b = true := List.pairwise_mergeSort (le := kLe) kLe_trans kLe_total _
theorem kS_nodup (s : St) : (kS s).Nodup := (List.mergeSort_perm _ kLe).nodup_iff.2 (keys_nodup s)
theorem allK_kS (s : St) : allK s = (kS s).filter (neK s) := by
  refine List.Perm.eq_of_pairwise (le := fun a b => kLe a b = true) (fun a b _ _ => kLe_anti) (List.pairwise_mergeSort (le := kLe) kLe_trans kLe_total _) ((kS_sorted s).filter _) ?_
  exact (List.mergeSort_perm _ kLe).trans ((List.mergeSort_perm _ kLe).symm.filter _)
abbrev prevO (s : St) : Nat → Kd
  | 0 => (0, 0)
  | j + 1 => (kS s)[j]?.getD (0, 0)
theorem kS_lt {s : St} {i j : Nat} {a b : Kd} (hij : i < j) (ha : (kS s)[i]? = some a) (hb : (kS s)[j]? = some b) : kLe a b = true ∧ a ≠ b := by
  obtain ⟨hi, rfl⟩ := List.getElem?_eq_some_iff.1 ha
  obtain ⟨hj, rfl⟩ := List.getElem?_eq_some_iff.1 hb
  refine ⟨List.pairwise_iff_getElem.1 (kS_sorted s) i j hi hj hij, fun e => ?_⟩
  exact absurd (List.pairwise_iff_getElem.1 (kS_nodup s) i j hi hj hij) (fun h => h e)
theorem behind_kS {s : St} (g : Good s) {j : Nat} (hj : j ≤ (kS s).length) {i : Nat} {a : Kd} (ha : (kS s)[i]? = some a) : behind (prevO s j).1 (prevO s j).2 a ↔ j ≤ i := by
  have hpos : ∀ {k : Kd}, k ∈ kS s → 0 < k.1 := by
    intro k hk
    obtain ⟨b, hb, rfl⟩ := kS_mem.1 hk
    exact own_pos g hb
  have hap := hpos (List.mem_of_getElem? ha)
  match j, hj with
  | 0, _ => simp only [behind, prevO]; constructor <;> intro _ <;> omega
  | j + 1, hj =>
    have hjl : j < (kS s).length := by omega
    have hb := List.getElem?_eq_getElem hjl
    have hbp := hpos (List.mem_of_getElem? hb)
    simp only [prevO, hb, Option.getD_some]
    generalize (kS s)[j] = b at hb hbp
    constructor
    · intro h
      rcases Nat.lt_trichotomy i j with h1 | h1 | h1
      · obtain ⟨q1, q2⟩ := kS_lt h1 ha hb
        exfalso
        apply h
        simp only [kLe, decide_eq_true_eq] at q1
        rcases q1 with q1 | q1
        · exact .inl q1
        · exact .inr ⟨q1.1, q1.2, hbp⟩
      · subst h1
        rw [ha] at hb; cases hb
        exact absurd (.inr ⟨rfl, Int.le_refl _, hbp⟩) h
      · exact h1
    · intro h
      obtain ⟨q1, q2⟩ := kS_lt (show j < i by omega) hb ha
      simp only [kLe, decide_eq_true_eq] at q1
      intro h3
      apply q2
      exact Prod.ext (by omega) (by omega)
theorem nxt_kS {s : St} (g : Good s) {j : Nat} (hj : j ≤ (kS s).length) : nxt s (prevO s j).1 (prevO s j).2 = match (kS s)[j]? with | some k => (k.1, k.2, true) | none => (0, 0, false) := by
  have h := nxt_fold (prevO s j).1 (prevO s j).2 (allB s) (0, 0, false) (fun h => by cases h) (fun _ => rfl)
  simp only at h
  unfold nxt
  generalize (allB s).foldl (nxStep (prevO s j).1 (prevO s j).2) (0, 0, false) = r at h
  obtain ⟨ro, ri, rs⟩ := r
  cases rs with
  | false =>
    obtain ⟨h1, _, h3⟩ := h.1 rfl
    rw [h1]
    cases hk : (kS s)[j]? with
    | none => rfl
    | some k =>
      obtain ⟨b, hb, rfl⟩ := kS_mem.1 (List.mem_of_getElem? hk)
      exact absurd ((behind_kS g hj hk).2 (Nat.le_refl _)) (h3 b hb)
  | true =>
    obtain ⟨h1, h2, h3, _⟩ := h.2 rfl
    simp only at h1 h2 h3
    rcases h2 with ⟨b, hb, h2⟩ | ⟨h2, _⟩
    · have hm : (ro, ri) ∈ kS s := kS_mem.2 ⟨b, hb, h2⟩
      obtain ⟨i, hi⟩ := List.getElem?_of_mem hm
      have hji := (behind_kS g hj hi).1 h1
      have hil := (List.getElem?_eq_some_iff.1 hi).1
      have hjl : j < (kS s).length := by omega
      have hk := List.getElem?_eq_getElem hjl
      rw [hk]
      generalize (kS s)[j] = k at hk
      obtain ⟨b', hb', rfl⟩ := kS_mem.1 (List.mem_of_getElem? hk)
      have h4 := h3 b' hb' ((behind_kS g hj hk).2 (Nat.le_refl _))
      have : (ro, ri) = kindOf b' := by
        rcases Nat.eq_or_lt_of_le hji with e | e
        · subst e
          rw [hi] at hk; cases hk; rfl
        · exact kLe_anti h4 (kS_lt e hk hi).1
      simp only
      rw [← this]
    · cases h2
end Go.Proofs.Ytfoeddmbhmfjcaa
/- The page's Get and All. -/
namespace Go.Proofs.Ytfoeddmbhmfjcaa
open Go.RowKit
set_option maxRecDepth 100000
theorem la_d {s : St} (g : Good s) (k : Kd) : (lastF s k.1 k.2).d = ((versOf s).ver k).data := by rw [lastF_eq g]; rfl
theorem ver_note {seq : Int} {l : List Blk} {q : Vers} (hl : ∀ b ∈ l, b.data.length ≤ 32) (h : ∀ k, (q.ver k).data.length ≤ 32) : ∀ j k, ((noteN seq l q j).ver k).data.length ≤ 32
  | 0, k => h k
  | j + 1, k => by
    simp only [noteN]
    split
    · rename_i b hb
      simp only [noteStep]
      split
      · unfold bump
        split
        · exact hl b (List.mem_of_getElem? hb)
        · exact ver_note hl h j k
      · exact ver_note hl h j k
    · exact ver_note hl h j k
theorem ver_len {s : St} (rb : RB s) (k : Kd) : ((versOf s).ver k).data.length ≤ 32 := by
  refine ver_note rb.opnD ?_ _ k
  generalize s.segs.length = n
  induction n with
  | zero => intro k; simp [segsN, vers0, Ver.zero]
  | succ j ih =>
    intro k
    simp only [segsN]
    split
    · rename_i x hx
      exact ver_note (rb.segD x (List.mem_of_getElem? hx)) ih _ k
    · exact ih k
abbrev outN (s : St) (j : Nat) : List Blk := (((kS s).take j).filter (neK s)).map (mkB s)
abbrev S_ra (fr : Bool) (s : St) (j : Nat) : ASt := ⟨envOf [(1, .op 0 0), (4, .os 1 0 (outN s j).length 3), (5, .v (.int .i64 (prevO s j).1)), (6, .v (.int .i64 (prevO s j).2))],
  heapOf [(0, stRow 32 fr s), (1, .row true 55 (eBlks true (outN s j)))], 2⟩
set_option maxHeartbeats 1000000 in
theorem rAll_spec (fr : Bool) (s : St) (nb : Nat) : ASound Try.prog 44 [aSt fr s] nb (.ret (.tup [fBlks true (allL s), .v (.int .i64 (errOf (chk s)))]) []) := by
  refine ok_44.sound (by simp) ⟨al_aSt s, trivial⟩ ?_
  simp only [ac_44, SS, boxA, cellsOf, foffA, loadA, ldA, idxA, fldA, binA, binVal, isSh, intVal, lenA, slenA, pickA, storeA, setN, getN, fillA, extA, beqA, eqsA, eqL, isnilA, unA, unVal, convA, nilA, sconvA, b2sA, b2sOf, bytesOf, mmA, srcA, appA, sliceA, lohi, mkslA, envA, ↓reduceIte, Nat.reduceEqDiff, Nat.reduceAdd, Nat.reduceMul, reduceCtorEq, Nat.reduceLeDiff, fB, fBools, fBlks, fSegs, aBlk, aSg, aSt, stRow, List.drop_zero, List.take_succ_cons, List.take_zero, List.take_nil, Nat.mul_one, Nat.one_mul, List.cons_append, List.nil_append]
  refine ⟨_, rCheck_spec fr s _, ?_⟩
  rw [errN_eq, rchk_eq]
  cases hc : chk s with
  | false =>
    simp only [show errOf false = 9 from rfl, Int.reduceEq, not_false_eq_true, SS, boxA, cellsOf, foffA, loadA, ldA, idxA, fldA, binA, binVal, isSh, intVal, lenA, slenA, pickA, storeA, setN, getN, fillA, extA, beqA, eqsA, eqL, isnilA, unA, unVal, convA, nilA, sconvA, b2sA, b2sOf, bytesOf, mmA, srcA, appA, sliceA, lohi, mkslA, envA, ↓reduceIte, Nat.reduceEqDiff, Nat.reduceAdd, Nat.reduceMul, reduceCtorEq, Nat.reduceLeDiff, fB, fBools, fBlks, fSegs, aBlk, aSg, aSt, stRow, List.drop_zero, List.take_succ_cons, List.take_zero, List.take_nil, Nat.mul_one, Nat.one_mul, List.cons_append, List.nil_append]
    rw [show allL s = [] from by rw [allL, hc]; rfl]
    exact Ends.imp (r0 := .tup [.v (.slice none 0 0), .v (.int .i64 9)]) (.inr rfl) (by simp [resL, resOne, tupOf, getN, s_envOf, s_envOf0, s_heapOf, s_heapOf0, s_put1, s_app0, s_app1]) ⟨trivial, trivial, trivial⟩ (Imp.tupL ⟨Imp.nil true, Imp.refl _, trivial⟩)
  | true =>
    have g := (chk_iff s).1 hc
    have rb : RB s := rchk_RB (by rw [rchk_eq]; exact hc)
    simp only [show errOf true = 0 from rfl, not_true, SS, boxA, cellsOf, foffA, loadA, ldA, idxA, fldA, binA, binVal, isSh, intVal, lenA, slenA, pickA, storeA, setN, getN, fillA, extA, beqA, eqsA, eqL, isnilA, unA, unVal, convA, nilA, sconvA, b2sA, b2sOf, bytesOf, mmA, srcA, appA, sliceA, lohi, mkslA, envA, ↓reduceIte, Nat.reduceEqDiff, Nat.reduceAdd, Nat.reduceMul, reduceCtorEq, Nat.reduceLeDiff, fB, fBools, fBlks, fSegs, aBlk, aSg, aSt, stRow, List.drop_zero, List.take_succ_cons, List.take_zero, List.take_nil, Nat.mul_one, Nat.one_mul, List.cons_append, List.nil_append]
    refine AWc.family (fun j => S_ra fr s j) (fun j => j ≤ (kS s).length) (fun j => (kS s).length - j) 0 (Nat.zero_le _) ?_ ?_
    · refine Weak.trans (Weak.virtC 55 3 (l := [(1, .op 0 0), (4, .os 576 0 0 3), (5, .v (.int .i64 0)), (6, .v (.int .i64 0))]) (h := [(0, stRow 32 fr s)]) ?_ ?_) (Weak.calc [(0, 0), (576, 1)] (by decide) ?_ ?_)
      all_goals simp [show eBlks true [] = [] from rfl, show eBlks true (outN s 0) = [] from rfl, tk_B, tk_Bools, tk_Blks, tk_Segs, AlL_append, renL_append, okL, okH, rowIs, okV, okHV, rowVt, vtL, okF, okHF, rowFz, fzL, fzV, fzOne, nilLike, oldLike, rn, s_envOf, s_envOf0, s_heapOf, s_heapOf0, s_put, s_put0, s_put1, s_app0, s_app1, Al, AlL, ren, renL, al_B, al_Bools, al_Blks, al_Segs, ren_B, ren_Bools, ren_Blks, ren_Segs, fB, fBools, fBlks, fSegs]
    · intro j hj
      have hn := nxt_kS g hj
      by_cases hlt : j < (kS s).length
      · have hk := List.getElem?_eq_getElem hlt
        generalize (kS s)[j] = k at hk
        rw [hk] at hn
        simp only at hn
        obtain ⟨ko, kx⟩ := k
        have hp : prevO s (j + 1) = (ko, kx) := by simp only [prevO, hk, Option.getD_some]
        have hol : (outN s j).length ≤ 520 := by
          rw [List.length_map]
          have h1 := List.length_filter_le (neK s) ((kS s).take j)
          have h2 : ((kS s).take j).length ≤ (kS s).length := by simp; omega
          have h3 : (kS s).length = (versOf s).keys.length := (List.mergeSort_perm _ kLe).length_eq
          have := len_keys s g
          omega
        have hsn : outN s (j + 1) = if neK s (ko, kx) = true then outN s j ++ [mkB s (ko, kx)] else outN s j := by
          obtain ⟨hjl, e⟩ := List.getElem?_eq_some_iff.1 hk
          unfold outN
          rw [List.take_succ_eq_append_getElem hjl, e, List.filter_append, List.map_append]
          cases hne : neK s (ko, kx) <;> simp [hne]
        simp only [S_ra, SS, boxA, cellsOf, foffA, loadA, ldA, idxA, fldA, binA, binVal, isSh, intVal, lenA, slenA, pickA, storeA, setN, getN, fillA, extA, beqA, eqsA, eqL, isnilA, unA, unVal, convA, nilA, sconvA, b2sA, b2sOf, bytesOf, mmA, srcA, appA, sliceA, lohi, mkslA, envA, ↓reduceIte, Nat.reduceEqDiff, Nat.reduceAdd, Nat.reduceMul, reduceCtorEq, Nat.reduceLeDiff, fB, fBools, fBlks, fSegs, aBlk, aSg, aSt, stRow, List.drop_zero, List.take_succ_cons, List.take_zero, List.take_nil, Nat.mul_one, Nat.one_mul, List.cons_append, List.nil_append]
        refine ⟨_, next_spec fr s _ _ _ rb, ?_⟩
        rw [hn]
        simp only [SS, boxA, cellsOf, foffA, loadA, ldA, idxA, fldA, binA, binVal, isSh, intVal, lenA, slenA, pickA, storeA, setN, getN, fillA, extA, beqA, eqsA, eqL, isnilA, unA, unVal, convA, nilA, sconvA, b2sA, b2sOf, bytesOf, mmA, srcA, appA, sliceA, lohi, mkslA, envA, ↓reduceIte, Nat.reduceEqDiff, Nat.reduceAdd, Nat.reduceMul, reduceCtorEq, Nat.reduceLeDiff, fB, fBools, fBlks, fSegs, aBlk, aSg, aSt, stRow, List.drop_zero, List.take_succ_cons, List.take_zero, List.take_nil, Nat.mul_one, Nat.one_mul, List.cons_append, List.nil_append]
        refine ⟨_, last_spec fr s ko kx _ rb.n64 rb.seg rb.opn, ?_⟩
        rw [la_d g (ko, kx)]
        simp only [SS, boxA, cellsOf, foffA, loadA, ldA, idxA, fldA, binA, binVal, isSh, intVal, lenA, slenA, pickA, storeA, setN, getN, fillA, extA, beqA, eqsA, eqL, isnilA, unA, unVal, convA, nilA, sconvA, b2sA, b2sOf, bytesOf, mmA, srcA, appA, sliceA, lohi, mkslA, envA, ↓reduceIte, Nat.reduceEqDiff, Nat.reduceAdd, Nat.reduceMul, reduceCtorEq, Nat.reduceLeDiff, fB, fBools, fBlks, fSegs, aBlk, aSg, aSt, stRow, List.drop_zero, List.take_succ_cons, List.take_zero, List.take_nil, Nat.mul_one, Nat.one_mul, List.cons_append, List.nil_append]
        refine ite_intro (fun h0 => ?_) (fun h0 => ?_)
        · refine ⟨_, copied_spec fr ((versOf s).ver (ko, kx)).data _ (by have := ver_len rb (ko, kx); omega), ?_⟩
          simp only [len_Blks, SS, boxA, cellsOf, foffA, loadA, ldA, idxA, fldA, binA, binVal, isSh, intVal, lenA, slenA, pickA, storeA, setN, getN, fillA, extA, beqA, eqsA, eqL, isnilA, unA, unVal, convA, nilA, sconvA, b2sA, b2sOf, bytesOf, mmA, srcA, appA, sliceA, lohi, mkslA, envA, ↓reduceIte, Nat.reduceEqDiff, Nat.reduceAdd, Nat.reduceMul, reduceCtorEq, Nat.reduceLeDiff, fB, fBools, fBlks, fSegs, aBlk, aSg, aSt, stRow, List.drop_zero, List.take_succ_cons, List.take_zero, List.take_nil, Nat.mul_one, Nat.one_mul, List.cons_append, List.nil_append]
          rw [if_pos (by omega)]
          have hne : neK s (ko, kx) = true := by
            unfold neK
            exact decide_eq_true (List.length_pos_iff.1 (by omega))
          rw [hne, if_pos rfl] at hsn
          refine famC_next (j + 1) (by omega) (by omega) ?_
          have hrow : eBlks true (outN s j) ++ [AV.v (.int .i64 ko), .v (.int .i64 kx), .fs true (eB ((versOf s).ver (ko, kx)).data) ((versOf s).ver (ko, kx)).data.length] = eBlks true (outN s (j + 1)) := by rw [hsn]; simp [eBlks, mkB, fB, eBlk]
          rw [hrow]
          refine Weak.calc [(0, 0), (2562, 1)] (by decide) ?_ ?_
          · rw [hp, hsn]; simp [tk_B, tk_Bools, tk_Blks, tk_Segs, AlL_append, renL_append, okL, okH, rowIs, okV, okHV, rowVt, vtL, okF, okHF, rowFz, fzL, fzV, fzOne, nilLike, oldLike, rn, s_envOf, s_envOf0, s_heapOf, s_heapOf0, s_put, s_put0, s_put1, s_app0, s_app1, Al, AlL, ren, renL, al_B, al_Bools, al_Blks, al_Segs, ren_B, ren_Bools, ren_Blks, ren_Segs, fB, fBools, fBlks, fSegs]
          · simp [tk_B, tk_Bools, tk_Blks, tk_Segs, AlL_append, renL_append, okL, okH, rowIs, okV, okHV, rowVt, vtL, okF, okHF, rowFz, fzL, fzV, fzOne, nilLike, oldLike, rn, s_envOf, s_envOf0, s_heapOf, s_heapOf0, s_put, s_put0, s_put1, s_app0, s_app1, Al, AlL, ren, renL, al_B, al_Bools, al_Blks, al_Segs, ren_B, ren_Bools, ren_Blks, ren_Segs, fB, fBools, fBlks, fSegs]
        · have hne : neK s (ko, kx) = false := by
            unfold neK
            exact decide_eq_false (fun h => h0 (by have := List.length_pos_iff.2 h; omega))
          rw [hne] at hsn
          refine famC_next (j + 1) (by omega) (by omega) ?_
          refine Weak.calc [(0, 0), (1, 1)] (by decide) ?_ ?_
          · rw [hp, hsn]; simp [tk_B, tk_Bools, tk_Blks, tk_Segs, AlL_append, renL_append, okL, okH, rowIs, okV, okHV, rowVt, vtL, okF, okHF, rowFz, fzL, fzV, fzOne, nilLike, oldLike, rn, s_envOf, s_envOf0, s_heapOf, s_heapOf0, s_put, s_put0, s_put1, s_app0, s_app1, Al, AlL, ren, renL, al_B, al_Bools, al_Blks, al_Segs, ren_B, ren_Bools, ren_Blks, ren_Segs, fB, fBools, fBlks, fSegs]
          · rw [hsn]; simp [tk_B, tk_Bools, tk_Blks, tk_Segs, AlL_append, renL_append, okL, okH, rowIs, okV, okHV, rowVt, vtL, okF, okHF, rowFz, fzL, fzV, fzOne, nilLike, oldLike, rn, s_envOf, s_envOf0, s_heapOf, s_heapOf0, s_put, s_put0, s_put1, s_app0, s_app1, Al, AlL, ren, renL, al_B, al_Bools, al_Blks, al_Segs, ren_B, ren_Bools, ren_Blks, ren_Segs, fB, fBools, fBlks, fSegs]
      · have hjl : j = (kS s).length := by omega
        subst hjl
        rw [List.getElem?_eq_none (Nat.le_refl _)] at hn
        simp only at hn
        simp only [S_ra, SS, boxA, cellsOf, foffA, loadA, ldA, idxA, fldA, binA, binVal, isSh, intVal, lenA, slenA, pickA, storeA, setN, getN, fillA, extA, beqA, eqsA, eqL, isnilA, unA, unVal, convA, nilA, sconvA, b2sA, b2sOf, bytesOf, mmA, srcA, appA, sliceA, lohi, mkslA, envA, ↓reduceIte, Nat.reduceEqDiff, Nat.reduceAdd, Nat.reduceMul, reduceCtorEq, Nat.reduceLeDiff, fB, fBools, fBlks, fSegs, aBlk, aSg, aSt, stRow, List.drop_zero, List.take_succ_cons, List.take_zero, List.take_nil, Nat.mul_one, Nat.one_mul, List.cons_append, List.nil_append]
        refine ⟨_, next_spec fr s _ _ _ rb, ?_⟩
        rw [hn]
        simp only [SS, boxA, cellsOf, foffA, loadA, ldA, idxA, fldA, binA, binVal, isSh, intVal, lenA, slenA, pickA, storeA, setN, getN, fillA, extA, beqA, eqsA, eqL, isnilA, unA, unVal, convA, nilA, sconvA, b2sA, b2sOf, bytesOf, mmA, srcA, appA, sliceA, lohi, mkslA, envA, ↓reduceIte, Nat.reduceEqDiff, Nat.reduceAdd, Nat.reduceMul, reduceCtorEq, Nat.reduceLeDiff, fB, fBools, fBlks, fSegs, aBlk, aSg, aSt, stRow, List.drop_zero, List.take_succ_cons, List.take_zero, List.take_nil, Nat.mul_one, Nat.one_mul, List.cons_append, List.nil_append]
        have hout : outN s (kS s).length = allL s := by rw [allL, hc, if_pos rfl, allK_kS, outN, List.take_length]
        rw [hout]
        refine Ends.weak (Weak.freezeC 1 rfl (l := [(2, .fs true (eBlks true (allL s)) (allL s).length), (3, .v (.int .i64 0))]) (h := []) ?_ ?_) (Ends.data (.inr rfl) (by simp [fBlks, resL, resOne, tupOf, getN, s_envOf, s_envOf0, s_heapOf, s_heapOf0, s_put1, s_app0, s_app1]) ⟨al_fBlks _, trivial, trivial⟩)
        · simp [tk_B, tk_Bools, tk_Blks, tk_Segs, AlL_append, renL_append, okL, okH, rowIs, okV, okHV, rowVt, vtL, okF, okHF, rowFz, fzL, fzV, fzOne, nilLike, oldLike, rn, s_envOf, s_envOf0, s_heapOf, s_heapOf0, s_put, s_put0, s_put1, s_app0, s_app1, Al, AlL, ren, renL, al_B, al_Bools, al_Blks, al_Segs, ren_B, ren_Bools, ren_Blks, ren_Segs, fB, fBools, fBlks, fSegs]
        · simp [tk_B, tk_Bools, tk_Blks, tk_Segs, AlL_append, renL_append, okL, okH, rowIs, okV, okHV, rowVt, vtL, okF, okHF, rowFz, fzL, fzV, fzOne, nilLike, oldLike, rn, s_envOf, s_envOf0, s_heapOf, s_heapOf0, s_put, s_put0, s_put1, s_app0, s_app1, Al, AlL, ren, renL, al_B, al_Bools, al_Blks, al_Segs, ren_B, ren_Bools, ren_Blks, ren_Segs, fB, fBools, fBlks, fSegs]
theorem none_note {seq : Int} {l : List Blk} {q : Vers} (h : ∀ k, (q.ver k).count = 0 → (q.ver k).data = []) : ∀ j k, ((noteN seq l q j).ver k).count = 0 → ((noteN seq l q j).ver k).data = []
  | 0, k => h k
  | j + 1, k => by
    simp only [noteN]
    split
    · simp only [noteStep]
      split
      · unfold bump
        split <;> (intro h; simp at h)
      · exact none_note h j k
    · exact none_note h j k
theorem ver_none (s : St) (k : Kd) : ((versOf s).ver k).count = 0 → ((versOf s).ver k).data = [] := by
  refine none_note ?_ _ k
  generalize s.segs.length = n
  induction n with
  | zero => intro k _; rfl
  | succ j ih =>
    intro k
    simp only [segsN]
    split
    · exact none_note ih _ k
    · exact ih k
theorem getB_ver {s : St} (hc : chk s = true) (o x : Int) : getB s o x = ((versOf s).ver (o, x)).data := by rw [getB, hc]; rfl
theorem rGet_spec (fr : Bool) (s : St) (o x : Int) (nb : Nat) : ASound Try.prog 42 [aSt fr s, .v (.int .i64 o), .v (.int .i64 x)] nb (.ret (.tup [fB true (getB s o x), .v (.bool (getIs s o x)), .v (.int .i64 (errOf (chk s)))]) []) := by
  refine ok_42.sound (by simp) ⟨al_aSt s, trivial, trivial, trivial⟩ ?_
  simp only [ac_42, SS, boxA, cellsOf, foffA, loadA, ldA, idxA, fldA, binA, binVal, isSh, intVal, lenA, slenA, pickA, storeA, setN, getN, fillA, extA, beqA, eqsA, eqL, isnilA, unA, unVal, convA, nilA, sconvA, b2sA, b2sOf, bytesOf, mmA, srcA, appA, sliceA, lohi, mkslA, envA, ↓reduceIte, Nat.reduceEqDiff, Nat.reduceAdd, Nat.reduceMul, reduceCtorEq, Nat.reduceLeDiff, fB, fBools, fBlks, fSegs, aBlk, aSg, aSt, stRow, List.drop_zero, List.take_succ_cons, List.take_zero, List.take_nil, Nat.mul_one, Nat.one_mul, List.cons_append, List.nil_append]
  refine ⟨_, rCheck_spec fr s _, ?_⟩
  rw [errN_eq, rchk_eq]
  cases hc : chk s with
  | false =>
    simp only [show errOf false = 9 from rfl, Int.reduceEq, not_false_eq_true, SS, boxA, cellsOf, foffA, loadA, ldA, idxA, fldA, binA, binVal, isSh, intVal, lenA, slenA, pickA, storeA, setN, getN, fillA, extA, beqA, eqsA, eqL, isnilA, unA, unVal, convA, nilA, sconvA, b2sA, b2sOf, bytesOf, mmA, srcA, appA, sliceA, lohi, mkslA, envA, ↓reduceIte, Nat.reduceEqDiff, Nat.reduceAdd, Nat.reduceMul, reduceCtorEq, Nat.reduceLeDiff, fB, fBools, fBlks, fSegs, aBlk, aSg, aSt, stRow, List.drop_zero, List.take_succ_cons, List.take_zero, List.take_nil, Nat.mul_one, Nat.one_mul, List.cons_append, List.nil_append]
    have h0 : getB s o x = [] := by rw [getB, hc]; rfl
    rw [getIs, h0]
    exact Ends.imp (r0 := .tup [.v (.slice none 0 0), .v (.bool false), .v (.int .i64 9)]) (.inr rfl) (by simp [resL, resOne, tupOf, getN, s_envOf, s_envOf0, s_heapOf, s_heapOf0, s_put1, s_app0, s_app1]) ⟨trivial, trivial, trivial, trivial⟩ (Imp.tupL ⟨Imp.nil true, Imp.refl _, Imp.refl _, trivial⟩)
  | true =>
    have g := (chk_iff s).1 hc
    have rb : RB s := rchk_RB (by rw [rchk_eq]; exact hc)
    simp only [show errOf true = 0 from rfl, not_true, SS, boxA, cellsOf, foffA, loadA, ldA, idxA, fldA, binA, binVal, isSh, intVal, lenA, slenA, pickA, storeA, setN, getN, fillA, extA, beqA, eqsA, eqL, isnilA, unA, unVal, convA, nilA, sconvA, b2sA, b2sOf, bytesOf, mmA, srcA, appA, sliceA, lohi, mkslA, envA, ↓reduceIte, Nat.reduceEqDiff, Nat.reduceAdd, Nat.reduceMul, reduceCtorEq, Nat.reduceLeDiff, fB, fBools, fBlks, fSegs, aBlk, aSg, aSt, stRow, List.drop_zero, List.take_succ_cons, List.take_zero, List.take_nil, Nat.mul_one, Nat.one_mul, List.cons_append, List.nil_append]
    refine ⟨_, last_spec fr s o x _ rb.n64 rb.seg rb.opn, ?_⟩
    have hd : (lastF s o x).d = getB s o x := by rw [la_d g (o, x), getB_ver hc]
    have hn : (lastF s o x).n = 0 → getB s o x = [] := by
      rw [lastF_eq g, getB_ver hc]
      exact ver_none s (o, x)
    have hlen : (getB s o x).length ≤ 32 := by rw [getB_ver hc]; exact ver_len rb _
    rw [hd]
    generalize (lastF s o x).n = n at hn
    rw [getIs]
    generalize getB s o x = d at hn hlen
    simp only [SS, boxA, cellsOf, foffA, loadA, ldA, idxA, fldA, binA, binVal, isSh, intVal, lenA, slenA, pickA, storeA, setN, getN, fillA, extA, beqA, eqsA, eqL, isnilA, unA, unVal, convA, nilA, sconvA, b2sA, b2sOf, bytesOf, mmA, srcA, appA, sliceA, lohi, mkslA, envA, ↓reduceIte, Nat.reduceEqDiff, Nat.reduceAdd, Nat.reduceMul, reduceCtorEq, Nat.reduceLeDiff, fB, fBools, fBlks, fSegs, aBlk, aSg, aSt, stRow, List.drop_zero, List.take_succ_cons, List.take_zero, List.take_nil, Nat.mul_one, Nat.one_mul, List.cons_append, List.nil_append]
    have fin0 : d = [] → ∀ (σ : Heap) (nx : Nat), Ends 34 [.tmp 6, .tmp 7, .tmp 8] nb (.tup [.fs true (eB d) d.length, .v (.bool (decide (0 < d.length))), .v (.int .i64 0)]) [] .ret
        ⟨envOf [(6, .v (.slice none 0 0)), (7, .v (.bool false)), (8, .v (.int .i64 0))], σ, nx⟩ := by
      rintro rfl σ nx
      exact Ends.imp (r0 := .tup [.v (.slice none 0 0), .v (.bool false), .v (.int .i64 0)]) (.inr rfl) (by simp [resL, resOne, tupOf, getN, s_envOf, s_envOf0, s_heapOf, s_heapOf0, s_put1, s_app0, s_app1]) ⟨trivial, trivial, trivial, trivial⟩ (Imp.tupL ⟨Imp.nil true, Imp.refl _, Imp.refl _, trivial⟩)
    refine ite_intro (fun h0 => ?_) (fun h0 => ?_)
    · refine ite_intro (fun h1 => ?_) (fun h1 => ?_)
      · exact fin0 (List.eq_nil_of_length_eq_zero (by omega)) _ _
      · refine ⟨_, copied_spec fr d _ (by omega), ?_⟩
        simp only [SS, boxA, cellsOf, foffA, loadA, ldA, idxA, fldA, binA, binVal, isSh, intVal, lenA, slenA, pickA, storeA, setN, getN, fillA, extA, beqA, eqsA, eqL, isnilA, unA, unVal, convA, nilA, sconvA, b2sA, b2sOf, bytesOf, mmA, srcA, appA, sliceA, lohi, mkslA, envA, ↓reduceIte, Nat.reduceEqDiff, Nat.reduceAdd, Nat.reduceMul, reduceCtorEq, Nat.reduceLeDiff, fB, fBools, fBlks, fSegs, aBlk, aSg, aSt, stRow, List.drop_zero, List.take_succ_cons, List.take_zero, List.take_nil, Nat.mul_one, Nat.one_mul, List.cons_append, List.nil_append]
        rw [show decide (0 < d.length) = true from decide_eq_true (by omega)]
        exact Ends.data (.inr rfl) (by simp [resL, resOne, tupOf, getN, s_envOf, s_envOf0, s_heapOf, s_heapOf0, s_put1, s_app0, s_app1]) ⟨al_fB d, trivial, trivial, trivial⟩
    · exact fin0 (hn (by omega)) _ _
end Go.Proofs.Ytfoeddmbhmfjcaa
/- LogTells. -/
namespace Go.Proofs.Ytfoeddmbhmfjcaa
open Go.RowKit
set_option maxRecDepth 100000
theorem allL_len (s : St) : (allL s).length ≤ 520 ∧ ∀ b ∈ allL s, b.data.length ≤ 32 := by
  unfold allL
  split
  · rename_i hc
    have g := (chk_iff s).1 hc
    have rb : RB s := rchk_RB (by rw [rchk_eq]; exact hc)
    constructor
    · rw [List.length_map, allK, List.length_mergeSort]
      exact Nat.le_trans (List.length_filter_le _ _) (len_keys s g)
    · intro b hb
      obtain ⟨k, _, rfl⟩ := List.mem_map.1 hb
      exact ver_len rb k
  · simp
theorem getB_len (s : St) (o x : Int) : (getB s o x).length ≤ 32 := by
  unfold getB
  split
  · rename_i hc
    exact ver_len (rchk_RB (by rw [rchk_eq]; exact hc)) _
  · simp
theorem bytes_sz {l : List Int} (h : okBytes l) : l.length ≤ 140737488355328 := by have := h.1; unfold reachB at this; omega
set_option maxHeartbeats 2000000 in
theorem logTells_spec (fr fb : Bool) (s : St) (b : Blk) (o x : Int) (nb : Nat) (hok : okSt s) (hb : okBlk b) : ASound Try.prog 10 [aSt fr s, aBlk fb b, .v (.int .i64 o), .v (.int .i64 x)] nb (.ret (.v (.bool true)) []) := by
  have hbz := bytes_sz hb.2.2
  refine ok_10.sound (by simp) ⟨al_aSt s, al_aBlk b, trivial, trivial, trivial⟩ ?_
  simp only [ac_10, SS, boxA, cellsOf, foffA, loadA, ldA, idxA, fldA, binA, binVal, isSh, intVal, lenA, slenA, pickA, storeA, setN, getN, fillA, extA, beqA, eqsA, eqL, isnilA, unA, unVal, convA, nilA, sconvA, b2sA, b2sOf, bytesOf, mmA, srcA, appA, sliceA, lohi, mkslA, envA, ↓reduceIte, Nat.reduceEqDiff, Nat.reduceAdd, Nat.reduceMul, reduceCtorEq, Nat.reduceLeDiff, fB, fBools, fBlks, fSegs, aBlk, aSg, aSt, stRow, List.drop_zero, List.take_succ_cons, List.take_zero, List.take_nil, Nat.mul_one, Nat.one_mul, List.cons_append, List.nil_append]
  refine ⟨_, ofSt_spec fr s _ (ok_sz hok), ?_⟩
  simp only [SS, boxA, cellsOf, foffA, loadA, ldA, idxA, fldA, binA, binVal, isSh, intVal, lenA, slenA, pickA, storeA, setN, getN, fillA, extA, beqA, eqsA, eqL, isnilA, unA, unVal, convA, nilA, sconvA, b2sA, b2sOf, bytesOf, mmA, srcA, appA, sliceA, lohi, mkslA, envA, ↓reduceIte, Nat.reduceEqDiff, Nat.reduceAdd, Nat.reduceMul, reduceCtorEq, Nat.reduceLeDiff, fB, fBools, fBlks, fSegs, aBlk, aSg, aSt, stRow, List.drop_zero, List.take_succ_cons, List.take_zero, List.take_nil, Nat.mul_one, Nat.one_mul, List.cons_append, List.nil_append]
  refine ⟨_, copyBytes_spec fb b.data _ hbz, ?_⟩
  simp only [SS, boxA, cellsOf, foffA, loadA, ldA, idxA, fldA, binA, binVal, isSh, intVal, lenA, slenA, pickA, storeA, setN, getN, fillA, extA, beqA, eqsA, eqL, isnilA, unA, unVal, convA, nilA, sconvA, b2sA, b2sOf, bytesOf, mmA, srcA, appA, sliceA, lohi, mkslA, envA, ↓reduceIte, Nat.reduceEqDiff, Nat.reduceAdd, Nat.reduceMul, reduceCtorEq, Nat.reduceLeDiff, fB, fBools, fBlks, fSegs, aBlk, aSg, aSt, stRow, List.drop_zero, List.take_succ_cons, List.take_zero, List.take_nil, Nat.mul_one, Nat.one_mul, List.cons_append, List.nil_append]
  refine ⟨by rfl, _, logPut_A true true s b _ hok hb, ?_⟩
  simp only [SS, boxA, cellsOf, foffA, loadA, ldA, idxA, fldA, binA, binVal, isSh, intVal, lenA, slenA, pickA, storeA, setN, getN, fillA, extA, beqA, eqsA, eqL, isnilA, unA, unVal, convA, nilA, sconvA, b2sA, b2sOf, bytesOf, mmA, srcA, appA, sliceA, lohi, mkslA, envA, ↓reduceIte, Nat.reduceEqDiff, Nat.reduceAdd, Nat.reduceMul, reduceCtorEq, Nat.reduceLeDiff, fB, fBools, fBlks, fSegs, aBlk, aSg, aSt, stRow, List.drop_zero, List.take_succ_cons, List.take_zero, List.take_nil, Nat.mul_one, Nat.one_mul, List.cons_append, List.nil_append]
  refine ⟨_, rPut_spec fr fb s b _, ?_⟩
  rw [(put_eq s b).1, (put_eq s b).2]
  simp only [SS, boxA, cellsOf, foffA, loadA, ldA, idxA, fldA, binA, binVal, isSh, intVal, lenA, slenA, pickA, storeA, setN, getN, fillA, extA, beqA, eqsA, eqL, isnilA, unA, unVal, convA, nilA, sconvA, b2sA, b2sOf, bytesOf, mmA, srcA, appA, sliceA, lohi, mkslA, envA, ↓reduceIte, Nat.reduceEqDiff, Nat.reduceAdd, Nat.reduceMul, reduceCtorEq, Nat.reduceLeDiff, fB, fBools, fBlks, fSegs, aBlk, aSg, aSt, stRow, List.drop_zero, List.take_succ_cons, List.take_zero, List.take_nil, Nat.mul_one, Nat.one_mul, List.cons_append, List.nil_append]
  refine ⟨_, logGet_A true s o x _ hok, ?_⟩
  simp only [SS, boxA, cellsOf, foffA, loadA, ldA, idxA, fldA, binA, binVal, isSh, intVal, lenA, slenA, pickA, storeA, setN, getN, fillA, extA, beqA, eqsA, eqL, isnilA, unA, unVal, convA, nilA, sconvA, b2sA, b2sOf, bytesOf, mmA, srcA, appA, sliceA, lohi, mkslA, envA, ↓reduceIte, Nat.reduceEqDiff, Nat.reduceAdd, Nat.reduceMul, reduceCtorEq, Nat.reduceLeDiff, fB, fBools, fBlks, fSegs, aBlk, aSg, aSt, stRow, List.drop_zero, List.take_succ_cons, List.take_zero, List.take_nil, Nat.mul_one, Nat.one_mul, List.cons_append, List.nil_append]
  refine ⟨_, rGet_spec fr s o x _, ?_⟩
  simp only [SS, boxA, cellsOf, foffA, loadA, ldA, idxA, fldA, binA, binVal, isSh, intVal, lenA, slenA, pickA, storeA, setN, getN, fillA, extA, beqA, eqsA, eqL, isnilA, unA, unVal, convA, nilA, sconvA, b2sA, b2sOf, bytesOf, mmA, srcA, appA, sliceA, lohi, mkslA, envA, ↓reduceIte, Nat.reduceEqDiff, Nat.reduceAdd, Nat.reduceMul, reduceCtorEq, Nat.reduceLeDiff, fB, fBools, fBlks, fSegs, aBlk, aSg, aSt, stRow, List.drop_zero, List.take_succ_cons, List.take_zero, List.take_nil, Nat.mul_one, Nat.one_mul, List.cons_append, List.nil_append]
  refine ⟨_, logAll_A true s _ hok, ?_⟩
  simp only [SS, boxA, cellsOf, foffA, loadA, ldA, idxA, fldA, binA, binVal, isSh, intVal, lenA, slenA, pickA, storeA, setN, getN, fillA, extA, beqA, eqsA, eqL, isnilA, unA, unVal, convA, nilA, sconvA, b2sA, b2sOf, bytesOf, mmA, srcA, appA, sliceA, lohi, mkslA, envA, ↓reduceIte, Nat.reduceEqDiff, Nat.reduceAdd, Nat.reduceMul, reduceCtorEq, Nat.reduceLeDiff, fB, fBools, fBlks, fSegs, aBlk, aSg, aSt, stRow, List.drop_zero, List.take_succ_cons, List.take_zero, List.take_nil, Nat.mul_one, Nat.one_mul, List.cons_append, List.nil_append]
  refine ⟨_, rAll_spec fr s _, ?_⟩
  simp only [SS, boxA, cellsOf, foffA, loadA, ldA, idxA, fldA, binA, binVal, isSh, intVal, lenA, slenA, pickA, storeA, setN, getN, fillA, extA, beqA, eqsA, eqL, isnilA, unA, unVal, convA, nilA, sconvA, b2sA, b2sOf, bytesOf, mmA, srcA, appA, sliceA, lohi, mkslA, envA, ↓reduceIte, Nat.reduceEqDiff, Nat.reduceAdd, Nat.reduceMul, reduceCtorEq, Nat.reduceLeDiff, fB, fBools, fBlks, fSegs, aBlk, aSg, aSt, stRow, List.drop_zero, List.take_succ_cons, List.take_zero, List.take_nil, Nat.mul_one, Nat.one_mul, List.cons_append, List.nil_append]
  refine ⟨_, alikeSt_spec true true (putSt s b) (putSt s b) _ (ok_sz (okSt_put hok hb)), ?_⟩
  simp only [no01_t, SS, boxA, cellsOf, foffA, loadA, ldA, idxA, fldA, binA, binVal, isSh, intVal, lenA, slenA, pickA, storeA, setN, getN, fillA, extA, beqA, eqsA, eqL, isnilA, unA, unVal, convA, nilA, sconvA, b2sA, b2sOf, bytesOf, mmA, srcA, appA, sliceA, lohi, mkslA, envA, ↓reduceIte, Nat.reduceEqDiff, Nat.reduceAdd, Nat.reduceMul, reduceCtorEq, Nat.reduceLeDiff, fB, fBools, fBlks, fSegs, aBlk, aSg, aSt, stRow, List.drop_zero, List.take_succ_cons, List.take_zero, List.take_nil, Nat.mul_one, Nat.one_mul, List.cons_append, List.nil_append]
  refine ⟨_, num15_spec (putErr s b) _, ?_⟩
  simp only [SS, boxA, cellsOf, foffA, loadA, ldA, idxA, fldA, binA, binVal, isSh, intVal, lenA, slenA, pickA, storeA, setN, getN, fillA, extA, beqA, eqsA, eqL, isnilA, unA, unVal, convA, nilA, sconvA, b2sA, b2sOf, bytesOf, mmA, srcA, appA, sliceA, lohi, mkslA, envA, ↓reduceIte, Nat.reduceEqDiff, Nat.reduceAdd, Nat.reduceMul, reduceCtorEq, Nat.reduceLeDiff, fB, fBools, fBlks, fSegs, aBlk, aSg, aSt, stRow, List.drop_zero, List.take_succ_cons, List.take_zero, List.take_nil, Nat.mul_one, Nat.one_mul, List.cons_append, List.nil_append]
  refine ⟨_, sameBytes_spec true true (getB s o x) (getB s o x) _ (by have := getB_len s o x; omega), ?_⟩
  simp only [SS, boxA, cellsOf, foffA, loadA, ldA, idxA, fldA, binA, binVal, isSh, intVal, lenA, slenA, pickA, storeA, setN, getN, fillA, extA, beqA, eqsA, eqL, isnilA, unA, unVal, convA, nilA, sconvA, b2sA, b2sOf, bytesOf, mmA, srcA, appA, sliceA, lohi, mkslA, envA, ↓reduceIte, Nat.reduceEqDiff, Nat.reduceAdd, Nat.reduceMul, reduceCtorEq, Nat.reduceLeDiff, fB, fBools, fBlks, fSegs, aBlk, aSg, aSt, stRow, List.drop_zero, List.take_succ_cons, List.take_zero, List.take_nil, Nat.mul_one, Nat.one_mul, List.cons_append, List.nil_append]
  refine ⟨_, num15_spec (errOf (chk s)) _, ?_⟩
  simp only [SS, boxA, cellsOf, foffA, loadA, ldA, idxA, fldA, binA, binVal, isSh, intVal, lenA, slenA, pickA, storeA, setN, getN, fillA, extA, beqA, eqsA, eqL, isnilA, unA, unVal, convA, nilA, sconvA, b2sA, b2sOf, bytesOf, mmA, srcA, appA, sliceA, lohi, mkslA, envA, ↓reduceIte, Nat.reduceEqDiff, Nat.reduceAdd, Nat.reduceMul, reduceCtorEq, Nat.reduceLeDiff, fB, fBools, fBlks, fSegs, aBlk, aSg, aSt, stRow, List.drop_zero, List.take_succ_cons, List.take_zero, List.take_nil, Nat.mul_one, Nat.one_mul, List.cons_append, List.nil_append]
  refine ⟨_, alikeBlocks_spec true true (allL s) (allL s) _ (by have := (allL_len s).1; omega) (fun b hb => by have := (allL_len s).2 b hb; omega), ?_⟩
  simp only [no01_t, SS, boxA, cellsOf, foffA, loadA, ldA, idxA, fldA, binA, binVal, isSh, intVal, lenA, slenA, pickA, storeA, setN, getN, fillA, extA, beqA, eqsA, eqL, isnilA, unA, unVal, convA, nilA, sconvA, b2sA, b2sOf, bytesOf, mmA, srcA, appA, sliceA, lohi, mkslA, envA, ↓reduceIte, Nat.reduceEqDiff, Nat.reduceAdd, Nat.reduceMul, reduceCtorEq, Nat.reduceLeDiff, fB, fBools, fBlks, fSegs, aBlk, aSg, aSt, stRow, List.drop_zero, List.take_succ_cons, List.take_zero, List.take_nil, Nat.mul_one, Nat.one_mul, List.cons_append, List.nil_append]
  refine ⟨_, num15_spec (errOf (chk s)) _, ?_⟩
  simp only [SS, boxA, cellsOf, foffA, loadA, ldA, idxA, fldA, binA, binVal, isSh, intVal, lenA, slenA, pickA, storeA, setN, getN, fillA, extA, beqA, eqsA, eqL, isnilA, unA, unVal, convA, nilA, sconvA, b2sA, b2sOf, bytesOf, mmA, srcA, appA, sliceA, lohi, mkslA, envA, ↓reduceIte, Nat.reduceEqDiff, Nat.reduceAdd, Nat.reduceMul, reduceCtorEq, Nat.reduceLeDiff, fB, fBools, fBlks, fSegs, aBlk, aSg, aSt, stRow, List.drop_zero, List.take_succ_cons, List.take_zero, List.take_nil, Nat.mul_one, Nat.one_mul, List.cons_append, List.nil_append]
  refine ⟨_, logCheck_A true s _ hok, ?_⟩
  simp only [SS, boxA, cellsOf, foffA, loadA, ldA, idxA, fldA, binA, binVal, isSh, intVal, lenA, slenA, pickA, storeA, setN, getN, fillA, extA, beqA, eqsA, eqL, isnilA, unA, unVal, convA, nilA, sconvA, b2sA, b2sOf, bytesOf, mmA, srcA, appA, sliceA, lohi, mkslA, envA, ↓reduceIte, Nat.reduceEqDiff, Nat.reduceAdd, Nat.reduceMul, reduceCtorEq, Nat.reduceLeDiff, fB, fBools, fBlks, fSegs, aBlk, aSg, aSt, stRow, List.drop_zero, List.take_succ_cons, List.take_zero, List.take_nil, Nat.mul_one, Nat.one_mul, List.cons_append, List.nil_append]
  refine ⟨_, num15_spec (errOf (chk s)) _, ?_⟩
  simp only [SS, boxA, cellsOf, foffA, loadA, ldA, idxA, fldA, binA, binVal, isSh, intVal, lenA, slenA, pickA, storeA, setN, getN, fillA, extA, beqA, eqsA, eqL, isnilA, unA, unVal, convA, nilA, sconvA, b2sA, b2sOf, bytesOf, mmA, srcA, appA, sliceA, lohi, mkslA, envA, ↓reduceIte, Nat.reduceEqDiff, Nat.reduceAdd, Nat.reduceMul, reduceCtorEq, Nat.reduceLeDiff, fB, fBools, fBlks, fSegs, aBlk, aSg, aSt, stRow, List.drop_zero, List.take_succ_cons, List.take_zero, List.take_nil, Nat.mul_one, Nat.one_mul, List.cons_append, List.nil_append]
  refine ⟨_, rCheck_spec fr s _, ?_⟩
  rw [errN_eq, rchk_eq]
  simp only [SS, boxA, cellsOf, foffA, loadA, ldA, idxA, fldA, binA, binVal, isSh, intVal, lenA, slenA, pickA, storeA, setN, getN, fillA, extA, beqA, eqsA, eqL, isnilA, unA, unVal, convA, nilA, sconvA, b2sA, b2sOf, bytesOf, mmA, srcA, appA, sliceA, lohi, mkslA, envA, ↓reduceIte, Nat.reduceEqDiff, Nat.reduceAdd, Nat.reduceMul, reduceCtorEq, Nat.reduceLeDiff, fB, fBools, fBlks, fSegs, aBlk, aSg, aSt, stRow, List.drop_zero, List.take_succ_cons, List.take_zero, List.take_nil, Nat.mul_one, Nat.one_mul, List.cons_append, List.nil_append]
  refine ⟨_, alikeSt_spec true fr s s _ (ok_sz hok), ?_⟩
  simp only [no01_t, SS, boxA, cellsOf, foffA, loadA, ldA, idxA, fldA, binA, binVal, isSh, intVal, lenA, slenA, pickA, storeA, setN, getN, fillA, extA, beqA, eqsA, eqL, isnilA, unA, unVal, convA, nilA, sconvA, b2sA, b2sOf, bytesOf, mmA, srcA, appA, sliceA, lohi, mkslA, envA, ↓reduceIte, Nat.reduceEqDiff, Nat.reduceAdd, Nat.reduceMul, reduceCtorEq, Nat.reduceLeDiff, fB, fBools, fBlks, fSegs, aBlk, aSg, aSt, stRow, List.drop_zero, List.take_succ_cons, List.take_zero, List.take_nil, Nat.mul_one, Nat.one_mul, List.cons_append, List.nil_append]
  refine ⟨_, sameBytes_spec true fb b.data b.data _ hbz, ?_⟩
  simp only [SS, boxA, cellsOf, foffA, loadA, ldA, idxA, fldA, binA, binVal, isSh, intVal, lenA, slenA, pickA, storeA, setN, getN, fillA, extA, beqA, eqsA, eqL, isnilA, unA, unVal, convA, nilA, sconvA, b2sA, b2sOf, bytesOf, mmA, srcA, appA, sliceA, lohi, mkslA, envA, ↓reduceIte, Nat.reduceEqDiff, Nat.reduceAdd, Nat.reduceMul, reduceCtorEq, Nat.reduceLeDiff, fB, fBools, fBlks, fSegs, aBlk, aSg, aSt, stRow, List.drop_zero, List.take_succ_cons, List.take_zero, List.take_nil, Nat.mul_one, Nat.one_mul, List.cons_append, List.nil_append]
  refine ⟨_, alive_spec _, ?_⟩
  simp only [SS, boxA, cellsOf, foffA, loadA, ldA, idxA, fldA, binA, binVal, isSh, intVal, lenA, slenA, pickA, storeA, setN, getN, fillA, extA, beqA, eqsA, eqL, isnilA, unA, unVal, convA, nilA, sconvA, b2sA, b2sOf, bytesOf, mmA, srcA, appA, sliceA, lohi, mkslA, envA, ↓reduceIte, Nat.reduceEqDiff, Nat.reduceAdd, Nat.reduceMul, reduceCtorEq, Nat.reduceLeDiff, fB, fBools, fBlks, fSegs, aBlk, aSg, aSt, stRow, List.drop_zero, List.take_succ_cons, List.take_zero, List.take_nil, Nat.mul_one, Nat.one_mul, List.cons_append, List.nil_append]
  refine ⟨by rfl, ?_⟩
  exact Ends.data (.inr rfl) (by simp [resL, resOne, tupOf, getN, s_envOf, s_envOf0, s_heapOf, s_heapOf0, s_put1, s_app0, s_app1]) trivial
end Go.Proofs.Ytfoeddmbhmfjcaa
/- Plain: what is got is kept. -/
namespace Go.Proofs.Ytfoeddmbhmfjcaa
open Go.RowKit
theorem ent_allB {s : St} {q : Int} {j : Nat} {b : Blk} (h : Ent s q j b) : b ∈ allB s := by
  rcases h with ⟨i, y, h1, _, h3⟩ | ⟨_, h2⟩
  · exact List.mem_append_right _ (List.mem_flatMap.2 ⟨y, List.mem_of_getElem? h1, List.mem_of_getElem? h3⟩)
  · exact List.mem_append_left _ (List.mem_of_getElem? h2)
theorem allB_ent {s : St} {b : Blk} (h : b ∈ allB s) : ∃ q j, Ent s q j b := by
  rcases List.mem_append.1 h with h1 | h1
  · obtain ⟨i, hi⟩ := List.getElem?_of_mem h1
    exact ⟨_, i, .inr ⟨rfl, hi⟩⟩
  · obtain ⟨x, hx, h2⟩ := List.mem_flatMap.1 h1
    obtain ⟨i, hi⟩ := List.getElem?_of_mem hx
    obtain ⟨k, hk⟩ := List.getElem?_of_mem h2
    exact ⟨_, k, .inl ⟨i, x, hi, rfl, hk⟩⟩
theorem neK_d {s : St} (g : Good s) (k : Kd) : neK s k = true ↔ (lastF s k.1 k.2).d ≠ [] := by
  rw [la_d g k]; unfold neK; exact decide_eq_true_iff
theorem neK_key {s : St} (g : Good s) {k : Kd} (h : neK s k = true) : k ∈ (versOf s).keys := by
  have h := (neK_d g k).1 h
  have hl := lst_last g k.1 k.2
  by_cases h0 : (lastF s k.1 k.2).n = 0
  · rw [(hl.none h0).1] at h; exact absurd rfl h
  · obtain ⟨q, j, b, h1, h2, _⟩ := hl.mem h0
    exact mem_keys.2 ⟨b, ent_allB h1, Prod.ext h2.1 h2.2⟩
theorem mem_allK {s : St} (g : Good s) {k : Kd} : k ∈ allK s ↔ neK s k = true := by
  rw [allK, List.mem_mergeSort, List.mem_filter]
  exact ⟨fun h => h.2, fun h => ⟨neK_key g h, h⟩⟩
theorem allK_nodup (s : St) : (allK s).Nodup := by
  rw [allK_kS]
  exact (kS_nodup s).sublist List.filter_sublist
theorem allK_sorted (s : St) : (allK s).Pairwise fun a b => kLe a b = true := List.pairwise_mergeSort (le := kLe) kLe_trans kLe_total _
theorem mkB_d {s : St} (g : Good s) (k : Kd) : mkB s k = ⟨k.1, k.2, (lastF s k.1 k.2).d⟩ := by rw [mkB, la_d g k]
theorem allL_eq {s t : St} (g : Good s) (k : Good t) (h : ∀ o x, (lastF t o x).d = (lastF s o x).d) : allL t = allL s := by
  have hK : allK t = allK s := by
    refine List.Perm.eq_of_pairwise (le := fun a b => kLe a b = true) (fun a b _ _ => kLe_anti) (allK_sorted t) (allK_sorted s) ?_
    refine (List.perm_ext_iff_of_nodup (allK_nodup t) (allK_nodup s)).2 fun a => ?_
    rw [mem_allK g, mem_allK k, neK_d g, neK_d k, h]
  rw [allL, allL, if_pos (chk_t k), if_pos (chk_t g), hK]
  refine List.map_congr_left fun a _ => ?_
  rw [mkB_d g, mkB_d k, h]
theorem allL_mem {s : St} (g : Good s) {b : Blk} (hb : b ∈ allL s) : b.data = (lastF s b.own b.idx).d ∧ mayBlk b = true := by
  rw [allL, if_pos (chk_t g)] at hb
  obtain ⟨k, hk, rfl⟩ := List.mem_map.1 hb
  have hn := (mem_allK g).1 hk
  refine ⟨by rw [mkB_d g], ?_⟩
  obtain ⟨b, hb, hkb⟩ := mem_keys.1 (neK_key g hn)
  have rb : RB s := rchk_RB (by rw [rchk_eq]; exact chk_t g)
  have hl := ver_len rb k
  have hm : mayBlk b = true := by
    rcases List.mem_append.1 hb with h1 | h1
    · exact List.all_eq_true.1 g.opnMay b h1
    · obtain ⟨x, hx, h2⟩ := List.mem_flatMap.1 h1
      obtain ⟨i, hi⟩ := List.getElem?_of_mem hx
      cases hf : freeB x with
      | true =>
        simp only [freeB, decide_eq_true_eq] at hf
        have : x.blocks = [] := List.eq_nil_of_length_eq_zero (by omega)
        rw [this] at h2; cases h2
      | false =>
        have := (g.seg i x hi hf).1
        simp only [sgOk, Bool.and_eq_true, decide_eq_true_eq, List.all_eq_true] at this
        exact this.2 b h2
  subst hkb
  simp only [mayBlk, mayB, decide_eq_true_eq] at hm
  exact decide_eq_true ⟨hm.1, hm.2.1, hm.2.2.1, hm.2.2.2.1, hl⟩
theorem allB_ok {s : St} (h : okSt s) {b : Blk} (hb : b ∈ allB s) : okBlk b := by
  rcases List.mem_append.1 hb with h1 | h1
  · exact h.2.2.1.2 b h1
  · obtain ⟨x, hx, h2⟩ := List.mem_flatMap.1 h1
    exact (h.1.2 x hx).2.2 b h2
theorem last_ok {s : St} (g : Good s) (h : okSt s) (o x : Int) : okBytes (lastF s o x).d := by
  have hl := lst_last g o x
  by_cases h0 : (lastF s o x).n = 0
  · rw [(hl.none h0).1]; exact ⟨by decide, by simp⟩
  · obtain ⟨q, j, b, h1, _, _, _, h5⟩ := hl.mem h0
    rw [h5]
    exact (allB_ok h (ent_allB h1)).2.2
theorem allL_ok {s : St} (g : Good s) (h : okSt s) {b : Blk} (hb : b ∈ allL s) : okBlk b := by
  obtain ⟨h1, _⟩ := allL_mem g hb
  have hd := last_ok g h b.own b.idx
  rw [← h1] at hd
  rw [allL, if_pos (chk_t g)] at hb
  obtain ⟨k, hk, rfl⟩ := List.mem_map.1 hb
  obtain ⟨b', hb', hkb⟩ := mem_keys.1 (neK_key g ((mem_allK g).1 hk))
  have ho := allB_ok h hb'
  subst hkb
  exact ⟨ho.1, ho.2.1, hd⟩
/-- what is live is the last of its kind -/
theorem keep_last {s : St} (g : Good s) {k : Nat} {x : Sg} (hx : s.segs[k]? = some x) {b : Blk} (hb : b ∈ keepL s x x.blocks.length) : (lastF s b.own b.idx).d = b.data := by
  unfold keepL at hb
  obtain ⟨⟨b', j⟩, h1, rfl⟩ := List.mem_map.1 hb
  rw [List.mem_filter, List.take_length] at h1
  have hj : x.blocks[j]? = some b' := by simpa using List.mem_zipIdx_iff_getElem?.1 h1.1
  have hk := h1.2
  simp only [keepB, decide_eq_true_eq] at hk
  obtain ⟨h2, h3, _⟩ := hk
  have he : Ent s x.seq j b' := .inl ⟨k, x, hx, rfl, hj⟩
  have hl := lst_last g b'.own b'.idx
  by_cases h0 : (lastF s b'.own b'.idx).n = 0
  · exact absurd ⟨rfl, rfl⟩ ((hl.none h0).2 _ _ _ he)
  · obtain ⟨q, i, c, e1, e2, e3, e4, e5⟩ := hl.mem h0
    have hq : q = x.seq := by rw [← e3]; exact h2
    have hi : i = j := by rw [e4] at h3; omega
    subst hq; subst hi
    rw [e5, ent_fun g e1 he]
theorem live_keep {s : St} (g : Good s) {slot : Int} {b : Blk} (hb : b ∈ liveL s slot) : (lastF s b.own b.idx).d = b.data := by
  rw [← live_eq] at hb
  unfold rlive at hb
  split at hb
  · split at hb
    · rename_i x hx
      exact keep_last g hx hb
    · cases hb
  · cases hb
theorem cntS_set2 {o x : Int} : ∀ (l : List Sg) (k : Nat) (y a : Sg), l[k]? = some y → cntS o x (l.set k a) + cnt o x y.blocks = cntS o x l + cnt o x a.blocks
  | [], k, y, a, h => by simp at h
  | g :: l, 0, y, a, h => by
    simp at h; subst h
    simp [cntS]; omega
  | g :: l, k + 1, y, a, h => by
    simp at h
    have ih := cntS_set2 (o := o) (x := x) l k y a h
    simp only [List.set_cons_succ, cntS]
    omega
theorem ent_free {s : St} {k : Nat} {q : Int} {j : Nat} {b : Blk} : Ent (freeSt s k) q j b ↔ (∃ (i : Nat) (y : Sg), i ≠ k ∧ s.segs[i]? = some y ∧ y.seq = q ∧ y.blocks[j]? = some b) ∨ (q = s.next ∧ s.opn[j]? = some b) := by
  unfold Ent freeSt
  constructor
  · rintro (⟨i, y, h1, h2, h3⟩ | h)
    · by_cases hi : i = k
      · subst hi
        by_cases hl : i < s.segs.length
        · rw [List.getElem?_set_self hl] at h1
          cases h1
          simp at h3
        · rw [List.getElem?_eq_none (by simp; omega)] at h1; cases h1
      · rw [List.getElem?_set_ne (Ne.symm hi)] at h1
        exact .inl ⟨i, y, hi, h1, h2, h3⟩
    · exact .inr h
  · rintro (⟨i, y, hi, h1, h2, h3⟩ | h)
    · exact .inl ⟨i, y, by rw [List.getElem?_set_ne (Ne.symm hi)]; exact h1, h2, h3⟩
    · exact .inr h
theorem good_free {s : St} (g : Good s) {k : Nat} : Good (freeSt s k) := by
  have get : ∀ (i : Nat) (x : Sg), (s.segs.set k ⟨0, []⟩)[i]? = some x → freeB x = false → s.segs[i]? = some x := by
    intro i x hx hf
    by_cases hi : i = k
    · subst hi
      by_cases hl : i < s.segs.length
      · rw [List.getElem?_set_self hl] at hx; cases hx; simp [freeB] at hf
      · rw [List.getElem?_eq_none (by simp; omega)] at hx; cases hx
    · rw [List.getElem?_set_ne (Ne.symm hi)] at hx; exact hx
  unfold freeSt
  exact ⟨by simp; exact g.n1, by simp; exact g.n64, by simp; exact g.held, g.next1, g.nextM, g.opn8, g.opnMay, fun i x hx hf => g.seg i x (get i x hx hf) hf, fun i j x y hx hy hfx hfy e => g.dist i j x y (get i x hx hfx) (get j y hy hfy) hfx hfy e⟩
theorem free_last {s : St} (g : Good s) {k : Nat} {x : Sg} (hx : s.segs[k]? = some x) (hl : keepL s x x.blocks.length = []) (o i : Int) : (lastF (freeSt s k) o i).d = (lastF s o i).d := by
  have gt := good_free g (k := k)
  have hA := lst_last g o i
  have hB := lst_last gt o i
  have sub : ∀ q j b, Ent (freeSt s k) q j b → Ent s q j b := by
    intro q j b h
    rcases ent_free.1 h with ⟨i, y, _, h1, h2, h3⟩ | h
    · exact .inl ⟨i, y, h1, h2, h3⟩
    · exact .inr h
  by_cases h0 : (lastF s o i).n = 0
  · have hB0 : (lastF (freeSt s k) o i).n = 0 := by
      apply Classical.byContradiction
      intro h1
      obtain ⟨q, j, b, e1, e2, _⟩ := hB.mem h1
      exact (hA.none h0).2 q j b (sub _ _ _ e1) e2
    rw [(hA.none h0).1, (hB.none hB0).1]
  · obtain ⟨q, j, b, e1, e2, e3, e4, e5⟩ := hA.mem h0
    by_cases hin : Ent (freeSt s k) q j b
    · have hB0 : (lastF (freeSt s k) o i).n ≠ 0 := fun h1 => (hB.none h1).2 q j b hin e2
      obtain ⟨q', j', b', k1, k2, k3, k4, k5⟩ := hB.mem hB0
      have t1 := hA.top q' j' b' (sub _ _ _ k1) k2
      have t2 := hB.top q j b hin e2
      rw [e3, e4] at t1
      rw [k3, k4] at t2
      have hq : q' = q := by omega
      have hj : j' = j := by omega
      subst hq; subst hj
      rw [k5, e5, ent_fun gt k1 hin]
    · have hseg : x.seq = q ∧ x.blocks[j]? = some b := by
        rcases e1 with ⟨m, y, h1, h2, h3⟩ | h
        · by_cases hm : m = k
          · subst hm
            rw [hx] at h1; cases h1
            exact ⟨h2, h3⟩
          · exact absurd (ent_free.2 (.inl ⟨m, y, hm, h1, h2, h3⟩)) hin
        · exact absurd (ent_free.2 (.inr h)) hin
      have hkb : keepB s x (b, j) = false := by
        cases hc : keepB s x (b, j) with
        | false => rfl
        | true =>
          have : b ∈ keepL s x x.blocks.length := by
            unfold keepL
            rw [List.take_length]
            exact List.mem_map.2 ⟨(b, j), List.mem_filter.2 ⟨List.mem_zipIdx_iff_getElem?.2 (by simpa using hseg.2), hc⟩, rfl⟩
          rw [hl] at this; cases this
      unfold keepB at hkb
      rw [decide_eq_false_iff_not] at hkb
      simp only [e2.1, e2.2] at hkb
      have hd : b.data = [] ∧ (lastF s o i).n ≤ 1 := by
        constructor
        · apply Classical.byContradiction
          intro h
          exact hkb ⟨by rw [e3, hseg.1], by rw [e4], .inl (List.length_pos_iff.2 h)⟩
        · apply Classical.byContradiction
          intro h
          exact hkb ⟨by rw [e3, hseg.1], by rw [e4], .inr (by omega)⟩
      have hc : 0 < cnt o i x.blocks := by
        unfold cnt
        rw [List.countP_pos_iff]
        exact ⟨b, List.mem_of_getElem? hseg.2, decide_eq_true e2⟩
      have hn := n_last s o i
      have hnt : (lastF (freeSt s k) o i).n = cntS o i (s.segs.set k ⟨0, []⟩) + cnt o i s.opn := n_last (freeSt s k) o i
      have hs := cntS_set2 (o := o) (x := i) s.segs k x ⟨0, []⟩ hx
      have h00 : cnt o i ([] : List Blk) = 0 := rfl
      simp only [h00] at hs
      have hB0 : (lastF (freeSt s k) o i).n = 0 := by omega
      rw [(hB.none hB0).1, e5, hd.1]
theorem slot_live {s : St} {slot : Int} (h : liveErr s slot = 0) : Good s ∧ ∃ (k : Nat) (x : Sg), slot = k ∧ s.segs[k]? = some x ∧ freeB x = false ∧ liveL s slot = keepL s x x.blocks.length := by
  have hu := h
  rw [← used_eq] at hu
  obtain ⟨hc, k, y, rfl, hy, hf⟩ := usedE_0 hu
  refine ⟨(rchk_iff s).1 hc, k, y, rfl, hy, hf, ?_⟩
  rw [← live_eq]
  unfold rlive
  rw [if_pos hu, Int.toNat_natCast, hy]
theorem allL_free {s : St} {slot : Int} (h : liveErr s slot = 0) (hl : liveL s slot = []) : chk (frSt s slot) = true ∧ allL (frSt s slot) = allL s := by
  obtain ⟨g, k, x, rfl, hx, _, e⟩ := slot_live h
  have hz : frErr s k = 0 := by unfold frErr; rw [if_pos h, if_pos hl]
  have e2 : frSt s k = freeSt s k := by unfold frSt; rw [if_pos hz, Int.toNat_natCast]
  rw [e2]
  exact ⟨chk_t (good_free g), allL_eq g (good_free g) (free_last g hx (by rw [← e]; exact hl))⟩
theorem allL_put {s : St} (g : Good s) {b : Blk} (hb : b ∈ allL s) (h8 : s.opn.length < 8) : putErr s b = 0 ∧ chk (putSt s b) = true ∧ allL (putSt s b) = allL s := by
  obtain ⟨h1, h2⟩ := allL_mem g hb
  have he : putErr s b = 0 := by rw [put_ok g h2, if_neg (by omega)]
  have gp := good_put g h2 he
  refine ⟨he, chk_t gp, allL_eq g gp fun o x => ?_⟩
  rw [last_put he]
  split
  · rename_i hk
    rw [← hk.1, ← hk.2, ← h1]
  · rfl
end Go.Proofs.Ytfoeddmbhmfjcaa
