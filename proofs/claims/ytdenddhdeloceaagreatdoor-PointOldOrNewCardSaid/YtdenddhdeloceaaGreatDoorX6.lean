/- Merged texts: KL, Y5, Y6, Y7, RC. -/
import Derived.Test.YtdenddhdeloceaaGreatDoorX1
import Derived.Test.YtdenddhdeloceaaGreatDoorProg
import Derived.Test.YtdenddhdeloceaaGreatDoorX5
import Derived.Test.YtdenddhdeloceaaGreatDoorX4
set_option linter.unusedSimpArgs false
set_option linter.unusedVariables false
/- Functions of the program, compiled. -/
namespace Go.Proofs.YtdenddhdeloceaaGreatDoor
set_option maxRecDepth 100000
def ac_29 : AC :=
(.seq (.reg false [⟨some 2, .box 50 (.tmp 0), none, [0], []⟩,
    ⟨some 3, .box 65 (.tmp 1), none, [1], []⟩,
    ⟨some 4, .new 50 [(.slice none 0 0), (.slice none 0 0)], none, [], []⟩,
    ⟨some 5, .mv (.const (.int .i64 (0))), none, [], []⟩] [2, 3, 4])
(.seq (.reg false [⟨some 6, .load true 2 (.tmp 2), none, [2], []⟩,
    ⟨some 7, .clo 53 [(.tmp 3)], none, [3], []⟩,
    ⟨some 8, .call 52 [(.tmp 6), (.tmp 7)], none, [6, 7], []⟩,
    ⟨some 9, .ext 0 (.tmp 8), none, [8], []⟩,
    ⟨some 10, .ext 1 (.tmp 8), none, [8], []⟩,
    ⟨none, .store 2 (.tmp 4) (.tmp 9), none, [4, 9], []⟩,
    ⟨some 5, .mv (.tmp 10), none, [10], []⟩] [4, 5])
.ret))
theorem ok_29 : FnOk Tryz.prog 29 11 ac_29 [.cell 4 true 2, .tmp 5] := ⟨Tryz.f29, Tryz.func29, by kernel_rfl, by kernel_rfl, by kernel_rfl, by kernel_rfl, by kernel_rfl⟩
def ac_7 : AC :=
(.seq (.reg false [⟨some 4, .box 24 (.tmp 0), none, [0], []⟩,
    ⟨some 5, .box 24 (.tmp 1), none, [1], []⟩,
    ⟨some 6, .box 24 (.tmp 2), none, [2], []⟩,
    ⟨some 8, .mv (.const (.bool false)), none, [], []⟩] [3, 4, 5, 6])
(.seq (.seq (.reg false [⟨some 27, .call 19 [], none, [], []⟩,
    ⟨some 28, .un .not (.tmp 27), none, [27], []⟩] [3, 4, 5, 6, 28])
(.cond (.tmp 28)
(.seq (.reg false [⟨some 8, .mv (.const (.bool false)), none, [], []⟩] [8])
.ret)
.skip))
(.seq (.reg false [⟨some 29, .foff 0 (.tmp 4), none, [4], []⟩,
    ⟨some 30, .load false 1 (.tmp 29), none, [29], []⟩,
    ⟨some 31, .bin .rem (.tmp 30) (.const (.int .i64 (1000))), none, [30], []⟩,
    ⟨some 32, .bin .add (.tmp 31) (.const (.int .i64 (1000))), none, [31], []⟩,
    ⟨some 33, .bin .rem (.tmp 32) (.const (.int .i64 (1000))), none, [32], []⟩,
    ⟨some 34, .bin .add (.const (.int .i64 (2))) (.tmp 33), none, [33], []⟩,
    ⟨some 35, .foff 0 (.tmp 4), none, [4], []⟩,
    ⟨none, .store 1 (.tmp 35) (.tmp 34), none, [35, 34], []⟩] [3, 4, 5, 6])
(.seq (.reg true [⟨some 36, .foff 0 (.tmp 4), none, [4], []⟩,
    ⟨some 37, .load false 1 (.tmp 36), none, [36], [0]⟩,
    ⟨some 38, .bin .sub (.tmp 37) (.const (.int .i64 (1))), none, [37], [1, 0]⟩,
    ⟨some 39, .foff 0 (.tmp 4), none, [4], []⟩,
    ⟨some 40, .load false 1 (.tmp 39), none, [39], [3]⟩,
    ⟨some 41, .bin .add (.tmp 40) (.const (.int .i64 (1))), none, [40], [4, 3]⟩,
    ⟨some 42, .foff 0 (.tmp 6), none, [6], [0, 1, 2]⟩,
    ⟨none, .store 1 (.tmp 42) (.tmp 38), none, [42, 38], [6, 2, 0, 1]⟩,
    ⟨some 43, .foff 0 (.tmp 5), none, [5], [0, 1, 2, 3, 4, 5, 6, 7]⟩,
    ⟨none, .store 1 (.tmp 43) (.tmp 41), none, [43, 41], [8, 5, 7, 0, 1, 2, 3, 4, 6]⟩] [3, 4, 5, 6])
(.seq (.seq (.reg false [⟨some 44, .load true 5 (.tmp 4), none, [4], []⟩,
    ⟨some 45, .call 18 [(.tmp 44)], none, [44], []⟩,
    ⟨some 46, .bin .neq (.tmp 45) (.const (.int .i64 (0))), none, [45], []⟩,
    ⟨some 47, .mv (.tmp 46), none, [46], []⟩,
    ⟨some 48, .load true 5 (.tmp 5), some (47, false), [5, 47], []⟩,
    ⟨some 49, .call 18 [(.tmp 48)], some (47, false), [48, 47], []⟩,
    ⟨some 50, .bin .neq (.tmp 49) (.const (.int .i64 (0))), some (47, false), [49, 47], []⟩,
    ⟨some 51, .pick (.tmp 47) (.const (.bool true)) (.tmp 50), none, [47, 50], []⟩,
    ⟨some 52, .mv (.tmp 51), none, [51], []⟩,
    ⟨some 53, .load true 5 (.tmp 6), some (52, false), [6, 52], []⟩,
    ⟨some 54, .call 18 [(.tmp 53)], some (52, false), [53, 52], []⟩,
    ⟨some 55, .bin .neq (.tmp 54) (.const (.int .i64 (0))), some (52, false), [54, 52], []⟩,
    ⟨some 56, .pick (.tmp 52) (.const (.bool true)) (.tmp 55), none, [52, 55], []⟩] [3, 4, 5, 6, 56])
(.cond (.tmp 56)
(.seq (.reg false [⟨some 8, .mv (.const (.bool true)), none, [], []⟩] [8])
.ret)
.skip))
(.seq (.reg false [⟨some 58, .call 26 [(.const (.int .i64 (16)))], none, [], []⟩,
    ⟨some 57, .mv (.tmp 58), none, [58], []⟩,
    ⟨some 59, .ext 0 (.tmp 57), none, [57], []⟩,
    ⟨some 60, .ext 1 (.tmp 57), none, [57], []⟩,
    ⟨some 9, .new 50 [(.slice none 0 0), (.slice none 0 0)], none, [], []⟩,
    ⟨none, .store 2 (.tmp 9) (.tmp 59), none, [9, 59], []⟩,
    ⟨some 10, .mv (.tmp 60), none, [60], []⟩] [3, 4, 5, 6, 9, 10])
(.seq (.reg true [⟨some 62, .load true 2 (.tmp 9), none, [9], []⟩,
    ⟨some 63, .load true 5 (.tmp 6), none, [6], []⟩,
    ⟨some 64, .call 8 [(.tmp 63)], none, [63], [1]⟩,
    ⟨some 65, .call 21 [(.tmp 62), (.tmp 64)], none, [62, 64], [0, 2, 1]⟩,
    ⟨some 61, .mv (.tmp 65), none, [65], [3, 0, 2, 1]⟩,
    ⟨some 66, .ext 0 (.tmp 61), none, [61], [4, 3, 0, 2, 1]⟩,
    ⟨some 67, .ext 1 (.tmp 61), none, [61], [4, 3, 0, 2, 1]⟩,
    ⟨none, .store 2 (.tmp 9) (.tmp 66), none, [9, 66], [5, 3, 0, 1, 2, 4]⟩,
    ⟨some 11, .mv (.tmp 67), none, [67], [6, 7, 0, 1, 2, 3, 4, 5]⟩] [3, 4, 5, 6, 9, 10, 11])
(.seq (.reg true [⟨some 69, .load true 2 (.tmp 9), none, [9], []⟩,
    ⟨some 70, .load true 5 (.tmp 4), none, [4], []⟩,
    ⟨some 71, .call 8 [(.tmp 70)], none, [70], [1]⟩,
    ⟨some 72, .call 21 [(.tmp 69), (.tmp 71)], none, [69, 71], [0, 2, 1]⟩,
    ⟨some 68, .mv (.tmp 72), none, [72], [3, 0, 2, 1]⟩,
    ⟨some 73, .ext 0 (.tmp 68), none, [68], [4, 3, 0, 2, 1]⟩,
    ⟨some 74, .ext 1 (.tmp 68), none, [68], [4, 3, 0, 2, 1]⟩,
    ⟨none, .store 2 (.tmp 9) (.tmp 73), none, [9, 73], [5, 3, 0, 1, 2, 4]⟩,
    ⟨some 12, .mv (.tmp 74), none, [74], [6, 7, 0, 1, 2, 3, 4, 5]⟩] [3, 4, 5, 6, 9, 10, 11, 12])
(.seq (.reg false [⟨some 76, .load true 5 (.tmp 5), none, [5], []⟩,
    ⟨some 77, .call 8 [(.tmp 76)], none, [76], []⟩,
    ⟨some 78, .call 10 [(.tmp 77)], none, [77], []⟩,
    ⟨some 75, .mv (.tmp 78), none, [78], []⟩,
    ⟨some 79, .ext 0 (.tmp 75), none, [75], []⟩,
    ⟨some 80, .ext 1 (.tmp 75), none, [75], []⟩,
    ⟨some 13, .mv (.tmp 79), none, [79], []⟩,
    ⟨some 14, .mv (.tmp 80), none, [80], []⟩] [3, 4, 5, 6, 9, 10, 11, 12, 13, 14])
(.seq (.reg false [⟨some 82, .load true 2 (.tmp 9), none, [9], []⟩,
    ⟨some 83, .foff 0 (.tmp 5), none, [5], []⟩,
    ⟨some 84, .load false 1 (.tmp 83), none, [83], []⟩,
    ⟨some 85, .bin .rem (.tmp 84) (.const (.int .i64 (2))), none, [84], []⟩,
    ⟨some 86, .bin .mul (.const (.int .i64 (8))) (.tmp 85), none, [85], []⟩,
    ⟨some 87, .mv (.tmp 13), none, [13], []⟩,
    ⟨some 88, .call 28 [(.tmp 82), (.tmp 86), (.tmp 87)], none, [82, 86, 87], []⟩,
    ⟨some 81, .mv (.tmp 88), none, [88], []⟩,
    ⟨some 89, .ext 0 (.tmp 81), none, [81], []⟩,
    ⟨some 90, .ext 1 (.tmp 81), none, [81], []⟩,
    ⟨none, .store 2 (.tmp 9) (.tmp 89), none, [9, 89], []⟩,
    ⟨some 15, .mv (.tmp 90), none, [90], []⟩] [3, 4, 5, 6, 9, 10, 11, 12, 14, 15])
(.seq (.reg false [⟨some 92, .load true 2 (.tmp 9), none, [9], []⟩,
    ⟨some 93, .mv (.tmp 3), none, [3], []⟩,
    ⟨some 94, .call 29 [(.tmp 92), (.tmp 93)], none, [92, 93], []⟩,
    ⟨some 91, .mv (.tmp 94), none, [94], []⟩,
    ⟨some 95, .ext 0 (.tmp 91), none, [91], []⟩,
    ⟨some 96, .ext 1 (.tmp 91), none, [91], []⟩,
    ⟨none, .store 2 (.tmp 9) (.tmp 95), none, [9, 95], []⟩,
    ⟨some 16, .mv (.tmp 96), none, [96], []⟩] [3, 4, 5, 6, 9, 10, 11, 12, 14, 15, 16])
(.seq (.reg false [⟨some 98, .load true 2 (.tmp 9), none, [9], []⟩,
    ⟨some 99, .call 23 [(.tmp 98)], none, [98], []⟩,
    ⟨some 97, .mv (.tmp 99), none, [99], []⟩,
    ⟨some 100, .ext 0 (.tmp 97), none, [97], []⟩,
    ⟨some 101, .ext 1 (.tmp 97), none, [97], []⟩,
    ⟨some 17, .new 25 [(.int .i64 (0)), (.int .i64 (0)), (.int .i64 (0)), (.int .i64 (0)), (.slice none 0 0)], none, [], []⟩,
    ⟨none, .store 5 (.tmp 17) (.tmp 100), none, [17, 100], []⟩,
    ⟨some 18, .mv (.tmp 101), none, [101], []⟩] [3, 4, 5, 6, 10, 11, 12, 14, 15, 16, 17, 18])
(.seq (.seq (.reg false [⟨some 102, .mv (.tmp 10), none, [10], []⟩,
    ⟨some 103, .call 15 [(.tmp 102)], none, [102], []⟩,
    ⟨some 104, .mv (.tmp 11), none, [11], []⟩,
    ⟨some 105, .call 15 [(.tmp 104)], none, [104], []⟩,
    ⟨some 106, .bin .add (.tmp 103) (.tmp 105), none, [103, 105], []⟩,
    ⟨some 107, .mv (.tmp 12), none, [12], []⟩,
    ⟨some 108, .call 15 [(.tmp 107)], none, [107], []⟩,
    ⟨some 109, .bin .add (.tmp 106) (.tmp 108), none, [106, 108], []⟩,
    ⟨some 110, .mv (.tmp 14), none, [14], []⟩,
    ⟨some 111, .call 15 [(.tmp 110)], none, [110], []⟩,
    ⟨some 112, .bin .add (.tmp 109) (.tmp 111), none, [109, 111], []⟩,
    ⟨some 113, .mv (.tmp 15), none, [15], []⟩,
    ⟨some 114, .call 15 [(.tmp 113)], none, [113], []⟩,
    ⟨some 115, .bin .add (.tmp 112) (.tmp 114), none, [112, 114], []⟩,
    ⟨some 116, .mv (.tmp 16), none, [16], []⟩,
    ⟨some 117, .call 15 [(.tmp 116)], none, [116], []⟩,
    ⟨some 118, .bin .add (.tmp 115) (.tmp 117), none, [115, 117], []⟩,
    ⟨some 119, .mv (.tmp 18), none, [18], []⟩,
    ⟨some 120, .call 15 [(.tmp 119)], none, [119], []⟩,
    ⟨some 121, .bin .add (.tmp 118) (.tmp 120), none, [118, 120], []⟩,
    ⟨some 122, .bin .neq (.tmp 121) (.const (.int .i64 (0))), none, [121], []⟩] [3, 4, 5, 6, 17, 122])
(.cond (.tmp 122)
(.seq (.reg false [⟨some 8, .mv (.const (.bool false)), none, [], []⟩] [8])
.ret)
.skip))
(.seq (.reg false [⟨some 124, .call 30 [(.const (.int .i64 (16)))], none, [], []⟩,
    ⟨some 123, .mv (.tmp 124), none, [124], []⟩,
    ⟨some 125, .ext 0 (.tmp 123), none, [123], []⟩,
    ⟨some 126, .ext 1 (.tmp 123), none, [123], []⟩,
    ⟨some 19, .new 47 [(.slice none 0 0), (.slice none 0 0)], none, [], []⟩,
    ⟨none, .store 2 (.tmp 19) (.tmp 125), none, [19, 125], []⟩,
    ⟨some 20, .mv (.tmp 126), none, [126], []⟩] [3, 4, 5, 6, 17, 19])
(.seq (.reg false [⟨some 128, .load true 2 (.tmp 19), none, [19], []⟩,
    ⟨some 129, .load true 5 (.tmp 6), none, [6], []⟩,
    ⟨some 130, .call 22 [(.tmp 128), (.tmp 129)], none, [128, 129], []⟩,
    ⟨some 127, .mv (.tmp 130), none, [130], []⟩,
    ⟨some 131, .ext 0 (.tmp 127), none, [127], []⟩,
    ⟨some 132, .ext 1 (.tmp 127), none, [127], []⟩,
    ⟨none, .store 2 (.tmp 19) (.tmp 131), none, [19, 131], []⟩] [3, 4, 5, 17, 19])
(.seq (.reg false [⟨some 134, .load true 2 (.tmp 19), none, [19], []⟩,
    ⟨some 135, .load true 5 (.tmp 4), none, [4], []⟩,
    ⟨some 136, .call 22 [(.tmp 134), (.tmp 135)], none, [134, 135], []⟩,
    ⟨some 133, .mv (.tmp 136), none, [136], []⟩,
    ⟨some 137, .ext 0 (.tmp 133), none, [133], []⟩,
    ⟨some 138, .ext 1 (.tmp 133), none, [133], []⟩,
    ⟨none, .store 2 (.tmp 19) (.tmp 137), none, [19, 137], []⟩] [3, 5, 17, 19])
(.seq (.reg false [⟨some 140, .load true 5 (.tmp 5), none, [5], []⟩,
    ⟨some 141, .call 11 [(.tmp 140)], none, [140], []⟩,
    ⟨some 139, .mv (.tmp 141), none, [141], []⟩,
    ⟨some 142, .ext 0 (.tmp 139), none, [139], []⟩,
    ⟨some 143, .ext 1 (.tmp 139), none, [139], []⟩,
    ⟨some 21, .mv (.tmp 142), none, [142], []⟩,
    ⟨some 22, .mv (.tmp 143), none, [143], []⟩] [3, 5, 17, 19, 21])
(.seq (.reg false [⟨some 145, .load true 2 (.tmp 19), none, [19], []⟩,
    ⟨some 146, .foff 0 (.tmp 5), none, [5], []⟩,
    ⟨some 147, .load false 1 (.tmp 146), none, [146], []⟩,
    ⟨some 148, .bin .rem (.tmp 147) (.const (.int .i64 (2))), none, [147], []⟩,
    ⟨some 149, .bin .mul (.const (.int .i64 (8))) (.tmp 148), none, [148], []⟩,
    ⟨some 150, .mv (.tmp 21), none, [21], []⟩,
    ⟨some 151, .call 31 [(.tmp 145), (.tmp 149), (.tmp 150)], none, [145, 149, 150], []⟩,
    ⟨some 144, .mv (.tmp 151), none, [151], []⟩,
    ⟨some 152, .ext 0 (.tmp 144), none, [144], []⟩,
    ⟨some 153, .ext 1 (.tmp 144), none, [144], []⟩,
    ⟨none, .store 2 (.tmp 19) (.tmp 152), none, [19, 152], []⟩] [3, 5, 17, 19])
(.seq (.reg false [⟨some 155, .load true 2 (.tmp 19), none, [19], []⟩,
    ⟨some 156, .mv (.tmp 3), none, [3], []⟩,
    ⟨some 157, .call 32 [(.tmp 155), (.tmp 156)], none, [155, 156], []⟩,
    ⟨some 154, .mv (.tmp 157), none, [157], []⟩,
    ⟨some 158, .ext 0 (.tmp 154), none, [154], []⟩,
    ⟨some 159, .ext 1 (.tmp 154), none, [154], []⟩,
    ⟨none, .store 2 (.tmp 19) (.tmp 158), none, [19, 158], []⟩] [3, 5, 17, 19])
(.seq (.reg false [⟨some 161, .load true 2 (.tmp 19), none, [19], []⟩,
    ⟨some 162, .call 24 [(.tmp 161)], none, [161], []⟩,
    ⟨some 160, .mv (.tmp 162), none, [162], []⟩,
    ⟨some 163, .ext 0 (.tmp 160), none, [160], []⟩,
    ⟨some 164, .ext 1 (.tmp 160), none, [160], []⟩,
    ⟨some 23, .new 24 [(.int .i64 (0)), (.int .i64 (0)), (.int .i64 (0)), (.int .i64 (0)), (.slice none 0 0)], none, [], []⟩,
    ⟨none, .store 5 (.tmp 23) (.tmp 163), none, [23, 163], []⟩,
    ⟨some 24, .mv (.tmp 164), none, [164], []⟩] [3, 5, 17, 23, 24])
(.seq (.reg false [⟨some 25, .mv (.const (.bool true)), none, [], []⟩] [3, 5, 17, 23, 24, 25])
(.seq (.seq (.reg false [⟨some 26, .mv (.const (.int .i64 (0))), none, [], []⟩] [3, 5, 17, 23, 24, 25, 26])
(.block 0 (.loop (.seq (.seq (.reg false [⟨some 165, .mv (.tmp 26), none, [26], []⟩,
    ⟨some 166, .bin .lss (.tmp 165) (.const (.int .i64 (8))), none, [165], []⟩] [3, 5, 17, 23, 24, 25, 26, 166])
(.cond (.tmp 166)
.skip
(.exit 0)))
(.seq (.block 1 (.reg false [⟨some 169, .mv (.tmp 25), none, [25], []⟩,
    ⟨some 170, .mv (.tmp 169), none, [169], []⟩,
    ⟨some 171, .mv (.tmp 26), some (170, true), [26, 170], []⟩,
    ⟨some 172, .mv (.tmp 3), some (170, true), [3, 170], []⟩,
    ⟨some 173, .len false (.tmp 172), some (170, true), [172, 170], []⟩,
    ⟨some 174, .bin .lss (.tmp 171) (.tmp 173), some (170, true), [171, 173, 170], []⟩,
    ⟨some 175, .pick (.tmp 170) (.tmp 174) (.const (.bool false)), none, [170, 174], []⟩,
    ⟨some 176, .mv (.tmp 175), none, [175], []⟩,
    ⟨some 177, .mv (.tmp 3), some (176, true), [3, 176], []⟩,
    ⟨some 178, .mv (.tmp 26), some (176, true), [26, 176], []⟩,
    ⟨some 179, .idx 1 (.tmp 177) (.tmp 178), some (176, true), [177, 178, 176], []⟩,
    ⟨some 180, .load false 1 (.tmp 179), some (176, true), [179, 176], []⟩,
    ⟨some 181, .pick (.tmp 176) (.tmp 180) (.const (.bool false)), none, [176, 180], []⟩,
    ⟨some 25, .mv (.tmp 181), none, [181], []⟩] [3, 5, 17, 23, 24, 25, 26]))
(.reg false [⟨some 167, .mv (.tmp 26), none, [26], []⟩,
    ⟨some 168, .bin .add (.tmp 167) (.const (.int .i64 (1))), none, [167], []⟩,
    ⟨some 26, .mv (.tmp 168), none, [168], []⟩] [3, 5, 17, 23, 24, 25, 26]))))))
(.seq (.reg false [⟨some 182, .mv (.tmp 24), none, [24], []⟩,
    ⟨some 183, .bin .eql (.tmp 182) (.const (.int .i64 (0))), none, [182], []⟩,
    ⟨some 184, .mv (.tmp 183), none, [183], []⟩,
    ⟨some 185, .load true 5 (.tmp 17), some (184, true), [17, 184], []⟩,
    ⟨some 186, .load true 5 (.tmp 23), some (184, true), [23, 184], []⟩,
    ⟨some 187, .call 16 [(.tmp 185), (.tmp 186)], some (184, true), [185, 186, 184], []⟩,
    ⟨some 188, .pick (.tmp 184) (.tmp 187) (.const (.bool false)), none, [184, 187], []⟩,
    ⟨some 189, .mv (.tmp 188), none, [188], []⟩,
    ⟨some 190, .mv (.tmp 25), some (189, true), [25, 189], []⟩,
    ⟨some 191, .un .not (.tmp 190), some (189, true), [190, 189], []⟩,
    ⟨some 192, .mv (.tmp 191), some (189, true), [191, 189], []⟩,
    ⟨some 193, .load true 5 (.tmp 17), some (192, false), [17, 192], []⟩,
    ⟨some 194, .load true 5 (.tmp 5), some (192, false), [5, 192], []⟩,
    ⟨some 195, .call 16 [(.tmp 193), (.tmp 194)], some (192, false), [193, 194, 192], []⟩,
    ⟨some 196, .pick (.tmp 192) (.const (.bool true)) (.tmp 195), some (189, true), [192, 195, 189], []⟩,
    ⟨some 197, .pick (.tmp 189) (.tmp 196) (.const (.bool false)), none, [189, 196], []⟩,
    ⟨some 8, .mv (.tmp 197), none, [197], []⟩] [8])
.ret)))))))))))))))))))))))
theorem ok_7 : FnOk Tryz.prog 7 198 ac_7 [.tmp 8] := ⟨Tryz.f7, Tryz.func7, by kernel_rfl, by kernel_rfl, by kernel_rfl, by kernel_rfl, by kernel_rfl⟩
def ac_5 : AC :=
(.seq (.reg false [⟨some 6, .mv (.const (.bool false)), none, [], []⟩] [0, 1, 2])
(.seq (.seq (.reg false [⟨some 21, .call 19 [], none, [], []⟩,
    ⟨some 22, .un .not (.tmp 21), none, [21], []⟩] [0, 1, 2, 22])
(.cond (.tmp 22)
(.seq (.reg false [⟨some 6, .mv (.const (.bool false)), none, [], []⟩] [6])
.ret)
.skip))
(.seq (.reg false [⟨some 24, .call 26 [(.const (.int .i64 (16)))], none, [], []⟩,
    ⟨some 23, .mv (.tmp 24), none, [24], []⟩,
    ⟨some 25, .ext 0 (.tmp 23), none, [23], []⟩,
    ⟨some 26, .ext 1 (.tmp 23), none, [23], []⟩,
    ⟨some 7, .new 50 [(.slice none 0 0), (.slice none 0 0)], none, [], []⟩,
    ⟨none, .store 2 (.tmp 7) (.tmp 25), none, [7, 25], []⟩,
    ⟨some 8, .mv (.tmp 26), none, [26], []⟩] [0, 1, 2, 7, 8])
(.seq (.seq (.reg false [⟨some 27, .mv (.tmp 8), none, [8], []⟩,
    ⟨some 28, .call 15 [(.tmp 27)], none, [27], []⟩,
    ⟨some 29, .bin .neq (.tmp 28) (.const (.int .i64 (0))), none, [28], []⟩] [0, 1, 2, 7, 29])
(.cond (.tmp 29)
(.seq (.reg false [⟨some 6, .mv (.const (.bool false)), none, [], []⟩] [6])
.ret)
.skip))
(.seq (.reg false [⟨some 9, .new 24 [(.int .i64 (0)), (.int .i64 (0)), (.int .i64 (0)), (.int .i64 (0)), (.slice none 0 0)], none, [], []⟩,
    ⟨some 10, .new 24 [(.int .i64 (0)), (.int .i64 (0)), (.int .i64 (0)), (.int .i64 (0)), (.slice none 0 0)], none, [], []⟩] [0, 1, 2, 7, 9, 10])
(.seq (.reg false [⟨some 11, .mv (.const (.int .i64 (0))), none, [], []⟩] [0, 1, 2, 7, 9, 10, 11])
(.seq (.seq (.reg false [⟨some 12, .mv (.const (.int .i64 (0))), none, [], []⟩] [0, 1, 2, 7, 9, 10, 11, 12])
(.block 0 (.loop (.seq (.seq (.reg false [⟨some 30, .mv (.tmp 12), none, [12], []⟩,
    ⟨some 31, .mv (.tmp 0), none, [0], []⟩,
    ⟨some 32, .len false (.tmp 31), none, [31], []⟩,
    ⟨some 33, .bin .lss (.tmp 30) (.tmp 32), none, [30, 32], []⟩,
    ⟨some 34, .mv (.tmp 33), none, [33], []⟩,
    ⟨some 35, .mv (.tmp 12), some (34, true), [12, 34], []⟩,
    ⟨some 36, .bin .lss (.tmp 35) (.const (.int .i64 (20))), some (34, true), [35, 34], []⟩,
    ⟨some 37, .pick (.tmp 34) (.tmp 36) (.const (.bool false)), none, [34, 36], []⟩] [0, 1, 2, 7, 9, 10, 11, 12, 37])
(.cond (.tmp 37)
.skip
(.exit 0)))
(.seq (.block 1 (.seq (.reg false [⟨some 40, .mv (.tmp 0), none, [0], []⟩,
    ⟨some 41, .mv (.tmp 12), none, [12], []⟩,
    ⟨some 42, .idx 5 (.tmp 40) (.tmp 41), none, [40, 41], []⟩,
    ⟨some 43, .load true 5 (.tmp 42), none, [42], []⟩,
    ⟨some 13, .new 24 [(.int .i64 (0)), (.int .i64 (0)), (.int .i64 (0)), (.int .i64 (0)), (.slice none 0 0)], none, [], []⟩,
    ⟨none, .store 5 (.tmp 13) (.tmp 43), none, [13, 43], []⟩] [0, 1, 2, 7, 9, 10, 11, 12, 13])
(.seq (.reg false [⟨some 44, .mv (.tmp 11), none, [11], []⟩,
    ⟨some 45, .bin .add (.tmp 44) (.const (.int .i64 (1))), none, [44], []⟩,
    ⟨some 46, .foff 0 (.tmp 13), none, [13], []⟩,
    ⟨none, .store 1 (.tmp 46) (.tmp 45), none, [46, 45], []⟩] [0, 1, 2, 7, 9, 10, 11, 12, 13])
(.seq (.reg true [⟨some 48, .load true 2 (.tmp 7), none, [7], []⟩,
    ⟨some 49, .load true 5 (.tmp 13), none, [13], []⟩,
    ⟨some 50, .call 8 [(.tmp 49)], none, [49], [1]⟩,
    ⟨some 51, .call 21 [(.tmp 48), (.tmp 50)], none, [48, 50], [0, 2, 1]⟩,
    ⟨some 47, .mv (.tmp 51), none, [51], [3, 0, 2, 1]⟩,
    ⟨some 52, .ext 0 (.tmp 47), none, [47], [4, 3, 0, 2, 1]⟩,
    ⟨some 53, .ext 1 (.tmp 47), none, [47], [4, 3, 0, 2, 1]⟩,
    ⟨some 14, .new 50 [(.slice none 0 0), (.slice none 0 0)], none, [], []⟩,
    ⟨none, .store 2 (.tmp 14) (.tmp 52), none, [14, 52], [7, 5, 3, 0, 1, 2, 4]⟩,
    ⟨some 15, .mv (.tmp 53), none, [53], [6, 8, 0, 1, 2, 3, 4, 5, 7]⟩] [0, 1, 2, 7, 9, 10, 11, 12, 13, 14, 15])
(.seq (.seq (.reg false [⟨some 54, .mv (.tmp 15), none, [15], []⟩,
    ⟨some 55, .call 15 [(.tmp 54)], none, [54], []⟩,
    ⟨some 56, .bin .neq (.tmp 55) (.const (.int .i64 (0))), none, [55], []⟩] [0, 1, 2, 7, 9, 10, 11, 12, 13, 14, 56])
(.cond (.tmp 56)
(.seq (.seq (.reg false [⟨some 57, .load true 5 (.tmp 13), none, [13], []⟩,
    ⟨some 58, .call 18 [(.tmp 57)], none, [57], []⟩,
    ⟨some 59, .bin .eql (.tmp 58) (.const (.int .i64 (0))), none, [58], []⟩] [0, 1, 2, 7, 9, 10, 11, 12, 59])
(.cond (.tmp 59)
(.seq (.reg false [⟨some 6, .mv (.const (.bool false)), none, [], []⟩] [6])
.ret)
.skip))
(.exit 1))
.skip))
(.seq (.reg true [⟨some 60, .load true 2 (.tmp 14), none, [14], []⟩,
    ⟨some 61, .load true 5 (.tmp 9), none, [9], []⟩,
    ⟨some 62, .load true 5 (.tmp 13), none, [13], []⟩,
    ⟨none, .store 2 (.tmp 7) (.tmp 60), none, [7, 60], [0]⟩,
    ⟨none, .store 5 (.tmp 10) (.tmp 61), none, [10, 61], [1, 3, 0]⟩,
    ⟨none, .store 5 (.tmp 9) (.tmp 62), none, [9, 62], [2, 4, 0, 1, 3]⟩] [0, 1, 2, 7, 9, 10, 11, 12])
(.reg false [⟨some 63, .mv (.tmp 11), none, [11], []⟩,
    ⟨some 64, .bin .add (.tmp 63) (.const (.int .i64 (1))), none, [63], []⟩,
    ⟨some 11, .mv (.tmp 64), none, [64], []⟩] [0, 1, 2, 7, 9, 10, 11, 12])))))))
(.reg false [⟨some 38, .mv (.tmp 12), none, [12], []⟩,
    ⟨some 39, .bin .add (.tmp 38) (.const (.int .i64 (1))), none, [38], []⟩,
    ⟨some 12, .mv (.tmp 39), none, [39], []⟩] [0, 1, 2, 7, 9, 10, 11, 12]))))))
(.seq (.reg false [⟨some 66, .load true 2 (.tmp 7), none, [7], []⟩,
    ⟨some 67, .call 23 [(.tmp 66)], none, [66], []⟩,
    ⟨some 65, .mv (.tmp 67), none, [67], []⟩,
    ⟨some 68, .ext 0 (.tmp 65), none, [65], []⟩,
    ⟨some 69, .ext 1 (.tmp 65), none, [65], []⟩,
    ⟨some 16, .new 25 [(.int .i64 (0)), (.int .i64 (0)), (.int .i64 (0)), (.int .i64 (0)), (.slice none 0 0)], none, [], []⟩,
    ⟨none, .store 5 (.tmp 16) (.tmp 68), none, [16, 68], []⟩,
    ⟨some 17, .mv (.tmp 69), none, [69], []⟩] [1, 2, 7, 9, 10, 11, 16, 17])
(.seq (.seq (.reg false [⟨some 70, .mv (.tmp 11), none, [11], []⟩,
    ⟨some 71, .bin .eql (.tmp 70) (.const (.int .i64 (0))), none, [70], []⟩] [1, 2, 7, 9, 10, 11, 16, 17, 71])
(.cond (.tmp 71)
(.seq (.reg false [⟨some 72, .mv (.tmp 17), none, [17], []⟩,
    ⟨some 73, .call 15 [(.tmp 72)], none, [72], []⟩,
    ⟨some 74, .bin .eql (.tmp 73) (.const (.int .i64 (21))), none, [73], []⟩,
    ⟨some 75, .mv (.tmp 74), none, [74], []⟩,
    ⟨some 76, .foff 0 (.tmp 16), some (75, true), [16, 75], []⟩,
    ⟨some 77, .load false 1 (.tmp 76), some (75, true), [76, 75], []⟩,
    ⟨some 78, .bin .eql (.tmp 77) (.const (.int .i64 (0))), some (75, true), [77, 75], []⟩,
    ⟨some 79, .pick (.tmp 75) (.tmp 78) (.const (.bool false)), none, [75, 78], []⟩,
    ⟨some 6, .mv (.tmp 79), none, [79], []⟩] [6])
.ret)
.skip))
(.seq (.seq (.reg false [⟨some 80, .mv (.tmp 17), none, [17], []⟩,
    ⟨some 81, .call 15 [(.tmp 80)], none, [80], []⟩,
    ⟨some 82, .bin .neq (.tmp 81) (.const (.int .i64 (0))), none, [81], []⟩,
    ⟨some 83, .mv (.tmp 82), none, [82], []⟩,
    ⟨some 84, .load true 5 (.tmp 16), some (83, false), [16, 83], []⟩,
    ⟨some 85, .load true 5 (.tmp 9), some (83, false), [9, 83], []⟩,
    ⟨some 86, .call 16 [(.tmp 84), (.tmp 85)], some (83, false), [84, 85, 83], []⟩,
    ⟨some 87, .un .not (.tmp 86), some (83, false), [86, 83], []⟩,
    ⟨some 88, .pick (.tmp 83) (.const (.bool true)) (.tmp 87), none, [83, 87], []⟩] [1, 2, 7, 9, 10, 11, 88])
(.cond (.tmp 88)
(.seq (.reg false [⟨some 6, .mv (.const (.bool false)), none, [], []⟩] [6])
.ret)
.skip))
(.seq (.seq (.reg false [⟨some 89, .mv (.tmp 11), none, [11], []⟩,
    ⟨some 90, .bin .eql (.tmp 89) (.const (.int .i64 (1))), none, [89], []⟩,
    ⟨some 91, .mv (.tmp 90), none, [90], []⟩,
    ⟨some 92, .mv (.tmp 2), some (91, false), [2, 91], []⟩,
    ⟨some 93, .bin .eql (.tmp 92) (.const (.int .u8 (0))), some (91, false), [92, 91], []⟩,
    ⟨some 94, .pick (.tmp 91) (.const (.bool true)) (.tmp 93), none, [91, 93], []⟩] [1, 2, 7, 9, 10, 94])
(.cond (.tmp 94)
(.seq (.reg false [⟨some 6, .mv (.const (.bool true)), none, [], []⟩] [6])
.ret)
.skip))
(.seq (.reg false [⟨some 95, .mv (.tmp 1), none, [1], []⟩,
    ⟨some 96, .bin .rem (.tmp 95) (.const (.int .i64 (510))), none, [95], []⟩,
    ⟨some 97, .bin .add (.tmp 96) (.const (.int .i64 (510))), none, [96], []⟩,
    ⟨some 98, .bin .rem (.tmp 97) (.const (.int .i64 (510))), none, [97], []⟩,
    ⟨some 99, .bin .add (.const (.int .i64 (2))) (.tmp 98), none, [98], []⟩,
    ⟨some 18, .mv (.tmp 99), none, [99], []⟩] [2, 7, 9, 10, 18])
(.seq (.seq (.reg false [⟨some 100, .foff 0 (.tmp 7), none, [7], []⟩,
    ⟨some 101, .load false 1 (.tmp 100), none, [100], []⟩,
    ⟨some 102, .len false (.tmp 101), none, [101], []⟩,
    ⟨some 103, .bin .neq (.tmp 102) (.const (.int .i64 (16))), none, [102], []⟩,
    ⟨some 104, .mv (.tmp 103), none, [103], []⟩,
    ⟨some 105, .foff 0 (.tmp 7), some (104, false), [7, 104], []⟩,
    ⟨some 106, .load false 1 (.tmp 105), some (104, false), [105, 104], []⟩,
    ⟨some 107, .foff 0 (.tmp 9), some (104, false), [9, 104], []⟩,
    ⟨some 108, .load false 1 (.tmp 107), some (104, false), [107, 104], []⟩,
    ⟨some 109, .bin .rem (.tmp 108) (.const (.int .i64 (2))), some (104, false), [108, 104], []⟩,
    ⟨some 110, .bin .mul (.const (.int .i64 (8))) (.tmp 109), some (104, false), [109, 104], []⟩,
    ⟨some 111, .mv (.tmp 18), some (104, false), [18, 104], []⟩,
    ⟨some 112, .bin .quo (.tmp 111) (.const (.int .i64 (64))), some (104, false), [111, 104], []⟩,
    ⟨some 113, .bin .add (.tmp 110) (.tmp 112), some (104, false), [110, 112, 104], []⟩,
    ⟨some 114, .idx 1 (.tmp 106) (.tmp 113), some (104, false), [106, 113, 104], []⟩,
    ⟨some 115, .load false 1 (.tmp 114), some (104, false), [114, 104], []⟩,
    ⟨some 116, .len false (.tmp 115), some (104, false), [115, 104], []⟩,
    ⟨some 117, .bin .neq (.tmp 116) (.const (.int .i64 (64))), some (104, false), [116, 104], []⟩,
    ⟨some 118, .pick (.tmp 104) (.const (.bool true)) (.tmp 117), none, [104, 117], []⟩] [2, 7, 9, 10, 18, 118])
(.cond (.tmp 118)
(.seq (.reg false [⟨some 6, .mv (.const (.bool false)), none, [], []⟩] [6])
.ret)
.skip))
(.seq (.reg false [⟨some 119, .foff 0 (.tmp 7), none, [7], []⟩,
    ⟨some 120, .load false 1 (.tmp 119), none, [119], []⟩,
    ⟨some 121, .foff 0 (.tmp 9), none, [9], []⟩,
    ⟨some 122, .load false 1 (.tmp 121), none, [121], []⟩,
    ⟨some 123, .bin .rem (.tmp 122) (.const (.int .i64 (2))), none, [122], []⟩,
    ⟨some 124, .bin .mul (.const (.int .i64 (8))) (.tmp 123), none, [123], []⟩,
    ⟨some 125, .mv (.tmp 18), none, [18], []⟩,
    ⟨some 126, .bin .quo (.tmp 125) (.const (.int .i64 (64))), none, [125], []⟩,
    ⟨some 127, .bin .add (.tmp 124) (.tmp 126), none, [124, 126], []⟩,
    ⟨some 128, .idx 1 (.tmp 120) (.tmp 127), none, [120, 127], []⟩,
    ⟨some 129, .load false 1 (.tmp 128), none, [128], []⟩,
    ⟨some 130, .mv (.tmp 18), none, [18], []⟩,
    ⟨some 131, .bin .rem (.tmp 130) (.const (.int .i64 (64))), none, [130], []⟩,
    ⟨some 132, .idx 1 (.tmp 129) (.tmp 131), none, [129, 131], []⟩,
    ⟨some 133, .load false 1 (.tmp 132), none, [132], []⟩,
    ⟨some 134, .mv (.tmp 2), none, [2], []⟩,
    ⟨some 135, .bin .xor (.tmp 133) (.tmp 134), none, [133, 134], []⟩,
    ⟨some 136, .idx 1 (.tmp 129) (.tmp 131), none, [129, 131], []⟩,
    ⟨none, .store 1 (.tmp 136) (.tmp 135), none, [136, 135], []⟩] [7, 10])
(.seq (.reg false [⟨some 138, .load true 2 (.tmp 7), none, [7], []⟩,
    ⟨some 139, .call 23 [(.tmp 138)], none, [138], []⟩,
    ⟨some 137, .mv (.tmp 139), none, [139], []⟩,
    ⟨some 140, .ext 0 (.tmp 137), none, [137], []⟩,
    ⟨some 141, .ext 1 (.tmp 137), none, [137], []⟩,
    ⟨some 19, .new 25 [(.int .i64 (0)), (.int .i64 (0)), (.int .i64 (0)), (.int .i64 (0)), (.slice none 0 0)], none, [], []⟩,
    ⟨none, .store 5 (.tmp 19) (.tmp 140), none, [19, 140], []⟩,
    ⟨some 20, .mv (.tmp 141), none, [141], []⟩] [10, 19, 20])
(.seq (.reg false [⟨some 142, .mv (.tmp 20), none, [20], []⟩,
    ⟨some 143, .call 15 [(.tmp 142)], none, [142], []⟩,
    ⟨some 144, .bin .eql (.tmp 143) (.const (.int .i64 (0))), none, [143], []⟩,
    ⟨some 145, .mv (.tmp 144), none, [144], []⟩,
    ⟨some 146, .load true 5 (.tmp 19), some (145, true), [19, 145], []⟩,
    ⟨some 147, .load true 5 (.tmp 10), some (145, true), [10, 145], []⟩,
    ⟨some 148, .call 16 [(.tmp 146), (.tmp 147)], some (145, true), [146, 147, 145], []⟩,
    ⟨some 149, .pick (.tmp 145) (.tmp 148) (.const (.bool false)), none, [145, 148], []⟩,
    ⟨some 6, .mv (.tmp 149), none, [149], []⟩] [6])
.ret))))))))))))))))
theorem ok_5 : FnOk Tryz.prog 5 150 ac_5 [.tmp 6] := ⟨Tryz.f5, Tryz.func5, by kernel_rfl, by kernel_rfl, by kernel_rfl, by kernel_rfl, by kernel_rfl⟩
end Go.Proofs.YtdenddhdeloceaaGreatDoor
/- Contract: disk.Crash. -/
namespace Go.Proofs.YtdenddhdeloceaaGreatDoor
open Go.RowKit
set_option maxRecDepth 100000
def kpK (keep : List Bool) (i : Nat) : Bool := (keep[i]?).getD false
theorem kept_spec (f1 f2 : Bool) (keep : List Bool) (i nb : Nat) (hk : keep.length ≤ 140737488355328) : ASound Tryz.prog 53 ([.v (.int .i64 i)] ++ [.fp f1 [fO f2 keep] 0]) nb (.ret (.v (.bool (kpK keep i))) []) := by
  refine ok_53.sound (by simp) ⟨trivial, ⟨al_O keep, trivial⟩, trivial⟩ ?_
  by_cases hlt : i < keep.length
  · obtain ⟨b, hb, e1, e0⟩ := lt_at hlt
    simp only [ac_53, e1, e0, get_O hb, fO, len_O, List.getElem?_cons_zero, TT, ↓reduceIte, Nat.reduceEqDiff, Nat.reduceAdd, Nat.reduceMul, reduceCtorEq, Nat.reduceLeDiff]
    exact Ends.data (.inr rfl) (by simp [ET, kpK, hb]) trivial
  · have e1 : ¬ ((i : Int) < (keep.length : Int)) := by omega
    have hb : keep[i]? = none := List.getElem?_eq_none (by omega)
    simp only [ac_53, e1, fO, len_O, List.getElem?_cons_zero, TT, ↓reduceIte, Nat.reduceEqDiff, Nat.reduceAdd, Nat.reduceMul, reduceCtorEq, Nat.reduceLeDiff]
    exact Ends.data (.inr rfl) (by simp [ET, kpK, hb]) trivial
theorem landL_none : ∀ (c : List Wr) (ss : List (List Int)) (f : Nat → Nat), landL ss ((((List.range c.length).map f).map (kpK [])).zip c) = ss
  | [], ss, f => by simp [landL]
  | w :: c, ss, f => by
    rw [List.length_cons, List.range_succ_eq_map, List.map_cons, List.map_cons, List.zip_cons_cons, landL, List.map_map]
    have h := landL_none c ss (f ∘ Nat.succ)
    rw [if_neg (by simp [kpK])]
    simp only [List.map_map] at h ⊢
    exact h
theorem landL_keep : ∀ (c : List Wr) (keep : List Bool) (ss : List (List Int)), landL ss (((List.range c.length).map (kpK keep)).zip c) = landL ss (keep.zip c)
  | [], keep, ss => by simp
  | w :: c, [], ss => by
    have h := landL_none (w :: c) ss id
    rw [List.map_id] at h
    rw [h]; rfl
  | w :: c, k :: keep, ss => by
    rw [List.length_cons, List.range_succ_eq_map, List.map_cons, List.zip_cons_cons, List.zip_cons_cons, landL, landL, List.map_map]
    have h := landL_keep c keep (if kpK (k :: keep) 0 then ss.set w.sec.toNat w.data else ss)
    have e : (kpK (k :: keep) ∘ Nat.succ) = kpK keep := by funext i; simp [kpK]
    rw [e, h]; rfl
theorem lndD_keep (d : Dk) (keep : List Bool) : lndD d (kpK keep) = crashD d keep := by unfold lndD crashD zsK; rw [landL_keep]
set_option maxHeartbeats 1000000 in
theorem crash_spec (fr fk : Bool) (d : Dk) (keep : List Bool) (nb : Nat) (h : okD d) (hk : keep.length ≤ 140737488355328) :
    ASound Tryz.prog 29 [aDk fr d, fO fk keep] nb (.ret (.tup [aDk true (crashD d keep), .v (.int .i64 0)]) []) := by
  refine ok_29.sound (by simp) ⟨al_aDk d, al_O keep, trivial⟩ ?_
  have hl : ∀ id nb, ASound Tryz.prog 52 [aDk fr d, .fn 53 [.op id 0]] nb (rowsM [(id, true, 65, [fO fk keep])] (.ret (.tup [aDk true (crashD d keep), .v (.int .i64 0)]) [])) := fun id nb => by
    refine ASound.borrow [] [(id, true, 65, [fO fk keep])] ?_ (fun x hx => ?_) (by simp) ?_ (by intro x hx; cases hx)
    · have e : boL [(id, true, 65, [fO fk keep])] [aDk fr d, .fn 53 [.op id 0]] = [aDk false d, .fn 53 [.fp false [fO false keep] 0]] := by
        simp [boL, bo_Dk]
        simp [bo, boL, cellsAt, fO, od, odL, od_O]
      rw [e]
      have hh := land_F false d (.fn 53 [.fp false [fO false keep] 0]) (kpK keep) nb h (fun p => ⟨⟨al_O keep, trivial⟩, trivial⟩) (fun ρ => by simp [ren, renL, fO, ren_O]) (fun i nb => ⟨_, _, rfl, kept_spec false false keep i nb hk⟩)
      rw [lndD_keep] at hh
      exact hh
    · simp at hx; subst hx; simp
    · have hL : ∀ {S : Nat → Prop} (l : List (List Int)), YgL S (eL true l) := fun l => by
        rw [YgL_iff]; intro a ha
        obtain ⟨t, _, rfl⟩ := List.mem_map.1 ha
        exact yg_fB t
      exact ⟨⟨⟨rfl, hL _⟩, ⟨rfl, trivial⟩, trivial⟩, trivial, trivial⟩
  simp only [aDk, fL, fWrs, fO] at hl
  simp only [ac_29, aDk, fL, fWrs, fO, TT, ↓reduceIte, Nat.reduceEqDiff, Nat.reduceAdd, Nat.reduceMul, reduceCtorEq, Nat.reduceLeDiff]
  refine ⟨_, hl _ _, ?_⟩
  simp only [TT, ↓reduceIte, Nat.reduceEqDiff, Nat.reduceAdd, Nat.reduceMul, reduceCtorEq, Nat.reduceLeDiff]
  exact Ends.data (r := .tup [aDk true (crashD d keep), .v (.int .i64 0)]) (.inr rfl) (by simp [ET, aDk, fL, fWrs]) ⟨al_aDk _, trivial, trivial⟩
end Go.Proofs.YtdenddhdeloceaaGreatDoor
/- Plain: the old point or the new one. -/
namespace Go.Proofs.YtdenddhdeloceaaGreatDoor
open Go.RowKit
/-- a region put, and a crash that keeps some of its sectors -/
def crP (d : Dk) (k : Nat) (data : List Int) (keep : List Bool) : Dk := crashD (putD d (8 * k) data) keep
theorem landL_out : ∀ (l : List (Bool × Wr)) (ss : List (List Int)) (j : Nat), (∀ q ∈ l, q.2.sec.toNat ≠ j) → (landL ss l)[j]? = ss[j]?
  | [], _, _, _ => rfl
  | (k, w) :: l, ss, j, h => by
    rw [landL, landL_out l _ j fun q hq => h q (by simp [hq])]
    split
    · rw [List.getElem?_set, if_neg (h (k, w) (by simp))]
    · rfl
theorem mem_putL {s : Nat} {data : List Int} {n : Nat} {w : Wr} (h : w ∈ putL s data n) : ∃ i, i < n ∧ w = ⟨((s + i : Nat) : Int), chunk data i⟩ := by
  unfold putL at h
  obtain ⟨i, hi, rfl⟩ := List.mem_map.1 h
  exact ⟨i, List.mem_range.1 hi, rfl⟩
theorem crP_sectors {d : Dk} (h : cleanD d) (k : Nat) (data : List Int) (keep : List Bool) : (crP d k data keep).sectors = landL d.sectors (keep.zip (putL (8 * k) data 8)) := by
  unfold crP crashD putD; rw [h.cache]; rfl
theorem crP_mem {k : Nat} {data : List Int} {keep : List Bool} {q : Bool × Wr} (h : q ∈ keep.zip (putL (8 * k) data 8)) : ∃ i, i < 8 ∧ q.2 = ⟨((8 * k + i : Nat) : Int), chunk data i⟩ := mem_putL (List.of_mem_zip h).2
theorem crP_clean {d : Dk} (h : cleanD d) {k : Nat} {data : List Int} (hd : data.length = 512) (keep : List Bool) : cleanD (crP d k data keep) := by
  have hs := crP_sectors h k data keep
  have hl : (crP d k data keep).sectors.length = d.sectors.length := by rw [hs, landL_len]
  have hc : (crP d k data keep).cache = [] := rfl
  refine ⟨⟨?_, fun t ht => ?_, fun w hw => by rw [hc] at hw; cases hw⟩, by rw [hl]; exact h.few, hc⟩
  · have := h.ok.few; rw [hl, hc]; simp only [List.length_nil]; omega
  · rw [hs] at ht
    refine landL_p (p := fun t => t.length = 64) _ _ h.ok.secs (fun q hq => ?_) t ht
    obtain ⟨i, hi, e⟩ := crP_mem hq
    rw [e]; exact chunk_len hd (by omega)
theorem crP_oct {d : Dk} (h : cleanD d) (ho : octD d) {k : Nat} {data : List Int} (hb : okB data) (keep : List Bool) : octD (crP d k data keep) := by
  refine ⟨fun t ht => ?_, fun w hw => by cases hw⟩
  rw [crP_sectors h] at ht
  refine landL_p (p := fun t => okB t) _ _ ho.secs (fun q hq => ?_) t ht
  obtain ⟨i, hi, e⟩ := crP_mem hq
  rw [e]; exact okB_take (okB_drop hb _) _
theorem crP_other {d : Dk} (h : cleanD d) {k j : Nat} (hne : j ≠ k) {data : List Int} (hd : data.length = 512) (keep : List Bool) : regD (crP d k data keep) j = regD d j := by
  unfold regD getD
  have : ∀ i ∈ List.range 8, secAt (crP d k data keep) (8 * j + i) = secAt d (8 * j + i) := fun i hi => by
    rw [List.mem_range] at hi
    rw [secAt_nil (crP_clean h hd keep).cache, secAt_nil h.cache, crP_sectors h, landL_out]
    intro q hq e
    obtain ⟨i', hi', e'⟩ := crP_mem hq
    rw [e'] at e
    simp only [Int.toNat_natCast] at e
    omega
  rw [List.flatMap_def, List.flatMap_def, List.map_congr_left this]
theorem zip_pre {α β : Type} : ∀ (l : List β) (a b : List α), (∀ i, i < l.length → a[i]? = b[i]?) → a.zip l = b.zip l
  | [], a, b, _ => by simp
  | x :: l, a, b, h => by
    have h0 := h 0 (by simp)
    cases a with
    | nil => cases b with
      | nil => rfl
      | cons y b => simp at h0
    | cons z a => cases b with
      | nil => simp at h0
      | cons y b =>
        simp at h0
        rw [List.zip_cons_cons, List.zip_cons_cons, h0, zip_pre l a b fun i hi => by simpa using h (i + 1) (by simpa using hi)]
theorem crP_all {d : Dk} (h : cleanD d) (k : Nat) (data : List Int) {keep : List Bool} (ha : ∀ n, n < 8 → keep[n]? = some true) : crP d k data keep = stD d k data := by
  unfold crP stD flushD crashD
  congr 2
  refine zip_pre _ _ _ fun i hi => ?_
  have hl : (putD d (8 * k) data).cache.length = 8 := by unfold putD; rw [h.cache]; simp [putL_len]
  rw [hl] at hi ⊢
  rw [ha i hi, List.getElem?_replicate_of_lt hi]
theorem pick_ok {x y : Pt × Int} (h : x.2 = 0 ∨ y.2 = 0) : (pickP x y).2 = 0 := by
  unfold pickP
  rw [if_neg (by omega)]
  split <;> rfl
theorem pick_le {x y : Pt × Int} {n : Nat} (hx : x.1.data.length ≤ n) (hy : y.1.data.length ≤ n) : (pickP x y).1.data.length ≤ n := by
  unfold pickP
  split
  · simp [pt0]
  · split
    · exact hy
    · exact hx
theorem pick_old {x y : Pt × Int} {p q : Pt} (hp : x = (p, 0)) (hq : y = (q, 0)) (h : q.epoch ≤ p.epoch) : pickP x y = (p, 0) := by
  subst hp; subst hq
  unfold pickP
  rw [if_neg (by simp), if_neg (by simp; omega)]
theorem pick_new {x y : Pt × Int} {p q : Pt} (hp : x = (p, 0)) (hq : y = (q, 0)) (h : p.epoch < q.epoch) : pickP x y = (q, 0) := by
  subst hp; subst hq
  unfold pickP
  rw [if_neg (by simp), if_pos (by simp; omega)]
/-- three points one behind the other; the last one is lost in part -/
structure Three (e a b : Pt) (D1 D2 : Dk) : Prop where
  ea : okP e
  aa : okP a
  ba : okP b
  n1 : a.epoch = e.epoch + 1
  n2 : b.epoch = a.epoch + 1
  n0 : 0 ≤ e.epoch
  oe : okB e.data
  oa : okB a.data
  ob : okB b.data
  d1 : D1 = stD (zerosD 16) (regP e) (encP e).1
  d2 : D2 = stD D1 (regP a) (encP a).1
theorem Three.reg {e a b : Pt} {D1 D2 : Dk} (t : Three e a b D1 D2) : regP a ≠ regP b ∧ regP a < 2 ∧ regP b < 2 := by
  have := t.n1; have := t.n2; have := t.n0
  unfold regP
  omega
theorem Three.c1 {e a b : Pt} {D1 D2 : Dk} (t : Three e a b D1 D2) : cleanD D1 := by rw [t.d1]; exact stD_clean zeros_clean (regP_lt e) (encP_len t.ea)
theorem Three.c2 {e a b : Pt} {D1 D2 : Dk} (t : Three e a b D1 D2) : cleanD D2 := by rw [t.d2]; exact stD_clean t.c1 (regP_lt a) (encP_len t.aa)
theorem Three.o2 {e a b : Pt} {D1 D2 : Dk} (t : Three e a b D1 D2) : octD D2 := by
  rw [t.d2]
  refine oct_st t.c1 ?_ (regP_lt a) (okB_encP t.oa)
  rw [t.d1]; exact oct_st zeros_clean oct_zeros (regP_lt e) (okB_encP t.oe)
theorem Three.s1 {e a b : Pt} {D1 D2 : Dk} (t : Three e a b D1 D2) : storeD (zerosD 16) e = (D1, 0) := by rw [storeD_clean zeros_clean t.ea, t.d1]
theorem Three.s2 {e a b : Pt} {D1 D2 : Dk} (t : Three e a b D1 D2) : storeD D1 a = (D2, 0) := by rw [storeD_clean t.c1 t.aa, t.d2]
theorem Three.ra {e a b : Pt} {D1 D2 : Dk} (t : Three e a b D1 D2) (keep : List Bool) : decP (regD (crP D2 (regP b) (encP b).1 keep) (regP a)) = (a, 0) := by
  rw [crP_other t.c2 t.reg.1 (encP_len t.ba)]
  conv => lhs; rw [t.d2]
  rw [regD_st t.c1 (regP_lt a) (encP_len t.aa), decP_encP t.aa]
theorem Three.rb {e a b : Pt} {D1 D2 : Dk} (t : Three e a b D1 D2) {keep : List Bool} (h : ∀ n, n < 8 → keep[n]? = some true) : decP (regD (crP D2 (regP b) (encP b).1 keep) (regP b)) = (b, 0) := by
  rw [crP_all t.c2 _ _ h, regD_st t.c2 (regP_lt b) (encP_len t.ba), decP_encP t.ba]
theorem Three.load {e a b : Pt} {D1 D2 : Dk} (t : Three e a b D1 D2) (keep : List Bool) : ∃ L : Pt, loadD (crP D2 (regP b) (encP b).1 keep) = (L, 0) ∧ L.data.length ≤ 400 ∧ ((∀ n, n < 8 → keep[n]? = some true) → L = b) := by
  have hc := crP_clean t.c2 (k := regP b) (encP_len t.ba) keep
  have ha := t.ra keep
  obtain ⟨r1, r2, r3⟩ := t.reg
  have hn := t.n2
  rw [loadD_clean hc]
  refine ⟨(pickP (decP (regD (crP D2 (regP b) (encP b).1 keep) 0)) (decP (regD (crP D2 (regP b) (encP b).1 keep) 1))).1, ?_, pick_le (decP_le _) (decP_le _), fun hall => ?_⟩
  · have : (pickP (decP (regD (crP D2 (regP b) (encP b).1 keep) 0)) (decP (regD (crP D2 (regP b) (encP b).1 keep) 1))).2 = 0 := by
      refine pick_ok ?_
      rcases (show regP a = 0 ∨ regP a = 1 by omega) with h0 | h1
      · rw [h0] at ha; exact .inl (by rw [ha])
      · rw [h1] at ha; exact .inr (by rw [ha])
    rw [← this]
  · have hb := t.rb hall
    rcases (show regP a = 0 ∧ regP b = 1 ∨ regP a = 1 ∧ regP b = 0 by omega) with ⟨h0, h1⟩ | ⟨h1, h0⟩
    · rw [h0] at ha
      have hb' : decP (regD (crP D2 (regP b) (encP b).1 keep) 1) = (b, 0) := by rw [← hb, h1]
      rw [pick_new ha hb' (by omega)]
    · rw [h1] at ha
      have hb' : decP (regD (crP D2 (regP b) (encP b).1 keep) 0) = (b, 0) := by rw [← hb, h0]
      rw [pick_old hb' ha (by omega)]
end Go.Proofs.YtdenddhdeloceaaGreatDoor
/- Contract: PointOldOrNew answers true. -/
namespace Go.Proofs.YtdenddhdeloceaaGreatDoor
open Go.RowKit
set_option maxRecDepth 100000
theorem newE (n : Int) : ∃ e : Nat, IntKind.i64.wrap (2 + (IntKind.i64.wrap (n.tmod 1000 + 1000)).tmod 1000) = (e : Int) ∧ 2 ≤ e ∧ e < 1002 := by
  have h1 : -1000 < n.tmod 1000 := by have := Int.lt_tmod_of_pos n (show (0 : Int) < 1000 by decide); omega
  have h2 : n.tmod 1000 < 1000 := Int.tmod_lt_of_pos n (by decide)
  rw [wrap64 (x := n.tmod 1000 + 1000) (by omega)]
  obtain ⟨m, hm⟩ := Int.eq_ofNat_of_zero_le (show 0 ≤ n.tmod 1000 + 1000 by omega)
  rw [hm]
  have e : (m : Int).tmod 1000 = ((m % 1000 : Nat) : Int) := rfl
  have h3 : m % 1000 < 1000 := Nat.mod_lt _ (by decide)
  rw [e, wrap64 (by omega)]
  exact ⟨2 + m % 1000, by omega, by omega, by omega⟩
def allB (keep : List Bool) (i : Nat) : Bool := (List.range i).all fun n => kpK keep n
theorem allB_s (keep : List Bool) (i : Nat) : allB keep (i + 1) = (allB keep i && kpK keep i) := by simp [allB, List.range_succ]
theorem allB_at {keep : List Bool} {i n : Nat} (h : allB keep i = true) (hn : n < i) : keep[n]? = some true := by
  unfold allB at h
  rw [List.all_eq_true] at h
  have := h n (List.mem_range.2 hn)
  unfold kpK at this
  cases hx : keep[n]? with
  | none => rw [hx] at this; simp at this
  | some x => rw [hx] at this; simp at this; rw [this]
abbrev L_all (fk f2 : Bool) (sb vb cb : Int) (e : Nat) (db : List Int) (L : Pt) (keep : List Bool) (i : Nat) : ASt := ⟨envOf [(3, fO fk keep), (5, .op 0 0), (17, .op 1 0), (23, .op 2 0), (24, .v (.int .i64 0)), (25, .v (.bool (allB keep i))), (26, .v (.int .i64 i))],
  heapOf [(0, .row true 24 [.v (.int .i64 e), .v (.int .i64 sb), .v (.int .i64 vb), .v (.int .i64 cb), fB f2 db]), (1, .row true 25 [.v (.int .i64 L.epoch), .v (.int .i64 L.seq), .v (.int .i64 L.view), .v (.int .i64 L.commit), fB true L.data]), (2, .row true 24 [.v (.int .i64 L.epoch), .v (.int .i64 L.seq), .v (.int .i64 L.view), .v (.int .i64 L.commit), fB true L.data])], 3⟩
theorem reg8 (e : Nat) (h : e < 1002) : IntKind.i64.wrap (8 * (((e + 1 : Nat) : Int).tmod 2)) = ((8 * ((e + 1) % 2) : Nat) : Int) := by
  have e1 : ((e + 1 : Nat) : Int).tmod 2 = (((e + 1) % 2 : Nat) : Int) := rfl
  rw [e1, wrap64 (by omega)]; omega
set_option maxHeartbeats 16000000 in
theorem pointOldOrNew_spec (f1 f2 f3 fk : Bool) (a b el : Pt) (keep : List Bool) (nb : Nat) (ha : a.data.length ≤ 140737488355320) (hb : b.data.length ≤ 140737488355320) (he : el.data.length ≤ 140737488355320) (oa : okB a.data) (ob : okB b.data) (oe : okB el.data) (hk : keep.length ≤ 140737488355328) :
    ASound Tryz.prog 7 [aPt f1 a, aPt f2 b, aPt f3 el, fO fk keep] nb (.ret (.v (.bool true)) []) := by
  refine ok_7.sound (by simp) ⟨al_aPt a, al_aPt b, al_aPt el, al_O keep, trivial⟩ ?_
  obtain ⟨e, e0, e1, e2⟩ := newE a.epoch
  obtain ⟨ea, sa, va, ca, da⟩ := a
  obtain ⟨eb, sb, vb, cb, db⟩ := b
  obtain ⟨ee, se, ve, ce, de⟩ := el
  simp only at e0 ha hb he oa ob oe
  have ep : IntKind.i64.wrap ((e : Int) + 1) = ((e + 1 : Nat) : Int) := by rw [wrap64 (by omega)]; omega
  have em : IntKind.i64.wrap ((e : Int) - 1) = ((e - 1 : Nat) : Int) := by rw [wrap64 (by omega)]; omega
  have z1000 : ((1000 : Int) = 0) = False := eq_false (by decide)
  have w0 : IntKind.i64.wrap 0 = 0 := rfl
  have z2 : ((2 : Int) = 0) = False := eq_false (by decide)
  obtain ⟨A, hA⟩ : ∃ A : Pt, A = ⟨(e : Int), sa, va, ca, da⟩ := ⟨_, rfl⟩
  obtain ⟨B, hB⟩ : ∃ B : Pt, B = ⟨((e + 1 : Nat) : Int), sb, vb, cb, db⟩ := ⟨_, rfl⟩
  obtain ⟨E, hE⟩ : ∃ E : Pt, E = ⟨((e - 1 : Nat) : Int), se, ve, ce, de⟩ := ⟨_, rfl⟩
  have qA := rpcheck_spec f1 A
  have qB := rpcheck_spec f2 B
  have qE := rpcheck_spec f3 E
  have aA : aPt f1 A = .agg [.v (.int .i64 e), .v (.int .i64 sa), .v (.int .i64 va), .v (.int .i64 ca), .fs f1 (eB da) da.length] := by rw [hA]; rfl
  have aB : aPt f2 B = .agg [.v (.int .i64 ((e + 1 : Nat) : Int)), .v (.int .i64 sb), .v (.int .i64 vb), .v (.int .i64 cb), .fs f2 (eB db) db.length] := by rw [hB]; rfl
  have aE : aPt f3 E = .agg [.v (.int .i64 ((e - 1 : Nat) : Int)), .v (.int .i64 se), .v (.int .i64 ve), .v (.int .i64 ce), .fs f3 (eB de) de.length] := by rw [hE]; rfl
  rw [aA] at qA
  rw [aB] at qB
  rw [aE] at qE
  simp only [ac_7, aPt, fB, fO, TT, ↓reduceIte, Nat.reduceEqDiff, Nat.reduceAdd, Nat.reduceMul, reduceCtorEq, Nat.reduceLeDiff]
  refine ⟨_, alive_spec _, ?_⟩
  simp only [Bool.not_true, z1000, e0, TT, ↓reduceIte, Nat.reduceEqDiff, Nat.reduceAdd, Nat.reduceMul, reduceCtorEq, Nat.reduceLeDiff]
  refine ⟨by rfl, _, qA _, ?_⟩
  by_cases kA : okP A
  case neg =>
    have zA : ptE A ≠ 0 := fun h => kA ((okP_iff A).1 h)
    have tA : decide (ptE A = 0) = false := decide_eq_false zA
    simp only [zA, tA, ep, em, decide_true, decide_false, Bool.not_false, TT, ↓reduceIte, Nat.reduceEqDiff, Nat.reduceAdd, Nat.reduceMul, reduceCtorEq, Nat.reduceLeDiff]
    exact Ends.data (.inr rfl) (by simp [ET]) trivial
  have zA : ptE A = 0 := (okP_iff A).2 kA
  simp only [zA, ep, em, decide_true, Bool.not_true, TT, ↓reduceIte, Nat.reduceEqDiff, Nat.reduceAdd, Nat.reduceMul, reduceCtorEq, Nat.reduceLeDiff]
  refine ⟨_, qB _, ?_⟩
  by_cases kB : okP B
  case neg =>
    have zB : ptE B ≠ 0 := fun h => kB ((okP_iff B).1 h)
    have tB : decide (ptE B = 0) = false := decide_eq_false zB
    simp only [zB, tB, decide_true, decide_false, Bool.not_false, TT, ↓reduceIte, Nat.reduceEqDiff, Nat.reduceAdd, Nat.reduceMul, reduceCtorEq, Nat.reduceLeDiff]
    exact Ends.data (.inr rfl) (by simp [ET]) trivial
  have zB : ptE B = 0 := (okP_iff B).2 kB
  simp only [zB, decide_true, Bool.not_true, TT, ↓reduceIte, Nat.reduceEqDiff, Nat.reduceAdd, Nat.reduceMul, reduceCtorEq, Nat.reduceLeDiff]
  refine ⟨_, qE _, ?_⟩
  by_cases kE : okP E
  case neg =>
    have zE : ptE E ≠ 0 := fun h => kE ((okP_iff E).1 h)
    have tE : decide (ptE E = 0) = false := decide_eq_false zE
    simp only [zE, tE, decide_true, decide_false, Bool.not_false, TT, ↓reduceIte, Nat.reduceEqDiff, Nat.reduceAdd, Nat.reduceMul, reduceCtorEq, Nat.reduceLeDiff]
    exact Ends.data (.inr rfl) (by simp [ET]) trivial
  have zE : ptE E = 0 := (okP_iff E).2 kE
  have t : Three E A B (stD (zerosD 16) (regP E) (encP E).1) (stD (stD (zerosD 16) (regP E) (encP E).1) (regP A) (encP A).1) :=
    ⟨kE, kA, kB, by rw [hA, hE]; simp only; omega, by rw [hA, hB]; simp only; omega, by rw [hE]; simp only; omega, by rw [hE]; exact oe, by rw [hA]; exact oa, by rw [hB]; exact ob, rfl, rfl⟩
  generalize stD (zerosD 16) (regP E) (encP E).1 = D1 at t
  generalize stD D1 (regP A) (encP A).1 = D2 at t
  have m1 := t.c1.ok.few
  have m2 := t.c2.ok.few
  have m16 := t.c2.few
  have n16 := new_spec 16
  have r16 := rnew_spec 16
  have s1 := store_spec true true (zerosD 16) E
  have s2 := store_spec true true D1 A
  have u1 := rstore_spec true f3 (zerosD 16) E
  have u2 := rstore_spec true f1 D1 A
  rw [t.s1] at s1 u1
  rw [t.s2] at s2 u2
  have o1 := of_spec f3 E
  have o2 := of_spec f1 A
  have o3 := of_spec f2 B
  have hreg : 8 * regP B = 8 * ((e + 1) % 2) := by rw [hB]; unfold regP; simp only [Int.toNat_natCast]
  have l5 := encP_len kB
  have x3 := pencode_spec true B
  have y3 := rpencode_spec f2 B
  have exB : encP B = ((encP B).1, 0) := by rw [encP, if_pos zB]
  have p8 : 8 * regP B + 8 ≤ D2.sectors.length := by have := regP_lt B; omega
  have pa := putAll_spec true true D2 ((8 * regP B : Nat) : Int) (encP B).1
  have pb := fun nb => rputAll_spec true true D2 (8 * regP B) (encP B).1 nb t.c2.ok l5 p8
  have p9 : D2.cache.length + 8 ≤ 4096 := by rw [t.c2.cache]; simp
  rw [putAllD_512 t.c2.ok l5 p8, if_pos p9] at pa
  simp only [if_pos p9] at pb
  have okp : okD (putD D2 (8 * regP B) (encP B).1) := okD_put t.c2.ok l5 p8 p9
  have cr := fun nb => crash_spec true fk (putD D2 (8 * regP B) (encP B).1) keep nb okp hk
  have cs := fun nb => rcrash_ok true fk (putD D2 (8 * regP B) (encP B).1) keep nb okp hk
  obtain ⟨L, hL, lL, hall⟩ := t.load keep
  have oc := crP_oct t.c2 t.o2 (k := regP B) (okB_encP (p := B) (by rw [hB]; exact ob)) keep
  have mc := (crP_clean t.c2 (k := regP B) l5 keep).ok.few
  have ld := load_spec true (crP D2 (regP B) (encP B).1 keep)
  have le := rload_spec true (crP D2 (regP B) (encP B).1 keep)
  rw [hL] at ld le
  have hC : crashD (putD D2 (8 * regP B) (encP B).1) keep = crP D2 (regP B) (encP B).1 keep := rfl
  rw [hC] at cr cs
  have e8 : IntKind.i64.wrap (8 * (((e + 1 : Nat) : Int).tmod 2)) = ((8 * regP B : Nat) : Int) := by rw [hreg]; exact reg8 e e2
  generalize crP D2 (regP B) (encP B).1 keep = C at cr cs ld le oc mc
  generalize putD D2 (8 * regP B) (encP B).1 = Q at cr cs pa pb
  have hs1 := sameP_spec true true L L
  have ts : decide (sameP L L) = true := decide_eq_true (sameP_iff.2 rfl)
  rw [ts] at hs1
  have hs2 := sameP_spec true f2 L B
  rw [exB] at x3 y3
  generalize (encP B).1 = X at x3 y3 pa pb l5
  rw [aB] at y3 o3 hs2
  rw [aA] at o2 u2
  rw [aE] at o1 u1
  have wA : A.data = da := by rw [hA]
  have wB : B.data = db := by rw [hB]
  have wE : E.data = de := by rw [hE]
  rw [wA] at o2
  rw [wB] at o3
  rw [wE] at o1
  generalize (8 * regP B : Nat) = R at e8 pa pb p8
  have xA : aPt true A = .agg [.v (.int .i64 e), .v (.int .i64 sa), .v (.int .i64 va), .v (.int .i64 ca), .fs true (eB da) da.length] := by rw [hA]; rfl
  have xB : aPt true B = .agg [.v (.int .i64 ((e + 1 : Nat) : Int)), .v (.int .i64 sb), .v (.int .i64 vb), .v (.int .i64 cb), .fs true (eB db) db.length] := by rw [hB]; rfl
  have xE : aPt true E = .agg [.v (.int .i64 ((e - 1 : Nat) : Int)), .v (.int .i64 se), .v (.int .i64 ve), .v (.int .i64 ce), .fs true (eB de) de.length] := by rw [hE]; rfl
  rw [xA] at o2 s2
  rw [xB] at o3 x3
  rw [xE] at o1 s1
  simp only [aDk, fL, fWrs, fB, fO] at n16 r16 s1 s2 u1 u2 o1 o2 o3 x3 y3 pa pb cr cs ld le
  simp only [zE, decide_true, Bool.not_true, TT, ↓reduceIte, Nat.reduceEqDiff, Nat.reduceAdd, Nat.reduceMul, reduceCtorEq, Nat.reduceLeDiff]
  refine ⟨_, n16 _ (by decide) (by decide), ?_⟩
  simp only [TT, ↓reduceIte, Nat.reduceEqDiff, Nat.reduceAdd, Nat.reduceMul, reduceCtorEq, Nat.reduceLeDiff]
  refine ⟨_, o1 _ (by omega), ?_⟩
  simp only [TT, ↓reduceIte, Nat.reduceEqDiff, Nat.reduceAdd, Nat.reduceMul, reduceCtorEq, Nat.reduceLeDiff]
  refine ⟨_, s1 _ (by simp [zerosD]), ?_⟩
  simp only [TT, ↓reduceIte, Nat.reduceEqDiff, Nat.reduceAdd, Nat.reduceMul, reduceCtorEq, Nat.reduceLeDiff]
  refine ⟨by rfl, ?_⟩
  refine ⟨_, o2 _ (by omega), ?_⟩
  simp only [TT, ↓reduceIte, Nat.reduceEqDiff, Nat.reduceAdd, Nat.reduceMul, reduceCtorEq, Nat.reduceLeDiff]
  refine ⟨_, s2 _ (by omega), ?_⟩
  simp only [TT, ↓reduceIte, Nat.reduceEqDiff, Nat.reduceAdd, Nat.reduceMul, reduceCtorEq, Nat.reduceLeDiff]
  refine ⟨by rfl, ?_⟩
  refine ⟨_, o3 _ (by omega), ?_⟩
  simp only [TT, ↓reduceIte, Nat.reduceEqDiff, Nat.reduceAdd, Nat.reduceMul, reduceCtorEq, Nat.reduceLeDiff]
  refine ⟨_, x3 _, ?_⟩
  simp only [z2, e8, TT, ↓reduceIte, Nat.reduceEqDiff, Nat.reduceAdd, Nat.reduceMul, reduceCtorEq, Nat.reduceLeDiff]
  refine ⟨_, pa _ (by omega) (by omega) (by omega), ?_⟩
  simp only [TT, ↓reduceIte, Nat.reduceEqDiff, Nat.reduceAdd, Nat.reduceMul, reduceCtorEq, Nat.reduceLeDiff]
  refine ⟨_, cr _, ?_⟩
  simp only [TT, ↓reduceIte, Nat.reduceEqDiff, Nat.reduceAdd, Nat.reduceMul, reduceCtorEq, Nat.reduceLeDiff]
  refine ⟨_, ld _ oc (by omega), ?_⟩
  simp only [TT, ↓reduceIte, Nat.reduceEqDiff, Nat.reduceAdd, Nat.reduceMul, reduceCtorEq, Nat.reduceLeDiff]
  refine ⟨_, num_spec 0 _, ?_⟩
  simp only [decide_true, decide_false, Bool.not_true, Bool.not_false, w0, TT, ↓reduceIte, Nat.reduceEqDiff, Nat.reduceAdd, Nat.reduceMul, reduceCtorEq, Nat.reduceLeDiff]
  refine ⟨_, num_spec 0 _, ?_⟩
  simp only [decide_true, decide_false, Bool.not_true, Bool.not_false, w0, TT, ↓reduceIte, Nat.reduceEqDiff, Nat.reduceAdd, Nat.reduceMul, reduceCtorEq, Nat.reduceLeDiff]
  refine ⟨_, num_spec 0 _, ?_⟩
  simp only [decide_true, decide_false, Bool.not_true, Bool.not_false, w0, TT, ↓reduceIte, Nat.reduceEqDiff, Nat.reduceAdd, Nat.reduceMul, reduceCtorEq, Nat.reduceLeDiff]
  refine ⟨_, num_spec 0 _, ?_⟩
  simp only [decide_true, decide_false, Bool.not_true, Bool.not_false, w0, TT, ↓reduceIte, Nat.reduceEqDiff, Nat.reduceAdd, Nat.reduceMul, reduceCtorEq, Nat.reduceLeDiff]
  refine ⟨_, num_spec 0 _, ?_⟩
  simp only [decide_true, decide_false, Bool.not_true, Bool.not_false, w0, TT, ↓reduceIte, Nat.reduceEqDiff, Nat.reduceAdd, Nat.reduceMul, reduceCtorEq, Nat.reduceLeDiff]
  refine ⟨_, num_spec 0 _, ?_⟩
  simp only [decide_true, decide_false, Bool.not_true, Bool.not_false, w0, TT, ↓reduceIte, Nat.reduceEqDiff, Nat.reduceAdd, Nat.reduceMul, reduceCtorEq, Nat.reduceLeDiff]
  refine ⟨_, num_spec 0 _, ?_⟩
  simp only [decide_true, decide_false, Bool.not_true, Bool.not_false, w0, TT, ↓reduceIte, Nat.reduceEqDiff, Nat.reduceAdd, Nat.reduceMul, reduceCtorEq, Nat.reduceLeDiff]
  refine ⟨_, r16 _ (by decide) (by decide), ?_⟩
  simp only [TT, ↓reduceIte, Nat.reduceEqDiff, Nat.reduceAdd, Nat.reduceMul, reduceCtorEq, Nat.reduceLeDiff]
  refine ⟨_, u1 _, ?_⟩
  simp only [TT, ↓reduceIte, Nat.reduceEqDiff, Nat.reduceAdd, Nat.reduceMul, reduceCtorEq, Nat.reduceLeDiff]
  refine ⟨_, u2 _, ?_⟩
  simp only [TT, ↓reduceIte, Nat.reduceEqDiff, Nat.reduceAdd, Nat.reduceMul, reduceCtorEq, Nat.reduceLeDiff]
  refine ⟨_, y3 _, ?_⟩
  simp only [z2, e8, TT, ↓reduceIte, Nat.reduceEqDiff, Nat.reduceAdd, Nat.reduceMul, reduceCtorEq, Nat.reduceLeDiff]
  refine ⟨_, pb _, ?_⟩
  simp only [TT, ↓reduceIte, Nat.reduceEqDiff, Nat.reduceAdd, Nat.reduceMul, reduceCtorEq, Nat.reduceLeDiff]
  refine ⟨_, cs _, ?_⟩
  simp only [TT, ↓reduceIte, Nat.reduceEqDiff, Nat.reduceAdd, Nat.reduceMul, reduceCtorEq, Nat.reduceLeDiff]
  refine ⟨_, le _ oc, ?_⟩
  simp only [TT, ↓reduceIte, Nat.reduceEqDiff, Nat.reduceAdd, Nat.reduceMul, reduceCtorEq, Nat.reduceLeDiff]
  have aL : aPt true L = .agg [.v (.int .i64 L.epoch), .v (.int .i64 L.seq), .v (.int .i64 L.view), .v (.int .i64 L.commit), .fs true (eB L.data) L.data.length] := rfl
  rw [aL] at hs1 hs2
  refine AWc.family (L_all fk f2 sb vb cb (e + 1) db L keep) (fun i => i ≤ 8) (fun i => 8 - i) 0 (Nat.zero_le _) ?_ ?_
  · refine Weak.calc [(100000, 0), (9500000, 1), (17000000, 2)] (by decide) ?_ ?_ <;> simp [WT, al_O, ren_O, fO, allB]
  · intro i hi
    by_cases hlt : i < 8
    · have q1 : ((i : Int) < 8) := by omega
      cases hab : allB keep i with
      | false =>
        have hn : allB keep (i + 1) = false := by rw [allB_s, hab]; rfl
        simp only [L_all, fO, hab, q1, decide_true, TT, ↓reduceIte, Nat.reduceEqDiff, Nat.reduceAdd, Nat.reduceMul, reduceCtorEq, Nat.reduceLeDiff]
        refine famC_next (i + 1) (by omega) (by omega) ?_
        refine Weak.calc [(0, 0), (1, 1), (2, 2)] (by decide) ?_ ?_ <;> simp [WT, al_O, ren_O, fO, hn, wrap64 (x := (i : Int) + 1) (by omega)]
      | true =>
        by_cases hlk : i < keep.length
        · obtain ⟨x, hx, q2, q3⟩ := lt_at hlk
          have hn : allB keep (i + 1) = x := by rw [allB_s, hab, kpK, hx]; rfl
          simp only [L_all, fO, hab, q1, q2, q3, get_O hx, decide_true, TT, ↓reduceIte, Nat.reduceEqDiff, Nat.reduceAdd, Nat.reduceMul, reduceCtorEq, Nat.reduceLeDiff]
          refine famC_next (i + 1) (by omega) (by omega) ?_
          refine Weak.calc [(0, 0), (1, 1), (2, 2)] (by decide) ?_ ?_ <;> simp [WT, al_O, ren_O, fO, hn, wrap64 (x := (i : Int) + 1) (by omega)]
        · have q2 : ¬ ((i : Int) < (keep.length : Int)) := by omega
          have hn : allB keep (i + 1) = false := by rw [allB_s, hab, kpK, List.getElem?_eq_none (by omega)]; rfl
          simp only [L_all, fO, hab, q1, q2, decide_true, decide_false, TT, ↓reduceIte, Nat.reduceEqDiff, Nat.reduceAdd, Nat.reduceMul, reduceCtorEq, Nat.reduceLeDiff]
          refine famC_next (i + 1) (by omega) (by omega) ?_
          refine Weak.calc [(0, 0), (1, 1), (2, 2)] (by decide) ?_ ?_ <;> simp [WT, al_O, ren_O, fO, hn, wrap64 (x := (i : Int) + 1) (by omega)]
    · obtain rfl : i = 8 := by omega
      have q1 : ¬ (((8 : Nat) : Int) < 8) := by decide
      simp only [L_all, fO, q1, decide_true, decide_false, TT, ↓reduceIte, Nat.reduceEqDiff, Nat.reduceAdd, Nat.reduceMul, reduceCtorEq, Nat.reduceLeDiff]
      refine ⟨_, hs1 _ (by omega), ?_⟩
      cases hab : allB keep 8 with
      | false =>
        simp only [decide_true, Bool.not_false, TT, ↓reduceIte, Nat.reduceEqDiff, Nat.reduceAdd, Nat.reduceMul, reduceCtorEq, Nat.reduceLeDiff]
        exact Ends.data (.inr rfl) (by simp [ET]) trivial
      | true =>
        have hLB : L = B := hall fun n hn => allB_at hab hn
        have ts2 : decide (sameP L B) = true := decide_eq_true (sameP_iff.2 hLB)
        rw [ts2] at hs2
        simp only [decide_true, Bool.not_true, TT, ↓reduceIte, Nat.reduceEqDiff, Nat.reduceAdd, Nat.reduceMul, reduceCtorEq, Nat.reduceLeDiff]
        refine ⟨_, hs2 _ (by omega), ?_⟩
        simp only [decide_true, TT, ↓reduceIte, Nat.reduceEqDiff, Nat.reduceAdd, Nat.reduceMul, reduceCtorEq, Nat.reduceLeDiff]
        exact Ends.data (.inr rfl) (by simp [ET]) trivial
end Go.Proofs.YtdenddhdeloceaaGreatDoor
/- Rows' arguments: lists of booleans, of points. -/
namespace Go.Proofs.YtdenddhdeloceaaGreatDoor
open Go.RowKit
set_option maxRecDepth 100000
def okBools (l : List Bool) : Prop := l.length * 1 ≤ reachB ∧ ∀ x ∈ l, True
theorem okBools_le {l : List Bool} (h : okBools l) : l.length ≤ 140737488351232 := by have := h.1; unfold reachB at this; omega
theorem eO_flat (l : List Bool) : eO l = l.flatMap fun x => [.v (.bool x)] := by simp [eO, List.map_eq_flatMap]
theorem rdt_bools : Rd Tryz.prog 65 (fun fr l => [fO fr l]) okBools :=
  (rd_slice (B := 1) Tryz.underlying65 (by kernel_rfl) (by kernel_rfl) (by rw [show Tryz.prog.cellsOf 4 = 1 from by kernel_rfl]; decide) (rd_bool Tryz.underlying4 (by kernel_rfl))).map id id (fun fr b => by simp [fO, eO_flat]) (fun fr b => by simp [fO, eO_flat]) fun a h => h
theorem open_bools {H : Type} {enc : TypeId × Value → H} {W : World} {base : Nat} {v : Value} {d : DataW H} {ps : List MemPlace} (hv : Value.okWide Tryz.prog W .any base 65 v) (h : DataW.Trod enc Tryz.prog W 0 (fun _ => true) true 65 v d ps)
    (hw : (d.weights Tryz.prog 65).all (· ≤ reachBytes) = true) : ∃ s, okBools s ∧ VR (cx0 W) (fO false s) v := by
  have hc : v.cells.toList = [v] := by
    cases v <;> first | rfl | (exfalso; simp [Value.okWide, Cell.okWide, Cell.ok, Tryz.underlying65] at hv)
  obtain ⟨fuel, h⟩ := h
  obtain ⟨s, h1, h2⟩ := rdt_bools.rd h hw
  refine ⟨s, h1, ?_⟩
  rw [hc, VRl] at h2
  obtain ⟨u, us, e, _, h3, _⟩ := h2
  cases e
  exact h3
/-- points in a slice -/
def ePts (fr : Bool) (l : List Pt) : List AV := l.flatMap fun p => [.v (.int .i64 p.epoch), .v (.int .i64 p.seq), .v (.int .i64 p.view), .v (.int .i64 p.commit), fB fr p.data]
def fPts (fr : Bool) (l : List Pt) : AV := .fs fr (ePts fr l) l.length
theorem rdt_pts : Rd Tryz.prog 60 (fun fr l => [fPts fr l]) (fun l => l.length * 56 ≤ reachB ∧ ∀ x ∈ l, okPt x) :=
  rd_slice (B := 56) Tryz.underlying60 (by kernel_rfl) (by kernel_rfl) (by rw [show Tryz.prog.cellsOf 24 = 5 from by kernel_rfl]; decide) rdt_pt
theorem open_pts {H : Type} {enc : TypeId × Value → H} {W : World} {base : Nat} {v : Value} {d : DataW H} {ps : List MemPlace} (hv : Value.okWide Tryz.prog W .any base 60 v) (h : DataW.Trod enc Tryz.prog W 0 (fun _ => true) true 60 v d ps)
    (hw : (d.weights Tryz.prog 60).all (· ≤ reachBytes) = true) : ∃ s : List Pt, (s.length * 56 ≤ reachB ∧ ∀ x ∈ s, okPt x) ∧ VR (cx0 W) (fPts false s) v := by
  have hc : v.cells.toList = [v] := by
    cases v <;> first | rfl | (exfalso; simp [Value.okWide, Cell.okWide, Cell.ok, Tryz.underlying60] at hv)
  obtain ⟨fuel, h⟩ := h
  obtain ⟨s, h1, h2⟩ := rdt_pts.rd h hw
  refine ⟨s, h1, ?_⟩
  rw [hc, VRl] at h2
  obtain ⟨u, us, e, _, h3, _⟩ := h2
  cases e
  exact h3
end Go.Proofs.YtdenddhdeloceaaGreatDoor
