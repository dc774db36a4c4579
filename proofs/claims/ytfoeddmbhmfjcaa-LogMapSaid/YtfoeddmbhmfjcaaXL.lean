/- Merged texts: K9, JG, JH, JI, JJ. -/
import Derived.Test.YtfoeddmbhmfjcaaXD
import Derived.Test.YtfoeddmbhmfjcaaProg
import Derived.Test.YtfoeddmbhmfjcaaXK
import Derived.Test.YtfoeddmbhmfjcaaXI
import Derived.Test.YtfoeddmbhmfjcaaXH
set_option linter.unusedSimpArgs false
set_option linter.unusedVariables false
/- Functions of the program, compiled. -/
namespace Go.Proofs.Ytfoeddmbhmfjcaa
set_option maxRecDepth 100000
def tl_11 : AC :=
(.seq (.reg false [⟨some 179, .load true 4 (.tmp 5), none, [5], []⟩,
    ⟨some 180, .call 43 [(.tmp 179)], none, [179], []⟩,
    ⟨some 178, .mv (.tmp 180), none, [180], []⟩,
    ⟨some 181, .ext 0 (.tmp 178), none, [178], []⟩,
    ⟨some 182, .ext 1 (.tmp 178), none, [178], []⟩,
    ⟨some 22, .mv (.tmp 181), none, [181], []⟩,
    ⟨some 23, .mv (.tmp 182), none, [182], []⟩] [0, 1, 5, 7, 8, 22, 23])
(.seq (.seq (.reg false [⟨some 183, .mv (.tmp 23), none, [23], []⟩,
    ⟨some 184, .call 26 [(.tmp 183)], none, [183], []⟩,
    ⟨some 185, .bin .neq (.tmp 184) (.const (.int .i64 (0))), none, [184], []⟩,
    ⟨some 186, .mv (.tmp 185), none, [185], []⟩,
    ⟨some 187, .mv (.tmp 22), some (186, false), [22, 186], []⟩,
    ⟨some 188, .len false (.tmp 187), some (186, false), [187, 186], []⟩,
    ⟨some 189, .mv (.tmp 7), some (186, false), [7, 186], []⟩,
    ⟨some 190, .len false (.tmp 189), some (186, false), [189, 186], []⟩,
    ⟨some 191, .bin .neq (.tmp 188) (.tmp 190), some (186, false), [188, 190, 186], []⟩,
    ⟨some 192, .pick (.tmp 186) (.const (.bool true)) (.tmp 191), none, [186, 191], []⟩] [0, 1, 5, 7, 8, 192])
(.cond (.tmp 192)
(.seq (.reg false [⟨some 4, .mv (.const (.bool false)), none, [], []⟩] [4])
.ret)
.skip))
(.seq (.reg false [⟨some 24, .mv (.const (.int .i64 (0))), none, [], []⟩] [0, 1, 5, 7, 8, 24])
(.block 5 (.loop (.seq (.seq (.reg false [⟨some 193, .mv (.tmp 24), none, [24], []⟩,
    ⟨some 194, .mv (.tmp 7), none, [7], []⟩,
    ⟨some 195, .len false (.tmp 194), none, [194], []⟩,
    ⟨some 196, .bin .lss (.tmp 193) (.tmp 195), none, [193, 195], []⟩] [0, 1, 5, 7, 8, 24, 196])
(.cond (.tmp 196)
.skip
(.exit 5)))
(.seq (.block 6 (.seq (.reg true [⟨some 200, .load true 4 (.tmp 5), none, [5], []⟩,
    ⟨some 201, .mv (.tmp 7), none, [7], []⟩,
    ⟨some 202, .mv (.tmp 24), none, [24], []⟩,
    ⟨some 203, .idx 3 (.tmp 201) (.tmp 202), none, [201, 202], [1, 2]⟩,
    ⟨some 204, .foff 0 (.tmp 203), none, [203], [3, 1, 2]⟩,
    ⟨some 205, .load false 1 (.tmp 204), none, [204], [4, 3, 1, 2]⟩,
    ⟨some 206, .mv (.tmp 7), none, [7], []⟩,
    ⟨some 207, .mv (.tmp 24), none, [24], []⟩,
    ⟨some 208, .idx 3 (.tmp 206) (.tmp 207), none, [206, 207], [6, 7]⟩,
    ⟨some 209, .foff 1 (.tmp 208), none, [208], [8, 6, 7]⟩,
    ⟨some 210, .load false 1 (.tmp 209), none, [209], [9, 8, 6, 7]⟩,
    ⟨some 211, .call 41 [(.tmp 200), (.tmp 205), (.tmp 210)], none, [200, 205, 210], [0, 5, 10, 4, 3, 1, 2, 9, 8, 6, 7]⟩,
    ⟨some 199, .mv (.tmp 211), none, [211], [11, 0, 5, 10, 4, 3, 1, 2, 9, 8, 6, 7]⟩,
    ⟨some 212, .ext 0 (.tmp 199), none, [199], [12, 11, 0, 5, 10, 4, 3, 1, 2, 9, 8, 6, 7]⟩,
    ⟨some 213, .ext 1 (.tmp 199), none, [199], [12, 11, 0, 5, 10, 4, 3, 1, 2, 9, 8, 6, 7]⟩,
    ⟨some 214, .ext 2 (.tmp 199), none, [199], [12, 11, 0, 5, 10, 4, 3, 1, 2, 9, 8, 6, 7]⟩,
    ⟨some 25, .mv (.tmp 212), none, [212], [13, 11, 0, 1, 2, 3, 4, 5, 6, 7, 8, 9, 10, 12]⟩,
    ⟨some 26, .mv (.tmp 213), none, [213], [14, 16, 0, 1, 2, 3, 4, 5, 6, 7, 8, 9, 10, 11, 12, 13]⟩,
    ⟨some 27, .mv (.tmp 214), none, [214], [15, 17, 0, 1, 2, 3, 4, 5, 6, 7, 8, 9, 10, 11, 12, 13, 14, 16]⟩] [0, 1, 5, 7, 8, 24, 25, 26, 27])
(.seq (.reg false [⟨some 215, .mv (.tmp 27), none, [27], []⟩,
    ⟨some 216, .call 26 [(.tmp 215)], none, [215], []⟩,
    ⟨some 217, .bin .neq (.tmp 216) (.const (.int .i64 (0))), none, [216], []⟩,
    ⟨some 218, .mv (.tmp 217), none, [217], []⟩,
    ⟨some 219, .mv (.tmp 26), some (218, false), [26, 218], []⟩,
    ⟨some 220, .un .not (.tmp 219), some (218, false), [219, 218], []⟩,
    ⟨some 221, .pick (.tmp 218) (.const (.bool true)) (.tmp 220), none, [218, 220], []⟩,
    ⟨some 222, .mv (.tmp 221), none, [221], []⟩,
    ⟨some 223, .mv (.tmp 25), some (222, false), [25, 222], []⟩,
    ⟨some 224, .mv (.tmp 7), some (222, false), [7, 222], []⟩,
    ⟨some 225, .mv (.tmp 24), some (222, false), [24, 222], []⟩,
    ⟨some 226, .idx 3 (.tmp 224) (.tmp 225), some (222, false), [224, 225, 222], []⟩,
    ⟨some 227, .foff 2 (.tmp 226), some (222, false), [226, 222], []⟩,
    ⟨some 228, .load false 1 (.tmp 227), some (222, false), [227, 222], []⟩,
    ⟨some 229, .call 45 [(.tmp 223), (.tmp 228)], some (222, false), [223, 228, 222], []⟩,
    ⟨some 230, .un .not (.tmp 229), some (222, false), [229, 222], []⟩,
    ⟨some 231, .pick (.tmp 222) (.const (.bool true)) (.tmp 230), none, [222, 230], []⟩] [0, 1, 5, 7, 8, 24, 231])
(.cond (.tmp 231)
(.seq (.reg false [⟨some 4, .mv (.const (.bool false)), none, [], []⟩] [4])
.ret)
.skip))))
(.reg false [⟨some 197, .mv (.tmp 24), none, [24], []⟩,
    ⟨some 198, .bin .add (.tmp 197) (.const (.int .i64 (1))), none, [197], []⟩,
    ⟨some 24, .mv (.tmp 198), none, [198], []⟩] [0, 1, 5, 7, 8, 24]))))))))
def pt_11 : AC :=
(.seq (.reg false [⟨some 91, .load true 4 (.tmp 5), none, [5], []⟩,
    ⟨some 92, .mv (.tmp 10), none, [10], []⟩,
    ⟨some 93, .mv (.tmp 11), none, [11], []⟩,
    ⟨some 94, .mv (.tmp 12), none, [12], []⟩,
    ⟨some 95, .build [(.int .i64 (0)), (.int .i64 (0)), (.slice none 0 0)] [(0, 1, (.tmp 92)), (1, 1, (.tmp 93)), (2, 1, (.tmp 94))], none, [92, 93, 94], []⟩,
    ⟨some 96, .call 30 [(.tmp 91), (.tmp 95)], none, [91, 95], []⟩,
    ⟨some 90, .mv (.tmp 96), none, [96], []⟩,
    ⟨some 97, .ext 0 (.tmp 90), none, [90], []⟩,
    ⟨some 98, .ext 1 (.tmp 90), none, [90], []⟩,
    ⟨some 13, .new 36 [(.slice none 0 0), (.slice none 0 0), (.slice none 0 0), (.int .i64 (0))], none, [], []⟩,
    ⟨none, .store 4 (.tmp 13) (.tmp 97), none, [13, 97], []⟩,
    ⟨some 14, .mv (.tmp 98), none, [98], []⟩] [0, 1, 5, 7, 8, 10, 11, 12, 13, 14])
(.seq (.seq (.reg false [⟨some 99, .mv (.tmp 14), none, [14], []⟩,
    ⟨some 100, .call 26 [(.tmp 99)], none, [99], []⟩,
    ⟨some 101, .bin .neq (.tmp 100) (.const (.int .i64 (0))), none, [100], []⟩] [0, 1, 5, 7, 8, 10, 11, 12, 13, 101])
(.cond (.tmp 101)
(.seq (.seq (.reg false [⟨some 102, .foff 2 (.tmp 5), none, [5], []⟩,
    ⟨some 103, .load false 1 (.tmp 102), none, [102], []⟩,
    ⟨some 104, .len false (.tmp 103), none, [103], []⟩,
    ⟨some 105, .bin .neq (.tmp 104) (.const (.int .i64 (8))), none, [104], []⟩] [0, 1, 5, 7, 8, 105])
(.cond (.tmp 105)
(.seq (.reg false [⟨some 4, .mv (.const (.bool false)), none, [], []⟩] [4])
.ret)
.skip))
(.exit 1))
.skip))
(.seq (.reg false [⟨some 106, .load true 4 (.tmp 13), none, [13], []⟩,
    ⟨none, .store 4 (.tmp 5) (.tmp 106), none, [5, 106], []⟩] [0, 1, 5, 7, 8, 10, 11, 12])
(.seq (.reg false [⟨some 15, .mv (.const (.slice none 0 0)), none, [], []⟩] [0, 1, 5, 7, 8, 10, 11, 12, 15])
(.seq (.seq (.reg false [⟨some 16, .mv (.const (.int .i64 (0))), none, [], []⟩] [0, 1, 5, 7, 8, 10, 11, 12, 15, 16])
(.block 3 (.loop (.seq (.seq (.reg false [⟨some 107, .mv (.tmp 16), none, [16], []⟩,
    ⟨some 108, .mv (.tmp 7), none, [7], []⟩,
    ⟨some 109, .len false (.tmp 108), none, [108], []⟩,
    ⟨some 110, .bin .lss (.tmp 107) (.tmp 109), none, [107, 109], []⟩] [0, 1, 5, 7, 8, 10, 11, 12, 15, 16, 110])
(.cond (.tmp 110)
.skip
(.exit 3)))
(.seq (.block 4 (.seq (.reg false [⟨some 113, .mv (.tmp 7), none, [7], []⟩,
    ⟨some 114, .mv (.tmp 16), none, [16], []⟩,
    ⟨some 115, .idx 3 (.tmp 113) (.tmp 114), none, [113, 114], []⟩,
    ⟨some 116, .foff 0 (.tmp 115), none, [115], []⟩,
    ⟨some 117, .load false 1 (.tmp 116), none, [116], []⟩,
    ⟨some 118, .mv (.tmp 10), none, [10], []⟩,
    ⟨some 119, .bin .neq (.tmp 117) (.tmp 118), none, [117, 118], []⟩,
    ⟨some 120, .mv (.tmp 119), none, [119], []⟩,
    ⟨some 121, .mv (.tmp 7), some (120, false), [7, 120], []⟩,
    ⟨some 122, .mv (.tmp 16), some (120, false), [16, 120], []⟩,
    ⟨some 123, .idx 3 (.tmp 121) (.tmp 122), some (120, false), [121, 122, 120], []⟩,
    ⟨some 124, .foff 1 (.tmp 123), some (120, false), [123, 120], []⟩,
    ⟨some 125, .load false 1 (.tmp 124), some (120, false), [124, 120], []⟩,
    ⟨some 126, .mv (.tmp 11), some (120, false), [11, 120], []⟩,
    ⟨some 127, .bin .neq (.tmp 125) (.tmp 126), some (120, false), [125, 126, 120], []⟩,
    ⟨some 128, .pick (.tmp 120) (.const (.bool true)) (.tmp 127), none, [120, 127], []⟩] [0, 1, 5, 7, 8, 10, 11, 12, 15, 16, 128])
(.cond (.tmp 128)
(.reg false [⟨some 129, .mv (.tmp 15), none, [15], []⟩,
    ⟨some 130, .mv (.tmp 7), none, [7], []⟩,
    ⟨some 131, .mv (.tmp 16), none, [16], []⟩,
    ⟨some 132, .idx 3 (.tmp 130) (.tmp 131), none, [130, 131], []⟩,
    ⟨some 133, .load true 3 (.tmp 132), none, [132], []⟩,
    ⟨some 134, .bslice 55 3 1 [(.int .i64 (0)), (.int .i64 (0)), (.slice none 0 0)] [(0, 3, (.tmp 133))], none, [133], []⟩,
    ⟨some 135, .append 55 3 40 (.tmp 129) (.tmp 134), none, [129, 134], []⟩,
    ⟨some 15, .mv (.tmp 135), none, [135], []⟩] [0, 1, 5, 7, 8, 10, 11, 12, 15, 16])
.skip)))
(.reg false [⟨some 111, .mv (.tmp 16), none, [16], []⟩,
    ⟨some 112, .bin .add (.tmp 111) (.const (.int .i64 (1))), none, [111], []⟩,
    ⟨some 16, .mv (.tmp 112), none, [112], []⟩] [0, 1, 5, 7, 8, 10, 11, 12, 15, 16]))))))
(.seq (.reg false [⟨some 136, .mv (.tmp 15), none, [15], []⟩,
    ⟨some 7, .mv (.tmp 136), none, [136], []⟩] [0, 1, 5, 7, 8, 10, 11, 12])
(.seq (.reg false [⟨some 137, .mv (.tmp 12), none, [12], []⟩,
    ⟨some 138, .len false (.tmp 137), none, [137], []⟩,
    ⟨some 139, .bin .gtr (.tmp 138) (.const (.int .i64 (0))), none, [138], []⟩] [0, 1, 5, 7, 8, 10, 11, 12, 139])
(.cond (.tmp 139)
(.reg false [⟨some 140, .mv (.tmp 7), none, [7], []⟩,
    ⟨some 141, .mv (.tmp 10), none, [10], []⟩,
    ⟨some 142, .mv (.tmp 11), none, [11], []⟩,
    ⟨some 143, .mv (.tmp 12), none, [12], []⟩,
    ⟨some 144, .build [(.int .i64 (0)), (.int .i64 (0)), (.slice none 0 0)] [(0, 1, (.tmp 141)), (1, 1, (.tmp 142)), (2, 1, (.tmp 143))], none, [141, 142, 143], []⟩,
    ⟨some 145, .bslice 55 3 1 [(.int .i64 (0)), (.int .i64 (0)), (.slice none 0 0)] [(0, 3, (.tmp 144))], none, [144], []⟩,
    ⟨some 146, .append 55 3 40 (.tmp 140) (.tmp 145), none, [140, 145], []⟩,
    ⟨some 7, .mv (.tmp 146), none, [146], []⟩] [0, 1, 5, 7, 8])
.skip))))))))
def inc_11 : AC :=
(.reg false [⟨some 51, .mv (.tmp 8), none, [8], []⟩,
    ⟨some 52, .bin .add (.tmp 51) (.const (.int .i64 (1))), none, [51], []⟩,
    ⟨some 8, .mv (.tmp 52), none, [52], []⟩] [0, 1, 5, 7, 8])
def ac_11 : AC :=
(.seq (.reg false [⟨some 4, .mv (.const (.bool false)), none, [], []⟩] [0, 1])
(.seq (.seq (.reg false [⟨some 28, .call 28 [], none, [], []⟩,
    ⟨some 29, .un .not (.tmp 28), none, [28], []⟩] [0, 1, 29])
(.cond (.tmp 29)
(.seq (.reg false [⟨some 4, .mv (.const (.bool false)), none, [], []⟩] [4])
.ret)
.skip))
(.seq (.reg false [⟨some 30, .mv (.tmp 0), none, [0], []⟩,
    ⟨some 31, .bin .rem (.tmp 30) (.const (.int .i64 (12))), none, [30], []⟩,
    ⟨some 32, .bin .add (.tmp 31) (.const (.int .i64 (12))), none, [31], []⟩,
    ⟨some 33, .bin .rem (.tmp 32) (.const (.int .i64 (12))), none, [32], []⟩,
    ⟨some 34, .bin .add (.const (.int .i64 (1))) (.tmp 33), none, [33], []⟩,
    ⟨some 0, .mv (.tmp 34), none, [34], []⟩] [0, 1])
(.seq (.reg false [⟨some 36, .mv (.tmp 0), none, [0], []⟩,
    ⟨some 37, .call 47 [(.tmp 36)], none, [36], []⟩,
    ⟨some 35, .mv (.tmp 37), none, [37], []⟩,
    ⟨some 38, .ext 0 (.tmp 35), none, [35], []⟩,
    ⟨some 39, .ext 1 (.tmp 35), none, [35], []⟩,
    ⟨some 5, .new 36 [(.slice none 0 0), (.slice none 0 0), (.slice none 0 0), (.int .i64 (0))], none, [], []⟩,
    ⟨none, .store 4 (.tmp 5) (.tmp 38), none, [5, 38], []⟩,
    ⟨some 6, .mv (.tmp 39), none, [39], []⟩] [0, 1, 5, 6])
(.seq (.seq (.reg false [⟨some 40, .mv (.tmp 6), none, [6], []⟩,
    ⟨some 41, .call 26 [(.tmp 40)], none, [40], []⟩,
    ⟨some 42, .bin .neq (.tmp 41) (.const (.int .i64 (0))), none, [41], []⟩] [0, 1, 5, 42])
(.cond (.tmp 42)
(.seq (.reg false [⟨some 4, .mv (.const (.bool false)), none, [], []⟩] [4])
.ret)
.skip))
(.seq (.reg false [⟨some 7, .mv (.const (.slice none 0 0)), none, [], []⟩] [0, 1, 5, 7])
(.seq (.seq (.reg false [⟨some 8, .mv (.const (.int .i64 (0))), none, [], []⟩] [0, 1, 5, 7, 8])
(.block 0 (.loop (.seq (.seq (.reg false [⟨some 43, .mv (.tmp 8), none, [8], []⟩,
    ⟨some 44, .mv (.tmp 1), none, [1], []⟩,
    ⟨some 45, .len false (.tmp 44), none, [44], []⟩,
    ⟨some 46, .bin .lss (.tmp 43) (.tmp 45), none, [43, 45], []⟩,
    ⟨some 47, .mv (.tmp 46), none, [46], []⟩,
    ⟨some 48, .mv (.tmp 8), some (47, true), [8, 47], []⟩,
    ⟨some 49, .bin .lss (.tmp 48) (.const (.int .i64 (120))), some (47, true), [48, 47], []⟩,
    ⟨some 50, .pick (.tmp 47) (.tmp 49) (.const (.bool false)), none, [47, 49], []⟩] [0, 1, 5, 7, 8, 50])
(.cond (.tmp 50)
.skip
(.exit 0)))
(.seq (.block 1 (.seq (.reg false [⟨some 53, .mv (.tmp 1), none, [1], []⟩,
    ⟨some 54, .mv (.tmp 8), none, [8], []⟩,
    ⟨some 55, .idx 5 (.tmp 53) (.tmp 54), none, [53, 54], []⟩,
    ⟨some 56, .load true 5 (.tmp 55), none, [55], []⟩,
    ⟨some 9, .new 96 [(.int .i64 (0)), (.int .i64 (0)), (.int .i64 (0)), (.slice none 0 0), (.int .i64 (0))], none, [], []⟩,
    ⟨none, .store 5 (.tmp 9) (.tmp 56), none, [9, 56], []⟩] [0, 1, 5, 7, 8, 9])
(.seq (.reg true [⟨some 57, .foff 1 (.tmp 9), none, [9], []⟩,
    ⟨some 58, .load false 1 (.tmp 57), none, [57], [0]⟩,
    ⟨some 59, .bin .rem (.tmp 58) (.const (.int .i64 (3))), none, [58], [1, 0]⟩,
    ⟨some 60, .bin .add (.tmp 59) (.const (.int .i64 (3))), none, [59], [2, 1, 0]⟩,
    ⟨some 61, .bin .rem (.tmp 60) (.const (.int .i64 (3))), none, [60], [3, 2, 1, 0]⟩,
    ⟨some 62, .bin .add (.const (.int .i64 (1))) (.tmp 61), none, [61], [4, 3, 2, 1, 0]⟩,
    ⟨some 63, .foff 2 (.tmp 9), none, [9], []⟩,
    ⟨some 64, .load false 1 (.tmp 63), none, [63], [6]⟩,
    ⟨some 65, .bin .rem (.tmp 64) (.const (.int .i64 (3))), none, [64], [7, 6]⟩,
    ⟨some 66, .bin .add (.tmp 65) (.const (.int .i64 (3))), none, [65], [8, 7, 6]⟩,
    ⟨some 67, .bin .rem (.tmp 66) (.const (.int .i64 (3))), none, [66], [9, 8, 7, 6]⟩,
    ⟨some 10, .mv (.tmp 62), none, [62], [5, 0, 1, 2, 3, 4]⟩,
    ⟨some 11, .mv (.tmp 67), none, [67], [10, 11, 0, 1, 2, 3, 4, 5, 6, 7, 8, 9]⟩] [0, 1, 5, 7, 8, 9, 10, 11])
(.seq (.seq (.reg false [⟨some 68, .foff 0 (.tmp 9), none, [9], []⟩,
    ⟨some 69, .load false 1 (.tmp 68), none, [68], []⟩,
    ⟨some 70, .bin .rem (.tmp 69) (.const (.int .i64 (5))), none, [69], []⟩,
    ⟨some 71, .bin .add (.tmp 70) (.const (.int .i64 (5))), none, [70], []⟩,
    ⟨some 72, .bin .rem (.tmp 71) (.const (.int .i64 (5))), none, [71], []⟩] [0, 1, 5, 7, 8, 9, 10, 11, 72])
(.block 2 (.seq (.seq (.reg false [⟨some 74, .bin .eql (.tmp 72) (.const (.int .i64 (0))), none, [72], []⟩,
    ⟨some 73, .mv (.tmp 74), none, [74], []⟩] [0, 1, 5, 7, 8, 9, 10, 11, 72, 73])
(.cond (.tmp 73)
.skip
(.seq (.reg false [⟨some 75, .bin .eql (.tmp 72) (.const (.int .i64 (1))), none, [72], []⟩,
    ⟨some 73, .mv (.tmp 75), none, [75], []⟩] [0, 1, 5, 7, 8, 9, 10, 11, 72, 73])
(.cond (.tmp 73)
.skip
(.reg false [⟨some 76, .bin .eql (.tmp 72) (.const (.int .i64 (2))), none, [72], []⟩,
    ⟨some 73, .mv (.tmp 76), none, [76], []⟩] [0, 1, 5, 7, 8, 9, 10, 11, 72, 73])))))
(.cond (.tmp 73)
(.seq (.reg false [⟨some 77, .foff 3 (.tmp 9), none, [9], []⟩,
    ⟨some 78, .load false 1 (.tmp 77), none, [77], []⟩,
    ⟨some 79, .foff 3 (.tmp 9), none, [9], []⟩,
    ⟨some 80, .load false 1 (.tmp 79), none, [79], []⟩,
    ⟨some 81, .len false (.tmp 80), none, [80], []⟩,
    ⟨some 82, .mm false (.tmp 81) (.const (.int .i64 (32))), none, [81], []⟩,
    ⟨some 83, .slice 1 (.tmp 78) none (some (.tmp 82)), none, [78, 82], []⟩,
    ⟨some 12, .mv (.tmp 83), none, [83], []⟩] [0, 1, 5, 7, 8, 9, 10, 11, 12])
(.seq (.seq (.reg false [⟨some 84, .foff 0 (.tmp 9), none, [9], []⟩,
    ⟨some 85, .load false 1 (.tmp 84), none, [84], []⟩,
    ⟨some 86, .bin .rem (.tmp 85) (.const (.int .i64 (5))), none, [85], []⟩,
    ⟨some 87, .bin .add (.tmp 86) (.const (.int .i64 (5))), none, [86], []⟩,
    ⟨some 88, .bin .rem (.tmp 87) (.const (.int .i64 (5))), none, [87], []⟩,
    ⟨some 89, .bin .eql (.tmp 88) (.const (.int .i64 (2))), none, [88], []⟩] [0, 1, 5, 7, 8, 10, 11, 12, 89])
(.cond (.tmp 89)
(.reg false [⟨some 12, .mv (.const (.slice none 0 0)), none, [], []⟩] [0, 1, 5, 7, 8, 10, 11, 12])
.skip))
(.weak pt_11)))
(.seq (.reg false [⟨some 148, .bin .eql (.tmp 72) (.const (.int .i64 (3))), none, [72], []⟩,
    ⟨some 147, .mv (.tmp 148), none, [148], []⟩] [0, 1, 5, 7, 8, 9, 72, 147])
(.cond (.tmp 147)
(.seq (.reg false [⟨some 150, .load true 4 (.tmp 5), none, [5], []⟩,
    ⟨some 151, .call 19 [(.tmp 150)], none, [150], []⟩,
    ⟨some 149, .mv (.tmp 151), none, [151], []⟩,
    ⟨some 152, .ext 0 (.tmp 149), none, [149], []⟩,
    ⟨some 153, .ext 1 (.tmp 149), none, [149], []⟩,
    ⟨some 154, .ext 2 (.tmp 149), none, [149], []⟩,
    ⟨some 17, .new 36 [(.slice none 0 0), (.slice none 0 0), (.slice none 0 0), (.int .i64 (0))], none, [], []⟩,
    ⟨none, .store 4 (.tmp 17) (.tmp 152), none, [17, 152], []⟩,
    ⟨some 18, .mv (.tmp 153), none, [153], []⟩,
    ⟨some 19, .mv (.tmp 154), none, [154], []⟩] [0, 1, 5, 7, 8, 17, 19])
(.seq (.reg false [⟨some 155, .mv (.tmp 19), none, [19], []⟩,
    ⟨some 156, .call 26 [(.tmp 155)], none, [155], []⟩,
    ⟨some 157, .bin .eql (.tmp 156) (.const (.int .i64 (0))), none, [156], []⟩] [0, 1, 5, 7, 8, 17, 157])
(.cond (.tmp 157)
(.reg false [⟨some 158, .load true 4 (.tmp 17), none, [17], []⟩,
    ⟨none, .store 4 (.tmp 5) (.tmp 158), none, [5, 158], []⟩] [0, 1, 5, 7, 8])
.skip)))
(.seq (.reg false [⟨some 160, .bin .eql (.tmp 72) (.const (.int .i64 (4))), none, [72], []⟩,
    ⟨some 159, .mv (.tmp 160), none, [160], []⟩] [0, 1, 5, 7, 8, 9, 159])
(.cond (.tmp 159)
(.seq (.reg true [⟨some 162, .load true 4 (.tmp 5), none, [5], []⟩,
    ⟨some 163, .foff 4 (.tmp 9), none, [9], []⟩,
    ⟨some 164, .load false 1 (.tmp 163), none, [163], [1]⟩,
    ⟨some 165, .mv (.tmp 0), none, [0], []⟩,
    ⟨some 166, .bin .rem (.tmp 164) (.tmp 165), none, [164, 165], [2, 3, 1]⟩,
    ⟨some 167, .mv (.tmp 0), none, [0], []⟩,
    ⟨some 168, .bin .add (.tmp 166) (.tmp 167), none, [166, 167], [4, 5, 2, 3, 1]⟩,
    ⟨some 169, .mv (.tmp 0), none, [0], []⟩,
    ⟨some 170, .bin .rem (.tmp 168) (.tmp 169), none, [168, 169], [6, 7, 4, 5, 2, 3, 1]⟩,
    ⟨some 171, .call 23 [(.tmp 162), (.tmp 170)], none, [162, 170], [0, 8, 6, 7, 4, 5, 2, 3, 1]⟩,
    ⟨some 161, .mv (.tmp 171), none, [171], [9, 0, 8, 6, 7, 4, 5, 2, 3, 1]⟩,
    ⟨some 172, .ext 0 (.tmp 161), none, [161], [10, 9, 0, 8, 6, 7, 4, 5, 2, 3, 1]⟩,
    ⟨some 173, .ext 1 (.tmp 161), none, [161], [10, 9, 0, 8, 6, 7, 4, 5, 2, 3, 1]⟩,
    ⟨some 20, .new 36 [(.slice none 0 0), (.slice none 0 0), (.slice none 0 0), (.int .i64 (0))], none, [], []⟩,
    ⟨none, .store 4 (.tmp 20) (.tmp 172), none, [20, 172], [13, 11, 9, 0, 1, 2, 3, 4, 5, 6, 7, 8, 10]⟩,
    ⟨some 21, .mv (.tmp 173), none, [173], [12, 14, 0, 1, 2, 3, 4, 5, 6, 7, 8, 9, 10, 11, 13]⟩] [0, 1, 5, 7, 8, 20, 21])
(.seq (.reg false [⟨some 174, .mv (.tmp 21), none, [21], []⟩,
    ⟨some 175, .call 26 [(.tmp 174)], none, [174], []⟩,
    ⟨some 176, .bin .eql (.tmp 175) (.const (.int .i64 (0))), none, [175], []⟩] [0, 1, 5, 7, 8, 20, 176])
(.cond (.tmp 176)
(.reg false [⟨some 177, .load true 4 (.tmp 20), none, [20], []⟩,
    ⟨none, .store 4 (.tmp 5) (.tmp 177), none, [5, 177], []⟩] [0, 1, 5, 7, 8])
.skip)))
.skip))))))))
(.weak tl_11)))))
(.weak inc_11))))))
(.seq (.reg false [⟨some 4, .mv (.const (.bool true)), none, [], []⟩] [4])
.ret))))))))
set_option maxRecDepth 1000000 in
theorem ok_11 : FnOk Try.prog 11 232 ac_11 [.tmp 4] := ⟨Try.f11, Try.func11, by kernel_rfl, by kernel_rfl, by kernel_rfl, by kernel_rfl, by kernel_rfl⟩
end Go.Proofs.Ytfoeddmbhmfjcaa
/- Plain: a log is a map. -/
namespace Go.Proofs.Ytfoeddmbhmfjcaa
open Go.RowKit
structure MapI (s : St) (want : List Blk) (n : Nat) : Prop where
  good : Good s
  ok : okSt s
  len : s.segs.length = n
  nodup : (want.map kindOf).Nodup
  ne : ∀ b ∈ want, b.data ≠ []
  val : ∀ b ∈ want, (lastF s b.own b.idx).d = b.data
  all : ∀ o x, (lastF s o x).d ≠ [] → ∃ b ∈ want, b.own = o ∧ b.idx = x
theorem MapI.length {s : St} {want : List Blk} {n : Nat} (h : MapI s want n) : (allL s).length = want.length := by
  rw [allL, if_pos (chk_t h.good), List.length_map, show want.length = (want.map kindOf).length from by simp]
  refine List.Perm.length_eq ((List.perm_ext_iff_of_nodup (allK_nodup s) h.nodup).2 fun k => ?_)
  rw [mem_allK h.good, neK_d h.good, List.mem_map]
  constructor
  · intro hk
    obtain ⟨b, hb, h1, h2⟩ := h.all _ _ hk
    exact ⟨b, hb, Prod.ext h1 h2⟩
  · rintro ⟨b, hb, rfl⟩
    show (lastF s b.own b.idx).d ≠ []
    rw [h.val b hb]
    exact h.ne b hb
theorem MapI.same {s t : St} {want : List Blk} {n : Nat} (h : MapI s want n) (g : Good t) (ho : okSt t) (hl : t.segs.length = n) (hd : ∀ o x, (lastF t o x).d = (lastF s o x).d) : MapI t want n :=
  ⟨g, ho, hl, h.nodup, h.ne, fun b hb => by rw [hd]; exact h.val b hb, fun o x hk => h.all o x (by rw [← hd]; exact hk)⟩
def notKind (o x : Int) (b : Blk) : Bool := !decide (b.own = o ∧ b.idx = x)
def wantPut (want : List Blk) (b : Blk) : List Blk := want.filter (notKind b.own b.idx) ++ (if b.data = [] then [] else [b])
theorem MapI.put {s : St} {want : List Blk} {n : Nat} (h : MapI s want n) {b : Blk} (hm : mayBlk b = true) (hb : okBlk b) (he : putErr s b = 0) : MapI (putSt s b) (wantPut want b) n := by
  have hd : ∀ o x, (lastF (putSt s b) o x).d = if b.own = o ∧ b.idx = x then b.data else (lastF s o x).d := by
    intro o x
    rw [last_put he]
    split <;> rfl
  have hmem : ∀ c, c ∈ wantPut want b ↔ (c ∈ want ∧ ¬ (c.own = b.own ∧ c.idx = b.idx)) ∨ (c = b ∧ b.data ≠ []) := by
    intro c
    unfold wantPut
    rw [List.mem_append, List.mem_filter, show notKind b.own b.idx c = true ↔ ¬ (c.own = b.own ∧ c.idx = b.idx) from by unfold notKind; simp only [Bool.not_eq_true', decide_eq_false_iff_not]]
    by_cases hz : b.data = []
    · simp [hz]
    · simp [hz]
  refine ⟨good_put h.good hm he, okSt_put h.ok hb, by rw [putSt_ok he]; exact h.len, ?_, ?_, ?_, ?_⟩
  · unfold wantPut
    rw [List.map_append, List.nodup_append]
    refine ⟨h.nodup.sublist (List.filter_sublist.map _), ?_, fun k hk j hj => ?_⟩
    · split <;> simp
    · split at hj
      · simp at hj
      · simp only [List.map_cons, List.map_nil, List.mem_singleton] at hj
        subst hj
        obtain ⟨c, hc, rfl⟩ := List.mem_map.1 hk
        have := (List.mem_filter.1 hc).2
        unfold notKind at this
        simp only [Bool.not_eq_true', decide_eq_false_iff_not] at this
        intro e
        exact this ⟨congrArg Prod.fst e, congrArg Prod.snd e⟩
  · intro c hc
    rcases (hmem c).1 hc with ⟨h1, _⟩ | ⟨rfl, h2⟩
    · exact h.ne c h1
    · exact h2
  · intro c hc
    rw [hd]
    rcases (hmem c).1 hc with ⟨h1, h2⟩ | ⟨rfl, h2⟩
    · rw [if_neg (fun e => h2 ⟨e.1.symm, e.2.symm⟩)]
      exact h.val c h1
    · rw [if_pos ⟨rfl, rfl⟩]
  · intro o x hk
    rw [hd] at hk
    split at hk
    · rename_i e
      exact ⟨b, (hmem b).2 (.inr ⟨rfl, hk⟩), e⟩
    · rename_i e
      obtain ⟨c, hc, h1, h2⟩ := h.all o x hk
      exact ⟨c, (hmem c).2 (.inl ⟨hc, fun e2 => e ⟨e2.1.symm.trans h1, e2.2.symm.trans h2⟩⟩), h1, h2⟩
theorem MapI.sealed {s : St} {want : List Blk} {n : Nat} (h : MapI s want n) (he : slErr s = 0) : MapI (slSt s) want n := by
  refine h.same (good_seal h.good he) (okSt_seal h.ok) ?_ (fun o x => by rw [last_seal h.good he])
  obtain ⟨_, _, _, k, _, _, e⟩ := sl_facts he
  rw [e]; unfold sealSt; simp only [List.length_set]; exact h.len
theorem MapI.free {s : St} {want : List Blk} {n : Nat} (h : MapI s want n) {slot : Int} (he : frErr s slot = 0) : MapI (frSt s slot) want n := by
  have h1 : liveErr s slot = 0 := by
    apply Classical.byContradiction
    intro h7
    unfold frErr at he
    rw [if_neg h7] at he
    exact h7 he
  have h2 : liveL s slot = [] := by
    apply Classical.byContradiction
    intro h8
    unfold frErr at he
    rw [if_pos h1, if_neg h8] at he
    cases he
  obtain ⟨g, k, x, rfl, hx, _, e⟩ := slot_live h1
  have e2 : frSt s k = freeSt s k := by unfold frSt; rw [if_pos he, Int.toNat_natCast]
  have hok := okSt_free (slot := k) h.ok
  rw [e2] at hok ⊢
  exact h.same (good_free g) hok (by unfold freeSt; simp only [List.length_set]; exact h.len) (free_last g hx (by rw [← e]; exact h2))
theorem good_new {n : Nat} (h1 : 1 ≤ n) (h2 : n ≤ 64) : Good (newSt n) := by
  have hf : ∀ (i : Nat) (x : Sg), (newSt n).segs[i]? = some x → freeB x = true := by
    intro i x hx
    have := List.eq_of_mem_replicate (List.mem_of_getElem? hx)
    subst this
    rfl
  refine ⟨?_, ?_, ?_, ?_, ?_, ?_, ?_, fun i x hx hfx => ?_, fun i j x y hx _ hfx => ?_⟩
  · simp [newSt]; exact h1
  · simp [newSt]; exact h2
  · simp [newSt]
  · simp [newSt]
  · simp [newSt]
  · simp [newSt]
  · simp [newSt]
  · rw [hf i x hx] at hfx; cases hfx
  · rw [hf i x hx] at hfx; cases hfx
theorem mapI_new {n : Nat} (h1 : 1 ≤ n) (h2 : n ≤ 64) : MapI (newSt n) [] n := by
  refine ⟨good_new h1 h2, okSt_new h2, by simp [newSt], by simp, by simp, by simp, fun o x hk => ?_⟩
  have hl := lst_last (good_new h1 h2) o x
  by_cases h0 : (lastF (newSt n) o x).n = 0
  · rw [(hl.none h0).1] at hk; exact absurd rfl hk
  · obtain ⟨q, j, b, e1, _⟩ := hl.mem h0
    rcases e1 with ⟨i, y, h3, _, h5⟩ | ⟨_, h5⟩
    · have := List.eq_of_mem_replicate (List.mem_of_getElem? h3)
      subst this
      simp at h5
    · simp [newSt] at h5
theorem MapI.got {s : St} {want : List Blk} {n : Nat} (h : MapI s want n) {b : Blk} (hb : b ∈ want) : getB s b.own b.idx = b.data := by
  rw [getB_ver (chk_t h.good), ← h.val b hb, la_d h.good (b.own, b.idx)]
theorem mod_facts (a : Int) {m : Int} (h0 : 0 < m) (h1 : m ≤ 1000) : ∃ r : Int, IntKind.i64.wrap (a.tmod m + m) = a.tmod m + m ∧ (a.tmod m + m).tmod m = r ∧ 0 ≤ r ∧ r < m ∧ IntKind.i64.wrap (1 + r) = 1 + r := by
  have b1 := Int.tmod_lt_of_pos a h0
  have b2 := Int.lt_tmod_of_pos a h0
  have c0 : 0 ≤ a.tmod m + m := by omega
  have c1 := Int.tmod_lt_of_pos (a.tmod m + m) h0
  have c2 := Int.tmod_nonneg m c0
  exact ⟨_, wrap64 (by omega), rfl, c2, c1, wrap64 (by omega)⟩
end Go.Proofs.Ytfoeddmbhmfjcaa
/- LogMap: the tail of a round, and a put. -/
namespace Go.Proofs.Ytfoeddmbhmfjcaa
open Go.RowKit
set_option maxRecDepth 100000
structure Stp where
  what : Int
  own : Int
  idx : Int
  data : List Int
  n : Int
def eStp (fr : Bool) (x : Stp) : List AV := [.v (.int .i64 x.what), .v (.int .i64 x.own), .v (.int .i64 x.idx), fB fr x.data, .v (.int .i64 x.n)]
def eStps (fr : Bool) (l : List Stp) : List AV := l.flatMap (eStp fr)
def fStps (fr : Bool) (l : List Stp) : AV := .fs fr (eStps fr l) l.length
abbrev M_lm (fr : Bool) (n : Nat) (l : List Stp) (s : St) (want : List Blk) (i : Nat) (nx : Nat) : ASt := ⟨envOf [(0, .v (.int .i64 n)), (1, fStps fr l), (5, .op 0 0), (7, .os 1 0 want.length 3), (8, .v (.int .i64 i))],
  heapOf [(0, stRow 36 true s), (1, .row true 55 (eBlks fr want))], nx⟩
abbrev K_lm (fr : Bool) (n : Nat) (l : List Stp) (s : St) (want : List Blk) (i : Nat) (k : Nat) : ASt := ⟨envOf [(0, .v (.int .i64 n)), (1, fStps fr l), (5, .op 0 0), (7, .os 1 0 want.length 3), (8, .v (.int .i64 i)), (24, .v (.int .i64 k))],
  heapOf [(0, stRow 36 true s), (1, .row true 55 (eBlks fr want))], 2⟩
theorem al_Stps {p : Nat → Prop} {fr : Bool} (l : List Stp) : AlL p (eStps fr l) := by
  induction l with
  | nil => trivial
  | cons x l ih => rw [eStps, List.flatMap_cons, AlL_append]; exact ⟨⟨trivial, trivial, trivial, al_B _, trivial, trivial⟩, ih⟩
theorem ren_Stps (f : Nat → Nat) {fr : Bool} (l : List Stp) : renL f (eStps fr l) = eStps fr l := by
  induction l with
  | nil => rfl
  | cons x l ih => rw [eStps, List.flatMap_cons, renL_append]; rw [eStps] at ih; rw [ih]; simp [eStp, renL, ren, fB, ren_B]
theorem mapI_len {s : St} {want : List Blk} {n : Nat} (h : MapI s want n) : want.length ≤ 520 ∧ ∀ b ∈ want, b.data.length ≤ 32 := by
  refine ⟨by rw [← h.length]; exact (allL_len s).1, fun b hb => ?_⟩
  rw [← h.got hb]
  exact getB_len s _ _
set_option maxHeartbeats 2000000 in
theorem tail_lm (fr : Bool) (n : Nat) (l : List Stp) (s : St) (want : List Blk) (i : Nat) (h : MapI s want n) {Q : Exit → ASt → Prop} (hQ : ∀ st, Weak 232 0 st (M_lm fr n l s want i 2) → Q .normal st) : wpC Try.prog 232 0 tl_11 (M_lm fr n l s want i 2) Q := by
  have hc := chk_t h.good
  have hlen := h.length
  obtain ⟨hw1, hw2⟩ := mapI_len h
  simp only [tl_11, M_lm, fStps, SS, boxA, cellsOf, foffA, loadA, ldA, idxA, fldA, binA, binVal, isSh, intVal, lenA, slenA, pickA, storeA, setN, getN, fillA, extA, beqA, eqsA, eqL, isnilA, unA, unVal, convA, nilA, sconvA, b2sA, b2sOf, bytesOf, mmA, srcA, appA, sliceA, lohi, mkslA, envA, ↓reduceIte, Nat.reduceEqDiff, Nat.reduceAdd, Nat.reduceMul, reduceCtorEq, Nat.reduceLeDiff, fB, fBools, fBlks, fSegs, aBlk, aSg, aSt, stRow, List.drop_zero, List.take_succ_cons, List.take_zero, List.take_nil, Nat.mul_one, Nat.one_mul, List.cons_append, List.nil_append]
  refine ⟨_, logAll_A true s _ h.ok, ?_⟩
  rw [hc]
  simp only [show errOf true = 0 from rfl, SS, boxA, cellsOf, foffA, loadA, ldA, idxA, fldA, binA, binVal, isSh, intVal, lenA, slenA, pickA, storeA, setN, getN, fillA, extA, beqA, eqsA, eqL, isnilA, unA, unVal, convA, nilA, sconvA, b2sA, b2sOf, bytesOf, mmA, srcA, appA, sliceA, lohi, mkslA, envA, ↓reduceIte, Nat.reduceEqDiff, Nat.reduceAdd, Nat.reduceMul, reduceCtorEq, Nat.reduceLeDiff, fB, fBools, fBlks, fSegs, aBlk, aSg, aSt, stRow, List.drop_zero, List.take_succ_cons, List.take_zero, List.take_nil, Nat.mul_one, Nat.one_mul, List.cons_append, List.nil_append]
  refine ⟨_, num15_spec 0 _, ?_⟩
  simp only [hlen, not_true, SS, boxA, cellsOf, foffA, loadA, ldA, idxA, fldA, binA, binVal, isSh, intVal, lenA, slenA, pickA, storeA, setN, getN, fillA, extA, beqA, eqsA, eqL, isnilA, unA, unVal, convA, nilA, sconvA, b2sA, b2sOf, bytesOf, mmA, srcA, appA, sliceA, lohi, mkslA, envA, ↓reduceIte, Nat.reduceEqDiff, Nat.reduceAdd, Nat.reduceMul, reduceCtorEq, Nat.reduceLeDiff, fB, fBools, fBlks, fSegs, aBlk, aSg, aSt, stRow, List.drop_zero, List.take_succ_cons, List.take_zero, List.take_nil, Nat.mul_one, Nat.one_mul, List.cons_append, List.nil_append]
  refine AWc.family (K_lm fr n l s want i) (fun k => k ≤ want.length) (fun k => want.length - k) 0 (Nat.zero_le _) ?_ ?_
  · refine Weak.calc [(0, 0), (1, 1)] (by decide) ?_ ?_ <;> simp [tk_B, tk_Bools, tk_Blks, tk_Segs, AlL_append, renL_append, okL, okH, rowIs, okV, okHV, rowVt, vtL, okF, okHF, rowFz, fzL, fzV, fzOne, nilLike, oldLike, rn, s_envOf, s_envOf0, s_heapOf, s_heapOf0, s_put, s_put0, s_put1, s_app0, s_app1, Al, AlL, ren, renL, al_B, al_Bools, al_Blks, al_Segs, ren_B, ren_Bools, ren_Blks, ren_Segs, fB, fBools, fBlks, fSegs, fStps, al_Stps, ren_Stps]
  · intro k hk
    by_cases hlt : k < want.length
    · obtain ⟨b, hb, e1, e0⟩ := lt_at hlt
      obtain ⟨b0, b1, b2, b3⟩ := get_Blks3 (fr := fr) hb
      have hbm := List.mem_of_getElem? hb
      have hbd := hw2 b hbm
      have hne := h.ne b hbm
      have hpos : 0 < b.data.length := List.length_pos_iff.2 hne
      simp only [K_lm, fStps, b0, b1, b2, b3, e1, e0, len_Blks, SS, boxA, cellsOf, foffA, loadA, ldA, idxA, fldA, binA, binVal, isSh, intVal, lenA, slenA, pickA, storeA, setN, getN, fillA, extA, beqA, eqsA, eqL, isnilA, unA, unVal, convA, nilA, sconvA, b2sA, b2sOf, bytesOf, mmA, srcA, appA, sliceA, lohi, mkslA, envA, ↓reduceIte, Nat.reduceEqDiff, Nat.reduceAdd, Nat.reduceMul, reduceCtorEq, Nat.reduceLeDiff, fB, fBools, fBlks, fSegs, aBlk, aSg, aSt, stRow, List.drop_zero, List.take_succ_cons, List.take_zero, List.take_nil, Nat.mul_one, Nat.one_mul, List.cons_append, List.nil_append]
      refine ⟨_, logGet_A true s b.own b.idx _ h.ok, ?_⟩
      rw [getIs, h.got hbm, hc, show decide (0 < b.data.length) = true from decide_eq_true hpos]
      simp only [show errOf true = 0 from rfl, SS, boxA, cellsOf, foffA, loadA, ldA, idxA, fldA, binA, binVal, isSh, intVal, lenA, slenA, pickA, storeA, setN, getN, fillA, extA, beqA, eqsA, eqL, isnilA, unA, unVal, convA, nilA, sconvA, b2sA, b2sOf, bytesOf, mmA, srcA, appA, sliceA, lohi, mkslA, envA, ↓reduceIte, Nat.reduceEqDiff, Nat.reduceAdd, Nat.reduceMul, reduceCtorEq, Nat.reduceLeDiff, fB, fBools, fBlks, fSegs, aBlk, aSg, aSt, stRow, List.drop_zero, List.take_succ_cons, List.take_zero, List.take_nil, Nat.mul_one, Nat.one_mul, List.cons_append, List.nil_append]
      refine ⟨by rfl, _, num15_spec 0 _, ?_⟩
      simp only [b2, b3, e1, e0, not_true, SS, boxA, cellsOf, foffA, loadA, ldA, idxA, fldA, binA, binVal, isSh, intVal, lenA, slenA, pickA, storeA, setN, getN, fillA, extA, beqA, eqsA, eqL, isnilA, unA, unVal, convA, nilA, sconvA, b2sA, b2sOf, bytesOf, mmA, srcA, appA, sliceA, lohi, mkslA, envA, ↓reduceIte, Nat.reduceEqDiff, Nat.reduceAdd, Nat.reduceMul, reduceCtorEq, Nat.reduceLeDiff, fB, fBools, fBlks, fSegs, aBlk, aSg, aSt, stRow, List.drop_zero, List.take_succ_cons, List.take_zero, List.take_nil, Nat.mul_one, Nat.one_mul, List.cons_append, List.nil_append]
      refine ⟨_, sameBytes_spec true fr b.data b.data _ (by omega), ?_⟩
      simp only [SS, boxA, cellsOf, foffA, loadA, ldA, idxA, fldA, binA, binVal, isSh, intVal, lenA, slenA, pickA, storeA, setN, getN, fillA, extA, beqA, eqsA, eqL, isnilA, unA, unVal, convA, nilA, sconvA, b2sA, b2sOf, bytesOf, mmA, srcA, appA, sliceA, lohi, mkslA, envA, ↓reduceIte, Nat.reduceEqDiff, Nat.reduceAdd, Nat.reduceMul, reduceCtorEq, Nat.reduceLeDiff, fB, fBools, fBlks, fSegs, aBlk, aSg, aSt, stRow, List.drop_zero, List.take_succ_cons, List.take_zero, List.take_nil, Nat.mul_one, Nat.one_mul, List.cons_append, List.nil_append]
      rw [if_neg (by simp)]
      refine famC_next (k + 1) (by omega) (by omega) ?_
      refine Weak.calc [(0, 0), (1, 1)] (by decide) ?_ ?_ <;> simp [tk_B, tk_Bools, tk_Blks, tk_Segs, AlL_append, renL_append, okL, okH, rowIs, okV, okHV, rowVt, vtL, okF, okHF, rowFz, fzL, fzV, fzOne, nilLike, oldLike, rn, s_envOf, s_envOf0, s_heapOf, s_heapOf0, s_put, s_put0, s_put1, s_app0, s_app1, Al, AlL, ren, renL, al_B, al_Bools, al_Blks, al_Segs, ren_B, ren_Bools, ren_Blks, ren_Segs, fB, fBools, fBlks, fSegs, fStps, al_Stps, ren_Stps, wrap64 (x := (k : Int) + 1) (by omega)]
    · have e1 : ¬ ((k : Int) < (want.length : Int)) := by omega
      simp only [K_lm, fStps, e1, SS, boxA, cellsOf, foffA, loadA, ldA, idxA, fldA, binA, binVal, isSh, intVal, lenA, slenA, pickA, storeA, setN, getN, fillA, extA, beqA, eqsA, eqL, isnilA, unA, unVal, convA, nilA, sconvA, b2sA, b2sOf, bytesOf, mmA, srcA, appA, sliceA, lohi, mkslA, envA, ↓reduceIte, Nat.reduceEqDiff, Nat.reduceAdd, Nat.reduceMul, reduceCtorEq, Nat.reduceLeDiff, fB, fBools, fBlks, fSegs, aBlk, aSg, aSt, stRow, List.drop_zero, List.take_succ_cons, List.take_zero, List.take_nil, Nat.mul_one, Nat.one_mul, List.cons_append, List.nil_append]
      refine hQ _ (Weak.calc [(0, 0), (1, 1)] (by decide) ?_ ?_) <;> simp [tk_B, tk_Bools, tk_Blks, tk_Segs, AlL_append, renL_append, okL, okH, rowIs, okV, okHV, rowVt, vtL, okF, okHF, rowFz, fzL, fzV, fzOne, nilLike, oldLike, rn, s_envOf, s_envOf0, s_heapOf, s_heapOf0, s_put, s_put0, s_put1, s_app0, s_app1, Al, AlL, ren, renL, al_B, al_Bools, al_Blks, al_Segs, ren_B, ren_Bools, ren_Blks, ren_Segs, fB, fBools, fBlks, fSegs, fStps, al_Stps, ren_Stps]
abbrev P_lm (fr : Bool) (n : Nat) (l : List Stp) (s : St) (want : List Blk) (i : Nat) (o x : Int) (d : List Int) (nx : Nat) : ASt := ⟨envOf [(0, .v (.int .i64 n)), (1, fStps fr l), (5, .op 0 0), (7, .os 1 0 want.length 3), (8, .v (.int .i64 i)), (10, .v (.int .i64 o)), (11, .v (.int .i64 x)), (12, fB fr d)],
  heapOf [(0, stRow 36 true s), (1, .row true 55 (eBlks fr want))], nx⟩
abbrev W_lm (fr : Bool) (n : Nat) (l : List Stp) (s : St) (want : List Blk) (i : Nat) (o x : Int) (d : List Int) (k : Nat) : ASt := ⟨envOf [(0, .v (.int .i64 n)), (1, fStps fr l), (5, .op 0 0), (7, .os 1 0 want.length 3), (8, .v (.int .i64 i)), (10, .v (.int .i64 o)), (11, .v (.int .i64 x)), (12, fB fr d),
    (15, .os 2 0 ((want.take k).filter (notKind o x)).length 3), (16, .v (.int .i64 k))],
  heapOf [(0, stRow 36 true s), (1, .row true 55 (eBlks fr want)), (2, .row true 55 (eBlks fr ((want.take k).filter (notKind o x))))], 3⟩
set_option maxHeartbeats 2000000 in
theorem put_lm (fr : Bool) (n : Nat) (l : List Stp) (s : St) (want : List Blk) (i : Nat) (o x : Int) (d : List Int) (h : MapI s want n) (hm : mayBlk ⟨o, x, d⟩ = true) (hb : okBlk ⟨o, x, d⟩) {Q : Exit → ASt → Prop} (hC : ∀ st, Weak 232 0 st (M_lm fr n l s want i 2) → Q (.exit 1) st)
    (hQ : ∀ st s' want', MapI s' want' n → Weak 232 0 st (M_lm fr n l s' want' i 2) → Q .normal st) : wpC Try.prog 232 0 pt_11 (P_lm fr n l s want i o x d 2) Q := by
  obtain ⟨hw1, hw2⟩ := mapI_len h
  simp only [pt_11, P_lm, fStps, SS, boxA, cellsOf, foffA, loadA, ldA, idxA, fldA, binA, binVal, isSh, intVal, lenA, slenA, pickA, storeA, setN, getN, fillA, extA, beqA, eqsA, eqL, isnilA, unA, unVal, convA, nilA, sconvA, b2sA, b2sOf, bytesOf, mmA, srcA, appA, sliceA, lohi, mkslA, envA, ↓reduceIte, Nat.reduceEqDiff, Nat.reduceAdd, Nat.reduceMul, reduceCtorEq, Nat.reduceLeDiff, fB, fBools, fBlks, fSegs, aBlk, aSg, aSt, stRow, List.drop_zero, List.take_succ_cons, List.take_zero, List.take_nil, Nat.mul_one, Nat.one_mul, List.cons_append, List.nil_append]
  refine ⟨_, logPut_A true fr s ⟨o, x, d⟩ _ h.ok hb, ?_⟩
  simp only [SS, boxA, cellsOf, foffA, loadA, ldA, idxA, fldA, binA, binVal, isSh, intVal, lenA, slenA, pickA, storeA, setN, getN, fillA, extA, beqA, eqsA, eqL, isnilA, unA, unVal, convA, nilA, sconvA, b2sA, b2sOf, bytesOf, mmA, srcA, appA, sliceA, lohi, mkslA, envA, ↓reduceIte, Nat.reduceEqDiff, Nat.reduceAdd, Nat.reduceMul, reduceCtorEq, Nat.reduceLeDiff, fB, fBools, fBlks, fSegs, aBlk, aSg, aSt, stRow, List.drop_zero, List.take_succ_cons, List.take_zero, List.take_nil, Nat.mul_one, Nat.one_mul, List.cons_append, List.nil_append]
  refine ⟨_, num15_spec (putErr s ⟨o, x, d⟩) _, ?_⟩
  simp only [SS, boxA, cellsOf, foffA, loadA, ldA, idxA, fldA, binA, binVal, isSh, intVal, lenA, slenA, pickA, storeA, setN, getN, fillA, extA, beqA, eqsA, eqL, isnilA, unA, unVal, convA, nilA, sconvA, b2sA, b2sOf, bytesOf, mmA, srcA, appA, sliceA, lohi, mkslA, envA, ↓reduceIte, Nat.reduceEqDiff, Nat.reduceAdd, Nat.reduceMul, reduceCtorEq, Nat.reduceLeDiff, fB, fBools, fBlks, fSegs, aBlk, aSg, aSt, stRow, List.drop_zero, List.take_succ_cons, List.take_zero, List.take_nil, Nat.mul_one, Nat.one_mul, List.cons_append, List.nil_append]
  have hpe := put_ok h.good hm
  by_cases he : putErr s ⟨o, x, d⟩ = 0
  · simp only [he, not_true, SS, boxA, cellsOf, foffA, loadA, ldA, idxA, fldA, binA, binVal, isSh, intVal, lenA, slenA, pickA, storeA, setN, getN, fillA, extA, beqA, eqsA, eqL, isnilA, unA, unVal, convA, nilA, sconvA, b2sA, b2sOf, bytesOf, mmA, srcA, appA, sliceA, lohi, mkslA, envA, ↓reduceIte, Nat.reduceEqDiff, Nat.reduceAdd, Nat.reduceMul, reduceCtorEq, Nat.reduceLeDiff, fB, fBools, fBlks, fSegs, aBlk, aSg, aSt, stRow, List.drop_zero, List.take_succ_cons, List.take_zero, List.take_nil, Nat.mul_one, Nat.one_mul, List.cons_append, List.nil_append]
    have hs' := h.put hm hb he
    have hlp : ∀ k, ((want.take k).filter (notKind o x)).length ≤ 520 := fun k => by
      have h1 := List.length_filter_le (notKind o x) (want.take k)
      have h2 : (want.take k).length ≤ want.length := by simp; omega
      omega
    refine AWc.family (W_lm fr n l (putSt s ⟨o, x, d⟩) want i o x d) (fun k => k ≤ want.length) (fun k => want.length - k) 0 (Nat.zero_le _) ?_ ?_
    · refine Weak.trans (Weak.virtC 55 3 (l := [(0, .v (.int .i64 n)), (1, fStps fr l), (5, .op 0 0), (7, .os 1 0 want.length 3), (8, .v (.int .i64 i)), (10, .v (.int .i64 o)), (11, .v (.int .i64 x)), (12, fB fr d), (15, .os 1218 0 0 3), (16, .v (.int .i64 0))])
        (h := [(0, stRow 36 true (putSt s ⟨o, x, d⟩)), (1, .row true 55 (eBlks fr want))]) ?_ ?_) (Weak.calc [(0, 0), (1, 1), (1218, 2)] (by decide) ?_ ?_)
      all_goals simp [show eBlks fr [] = [] from rfl, tk_B, tk_Bools, tk_Blks, tk_Segs, AlL_append, renL_append, okL, okH, rowIs, okV, okHV, rowVt, vtL, okF, okHF, rowFz, fzL, fzV, fzOne, nilLike, oldLike, rn, s_envOf, s_envOf0, s_heapOf, s_heapOf0, s_put, s_put0, s_put1, s_app0, s_app1, Al, AlL, ren, renL, al_B, al_Bools, al_Blks, al_Segs, ren_B, ren_Bools, ren_Blks, ren_Segs, fB, fBools, fBlks, fSegs, fStps, al_Stps, ren_Stps]
    · intro k hk
      by_cases hlt : k < want.length
      · obtain ⟨b, hbk, e1, e0⟩ := lt_at hlt
        obtain ⟨b0, b1, b2, b3⟩ := get_Blks3 (fr := fr) hbk
        have hl3 := hlp k
        have hstep : (want.take (k + 1)).filter (notKind o x) = if notKind o x b = true then (want.take k).filter (notKind o x) ++ [b] else (want.take k).filter (notKind o x) := by
          obtain ⟨hkl, rfl⟩ := List.getElem?_eq_some_iff.1 hbk
          rw [List.take_succ_eq_append_getElem hkl, List.filter_append]
          cases hn : notKind o x want[k] <;> simp [hn]
        have app : notKind o x b = true → ∀ r, eBlks fr ((want.take k).filter (notKind o x)) ++ [.v (.int .i64 b.own), .v (.int .i64 b.idx), .fs fr (eB b.data) b.data.length] = r → r = eBlks fr ((want.take (k + 1)).filter (notKind o x)) := by
          rintro hn r rfl
          rw [hstep, if_pos hn]; simp [eBlks, eBlk, fB]
        simp only [W_lm, fStps, b0, b1, b2, b3, e1, e0, len_Blks, SS, boxA, cellsOf, foffA, loadA, ldA, idxA, fldA, binA, binVal, isSh, intVal, lenA, slenA, pickA, storeA, setN, getN, fillA, extA, beqA, eqsA, eqL, isnilA, unA, unVal, convA, nilA, sconvA, b2sA, b2sOf, bytesOf, mmA, srcA, appA, sliceA, lohi, mkslA, envA, ↓reduceIte, Nat.reduceEqDiff, Nat.reduceAdd, Nat.reduceMul, reduceCtorEq, Nat.reduceLeDiff, fB, fBools, fBlks, fSegs, aBlk, aSg, aSt, stRow, List.drop_zero, List.take_succ_cons, List.take_zero, List.take_nil, Nat.mul_one, Nat.one_mul, List.cons_append, List.nil_append]
        refine ite_intro (fun c1 => ?_) (fun c1 => ?_)
        · refine ite_intro (fun c2 => ?_) (fun c2 => ?_)
          · have hn : notKind o x b = true := by unfold notKind; simp [c2]
            rw [if_pos (by omega)]
            refine famC_next (k + 1) (by omega) (by omega) ?_
            rw [app hn _ rfl]
            refine Weak.calc [(0, 0), (1, 1), (1667, 2)] (by decide) ?_ ?_
            · rw [hstep, if_pos hn]; simp [tk_B, tk_Bools, tk_Blks, tk_Segs, AlL_append, renL_append, okL, okH, rowIs, okV, okHV, rowVt, vtL, okF, okHF, rowFz, fzL, fzV, fzOne, nilLike, oldLike, rn, s_envOf, s_envOf0, s_heapOf, s_heapOf0, s_put, s_put0, s_put1, s_app0, s_app1, Al, AlL, ren, renL, al_B, al_Bools, al_Blks, al_Segs, ren_B, ren_Bools, ren_Blks, ren_Segs, fB, fBools, fBlks, fSegs, fStps, al_Stps, ren_Stps, wrap64 (x := (k : Int) + 1) (by omega)]
            · simp [tk_B, tk_Bools, tk_Blks, tk_Segs, AlL_append, renL_append, okL, okH, rowIs, okV, okHV, rowVt, vtL, okF, okHF, rowFz, fzL, fzV, fzOne, nilLike, oldLike, rn, s_envOf, s_envOf0, s_heapOf, s_heapOf0, s_put, s_put0, s_put1, s_app0, s_app1, Al, AlL, ren, renL, al_B, al_Bools, al_Blks, al_Segs, ren_B, ren_Bools, ren_Blks, ren_Segs, fB, fBools, fBlks, fSegs]
          · have hn : notKind o x b = false := by unfold notKind; simp at c2; simp [c1, c2]
            refine famC_next (k + 1) (by omega) (by omega) ?_
            have e : (want.take (k + 1)).filter (notKind o x) = (want.take k).filter (notKind o x) := by rw [hstep, if_neg (by rw [hn]; decide)]
            refine Weak.calc [(0, 0), (1, 1), (2, 2)] (by decide) ?_ ?_
            · rw [e]; simp [tk_B, tk_Bools, tk_Blks, tk_Segs, AlL_append, renL_append, okL, okH, rowIs, okV, okHV, rowVt, vtL, okF, okHF, rowFz, fzL, fzV, fzOne, nilLike, oldLike, rn, s_envOf, s_envOf0, s_heapOf, s_heapOf0, s_put, s_put0, s_put1, s_app0, s_app1, Al, AlL, ren, renL, al_B, al_Bools, al_Blks, al_Segs, ren_B, ren_Bools, ren_Blks, ren_Segs, fB, fBools, fBlks, fSegs, fStps, al_Stps, ren_Stps, wrap64 (x := (k : Int) + 1) (by omega)]
            · rw [e]; simp [tk_B, tk_Bools, tk_Blks, tk_Segs, AlL_append, renL_append, okL, okH, rowIs, okV, okHV, rowVt, vtL, okF, okHF, rowFz, fzL, fzV, fzOne, nilLike, oldLike, rn, s_envOf, s_envOf0, s_heapOf, s_heapOf0, s_put, s_put0, s_put1, s_app0, s_app1, Al, AlL, ren, renL, al_B, al_Bools, al_Blks, al_Segs, ren_B, ren_Bools, ren_Blks, ren_Segs, fB, fBools, fBlks, fSegs]
        · have hn : notKind o x b = true := by unfold notKind; simp [c1]
          rw [if_pos (by omega)]
          refine famC_next (k + 1) (by omega) (by omega) ?_
          rw [app hn _ rfl]
          refine Weak.calc [(0, 0), (1, 1), (1667, 2)] (by decide) ?_ ?_
          · rw [hstep, if_pos hn]; simp [tk_B, tk_Bools, tk_Blks, tk_Segs, AlL_append, renL_append, okL, okH, rowIs, okV, okHV, rowVt, vtL, okF, okHF, rowFz, fzL, fzV, fzOne, nilLike, oldLike, rn, s_envOf, s_envOf0, s_heapOf, s_heapOf0, s_put, s_put0, s_put1, s_app0, s_app1, Al, AlL, ren, renL, al_B, al_Bools, al_Blks, al_Segs, ren_B, ren_Bools, ren_Blks, ren_Segs, fB, fBools, fBlks, fSegs, fStps, al_Stps, ren_Stps, wrap64 (x := (k : Int) + 1) (by omega)]
          · simp [tk_B, tk_Bools, tk_Blks, tk_Segs, AlL_append, renL_append, okL, okH, rowIs, okV, okHV, rowVt, vtL, okF, okHF, rowFz, fzL, fzV, fzOne, nilLike, oldLike, rn, s_envOf, s_envOf0, s_heapOf, s_heapOf0, s_put, s_put0, s_put1, s_app0, s_app1, Al, AlL, ren, renL, al_B, al_Bools, al_Blks, al_Segs, ren_B, ren_Bools, ren_Blks, ren_Segs, fB, fBools, fBlks, fSegs]
      · have e1 : ¬ ((k : Int) < (want.length : Int)) := by omega
        obtain rfl : k = want.length := by omega
        simp only [W_lm, fStps, e1, SS, boxA, cellsOf, foffA, loadA, ldA, idxA, fldA, binA, binVal, isSh, intVal, lenA, slenA, pickA, storeA, setN, getN, fillA, extA, beqA, eqsA, eqL, isnilA, unA, unVal, convA, nilA, sconvA, b2sA, b2sOf, bytesOf, mmA, srcA, appA, sliceA, lohi, mkslA, envA, ↓reduceIte, Nat.reduceEqDiff, Nat.reduceAdd, Nat.reduceMul, reduceCtorEq, Nat.reduceLeDiff, fB, fBools, fBlks, fSegs, aBlk, aSg, aSt, stRow, List.drop_zero, List.take_succ_cons, List.take_zero, List.take_nil, Nat.mul_one, Nat.one_mul, List.cons_append, List.nil_append]
        have hl3 := hlp want.length
        rw [List.take_length] at hl3 ⊢
        refine ite_intro (fun c1 => ?_) (fun c1 => ?_)
        · rw [if_pos ⟨len_Blks .., by omega⟩]
          have hne : d ≠ [] := List.length_pos_iff.1 (by omega)
          have hwp : wantPut want ⟨o, x, d⟩ = want.filter (notKind o x) ++ [⟨o, x, d⟩] := by unfold wantPut; rw [if_neg hne]
          have hrow : eBlks fr (want.filter (notKind o x)) ++ [.v (.int .i64 o), .v (.int .i64 x), .fs fr (eB d) d.length] = eBlks fr (wantPut want ⟨o, x, d⟩) := by rw [hwp]; simp [eBlks, eBlk, fB]
          rw [hrow]
          refine hQ _ _ _ hs' (Weak.calc [(0, 0), (963, 1)] (by decide) ?_ ?_)
          · rw [hwp]; simp [tk_B, tk_Bools, tk_Blks, tk_Segs, AlL_append, renL_append, okL, okH, rowIs, okV, okHV, rowVt, vtL, okF, okHF, rowFz, fzL, fzV, fzOne, nilLike, oldLike, rn, s_envOf, s_envOf0, s_heapOf, s_heapOf0, s_put, s_put0, s_put1, s_app0, s_app1, Al, AlL, ren, renL, al_B, al_Bools, al_Blks, al_Segs, ren_B, ren_Bools, ren_Blks, ren_Segs, fB, fBools, fBlks, fSegs, fStps, al_Stps, ren_Stps]
          · simp [tk_B, tk_Bools, tk_Blks, tk_Segs, AlL_append, renL_append, okL, okH, rowIs, okV, okHV, rowVt, vtL, okF, okHF, rowFz, fzL, fzV, fzOne, nilLike, oldLike, rn, s_envOf, s_envOf0, s_heapOf, s_heapOf0, s_put, s_put0, s_put1, s_app0, s_app1, Al, AlL, ren, renL, al_B, al_Bools, al_Blks, al_Segs, ren_B, ren_Bools, ren_Blks, ren_Segs, fB, fBools, fBlks, fSegs]
        · have hz : d = [] := List.eq_nil_of_length_eq_zero (by omega)
          have hwp : wantPut want ⟨o, x, d⟩ = want.filter (notKind o x) := by unfold wantPut; rw [if_pos hz, List.append_nil]
          refine hQ _ _ _ hs' (Weak.calc [(0, 0), (2, 1)] (by decide) ?_ ?_)
          · rw [hwp]; simp [tk_B, tk_Bools, tk_Blks, tk_Segs, AlL_append, renL_append, okL, okH, rowIs, okV, okHV, rowVt, vtL, okF, okHF, rowFz, fzL, fzV, fzOne, nilLike, oldLike, rn, s_envOf, s_envOf0, s_heapOf, s_heapOf0, s_put, s_put0, s_put1, s_app0, s_app1, Al, AlL, ren, renL, al_B, al_Bools, al_Blks, al_Segs, ren_B, ren_Bools, ren_Blks, ren_Segs, fB, fBools, fBlks, fSegs, fStps, al_Stps, ren_Stps]
          · rw [hwp]; simp [tk_B, tk_Bools, tk_Blks, tk_Segs, AlL_append, renL_append, okL, okH, rowIs, okV, okHV, rowVt, vtL, okF, okHF, rowFz, fzL, fzV, fzOne, nilLike, oldLike, rn, s_envOf, s_envOf0, s_heapOf, s_heapOf0, s_put, s_put0, s_put1, s_app0, s_app1, Al, AlL, ren, renL, al_B, al_Bools, al_Blks, al_Segs, ren_B, ren_Bools, ren_Blks, ren_Segs, fB, fBools, fBlks, fSegs]
  · have h8 : s.opn.length = 8 := by
      apply Classical.byContradiction
      intro h9
      rw [if_neg h9] at hpe
      exact he hpe
    simp only [he, not_false_eq_true, SS, boxA, cellsOf, foffA, loadA, ldA, idxA, fldA, binA, binVal, isSh, intVal, lenA, slenA, pickA, storeA, setN, getN, fillA, extA, beqA, eqsA, eqL, isnilA, unA, unVal, convA, nilA, sconvA, b2sA, b2sOf, bytesOf, mmA, srcA, appA, sliceA, lohi, mkslA, envA, ↓reduceIte, Nat.reduceEqDiff, Nat.reduceAdd, Nat.reduceMul, reduceCtorEq, Nat.reduceLeDiff, fB, fBools, fBlks, fSegs, aBlk, aSg, aSt, stRow, List.drop_zero, List.take_succ_cons, List.take_zero, List.take_nil, Nat.mul_one, Nat.one_mul, List.cons_append, List.nil_append]
    rw [if_neg (by omega)]
    refine hC _ (Weak.calc [(0, 0), (1, 1)] (by decide) ?_ ?_) <;> simp [tk_B, tk_Bools, tk_Blks, tk_Segs, AlL_append, renL_append, okL, okH, rowIs, okV, okHV, rowVt, vtL, okF, okHF, rowFz, fzL, fzV, fzOne, nilLike, oldLike, rn, s_envOf, s_envOf0, s_heapOf, s_heapOf0, s_put, s_put0, s_put1, s_app0, s_app1, Al, AlL, ren, renL, al_B, al_Bools, al_Blks, al_Segs, ren_B, ren_Bools, ren_Blks, ren_Segs, fB, fBools, fBlks, fSegs, fStps, al_Stps, ren_Stps]
end Go.Proofs.Ytfoeddmbhmfjcaa
/- LogMap. -/
namespace Go.Proofs.Ytfoeddmbhmfjcaa
open Go.RowKit
set_option maxRecDepth 100000
theorem get_Stps {fr : Bool} {l : List Stp} {i : Nat} {x : Stp} (h : l[i]? = some x) : (eStps fr l)[i * 5]? = some (.v (.int .i64 x.what)) ∧ (eStps fr l)[i * 5 + 1]? = some (.v (.int .i64 x.own)) ∧ (eStps fr l)[i * 5 + 1 + 1]? = some (.v (.int .i64 x.idx)) ∧
    (eStps fr l)[i * 5 + 1 + 1 + 1]? = some (fB fr x.data) ∧ (eStps fr l)[i * 5 + 1 + 1 + 1 + 1]? = some (.v (.int .i64 x.n)) :=
  ⟨flat_get (e := eStp fr) (k := 5) (fun _ => rfl) h 0 (by omega), flat_get (e := eStp fr) (k := 5) (fun _ => rfl) h 1 (by omega), flat_get (e := eStp fr) (k := 5) (fun _ => rfl) h 2 (by omega), flat_get (e := eStp fr) (k := 5) (fun _ => rfl) h 3 (by omega), flat_get (e := eStp fr) (k := 5) (fun _ => rfl) h 4 (by omega)⟩
theorem okBytes_take {l : List Int} (h : okBytes l) (k : Nat) : okBytes (l.take k) := by
  have h1 := h.1
  have h2 : (l.take k).length ≤ l.length := by rw [List.length_take]; omega
  exact ⟨by omega, fun x hx => h.2 x (List.mem_of_mem_take hx)⟩
theorem len_Stps {fr : Bool} (l : List Stp) : (eStps fr l).length = l.length * 5 := flat_len (e := eStp fr) (fun _ => rfl) l
set_option maxHeartbeats 4000000 in
theorem logMap_spec (fr : Bool) (n0 : Int) (l : List Stp) (nb : Nat) (hl : l.length < 4611686018427387904) (hok : ∀ x ∈ l, okBytes x.data) : ASound Try.prog 11 [.v (.int .i64 n0), fStps fr l] nb (.ret (.v (.bool true)) []) := by
  refine ok_11.sound (by simp) ⟨trivial, al_Stps l, trivial⟩ ?_
  simp only [ac_11, fStps, SS, boxA, cellsOf, foffA, loadA, ldA, idxA, fldA, binA, binVal, isSh, intVal, lenA, slenA, pickA, storeA, setN, getN, fillA, extA, beqA, eqsA, eqL, isnilA, unA, unVal, convA, nilA, sconvA, b2sA, b2sOf, bytesOf, mmA, srcA, appA, sliceA, lohi, mkslA, envA, ↓reduceIte, Nat.reduceEqDiff, Nat.reduceAdd, Nat.reduceMul, reduceCtorEq, Nat.reduceLeDiff, fB, fBools, fBlks, fSegs, aBlk, aSg, aSt, stRow, List.drop_zero, List.take_succ_cons, List.take_zero, List.take_nil, Nat.mul_one, Nat.one_mul, List.cons_append, List.nil_append]
  refine ⟨_, alive_spec _, ?_⟩
  obtain ⟨r, w1, w2, r0, r1, w3⟩ := mod_facts n0 (m := 12) (by omega) (by omega)
  simp only [w1, w2, w3, Int.reduceEq, SS, boxA, cellsOf, foffA, loadA, ldA, idxA, fldA, binA, binVal, isSh, intVal, lenA, slenA, pickA, storeA, setN, getN, fillA, extA, beqA, eqsA, eqL, isnilA, unA, unVal, convA, nilA, sconvA, b2sA, b2sOf, bytesOf, mmA, srcA, appA, sliceA, lohi, mkslA, envA, ↓reduceIte, Nat.reduceEqDiff, Nat.reduceAdd, Nat.reduceMul, reduceCtorEq, Nat.reduceLeDiff, fB, fBools, fBlks, fSegs, aBlk, aSg, aSt, stRow, List.drop_zero, List.take_succ_cons, List.take_zero, List.take_nil, Nat.mul_one, Nat.one_mul, List.cons_append, List.nil_append]
  obtain ⟨n, hn⟩ : ∃ n : Nat, 1 + r = n := ⟨(1 + r).toNat, by omega⟩
  rw [hn]
  have n1 : 1 ≤ n := by omega
  have n2 : n ≤ 12 := by omega
  refine ⟨_, new_spec n _ n1 (by omega), ?_⟩
  simp only [SS, boxA, cellsOf, foffA, loadA, ldA, idxA, fldA, binA, binVal, isSh, intVal, lenA, slenA, pickA, storeA, setN, getN, fillA, extA, beqA, eqsA, eqL, isnilA, unA, unVal, convA, nilA, sconvA, b2sA, b2sOf, bytesOf, mmA, srcA, appA, sliceA, lohi, mkslA, envA, ↓reduceIte, Nat.reduceEqDiff, Nat.reduceAdd, Nat.reduceMul, reduceCtorEq, Nat.reduceLeDiff, fB, fBools, fBlks, fSegs, aBlk, aSg, aSt, stRow, List.drop_zero, List.take_succ_cons, List.take_zero, List.take_nil, Nat.mul_one, Nat.one_mul, List.cons_append, List.nil_append]
  refine ⟨_, num15_spec 0 _, ?_⟩
  simp only [not_true, SS, boxA, cellsOf, foffA, loadA, ldA, idxA, fldA, binA, binVal, isSh, intVal, lenA, slenA, pickA, storeA, setN, getN, fillA, extA, beqA, eqsA, eqL, isnilA, unA, unVal, convA, nilA, sconvA, b2sA, b2sOf, bytesOf, mmA, srcA, appA, sliceA, lohi, mkslA, envA, ↓reduceIte, Nat.reduceEqDiff, Nat.reduceAdd, Nat.reduceMul, reduceCtorEq, Nat.reduceLeDiff, fB, fBools, fBlks, fSegs, aBlk, aSg, aSt, stRow, List.drop_zero, List.take_succ_cons, List.take_zero, List.take_nil, Nat.mul_one, Nat.one_mul, List.cons_append, List.nil_append]
  refine AWc.family (fun (t : Nat × St × List Blk) => M_lm fr n l t.2.1 t.2.2 t.1 2) (fun t => t.1 ≤ l.length ∧ MapI t.2.1 t.2.2 n) (fun t => l.length - t.1) (0, newSt n, []) ⟨Nat.zero_le _, mapI_new n1 (by omega)⟩ ?_ ?_
  · refine Weak.trans (Weak.virtC 55 3 (l := [(0, .v (.int .i64 n)), (1, fStps fr l), (5, .op 896 0), (7, .os 1408 0 0 3), (8, .v (.int .i64 0))])
      (h := [(896, stRow 36 true (newSt n))]) ?_ ?_) (Weak.calc [(896, 0), (1408, 1)] (by decide) ?_ ?_)
    all_goals simp [show eBlks fr [] = [] from rfl, tk_B, tk_Bools, tk_Blks, tk_Segs, AlL_append, renL_append, okL, okH, rowIs, okV, okHV, rowVt, vtL, okF, okHF, rowFz, fzL, fzV, fzOne, nilLike, oldLike, rn, s_envOf, s_envOf0, s_heapOf, s_heapOf0, s_put, s_put0, s_put1, s_app0, s_app1, Al, AlL, ren, renL, al_B, al_Bools, al_Blks, al_Segs, ren_B, ren_Bools, ren_Blks, ren_Segs, fB, fBools, fBlks, fSegs, fStps, al_Stps, ren_Stps]
  · rintro ⟨i, s, want⟩ ⟨hi, h⟩
    simp only at hi h
    by_cases hlt : i < l.length
    · obtain ⟨x, hx, e1, e0⟩ := lt_at hlt
      obtain ⟨b0, b1, b2, b3, b4⟩ := get_Stps (fr := fr) hx
      by_cases h120 : (i : Int) < 120
      · obtain ⟨ro, o1, o2, o3, o4, o5⟩ := mod_facts x.own (m := 3) (by omega) (by omega)
        obtain ⟨rx, x1, x2, x3, x4, x5⟩ := mod_facts x.idx (m := 3) (by omega) (by omega)
        obtain ⟨rw_, q1, q2, q3, q4, q5⟩ := mod_facts x.what (m := 5) (by omega) (by omega)
        have hmin : (if (32 : Int) < (x.data.length : Int) then (32 : Int) else (x.data.length : Int)) = ((x.data.take 32).length : Int) := by rw [List.length_take]; split <;> omega
        have hmm : (0 : Int) ≤ ((x.data.take 32).length : Int) ∧ ((x.data.take 32).length : Int) ≤ (x.data.length : Int) := by rw [List.length_take]; omega
        have hdl : (x.data.take 32).length ≤ 32 := by rw [List.length_take]; omega
        have htk : (eB x.data).take ((x.data.take 32).length) = eB (x.data.take 32) := by unfold eB; rw [List.map_take, List.take_eq_take_iff, List.length_map, List.length_take]; omega
        rcases (show rw_ = 0 ∨ rw_ = 1 ∨ rw_ = 2 ∨ rw_ = 3 ∨ rw_ = 4 by omega) with rfl | rfl | rfl | rfl | rfl
        · simp only [M_lm, fStps, e1, e0, b0, b1, b2, b3, b4, h120, o1, o2, o5, x1, x2, q1, q2, len_Stps, Int.reduceEq, hmin, hmm, htk, Option.map_some, Option.map_none, lohi, Nat.sub_zero, SS, boxA, cellsOf, foffA, loadA, ldA, idxA, fldA, binA, binVal, isSh, intVal, lenA, slenA, pickA, storeA, setN, getN, fillA, extA, beqA, eqsA, eqL, isnilA, unA, unVal, convA, nilA, sconvA, b2sA, b2sOf, bytesOf, mmA, srcA, appA, sliceA, lohi, mkslA, envA, ↓reduceIte, Nat.reduceEqDiff, Nat.reduceAdd, Nat.reduceMul, reduceCtorEq, Nat.reduceLeDiff, fB, fBools, fBlks, fSegs, aBlk, aSg, aSt, stRow, List.drop_zero, List.take_succ_cons, List.take_zero, List.take_nil, Nat.mul_one, Nat.one_mul, List.cons_append, List.nil_append]
          refine ⟨by rfl, ?_⟩
          refine ⟨P_lm fr n l s want i (1 + ro) rx (x.data.take 32) 2, Weak.calc [(0, 0), (1, 1)] (by decide) ?_ ?_, put_lm fr n l s want i (1 + ro) rx (x.data.take 32) h ?_ ?_ ?_ ?_⟩
          · simp [tk_B, tk_Bools, tk_Blks, tk_Segs, AlL_append, renL_append, okL, okH, rowIs, okV, okHV, rowVt, vtL, okF, okHF, rowFz, fzL, fzV, fzOne, nilLike, oldLike, rn, s_envOf, s_envOf0, s_heapOf, s_heapOf0, s_put, s_put0, s_put1, s_app0, s_app1, Al, AlL, ren, renL, al_B, al_Bools, al_Blks, al_Segs, ren_B, ren_Bools, ren_Blks, ren_Segs, fB, fBools, fBlks, fSegs, fStps, al_Stps, ren_Stps, nilLike, show eB [] = [] from rfl]
          · simp [tk_B, tk_Bools, tk_Blks, tk_Segs, AlL_append, renL_append, okL, okH, rowIs, okV, okHV, rowVt, vtL, okF, okHF, rowFz, fzL, fzV, fzOne, nilLike, oldLike, rn, s_envOf, s_envOf0, s_heapOf, s_heapOf0, s_put, s_put0, s_put1, s_app0, s_app1, Al, AlL, ren, renL, al_B, al_Bools, al_Blks, al_Segs, ren_B, ren_Bools, ren_Blks, ren_Segs, fB, fBools, fBlks, fSegs]
          · exact decide_eq_true (show 1 ≤ 1 + ro ∧ 1 + ro ≤ 2147483647 ∧ 0 ≤ rx ∧ rx ≤ 255 ∧ List.length (x.data.take 32) ≤ 32 from ⟨by omega, by omega, by omega, by omega, by omega⟩)
          · exact ⟨wf64_of (x := 1 + ro) (by omega) (by omega), wf64_of (x := rx) (by omega) (by omega), okBytes_take (hok x (List.mem_of_getElem? hx)) 32⟩
          · intro st hw
            simp only [SS, boxA, cellsOf, foffA, loadA, ldA, idxA, fldA, binA, binVal, isSh, intVal, lenA, slenA, pickA, storeA, setN, getN, fillA, extA, beqA, eqsA, eqL, isnilA, unA, unVal, convA, nilA, sconvA, b2sA, b2sOf, bytesOf, mmA, srcA, appA, sliceA, lohi, mkslA, envA, ↓reduceIte, Nat.reduceEqDiff, Nat.reduceAdd, Nat.reduceMul, reduceCtorEq, Nat.reduceLeDiff, fB, fBools, fBlks, fSegs, aBlk, aSg, aSt, stRow, List.drop_zero, List.take_succ_cons, List.take_zero, List.take_nil, Nat.mul_one, Nat.one_mul, List.cons_append, List.nil_append]
            refine ⟨M_lm fr n l (s) (want) i 2, hw, ?_⟩
            simp only [inc_11, M_lm, fStps, SS, boxA, cellsOf, foffA, loadA, ldA, idxA, fldA, binA, binVal, isSh, intVal, lenA, slenA, pickA, storeA, setN, getN, fillA, extA, beqA, eqsA, eqL, isnilA, unA, unVal, convA, nilA, sconvA, b2sA, b2sOf, bytesOf, mmA, srcA, appA, sliceA, lohi, mkslA, envA, ↓reduceIte, Nat.reduceEqDiff, Nat.reduceAdd, Nat.reduceMul, reduceCtorEq, Nat.reduceLeDiff, fB, fBools, fBlks, fSegs, aBlk, aSg, aSt, stRow, List.drop_zero, List.take_succ_cons, List.take_zero, List.take_nil, Nat.mul_one, Nat.one_mul, List.cons_append, List.nil_append]
            refine famC_next (i + 1, s, want) (by show l.length - (i + 1) < l.length - i; omega) ⟨by show i + 1 ≤ l.length; omega, h⟩ ?_
            refine Weak.calc [(0, 0), (1, 1)] (by decide) ?_ ?_ <;> simp [tk_B, tk_Bools, tk_Blks, tk_Segs, AlL_append, renL_append, okL, okH, rowIs, okV, okHV, rowVt, vtL, okF, okHF, rowFz, fzL, fzV, fzOne, nilLike, oldLike, rn, s_envOf, s_envOf0, s_heapOf, s_heapOf0, s_put, s_put0, s_put1, s_app0, s_app1, Al, AlL, ren, renL, al_B, al_Bools, al_Blks, al_Segs, ren_B, ren_Bools, ren_Blks, ren_Segs, fB, fBools, fBlks, fSegs, fStps, al_Stps, ren_Stps, wrap64 (x := (i : Int) + 1) (by omega)]
          · intro st s' want' h' hw
            simp only [SS, boxA, cellsOf, foffA, loadA, ldA, idxA, fldA, binA, binVal, isSh, intVal, lenA, slenA, pickA, storeA, setN, getN, fillA, extA, beqA, eqsA, eqL, isnilA, unA, unVal, convA, nilA, sconvA, b2sA, b2sOf, bytesOf, mmA, srcA, appA, sliceA, lohi, mkslA, envA, ↓reduceIte, Nat.reduceEqDiff, Nat.reduceAdd, Nat.reduceMul, reduceCtorEq, Nat.reduceLeDiff, fB, fBools, fBlks, fSegs, aBlk, aSg, aSt, stRow, List.drop_zero, List.take_succ_cons, List.take_zero, List.take_nil, Nat.mul_one, Nat.one_mul, List.cons_append, List.nil_append]
            refine ⟨M_lm fr n l (s') (want') i 2, hw, tail_lm fr n l (s') (want') i (h') ?_⟩
            intro st2 hw2
            simp only [SS, boxA, cellsOf, foffA, loadA, ldA, idxA, fldA, binA, binVal, isSh, intVal, lenA, slenA, pickA, storeA, setN, getN, fillA, extA, beqA, eqsA, eqL, isnilA, unA, unVal, convA, nilA, sconvA, b2sA, b2sOf, bytesOf, mmA, srcA, appA, sliceA, lohi, mkslA, envA, ↓reduceIte, Nat.reduceEqDiff, Nat.reduceAdd, Nat.reduceMul, reduceCtorEq, Nat.reduceLeDiff, fB, fBools, fBlks, fSegs, aBlk, aSg, aSt, stRow, List.drop_zero, List.take_succ_cons, List.take_zero, List.take_nil, Nat.mul_one, Nat.one_mul, List.cons_append, List.nil_append]
            refine ⟨M_lm fr n l (s') (want') i 2, hw2, ?_⟩
            simp only [inc_11, M_lm, fStps, SS, boxA, cellsOf, foffA, loadA, ldA, idxA, fldA, binA, binVal, isSh, intVal, lenA, slenA, pickA, storeA, setN, getN, fillA, extA, beqA, eqsA, eqL, isnilA, unA, unVal, convA, nilA, sconvA, b2sA, b2sOf, bytesOf, mmA, srcA, appA, sliceA, lohi, mkslA, envA, ↓reduceIte, Nat.reduceEqDiff, Nat.reduceAdd, Nat.reduceMul, reduceCtorEq, Nat.reduceLeDiff, fB, fBools, fBlks, fSegs, aBlk, aSg, aSt, stRow, List.drop_zero, List.take_succ_cons, List.take_zero, List.take_nil, Nat.mul_one, Nat.one_mul, List.cons_append, List.nil_append]
            refine famC_next (i + 1, s', want') (by show l.length - (i + 1) < l.length - i; omega) ⟨by show i + 1 ≤ l.length; omega, h'⟩ ?_
            refine Weak.calc [(0, 0), (1, 1)] (by decide) ?_ ?_ <;> simp [tk_B, tk_Bools, tk_Blks, tk_Segs, AlL_append, renL_append, okL, okH, rowIs, okV, okHV, rowVt, vtL, okF, okHF, rowFz, fzL, fzV, fzOne, nilLike, oldLike, rn, s_envOf, s_envOf0, s_heapOf, s_heapOf0, s_put, s_put0, s_put1, s_app0, s_app1, Al, AlL, ren, renL, al_B, al_Bools, al_Blks, al_Segs, ren_B, ren_Bools, ren_Blks, ren_Segs, fB, fBools, fBlks, fSegs, fStps, al_Stps, ren_Stps, wrap64 (x := (i : Int) + 1) (by omega)]
        · simp only [M_lm, fStps, e1, e0, b0, b1, b2, b3, b4, h120, o1, o2, o5, x1, x2, q1, q2, len_Stps, Int.reduceEq, hmin, hmm, htk, Option.map_some, Option.map_none, lohi, Nat.sub_zero, SS, boxA, cellsOf, foffA, loadA, ldA, idxA, fldA, binA, binVal, isSh, intVal, lenA, slenA, pickA, storeA, setN, getN, fillA, extA, beqA, eqsA, eqL, isnilA, unA, unVal, convA, nilA, sconvA, b2sA, b2sOf, bytesOf, mmA, srcA, appA, sliceA, lohi, mkslA, envA, ↓reduceIte, Nat.reduceEqDiff, Nat.reduceAdd, Nat.reduceMul, reduceCtorEq, Nat.reduceLeDiff, fB, fBools, fBlks, fSegs, aBlk, aSg, aSt, stRow, List.drop_zero, List.take_succ_cons, List.take_zero, List.take_nil, Nat.mul_one, Nat.one_mul, List.cons_append, List.nil_append]
          refine ⟨by rfl, ?_⟩
          refine ⟨P_lm fr n l s want i (1 + ro) rx (x.data.take 32) 2, Weak.calc [(0, 0), (1, 1)] (by decide) ?_ ?_, put_lm fr n l s want i (1 + ro) rx (x.data.take 32) h ?_ ?_ ?_ ?_⟩
          · simp [tk_B, tk_Bools, tk_Blks, tk_Segs, AlL_append, renL_append, okL, okH, rowIs, okV, okHV, rowVt, vtL, okF, okHF, rowFz, fzL, fzV, fzOne, nilLike, oldLike, rn, s_envOf, s_envOf0, s_heapOf, s_heapOf0, s_put, s_put0, s_put1, s_app0, s_app1, Al, AlL, ren, renL, al_B, al_Bools, al_Blks, al_Segs, ren_B, ren_Bools, ren_Blks, ren_Segs, fB, fBools, fBlks, fSegs, fStps, al_Stps, ren_Stps, nilLike, show eB [] = [] from rfl]
          · simp [tk_B, tk_Bools, tk_Blks, tk_Segs, AlL_append, renL_append, okL, okH, rowIs, okV, okHV, rowVt, vtL, okF, okHF, rowFz, fzL, fzV, fzOne, nilLike, oldLike, rn, s_envOf, s_envOf0, s_heapOf, s_heapOf0, s_put, s_put0, s_put1, s_app0, s_app1, Al, AlL, ren, renL, al_B, al_Bools, al_Blks, al_Segs, ren_B, ren_Bools, ren_Blks, ren_Segs, fB, fBools, fBlks, fSegs]
          · exact decide_eq_true (show 1 ≤ 1 + ro ∧ 1 + ro ≤ 2147483647 ∧ 0 ≤ rx ∧ rx ≤ 255 ∧ List.length (x.data.take 32) ≤ 32 from ⟨by omega, by omega, by omega, by omega, by omega⟩)
          · exact ⟨wf64_of (x := 1 + ro) (by omega) (by omega), wf64_of (x := rx) (by omega) (by omega), okBytes_take (hok x (List.mem_of_getElem? hx)) 32⟩
          · intro st hw
            simp only [SS, boxA, cellsOf, foffA, loadA, ldA, idxA, fldA, binA, binVal, isSh, intVal, lenA, slenA, pickA, storeA, setN, getN, fillA, extA, beqA, eqsA, eqL, isnilA, unA, unVal, convA, nilA, sconvA, b2sA, b2sOf, bytesOf, mmA, srcA, appA, sliceA, lohi, mkslA, envA, ↓reduceIte, Nat.reduceEqDiff, Nat.reduceAdd, Nat.reduceMul, reduceCtorEq, Nat.reduceLeDiff, fB, fBools, fBlks, fSegs, aBlk, aSg, aSt, stRow, List.drop_zero, List.take_succ_cons, List.take_zero, List.take_nil, Nat.mul_one, Nat.one_mul, List.cons_append, List.nil_append]
            refine ⟨M_lm fr n l (s) (want) i 2, hw, ?_⟩
            simp only [inc_11, M_lm, fStps, SS, boxA, cellsOf, foffA, loadA, ldA, idxA, fldA, binA, binVal, isSh, intVal, lenA, slenA, pickA, storeA, setN, getN, fillA, extA, beqA, eqsA, eqL, isnilA, unA, unVal, convA, nilA, sconvA, b2sA, b2sOf, bytesOf, mmA, srcA, appA, sliceA, lohi, mkslA, envA, ↓reduceIte, Nat.reduceEqDiff, Nat.reduceAdd, Nat.reduceMul, reduceCtorEq, Nat.reduceLeDiff, fB, fBools, fBlks, fSegs, aBlk, aSg, aSt, stRow, List.drop_zero, List.take_succ_cons, List.take_zero, List.take_nil, Nat.mul_one, Nat.one_mul, List.cons_append, List.nil_append]
            refine famC_next (i + 1, s, want) (by show l.length - (i + 1) < l.length - i; omega) ⟨by show i + 1 ≤ l.length; omega, h⟩ ?_
            refine Weak.calc [(0, 0), (1, 1)] (by decide) ?_ ?_ <;> simp [tk_B, tk_Bools, tk_Blks, tk_Segs, AlL_append, renL_append, okL, okH, rowIs, okV, okHV, rowVt, vtL, okF, okHF, rowFz, fzL, fzV, fzOne, nilLike, oldLike, rn, s_envOf, s_envOf0, s_heapOf, s_heapOf0, s_put, s_put0, s_put1, s_app0, s_app1, Al, AlL, ren, renL, al_B, al_Bools, al_Blks, al_Segs, ren_B, ren_Bools, ren_Blks, ren_Segs, fB, fBools, fBlks, fSegs, fStps, al_Stps, ren_Stps, wrap64 (x := (i : Int) + 1) (by omega)]
          · intro st s' want' h' hw
            simp only [SS, boxA, cellsOf, foffA, loadA, ldA, idxA, fldA, binA, binVal, isSh, intVal, lenA, slenA, pickA, storeA, setN, getN, fillA, extA, beqA, eqsA, eqL, isnilA, unA, unVal, convA, nilA, sconvA, b2sA, b2sOf, bytesOf, mmA, srcA, appA, sliceA, lohi, mkslA, envA, ↓reduceIte, Nat.reduceEqDiff, Nat.reduceAdd, Nat.reduceMul, reduceCtorEq, Nat.reduceLeDiff, fB, fBools, fBlks, fSegs, aBlk, aSg, aSt, stRow, List.drop_zero, List.take_succ_cons, List.take_zero, List.take_nil, Nat.mul_one, Nat.one_mul, List.cons_append, List.nil_append]
            refine ⟨M_lm fr n l (s') (want') i 2, hw, tail_lm fr n l (s') (want') i (h') ?_⟩
            intro st2 hw2
            simp only [SS, boxA, cellsOf, foffA, loadA, ldA, idxA, fldA, binA, binVal, isSh, intVal, lenA, slenA, pickA, storeA, setN, getN, fillA, extA, beqA, eqsA, eqL, isnilA, unA, unVal, convA, nilA, sconvA, b2sA, b2sOf, bytesOf, mmA, srcA, appA, sliceA, lohi, mkslA, envA, ↓reduceIte, Nat.reduceEqDiff, Nat.reduceAdd, Nat.reduceMul, reduceCtorEq, Nat.reduceLeDiff, fB, fBools, fBlks, fSegs, aBlk, aSg, aSt, stRow, List.drop_zero, List.take_succ_cons, List.take_zero, List.take_nil, Nat.mul_one, Nat.one_mul, List.cons_append, List.nil_append]
            refine ⟨M_lm fr n l (s') (want') i 2, hw2, ?_⟩
            simp only [inc_11, M_lm, fStps, SS, boxA, cellsOf, foffA, loadA, ldA, idxA, fldA, binA, binVal, isSh, intVal, lenA, slenA, pickA, storeA, setN, getN, fillA, extA, beqA, eqsA, eqL, isnilA, unA, unVal, convA, nilA, sconvA, b2sA, b2sOf, bytesOf, mmA, srcA, appA, sliceA, lohi, mkslA, envA, ↓reduceIte, Nat.reduceEqDiff, Nat.reduceAdd, Nat.reduceMul, reduceCtorEq, Nat.reduceLeDiff, fB, fBools, fBlks, fSegs, aBlk, aSg, aSt, stRow, List.drop_zero, List.take_succ_cons, List.take_zero, List.take_nil, Nat.mul_one, Nat.one_mul, List.cons_append, List.nil_append]
            refine famC_next (i + 1, s', want') (by show l.length - (i + 1) < l.length - i; omega) ⟨by show i + 1 ≤ l.length; omega, h'⟩ ?_
            refine Weak.calc [(0, 0), (1, 1)] (by decide) ?_ ?_ <;> simp [tk_B, tk_Bools, tk_Blks, tk_Segs, AlL_append, renL_append, okL, okH, rowIs, okV, okHV, rowVt, vtL, okF, okHF, rowFz, fzL, fzV, fzOne, nilLike, oldLike, rn, s_envOf, s_envOf0, s_heapOf, s_heapOf0, s_put, s_put0, s_put1, s_app0, s_app1, Al, AlL, ren, renL, al_B, al_Bools, al_Blks, al_Segs, ren_B, ren_Bools, ren_Blks, ren_Segs, fB, fBools, fBlks, fSegs, fStps, al_Stps, ren_Stps, wrap64 (x := (i : Int) + 1) (by omega)]
        · simp only [M_lm, fStps, e1, e0, b0, b1, b2, b3, b4, h120, o1, o2, o5, x1, x2, q1, q2, len_Stps, Int.reduceEq, hmin, hmm, htk, Option.map_some, Option.map_none, lohi, Nat.sub_zero, SS, boxA, cellsOf, foffA, loadA, ldA, idxA, fldA, binA, binVal, isSh, intVal, lenA, slenA, pickA, storeA, setN, getN, fillA, extA, beqA, eqsA, eqL, isnilA, unA, unVal, convA, nilA, sconvA, b2sA, b2sOf, bytesOf, mmA, srcA, appA, sliceA, lohi, mkslA, envA, ↓reduceIte, Nat.reduceEqDiff, Nat.reduceAdd, Nat.reduceMul, reduceCtorEq, Nat.reduceLeDiff, fB, fBools, fBlks, fSegs, aBlk, aSg, aSt, stRow, List.drop_zero, List.take_succ_cons, List.take_zero, List.take_nil, Nat.mul_one, Nat.one_mul, List.cons_append, List.nil_append]
          refine ⟨by rfl, ?_⟩
          refine ⟨P_lm fr n l s want i (1 + ro) rx ([]) 2, Weak.calc [(0, 0), (1, 1)] (by decide) ?_ ?_, put_lm fr n l s want i (1 + ro) rx ([]) h ?_ ?_ ?_ ?_⟩
          · simp [tk_B, tk_Bools, tk_Blks, tk_Segs, AlL_append, renL_append, okL, okH, rowIs, okV, okHV, rowVt, vtL, okF, okHF, rowFz, fzL, fzV, fzOne, nilLike, oldLike, rn, s_envOf, s_envOf0, s_heapOf, s_heapOf0, s_put, s_put0, s_put1, s_app0, s_app1, Al, AlL, ren, renL, al_B, al_Bools, al_Blks, al_Segs, ren_B, ren_Bools, ren_Blks, ren_Segs, fB, fBools, fBlks, fSegs, fStps, al_Stps, ren_Stps, nilLike, show eB [] = [] from rfl]
          · simp [tk_B, tk_Bools, tk_Blks, tk_Segs, AlL_append, renL_append, okL, okH, rowIs, okV, okHV, rowVt, vtL, okF, okHF, rowFz, fzL, fzV, fzOne, nilLike, oldLike, rn, s_envOf, s_envOf0, s_heapOf, s_heapOf0, s_put, s_put0, s_put1, s_app0, s_app1, Al, AlL, ren, renL, al_B, al_Bools, al_Blks, al_Segs, ren_B, ren_Bools, ren_Blks, ren_Segs, fB, fBools, fBlks, fSegs]
          · exact decide_eq_true (show 1 ≤ 1 + ro ∧ 1 + ro ≤ 2147483647 ∧ 0 ≤ rx ∧ rx ≤ 255 ∧ List.length ([]) ≤ 32 from ⟨by omega, by omega, by omega, by omega, by simp⟩)
          · exact ⟨wf64_of (x := 1 + ro) (by omega) (by omega), wf64_of (x := rx) (by omega) (by omega), by show 0 * 1 ≤ reachB; decide, by simp⟩
          · intro st hw
            simp only [SS, boxA, cellsOf, foffA, loadA, ldA, idxA, fldA, binA, binVal, isSh, intVal, lenA, slenA, pickA, storeA, setN, getN, fillA, extA, beqA, eqsA, eqL, isnilA, unA, unVal, convA, nilA, sconvA, b2sA, b2sOf, bytesOf, mmA, srcA, appA, sliceA, lohi, mkslA, envA, ↓reduceIte, Nat.reduceEqDiff, Nat.reduceAdd, Nat.reduceMul, reduceCtorEq, Nat.reduceLeDiff, fB, fBools, fBlks, fSegs, aBlk, aSg, aSt, stRow, List.drop_zero, List.take_succ_cons, List.take_zero, List.take_nil, Nat.mul_one, Nat.one_mul, List.cons_append, List.nil_append]
            refine ⟨M_lm fr n l (s) (want) i 2, hw, ?_⟩
            simp only [inc_11, M_lm, fStps, SS, boxA, cellsOf, foffA, loadA, ldA, idxA, fldA, binA, binVal, isSh, intVal, lenA, slenA, pickA, storeA, setN, getN, fillA, extA, beqA, eqsA, eqL, isnilA, unA, unVal, convA, nilA, sconvA, b2sA, b2sOf, bytesOf, mmA, srcA, appA, sliceA, lohi, mkslA, envA, ↓reduceIte, Nat.reduceEqDiff, Nat.reduceAdd, Nat.reduceMul, reduceCtorEq, Nat.reduceLeDiff, fB, fBools, fBlks, fSegs, aBlk, aSg, aSt, stRow, List.drop_zero, List.take_succ_cons, List.take_zero, List.take_nil, Nat.mul_one, Nat.one_mul, List.cons_append, List.nil_append]
            refine famC_next (i + 1, s, want) (by show l.length - (i + 1) < l.length - i; omega) ⟨by show i + 1 ≤ l.length; omega, h⟩ ?_
            refine Weak.calc [(0, 0), (1, 1)] (by decide) ?_ ?_ <;> simp [tk_B, tk_Bools, tk_Blks, tk_Segs, AlL_append, renL_append, okL, okH, rowIs, okV, okHV, rowVt, vtL, okF, okHF, rowFz, fzL, fzV, fzOne, nilLike, oldLike, rn, s_envOf, s_envOf0, s_heapOf, s_heapOf0, s_put, s_put0, s_put1, s_app0, s_app1, Al, AlL, ren, renL, al_B, al_Bools, al_Blks, al_Segs, ren_B, ren_Bools, ren_Blks, ren_Segs, fB, fBools, fBlks, fSegs, fStps, al_Stps, ren_Stps, wrap64 (x := (i : Int) + 1) (by omega)]
          · intro st s' want' h' hw
            simp only [SS, boxA, cellsOf, foffA, loadA, ldA, idxA, fldA, binA, binVal, isSh, intVal, lenA, slenA, pickA, storeA, setN, getN, fillA, extA, beqA, eqsA, eqL, isnilA, unA, unVal, convA, nilA, sconvA, b2sA, b2sOf, bytesOf, mmA, srcA, appA, sliceA, lohi, mkslA, envA, ↓reduceIte, Nat.reduceEqDiff, Nat.reduceAdd, Nat.reduceMul, reduceCtorEq, Nat.reduceLeDiff, fB, fBools, fBlks, fSegs, aBlk, aSg, aSt, stRow, List.drop_zero, List.take_succ_cons, List.take_zero, List.take_nil, Nat.mul_one, Nat.one_mul, List.cons_append, List.nil_append]
            refine ⟨M_lm fr n l (s') (want') i 2, hw, tail_lm fr n l (s') (want') i (h') ?_⟩
            intro st2 hw2
            simp only [SS, boxA, cellsOf, foffA, loadA, ldA, idxA, fldA, binA, binVal, isSh, intVal, lenA, slenA, pickA, storeA, setN, getN, fillA, extA, beqA, eqsA, eqL, isnilA, unA, unVal, convA, nilA, sconvA, b2sA, b2sOf, bytesOf, mmA, srcA, appA, sliceA, lohi, mkslA, envA, ↓reduceIte, Nat.reduceEqDiff, Nat.reduceAdd, Nat.reduceMul, reduceCtorEq, Nat.reduceLeDiff, fB, fBools, fBlks, fSegs, aBlk, aSg, aSt, stRow, List.drop_zero, List.take_succ_cons, List.take_zero, List.take_nil, Nat.mul_one, Nat.one_mul, List.cons_append, List.nil_append]
            refine ⟨M_lm fr n l (s') (want') i 2, hw2, ?_⟩
            simp only [inc_11, M_lm, fStps, SS, boxA, cellsOf, foffA, loadA, ldA, idxA, fldA, binA, binVal, isSh, intVal, lenA, slenA, pickA, storeA, setN, getN, fillA, extA, beqA, eqsA, eqL, isnilA, unA, unVal, convA, nilA, sconvA, b2sA, b2sOf, bytesOf, mmA, srcA, appA, sliceA, lohi, mkslA, envA, ↓reduceIte, Nat.reduceEqDiff, Nat.reduceAdd, Nat.reduceMul, reduceCtorEq, Nat.reduceLeDiff, fB, fBools, fBlks, fSegs, aBlk, aSg, aSt, stRow, List.drop_zero, List.take_succ_cons, List.take_zero, List.take_nil, Nat.mul_one, Nat.one_mul, List.cons_append, List.nil_append]
            refine famC_next (i + 1, s', want') (by show l.length - (i + 1) < l.length - i; omega) ⟨by show i + 1 ≤ l.length; omega, h'⟩ ?_
            refine Weak.calc [(0, 0), (1, 1)] (by decide) ?_ ?_ <;> simp [tk_B, tk_Bools, tk_Blks, tk_Segs, AlL_append, renL_append, okL, okH, rowIs, okV, okHV, rowVt, vtL, okF, okHF, rowFz, fzL, fzV, fzOne, nilLike, oldLike, rn, s_envOf, s_envOf0, s_heapOf, s_heapOf0, s_put, s_put0, s_put1, s_app0, s_app1, Al, AlL, ren, renL, al_B, al_Bools, al_Blks, al_Segs, ren_B, ren_Bools, ren_Blks, ren_Segs, fB, fBools, fBlks, fSegs, fStps, al_Stps, ren_Stps, wrap64 (x := (i : Int) + 1) (by omega)]
        · simp only [M_lm, fStps, e1, e0, b0, b1, b2, b3, b4, h120, o1, o2, o5, x1, x2, q1, q2, len_Stps, Int.reduceEq, hmin, hmm, htk, Option.map_some, Option.map_none, lohi, Nat.sub_zero, SS, boxA, cellsOf, foffA, loadA, ldA, idxA, fldA, binA, binVal, isSh, intVal, lenA, slenA, pickA, storeA, setN, getN, fillA, extA, beqA, eqsA, eqL, isnilA, unA, unVal, convA, nilA, sconvA, b2sA, b2sOf, bytesOf, mmA, srcA, appA, sliceA, lohi, mkslA, envA, ↓reduceIte, Nat.reduceEqDiff, Nat.reduceAdd, Nat.reduceMul, reduceCtorEq, Nat.reduceLeDiff, fB, fBools, fBlks, fSegs, aBlk, aSg, aSt, stRow, List.drop_zero, List.take_succ_cons, List.take_zero, List.take_nil, Nat.mul_one, Nat.one_mul, List.cons_append, List.nil_append]
          refine ⟨by rfl, ?_⟩
          refine ⟨_, logSeal_A true s _ h.ok, ?_⟩
          simp only [SS, boxA, cellsOf, foffA, loadA, ldA, idxA, fldA, binA, binVal, isSh, intVal, lenA, slenA, pickA, storeA, setN, getN, fillA, extA, beqA, eqsA, eqL, isnilA, unA, unVal, convA, nilA, sconvA, b2sA, b2sOf, bytesOf, mmA, srcA, appA, sliceA, lohi, mkslA, envA, ↓reduceIte, Nat.reduceEqDiff, Nat.reduceAdd, Nat.reduceMul, reduceCtorEq, Nat.reduceLeDiff, fB, fBools, fBlks, fSegs, aBlk, aSg, aSt, stRow, List.drop_zero, List.take_succ_cons, List.take_zero, List.take_nil, Nat.mul_one, Nat.one_mul, List.cons_append, List.nil_append]
          refine ⟨_, num15_spec (slErr s) _, ?_⟩
          simp only [SS, boxA, cellsOf, foffA, loadA, ldA, idxA, fldA, binA, binVal, isSh, intVal, lenA, slenA, pickA, storeA, setN, getN, fillA, extA, beqA, eqsA, eqL, isnilA, unA, unVal, convA, nilA, sconvA, b2sA, b2sOf, bytesOf, mmA, srcA, appA, sliceA, lohi, mkslA, envA, ↓reduceIte, Nat.reduceEqDiff, Nat.reduceAdd, Nat.reduceMul, reduceCtorEq, Nat.reduceLeDiff, fB, fBools, fBlks, fSegs, aBlk, aSg, aSt, stRow, List.drop_zero, List.take_succ_cons, List.take_zero, List.take_nil, Nat.mul_one, Nat.one_mul, List.cons_append, List.nil_append]
          by_cases he : slErr s = 0
          · simp only [he, SS, boxA, cellsOf, foffA, loadA, ldA, idxA, fldA, binA, binVal, isSh, intVal, lenA, slenA, pickA, storeA, setN, getN, fillA, extA, beqA, eqsA, eqL, isnilA, unA, unVal, convA, nilA, sconvA, b2sA, b2sOf, bytesOf, mmA, srcA, appA, sliceA, lohi, mkslA, envA, ↓reduceIte, Nat.reduceEqDiff, Nat.reduceAdd, Nat.reduceMul, reduceCtorEq, Nat.reduceLeDiff, fB, fBools, fBlks, fSegs, aBlk, aSg, aSt, stRow, List.drop_zero, List.take_succ_cons, List.take_zero, List.take_nil, Nat.mul_one, Nat.one_mul, List.cons_append, List.nil_append]
            refine ⟨M_lm fr n l (slSt s) (want) i 2, Weak.calc [(0, 0), (1, 1)] (by decide) (by simp [tk_B, tk_Bools, tk_Blks, tk_Segs, AlL_append, renL_append, okL, okH, rowIs, okV, okHV, rowVt, vtL, okF, okHF, rowFz, fzL, fzV, fzOne, nilLike, oldLike, rn, s_envOf, s_envOf0, s_heapOf, s_heapOf0, s_put, s_put0, s_put1, s_app0, s_app1, Al, AlL, ren, renL, al_B, al_Bools, al_Blks, al_Segs, ren_B, ren_Bools, ren_Blks, ren_Segs, fB, fBools, fBlks, fSegs, fStps, al_Stps, ren_Stps]) (by simp [tk_B, tk_Bools, tk_Blks, tk_Segs, AlL_append, renL_append, okL, okH, rowIs, okV, okHV, rowVt, vtL, okF, okHF, rowFz, fzL, fzV, fzOne, nilLike, oldLike, rn, s_envOf, s_envOf0, s_heapOf, s_heapOf0, s_put, s_put0, s_put1, s_app0, s_app1, Al, AlL, ren, renL, al_B, al_Bools, al_Blks, al_Segs, ren_B, ren_Bools, ren_Blks, ren_Segs, fB, fBools, fBlks, fSegs]), tail_lm fr n l (slSt s) (want) i (h.sealed he) ?_⟩
            intro st2 hw2
            simp only [SS, boxA, cellsOf, foffA, loadA, ldA, idxA, fldA, binA, binVal, isSh, intVal, lenA, slenA, pickA, storeA, setN, getN, fillA, extA, beqA, eqsA, eqL, isnilA, unA, unVal, convA, nilA, sconvA, b2sA, b2sOf, bytesOf, mmA, srcA, appA, sliceA, lohi, mkslA, envA, ↓reduceIte, Nat.reduceEqDiff, Nat.reduceAdd, Nat.reduceMul, reduceCtorEq, Nat.reduceLeDiff, fB, fBools, fBlks, fSegs, aBlk, aSg, aSt, stRow, List.drop_zero, List.take_succ_cons, List.take_zero, List.take_nil, Nat.mul_one, Nat.one_mul, List.cons_append, List.nil_append]
            refine ⟨M_lm fr n l (slSt s) (want) i 2, hw2, ?_⟩
            simp only [inc_11, M_lm, fStps, SS, boxA, cellsOf, foffA, loadA, ldA, idxA, fldA, binA, binVal, isSh, intVal, lenA, slenA, pickA, storeA, setN, getN, fillA, extA, beqA, eqsA, eqL, isnilA, unA, unVal, convA, nilA, sconvA, b2sA, b2sOf, bytesOf, mmA, srcA, appA, sliceA, lohi, mkslA, envA, ↓reduceIte, Nat.reduceEqDiff, Nat.reduceAdd, Nat.reduceMul, reduceCtorEq, Nat.reduceLeDiff, fB, fBools, fBlks, fSegs, aBlk, aSg, aSt, stRow, List.drop_zero, List.take_succ_cons, List.take_zero, List.take_nil, Nat.mul_one, Nat.one_mul, List.cons_append, List.nil_append]
            refine famC_next (i + 1, slSt s, want) (by show l.length - (i + 1) < l.length - i; omega) ⟨by show i + 1 ≤ l.length; omega, h.sealed he⟩ ?_
            refine Weak.calc [(0, 0), (1, 1)] (by decide) ?_ ?_ <;> simp [tk_B, tk_Bools, tk_Blks, tk_Segs, AlL_append, renL_append, okL, okH, rowIs, okV, okHV, rowVt, vtL, okF, okHF, rowFz, fzL, fzV, fzOne, nilLike, oldLike, rn, s_envOf, s_envOf0, s_heapOf, s_heapOf0, s_put, s_put0, s_put1, s_app0, s_app1, Al, AlL, ren, renL, al_B, al_Bools, al_Blks, al_Segs, ren_B, ren_Bools, ren_Blks, ren_Segs, fB, fBools, fBlks, fSegs, fStps, al_Stps, ren_Stps, wrap64 (x := (i : Int) + 1) (by omega)]
          · simp only [he, SS, boxA, cellsOf, foffA, loadA, ldA, idxA, fldA, binA, binVal, isSh, intVal, lenA, slenA, pickA, storeA, setN, getN, fillA, extA, beqA, eqsA, eqL, isnilA, unA, unVal, convA, nilA, sconvA, b2sA, b2sOf, bytesOf, mmA, srcA, appA, sliceA, lohi, mkslA, envA, ↓reduceIte, Nat.reduceEqDiff, Nat.reduceAdd, Nat.reduceMul, reduceCtorEq, Nat.reduceLeDiff, fB, fBools, fBlks, fSegs, aBlk, aSg, aSt, stRow, List.drop_zero, List.take_succ_cons, List.take_zero, List.take_nil, Nat.mul_one, Nat.one_mul, List.cons_append, List.nil_append]
            refine ⟨M_lm fr n l (s) (want) i 2, Weak.calc [(0, 0), (1, 1)] (by decide) (by simp [tk_B, tk_Bools, tk_Blks, tk_Segs, AlL_append, renL_append, okL, okH, rowIs, okV, okHV, rowVt, vtL, okF, okHF, rowFz, fzL, fzV, fzOne, nilLike, oldLike, rn, s_envOf, s_envOf0, s_heapOf, s_heapOf0, s_put, s_put0, s_put1, s_app0, s_app1, Al, AlL, ren, renL, al_B, al_Bools, al_Blks, al_Segs, ren_B, ren_Bools, ren_Blks, ren_Segs, fB, fBools, fBlks, fSegs, fStps, al_Stps, ren_Stps]) (by simp [tk_B, tk_Bools, tk_Blks, tk_Segs, AlL_append, renL_append, okL, okH, rowIs, okV, okHV, rowVt, vtL, okF, okHF, rowFz, fzL, fzV, fzOne, nilLike, oldLike, rn, s_envOf, s_envOf0, s_heapOf, s_heapOf0, s_put, s_put0, s_put1, s_app0, s_app1, Al, AlL, ren, renL, al_B, al_Bools, al_Blks, al_Segs, ren_B, ren_Bools, ren_Blks, ren_Segs, fB, fBools, fBlks, fSegs]), tail_lm fr n l (s) (want) i (h) ?_⟩
            intro st2 hw2
            simp only [SS, boxA, cellsOf, foffA, loadA, ldA, idxA, fldA, binA, binVal, isSh, intVal, lenA, slenA, pickA, storeA, setN, getN, fillA, extA, beqA, eqsA, eqL, isnilA, unA, unVal, convA, nilA, sconvA, b2sA, b2sOf, bytesOf, mmA, srcA, appA, sliceA, lohi, mkslA, envA, ↓reduceIte, Nat.reduceEqDiff, Nat.reduceAdd, Nat.reduceMul, reduceCtorEq, Nat.reduceLeDiff, fB, fBools, fBlks, fSegs, aBlk, aSg, aSt, stRow, List.drop_zero, List.take_succ_cons, List.take_zero, List.take_nil, Nat.mul_one, Nat.one_mul, List.cons_append, List.nil_append]
            refine ⟨M_lm fr n l (s) (want) i 2, hw2, ?_⟩
            simp only [inc_11, M_lm, fStps, SS, boxA, cellsOf, foffA, loadA, ldA, idxA, fldA, binA, binVal, isSh, intVal, lenA, slenA, pickA, storeA, setN, getN, fillA, extA, beqA, eqsA, eqL, isnilA, unA, unVal, convA, nilA, sconvA, b2sA, b2sOf, bytesOf, mmA, srcA, appA, sliceA, lohi, mkslA, envA, ↓reduceIte, Nat.reduceEqDiff, Nat.reduceAdd, Nat.reduceMul, reduceCtorEq, Nat.reduceLeDiff, fB, fBools, fBlks, fSegs, aBlk, aSg, aSt, stRow, List.drop_zero, List.take_succ_cons, List.take_zero, List.take_nil, Nat.mul_one, Nat.one_mul, List.cons_append, List.nil_append]
            refine famC_next (i + 1, s, want) (by show l.length - (i + 1) < l.length - i; omega) ⟨by show i + 1 ≤ l.length; omega, h⟩ ?_
            refine Weak.calc [(0, 0), (1, 1)] (by decide) ?_ ?_ <;> simp [tk_B, tk_Bools, tk_Blks, tk_Segs, AlL_append, renL_append, okL, okH, rowIs, okV, okHV, rowVt, vtL, okF, okHF, rowFz, fzL, fzV, fzOne, nilLike, oldLike, rn, s_envOf, s_envOf0, s_heapOf, s_heapOf0, s_put, s_put0, s_put1, s_app0, s_app1, Al, AlL, ren, renL, al_B, al_Bools, al_Blks, al_Segs, ren_B, ren_Bools, ren_Blks, ren_Segs, fB, fBools, fBlks, fSegs, fStps, al_Stps, ren_Stps, wrap64 (x := (i : Int) + 1) (by omega)]
        · obtain ⟨rn_, n1_, n2_, n3_, n4_, n5_⟩ := mod_facts x.n (m := n) (by omega) (by omega)
          have hnz : ¬ ((n : Int) = 0) := by omega
          simp only [hnz, n1_, n2_, M_lm, fStps, e1, e0, b0, b1, b2, b3, b4, h120, o1, o2, o5, x1, x2, q1, q2, len_Stps, Int.reduceEq, hmin, hmm, htk, Option.map_some, Option.map_none, lohi, Nat.sub_zero, SS, boxA, cellsOf, foffA, loadA, ldA, idxA, fldA, binA, binVal, isSh, intVal, lenA, slenA, pickA, storeA, setN, getN, fillA, extA, beqA, eqsA, eqL, isnilA, unA, unVal, convA, nilA, sconvA, b2sA, b2sOf, bytesOf, mmA, srcA, appA, sliceA, lohi, mkslA, envA, ↓reduceIte, Nat.reduceEqDiff, Nat.reduceAdd, Nat.reduceMul, reduceCtorEq, Nat.reduceLeDiff, fB, fBools, fBlks, fSegs, aBlk, aSg, aSt, stRow, List.drop_zero, List.take_succ_cons, List.take_zero, List.take_nil, Nat.mul_one, Nat.one_mul, List.cons_append, List.nil_append]
          refine ⟨by rfl, ?_⟩
          refine ⟨_, logFree_A true s rn_ _ h.ok, ?_⟩
          simp only [SS, boxA, cellsOf, foffA, loadA, ldA, idxA, fldA, binA, binVal, isSh, intVal, lenA, slenA, pickA, storeA, setN, getN, fillA, extA, beqA, eqsA, eqL, isnilA, unA, unVal, convA, nilA, sconvA, b2sA, b2sOf, bytesOf, mmA, srcA, appA, sliceA, lohi, mkslA, envA, ↓reduceIte, Nat.reduceEqDiff, Nat.reduceAdd, Nat.reduceMul, reduceCtorEq, Nat.reduceLeDiff, fB, fBools, fBlks, fSegs, aBlk, aSg, aSt, stRow, List.drop_zero, List.take_succ_cons, List.take_zero, List.take_nil, Nat.mul_one, Nat.one_mul, List.cons_append, List.nil_append]
          refine ⟨by rfl, ?_⟩
          refine ⟨_, num15_spec (frErr s rn_) _, ?_⟩
          simp only [SS, boxA, cellsOf, foffA, loadA, ldA, idxA, fldA, binA, binVal, isSh, intVal, lenA, slenA, pickA, storeA, setN, getN, fillA, extA, beqA, eqsA, eqL, isnilA, unA, unVal, convA, nilA, sconvA, b2sA, b2sOf, bytesOf, mmA, srcA, appA, sliceA, lohi, mkslA, envA, ↓reduceIte, Nat.reduceEqDiff, Nat.reduceAdd, Nat.reduceMul, reduceCtorEq, Nat.reduceLeDiff, fB, fBools, fBlks, fSegs, aBlk, aSg, aSt, stRow, List.drop_zero, List.take_succ_cons, List.take_zero, List.take_nil, Nat.mul_one, Nat.one_mul, List.cons_append, List.nil_append]
          by_cases he : frErr s rn_ = 0
          · simp only [he, SS, boxA, cellsOf, foffA, loadA, ldA, idxA, fldA, binA, binVal, isSh, intVal, lenA, slenA, pickA, storeA, setN, getN, fillA, extA, beqA, eqsA, eqL, isnilA, unA, unVal, convA, nilA, sconvA, b2sA, b2sOf, bytesOf, mmA, srcA, appA, sliceA, lohi, mkslA, envA, ↓reduceIte, Nat.reduceEqDiff, Nat.reduceAdd, Nat.reduceMul, reduceCtorEq, Nat.reduceLeDiff, fB, fBools, fBlks, fSegs, aBlk, aSg, aSt, stRow, List.drop_zero, List.take_succ_cons, List.take_zero, List.take_nil, Nat.mul_one, Nat.one_mul, List.cons_append, List.nil_append]
            refine ⟨M_lm fr n l (frSt s rn_) (want) i 2, Weak.calc [(0, 0), (1, 1)] (by decide) (by simp [tk_B, tk_Bools, tk_Blks, tk_Segs, AlL_append, renL_append, okL, okH, rowIs, okV, okHV, rowVt, vtL, okF, okHF, rowFz, fzL, fzV, fzOne, nilLike, oldLike, rn, s_envOf, s_envOf0, s_heapOf, s_heapOf0, s_put, s_put0, s_put1, s_app0, s_app1, Al, AlL, ren, renL, al_B, al_Bools, al_Blks, al_Segs, ren_B, ren_Bools, ren_Blks, ren_Segs, fB, fBools, fBlks, fSegs, fStps, al_Stps, ren_Stps]) (by simp [tk_B, tk_Bools, tk_Blks, tk_Segs, AlL_append, renL_append, okL, okH, rowIs, okV, okHV, rowVt, vtL, okF, okHF, rowFz, fzL, fzV, fzOne, nilLike, oldLike, rn, s_envOf, s_envOf0, s_heapOf, s_heapOf0, s_put, s_put0, s_put1, s_app0, s_app1, Al, AlL, ren, renL, al_B, al_Bools, al_Blks, al_Segs, ren_B, ren_Bools, ren_Blks, ren_Segs, fB, fBools, fBlks, fSegs]), tail_lm fr n l (frSt s rn_) (want) i (h.free he) ?_⟩
            intro st2 hw2
            simp only [SS, boxA, cellsOf, foffA, loadA, ldA, idxA, fldA, binA, binVal, isSh, intVal, lenA, slenA, pickA, storeA, setN, getN, fillA, extA, beqA, eqsA, eqL, isnilA, unA, unVal, convA, nilA, sconvA, b2sA, b2sOf, bytesOf, mmA, srcA, appA, sliceA, lohi, mkslA, envA, ↓reduceIte, Nat.reduceEqDiff, Nat.reduceAdd, Nat.reduceMul, reduceCtorEq, Nat.reduceLeDiff, fB, fBools, fBlks, fSegs, aBlk, aSg, aSt, stRow, List.drop_zero, List.take_succ_cons, List.take_zero, List.take_nil, Nat.mul_one, Nat.one_mul, List.cons_append, List.nil_append]
            refine ⟨M_lm fr n l (frSt s rn_) (want) i 2, hw2, ?_⟩
            simp only [inc_11, M_lm, fStps, SS, boxA, cellsOf, foffA, loadA, ldA, idxA, fldA, binA, binVal, isSh, intVal, lenA, slenA, pickA, storeA, setN, getN, fillA, extA, beqA, eqsA, eqL, isnilA, unA, unVal, convA, nilA, sconvA, b2sA, b2sOf, bytesOf, mmA, srcA, appA, sliceA, lohi, mkslA, envA, ↓reduceIte, Nat.reduceEqDiff, Nat.reduceAdd, Nat.reduceMul, reduceCtorEq, Nat.reduceLeDiff, fB, fBools, fBlks, fSegs, aBlk, aSg, aSt, stRow, List.drop_zero, List.take_succ_cons, List.take_zero, List.take_nil, Nat.mul_one, Nat.one_mul, List.cons_append, List.nil_append]
            refine famC_next (i + 1, frSt s rn_, want) (by show l.length - (i + 1) < l.length - i; omega) ⟨by show i + 1 ≤ l.length; omega, h.free he⟩ ?_
            refine Weak.calc [(0, 0), (1, 1)] (by decide) ?_ ?_ <;> simp [tk_B, tk_Bools, tk_Blks, tk_Segs, AlL_append, renL_append, okL, okH, rowIs, okV, okHV, rowVt, vtL, okF, okHF, rowFz, fzL, fzV, fzOne, nilLike, oldLike, rn, s_envOf, s_envOf0, s_heapOf, s_heapOf0, s_put, s_put0, s_put1, s_app0, s_app1, Al, AlL, ren, renL, al_B, al_Bools, al_Blks, al_Segs, ren_B, ren_Bools, ren_Blks, ren_Segs, fB, fBools, fBlks, fSegs, fStps, al_Stps, ren_Stps, wrap64 (x := (i : Int) + 1) (by omega)]
          · simp only [he, SS, boxA, cellsOf, foffA, loadA, ldA, idxA, fldA, binA, binVal, isSh, intVal, lenA, slenA, pickA, storeA, setN, getN, fillA, extA, beqA, eqsA, eqL, isnilA, unA, unVal, convA, nilA, sconvA, b2sA, b2sOf, bytesOf, mmA, srcA, appA, sliceA, lohi, mkslA, envA, ↓reduceIte, Nat.reduceEqDiff, Nat.reduceAdd, Nat.reduceMul, reduceCtorEq, Nat.reduceLeDiff, fB, fBools, fBlks, fSegs, aBlk, aSg, aSt, stRow, List.drop_zero, List.take_succ_cons, List.take_zero, List.take_nil, Nat.mul_one, Nat.one_mul, List.cons_append, List.nil_append]
            refine ⟨M_lm fr n l (s) (want) i 2, Weak.calc [(0, 0), (1, 1)] (by decide) (by simp [tk_B, tk_Bools, tk_Blks, tk_Segs, AlL_append, renL_append, okL, okH, rowIs, okV, okHV, rowVt, vtL, okF, okHF, rowFz, fzL, fzV, fzOne, nilLike, oldLike, rn, s_envOf, s_envOf0, s_heapOf, s_heapOf0, s_put, s_put0, s_put1, s_app0, s_app1, Al, AlL, ren, renL, al_B, al_Bools, al_Blks, al_Segs, ren_B, ren_Bools, ren_Blks, ren_Segs, fB, fBools, fBlks, fSegs, fStps, al_Stps, ren_Stps]) (by simp [tk_B, tk_Bools, tk_Blks, tk_Segs, AlL_append, renL_append, okL, okH, rowIs, okV, okHV, rowVt, vtL, okF, okHF, rowFz, fzL, fzV, fzOne, nilLike, oldLike, rn, s_envOf, s_envOf0, s_heapOf, s_heapOf0, s_put, s_put0, s_put1, s_app0, s_app1, Al, AlL, ren, renL, al_B, al_Bools, al_Blks, al_Segs, ren_B, ren_Bools, ren_Blks, ren_Segs, fB, fBools, fBlks, fSegs]), tail_lm fr n l (s) (want) i (h) ?_⟩
            intro st2 hw2
            simp only [SS, boxA, cellsOf, foffA, loadA, ldA, idxA, fldA, binA, binVal, isSh, intVal, lenA, slenA, pickA, storeA, setN, getN, fillA, extA, beqA, eqsA, eqL, isnilA, unA, unVal, convA, nilA, sconvA, b2sA, b2sOf, bytesOf, mmA, srcA, appA, sliceA, lohi, mkslA, envA, ↓reduceIte, Nat.reduceEqDiff, Nat.reduceAdd, Nat.reduceMul, reduceCtorEq, Nat.reduceLeDiff, fB, fBools, fBlks, fSegs, aBlk, aSg, aSt, stRow, List.drop_zero, List.take_succ_cons, List.take_zero, List.take_nil, Nat.mul_one, Nat.one_mul, List.cons_append, List.nil_append]
            refine ⟨M_lm fr n l (s) (want) i 2, hw2, ?_⟩
            simp only [inc_11, M_lm, fStps, SS, boxA, cellsOf, foffA, loadA, ldA, idxA, fldA, binA, binVal, isSh, intVal, lenA, slenA, pickA, storeA, setN, getN, fillA, extA, beqA, eqsA, eqL, isnilA, unA, unVal, convA, nilA, sconvA, b2sA, b2sOf, bytesOf, mmA, srcA, appA, sliceA, lohi, mkslA, envA, ↓reduceIte, Nat.reduceEqDiff, Nat.reduceAdd, Nat.reduceMul, reduceCtorEq, Nat.reduceLeDiff, fB, fBools, fBlks, fSegs, aBlk, aSg, aSt, stRow, List.drop_zero, List.take_succ_cons, List.take_zero, List.take_nil, Nat.mul_one, Nat.one_mul, List.cons_append, List.nil_append]
            refine famC_next (i + 1, s, want) (by show l.length - (i + 1) < l.length - i; omega) ⟨by show i + 1 ≤ l.length; omega, h⟩ ?_
            refine Weak.calc [(0, 0), (1, 1)] (by decide) ?_ ?_ <;> simp [tk_B, tk_Bools, tk_Blks, tk_Segs, AlL_append, renL_append, okL, okH, rowIs, okV, okHV, rowVt, vtL, okF, okHF, rowFz, fzL, fzV, fzOne, nilLike, oldLike, rn, s_envOf, s_envOf0, s_heapOf, s_heapOf0, s_put, s_put0, s_put1, s_app0, s_app1, Al, AlL, ren, renL, al_B, al_Bools, al_Blks, al_Segs, ren_B, ren_Bools, ren_Blks, ren_Segs, fB, fBools, fBlks, fSegs, fStps, al_Stps, ren_Stps, wrap64 (x := (i : Int) + 1) (by omega)]
      · simp only [M_lm, fStps, e1, h120, SS, boxA, cellsOf, foffA, loadA, ldA, idxA, fldA, binA, binVal, isSh, intVal, lenA, slenA, pickA, storeA, setN, getN, fillA, extA, beqA, eqsA, eqL, isnilA, unA, unVal, convA, nilA, sconvA, b2sA, b2sOf, bytesOf, mmA, srcA, appA, sliceA, lohi, mkslA, envA, ↓reduceIte, Nat.reduceEqDiff, Nat.reduceAdd, Nat.reduceMul, reduceCtorEq, Nat.reduceLeDiff, fB, fBools, fBlks, fSegs, aBlk, aSg, aSt, stRow, List.drop_zero, List.take_succ_cons, List.take_zero, List.take_nil, Nat.mul_one, Nat.one_mul, List.cons_append, List.nil_append]
        exact Ends.data (.inr rfl) (by simp [resL, resOne, tupOf, getN, s_envOf, s_envOf0, s_heapOf, s_heapOf0, s_put1, s_app0, s_app1]) trivial
    · have e1 : ¬ ((i : Int) < (l.length : Int)) := by omega
      simp only [M_lm, fStps, e1, SS, boxA, cellsOf, foffA, loadA, ldA, idxA, fldA, binA, binVal, isSh, intVal, lenA, slenA, pickA, storeA, setN, getN, fillA, extA, beqA, eqsA, eqL, isnilA, unA, unVal, convA, nilA, sconvA, b2sA, b2sOf, bytesOf, mmA, srcA, appA, sliceA, lohi, mkslA, envA, ↓reduceIte, Nat.reduceEqDiff, Nat.reduceAdd, Nat.reduceMul, reduceCtorEq, Nat.reduceLeDiff, fB, fBools, fBlks, fSegs, aBlk, aSg, aSt, stRow, List.drop_zero, List.take_succ_cons, List.take_zero, List.take_nil, Nat.mul_one, Nat.one_mul, List.cons_append, List.nil_append]
      exact Ends.data (.inr rfl) (by simp [resL, resOne, tupOf, getN, s_envOf, s_envOf0, s_heapOf, s_heapOf0, s_put1, s_app0, s_app1]) trivial
end Go.Proofs.Ytfoeddmbhmfjcaa
/- Steps as a row's argument. -/
namespace Go.Proofs.Ytfoeddmbhmfjcaa
open Go.RowKit
set_option maxRecDepth 100000
def okStps (l : List Stp) : Prop := l.length * 56 ≤ reachB ∧ ∀ x ∈ l, okBytes x.data
theorem rdt_stp : Rd Try.prog 96 eStp (fun x => okBytes x.data) :=
  (rd_struct Try.underlying96 (by kernel_rfl) (RdF.cons (c := 1) rfl (by kernel_rfl) rdt_num (RdF.cons (c := 1) rfl (by kernel_rfl) rdt_num (RdF.cons (c := 1) rfl (by kernel_rfl) rdt_num (RdF.cons (c := 1) rfl (by kernel_rfl) rdt_bytes (RdF.cons (c := 1) rfl (by kernel_rfl) rdt_num RdF.nil)))))).map
    (fun x => ⟨x.1, x.2.1, x.2.2.1, x.2.2.2.1, x.2.2.2.2.1⟩) (fun b => (b.what, b.own, b.idx, b.data, b.n, ())) (fun fr b => rfl) (fun fr b => rfl) fun a h => h.2.2.2.1
theorem rdt_stps : Rd Try.prog 93 (fun fr l => [fStps fr l]) okStps :=
  rd_slice (B := 56) Try.underlying93 (by kernel_rfl) (by kernel_rfl) (by rw [show Try.prog.cellsOf 96 = 5 from by kernel_rfl]; decide) rdt_stp
theorem open_stps {H : Type} {enc : TypeId × Value → H} {W : World} {base : Nat} {v : Value} {d : DataW H} {ps : List MemPlace} (hv : Value.okWide Try.prog W .any base 93 v) (h : DataW.Trod enc Try.prog W 0 (fun _ => true) true 93 v d ps)
    (hw : (d.weights Try.prog 93).all (· ≤ reachBytes) = true) : ∃ s, okStps s ∧ VR (cx0 W) (fStps false s) v := by
  obtain ⟨fuel, h⟩ := h
  obtain ⟨s, h1, h2⟩ := rdt_stps.rd h hw
  obtain ⟨u, us', e, h3, h4, h5⟩ := h2
  refine ⟨s, h1, ?_⟩
  have hu : u = v := by
    have h4' := h4
    unfold fStps at h4'
    rw [VR] at h4'
    obtain ⟨A, k, rfl, _⟩ := h4'
    simp only [Value.okWide, Try.underlying93] at hv
    cases v with
    | slice => simp only [Value.cells, List.cons.injEq] at e; exact e.1.symm
    | agg cs => simp [Cell.okWide, Cell.ok, Try.underlying93] at hv
    | _ => first | (simp only [Value.cells, List.cons.injEq] at e; exact e.1.symm) | (simp [Value.cells] at e; done)
  rw [← hu]
  exact h4
theorem logMap_row (fr : Bool) (n0 : Int) (l : List Stp) (nb : Nat) (h : okStps l) : ASound Try.prog 11 [.v (.int .i64 n0), fStps fr l] nb (.ret (.v (.bool true)) []) := by
  have h1 := h.1
  unfold reachB at h1
  exact logMap_spec fr n0 l nb (by omega) h.2
end Go.Proofs.Ytfoeddmbhmfjcaa
