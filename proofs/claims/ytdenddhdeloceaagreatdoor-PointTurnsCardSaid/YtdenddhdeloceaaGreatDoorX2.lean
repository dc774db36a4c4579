/- Merged texts: KA, KB, U0, U1, U2, U3, T1, KC, U4, AP, U5, U6, U7, U8, U9, T2, UA, UB, UC, T3, KD, UD, UE, UF, UG, UH, UI. -/
import Derived.Test.YtdenddhdeloceaaGreatDoorX1
import Derived.Test.YtdenddhdeloceaaGreatDoorProg
set_option linter.unusedSimpArgs false
set_option linter.unusedVariables false
namespace Go.Proofs.YtdenddhdeloceaaGreatDoor
set_option maxRecDepth 100000
def ac_8 : AC :=
(.seq (.reg false [⟨some 1, .box 24 (.tmp 0), none, [0], []⟩,
    ⟨some 2, .new 25 [(.int .i64 (0)), (.int .i64 (0)), (.int .i64 (0)), (.int .i64 (0)), (.slice none 0 0)], none, [], []⟩] [1, 2])
(.seq (.reg true [⟨some 3, .foff 0 (.tmp 1), none, [1], []⟩,
    ⟨some 4, .load false 1 (.tmp 3), none, [3], [0]⟩,
    ⟨some 5, .foff 1 (.tmp 1), none, [1], []⟩,
    ⟨some 6, .load false 1 (.tmp 5), none, [5], [2]⟩,
    ⟨some 7, .foff 2 (.tmp 1), none, [1], []⟩,
    ⟨some 8, .load false 1 (.tmp 7), none, [7], [4]⟩,
    ⟨some 9, .foff 3 (.tmp 1), none, [1], []⟩,
    ⟨some 10, .load false 1 (.tmp 9), none, [9], [6]⟩,
    ⟨some 11, .foff 4 (.tmp 1), none, [1], []⟩,
    ⟨some 12, .load false 1 (.tmp 11), none, [11], [8]⟩,
    ⟨some 13, .call 9 [(.tmp 12)], none, [12], [9, 8]⟩,
    ⟨some 14, .build [(.int .i64 (0)), (.int .i64 (0)), (.int .i64 (0)), (.int .i64 (0)), (.slice none 0 0)] [(0, 1, (.tmp 4)), (1, 1, (.tmp 6)), (2, 1, (.tmp 8)), (3, 1, (.tmp 10)), (4, 1, (.tmp 13))], none, [4, 6, 8, 10, 13], [1, 3, 5, 7, 10, 0, 2, 4, 6, 9, 8]⟩,
    ⟨none, .store 5 (.tmp 2) (.tmp 14), none, [2, 14], [11, 10, 0, 1, 2, 3, 4, 5, 6, 7, 8, 9]⟩] [2])
.ret))
theorem ok_8 : FnOk Tryz.prog 8 15 ac_8 [.cell 2 true 5] := ⟨Tryz.f8, Tryz.func8, by kernel_rfl, by kernel_rfl, by kernel_rfl, by kernel_rfl, by kernel_rfl⟩
def ac_9 : AC :=
(.seq (.reg false [⟨some 2, .mv (.const (.slice none 0 0)), none, [], []⟩] [0])
(.seq (.reg false [⟨some 3, .mv (.const (.slice none 0 0)), none, [], []⟩] [0, 3])
(.seq (.reg false [⟨some 4, .mv (.tmp 3), none, [3], []⟩,
    ⟨some 5, .mv (.tmp 0), none, [0], []⟩,
    ⟨some 6, .append 5 1 1 (.tmp 4) (.tmp 5), none, [4, 5], []⟩,
    ⟨some 2, .mv (.tmp 6), none, [6], []⟩] [2])
.ret)))
theorem ok_9 : FnOk Tryz.prog 9 7 ac_9 [.tmp 2] := ⟨Tryz.f9, Tryz.func9, by kernel_rfl, by kernel_rfl, by kernel_rfl, by kernel_rfl, by kernel_rfl⟩
def ac_14 : AC :=
(.seq (.reg false [⟨some 4, .mv (.const (.bool false)), none, [], []⟩] [0, 1])
(.seq (.seq (.reg false [⟨some 6, .mv (.tmp 0), none, [0], []⟩,
    ⟨some 7, .len false (.tmp 6), none, [6], []⟩,
    ⟨some 8, .mv (.tmp 1), none, [1], []⟩,
    ⟨some 9, .len false (.tmp 8), none, [8], []⟩,
    ⟨some 10, .bin .neq (.tmp 7) (.tmp 9), none, [7, 9], []⟩] [0, 1, 10])
(.cond (.tmp 10)
(.seq (.reg false [⟨some 4, .mv (.const (.bool false)), none, [], []⟩] [4])
.ret)
.skip))
(.seq (.seq (.reg false [⟨some 5, .mv (.const (.int .i64 (0))), none, [], []⟩] [0, 1, 5])
(.block 0 (.loop (.seq (.seq (.reg false [⟨some 11, .mv (.tmp 5), none, [5], []⟩,
    ⟨some 12, .mv (.tmp 0), none, [0], []⟩,
    ⟨some 13, .len false (.tmp 12), none, [12], []⟩,
    ⟨some 14, .bin .lss (.tmp 11) (.tmp 13), none, [11, 13], []⟩] [0, 1, 5, 14])
(.cond (.tmp 14)
.skip
(.exit 0)))
(.seq (.block 1 (.seq (.reg true [⟨some 17, .mv (.tmp 0), none, [0], []⟩,
    ⟨some 18, .mv (.tmp 5), none, [5], []⟩,
    ⟨some 19, .idx 1 (.tmp 17) (.tmp 18), none, [17, 18], [0, 1]⟩,
    ⟨some 20, .load false 1 (.tmp 19), none, [19], [2, 0, 1]⟩,
    ⟨some 21, .mv (.tmp 1), none, [1], []⟩,
    ⟨some 22, .mv (.tmp 5), none, [5], []⟩,
    ⟨some 23, .idx 1 (.tmp 21) (.tmp 22), none, [21, 22], [4, 5]⟩,
    ⟨some 24, .load false 1 (.tmp 23), none, [23], [6, 4, 5]⟩,
    ⟨some 25, .bin .neq (.tmp 20) (.tmp 24), none, [20, 24], [3, 7, 2, 0, 1, 6, 4, 5]⟩] [0, 1, 5, 25])
(.cond (.tmp 25)
(.seq (.reg false [⟨some 4, .mv (.const (.bool false)), none, [], []⟩] [4])
.ret)
.skip)))
(.reg false [⟨some 15, .mv (.tmp 5), none, [5], []⟩,
    ⟨some 16, .bin .add (.tmp 15) (.const (.int .i64 (1))), none, [15], []⟩,
    ⟨some 5, .mv (.tmp 16), none, [16], []⟩] [0, 1, 5]))))))
(.seq (.reg false [⟨some 4, .mv (.const (.bool true)), none, [], []⟩] [4])
.ret))))
theorem ok_14 : FnOk Tryz.prog 14 26 ac_14 [.tmp 4] := ⟨Tryz.f14, Tryz.func14, by kernel_rfl, by kernel_rfl, by kernel_rfl, by kernel_rfl, by kernel_rfl⟩
def ac_15 : AC :=
(.seq (.reg false [⟨some 2, .mv (.const (.int .i64 (0))), none, [], []⟩] [0])
(.seq (.reg false [⟨some 3, .mv (.tmp 0), none, [0], []⟩,
    ⟨some 2, .mv (.tmp 3), none, [3], []⟩] [2])
.ret))
theorem ok_15 : FnOk Tryz.prog 15 4 ac_15 [.tmp 2] := ⟨Tryz.f15, Tryz.func15, by kernel_rfl, by kernel_rfl, by kernel_rfl, by kernel_rfl, by kernel_rfl⟩
def ac_16 : AC :=
(.seq (.reg false [⟨some 2, .box 25 (.tmp 0), none, [0], []⟩,
    ⟨some 3, .box 24 (.tmp 1), none, [1], []⟩,
    ⟨some 4, .mv (.const (.bool false)), none, [], []⟩] [2, 3])
(.seq (.reg false [⟨some 5, .foff 0 (.tmp 2), none, [2], []⟩,
    ⟨some 6, .load false 1 (.tmp 5), none, [5], []⟩,
    ⟨some 7, .foff 0 (.tmp 3), none, [3], []⟩,
    ⟨some 8, .load false 1 (.tmp 7), none, [7], []⟩,
    ⟨some 9, .bin .eql (.tmp 6) (.tmp 8), none, [6, 8], []⟩,
    ⟨some 10, .mv (.tmp 9), none, [9], []⟩,
    ⟨some 11, .foff 1 (.tmp 2), some (10, true), [2, 10], []⟩,
    ⟨some 12, .load false 1 (.tmp 11), some (10, true), [11, 10], []⟩,
    ⟨some 13, .foff 1 (.tmp 3), some (10, true), [3, 10], []⟩,
    ⟨some 14, .load false 1 (.tmp 13), some (10, true), [13, 10], []⟩,
    ⟨some 15, .bin .eql (.tmp 12) (.tmp 14), some (10, true), [12, 14, 10], []⟩,
    ⟨some 16, .pick (.tmp 10) (.tmp 15) (.const (.bool false)), none, [10, 15], []⟩,
    ⟨some 17, .mv (.tmp 16), none, [16], []⟩,
    ⟨some 18, .foff 2 (.tmp 2), some (17, true), [2, 17], []⟩,
    ⟨some 19, .load false 1 (.tmp 18), some (17, true), [18, 17], []⟩,
    ⟨some 20, .foff 2 (.tmp 3), some (17, true), [3, 17], []⟩,
    ⟨some 21, .load false 1 (.tmp 20), some (17, true), [20, 17], []⟩,
    ⟨some 22, .bin .eql (.tmp 19) (.tmp 21), some (17, true), [19, 21, 17], []⟩,
    ⟨some 23, .pick (.tmp 17) (.tmp 22) (.const (.bool false)), none, [17, 22], []⟩,
    ⟨some 24, .mv (.tmp 23), none, [23], []⟩,
    ⟨some 25, .foff 3 (.tmp 2), some (24, true), [2, 24], []⟩,
    ⟨some 26, .load false 1 (.tmp 25), some (24, true), [25, 24], []⟩,
    ⟨some 27, .foff 3 (.tmp 3), some (24, true), [3, 24], []⟩,
    ⟨some 28, .load false 1 (.tmp 27), some (24, true), [27, 24], []⟩,
    ⟨some 29, .bin .eql (.tmp 26) (.tmp 28), some (24, true), [26, 28, 24], []⟩,
    ⟨some 30, .pick (.tmp 24) (.tmp 29) (.const (.bool false)), none, [24, 29], []⟩,
    ⟨some 31, .mv (.tmp 30), none, [30], []⟩,
    ⟨some 32, .foff 4 (.tmp 2), some (31, true), [2, 31], []⟩,
    ⟨some 33, .load false 1 (.tmp 32), some (31, true), [32, 31], []⟩,
    ⟨some 34, .foff 4 (.tmp 3), some (31, true), [3, 31], []⟩,
    ⟨some 35, .load false 1 (.tmp 34), some (31, true), [34, 31], []⟩,
    ⟨some 36, .call 14 [(.tmp 33), (.tmp 35)], some (31, true), [33, 35, 31], []⟩,
    ⟨some 37, .pick (.tmp 31) (.tmp 36) (.const (.bool false)), none, [31, 36], []⟩,
    ⟨some 4, .mv (.tmp 37), none, [37], []⟩] [4])
.ret))
theorem ok_16 : FnOk Tryz.prog 16 38 ac_16 [.tmp 4] := ⟨Tryz.f16, Tryz.func16, by kernel_rfl, by kernel_rfl, by kernel_rfl, by kernel_rfl, by kernel_rfl⟩
end Go.Proofs.YtdenddhdeloceaaGreatDoor
namespace Go.Proofs.YtdenddhdeloceaaGreatDoor
set_option maxRecDepth 100000
def ac_124 : AC :=
(.seq (.reg false [⟨some 0, .new 187 [(.int .u32 (0)), (.int .u32 (0)), (.int .u32 (0)), (.int .u32 (0)), (.int .u32 (0)), (.int .u32 (0)), (.int .u32 (0)), (.int .u32 (0)), (.int .u32 (0)), (.int .u32 (0)), (.int .u32 (0)), (.int .u32 (0)), (.int .u32 (0)), (.int .u32 (0)), (.int .u32 (0)), (.int .u32 (0))], none, [], []⟩] [0])
(.seq (.reg false [⟨some 1, .new 187 [(.int .u32 (0)), (.int .u32 (0)), (.int .u32 (0)), (.int .u32 (0)), (.int .u32 (0)), (.int .u32 (0)), (.int .u32 (0)), (.int .u32 (0)), (.int .u32 (0)), (.int .u32 (0)), (.int .u32 (0)), (.int .u32 (0)), (.int .u32 (0)), (.int .u32 (0)), (.int .u32 (0)), (.int .u32 (0))], none, [], []⟩] [0, 1])
(.seq (.seq (.reg false [⟨some 4, .mv (.const (.int .i64 (0))), none, [], []⟩] [0, 1, 4])
(.block 0 (.loop (.seq (.reg false [⟨some 5, .bin .lss (.tmp 4) (.const (.int .i64 (16))), none, [4], []⟩] [0, 1, 4, 5])
(.seq (.cond (.tmp 5)
.skip
(.exit 0))
(.seq (.block 1 (.seq (.reg false [⟨some 6, .mv (.tmp 4), none, [4], []⟩,
    ⟨some 2, .mv (.tmp 6), none, [6], []⟩] [0, 1, 2, 4])
(.seq (.reg false [⟨some 7, .mv (.tmp 2), none, [2], []⟩,
    ⟨some 8, .conv .u32 (.tmp 7), none, [7], []⟩,
    ⟨some 3, .mv (.tmp 8), none, [8], []⟩] [0, 1, 2, 3, 4])
(.seq (.seq (.reg false [⟨some 9, .mv (.const (.int .i64 (0))), none, [], []⟩] [0, 1, 2, 3, 4, 9])
(.block 2 (.loop (.seq (.reg false [⟨some 10, .bin .lss (.tmp 9) (.const (.int .i64 (4))), none, [9], []⟩] [0, 1, 2, 3, 4, 9, 10])
(.seq (.cond (.tmp 10)
.skip
(.exit 2))
(.seq (.block 3 (.reg false [⟨some 11, .mv (.tmp 3), none, [3], []⟩,
    ⟨some 12, .bin .shr (.tmp 11) (.const (.int .u64 (1))), none, [11], []⟩,
    ⟨some 13, .mv (.tmp 3), none, [3], []⟩,
    ⟨some 14, .bin .and (.tmp 13) (.const (.int .u32 (1))), none, [13], []⟩,
    ⟨some 15, .un .neg (.tmp 14), none, [14], []⟩,
    ⟨some 16, .bin .and (.const (.int .u32 (3988292384))) (.tmp 15), none, [15], []⟩,
    ⟨some 17, .bin .xor (.tmp 12) (.tmp 16), none, [12, 16], []⟩,
    ⟨some 3, .mv (.tmp 17), none, [17], []⟩] [0, 1, 2, 3, 4, 9]))
(.reg false [⟨some 18, .bin .add (.tmp 9) (.const (.int .i64 (1))), none, [9], []⟩,
    ⟨some 9, .mv (.tmp 18), none, [18], []⟩] [0, 1, 2, 3, 4, 9])))))))
(.reg false [⟨some 19, .mv (.tmp 2), none, [2], []⟩,
    ⟨some 20, .mv (.tmp 3), none, [3], []⟩,
    ⟨some 21, .aidx 1 16 (.tmp 1) (.tmp 19), none, [1, 19], []⟩,
    ⟨none, .store 1 (.tmp 21) (.tmp 20), none, [21, 20], []⟩] [0, 1, 4])))))
(.reg false [⟨some 22, .bin .add (.tmp 4) (.const (.int .i64 (1))), none, [4], []⟩,
    ⟨some 4, .mv (.tmp 22), none, [22], []⟩] [0, 1, 4])))))))
(.seq (.reg false [⟨some 23, .load true 16 (.tmp 1), none, [1], []⟩,
    ⟨none, .store 16 (.tmp 0) (.tmp 23), none, [0, 23], []⟩] [0])
.ret))))
theorem ok_124 : FnOk Tryz.prog 124 24 ac_124 [.cell 0 true 16] := ⟨Tryz.f124, Tryz.func124, by kernel_rfl, by kernel_rfl, by kernel_rfl, by kernel_rfl, by kernel_rfl⟩
def ac_111 : AC :=
(.seq (.reg false [⟨some 4, .mv (.const (.int .u32 (0))), none, [], []⟩] [0, 1])
(.seq (.reg false [⟨some 8, .call 124 [], none, [], []⟩,
    ⟨some 5, .new 187 [(.int .u32 (0)), (.int .u32 (0)), (.int .u32 (0)), (.int .u32 (0)), (.int .u32 (0)), (.int .u32 (0)), (.int .u32 (0)), (.int .u32 (0)), (.int .u32 (0)), (.int .u32 (0)), (.int .u32 (0)), (.int .u32 (0)), (.int .u32 (0)), (.int .u32 (0)), (.int .u32 (0)), (.int .u32 (0))], none, [], []⟩,
    ⟨none, .store 16 (.tmp 5) (.tmp 8), none, [5, 8], []⟩] [0, 1, 5])
(.seq (.reg false [⟨some 9, .mv (.tmp 0), none, [0], []⟩,
    ⟨some 10, .un .xor (.tmp 9), none, [9], []⟩,
    ⟨some 0, .mv (.tmp 10), none, [10], []⟩] [0, 1, 5])
(.seq (.seq (.reg false [⟨some 11, .mv (.tmp 1), none, [1], []⟩,
    ⟨some 12, .len false (.tmp 11), none, [11], []⟩,
    ⟨some 13, .mv (.const (.int .i64 (0))), none, [], []⟩] [0, 5, 11, 12, 13])
(.block 0 (.loop (.seq (.reg false [⟨some 14, .bin .lss (.tmp 13) (.tmp 12), none, [13, 12], []⟩] [0, 5, 11, 12, 13, 14])
(.seq (.cond (.tmp 14)
.skip
(.exit 0))
(.seq (.block 1 (.seq (.reg false [⟨some 15, .idx 1 (.tmp 11) (.tmp 13), none, [11, 13], []⟩,
    ⟨some 16, .load false 1 (.tmp 15), none, [15], []⟩,
    ⟨some 7, .mv (.tmp 16), none, [16], []⟩] [0, 5, 7, 11, 12, 13])
(.seq (.reg false [⟨some 17, .mv (.tmp 0), none, [0], []⟩,
    ⟨some 18, .mv (.tmp 7), none, [7], []⟩,
    ⟨some 19, .conv .u32 (.tmp 18), none, [18], []⟩,
    ⟨some 20, .bin .xor (.tmp 17) (.tmp 19), none, [17, 19], []⟩,
    ⟨some 0, .mv (.tmp 20), none, [20], []⟩] [0, 5, 11, 12, 13])
(.seq (.reg false [⟨some 21, .mv (.tmp 0), none, [0], []⟩,
    ⟨some 22, .bin .shr (.tmp 21) (.const (.int .u64 (4))), none, [21], []⟩,
    ⟨some 23, .mv (.tmp 0), none, [0], []⟩,
    ⟨some 24, .bin .and (.tmp 23) (.const (.int .u32 (15))), none, [23], []⟩,
    ⟨some 25, .aidx 1 16 (.tmp 5) (.tmp 24), none, [5, 24], []⟩,
    ⟨some 26, .load false 1 (.tmp 25), none, [25], []⟩,
    ⟨some 27, .bin .xor (.tmp 22) (.tmp 26), none, [22, 26], []⟩,
    ⟨some 0, .mv (.tmp 27), none, [27], []⟩] [0, 5, 11, 12, 13])
(.reg false [⟨some 28, .mv (.tmp 0), none, [0], []⟩,
    ⟨some 29, .bin .shr (.tmp 28) (.const (.int .u64 (4))), none, [28], []⟩,
    ⟨some 30, .mv (.tmp 0), none, [0], []⟩,
    ⟨some 31, .bin .and (.tmp 30) (.const (.int .u32 (15))), none, [30], []⟩,
    ⟨some 32, .aidx 1 16 (.tmp 5) (.tmp 31), none, [5, 31], []⟩,
    ⟨some 33, .load false 1 (.tmp 32), none, [32], []⟩,
    ⟨some 34, .bin .xor (.tmp 29) (.tmp 33), none, [29, 33], []⟩,
    ⟨some 0, .mv (.tmp 34), none, [34], []⟩] [0, 5, 11, 12, 13])))))
(.reg false [⟨some 35, .bin .add (.tmp 13) (.const (.int .i64 (1))), none, [13], []⟩,
    ⟨some 13, .mv (.tmp 35), none, [35], []⟩] [0, 5, 11, 12, 13])))))))
(.seq (.reg false [⟨some 36, .mv (.tmp 0), none, [0], []⟩,
    ⟨some 37, .un .xor (.tmp 36), none, [36], []⟩,
    ⟨some 4, .mv (.tmp 37), none, [37], []⟩] [4])
.ret)))))
theorem ok_111 : FnOk Tryz.prog 111 38 ac_111 [.tmp 4] := ⟨Tryz.f111, Tryz.func111, by kernel_rfl, by kernel_rfl, by kernel_rfl, by kernel_rfl, by kernel_rfl⟩
def ac_91 : AC :=
(.seq (.reg false [⟨some 2, .mv (.const (.int .u32 (0))), none, [], []⟩] [0])
(.seq (.reg false [⟨some 3, .mv (.tmp 0), none, [0], []⟩,
    ⟨some 4, .call 111 [(.const (.int .u32 (0))), (.tmp 3)], none, [3], []⟩,
    ⟨some 2, .mv (.tmp 4), none, [4], []⟩] [2])
.ret))
theorem ok_91 : FnOk Tryz.prog 91 5 ac_91 [.tmp 2] := ⟨Tryz.f91, Tryz.func91, by kernel_rfl, by kernel_rfl, by kernel_rfl, by kernel_rfl, by kernel_rfl⟩
def ac_90 : AC :=
(.seq (.reg false [⟨some 2, .mv (.const (.slice none 0 0)), none, [], []⟩] [0])
(.seq (.reg false [⟨some 5, .mksl 5 1 1 [(.int .u8 (0))] (.const (.int .i64 (4))) (.const (.int .i64 (4))), none, [], []⟩,
    ⟨some 3, .mv (.tmp 5), none, [5], []⟩] [0, 3])
(.seq (.seq (.reg false [⟨some 6, .mv (.tmp 3), none, [3], []⟩,
    ⟨some 7, .len false (.tmp 6), none, [6], []⟩,
    ⟨some 8, .mv (.const (.int .i64 (0))), none, [], []⟩] [0, 3, 7, 8])
(.block 0 (.loop (.seq (.reg false [⟨some 9, .bin .lss (.tmp 8) (.tmp 7), none, [8, 7], []⟩] [0, 3, 7, 8, 9])
(.seq (.cond (.tmp 9)
.skip
(.exit 0))
(.seq (.block 1 (.seq (.reg false [⟨some 10, .mv (.tmp 8), none, [8], []⟩,
    ⟨some 4, .mv (.tmp 10), none, [10], []⟩] [0, 3, 4, 7, 8])
(.reg false [⟨some 11, .mv (.tmp 3), none, [3], []⟩,
    ⟨some 12, .mv (.tmp 4), none, [4], []⟩,
    ⟨some 13, .mv (.tmp 0), none, [0], []⟩,
    ⟨some 14, .mv (.tmp 4), none, [4], []⟩,
    ⟨some 15, .bin .mul (.const (.int .i64 (8))) (.tmp 14), none, [14], []⟩,
    ⟨some 16, .bin .shr (.tmp 13) (.tmp 15), none, [13, 15], []⟩,
    ⟨some 17, .conv .u8 (.tmp 16), none, [16], []⟩,
    ⟨some 18, .idx 1 (.tmp 11) (.tmp 12), none, [11, 12], []⟩,
    ⟨none, .store 1 (.tmp 18) (.tmp 17), none, [18, 17], []⟩] [0, 3, 7, 8])))
(.reg false [⟨some 19, .bin .add (.tmp 8) (.const (.int .i64 (1))), none, [8], []⟩,
    ⟨some 8, .mv (.tmp 19), none, [19], []⟩] [0, 3, 7, 8])))))))
(.seq (.reg false [⟨some 20, .mv (.tmp 3), none, [3], []⟩,
    ⟨some 2, .mv (.tmp 20), none, [20], []⟩] [2])
.ret))))
theorem ok_90 : FnOk Tryz.prog 90 21 ac_90 [.tmp 2] := ⟨Tryz.f90, Tryz.func90, by kernel_rfl, by kernel_rfl, by kernel_rfl, by kernel_rfl, by kernel_rfl⟩
def ac_110 : AC :=
(.seq (.reg false [⟨some 4, .mv (.const (.slice none 0 0)), none, [], []⟩] [0, 1])
(.seq (.seq (.reg false [⟨some 5, .mv (.tmp 1), none, [1], []⟩,
    ⟨some 6, .bin .lss (.tmp 5) (.const (.int .i64 (0))), none, [5], []⟩] [0, 1, 6])
(.cond (.tmp 6)
(.reg false [⟨some 7, .mkif 9 (.const (.string (ByteArray.mk #[99, 97, 110, 110, 111, 116, 32, 98, 101, 32, 110, 101, 103, 97, 116, 105, 118, 101]))), none, [], []⟩,
    ⟨none, .die , none, [7], []⟩] [0, 1])
.skip))
(.seq (.seq (.reg false [⟨some 8, .mv (.tmp 1), none, [1], []⟩,
    ⟨some 9, .mv (.tmp 0), none, [0], []⟩,
    ⟨some 10, .cap (.tmp 9), none, [9], []⟩,
    ⟨some 11, .mv (.tmp 0), none, [0], []⟩,
    ⟨some 12, .len false (.tmp 11), none, [11], []⟩,
    ⟨some 13, .bin .sub (.tmp 10) (.tmp 12), none, [10, 12], []⟩,
    ⟨some 14, .bin .sub (.tmp 8) (.tmp 13), none, [8, 13], []⟩,
    ⟨some 1, .mv (.tmp 14), none, [14], []⟩] [0, 1])
(.seq (.reg false [⟨some 15, .mv (.tmp 1), none, [1], []⟩,
    ⟨some 16, .bin .gtr (.tmp 15) (.const (.int .i64 (0))), none, [15], []⟩] [0, 1, 16])
(.cond (.tmp 16)
(.reg false [⟨some 17, .mv (.tmp 0), none, [0], []⟩,
    ⟨some 18, .mv (.tmp 0), none, [0], []⟩,
    ⟨some 19, .cap (.tmp 18), none, [18], []⟩,
    ⟨some 20, .slice 1 (.tmp 17) none (some (.tmp 19)), none, [17, 19], []⟩,
    ⟨some 21, .mv (.tmp 1), none, [1], []⟩,
    ⟨some 22, .appz 5 1 1 [(.int .u8 (0))] (.tmp 20) (.tmp 21), none, [20, 21], []⟩,
    ⟨some 23, .mv (.tmp 0), none, [0], []⟩,
    ⟨some 24, .len false (.tmp 23), none, [23], []⟩,
    ⟨some 25, .slice 1 (.tmp 22) none (some (.tmp 24)), none, [22, 24], []⟩,
    ⟨some 0, .mv (.tmp 25), none, [25], []⟩] [0])
.skip)))
(.seq (.reg false [⟨some 26, .mv (.tmp 0), none, [0], []⟩,
    ⟨some 4, .mv (.tmp 26), none, [26], []⟩] [4])
.ret))))
theorem ok_110 : FnOk Tryz.prog 110 27 ac_110 [.tmp 4] := ⟨Tryz.f110, Tryz.func110, by kernel_rfl, by kernel_rfl, by kernel_rfl, by kernel_rfl, by kernel_rfl⟩
def ac_89 : AC :=
(.seq (.reg false [⟨some 2, .mv (.const (.slice none 0 0)), none, [], []⟩] [0])
(.seq (.reg false [⟨some 3, .mv (.const (.int .i64 (0))), none, [], []⟩] [0, 3])
(.seq (.seq (.reg false [⟨some 9, .mv (.tmp 0), none, [0], []⟩,
    ⟨some 10, .len false (.tmp 9), none, [9], []⟩,
    ⟨some 11, .mv (.const (.int .i64 (0))), none, [], []⟩] [0, 3, 9, 10, 11])
(.block 0 (.loop (.seq (.reg false [⟨some 12, .bin .lss (.tmp 11) (.tmp 10), none, [11, 10], []⟩] [0, 3, 9, 10, 11, 12])
(.seq (.cond (.tmp 12)
.skip
(.exit 0))
(.seq (.block 1 (.seq (.reg false [⟨some 13, .idx 1 (.tmp 9) (.tmp 11), none, [9, 11], []⟩,
    ⟨some 14, .load false 1 (.tmp 13), none, [13], []⟩,
    ⟨some 5, .mv (.tmp 14), none, [14], []⟩] [0, 3, 5, 9, 10, 11])
(.seq (.reg false [⟨some 15, .mv (.tmp 3), none, [3], []⟩,
    ⟨some 16, .mv (.tmp 5), none, [5], []⟩,
    ⟨some 17, .len false (.tmp 16), none, [16], []⟩,
    ⟨some 18, .bin .add (.tmp 15) (.tmp 17), none, [15, 17], []⟩,
    ⟨some 3, .mv (.tmp 18), none, [18], []⟩] [0, 3, 9, 10, 11])
(.seq (.reg false [⟨some 19, .mv (.tmp 3), none, [3], []⟩,
    ⟨some 20, .bin .lss (.tmp 19) (.const (.int .i64 (0))), none, [19], []⟩] [0, 3, 9, 10, 11, 20])
(.cond (.tmp 20)
(.reg false [⟨some 21, .mkif 9 (.const (.string (ByteArray.mk #[108, 101, 110, 32, 111, 117, 116, 32, 111, 102, 32, 114, 97, 110, 103, 101]))), none, [], []⟩,
    ⟨none, .die , none, [21], []⟩] [0, 3, 9, 10, 11])
.skip)))))
(.reg false [⟨some 22, .bin .add (.tmp 11) (.const (.int .i64 (1))), none, [11], []⟩,
    ⟨some 11, .mv (.tmp 22), none, [22], []⟩] [0, 3, 9, 10, 11])))))))
(.seq (.reg false [⟨some 23, .mv (.tmp 3), none, [3], []⟩,
    ⟨some 24, .call 110 [(.const (.slice none 0 0)), (.tmp 23)], none, [23], []⟩,
    ⟨some 6, .mv (.tmp 24), none, [24], []⟩] [0, 6])
(.seq (.seq (.reg false [⟨some 25, .mv (.tmp 0), none, [0], []⟩,
    ⟨some 26, .len false (.tmp 25), none, [25], []⟩,
    ⟨some 27, .mv (.const (.int .i64 (0))), none, [], []⟩] [6, 25, 26, 27])
(.block 2 (.loop (.seq (.reg false [⟨some 28, .bin .lss (.tmp 27) (.tmp 26), none, [27, 26], []⟩] [6, 25, 26, 27, 28])
(.seq (.cond (.tmp 28)
.skip
(.exit 2))
(.seq (.block 3 (.seq (.reg false [⟨some 29, .idx 1 (.tmp 25) (.tmp 27), none, [25, 27], []⟩,
    ⟨some 30, .load false 1 (.tmp 29), none, [29], []⟩,
    ⟨some 8, .mv (.tmp 30), none, [30], []⟩] [6, 8, 25, 26, 27])
(.reg false [⟨some 31, .mv (.tmp 6), none, [6], []⟩,
    ⟨some 32, .mv (.tmp 8), none, [8], []⟩,
    ⟨some 33, .append 5 1 1 (.tmp 31) (.tmp 32), none, [31, 32], []⟩,
    ⟨some 6, .mv (.tmp 33), none, [33], []⟩] [6, 25, 26, 27])))
(.reg false [⟨some 34, .bin .add (.tmp 27) (.const (.int .i64 (1))), none, [27], []⟩,
    ⟨some 27, .mv (.tmp 34), none, [34], []⟩] [6, 25, 26, 27])))))))
(.seq (.reg false [⟨some 35, .mv (.tmp 6), none, [6], []⟩,
    ⟨some 2, .mv (.tmp 35), none, [35], []⟩] [2])
.ret))))))
theorem ok_89 : FnOk Tryz.prog 89 36 ac_89 [.tmp 2] := ⟨Tryz.f89, Tryz.func89, by kernel_rfl, by kernel_rfl, by kernel_rfl, by kernel_rfl, by kernel_rfl⟩
def ac_60 : AC :=
(.seq (.reg false [⟨some 2, .mv (.const (.slice none 0 0)), none, [], []⟩] [0])
(.seq (.reg false [⟨some 3, .mv (.tmp 0), none, [0], []⟩,
    ⟨some 4, .mv (.tmp 0), none, [0], []⟩,
    ⟨some 5, .call 91 [(.tmp 4)], none, [4], []⟩,
    ⟨some 6, .call 90 [(.tmp 5)], none, [5], []⟩,
    ⟨some 7, .bslice 22 1 2 [(.slice none 0 0), (.slice none 0 0)] [(0, 1, (.tmp 3)), (1, 1, (.tmp 6))], none, [3, 6], []⟩,
    ⟨some 8, .call 89 [(.tmp 7)], none, [7], []⟩,
    ⟨some 2, .mv (.tmp 8), none, [8], []⟩] [2])
.ret))
theorem ok_60 : FnOk Tryz.prog 60 9 ac_60 [.tmp 2] := ⟨Tryz.f60, Tryz.func60, by kernel_rfl, by kernel_rfl, by kernel_rfl, by kernel_rfl, by kernel_rfl⟩
def ac_94 : AC :=
(.seq (.reg false [⟨some 4, .mv (.const (.bool false)), none, [], []⟩] [0, 1])
(.seq (.reg false [⟨some 5, .mv (.tmp 0), none, [0], []⟩,
    ⟨some 6, .b2s (.tmp 5), none, [5], []⟩,
    ⟨some 7, .mv (.tmp 1), none, [1], []⟩,
    ⟨some 8, .b2s (.tmp 7), none, [7], []⟩,
    ⟨some 9, .bin .eql (.tmp 6) (.tmp 8), none, [6, 8], []⟩,
    ⟨some 4, .mv (.tmp 9), none, [9], []⟩] [4])
.ret))
theorem ok_94 : FnOk Tryz.prog 94 10 ac_94 [.tmp 4] := ⟨Tryz.f94, Tryz.func94, by kernel_rfl, by kernel_rfl, by kernel_rfl, by kernel_rfl, by kernel_rfl⟩
def ac_95 : AC :=
(.seq (.reg false [⟨some 2, .mv (.const (.slice none 0 0)), none, [], []⟩] [0])
(.seq (.seq (.reg false [⟨some 3, .mv (.tmp 0), none, [0], []⟩,
    ⟨some 4, .isnil false (.slice none 0 0) (.tmp 3), none, [3], []⟩] [0, 4])
(.cond (.tmp 4)
(.seq (.reg false [⟨some 2, .mv (.const (.slice none 0 0)), none, [], []⟩] [2])
.ret)
.skip))
(.seq (.reg false [⟨some 5, .bslice 5 1 0 [] [], none, [], []⟩,
    ⟨some 6, .mv (.tmp 0), none, [0], []⟩,
    ⟨some 7, .append 5 1 1 (.tmp 5) (.tmp 6), none, [5, 6], []⟩,
    ⟨some 2, .mv (.tmp 7), none, [7], []⟩] [2])
.ret)))
theorem ok_95 : FnOk Tryz.prog 95 8 ac_95 [.tmp 2] := ⟨Tryz.f95, Tryz.func95, by kernel_rfl, by kernel_rfl, by kernel_rfl, by kernel_rfl, by kernel_rfl⟩
def ac_65 : AC :=
(.seq (.reg false [⟨some 2, .mv (.const (.slice none 0 0)), none, [], []⟩,
    ⟨some 3, .mv (.const (.int .i64 (0))), none, [], []⟩] [0])
(.seq (.seq (.reg false [⟨some 6, .mv (.tmp 0), none, [0], []⟩,
    ⟨some 7, .len false (.tmp 6), none, [6], []⟩,
    ⟨some 8, .bin .lss (.tmp 7) (.const (.int .i64 (4))), none, [7], []⟩] [0, 8])
(.cond (.tmp 8)
(.seq (.reg false [⟨some 2, .mv (.const (.slice none 0 0)), none, [], []⟩,
    ⟨some 3, .mv (.const (.int .i64 (8))), none, [], []⟩] [2, 3])
.ret)
.skip))
(.seq (.reg true [⟨some 9, .mv (.tmp 0), none, [0], []⟩,
    ⟨some 10, .mv (.tmp 0), none, [0], []⟩,
    ⟨some 11, .len false (.tmp 10), none, [10], [1]⟩,
    ⟨some 12, .bin .sub (.tmp 11) (.const (.int .i64 (4))), none, [11], [2, 1]⟩,
    ⟨some 13, .slice 1 (.tmp 9) none (some (.tmp 12)), none, [9, 12], [0, 3, 2, 1]⟩,
    ⟨some 14, .mv (.tmp 0), none, [0], []⟩,
    ⟨some 15, .mv (.tmp 0), none, [0], []⟩,
    ⟨some 16, .len false (.tmp 15), none, [15], [6]⟩,
    ⟨some 17, .bin .sub (.tmp 16) (.const (.int .i64 (4))), none, [16], [7, 6]⟩,
    ⟨some 18, .slice 1 (.tmp 14) (some (.tmp 17)) none, none, [14, 17], [5, 8, 7, 6]⟩,
    ⟨some 4, .mv (.tmp 13), none, [13], [4, 0, 1, 2, 3]⟩,
    ⟨some 5, .mv (.tmp 18), none, [18], [9, 10, 0, 1, 2, 3, 4, 5, 6, 7, 8]⟩] [4, 5])
(.seq (.seq (.reg false [⟨some 19, .mv (.tmp 5), none, [5], []⟩,
    ⟨some 20, .mv (.tmp 4), none, [4], []⟩,
    ⟨some 21, .call 91 [(.tmp 20)], none, [20], []⟩,
    ⟨some 22, .call 90 [(.tmp 21)], none, [21], []⟩,
    ⟨some 23, .call 94 [(.tmp 19), (.tmp 22)], none, [19, 22], []⟩,
    ⟨some 24, .un .not (.tmp 23), none, [23], []⟩] [4, 24])
(.cond (.tmp 24)
(.seq (.reg false [⟨some 2, .mv (.const (.slice none 0 0)), none, [], []⟩,
    ⟨some 3, .mv (.const (.int .i64 (21))), none, [], []⟩] [2, 3])
.ret)
.skip))
(.seq (.reg false [⟨some 25, .mv (.tmp 4), none, [4], []⟩,
    ⟨some 26, .call 95 [(.tmp 25)], none, [25], []⟩,
    ⟨some 2, .mv (.tmp 26), none, [26], []⟩,
    ⟨some 3, .mv (.const (.int .i64 (0))), none, [], []⟩] [2, 3])
.ret)))))
theorem ok_65 : FnOk Tryz.prog 65 27 ac_65 [.tmp 2, .tmp 3] := ⟨Tryz.f65, Tryz.func65, by kernel_rfl, by kernel_rfl, by kernel_rfl, by kernel_rfl, by kernel_rfl⟩
end Go.Proofs.YtdenddhdeloceaaGreatDoor
namespace Go.Proofs.YtdenddhdeloceaaGreatDoor
open Go.RowKit
set_option maxRecDepth 100000
theorem copyBytes_spec (fr : Bool) (l : List Int) (nb : Nat) (h : l.length ≤ 140737488355328) : ASound Tryz.prog 9 [fB fr l] nb (.ret (fB true l) []) := by
  refine ok_9.sound (by simp) ⟨al_fB l, trivial⟩ ?_
  simp only [ac_9, len_B, h, TT, ↓reduceIte, Nat.reduceEqDiff, Nat.reduceAdd, Nat.reduceMul, reduceCtorEq, Nat.reduceLeDiff]
  refine Ends.weak (Weak.freezeC 400000 rfl (l := [(2, fB true l)]) (h := []) ?_ ?_) (Ends.data (.inr rfl) (by simp [ET, fB]) (al_fB l))
  · simp [WT]
  · simp [WT]
theorem num_spec (x : Int) (nb : Nat) : ASound Tryz.prog 15 [.v (.int .i64 x)] nb (.ret (.v (.int .i64 x)) []) := by
  refine ok_15.sound (by simp) ⟨trivial, trivial⟩ ?_
  simp only [ac_15, TT, ↓reduceIte, Nat.reduceEqDiff, Nat.reduceAdd, Nat.reduceMul, reduceCtorEq, Nat.reduceLeDiff]
  exact Ends.data (.inr rfl) (by simp [ET]) trivial
def nibC (k : Nat) : List AV := (List.range 16).map fun j => if j < k then tabV j else .v (.int .u32 0)
theorem nib_set {k : Nat} (h : k < 16) : (nibC k).set k (tabV k) = nibC (k + 1) := by
  apply List.ext_getElem?
  intro j
  rw [List.getElem?_set]
  simp only [nibC, List.length_map, List.length_range, List.getElem?_map]
  by_cases hj : j < 16
  · rw [List.getElem?_range hj]
    by_cases e : k = j
    · subst e; simp [h]
    · rw [if_neg e]
      simp only [Option.map_some]
      congr 2
      simp only [eq_iff_iff]
      omega
  · have h2 : (List.range 16)[j]? = none := by rw [List.getElem?_eq_none_iff]; simp; omega
    rw [h2, if_neg (by omega)]; rfl
theorem nib_len (k : Nat) : (nibC k).length = 16 := by simp [nibC]
theorem nib_16 : nibC 16 = tabA := rfl
theorem al_nib {p : Nat → Prop} (k : Nat) : AlL p (nibC k) := AlL_map (e := fun j => if j < k then tabV j else .v (.int .u32 0)) (fun j => by split <;> trivial) _
theorem ren_nib {ρ : Nat → Nat} (k : Nat) : renL ρ (nibC k) = nibC k := renL_id (p := fun _ => False) (fun _ h => h.elim) (al_nib k)
theorem tab16 : tabA[0]? = some (tabV 0) ∧ tabA[1]? = some (tabV 1) ∧ tabA[2]? = some (tabV 2) ∧ tabA[3]? = some (tabV 3) ∧ tabA[4]? = some (tabV 4) ∧ tabA[5]? = some (tabV 5) ∧ tabA[6]? = some (tabV 6) ∧ tabA[7]? = some (tabV 7) ∧ tabA[8]? = some (tabV 8) ∧ tabA[9]? = some (tabV 9) ∧ tabA[10]? = some (tabV 10) ∧ tabA[11]? = some (tabV 11) ∧ tabA[12]? = some (tabV 12) ∧ tabA[13]? = some (tabV 13) ∧ tabA[14]? = some (tabV 14) ∧ tabA[15]? = some (tabV 15) := ⟨rfl, rfl, rfl, rfl, rfl, rfl, rfl, rfl, rfl, rfl, rfl, rfl, rfl, rfl, rfl, rfl⟩
def cbn : Nat → BitVec 32 → BitVec 32
  | 0, c => c
  | n + 1, c => cbit (cbn n c)
theorem lit_poly : BitVec.ofInt 32 3988292384 = 3988292384#32 := rfl
theorem lit_one : BitVec.ofInt 32 1 = 1#32 := rfl
theorem lit_15 : BitVec.ofInt 32 15 = 15#32 := rfl
abbrev z16 : List AV := [.v (.int .u32 0), .v (.int .u32 0), .v (.int .u32 0), .v (.int .u32 0), .v (.int .u32 0), .v (.int .u32 0), .v (.int .u32 0), .v (.int .u32 0), .v (.int .u32 0), .v (.int .u32 0), .v (.int .u32 0), .v (.int .u32 0), .v (.int .u32 0), .v (.int .u32 0), .v (.int .u32 0), .v (.int .u32 0)]
abbrev L_nib (k : Nat) : ASt := ⟨envOf [(0, .op 0 0), (1, .op 1 0), (4, .v (.int .i64 k))], heapOf [(0, .row true 187 z16), (1, .row true 187 (nibC k))], 2⟩
abbrev L_nib2 (k j : Nat) : ASt := ⟨envOf [(0, .op 0 0), (1, .op 1 0), (2, .v (.int .i64 k)), (3, .v (.int .u32 ((cbn j (BitVec.ofNat 32 k)).toNat))), (4, .v (.int .i64 k)), (9, .v (.int .i64 j))], heapOf [(0, .row true 187 z16), (1, .row true 187 (nibC k))], 2⟩
set_option maxHeartbeats 1000000 in
theorem nibbles_spec (nb : Nat) : ASound Tryz.prog 124 [] nb (.ret (.agg tabA) []) := by
  refine ok_124.sound (by simp) trivial ?_
  simp only [ac_124, TT, ↓reduceIte, Nat.reduceEqDiff, Nat.reduceAdd, Nat.reduceMul, reduceCtorEq, Nat.reduceLeDiff]
  refine AWc.family L_nib (fun k => k ≤ 16) (fun k => 16 - k) 0 (by omega) ?_ ?_
  · refine Weak.calc [(0, 0), (100000, 1)] (by decide) ?_ ?_
    · simp [WT]
    · simp [WT]; rfl
  · intro k hk
    by_cases hlt : k < 16
    · have e1 : (k : Int) < 16 := by omega
      have e0 : (0 : Int) ≤ (k : Int) := by omega
      simp only [L_nib, e1, u32_wrap, lit32, TT, ↓reduceIte, Nat.reduceEqDiff, Nat.reduceAdd, Nat.reduceMul, reduceCtorEq, Nat.reduceLeDiff]
      refine AWc.family (L_nib2 k) (fun j => j ≤ 4) (fun j => 4 - j) 0 (by omega) ?_ ?_
      · refine Weak.calc [(0, 0), (1, 1)] (by decide) ?_ ?_
        · simp [WT, cbn, al_nib, ren_nib]
        · simp [WT, cbn, al_nib, ren_nib]
      · intro j hj
        by_cases hjl : j < 4
        · have f1 : (j : Int) < 4 := by omega
          simp only [L_nib2, f1, sh_1, and_u32, xor_u32, neg_u32, u32_back, lit_poly, lit_one, cbit_prog, TT, ↓reduceIte, Nat.reduceEqDiff, Nat.reduceAdd, Nat.reduceMul, reduceCtorEq, Nat.reduceLeDiff]
          refine famC_next (j + 1) (by omega) (by omega) ?_
          refine Weak.calc [(0, 0), (1, 1)] (by decide) ?_ ?_ <;> simp [WT, cbn, al_nib, ren_nib, wrap64 (x := (j : Int) + 1) (by omega)]
        · obtain rfl : j = 4 := by omega
          have f1 : ¬ ((4 : Nat) : Int) < 4 := by decide
          have hs : (nibC k).set k (.v (.int .u32 ((cbn 4 (BitVec.ofNat 32 k)).toNat))) = nibC (k + 1) := nib_set hlt
          have e2 : (k : Int) < ((16 : Nat) : Int) := by omega
          simp only [L_nib2, f1, e0, e1, e2, hs, nib_len, TT, ↓reduceIte, Nat.reduceEqDiff, Nat.reduceAdd, Nat.reduceMul, reduceCtorEq, Nat.reduceLeDiff]
          rw [if_pos (by omega)]
          refine famC_next (k + 1) (by omega) (by omega) ?_
          refine Weak.calc [(0, 0), (1, 1)] (by decide) ?_ ?_ <;> simp [WT, al_nib, ren_nib, wrap64 (x := (k : Int) + 1) (by omega)]
    · obtain rfl : k = 16 := by omega
      have e1 : ¬ ((16 : Nat) : Int) < 16 := by decide
      simp only [L_nib, e1, nib_16, tab16, len_tab, TT, ↓reduceIte, Nat.reduceEqDiff, Nat.reduceAdd, Nat.reduceMul, reduceCtorEq, Nat.reduceLeDiff]
      exact Ends.data (.inr rfl) (by simp [ET]; rfl) al_tab
end Go.Proofs.YtdenddhdeloceaaGreatDoor
namespace Go.Proofs.YtdenddhdeloceaaGreatDoor
open Go.RowKit
set_option maxRecDepth 100000
theorem nib_lt (d : BitVec 32) : (d &&& 15#32).toNat < 16 := by
  rw [BitVec.toNat_and]
  exact Nat.and_lt_two_pow d.toNat (n := 4) (show (15#32).toNat < 2 ^ 4 by decide)
theorem get_tab2 (d : BitVec 32) : tabA[(d &&& 15#32).toNat]? = some (.v (.int .u32 ((cbit4 (d &&& 15#32)).toNat))) := by
  rw [get_tab (nib_lt d)]
  simp only [tabV, BitVec.ofNat_toNat, BitVec.setWidth_eq]
theorem cbit4_prog (c : BitVec 32) : (c >>> 4) ^^^ cbit4 (c &&& 15#32) = cbit4 c := (cbit4_nib c).symm
theorem nib_ok (d : BitVec 32) : ((0 : Int) ≤ ((d &&& 15#32).toNat : Int) ∧ ((d &&& 15#32).toNat : Int) < ((16 : Nat) : Int)) = True := eq_true ⟨by omega, by have := nib_lt d; omega⟩
theorem take_snoc {α : Type} {l : List α} {k : Nat} {x : α} (h : l[k]? = some x) : l.take (k + 1) = l.take k ++ [x] := by
  obtain ⟨hk, rfl⟩ := List.getElem?_eq_some_iff.1 h
  rw [List.take_succ_eq_append_getElem hk]
theorem cgo_snoc {c : BitVec 32} {l : List Int} {k : Nat} {x : Int} (h : l[k]? = some x) : cgo c (l.take (k + 1)) = cbit4 (cbit4 (cgo c (l.take k) ^^^ BitVec.ofInt 32 x)) := by rw [take_snoc h, crc_snoc]; rfl
abbrev L_ext (fr : Bool) (c : BitVec 32) (l : List Int) (k : Nat) : ASt := ⟨envOf [(0, .v (.int .u32 ((cgo c (l.take k)).toNat))), (5, .op 0 0), (11, fB fr l), (12, .v (.int .i64 l.length)), (13, .v (.int .i64 k))], heapOf [(0, .row true 187 tabA)], 1⟩
set_option maxHeartbeats 1000000 in
theorem ext_spec (fr : Bool) (c : BitVec 32) (l : List Int) (nb : Nat) (hl : l.length ≤ 140737488355328) : ASound Tryz.prog 111 [.v (.int .u32 (c.toNat)), fB fr l] nb (.ret (.v (.int .u32 ((~~~ (cgo (~~~ c) l)).toNat))) []) := by
  refine ok_111.sound (by simp) ⟨trivial, al_fB l, trivial⟩ ?_
  simp only [ac_111, TT, ↓reduceIte, Nat.reduceEqDiff, Nat.reduceAdd, Nat.reduceMul, reduceCtorEq, Nat.reduceLeDiff]
  refine ⟨_, nibbles_spec _, ?_⟩
  simp only [len_tab, not_u32, u32_back, TT, ↓reduceIte, Nat.reduceEqDiff, Nat.reduceAdd, Nat.reduceMul, reduceCtorEq, Nat.reduceLeDiff]
  rw [setN_all tabA z16 rfl]
  refine AWc.family (L_ext fr (~~~ c) l) (fun k => k ≤ l.length) (fun k => l.length - k) 0 (Nat.zero_le _) ?_ ?_
  · refine Weak.calc [(200000, 0)] (by decide) ?_ ?_ <;> simp [WT, al_tab, ren_tab, cgo]
  · intro k hk
    by_cases hlt : k < l.length
    · obtain ⟨x, hx, e1, e0⟩ := lt_at hlt
      simp only [L_ext, e1, e0, get_B hx, u32_wrap x, xor_u32, and_u32, u32_back, sh_4, lit_15, nib_ok, get_tab2, cbit4_prog, TT, ↓reduceIte, Nat.reduceEqDiff, Nat.reduceAdd, Nat.reduceMul, reduceCtorEq, Nat.reduceLeDiff]
      refine famC_next (k + 1) (by omega) (by omega) ?_
      refine Weak.calc [(0, 0)] (by decide) ?_ ?_ <;> simp [WT, al_tab, ren_tab, cgo_snoc hx, wrap64 (x := (k : Int) + 1) (by omega)]
    · obtain rfl : k = l.length := by omega
      have e1 : ¬ ((l.length : Int) < (l.length : Int)) := by omega
      simp only [L_ext, e1, not_u32, u32_back, List.take_length, TT, ↓reduceIte, Nat.reduceEqDiff, Nat.reduceAdd, Nat.reduceMul, reduceCtorEq, Nat.reduceLeDiff]
      exact Ends.data (.inr rfl) (by simp [ET]) trivial
theorem sum_spec (fr : Bool) (l : List Int) (nb : Nat) (hl : l.length ≤ 140737488355328) : ASound Tryz.prog 91 [fB fr l] nb (.ret (.v (.int .u32 ((crc l).toNat))) []) := by
  refine ok_91.sound (by simp) ⟨al_fB l, trivial⟩ ?_
  simp only [ac_91, TT, ↓reduceIte, Nat.reduceEqDiff, Nat.reduceAdd, Nat.reduceMul, reduceCtorEq, Nat.reduceLeDiff]
  refine ⟨_, ext_spec fr 0#32 l _ hl, ?_⟩
  simp only [TT, ↓reduceIte, Nat.reduceEqDiff, Nat.reduceAdd, Nat.reduceMul, reduceCtorEq, Nat.reduceLeDiff]
  exact Ends.data (.inr rfl) (by simp [ET, crc]) trivial
end Go.Proofs.YtdenddhdeloceaaGreatDoor
namespace Go.Proofs.YtdenddhdeloceaaGreatDoor
open Go.RowKit
set_option maxRecDepth 100000
def okB (l : List Int) : Prop := ∀ x ∈ l, 0 ≤ x ∧ x < 256
theorem ASound.nil1 {P : Program} {f : FuncId} {fr : Bool} {rest : List AV} {nb : Nat} {am : AM} (h : ∀ A k, ASound P f (.v (.slice A 0 k) :: rest) nb am) : ASound P f (.fs fr [] 0 :: rest) nb am := by
  refine ⟨(h none 0).1, fun c us r R W hrun hr hfr hv => ?_⟩
  obtain ⟨u, us', rfl, h1, h2⟩ := hv
  obtain ⟨A, k, rfl, hk, _⟩ := h1
  exact (h A k).2 c _ r R W hrun hr hfr ⟨_, us', rfl, rfl, h2⟩
theorem bytesClone_spec (fr : Bool) (l : List Int) (nb : Nat) (h : l.length ≤ 140737488355328) : ASound Tryz.prog 95 [fB fr l] nb (.ret (fB true l) []) := by
  by_cases h0 : l.length = 0
  · have hl : l = [] := List.eq_nil_of_length_eq_zero h0
    subst hl
    refine ASound.nil1 fun A k => ?_
    refine ok_95.sound (by simp) ⟨trivial, trivial⟩ ?_
    cases A with
    | none =>
      simp only [ac_95, TT, ↓reduceIte, Nat.reduceEqDiff, Nat.reduceAdd, Nat.reduceMul, reduceCtorEq, Nat.reduceLeDiff]
      exact Ends.imp (r0 := .v (.slice none 0 0)) (.inr rfl) (by simp [ET]) trivial (Imp.nil true)
    | some A =>
      simp only [ac_95, TT, ↓reduceIte, Nat.reduceEqDiff, Nat.reduceAdd, Nat.reduceMul, reduceCtorEq, Nat.reduceLeDiff]
      refine Ends.weak (Weak.freezeC 500000 rfl (l := [(2, fB true [])]) (h := []) ?_ ?_) (Ends.data (.inr rfl) (by simp [ET, fB]) (al_fB []))
      · simp [WT, eB]
      · simp [WT]
  · refine ok_95.sound (by simp) ⟨al_fB l, trivial⟩ ?_
    simp only [ac_95, len_B, h, h0, TT, ↓reduceIte, Nat.reduceEqDiff, Nat.reduceAdd, Nat.reduceMul, reduceCtorEq, Nat.reduceLeDiff]
    refine Ends.weak (Weak.freezeC 500000 rfl (l := [(2, fB true l)]) (h := []) ?_ ?_) (Ends.data (.inr rfl) (by simp [ET, fB]) (al_fB l))
    · simp [WT]
    · simp [WT]
def lowC (c : BitVec 32) (k : Nat) : List AV := (List.range 4).map fun j => .v (.int .u8 (if j < k then ((c >>> (8 * j)).toNat : Int) % 256 else 0))
theorem low_set {c : BitVec 32} {k : Nat} (h : k < 4) : (lowC c k).set k (.v (.int .u8 (((c >>> (8 * k)).toNat : Int) % 256))) = lowC c (k + 1) := by
  apply List.ext_getElem?
  intro j
  rw [List.getElem?_set]
  simp only [lowC, List.length_map, List.length_range, List.getElem?_map]
  by_cases hj : j < 4
  · rw [List.getElem?_range hj]
    by_cases e : k = j
    · subst e; simp [h]
    · rw [if_neg e]
      simp only [Option.map_some]
      congr 4
      simp only [eq_iff_iff]
      omega
  · have h2 : (List.range 4)[j]? = none := by rw [List.getElem?_eq_none_iff]; simp; omega
    rw [h2, if_neg (by omega)]; rfl
theorem low_len (c : BitVec 32) (k : Nat) : (lowC c k).length = 4 := by simp [lowC]
theorem low_4 (c : BitVec 32) : lowC c 4 = eB (low4 c) := by simp [lowC, eB, low4, List.range_succ]
theorem al_low {p : Nat → Prop} (c : BitVec 32) (k : Nat) : AlL p (lowC c k) := AlL_map (e := fun j => .v (.int .u8 (if j < k then ((c >>> (8 * j)).toNat : Int) % 256 else 0))) (fun j => trivial) _
theorem ren_low {ρ : Nat → Nat} (c : BitVec 32) (k : Nat) : renL ρ (lowC c k) = lowC c k := renL_id (p := fun _ => False) (fun _ h => h.elim) (al_low c k)
abbrev L_low (c : BitVec 32) (k : Nat) : ASt := ⟨envOf [(0, .v (.int .u32 (c.toNat))), (3, .os 0 0 4 1), (7, .v (.int .i64 4)), (8, .v (.int .i64 k))], heapOf [(0, .row true 5 (lowC c k))], 1⟩
theorem low_spec (c : BitVec 32) (nb : Nat) : ASound Tryz.prog 90 [.v (.int .u32 (c.toNat))] nb (.ret (fB true (low4 c)) []) := by
  refine ok_90.sound (by simp) ⟨trivial, trivial⟩ ?_
  simp only [ac_90, TT, ↓reduceIte, Nat.reduceEqDiff, Nat.reduceAdd, Nat.reduceMul, reduceCtorEq, Nat.reduceLeDiff]
  refine AWc.family (L_low c) (fun k => k ≤ 4) (fun k => 4 - k) 0 (by omega) ?_ ?_
  · refine Weak.calc [(100000, 0)] (by decide) ?_ ?_
    · simp [WT]
    · simp [WT]; rfl
  · intro k hk
    by_cases hlt : k < 4
    · have e1 : (k : Int) < 4 := by omega
      have e2 : (k : Int) < ((4 : Nat) : Int) := by omega
      have e0 : (0 : Int) ≤ (k : Int) := by omega
      have w8 : IntKind.i64.wrap (8 * (k : Int)) = 8 * (k : Int) := wrap64 (by omega)
      have hs := sh_r c (8 * (k : Int)) (by omega) (by omega)
      rw [show (8 * (k : Int)).toNat = 8 * k from by omega] at hs
      simp only [L_low, e1, e2, e0, w8, hs, u8_wrap, low_set hlt, low_len, TT, ↓reduceIte, Nat.reduceEqDiff, Nat.reduceAdd, Nat.reduceMul, reduceCtorEq, Nat.reduceLeDiff]
      rw [if_pos (by omega)]
      refine famC_next (k + 1) (by omega) (by omega) ?_
      refine Weak.calc [(0, 0)] (by decide) ?_ ?_ <;> simp [WT, al_low, ren_low, wrap64 (x := (k : Int) + 1) (by omega)]
    · obtain rfl : k = 4 := by omega
      have e1 : ¬ ((4 : Nat) : Int) < 4 := by decide
      simp only [L_low, e1, low_4, TT, ↓reduceIte, Nat.reduceEqDiff, Nat.reduceAdd, Nat.reduceMul, reduceCtorEq, Nat.reduceLeDiff]
      refine Ends.weak (Weak.freezeC 0 rfl (l := [(2, fB true (low4 c))]) (h := []) ?_ ?_) (Ends.data (.inr rfl) (by simp [ET, fB]) (al_fB _))
      · have : (eB (low4 c)).take 4 = eB (low4 c) := by rw [List.take_of_length_le]; simp [eB, low4]
        simp [WT, this, show (low4 c).length = 4 from rfl]
      · simp [WT]
theorem grow_spec (n : Nat) (nb : Nat) (h0 : 0 < n) (h : n ≤ 140737488355328) : ASound Tryz.prog 110 [.v (.slice none 0 0), .v (.int .i64 n)] nb (.ret (.os nb 0 0 1) [(nb, some (.row true 5 []))]) := by
  refine ok_110.sound (by simp) ⟨trivial, trivial, trivial⟩ ?_
  have e1 : ¬ ((n : Int) < 0) := by omega
  have e2 : (0 : Int) < (n : Int) := by omega
  have w0 : IntKind.i64.wrap (((0 : Nat) : Int) - ((0 : Nat) : Int)) = 0 := rfl
  have w1 : IntKind.i64.wrap ((n : Int) - 0) = n := by rw [Int.sub_zero]; exact wrap64 (by omega)
  have z0 : ((0 : Int) ≤ ((0 : Nat) : Int) ∧ ((0 : Nat) : Int) ≤ ((0 : Nat) : Int)) = True := eq_true ⟨by decide, by decide⟩
  have z1 : ((0 : Int) ≤ ((0 : Nat) : Int) ∧ ((0 : Nat) : Int) ≤ (n : Int)) = True := eq_true ⟨by decide, by omega⟩
  simp only [ac_110, e1, e2, w0, w1, h, z0, z1, Nat.zero_mul, TT, ↓reduceIte, Nat.reduceEqDiff, Nat.reduceAdd, Nat.reduceMul, reduceCtorEq, Nat.reduceLeDiff]
  refine Ends.weak (Weak.forget 1800000 [(4, .os 1800000 0 0 1)] (fun t v hv => by simp at hv; obtain ⟨rfl, rfl⟩ := hv; simp [ET]) (by simp [ET]; exact ⟨rfl, rfl, rfl⟩)) ?_
  exact Ends.rows1 (i := 1800000) (r0 := .os 1800000 0 0 1) (.inr rfl) (by simp [ET]) rfl trivial (by simp [Al]) (by simp [ren, rn])
/-- lists, one behind the other -/
def catB (ls : List (Bool × List Int)) : List Int := ls.flatMap (·.2)
def eLs (ls : List (Bool × List Int)) : List AV := ls.map fun p => fB p.1 p.2
theorem al_Ls {p : Nat → Prop} (ls : List (Bool × List Int)) : AlL p (eLs ls) := AlL_map (e := fun p => fB p.1 p.2) (fun q => al_fB q.2) ls
theorem ren_Ls {ρ : Nat → Nat} (ls : List (Bool × List Int)) : renL ρ (eLs ls) = eLs ls := renL_id (p := fun _ => False) (fun _ h => h.elim) (al_Ls ls)
theorem get_Ls {ls : List (Bool × List Int)} {i : Nat} {q : Bool × List Int} (h : ls[i]? = some q) : (eLs ls)[i]? = some (.fs q.1 (eB q.2) q.2.length) := by simp [eLs, h, fB]
theorem cat_snoc {ls : List (Bool × List Int)} {k : Nat} {q : Bool × List Int} (h : ls[k]? = some q) : catB (ls.take (k + 1)) = catB (ls.take k) ++ q.2 := by
  rw [take_snoc h]; simp [catB]
theorem cat_le (ls : List (Bool × List Int)) (k : Nat) : (catB (ls.take k)).length ≤ (catB ls).length := by
  have : catB ls = catB (ls.take k) ++ catB (ls.drop k) := by unfold catB; rw [← List.flatMap_append, List.take_append_drop]
  rw [this, List.length_append]; omega
abbrev L_cat1 (y : Bool) (ls : List (Bool × List Int)) (k : Nat) : ASt := ⟨envOf [(0, .os 0 0 ls.length 1), (3, .v (.int .i64 (catB (ls.take k)).length)), (9, .os 0 0 ls.length 1), (10, .v (.int .i64 ls.length)), (11, .v (.int .i64 k))], heapOf [(0, .row y 22 (eLs ls))], 1⟩
abbrev L_cat2 (y : Bool) (ls : List (Bool × List Int)) (k : Nat) : ASt := ⟨envOf [(6, .os 1 0 (catB (ls.take k)).length 1), (25, .os 0 0 ls.length 1), (26, .v (.int .i64 ls.length)), (27, .v (.int .i64 k))], heapOf [(0, .row y 22 (eLs ls)), (1, .row true 5 (eB (catB (ls.take k))))], 2⟩
set_option maxHeartbeats 1000000 in
theorem concat_spec (y : Bool) (ls : List (Bool × List Int)) (id nb : Nat) (hid : id < nb) (hn : ls.length ≤ 1000) (hne : ls ≠ []) (h0 : 0 < (catB ls).length) (h : (catB ls).length ≤ 140737488355328) :
    ASound Tryz.prog 89 [.os id 0 ls.length 1] nb (rowM id (.row y 22 (eLs ls)) (.ret (.os nb 0 (catB ls).length 1) [(id, some (.row y 22 (eLs ls))), (nb, some (.row true 5 (eB (catB ls))))])) := by
  refine ok_89.soundR (by simp) ⟨rfl, trivial⟩ (by intro h; exact hne (List.map_eq_nil_iff.1 h)) (al_Ls ls) (al_Ls ls) rfl hid ?_
  simp only [ac_89, renL, ren, TT, ↓reduceIte, Nat.reduceEqDiff, Nat.reduceAdd, Nat.reduceMul, reduceCtorEq, Nat.reduceLeDiff]
  refine AWc.family (L_cat1 y ls) (fun k => k ≤ ls.length) (fun k => ls.length - k) 0 (Nat.zero_le _) ?_ ?_
  · refine Weak.calc [(0, 0)] (by decide) ?_ ?_ <;> simp [WT, al_Ls, ren_Ls, catB]
  · intro k hk
    by_cases hlt : k < ls.length
    · obtain ⟨q, hq, e1, e0⟩ := lt_at hlt
      have hle := cat_le ls (k + 1)
      rw [cat_snoc hq, List.length_append] at hle
      have w1 : IntKind.i64.wrap (((catB (ls.take k)).length : Int) + (q.2.length : Int)) = (catB (ls.take k)).length + (q.2.length : Int) := wrap64 (by omega)
      have n1 : ¬ (((catB (ls.take k)).length : Int) + (q.2.length : Int) < 0) := by omega
      simp only [L_cat1, e1, e0, get_Ls hq, w1, n1, TT, ↓reduceIte, Nat.reduceEqDiff, Nat.reduceAdd, Nat.reduceMul, reduceCtorEq, Nat.reduceLeDiff]
      refine famC_next (k + 1) (by omega) (by omega) ?_
      refine Weak.calc [(0, 0)] (by decide) ?_ ?_ <;> simp [WT, al_Ls, ren_Ls, cat_snoc hq, wrap64 (x := (k : Int) + 1) (by omega)]
    · obtain rfl : k = ls.length := by omega
      have e1 : ¬ ((ls.length : Int) < (ls.length : Int)) := by omega
      simp only [L_cat1, e1, List.take_length, TT, ↓reduceIte, Nat.reduceEqDiff, Nat.reduceAdd, Nat.reduceMul, reduceCtorEq, Nat.reduceLeDiff]
      refine ⟨_, grow_spec (catB ls).length _ h0 h, ?_⟩
      simp only [TT, ↓reduceIte, Nat.reduceEqDiff, Nat.reduceAdd, Nat.reduceMul, reduceCtorEq, Nat.reduceLeDiff]
      refine AWc.family (L_cat2 y ls) (fun k => k ≤ ls.length) (fun k => ls.length - k) 0 (Nat.zero_le _) ?_ ?_
      · refine Weak.calc [(0, 0), (200001, 1)] (by decide) ?_ ?_ <;> simp [WT, al_Ls, ren_Ls, catB, eB]
      · intro k hk
        by_cases hlt : k < ls.length
        · obtain ⟨q, hq, e1, e0⟩ := lt_at hlt
          have hle := cat_le ls (k + 1)
          rw [cat_snoc hq, List.length_append] at hle
          simp only [L_cat2, e1, e0, get_Ls hq, len_B, TT, ↓reduceIte, Nat.reduceEqDiff, Nat.reduceAdd, Nat.reduceMul, reduceCtorEq, Nat.reduceLeDiff]
          rw [if_pos (by omega)]
          refine famC_next (k + 1) (by omega) (by omega) ?_
          refine Weak.calc [(0, 0), (600002, 1)] (by decide) ?_ ?_ <;> simp [WT, al_Ls, ren_Ls, cat_snoc hq, app_B, wrap64 (x := (k : Int) + 1) (by omega)]
        · obtain rfl : k = ls.length := by omega
          have e1 : ¬ ((ls.length : Int) < (ls.length : Int)) := by omega
          simp only [L_cat2, e1, List.take_length, TT, ↓reduceIte, Nat.reduceEqDiff, Nat.reduceAdd, Nat.reduceMul, reduceCtorEq, Nat.reduceLeDiff]
          exact EndsR.rows1 (i := 1) (r0 := .os 1 0 (catB ls).length 1) (.inr rfl) (by simp [ET]) rfl (by decide) rfl (al_B _) (by simp [Al]) (by simp [ren, rn])
theorem low_length (c : BitVec 32) : (low4 c).length = 4 := rfl
theorem seal_spec (fr : Bool) (l : List Int) (nb : Nat) (h : l.length ≤ 140737488355320) : ASound Tryz.prog 60 [fB fr l] nb (.ret (fB true (sealB l)) []) := by
  refine ok_60.sound (by simp) ⟨al_fB l, trivial⟩ ?_
  simp only [ac_60, TT, ↓reduceIte, Nat.reduceEqDiff, Nat.reduceAdd, Nat.reduceMul, reduceCtorEq, Nat.reduceLeDiff]
  refine ⟨_, sum_spec fr l _ (by omega), ?_⟩
  simp only [TT, ↓reduceIte, Nat.reduceEqDiff, Nat.reduceAdd, Nat.reduceMul, reduceCtorEq, Nat.reduceLeDiff]
  refine ⟨_, low_spec (crc l) _, ?_⟩
  simp only [TT, ↓reduceIte, Nat.reduceEqDiff, Nat.reduceAdd, Nat.reduceMul, reduceCtorEq, Nat.reduceLeDiff]
  have hc : catB [(fr, l), (true, low4 (crc l))] = sealB l := by simp [catB, sealB]
  refine ⟨_, concat_spec true [(fr, l), (true, low4 (crc l))] 500000 600000 (by omega) (by simp) (by simp) (by rw [hc]; simp [sealB, low_length]) (by rw [hc]; simp [sealB, low_length]; omega), ?_⟩
  rw [hc]
  simp only [eLs, low_length, TT, ↓reduceIte, Nat.reduceEqDiff, Nat.reduceAdd, Nat.reduceMul, reduceCtorEq, Nat.reduceLeDiff]
  refine Ends.weak (Weak.freezeC 600000 rfl (l := [(2, fB true (sealB l))]) (h := []) ?_ ?_) (Ends.data (.inr rfl) (by simp [ET, fB]) (al_fB _))
  · simp [WT]
  · simp [WT]
end Go.Proofs.YtdenddhdeloceaaGreatDoor
namespace Go.Proofs.YtdenddhdeloceaaGreatDoor
open Go.RowKit
set_option maxRecDepth 100000
theorem strOf_data (l : List Int) : (strOf l).data.toList = l.map fun n => UInt8.ofNat n.toNat := by
  have key : ∀ (l : List Int) (b : ByteArray), (l.foldl (fun r n => r.push (UInt8.ofNat n.toNat)) b).data.toList = b.data.toList ++ l.map fun n => UInt8.ofNat n.toNat := by
    intro l
    induction l with
    | nil => intro b; simp
    | cons x l ih => intro b; rw [List.foldl_cons, ih]; simp [ByteArray.push]
  have := key l .empty
  simpa [strOf] using this
theorem strOf_inj {a b : List Int} (ha : okB a) (hb : okB b) : strOf a = strOf b ↔ a = b := by
  constructor
  · intro h
    have h2 : (a.map fun n : Int => UInt8.ofNat n.toNat) = b.map fun n : Int => UInt8.ofNat n.toNat := by rw [← strOf_data, ← strOf_data, h]
    have hl : a.length = b.length := by simpa using congrArg List.length h2
    apply List.ext_getElem? 
    intro j
    by_cases hj : j < a.length
    · have e := congrArg (fun l => l[j]?) h2
      simp only [List.getElem?_map, List.getElem?_eq_getElem hj, List.getElem?_eq_getElem (show j < b.length by omega), Option.map_some, Option.some.injEq] at e
      have x1 := ha a[j] (List.getElem_mem _)
      have x2 := hb b[j] (List.getElem_mem _)
      have e2 := congrArg UInt8.toNat e
      simp only [UInt8.toNat_ofNat'] at e2
      rw [List.getElem?_eq_getElem hj, List.getElem?_eq_getElem (show j < b.length by omega)]
      congr 1
      omega
    · rw [List.getElem?_eq_none_iff.2 (by omega), List.getElem?_eq_none_iff.2 (by omega)]
  · rintro rfl; rfl
theorem bytesOf_B (l : List Int) : bytesOf (eB l) = some l := by
  induction l with
  | nil => rfl
  | cons x l ih =>
    show bytesOf (.v (.int .u8 x) :: eB l) = _
    rw [bytesOf, ih]
theorem okB_low (c : BitVec 32) : okB (low4 c) := by
  intro x hx
  simp only [low4, List.mem_cons, List.not_mem_nil, or_false] at hx
  rcases hx with rfl | rfl | rfl | rfl <;> omega
theorem okB_drop {l : List Int} (h : okB l) (n : Nat) : okB (l.drop n) := fun x hx => h x (List.mem_of_mem_drop hx)
theorem okB_take {l : List Int} (h : okB l) (n : Nat) : okB (l.take n) := fun x hx => h x (List.mem_of_mem_take hx)
theorem okB_app {a b : List Int} (ha : okB a) (hb : okB b) : okB (a ++ b) := fun x hx => by
  rcases List.mem_append.1 hx with h | h
  · exact ha x h
  · exact hb x h
theorem equal_spec (fa fb : Bool) (a b : List Int) (nb : Nat) (ha : okB a) (hb : okB b) : ASound Tryz.prog 94 [fB fa a, fB fb b] nb (.ret (.v (.bool (decide (a = b)))) []) := by
  refine ok_94.sound (by simp) ⟨al_fB a, al_fB b, trivial⟩ ?_
  simp only [ac_94, len_B, ↓bytesOf_B, strOp, strOf_inj ha hb, TT, ↓reduceIte, Nat.reduceEqDiff, Nat.reduceAdd, Nat.reduceMul, reduceCtorEq, Nat.reduceLeDiff]
  exact Ends.data (.inr rfl) (by simp [ET]) trivial
theorem openB_app {a b : List Int} (h : b.length = 4) : openB (a ++ b) = if b = low4 (crc a) then (a, 0) else ([], 21) := by
  unfold openB
  have e : (a ++ b).length - 4 = a.length := by rw [List.length_append]; omega
  rw [if_neg (by rw [List.length_append]; omega), e]
  simp
theorem open4 {l : List Int} (h : ¬ l.length < 4) : ∃ a b, l = a ++ b ∧ b.length = 4 := ⟨l.take (l.length - 4), l.drop (l.length - 4), (List.take_append_drop _ _).symm, by rw [List.length_drop]; omega⟩
theorem imp_nilE (e : Int) : Imp (.tup [.v (.slice none 0 0), .v (.int .i64 e)]) (.tup [fB true [], .v (.int .i64 e)]) := Imp.tupL ⟨Imp.nil true, Imp.refl _, trivial⟩
theorem open_spec (fr : Bool) (l : List Int) (nb : Nat) (hb : okB l) (h : l.length ≤ 140737488355320) : ASound Tryz.prog 65 [fB fr l] nb (.ret (.tup [fB true (openB l).1, .v (.int .i64 (openB l).2)]) []) := by
  refine ok_65.sound (by simp) ⟨al_fB l, trivial⟩ ?_
  by_cases h4 : l.length < 4
  · have e1 : ((l.length : Int) < 4) := by omega
    simp only [ac_65, openB, e1, h4, TT, ↓reduceIte, Nat.reduceEqDiff, Nat.reduceAdd, Nat.reduceMul, reduceCtorEq, Nat.reduceLeDiff]
    exact Ends.imp (r0 := .tup [.v (.slice none 0 0), .v (.int .i64 8)]) (.inr rfl) (by simp [ET]) ⟨trivial, trivial, trivial⟩ (imp_nilE 8)
  · obtain ⟨a, b, rfl, hl⟩ := open4 h4
    rw [openB_app hl]
    have hla : (a ++ b).length = a.length + 4 := by rw [List.length_append]; omega
    rw [hla] at h h4
    have e1 : ¬ (((a.length + 4 : Nat) : Int) < 4) := by omega
    have w1 : IntKind.i64.wrap (((a.length + 4 : Nat) : Int) - 4) = (a.length : Int) := by rw [wrap64 (by omega)]; omega
    have c1 : ((0 : Int) ≤ (a.length : Int) ∧ (a.length : Int) ≤ ((a.length + 4 : Nat) : Int)) = True := eq_true ⟨by omega, by omega⟩
    have n2 : a.length + 4 - a.length = b.length := by omega
    have d1 : (eB (a ++ b)).drop a.length = eB b := by rw [drop_B]; simp
    have d2 : (eB (a ++ b)).take a.length = eB a := by rw [take_B]; simp
    simp only [ac_65, hla, e1, w1, c1, n2, d1, d2, tk_B, Nat.sub_zero, TT, ↓reduceIte, Nat.reduceEqDiff, Nat.reduceAdd, Nat.reduceMul, reduceCtorEq, Nat.reduceLeDiff]
    refine ⟨by rfl, ?_⟩
    refine ⟨_, sum_spec fr a _ (by omega), ?_⟩
    simp only [TT, ↓reduceIte, Nat.reduceEqDiff, Nat.reduceAdd, Nat.reduceMul, reduceCtorEq, Nat.reduceLeDiff]
    refine ⟨_, low_spec (crc a) _, ?_⟩
    simp only [TT, ↓reduceIte, Nat.reduceEqDiff, Nat.reduceAdd, Nat.reduceMul, reduceCtorEq, Nat.reduceLeDiff]
    refine ⟨_, equal_spec fr true b (low4 (crc a)) _ (fun x hx => hb x (by simp [hx])) (okB_low _), ?_⟩
    simp only [TT, ↓reduceIte, Nat.reduceEqDiff, Nat.reduceAdd, Nat.reduceMul, reduceCtorEq, Nat.reduceLeDiff]
    by_cases he : b = low4 (crc a)
    · simp only [he, TT, ↓reduceIte, Nat.reduceEqDiff, Nat.reduceAdd, Nat.reduceMul, reduceCtorEq, Nat.reduceLeDiff]
      refine ⟨_, bytesClone_spec fr a _ (by omega), ?_⟩
      simp only [TT, ↓reduceIte, Nat.reduceEqDiff, Nat.reduceAdd, Nat.reduceMul, reduceCtorEq, Nat.reduceLeDiff]
      exact Ends.data (.inr rfl) (by simp [ET]) ⟨al_B a, trivial, trivial⟩
    · simp only [he, TT, ↓reduceIte, Nat.reduceEqDiff, Nat.reduceAdd, Nat.reduceMul, reduceCtorEq, Nat.reduceLeDiff]
      exact Ends.imp (r0 := .tup [.v (.slice none 0 0), .v (.int .i64 21)]) (.inr rfl) (by simp [ET]) ⟨trivial, trivial, trivial⟩ (imp_nilE 21)
end Go.Proofs.YtdenddhdeloceaaGreatDoor
namespace Go.Proofs.YtdenddhdeloceaaGreatDoor
open Go.RowKit
/-- a number in groups of 7 bits -/
def gp (m : Nat) : List Int := if m < 128 then [(m : Int)] else ((m % 128 + 128 : Nat) : Int) :: gp (m / 128)
termination_by m
decreasing_by omega
theorem gp_small {m : Nat} (h : m < 128) : gp m = [(m : Int)] := by rw [gp, if_pos h]
theorem gp_big {m : Nat} (h : ¬ m < 128) : gp m = ((m % 128 + 128 : Nat) : Int) :: gp (m / 128) := by rw [gp, if_neg h]
theorem gp_len : ∀ (k m : Nat), m < 128 ^ (k + 1) → (gp m).length ≤ k + 1
  | 0, m, h => by rw [gp_small (by simpa using h)]; simp
  | k + 1, m, h => by
    by_cases h1 : m < 128
    · rw [gp_small h1]; simp
    · rw [gp_big h1, List.length_cons]
      have := gp_len k (m / 128) (by rw [Nat.div_lt_iff_lt_mul (by decide), ← Nat.pow_succ]; exact h)
      omega
theorem gp_le {m : Nat} (h : m < 18446744073709551616) : (gp m).length ≤ 10 := gp_len 9 m (Nat.lt_of_lt_of_le h (by decide))
/-- a number with its sign -/
def zz (n : Int) : Nat := if 0 ≤ n then (2 * n).toNat else (-2 * n - 1).toNat
def i64ok (n : Int) : Prop := -9223372036854775808 ≤ n ∧ n ≤ 9223372036854775807
theorem zz_lt {n : Int} (h : i64ok n) : zz n < 18446744073709551616 := by
  unfold zz i64ok at *; split <;> omega
def encT (t : List Int) : List Int := gp t.length ++ t
def encR (r : Rec) : List Int := [r.kind, (r.nums.length : Int)] ++ r.nums.flatMap (fun n => gp (zz n)) ++ ((r.texts.length : Int) :: r.texts.flatMap encT)
def recE (r : Rec) : Int := if r.kind < 0 ∨ 255 < r.kind then 22 else if 64 < r.nums.length ∨ 64 < r.texts.length then 3 else if ∃ t ∈ r.texts, 4096 < t.length then 5 else 0
def encode (r : Rec) : List Int × Int := if recE r = 0 then (sealB (encR r), 0) else ([], recE r)
def joinT (t : List Int) : List Int := [((t.length / 256 % 256 : Nat) : Int), ((t.length % 256 : Nat) : Int)] ++ t
def joinE (l : List (List Int)) : Int := if 4096 < l.length then 3 else if ∃ t ∈ l, 65535 < t.length then 5 else 0
def joinB (l : List (List Int)) : List Int × Int := if joinE l = 0 then (l.flatMap joinT, 0) else ([], joinE l)
theorem or_tab : ∀ a, a < 256 → (a ||| 128) % 256 = a % 128 + 128 := by decide +kernel
theorem or_128 (x : Int) : IntKind.u8.wrap ((BitVec.ofInt IntKind.u8.bits (x % 256) ||| BitVec.ofInt IntKind.u8.bits 128).toNat : Int) = x % 128 + 128 := by
  rw [u8_wrap]
  have h1 : (BitVec.ofInt IntKind.u8.bits (x % 256) ||| BitVec.ofInt IntKind.u8.bits 128).toNat = (x % 256).toNat ||| 128 := by
    rw [BitVec.toNat_or, BitVec.toNat_ofInt, BitVec.toNat_ofInt]
    show ((x % 256) % ((2 ^ 8 : Nat) : Int)).toNat ||| ((128 : Int) % ((2 ^ 8 : Nat) : Int)).toNat = _
    rw [show ((2 ^ 8 : Nat) : Int) = 256 from rfl, Int.emod_emod_of_dvd _ (Int.dvd_refl _)]
    rfl
  rw [h1]
  have h2 := or_tab (x % 256).toNat (by omega)
  omega
theorem or_128' (x : Int) : IntKind.u8.wrap ((BitVec.ofInt IntKind.u8.bits (IntKind.u8.wrap x) ||| BitVec.ofInt IntKind.u8.bits 128).toNat : Int) = x % 128 + 128 := by rw [u8_wrap x]; exact or_128 x
theorem sh_u64 (m : Nat) : shVal .shr .u64 (m : Int) 7 = some (.int .u64 ((m / 128 : Nat) : Int)) := by
  have h : Int.fdiv (m : Int) (2 ^ min (Int.toNat 7) IntKind.u64.bits) = ((m / 128 : Nat) : Int) := by
    show Int.fdiv (m : Int) 128 = _
    rw [Int.fdiv_eq_ediv_of_nonneg _ (by decide)]
    omega
  simp only [shVal, if_neg (show ¬ ((7 : Int) < 0) by decide), h]
theorem u64_mod (x : Int) : IntKind.u64.wrap x = x % 18446744073709551616 := by simp [IntKind.wrap, IntKind.bits, IntKind.signed]
theorem ofInt64 (x : Int) : (BitVec.ofInt 64 x).toNat = (x % 18446744073709551616).toNat := by rw [BitVec.toNat_ofInt]; rfl
theorem and127 (m : Nat) : m &&& 127 = m % 128 := Nat.and_two_pow_sub_one_eq_mod m 7
theorem fd63 {n : Int} (h : i64ok n) : n.fdiv (2 ^ min (Int.toNat 63) IntKind.i64.bits) = if 0 ≤ n then 0 else -1 := by
  show n.fdiv 9223372036854775808 = _
  rw [Int.fdiv_eq_ediv_of_nonneg _ (by decide)]
  unfold i64ok at h
  split <;> omega
theorem zz_prog {n : Int} (h : i64ok n) : IntKind.u64.wrap (IntKind.i64.wrap ((BitVec.ofInt IntKind.i64.bits (IntKind.i64.wrap (n * 2 ^ min (Int.toNat 1) IntKind.i64.bits)) ^^^ BitVec.ofInt IntKind.i64.bits (n.fdiv (2 ^ min (Int.toNat 63) IntKind.i64.bits))).toNat : Int)) = (zz n : Int) := by
  rw [fd63 h]
  have e2 : n * 2 ^ min (Int.toNat 1) IntKind.i64.bits = n * 2 := rfl
  rw [e2]
  have hx : ((BitVec.ofInt IntKind.i64.bits (IntKind.i64.wrap (n * 2)) ^^^ BitVec.ofInt IntKind.i64.bits (if 0 ≤ n then 0 else -1)).toNat : Int) = (zz n : Int) := by
    show ((BitVec.ofInt 64 (IntKind.i64.wrap (n * 2)) ^^^ BitVec.ofInt 64 (if 0 ≤ n then 0 else -1)).toNat : Int) = _
    unfold zz i64ok at *
    by_cases h0 : 0 ≤ n
    · rw [if_pos h0, if_pos h0, show BitVec.ofInt 64 0 = 0#64 from rfl, BitVec.xor_zero, ofInt64, IntKind.wrap_i64]
      omega
    · rw [if_neg h0, if_neg h0, show BitVec.ofInt 64 (-1) = BitVec.allOnes 64 from by decide, BitVec.xor_allOnes, BitVec.toNat_not, ofInt64, IntKind.wrap_i64]
      omega
  rw [hx, u64_mod, IntKind.wrap_i64]
  have := zz_lt h
  omega
end Go.Proofs.YtdenddhdeloceaaGreatDoor
namespace Go.Proofs.YtdenddhdeloceaaGreatDoor
set_option maxRecDepth 100000
def ac_58 : AC :=
(.seq (.reg false [⟨some 1, .box 76 (.tmp 0), none, [0], []⟩,
    ⟨some 2, .mv (.const (.int .i64 (0))), none, [], []⟩] [1])
(.seq (.seq (.reg false [⟨some 5, .foff 0 (.tmp 1), none, [1], []⟩,
    ⟨some 6, .load false 1 (.tmp 5), none, [5], []⟩,
    ⟨some 7, .bin .lss (.tmp 6) (.const (.int .i64 (0))), none, [6], []⟩,
    ⟨some 8, .mv (.tmp 7), none, [7], []⟩,
    ⟨some 9, .foff 0 (.tmp 1), some (8, false), [1, 8], []⟩,
    ⟨some 10, .load false 1 (.tmp 9), some (8, false), [9, 8], []⟩,
    ⟨some 11, .bin .gtr (.tmp 10) (.const (.int .i64 (255))), some (8, false), [10, 8], []⟩,
    ⟨some 12, .pick (.tmp 8) (.const (.bool true)) (.tmp 11), none, [8, 11], []⟩] [1, 12])
(.cond (.tmp 12)
(.seq (.reg false [⟨some 2, .mv (.const (.int .i64 (22))), none, [], []⟩] [2])
.ret)
.skip))
(.seq (.seq (.reg false [⟨some 13, .foff 1 (.tmp 1), none, [1], []⟩,
    ⟨some 14, .load false 1 (.tmp 13), none, [13], []⟩,
    ⟨some 15, .len false (.tmp 14), none, [14], []⟩,
    ⟨some 16, .bin .gtr (.tmp 15) (.const (.int .i64 (64))), none, [15], []⟩,
    ⟨some 17, .mv (.tmp 16), none, [16], []⟩,
    ⟨some 18, .foff 2 (.tmp 1), some (17, false), [1, 17], []⟩,
    ⟨some 19, .load false 1 (.tmp 18), some (17, false), [18, 17], []⟩,
    ⟨some 20, .len false (.tmp 19), some (17, false), [19, 17], []⟩,
    ⟨some 21, .bin .gtr (.tmp 20) (.const (.int .i64 (64))), some (17, false), [20, 17], []⟩,
    ⟨some 22, .pick (.tmp 17) (.const (.bool true)) (.tmp 21), none, [17, 21], []⟩] [1, 22])
(.cond (.tmp 22)
(.seq (.reg false [⟨some 2, .mv (.const (.int .i64 (3))), none, [], []⟩] [2])
.ret)
.skip))
(.seq (.seq (.reg false [⟨some 23, .foff 2 (.tmp 1), none, [1], []⟩,
    ⟨some 24, .load false 1 (.tmp 23), none, [23], []⟩,
    ⟨some 25, .len false (.tmp 24), none, [24], []⟩,
    ⟨some 26, .mv (.const (.int .i64 (0))), none, [], []⟩] [24, 25, 26])
(.block 0 (.loop (.seq (.reg false [⟨some 27, .bin .lss (.tmp 26) (.tmp 25), none, [26, 25], []⟩] [24, 25, 26, 27])
(.seq (.cond (.tmp 27)
.skip
(.exit 0))
(.seq (.block 1 (.seq (.reg false [⟨some 28, .idx 1 (.tmp 24) (.tmp 26), none, [24, 26], []⟩,
    ⟨some 29, .load false 1 (.tmp 28), none, [28], []⟩,
    ⟨some 4, .mv (.tmp 29), none, [29], []⟩] [4, 24, 25, 26])
(.seq (.reg false [⟨some 30, .mv (.tmp 4), none, [4], []⟩,
    ⟨some 31, .len false (.tmp 30), none, [30], []⟩,
    ⟨some 32, .bin .gtr (.tmp 31) (.const (.int .i64 (4096))), none, [31], []⟩] [24, 25, 26, 32])
(.cond (.tmp 32)
(.seq (.reg false [⟨some 2, .mv (.const (.int .i64 (5))), none, [], []⟩] [2])
.ret)
.skip))))
(.reg false [⟨some 33, .bin .add (.tmp 26) (.const (.int .i64 (1))), none, [26], []⟩,
    ⟨some 26, .mv (.tmp 33), none, [33], []⟩] [24, 25, 26])))))))
(.seq (.reg false [⟨some 2, .mv (.const (.int .i64 (0))), none, [], []⟩] [2])
.ret)))))
theorem ok_58 : FnOk Tryz.prog 58 34 ac_58 [.tmp 2] := ⟨Tryz.f58, Tryz.func58, by kernel_rfl, by kernel_rfl, by kernel_rfl, by kernel_rfl, by kernel_rfl⟩
def ac_59 : AC :=
(.seq (.reg false [⟨some 4, .mv (.const (.slice none 0 0)), none, [], []⟩] [0, 1])
(.seq (.block 0 (.loop (.seq (.seq (.reg false [⟨some 5, .mv (.tmp 1), none, [1], []⟩,
    ⟨some 6, .bin .gtr (.tmp 5) (.const (.int .u64 (127))), none, [5], []⟩] [0, 1, 6])
(.cond (.tmp 6)
.skip
(.exit 0)))
(.seq (.block 1 (.reg false [⟨some 9, .mv (.tmp 0), none, [0], []⟩,
    ⟨some 10, .mv (.tmp 1), none, [1], []⟩,
    ⟨some 11, .conv .u8 (.tmp 10), none, [10], []⟩,
    ⟨some 12, .bin .or (.tmp 11) (.const (.int .u8 (128))), none, [11], []⟩,
    ⟨some 13, .bslice 5 1 1 [(.int .u8 (0))] [(0, 1, (.tmp 12))], none, [12], []⟩,
    ⟨some 14, .append 5 1 1 (.tmp 9) (.tmp 13), none, [9, 13], []⟩,
    ⟨some 0, .mv (.tmp 14), none, [14], []⟩] [0, 1]))
(.reg false [⟨some 7, .mv (.tmp 1), none, [1], []⟩,
    ⟨some 8, .bin .shr (.tmp 7) (.const (.int .u64 (7))), none, [7], []⟩,
    ⟨some 1, .mv (.tmp 8), none, [8], []⟩] [0, 1])))))
(.seq (.reg false [⟨some 15, .mv (.tmp 0), none, [0], []⟩,
    ⟨some 16, .mv (.tmp 1), none, [1], []⟩,
    ⟨some 17, .conv .u8 (.tmp 16), none, [16], []⟩,
    ⟨some 18, .bslice 5 1 1 [(.int .u8 (0))] [(0, 1, (.tmp 17))], none, [17], []⟩,
    ⟨some 19, .append 5 1 1 (.tmp 15) (.tmp 18), none, [15, 18], []⟩,
    ⟨some 4, .mv (.tmp 19), none, [19], []⟩] [4])
.ret)))
theorem ok_59 : FnOk Tryz.prog 59 20 ac_59 [.tmp 4] := ⟨Tryz.f59, Tryz.func59, by kernel_rfl, by kernel_rfl, by kernel_rfl, by kernel_rfl, by kernel_rfl⟩
def ac_33 : AC :=
(.seq (.reg false [⟨some 1, .box 76 (.tmp 0), none, [0], []⟩,
    ⟨some 2, .mv (.const (.slice none 0 0)), none, [], []⟩,
    ⟨some 3, .mv (.const (.int .i64 (0))), none, [], []⟩] [1])
(.seq (.seq (.reg false [⟨some 10, .load true 3 (.tmp 1), none, [1], []⟩,
    ⟨some 11, .call 58 [(.tmp 10)], none, [10], []⟩,
    ⟨some 4, .mv (.tmp 11), none, [11], []⟩] [1, 4])
(.seq (.reg false [⟨some 12, .mv (.tmp 4), none, [4], []⟩,
    ⟨some 13, .bin .neq (.tmp 12) (.const (.int .i64 (0))), none, [12], []⟩] [1, 4, 13])
(.cond (.tmp 13)
(.seq (.reg false [⟨some 14, .mv (.tmp 4), none, [4], []⟩,
    ⟨some 2, .mv (.const (.slice none 0 0)), none, [], []⟩,
    ⟨some 3, .mv (.tmp 14), none, [14], []⟩] [2, 3])
.ret)
.skip)))
(.seq (.reg false [⟨some 15, .foff 0 (.tmp 1), none, [1], []⟩,
    ⟨some 16, .load false 1 (.tmp 15), none, [15], []⟩,
    ⟨some 17, .conv .u8 (.tmp 16), none, [16], []⟩,
    ⟨some 18, .foff 1 (.tmp 1), none, [1], []⟩,
    ⟨some 19, .load false 1 (.tmp 18), none, [18], []⟩,
    ⟨some 20, .len false (.tmp 19), none, [19], []⟩,
    ⟨some 21, .conv .u8 (.tmp 20), none, [20], []⟩,
    ⟨some 22, .bslice 5 1 2 [(.int .u8 (0)), (.int .u8 (0))] [(0, 1, (.tmp 17)), (1, 1, (.tmp 21))], none, [17, 21], []⟩,
    ⟨some 5, .mv (.tmp 22), none, [22], []⟩] [1, 5])
(.seq (.seq (.reg false [⟨some 23, .foff 1 (.tmp 1), none, [1], []⟩,
    ⟨some 24, .load false 1 (.tmp 23), none, [23], []⟩,
    ⟨some 25, .len false (.tmp 24), none, [24], []⟩,
    ⟨some 26, .mv (.const (.int .i64 (0))), none, [], []⟩] [1, 5, 24, 25, 26])
(.block 0 (.loop (.seq (.reg false [⟨some 27, .bin .lss (.tmp 26) (.tmp 25), none, [26, 25], []⟩] [1, 5, 24, 25, 26, 27])
(.seq (.cond (.tmp 27)
.skip
(.exit 0))
(.seq (.block 1 (.seq (.reg false [⟨some 28, .idx 1 (.tmp 24) (.tmp 26), none, [24, 26], []⟩,
    ⟨some 29, .load false 1 (.tmp 28), none, [28], []⟩,
    ⟨some 7, .mv (.tmp 29), none, [29], []⟩] [1, 5, 7, 24, 25, 26])
(.reg false [⟨some 30, .mv (.tmp 5), none, [5], []⟩,
    ⟨some 31, .mv (.tmp 7), none, [7], []⟩,
    ⟨some 32, .bin .shl (.tmp 31) (.const (.int .u64 (1))), none, [31], []⟩,
    ⟨some 33, .mv (.tmp 7), none, [7], []⟩,
    ⟨some 34, .bin .shr (.tmp 33) (.const (.int .u64 (63))), none, [33], []⟩,
    ⟨some 35, .bin .xor (.tmp 32) (.tmp 34), none, [32, 34], []⟩,
    ⟨some 36, .conv .u64 (.tmp 35), none, [35], []⟩,
    ⟨some 37, .call 59 [(.tmp 30), (.tmp 36)], none, [30, 36], []⟩,
    ⟨some 5, .mv (.tmp 37), none, [37], []⟩] [1, 5, 24, 25, 26])))
(.reg false [⟨some 38, .bin .add (.tmp 26) (.const (.int .i64 (1))), none, [26], []⟩,
    ⟨some 26, .mv (.tmp 38), none, [38], []⟩] [1, 5, 24, 25, 26])))))))
(.seq (.reg false [⟨some 39, .mv (.tmp 5), none, [5], []⟩,
    ⟨some 40, .foff 2 (.tmp 1), none, [1], []⟩,
    ⟨some 41, .load false 1 (.tmp 40), none, [40], []⟩,
    ⟨some 42, .len false (.tmp 41), none, [41], []⟩,
    ⟨some 43, .conv .u8 (.tmp 42), none, [42], []⟩,
    ⟨some 44, .bslice 5 1 1 [(.int .u8 (0))] [(0, 1, (.tmp 43))], none, [43], []⟩,
    ⟨some 45, .append 5 1 1 (.tmp 39) (.tmp 44), none, [39, 44], []⟩,
    ⟨some 5, .mv (.tmp 45), none, [45], []⟩] [1, 5])
(.seq (.seq (.reg false [⟨some 46, .foff 2 (.tmp 1), none, [1], []⟩,
    ⟨some 47, .load false 1 (.tmp 46), none, [46], []⟩,
    ⟨some 48, .len false (.tmp 47), none, [47], []⟩,
    ⟨some 49, .mv (.const (.int .i64 (0))), none, [], []⟩] [5, 47, 48, 49])
(.block 2 (.loop (.seq (.reg false [⟨some 50, .bin .lss (.tmp 49) (.tmp 48), none, [49, 48], []⟩] [5, 47, 48, 49, 50])
(.seq (.cond (.tmp 50)
.skip
(.exit 2))
(.seq (.block 3 (.seq (.reg false [⟨some 51, .idx 1 (.tmp 47) (.tmp 49), none, [47, 49], []⟩,
    ⟨some 52, .load false 1 (.tmp 51), none, [51], []⟩,
    ⟨some 9, .mv (.tmp 52), none, [52], []⟩] [5, 9, 47, 48, 49])
(.reg false [⟨some 53, .mv (.tmp 5), none, [5], []⟩,
    ⟨some 54, .mv (.tmp 9), none, [9], []⟩,
    ⟨some 55, .len false (.tmp 54), none, [54], []⟩,
    ⟨some 56, .conv .u64 (.tmp 55), none, [55], []⟩,
    ⟨some 57, .call 59 [(.tmp 53), (.tmp 56)], none, [53, 56], []⟩,
    ⟨some 58, .mv (.tmp 9), none, [9], []⟩,
    ⟨some 59, .append 5 1 1 (.tmp 57) (.tmp 58), none, [57, 58], []⟩,
    ⟨some 5, .mv (.tmp 59), none, [59], []⟩] [5, 47, 48, 49])))
(.reg false [⟨some 60, .bin .add (.tmp 49) (.const (.int .i64 (1))), none, [49], []⟩,
    ⟨some 49, .mv (.tmp 60), none, [60], []⟩] [5, 47, 48, 49])))))))
(.seq (.reg false [⟨some 61, .mv (.tmp 5), none, [5], []⟩,
    ⟨some 62, .call 60 [(.tmp 61)], none, [61], []⟩,
    ⟨some 2, .mv (.tmp 62), none, [62], []⟩,
    ⟨some 3, .mv (.const (.int .i64 (0))), none, [], []⟩] [2, 3])
.ret)))))))
theorem ok_33 : FnOk Tryz.prog 33 63 ac_33 [.tmp 2, .tmp 3] := ⟨Tryz.f33, Tryz.func33, by kernel_rfl, by kernel_rfl, by kernel_rfl, by kernel_rfl, by kernel_rfl⟩
def ac_35 : AC :=
(.seq (.reg false [⟨some 2, .mv (.const (.slice none 0 0)), none, [], []⟩,
    ⟨some 3, .mv (.const (.int .i64 (0))), none, [], []⟩] [0])
(.seq (.seq (.reg false [⟨some 7, .mv (.tmp 0), none, [0], []⟩,
    ⟨some 8, .len false (.tmp 7), none, [7], []⟩,
    ⟨some 9, .bin .gtr (.tmp 8) (.const (.int .i64 (4096))), none, [8], []⟩] [0, 9])
(.cond (.tmp 9)
(.seq (.reg false [⟨some 2, .mv (.const (.slice none 0 0)), none, [], []⟩,
    ⟨some 3, .mv (.const (.int .i64 (3))), none, [], []⟩] [2, 3])
.ret)
.skip))
(.seq (.reg false [⟨some 4, .mv (.const (.slice none 0 0)), none, [], []⟩] [0, 4])
(.seq (.seq (.reg false [⟨some 10, .mv (.tmp 0), none, [0], []⟩,
    ⟨some 11, .len false (.tmp 10), none, [10], []⟩,
    ⟨some 12, .mv (.const (.int .i64 (0))), none, [], []⟩] [4, 10, 11, 12])
(.block 0 (.loop (.seq (.reg false [⟨some 13, .bin .lss (.tmp 12) (.tmp 11), none, [12, 11], []⟩] [4, 10, 11, 12, 13])
(.seq (.cond (.tmp 13)
.skip
(.exit 0))
(.seq (.block 1 (.seq (.reg false [⟨some 14, .idx 1 (.tmp 10) (.tmp 12), none, [10, 12], []⟩,
    ⟨some 15, .load false 1 (.tmp 14), none, [14], []⟩,
    ⟨some 6, .mv (.tmp 15), none, [15], []⟩] [4, 6, 10, 11, 12])
(.seq (.seq (.reg false [⟨some 16, .mv (.tmp 6), none, [6], []⟩,
    ⟨some 17, .len false (.tmp 16), none, [16], []⟩,
    ⟨some 18, .bin .gtr (.tmp 17) (.const (.int .i64 (65535))), none, [17], []⟩] [4, 6, 10, 11, 12, 18])
(.cond (.tmp 18)
(.seq (.reg false [⟨some 2, .mv (.const (.slice none 0 0)), none, [], []⟩,
    ⟨some 3, .mv (.const (.int .i64 (5))), none, [], []⟩] [2, 3])
.ret)
.skip))
(.reg false [⟨some 19, .mv (.tmp 4), none, [4], []⟩,
    ⟨some 20, .mv (.tmp 6), none, [6], []⟩,
    ⟨some 21, .len false (.tmp 20), none, [20], []⟩,
    ⟨some 22, .bin .shr (.tmp 21) (.const (.int .u64 (8))), none, [21], []⟩,
    ⟨some 23, .conv .u8 (.tmp 22), none, [22], []⟩,
    ⟨some 24, .mv (.tmp 6), none, [6], []⟩,
    ⟨some 25, .len false (.tmp 24), none, [24], []⟩,
    ⟨some 26, .conv .u8 (.tmp 25), none, [25], []⟩,
    ⟨some 27, .bslice 5 1 2 [(.int .u8 (0)), (.int .u8 (0))] [(0, 1, (.tmp 23)), (1, 1, (.tmp 26))], none, [23, 26], []⟩,
    ⟨some 28, .append 5 1 1 (.tmp 19) (.tmp 27), none, [19, 27], []⟩,
    ⟨some 29, .mv (.tmp 6), none, [6], []⟩,
    ⟨some 30, .append 5 1 1 (.tmp 28) (.tmp 29), none, [28, 29], []⟩,
    ⟨some 4, .mv (.tmp 30), none, [30], []⟩] [4, 10, 11, 12]))))
(.reg false [⟨some 31, .bin .add (.tmp 12) (.const (.int .i64 (1))), none, [12], []⟩,
    ⟨some 12, .mv (.tmp 31), none, [31], []⟩] [4, 10, 11, 12])))))))
(.seq (.reg false [⟨some 32, .mv (.tmp 4), none, [4], []⟩,
    ⟨some 2, .mv (.tmp 32), none, [32], []⟩,
    ⟨some 3, .mv (.const (.int .i64 (0))), none, [], []⟩] [2, 3])
.ret)))))
theorem ok_35 : FnOk Tryz.prog 35 33 ac_35 [.tmp 2, .tmp 3] := ⟨Tryz.f35, Tryz.func35, by kernel_rfl, by kernel_rfl, by kernel_rfl, by kernel_rfl, by kernel_rfl⟩
def ac_17 : AC :=
(.seq (.reg false [⟨some 1, .box 25 (.tmp 0), none, [0], []⟩,
    ⟨some 2, .mv (.const (.int .i64 (0))), none, [], []⟩] [1])
(.seq (.seq (.reg false [⟨some 5, .load true 5 (.tmp 1), none, [1], []⟩,
    ⟨some 6, .call 34 [(.tmp 5)], none, [5], []⟩,
    ⟨some 7, .len false (.tmp 6), none, [6], []⟩,
    ⟨some 8, .mv (.const (.int .i64 (0))), none, [], []⟩] [1, 6, 7, 8])
(.block 0 (.loop (.seq (.reg false [⟨some 9, .bin .lss (.tmp 8) (.tmp 7), none, [8, 7], []⟩] [1, 6, 7, 8, 9])
(.seq (.cond (.tmp 9)
.skip
(.exit 0))
(.seq (.block 1 (.seq (.reg false [⟨some 10, .idx 1 (.tmp 6) (.tmp 8), none, [6, 8], []⟩,
    ⟨some 11, .load false 1 (.tmp 10), none, [10], []⟩,
    ⟨some 4, .mv (.tmp 11), none, [11], []⟩] [1, 4, 6, 7, 8])
(.seq (.reg false [⟨some 12, .mv (.tmp 4), none, [4], []⟩,
    ⟨some 13, .bin .lss (.tmp 12) (.const (.int .i64 (0))), none, [12], []⟩,
    ⟨some 14, .mv (.tmp 13), none, [13], []⟩,
    ⟨some 15, .mv (.tmp 4), some (14, false), [4, 14], []⟩,
    ⟨some 16, .bin .gtr (.tmp 15) (.const (.int .i64 (1099511627776))), some (14, false), [15, 14], []⟩,
    ⟨some 17, .pick (.tmp 14) (.const (.bool true)) (.tmp 16), none, [14, 16], []⟩] [1, 6, 7, 8, 17])
(.cond (.tmp 17)
(.seq (.reg false [⟨some 2, .mv (.const (.int .i64 (4))), none, [], []⟩] [2])
.ret)
.skip))))
(.reg false [⟨some 18, .bin .add (.tmp 8) (.const (.int .i64 (1))), none, [8], []⟩,
    ⟨some 8, .mv (.tmp 18), none, [18], []⟩] [1, 6, 7, 8])))))))
(.seq (.seq (.reg false [⟨some 19, .foff 4 (.tmp 1), none, [1], []⟩,
    ⟨some 20, .load false 1 (.tmp 19), none, [19], []⟩,
    ⟨some 21, .len false (.tmp 20), none, [20], []⟩,
    ⟨some 22, .bin .gtr (.tmp 21) (.const (.int .i64 (400))), none, [21], []⟩] [22])
(.cond (.tmp 22)
(.seq (.reg false [⟨some 2, .mv (.const (.int .i64 (5))), none, [], []⟩] [2])
.ret)
.skip))
(.seq (.reg false [⟨some 2, .mv (.const (.int .i64 (0))), none, [], []⟩] [2])
.ret))))
theorem ok_17 : FnOk Tryz.prog 17 23 ac_17 [.tmp 2] := ⟨Tryz.f17, Tryz.func17, by kernel_rfl, by kernel_rfl, by kernel_rfl, by kernel_rfl, by kernel_rfl⟩
def ac_18 : AC :=
(.seq (.reg false [⟨some 1, .box 24 (.tmp 0), none, [0], []⟩,
    ⟨some 2, .mv (.const (.int .i64 (0))), none, [], []⟩] [1])
(.seq (.reg false [⟨some 5, .foff 0 (.tmp 1), none, [1], []⟩,
    ⟨some 6, .load false 1 (.tmp 5), none, [5], []⟩,
    ⟨some 7, .foff 1 (.tmp 1), none, [1], []⟩,
    ⟨some 8, .load false 1 (.tmp 7), none, [7], []⟩,
    ⟨some 9, .foff 2 (.tmp 1), none, [1], []⟩,
    ⟨some 10, .load false 1 (.tmp 9), none, [9], []⟩,
    ⟨some 11, .foff 3 (.tmp 1), none, [1], []⟩,
    ⟨some 12, .load false 1 (.tmp 11), none, [11], []⟩,
    ⟨some 13, .bslice 3 1 4 [(.int .i64 (0)), (.int .i64 (0)), (.int .i64 (0)), (.int .i64 (0))] [(0, 1, (.tmp 6)), (1, 1, (.tmp 8)), (2, 1, (.tmp 10)), (3, 1, (.tmp 12))], none, [6, 8, 10, 12], []⟩,
    ⟨some 3, .mv (.tmp 13), none, [13], []⟩] [1, 3])
(.seq (.seq (.reg false [⟨some 4, .mv (.const (.int .i64 (0))), none, [], []⟩] [1, 3, 4])
(.block 0 (.loop (.seq (.seq (.reg false [⟨some 14, .mv (.tmp 4), none, [4], []⟩,
    ⟨some 15, .mv (.tmp 3), none, [3], []⟩,
    ⟨some 16, .len false (.tmp 15), none, [15], []⟩,
    ⟨some 17, .bin .lss (.tmp 14) (.tmp 16), none, [14, 16], []⟩] [1, 3, 4, 17])
(.cond (.tmp 17)
.skip
(.exit 0)))
(.seq (.block 1 (.seq (.reg false [⟨some 20, .mv (.tmp 3), none, [3], []⟩,
    ⟨some 21, .mv (.tmp 4), none, [4], []⟩,
    ⟨some 22, .idx 1 (.tmp 20) (.tmp 21), none, [20, 21], []⟩,
    ⟨some 23, .load false 1 (.tmp 22), none, [22], []⟩,
    ⟨some 24, .bin .lss (.tmp 23) (.const (.int .i64 (0))), none, [23], []⟩,
    ⟨some 25, .mv (.tmp 24), none, [24], []⟩,
    ⟨some 26, .mv (.tmp 3), some (25, false), [3, 25], []⟩,
    ⟨some 27, .mv (.tmp 4), some (25, false), [4, 25], []⟩,
    ⟨some 28, .idx 1 (.tmp 26) (.tmp 27), some (25, false), [26, 27, 25], []⟩,
    ⟨some 29, .load false 1 (.tmp 28), some (25, false), [28, 25], []⟩,
    ⟨some 30, .bin .gtr (.tmp 29) (.const (.int .i64 (1099511627776))), some (25, false), [29, 25], []⟩,
    ⟨some 31, .pick (.tmp 25) (.const (.bool true)) (.tmp 30), none, [25, 30], []⟩] [1, 3, 4, 31])
(.cond (.tmp 31)
(.seq (.reg false [⟨some 2, .mv (.const (.int .i64 (4))), none, [], []⟩] [2])
.ret)
.skip)))
(.reg false [⟨some 18, .mv (.tmp 4), none, [4], []⟩,
    ⟨some 19, .bin .add (.tmp 18) (.const (.int .i64 (1))), none, [18], []⟩,
    ⟨some 4, .mv (.tmp 19), none, [19], []⟩] [1, 3, 4]))))))
(.seq (.seq (.reg false [⟨some 32, .foff 4 (.tmp 1), none, [1], []⟩,
    ⟨some 33, .load false 1 (.tmp 32), none, [32], []⟩,
    ⟨some 34, .len false (.tmp 33), none, [33], []⟩,
    ⟨some 35, .bin .gtr (.tmp 34) (.const (.int .i64 (400))), none, [34], []⟩] [35])
(.cond (.tmp 35)
(.seq (.reg false [⟨some 2, .mv (.const (.int .i64 (5))), none, [], []⟩] [2])
.ret)
.skip))
(.seq (.reg false [⟨some 2, .mv (.const (.int .i64 (0))), none, [], []⟩] [2])
.ret)))))
theorem ok_18 : FnOk Tryz.prog 18 36 ac_18 [.tmp 2] := ⟨Tryz.f18, Tryz.func18, by kernel_rfl, by kernel_rfl, by kernel_rfl, by kernel_rfl, by kernel_rfl⟩
def ac_34 : AC :=
(.seq (.reg false [⟨some 1, .box 25 (.tmp 0), none, [0], []⟩,
    ⟨some 2, .mv (.const (.slice none 0 0)), none, [], []⟩] [1])
(.seq (.reg false [⟨some 3, .foff 0 (.tmp 1), none, [1], []⟩,
    ⟨some 4, .load false 1 (.tmp 3), none, [3], []⟩,
    ⟨some 5, .foff 1 (.tmp 1), none, [1], []⟩,
    ⟨some 6, .load false 1 (.tmp 5), none, [5], []⟩,
    ⟨some 7, .foff 2 (.tmp 1), none, [1], []⟩,
    ⟨some 8, .load false 1 (.tmp 7), none, [7], []⟩,
    ⟨some 9, .foff 3 (.tmp 1), none, [1], []⟩,
    ⟨some 10, .load false 1 (.tmp 9), none, [9], []⟩,
    ⟨some 11, .bslice 3 1 4 [(.int .i64 (0)), (.int .i64 (0)), (.int .i64 (0)), (.int .i64 (0))] [(0, 1, (.tmp 4)), (1, 1, (.tmp 6)), (2, 1, (.tmp 8)), (3, 1, (.tmp 10))], none, [4, 6, 8, 10], []⟩,
    ⟨some 2, .mv (.tmp 11), none, [11], []⟩] [2])
.ret))
theorem ok_34 : FnOk Tryz.prog 34 12 ac_34 [.tmp 2] := ⟨Tryz.f34, Tryz.func34, by kernel_rfl, by kernel_rfl, by kernel_rfl, by kernel_rfl, by kernel_rfl⟩
def ac_10 : AC :=
(.seq (.reg false [⟨some 1, .box 25 (.tmp 0), none, [0], []⟩,
    ⟨some 2, .mv (.const (.slice none 0 0)), none, [], []⟩,
    ⟨some 3, .mv (.const (.int .i64 (0))), none, [], []⟩] [1])
(.seq (.seq (.reg false [⟨some 10, .load true 5 (.tmp 1), none, [1], []⟩,
    ⟨some 11, .call 17 [(.tmp 10)], none, [10], []⟩,
    ⟨some 4, .mv (.tmp 11), none, [11], []⟩] [1, 4])
(.seq (.reg false [⟨some 12, .mv (.tmp 4), none, [4], []⟩,
    ⟨some 13, .bin .neq (.tmp 12) (.const (.int .i64 (0))), none, [12], []⟩] [1, 4, 13])
(.cond (.tmp 13)
(.seq (.reg false [⟨some 14, .mv (.tmp 4), none, [4], []⟩,
    ⟨some 2, .mv (.const (.slice none 0 0)), none, [], []⟩,
    ⟨some 3, .mv (.tmp 14), none, [14], []⟩] [2, 3])
.ret)
.skip)))
(.seq (.reg true [⟨some 16, .load true 5 (.tmp 1), none, [1], []⟩,
    ⟨some 17, .call 34 [(.tmp 16)], none, [16], [0]⟩,
    ⟨some 18, .foff 4 (.tmp 1), none, [1], []⟩,
    ⟨some 19, .load false 1 (.tmp 18), none, [18], [2]⟩,
    ⟨some 20, .bslice 22 1 1 [(.slice none 0 0)] [(0, 1, (.tmp 19))], none, [19], [3, 2]⟩,
    ⟨some 21, .build [(.int .i64 (0)), (.slice none 0 0), (.slice none 0 0)] [(0, 1, (.const (.int .i64 (7)))), (1, 1, (.tmp 17)), (2, 1, (.tmp 20))], none, [17, 20], [1, 4, 0, 3, 2]⟩,
    ⟨some 22, .call 33 [(.tmp 21)], none, [21], [5, 1, 4, 0, 3, 2]⟩,
    ⟨some 15, .mv (.tmp 22), none, [22], [6, 5, 1, 4, 0, 3, 2]⟩,
    ⟨some 23, .ext 0 (.tmp 15), none, [15], [7, 6, 5, 1, 4, 0, 3, 2]⟩,
    ⟨some 24, .ext 1 (.tmp 15), none, [15], [7, 6, 5, 1, 4, 0, 3, 2]⟩,
    ⟨some 5, .mv (.tmp 23), none, [23], [8, 6, 0, 1, 2, 3, 4, 5, 7]⟩,
    ⟨some 6, .mv (.tmp 24), none, [24], [9, 10, 0, 1, 2, 3, 4, 5, 6, 7, 8]⟩] [5])
(.seq (.reg false [⟨some 26, .mv (.tmp 5), none, [5], []⟩,
    ⟨some 27, .bslice 22 1 1 [(.slice none 0 0)] [(0, 1, (.tmp 26))], none, [26], []⟩,
    ⟨some 28, .call 35 [(.tmp 27)], none, [27], []⟩,
    ⟨some 25, .mv (.tmp 28), none, [28], []⟩,
    ⟨some 29, .ext 0 (.tmp 25), none, [25], []⟩,
    ⟨some 30, .ext 1 (.tmp 25), none, [25], []⟩,
    ⟨some 7, .mv (.tmp 29), none, [29], []⟩,
    ⟨some 8, .mv (.tmp 30), none, [30], []⟩] [7])
(.seq (.reg false [⟨some 31, .mksl 5 1 1 [(.int .u8 (0))] (.const (.int .i64 (512))) (.const (.int .i64 (512))), none, [], []⟩,
    ⟨some 9, .mv (.tmp 31), none, [31], []⟩] [7, 9])
(.seq (.reg false [⟨some 32, .mv (.tmp 9), none, [9], []⟩,
    ⟨some 33, .mv (.tmp 7), none, [7], []⟩,
    ⟨some 34, .copy (.tmp 32) (.tmp 33), none, [32, 33], []⟩] [9])
(.seq (.reg false [⟨some 35, .mv (.tmp 9), none, [9], []⟩,
    ⟨some 2, .mv (.tmp 35), none, [35], []⟩,
    ⟨some 3, .mv (.const (.int .i64 (0))), none, [], []⟩] [2, 3])
.ret)))))))
theorem ok_10 : FnOk Tryz.prog 10 36 ac_10 [.tmp 2, .tmp 3] := ⟨Tryz.f10, Tryz.func10, by kernel_rfl, by kernel_rfl, by kernel_rfl, by kernel_rfl, by kernel_rfl⟩
end Go.Proofs.YtdenddhdeloceaaGreatDoor
namespace Go.Proofs.YtdenddhdeloceaaGreatDoor
open Go.RowKit
set_option maxRecDepth 100000
abbrev L_gp (y : Bool) (q : List Int × Nat) : ASt := ⟨envOf [(0, .os 0 0 q.1.length 1), (1, .v (.int .u64 q.2))], heapOf [(0, .row y 5 (eB q.1))], 1⟩
theorem groups_spec (y : Bool) (l : List Int) (m : Nat) (id nb : Nat) (hid : id < nb) (hne : l ≠ []) (hl : l.length ≤ 140737488355300) (hm : m < 18446744073709551616) :
    ASound Tryz.prog 59 [.os id 0 l.length 1, .v (.int .u64 m)] nb (rowsM [(id, y, 5, eB l)] (.ret (.os nb 0 (l ++ gp m).length 1) [(id, none), (nb, some (.row y 5 (eB (l ++ gp m))))])) := by
  refine FnOk.soundX (m := 0) [(id, y, 5, eB l)] [none] ok_59 (W := [(nb, some (.row y 5 (eB (l ++ gp m))))]) (by simp) (by simp [AlL, Al]) (by simp) (by intro x hx; simp at hx; subst hx; exact ⟨by simp [eB, hne], al_B l, hid⟩) rfl (Nat.zero_le _) (by intro k cl h; rcases k with _ | k <;> simp at h) ?_
  simp only [ac_59, rowsIn, renL, ren, rn, List.map_cons, List.map_nil, List.zipIdx_cons, List.zipIdx_nil, List.find?_cons_of_pos, beq_self_eq_true, TT, ↓reduceIte, Nat.reduceEqDiff, Nat.reduceAdd, Nat.reduceMul, reduceCtorEq, Nat.reduceLeDiff]
  refine AWc.family (L_gp y) (fun q => q.1 ++ gp q.2 = l ++ gp m ∧ q.2 < 18446744073709551616 ∧ q.1.length ≤ 140737488355320) (fun q => q.2) (l, m) ⟨rfl, hm, by simp only; omega⟩ ?_ ?_
  · refine Weak.calc [(0, 0)] (by decide) ?_ ?_ <;> simp [WT]
  · rintro ⟨l', m'⟩ ⟨he, hm', hl'⟩
    simp only at he hm' hl'
    have hlen : (l' ++ gp m').length ≤ 140737488355320 := by rw [he, List.length_append]; have := gp_le hm; omega
    rw [List.length_append] at hlen
    by_cases hb : m' < 128
    · have e1 : ¬ ((127 : Int) < (m' : Int)) := by omega
      rw [gp_small hb] at hlen he
      simp only [List.length_cons, List.length_nil] at hlen
      have w8 : IntKind.u8.wrap (m' : Int) = m' := by rw [u8_wrap]; omega
      simp only [L_gp, e1, w8, len_B, TT, ↓reduceIte, Nat.reduceEqDiff, Nat.reduceAdd, Nat.reduceMul, reduceCtorEq, Nat.reduceLeDiff]
      rw [if_pos (by omega)]
      have hc : eB l' ++ [AV.v (.int .u8 (m' : Int))] = eB (l' ++ [(m' : Int)]) := by rw [app_B, one_B]
      rw [← he, hc]
      exact EndsX.rows1 (i := 600001) (r0 := .os 600001 0 (l' ++ [(m' : Int)]).length 1) (.inr rfl) (by simp [ET]) rfl (al_B _) (by simp [Al]) (by simp [ren, rn]) trivial
    · have e1 : ((127 : Int) < (m' : Int)) := by omega
      have hg := gp_big hb
      rw [hg, List.length_cons] at hlen
      simp only [L_gp, e1, or_128', sh_u64, len_B, TT, ↓reduceIte, Nat.reduceEqDiff, Nat.reduceAdd, Nat.reduceMul, reduceCtorEq, Nat.reduceLeDiff]
      rw [if_pos (by omega)]
      refine famC_next (l' ++ [((m' % 128 + 128 : Nat) : Int)], m' / 128) (by simp only; omega) ⟨by rw [← he, hg]; simp, by simp only; omega, by simp only [List.length_append, List.length_cons, List.length_nil]; omega⟩ ?_
      refine Weak.calc [(700001, 0)] (by decide) ?_ ?_ <;> simp [WT, app_B, one_B]
end Go.Proofs.YtdenddhdeloceaaGreatDoor
namespace Go.Proofs.YtdenddhdeloceaaGreatDoor
open Go.RowKit
variable {P : Program} {c d : Cx}
mutual
/-- all labels say young; all names are S's -/
def Yg (S : Nat → Prop) : AV → Prop
  | .any | .v _ | .wv _ => True
  | .fs fr cs _ | .fp fr cs _ | .us fr _ cs _ => fr = true ∧ YgL S cs
  | .agg cs | .tup cs | .fn _ cs => YgL S cs
  | .ifc _ a => Yg S a
  | .os id _ _ _ | .op id _ => S id
  | .ws _ _ | .wp _ => False
def YgL (S : Nat → Prop) : List AV → Prop
  | [] => True
  | a :: r => Yg S a ∧ YgL S r
end
theorem YgL_iff {S : Nat → Prop} : ∀ {l : List AV}, YgL S l ↔ ∀ a ∈ l, Yg S a
  | [] => by simp [YgL]
  | a :: r => by rw [YgL, YgL_iff (l := r)]; simp
mutual
theorem VR.yg {S : Nat → Prop} (hw : d.w = c.w) (hk : ∀ b, b < c.w.heap.size → c.ok true b → d.ok true b) (hn : ∀ i x, S i → c.φ i = some x → d.φ i = some x) : ∀ {a : AV} {u : Value}, Yg S a → VR c a u → VR d a u
  | .any, u, _, _ => trivial
  | .v x, u, _, k => k
  | .wv q, u, _, k => k
  | .fs fr cs n, u, q, k => by
    obtain ⟨A, k', rfl, hk', hm⟩ := k
    refine ⟨A, k', rfl, hk', fun h0 => ?_⟩
    obtain ⟨b, off, rfl, e1, e2, e3⟩ := hm h0
    obtain ⟨rfl, q2⟩ := q
    exact ⟨b, off, rfl, by rw [hw]; exact e1, hk b e1 e2, VRm.yg hw hk hn q2 e3⟩
  | .fp fr cs n, u, q, k => by
    obtain ⟨b, off, rfl, e1, e2, e3⟩ := k
    obtain ⟨rfl, q2⟩ := q
    exact ⟨b, off, rfl, by rw [hw]; exact e1, hk b e1 e2, VRm.yg hw hk hn q2 e3⟩
  | .us fr e cs n, u, q, k => by
    obtain ⟨A, k', rfl, hk', hm⟩ := k
    refine ⟨A, k', rfl, hk', fun h0 => ?_⟩
    obtain ⟨b, rfl, e2, ⟨vs, e1⟩, e3⟩ := hm h0
    obtain ⟨rfl, q2⟩ := q
    exact ⟨b, rfl, hk b (lt_of_blk e1) e2, ⟨vs, by rw [hw]; exact e1⟩, VRm.yg hw hk hn q2 e3⟩
  | .os id off n sz, u, q, k => by
    obtain ⟨A, k', rfl, hk', hm⟩ := k
    refine ⟨A, k', rfl, hk', ?_⟩
    rcases hm with ⟨h1, h2⟩ | ⟨b, h1, rfl, cs, e, f, h2, h3⟩
    · obtain ⟨x, hx⟩ := Option.ne_none_iff_exists'.1 h1
      exact .inl ⟨by rw [hn _ _ q hx]; simp, h2⟩
    · exact .inr ⟨b, hn _ _ q h1, rfl, cs, e, f, by rw [hw]; exact h2, h3⟩
  | .op id off, u, q, k => by
    obtain ⟨b, h1, rfl⟩ := k
    exact ⟨b, hn _ _ q h1, rfl⟩
  | .ifc t a, u, q, k => by obtain ⟨v, rfl, k⟩ := k; exact ⟨v, rfl, VR.yg hw hk hn (a := a) q k⟩
  | .agg l, u, q, k => by obtain ⟨us, rfl, k⟩ := k; exact ⟨us, rfl, VRl.yg hw hk hn q k⟩
  | .tup l, u, q, k => by obtain ⟨us, rfl, k⟩ := k; exact ⟨us, rfl, VRt.yg hw hk hn q k⟩
  | .fn f l, u, q, k => by obtain ⟨us, rfl, k⟩ := k; exact ⟨us, rfl, VRt.yg hw hk hn q k⟩
theorem VRm.yg {S : Nat → Prop} (hw : d.w = c.w) (hk : ∀ b, b < c.w.heap.size → c.ok true b → d.ok true b) (hn : ∀ i x, S i → c.φ i = some x → d.φ i = some x) {b : Nat} : ∀ {cs : List AV} {off : Nat}, YgL S cs → VRm c b off cs → VRm d b off cs
  | [], _, _, _ => trivial
  | a :: r, off, q, k => by
    rw [VRm] at k ⊢
    obtain ⟨⟨u, h1, h2, h3⟩, h4⟩ := k
    exact ⟨⟨u, by rw [hw]; exact h1, h2, VR.yg hw hk hn q.1 h3⟩, VRm.yg hw hk hn q.2 h4⟩
theorem VRl.yg {S : Nat → Prop} (hw : d.w = c.w) (hk : ∀ b, b < c.w.heap.size → c.ok true b → d.ok true b) (hn : ∀ i x, S i → c.φ i = some x → d.φ i = some x) : ∀ {cs : List AV} {us : List Value}, YgL S cs → VRl c cs us → VRl d cs us
  | [], _, _, k => k
  | a :: r, us, q, k => by
    rw [VRl] at k ⊢
    obtain ⟨u, us', rfl, h1, h2, h3⟩ := k
    exact ⟨u, us', rfl, h1, VR.yg hw hk hn q.1 h2, VRl.yg hw hk hn q.2 h3⟩
theorem VRt.yg {S : Nat → Prop} (hw : d.w = c.w) (hk : ∀ b, b < c.w.heap.size → c.ok true b → d.ok true b) (hn : ∀ i x, S i → c.φ i = some x → d.φ i = some x) : ∀ {cs : List AV} {us : List Value}, YgL S cs → VRt c cs us → VRt d cs us
  | [], _, _, k => k
  | a :: r, us, q, k => by
    rw [VRt] at k ⊢
    obtain ⟨u, us', rfl, h2, h3⟩ := k
    exact ⟨u, us', rfl, VR.yg hw hk hn q.1 h2, VRt.yg hw hk hn q.2 h3⟩
end
mutual
/-- what is known of it, as old data -/
def od : AV → AV
  | .any => .any
  | .v x => .v x
  | .wv k => .wv k
  | .fs _ cs n => .fs false (odL cs) n
  | .fp _ cs n => .fp false (odL cs) n
  | .us _ e cs n => .us false e (odL cs) n
  | .agg l => .agg (odL l)
  | .tup l => .tup (odL l)
  | .fn f l => .fn f (odL l)
  | .ifc t a => .ifc t (od a)
  | .os _ _ _ _ | .op _ _ | .ws _ _ | .wp _ => .any
def odL : List AV → List AV
  | [] => []
  | a :: r => od a :: odL r
end
theorem odL_map : ∀ l : List AV, odL l = l.map od
  | [] => rfl
  | a :: r => by rw [odL, odL_map r]; rfl
mutual
theorem VR.od (hw : d.w = c.w) (hk : ∀ fr b, b < c.w.heap.size → c.ok fr b → d.ok false b) : ∀ {a : AV} {u : Value}, VR c a u → VR d (od a) u
  | .any, u, _ => trivial
  | .v x, u, k => k
  | .wv q, u, k => k
  | .ws _ _, u, _ => trivial
  | .wp _, u, _ => trivial
  | .os _ _ _ _, u, _ => trivial
  | .op _ _, u, _ => trivial
  | .fs fr cs n, u, k => by
    obtain ⟨A, k', rfl, hk', hm⟩ := k
    refine ⟨A, k', rfl, hk', fun h0 => ?_⟩
    obtain ⟨b, off, rfl, e1, e2, e3⟩ := hm h0
    exact ⟨b, off, rfl, by rw [hw]; exact e1, hk fr b e1 e2, VRm.od hw hk e3⟩
  | .fp fr cs n, u, k => by
    obtain ⟨b, off, rfl, e1, e2, e3⟩ := k
    exact ⟨b, off, rfl, by rw [hw]; exact e1, hk fr b e1 e2, VRm.od hw hk e3⟩
  | .us fr e cs n, u, k => by
    obtain ⟨A, k', rfl, hk', hm⟩ := k
    refine ⟨A, k', rfl, hk', fun h0 => ?_⟩
    obtain ⟨b, rfl, e2, ⟨vs, e1⟩, e3⟩ := hm h0
    exact ⟨b, rfl, hk fr b (lt_of_blk e1) e2, ⟨vs, by rw [hw]; exact e1⟩, VRm.od hw hk e3⟩
  | .ifc t a, u, k => by obtain ⟨v, rfl, k⟩ := k; exact ⟨v, rfl, VR.od hw hk (a := a) k⟩
  | .agg l, u, k => by obtain ⟨us, rfl, k⟩ := k; exact ⟨us, rfl, VRl.od hw hk k⟩
  | .tup l, u, k => by obtain ⟨us, rfl, k⟩ := k; exact ⟨us, rfl, VRt.od hw hk k⟩
  | .fn f l, u, k => by obtain ⟨us, rfl, k⟩ := k; exact ⟨us, rfl, VRt.od hw hk k⟩
theorem VRm.od (hw : d.w = c.w) (hk : ∀ fr b, b < c.w.heap.size → c.ok fr b → d.ok false b) {b : Nat} : ∀ {cs : List AV} {off : Nat}, VRm c b off cs → VRm d b off (odL cs)
  | [], _, _ => trivial
  | a :: r, off, k => by
    rw [VRm] at k
    rw [odL, VRm]
    obtain ⟨⟨u, h1, h2, h3⟩, h4⟩ := k
    exact ⟨⟨u, by rw [hw]; exact h1, h2, VR.od hw hk h3⟩, VRm.od hw hk h4⟩
theorem VRl.od (hw : d.w = c.w) (hk : ∀ fr b, b < c.w.heap.size → c.ok fr b → d.ok false b) : ∀ {cs : List AV} {us : List Value}, VRl c cs us → VRl d (odL cs) us
  | [], _, k => k
  | a :: r, us, k => by
    rw [VRl] at k
    rw [odL, VRl]
    obtain ⟨u, us', rfl, h1, h2, h3⟩ := k
    exact ⟨u, us', rfl, h1, VR.od hw hk h2, VRl.od hw hk h3⟩
theorem VRt.od (hw : d.w = c.w) (hk : ∀ fr b, b < c.w.heap.size → c.ok fr b → d.ok false b) : ∀ {cs : List AV} {us : List Value}, VRt c cs us → VRt d (odL cs) us
  | [], _, k => k
  | a :: r, us, k => by
    rw [VRt] at k
    rw [odL, VRt]
    obtain ⟨u, us', rfl, h2, h3⟩ := k
    exact ⟨u, us', rfl, VR.od hw hk h2, VRt.od hw hk h3⟩
end
def cellsAt : List RW → Nat → Option (List AV)
  | [], _ => none
  | x :: r, id => if id = x.1 then some x.2.2.2 else cellsAt r id
theorem cellsAt_mem : ∀ {rws : List RW} {id : Nat} {cs : List AV}, cellsAt rws id = some cs → ∃ (j : Nat) (x : RW), rws[j]? = some x ∧ x.1 = id ∧ x.2.2.2 = cs
  | [], _, _, h => by cases h
  | x :: r, id, cs, h => by
    rw [cellsAt] at h
    split at h
    · rename_i e; cases h; exact ⟨0, x, rfl, e.symm, rfl⟩
    · obtain ⟨j, y, h1, h2⟩ := cellsAt_mem h
      exact ⟨j + 1, y, by simpa using h1, h2⟩
mutual
/-- an argument, its rows as data -/
def bo (rws : List RW) : AV → AV
  | .os id off n sz => match cellsAt rws id with | some cs => .fs false (odL ((cs.drop off).take (n * sz))) n | none => .any
  | .op id off => match cellsAt rws id with | some cs => .fp false (odL cs) off | none => .any
  | .agg l => .agg (boL rws l)
  | .fn f l => .fn f (boL rws l)
  | .ifc t a => .ifc t (bo rws a)
  | a => od a
def boL (rws : List RW) : List AV → List AV
  | [] => []
  | a :: r => bo rws a :: boL rws r
end
section
variable {rws : List RW}
theorem VR.bo0 (hr : HR c) (hσ : ∀ (j : Nat) (x : RW), rws[j]? = some x → c.σ x.1 = some (.row x.2.1 x.2.2.1 x.2.2.2)) (hne : ∀ x ∈ rws, x.2.2.2 ≠ []) (hw : d.w = c.w) (hk : ∀ fr b, b < c.w.heap.size → c.ok fr b → d.ok false b)
    (hrow : ∀ (j : Nat) (x : RW) b, rws[j]? = some x → c.φ x.1 = some (some b) → d.ok false b) {id : Nat} {cs : List AV} (hc : cellsAt rws id = some cs) : ∃ b, c.φ id = some (some b) ∧ b < c.w.heap.size ∧ d.ok false b ∧ VRm d b 0 (odL cs) := by
  obtain ⟨j, x, h1, rfl, rfl⟩ := cellsAt_mem hc
  rcases hr.row x.1 _ _ _ (hσ j x h1) with ⟨_, h2⟩ | ⟨b, vs, g1, g2, g3, g4, g5⟩
  · exact absurd h2 (hne x (List.mem_of_getElem? h1))
  · refine ⟨b, g1, lt_of_blk g2, hrow j x b h1 g1, VRm.od hw hk (VRm_iff.2 fun q a hq => ?_)⟩
    obtain ⟨u, k1, k2, k3⟩ := g5 q a hq
    exact ⟨u, by rw [Nat.zero_add]; simp [World.cell?, g2, k1], k2, k3⟩
mutual
theorem VR.bo (hr : HR c) (hσ : ∀ (j : Nat) (x : RW), rws[j]? = some x → c.σ x.1 = some (.row x.2.1 x.2.2.1 x.2.2.2)) (hne : ∀ x ∈ rws, x.2.2.2 ≠ []) (hw : d.w = c.w) (hk : ∀ fr b, b < c.w.heap.size → c.ok fr b → d.ok false b)
    (hrow : ∀ (j : Nat) (x : RW) b, rws[j]? = some x → c.φ x.1 = some (some b) → d.ok false b) : ∀ {a : AV} {u : Value}, VR c a u → VR d (bo rws a) u
  | .os id off n sz, u, k => by
    unfold Go.Proofs.YtdenddhdeloceaaGreatDoor.bo
    cases hc : cellsAt rws id with
    | none => trivial
    | some cs =>
      obtain ⟨b, g1, g2, g3, g4⟩ := VR.bo0 hr hσ hne hw hk hrow hc
      obtain ⟨A, k', rfl, hk', hm⟩ := k
      refine ⟨A, k', rfl, hk', fun h0 => ?_⟩
      rcases hm with ⟨_, h2⟩ | ⟨b', h1, rfl, _⟩
      · omega
      · rw [g1] at h1; cases h1
        refine ⟨b, off, rfl, by rw [hw]; exact g2, g3, VRm_iff.2 fun q a hq => ?_⟩
        rw [odL_map, List.getElem?_map, Option.map_eq_some_iff] at hq
        obtain ⟨a', h8, rfl⟩ := hq
        rw [List.getElem?_take] at h8
        split at h8
        · rw [List.getElem?_drop] at h8
          have := VRm_iff.1 g4 (off + q) (od a') (by rw [odL_map, List.getElem?_map, h8]; rfl)
          rwa [Nat.zero_add] at this
        · cases h8
  | .op id off, u, k => by
    unfold Go.Proofs.YtdenddhdeloceaaGreatDoor.bo
    cases hc : cellsAt rws id with
    | none => trivial
    | some cs =>
      obtain ⟨b, g1, g2, g3, g4⟩ := VR.bo0 hr hσ hne hw hk hrow hc
      obtain ⟨b', h1, rfl⟩ := k
      rw [g1] at h1; cases h1
      exact ⟨b, 0, by rw [Nat.zero_add], by rw [hw]; exact g2, g3, g4⟩
  | .agg l, u, k => by obtain ⟨us, rfl, k⟩ := k; exact ⟨us, rfl, VRl.bo hr hσ hne hw hk hrow k⟩
  | .ifc t a, u, k => by obtain ⟨v, rfl, k⟩ := k; exact ⟨v, rfl, VR.bo hr hσ hne hw hk hrow (a := a) k⟩
  | .any, u, k => VR.od hw hk (a := .any) k
  | .v x, u, k => VR.od hw hk (a := .v x) k
  | .wv x, u, k => VR.od hw hk (a := .wv x) k
  | .ws x n, u, k => VR.od hw hk (a := .ws x n) k
  | .wp x, u, k => VR.od hw hk (a := .wp x) k
  | .fs fr cs n, u, k => VR.od hw hk (a := .fs fr cs n) k
  | .fp fr cs n, u, k => VR.od hw hk (a := .fp fr cs n) k
  | .us fr e cs n, u, k => VR.od hw hk (a := .us fr e cs n) k
  | .tup l, u, k => VR.od hw hk (a := .tup l) k
  | .fn f l, u, k => by obtain ⟨us, rfl, k⟩ := k; exact ⟨us, rfl, VRt.bo hr hσ hne hw hk hrow k⟩
theorem VRl.bo (hr : HR c) (hσ : ∀ (j : Nat) (x : RW), rws[j]? = some x → c.σ x.1 = some (.row x.2.1 x.2.2.1 x.2.2.2)) (hne : ∀ x ∈ rws, x.2.2.2 ≠ []) (hw : d.w = c.w) (hk : ∀ fr b, b < c.w.heap.size → c.ok fr b → d.ok false b)
    (hrow : ∀ (j : Nat) (x : RW) b, rws[j]? = some x → c.φ x.1 = some (some b) → d.ok false b) : ∀ {cs : List AV} {us : List Value}, VRl c cs us → VRl d (boL rws cs) us
  | [], _, k => k
  | a :: r, us, k => by
    rw [VRl] at k
    rw [boL, VRl]
    obtain ⟨u, us', rfl, h1, h2, h3⟩ := k
    exact ⟨u, us', rfl, h1, VR.bo hr hσ hne hw hk hrow h2, VRl.bo hr hσ hne hw hk hrow h3⟩
theorem VRt.bo (hr : HR c) (hσ : ∀ (j : Nat) (x : RW), rws[j]? = some x → c.σ x.1 = some (.row x.2.1 x.2.2.1 x.2.2.2)) (hne : ∀ x ∈ rws, x.2.2.2 ≠ []) (hw : d.w = c.w) (hk : ∀ fr b, b < c.w.heap.size → c.ok fr b → d.ok false b)
    (hrow : ∀ (j : Nat) (x : RW) b, rws[j]? = some x → c.φ x.1 = some (some b) → d.ok false b) : ∀ {cs : List AV} {us : List Value}, VRt c cs us → VRt d (boL rws cs) us
  | [], _, k => k
  | a :: r, us, k => by
    rw [VRt] at k
    rw [boL, VRt]
    obtain ⟨u, us', rfl, h2, h3⟩ := k
    exact ⟨u, us', rfl, VR.bo hr hσ hne hw hk hrow h2, VRt.bo hr hσ hne hw hk hrow h3⟩
end
end
/-- the rows that a contract leaves -/
def newW (nb : Nat) (ws : List (Bool × Nat × List AV)) : List (Nat × Option AObj) := (ws.zipIdx nb).map fun x => (x.2, some (AObj.row x.1.1 x.1.2.1 x.1.2.2))
theorem ASound.borrow {f : FuncId} {args : List AV} {nb : Nat} {r : AV} (ws : List (Bool × Nat × List AV)) (rws : List RW) (h : ASound P f (boL rws args) nb (.ret r (newW nb ws))) (hne : ∀ x ∈ rws, x.2.2.2 ≠ []) (hfew : ws.length ≤ 100000)
    (hy : Yg (fun i => nb ≤ i ∧ i < nb + ws.length) r) (hyw : ∀ x ∈ ws, YgL (fun i => nb ≤ i ∧ i < nb + ws.length) x.2.2) : ASound P f args nb (rowsM rws (.ret r (newW nb ws))) := by
  refine ⟨h.1, fun c us r' R W' hrun hr hfr hv => ?_⟩
  obtain ⟨hσ, R', hrun2⟩ := rowsM_run hrun
  simp [AM.run] at hrun2
  obtain ⟨rfl, _, rfl⟩ := hrun2
  clear hrun
  obtain ⟨Yx, Yx_pos, Yx_neg⟩ := c.yx
  have Tlt : ∀ b, c.T b → b < c.w.heap.size := by
    rintro b ⟨i, ⟨y', e', cl⟩, e1, e2⟩
    rcases hr.row i y' e' cl e1 with ⟨g1, _⟩ | ⟨b', cs, g1, g2, _⟩
    · rw [e2] at g1; cases g1
    · rw [e2] at g1; cases g1; exact lt_of_blk g2
  generalize hc1 : (⟨c.w, c.w.heap.size, fun _ => none, fun _ => none, fun b => (c.T b ∧ ∀ (j : Nat) (x : RW), rws[j]? = some x → c.φ x.1 ≠ some (some b)) ∨ c.X b, Yx⟩ : Cx) = c1
  have w1 : c1.w = c.w := by rw [← hc1]
  have B1 : c1.B = c.w.heap.size := by rw [← hc1]
  have σ1 : c1.σ = fun _ => none := by rw [← hc1]
  have φ1 : c1.φ = fun _ => none := by rw [← hc1]
  have X1 : ∀ b, c1.X b ↔ ((c.T b ∧ ∀ (j : Nat) (x : RW), rws[j]? = some x → c.φ x.1 ≠ some (some b)) ∨ c.X b) := by rw [← hc1]; intro b; rfl
  have Y1 : c1.Y = Yx := by rw [← hc1]
  have T1 : ∀ b, ¬ c1.T b := by rintro b ⟨id, o, e1, _⟩; rw [σ1] at e1; cases e1
  have hx1 : ∀ b, c1.X b → b < c1.w.heap.size := by
    intro b hb
    rw [w1]
    rcases (X1 b).1 hb with h9 | h9
    · exact Tlt b h9.1
    · exact hr.xlt b h9
  have hr1 : HR c1 := ⟨fun id y e cells hs => (by rw [σ1] at hs; cases hs), fun id id' b e1 => (by rw [σ1] at e1; exact absurd rfl e1), (by rw [B1, w1]; exact Nat.le_refl _), hx1, hr.gl.to fun b _ h2 h3 => ⟨by rw [w1], T1 b, fun _ => by
      rw [Y1]
      by_cases hx : c.X b
      · rw [Yx_pos _ hx]; exact h3 hx
      · exact Yx_neg _ hx⟩⟩
  have hv1 : VRt c1 (boL rws args) us := by
    refine VRt.bo hr hσ hne w1 (fun fr b _ ho => ⟨fun h => (by cases h), T1 b, ?_⟩) (fun j x b h1 h2 => ⟨fun h => (by cases h), T1 b, ?_⟩) hv
    · rw [X1]; rintro (h9 | h9)
      · exact ho.2.1 h9.1
      · exact ho.2.2 h9
    · rw [X1]; rintro (h9 | h9)
      · exact h9.2 j x h1 h2
      · exact hr.TX ⟨x.1, _, hσ j x h1, h2⟩ h9
  have hk9 := h.2 c1 us r [] (newW nb ws) rfl hr1 (fun id _ => .inl (by rw [φ1])) hv1
  rw [w1] at hk9
  refine hk9.mono ?_
  rintro e w' ⟨v, d1, rfl, rfl, hv2, T2⟩
  have G := T2.grow
  have dσ1 : ∀ i, d1.σ i = if nb ≤ i then (match ws[i - nb]? with | some x => some (.row x.1 x.2.1 x.2.2) | none => none) else none := by
    intro i
    rw [T2.σ, σ1, newW, app_rows]
    cases ws[i - nb]? <;> rfl
  generalize hd : (⟨d1.w, c.B, fun i => if nb ≤ i ∧ i < nb + ws.length then d1.φ i else c.φ i, app c.σ (newW nb ws), c.X, c.Y⟩ : Cx) = d
  have dw : d.w = d1.w := by rw [← hd]
  have dB : d.B = c.B := by rw [← hd]
  have dX : d.X = c.X := by rw [← hd]
  have dY : d.Y = c.Y := by rw [← hd]
  have dφ : ∀ i, d.φ i = if nb ≤ i ∧ i < nb + ws.length then d1.φ i else c.φ i := by rw [← hd]; intro i; rfl
  have dσ : ∀ i, d.σ i = if nb ≤ i then (match ws[i - nb]? with | some x => some (.row x.1 x.2.1 x.2.2) | none => c.σ i) else c.σ i := by
    intro i
    rw [← hd]
    show app c.σ (newW nb ws) i = _
    rw [newW, app_rows]
    cases ws[i - nb]? <;> rfl
  have stay : ∀ b, b < c.w.heap.size → (c.X b → c.Y b = .no) → d.w.heap[b]? = c.w.heap[b]? := fun b hb hy => by
    rw [dw]
    have := G.stay b (by rw [w1]; exact hb) (T1 b) (fun _ => by
      rw [Y1]
      by_cases hx : c.X b
      · rw [Yx_pos _ hx]; exact hy hx
      · exact Yx_neg _ hx)
    rw [this, w1]
  have size : c.w.heap.size ≤ d.w.heap.size := by rw [dw, ← w1]; exact G.size
  have newT : ∀ b, d1.T b → c.w.heap.size ≤ b := fun b hb => by
    rcases G.held b hb with h9 | h9
    · exact absurd h9 (T1 b)
    · rw [← w1]; exact h9
  have names : Names c d := by
    intro i x hx
    rw [dφ]
    by_cases h1 : nb ≤ i ∧ i < nb + ws.length
    · rcases hfr i h1.1 with h2 | h2
      · rw [h2] at hx; cases hx
      · omega
    · rw [if_neg h1]; exact hx
  have dlive : ∀ i o, d.σ i = some o → (c.σ i = some o ∧ d.φ i = c.φ i ∧ ¬ (nb ≤ i ∧ i < nb + ws.length)) ∨ (nb ≤ i ∧ i < nb + ws.length ∧ d1.σ i = some o ∧ d.φ i = d1.φ i ∧ ∃ x ∈ ws, o = .row x.1 x.2.1 x.2.2) := by
    intro i o ho
    by_cases h1 : nb ≤ i ∧ i < nb + ws.length
    · right
      have h2 : i - nb < ws.length := by omega
      rw [dσ, if_pos h1.1, List.getElem?_eq_getElem h2] at ho
      exact ⟨h1.1, h1.2, by rw [dσ1, if_pos h1.1, List.getElem?_eq_getElem h2]; exact ho, by rw [dφ, if_pos h1], _, List.getElem_mem h2, by simp at ho; exact ho.symm⟩
    · left
      refine ⟨?_, by rw [dφ, if_neg h1], h1⟩
      rw [dσ] at ho
      by_cases h2 : nb ≤ i
      · rw [if_pos h2, List.getElem?_eq_none_iff.2 (by omega)] at ho; exact ho
      · rw [if_neg h2] at ho; exact ho
  have dT : ∀ b, d.T b → c.T b ∨ (c.w.heap.size ≤ b ∧ d1.T b) := by
    rintro b ⟨i, o, e1, e2⟩
    rcases dlive i o e1 with ⟨f1, f2, _⟩ | ⟨_, _, f3, f4, _⟩
    · exact .inl ⟨i, o, f1, by rw [← f2]; exact e2⟩
    · rw [f4] at e2
      exact .inr ⟨newT b ⟨i, o, f3, e2⟩, i, o, f3, e2⟩
  have grow : Grow c d := by
    refine ⟨dX, dB, ?_, ?_, ?_, size, fun b hb _ hy => stay b hb hy, fun b hb => (dT b hb).imp id (·.1), fun b cs e f hb => (by have := G.shape b cs e f (by rw [w1]; exact hb); rw [dw]; exact this), dY, fun b k sz h1 h2 h3 h4 h5 => (by
      have := G.wild b k sz (T1 b) (by rw [X1]; exact .inr h2) (by rw [Y1, Yx_pos _ h2]; exact h3) h4 (by rw [w1]; exact h5)
      rw [dw]; exact this)⟩
    · rw [dw, G.out, w1]
    · rw [dw, G.osE, w1]
    · rw [dw, G.tape, w1]
  have base := hr.base
  have ok2 : ∀ b, b < d1.w.heap.size → d1.ok true b → d.ok true b := fun b _ ho => by
    have hge : c.w.heap.size ≤ b := by have := ho.1 rfl; rw [G.B, B1] at this; exact this
    refine ⟨fun _ => by rw [dB]; omega, fun ht => ?_, fun hx => ?_⟩
    · rcases dT b ht with h9 | h9
      · have := Tlt b h9; omega
      · exact ho.2.1 h9.2
    · rw [dX] at hx; have := hr.xlt b hx; omega
  have nm2 : ∀ i x, (nb ≤ i ∧ i < nb + ws.length) → d1.φ i = some x → d.φ i = some x := fun i x h1 h2 => by rw [dφ, if_pos h1]; exact h2
  have hrd : HR d := by
    refine ⟨fun i y2 e2 cl hs => ?_, fun i i' b e1 e2 e3 e4 => ?_, by rw [dB]; exact Nat.le_trans hr.base size, fun b hb => by rw [dX] at hb; exact Nat.lt_of_lt_of_le (hr.xlt b hb) size, hr.gl.grow grow⟩
    · rcases dlive i _ hs with ⟨f1, f2, _⟩ | ⟨h1, h2, f3, f4, x, hx, f5⟩
      · rcases hr.row i y2 e2 cl f1 with ⟨g1, g2⟩ | ⟨b, cs, g1, g2, g3', g4, g5⟩
        · exact .inl ⟨by rw [f2]; exact g1, g2⟩
        · refine .inr ⟨b, cs, by rw [f2]; exact g1, by rw [stay b (lt_of_blk g2) (fun h9 => absurd h9 g3'.2)]; exact g2, ⟨by rw [dB]; exact g3'.1, by rw [dX]; exact g3'.2⟩, g4, fun j x hj => ?_⟩
          obtain ⟨q, k1, k2, k3⟩ := g5 j x hj
          exact ⟨q, k1, k2, k3.mono grow names⟩
      · cases f5
        rcases T2.hr.row i _ _ _ f3 with ⟨g1, g2⟩ | ⟨b, cs, g1, g2, g3', g4, g5⟩
        · exact .inl ⟨by rw [f4]; exact g1, g2⟩
        · have hge := newT b ⟨i, _, f3, g1⟩
          refine .inr ⟨b, cs, by rw [f4]; exact g1, by rw [dw]; exact g2, ⟨fun _ => by rw [dB]; omega, fun hx2 => by rw [dX] at hx2; have := hr.xlt b hx2; omega⟩, g4, fun j x' hj => ?_⟩
          obtain ⟨q, m1, m2, m3⟩ := g5 j x' hj
          exact ⟨q, m1, m2, VR.yg dw ok2 nm2 (YgL_iff.1 (hyw x hx) x' (List.mem_of_getElem? hj)) m3⟩
    · obtain ⟨o1, ho1⟩ := Option.ne_none_iff_exists'.1 e1
      obtain ⟨o2, ho2⟩ := Option.ne_none_iff_exists'.1 e2
      rcases dlive i o1 ho1 with ⟨f1, f2, _⟩ | ⟨_, _, f3, f4, _⟩ <;> rcases dlive i' o2 ho2 with ⟨j1, j2, _⟩ | ⟨_, _, j3, j4, _⟩
      · exact hr.inj i i' b (by rw [f1]; simp) (by rw [j1]; simp) (by rw [← f2]; exact e3) (by rw [← j2]; exact e4)
      · rw [j4] at e4
        have := newT b ⟨i', _, j3, e4⟩
        have := Tlt b ⟨i, _, f1, by rw [← f2]; exact e3⟩
        omega
      · rw [f4] at e3
        have := newT b ⟨i, _, f3, e3⟩
        have := Tlt b ⟨i', _, j1, by rw [← j2]; exact e4⟩
        omega
      · rw [f4] at e3
        rw [j4] at e4
        exact T2.hr.inj i i' b (by rw [f3]; simp) (by rw [j3]; simp) e3 e4
  exact ⟨v, d, rfl, dw, VR.yg dw ok2 nm2 hy hv2, grow, names, hrd, by rw [← hd], fun i hi => by
    rw [dφ] at hi
    by_cases h1 : nb ≤ i ∧ i < nb + ws.length
    · exact .inr (by omega)
    · rw [if_neg h1] at hi; exact .inl hi⟩
end Go.Proofs.YtdenddhdeloceaaGreatDoor
namespace Go.Proofs.YtdenddhdeloceaaGreatDoor
open Go.RowKit
set_option maxRecDepth 100000
theorem recE_kind {r : Rec} (h : r.kind < 0 ∨ 255 < r.kind) : recE r = 22 := by unfold recE; rw [if_pos h]
theorem recE_many {r : Rec} (h : ¬ (r.kind < 0 ∨ 255 < r.kind)) (h2 : 64 < r.nums.length ∨ 64 < r.texts.length) : recE r = 3 := by unfold recE; rw [if_neg h, if_pos h2]
theorem recE_long {r : Rec} (h : ¬ (r.kind < 0 ∨ 255 < r.kind)) (h2 : ¬ (64 < r.nums.length ∨ 64 < r.texts.length)) {i : Nat} {t : List Int} (ht : r.texts[i]? = some t) (hl : 4096 < t.length) : recE r = 5 := by
  unfold recE; rw [if_neg h, if_neg h2, if_pos ⟨t, List.mem_of_getElem? ht, hl⟩]
theorem recE_ok {r : Rec} (h : ¬ (r.kind < 0 ∨ 255 < r.kind)) (h2 : ¬ (64 < r.nums.length ∨ 64 < r.texts.length)) (h3 : ∀ t ∈ r.texts, ¬ 4096 < t.length) : recE r = 0 := by
  unfold recE; rw [if_neg h, if_neg h2, if_neg (by rintro ⟨t, ht, hl⟩; exact h3 t ht hl)]
theorem take_all {α : Type} {p : α → Prop} {l : List α} {k : Nat} {x : α} (h : ∀ t ∈ l.take k, p t) (hx : l[k]? = some x) (hp : p x) : ∀ t ∈ l.take (k + 1), p t := by
  intro t ht
  rw [take_snoc hx] at ht
  rcases List.mem_append.1 ht with h1 | h1
  · exact h t h1
  · simp at h1; subst h1; exact hp
abbrev L_chk (fr : Bool) (r : Rec) (i : Nat) : ASt := ⟨envOf [(24, fL fr r.texts), (25, .v (.int .i64 r.texts.length)), (26, .v (.int .i64 i))], heapOf [], 0⟩
theorem check_spec (fr : Bool) (r : Rec) (nb : Nat) : ASound Tryz.prog 58 [aRec fr r] nb (.ret (.v (.int .i64 (recE r))) []) := by
  refine ok_58.sound (by simp) ⟨al_aRec r, trivial⟩ ?_
  by_cases h1 : r.kind < 0
  · rw [recE_kind (.inl h1)]
    simp only [ac_58, h1, TT, ↓reduceIte, Nat.reduceEqDiff, Nat.reduceAdd, Nat.reduceMul, reduceCtorEq, Nat.reduceLeDiff]
    exact Ends.data (.inr rfl) (by simp [ET]) trivial
  by_cases h2 : 255 < r.kind
  · rw [recE_kind (.inr h2)]
    simp only [ac_58, h1, h2, TT, ↓reduceIte, Nat.reduceEqDiff, Nat.reduceAdd, Nat.reduceMul, reduceCtorEq, Nat.reduceLeDiff]
    exact Ends.data (.inr rfl) (by simp [ET]) trivial
  have h12 : ¬ (r.kind < 0 ∨ 255 < r.kind) := by omega
  by_cases h3 : 64 < r.nums.length
  · rw [recE_many h12 (.inl h3)]
    have e3 : (64 : Int) < (r.nums.length : Int) := by omega
    simp only [ac_58, h1, h2, e3, TT, ↓reduceIte, Nat.reduceEqDiff, Nat.reduceAdd, Nat.reduceMul, reduceCtorEq, Nat.reduceLeDiff]
    exact Ends.data (.inr rfl) (by simp [ET]) trivial
  have e3 : ¬ (64 : Int) < (r.nums.length : Int) := by omega
  by_cases h4 : 64 < r.texts.length
  · rw [recE_many h12 (.inr h4)]
    have e4 : (64 : Int) < (r.texts.length : Int) := by omega
    simp only [ac_58, h1, h2, e3, e4, TT, ↓reduceIte, Nat.reduceEqDiff, Nat.reduceAdd, Nat.reduceMul, reduceCtorEq, Nat.reduceLeDiff]
    exact Ends.data (.inr rfl) (by simp [ET]) trivial
  have e4 : ¬ (64 : Int) < (r.texts.length : Int) := by omega
  have h34 : ¬ (64 < r.nums.length ∨ 64 < r.texts.length) := by omega
  simp only [ac_58, h1, h2, e3, e4, TT, ↓reduceIte, Nat.reduceEqDiff, Nat.reduceAdd, Nat.reduceMul, reduceCtorEq, Nat.reduceLeDiff]
  refine AWc.family (L_chk fr r) (fun i => i ≤ r.texts.length ∧ ∀ t ∈ r.texts.take i, ¬ 4096 < t.length) (fun i => r.texts.length - i) 0 ⟨Nat.zero_le _, by simp⟩ ?_ ?_
  · refine Weak.calc [] (by decide) ?_ ?_ <;> simp [WT]
  · rintro i ⟨hi, ha⟩
    by_cases hlt : i < r.texts.length
    · obtain ⟨t, ht, e1, e0⟩ := lt_at hlt
      by_cases hl : 4096 < t.length
      · have e5 : (4096 : Int) < (t.length : Int) := by omega
        rw [recE_long h12 h34 ht hl]
        simp only [L_chk, e1, e0, get_L ht, e5, TT, ↓reduceIte, Nat.reduceEqDiff, Nat.reduceAdd, Nat.reduceMul, reduceCtorEq, Nat.reduceLeDiff]
        exact Ends.data (.inr rfl) (by simp [ET]) trivial
      · have e5 : ¬ (4096 : Int) < (t.length : Int) := by omega
        simp only [L_chk, e1, e0, get_L ht, e5, TT, ↓reduceIte, Nat.reduceEqDiff, Nat.reduceAdd, Nat.reduceMul, reduceCtorEq, Nat.reduceLeDiff]
        refine famC_next (i + 1) (by omega) ⟨by omega, take_all ha ht hl⟩ ?_
        refine Weak.calc [] (by decide) ?_ ?_ <;> simp [WT, wrap64 (x := (i : Int) + 1) (by omega)]
    · obtain rfl : i = r.texts.length := by omega
      have e1 : ¬ ((r.texts.length : Int) < (r.texts.length : Int)) := by omega
      rw [List.take_length] at ha
      rw [recE_ok h12 h34 ha]
      simp only [L_chk, e1, TT, ↓reduceIte, Nat.reduceEqDiff, Nat.reduceAdd, Nat.reduceMul, reduceCtorEq, Nat.reduceLeDiff]
      exact Ends.data (.inr rfl) (by simp [ET]) trivial
end Go.Proofs.YtdenddhdeloceaaGreatDoor
namespace Go.Proofs.YtdenddhdeloceaaGreatDoor
open Go.RowKit
set_option maxRecDepth 100000
theorem od_B (l : List Int) : odL (eB l) = eB l := by
  rw [odL_map, eB, List.map_map]; rfl
theorem od_I (l : List Int) : odL (eI l) = eI l := by
  rw [odL_map, eI, List.map_map]; rfl
theorem yg_B {S : Nat → Prop} (l : List Int) : YgL S (eB l) := by
  rw [YgL_iff]; intro a ha
  obtain ⟨x, _, rfl⟩ := List.mem_map.1 ha
  trivial
theorem yg_fB {S : Nat → Prop} (l : List Int) : Yg S (fB true l) := ⟨rfl, yg_B l⟩
/-- a pure contract of octets, used with a held row -/
theorem ASound.borrowB {f : FuncId} {l : List Int} {r : AV} {id nb e : Nat} {y : Bool} (h : ASound Tryz.prog f [fB false l] nb (.ret r [])) (hne : l ≠ []) (hy : Yg (fun i => nb ≤ i ∧ i < nb + 0) r) :
    ASound Tryz.prog f [.os id 0 l.length 1] nb (rowsM [(id, y, e, eB l)] (.ret r [])) := by
  refine ASound.borrow [] [(id, y, e, eB l)] ?_ ?_ (by simp) hy (by simp)
  · have : boL [(id, y, e, eB l)] [.os id 0 l.length 1] = [fB false l] := by
      simp [boL, bo, cellsAt, od_B, tk_B, fB]
    rw [this]; exact h
  · intro x hx
    simp at hx; subst hx
    simp [eB, hne]
def numB (ns : List Int) : List Int := ns.flatMap fun n => gp (zz n)
def txtB (ts : List (List Int)) : List Int := ts.flatMap encT
theorem numB_snoc {ns : List Int} {k : Nat} {n : Int} (h : ns[k]? = some n) : numB (ns.take (k + 1)) = numB (ns.take k) ++ gp (zz n) := by rw [take_snoc h]; simp [numB]
theorem txtB_snoc {ts : List (List Int)} {k : Nat} {t : List Int} (h : ts[k]? = some t) : txtB (ts.take (k + 1)) = txtB (ts.take k) ++ (gp t.length ++ t) := by rw [take_snoc h]; simp [txtB, encT]
theorem flat_le {α : Type} {e : α → List Int} {m : Nat} : ∀ {l : List α}, (∀ x ∈ l, (e x).length ≤ m) → (l.flatMap e).length ≤ m * l.length
  | [], _ => by simp
  | x :: l, h => by
    have h1 := h x (by simp)
    have h2 := flat_le (l := l) fun y hy => h y (by simp [hy])
    rw [List.flatMap_cons, List.length_append, List.length_cons, Nat.mul_add]
    omega
theorem numB_le {ns : List Int} (h : ∀ n ∈ ns, i64ok n) : (numB ns).length ≤ 10 * ns.length := flat_le fun n hn => gp_le (zz_lt (h n hn))
theorem txtB_le {ts : List (List Int)} (h : ∀ t ∈ ts, ¬ 4096 < t.length) : (txtB ts).length ≤ 4106 * ts.length := flat_le fun t ht => by
  have h1 := h t ht
  have h2 := gp_le (m := t.length) (by omega)
  rw [encT, List.length_append]; omega
/-- what is written before the number i -/
def h1 (r : Rec) (i : Nat) : List Int := [r.kind, (r.nums.length : Int)] ++ numB (r.nums.take i)
/-- what is written before the text i -/
def h2 (r : Rec) (i : Nat) : List Int := h1 r r.nums.length ++ [(r.texts.length : Int)] ++ txtB (r.texts.take i)
theorem h1_0 (r : Rec) : h1 r 0 = [r.kind, (r.nums.length : Int)] := by simp [h1, numB]
theorem h1_s {r : Rec} {k : Nat} {n : Int} (h : r.nums[k]? = some n) : h1 r k ++ gp (zz n) = h1 r (k + 1) := by rw [h1, h1, numB_snoc h, List.append_assoc]
theorem h2_0 (r : Rec) : h1 r r.nums.length ++ [(r.texts.length : Int)] = h2 r 0 := by simp [h2, txtB]
theorem h2_s {r : Rec} {k : Nat} {t : List Int} (h : r.texts[k]? = some t) : h2 r k ++ gp t.length ++ t = h2 r (k + 1) := by rw [h2, h2, txtB_snoc h]; simp
theorem h2_all (r : Rec) : h2 r r.texts.length = encR r := by simp [h2, h1, encR, numB, txtB]
theorem h1_ne (r : Rec) (i : Nat) : h1 r i ≠ [] := by simp [h1]
theorem h2_ne (r : Rec) (i : Nat) : h2 r i ≠ [] := by simp [h2, h1]
structure okR (r : Rec) : Prop where
  kind : ¬ (r.kind < 0 ∨ 255 < r.kind)
  many : ¬ (64 < r.nums.length ∨ 64 < r.texts.length)
  short : ∀ t ∈ r.texts, ¬ 4096 < t.length
theorem okR_iff (r : Rec) : recE r = 0 ↔ okR r := by
  unfold recE
  constructor
  · intro h
    split at h
    · simp at h
    · rename_i a
      split at h
      · simp at h
      · rename_i b
        split at h
        · simp at h
        · rename_i c
          exact ⟨a, b, fun t ht hl => c ⟨t, ht, hl⟩⟩
  · rintro ⟨a, b, c⟩
    rw [if_neg a, if_neg b, if_neg (by rintro ⟨t, ht, hl⟩; exact c t ht hl)]
theorem h1_le {r : Rec} (hr : okR r) (hn : ∀ n ∈ r.nums, i64ok n) (i : Nat) : (h1 r i).length ≤ 642 := by
  have := numB_le (ns := r.nums.take i) fun n h => hn n (List.mem_of_mem_take h)
  have h3 := hr.many
  rw [List.length_take] at this
  rw [h1, List.length_append]; simp only [List.length_cons, List.length_nil]; omega
theorem h2_le {r : Rec} (hr : okR r) (hn : ∀ n ∈ r.nums, i64ok n) (i : Nat) : (h2 r i).length ≤ 300000 := by
  have a := h1_le hr hn r.nums.length
  have b := txtB_le (ts := r.texts.take i) fun t h => hr.short t (List.mem_of_mem_take h)
  have h3 := hr.many
  rw [List.length_take] at b
  rw [h2, List.length_append, List.length_append]; simp only [List.length_cons, List.length_nil]; omega
end Go.Proofs.YtdenddhdeloceaaGreatDoor
namespace Go.Proofs.YtdenddhdeloceaaGreatDoor
open Go.RowKit
set_option maxRecDepth 100000
abbrev rowR (fr : Bool) (r : Rec) : List AV := [.v (.int .i64 r.kind), fI fr r.nums, fL fr r.texts]
abbrev L_en1 (fr : Bool) (r : Rec) (i : Nat) : ASt := ⟨envOf [(1, .op 0 0), (5, .os 1 0 (h1 r i).length 1), (24, fI fr r.nums), (25, .v (.int .i64 r.nums.length)), (26, .v (.int .i64 i))], heapOf [(0, .row true 76 (rowR fr r)), (1, .row true 5 (eB (h1 r i)))], 2⟩
abbrev L_en2 (fr : Bool) (r : Rec) (i : Nat) : ASt := ⟨envOf [(5, .os 0 0 (h2 r i).length 1), (47, fL fr r.texts), (48, .v (.int .i64 r.texts.length)), (49, .v (.int .i64 i))], heapOf [(0, .row true 5 (eB (h2 r i)))], 1⟩
set_option maxHeartbeats 2000000 in
theorem encode_spec (fr : Bool) (r : Rec) (nb : Nat) (hn : ∀ n ∈ r.nums, i64ok n) : ASound Tryz.prog 33 [aRec fr r] nb (.ret (.tup [fB true (encode r).1, .v (.int .i64 (encode r).2)]) []) := by
  refine ok_33.sound (by simp) ⟨al_aRec r, trivial⟩ ?_
  have hc := check_spec fr r
  simp only [aRec, fI, fL] at hc
  simp only [ac_33, TT, ↓reduceIte, Nat.reduceEqDiff, Nat.reduceAdd, Nat.reduceMul, reduceCtorEq, Nat.reduceLeDiff]
  refine ⟨_, hc _, ?_⟩
  simp only [TT, ↓reduceIte, Nat.reduceEqDiff, Nat.reduceAdd, Nat.reduceMul, reduceCtorEq, Nat.reduceLeDiff]
  by_cases hE : recE r = 0
  · have hr := (okR_iff r).1 hE
    have k1 := hr.kind
    have k2 := hr.many
    have w1 : IntKind.u8.wrap r.kind = r.kind := by rw [u8_wrap]; omega
    have w2 : IntKind.u8.wrap (r.nums.length : Int) = r.nums.length := by rw [u8_wrap]; omega
    have w3 : IntKind.u8.wrap (r.texts.length : Int) = r.texts.length := by rw [u8_wrap]; omega
    have he : encode r = (sealB (encR r), 0) := by rw [encode, if_pos hE]
    rw [he]
    simp only [hE, w1, w2, w3, TT, ↓reduceIte, Nat.reduceEqDiff, Nat.reduceAdd, Nat.reduceMul, reduceCtorEq, Nat.reduceLeDiff]
    refine AWc.family (L_en1 fr r) (fun i => i ≤ r.nums.length) (fun i => r.nums.length - i) 0 (Nat.zero_le _) ?_ ?_
    · refine Weak.calc [(0, 0), (1500000, 1)] (by decide) ?_ ?_ <;> simp [WT, h1_0, eB]
    · intro i hi
      by_cases hlt : i < r.nums.length
      · obtain ⟨n, hx, e1, e0⟩ := lt_at hlt
        have hno := hn n (List.mem_of_getElem? hx)
        have hle := h1_le hr hn i
        have s1 : shVal .shl .i64 n 1 = some (.int .i64 (IntKind.i64.wrap (n * 2 ^ min (Int.toNat 1) IntKind.i64.bits))) := by simp only [shVal, if_neg (show ¬ ((1 : Int) < 0) by decide)]
        have s2 : shVal .shr .i64 n 63 = some (.int .i64 (n.fdiv (2 ^ min (Int.toNat 63) IntKind.i64.bits))) := by simp only [shVal, if_neg (show ¬ ((63 : Int) < 0) by decide)]
        simp only [L_en1, e1, e0, get_I hx, s1, s2, zz_prog hno, TT, ↓reduceIte, Nat.reduceEqDiff, Nat.reduceAdd, Nat.reduceMul, reduceCtorEq, Nat.reduceLeDiff]
        refine ⟨_, groups_spec true (h1 r i) (zz n) _ _ (by omega) (h1_ne r i) (by omega) (zz_lt hno), ?_⟩
        rw [h1_s hx]
        simp only [TT, ↓reduceIte, Nat.reduceEqDiff, Nat.reduceAdd, Nat.reduceMul, reduceCtorEq, Nat.reduceLeDiff]
        refine famC_next (i + 1) (by omega) (by omega) ?_
        refine Weak.calc [(0, 0), (1100002, 1)] (by decide) ?_ ?_ <;> simp [WT, wrap64 (x := (i : Int) + 1) (by omega)]
      · obtain rfl : i = r.nums.length := by omega
        have e1 : ¬ ((r.nums.length : Int) < (r.nums.length : Int)) := by omega
        have hle := h1_le hr hn r.nums.length
        simp only [L_en1, e1, len_B, w3, TT, ↓reduceIte, Nat.reduceEqDiff, Nat.reduceAdd, Nat.reduceMul, reduceCtorEq, Nat.reduceLeDiff]
        rw [if_pos (by omega)]
        have hcc : eB (h1 r r.nums.length) ++ [AV.v (.int .u8 (r.texts.length : Int))] = eB (h2 r 0) := by rw [← one_B, ← app_B, h2_0]
        rw [hcc]
        have hlen : (h1 r r.nums.length).length + 1 = (h2 r 0).length := by rw [← h2_0, List.length_append]; rfl
        rw [hlen]
        refine AWc.family (L_en2 fr r) (fun i => i ≤ r.texts.length) (fun i => r.texts.length - i) 0 (Nat.zero_le _) ?_ ?_
        · refine Weak.calc [(700002, 0)] (by decide) ?_ ?_ <;> simp [WT]
        · intro i hi
          by_cases hlt : i < r.texts.length
          · obtain ⟨t, hx, e1, e0⟩ := lt_at hlt
            have hts := hr.short t (List.mem_of_getElem? hx)
            have hle := h2_le hr hn i
            have hl2 := h2_le hr hn (i + 1)
            have w4 : IntKind.u64.wrap (t.length : Int) = t.length := by rw [u64_mod]; omega
            simp only [L_en2, e1, e0, get_L hx, w4, TT, ↓reduceIte, Nat.reduceEqDiff, Nat.reduceAdd, Nat.reduceMul, reduceCtorEq, Nat.reduceLeDiff]
            refine ⟨_, groups_spec true (h2 r i) t.length _ _ (by omega) (h2_ne r i) (by omega) (by omega), ?_⟩
            have hls : (h2 r i ++ gp t.length).length + t.length = (h2 r (i + 1)).length := by rw [← h2_s hx]; exact (show (h2 r i ++ gp t.length ++ t).length = _ from List.length_append).symm
            have hcs : eB (h2 r i ++ gp t.length) ++ eB t = eB (h2 r (i + 1)) := by rw [← app_B, h2_s hx]
            simp only [len_B, hls, hcs, TT, ↓reduceIte, Nat.reduceEqDiff, Nat.reduceAdd, Nat.reduceMul, reduceCtorEq, Nat.reduceLeDiff]
            rw [if_pos (by omega)]
            refine famC_next (i + 1) (by omega) (by omega) ?_
            refine Weak.calc [(1000001, 0)] (by decide) ?_ ?_ <;> simp [WT, wrap64 (x := (i : Int) + 1) (by omega)]
          · obtain rfl : i = r.texts.length := by omega
            have e1 : ¬ ((r.texts.length : Int) < (r.texts.length : Int)) := by omega
            have hle := h2_le hr hn r.texts.length
            simp only [L_en2, e1, TT, ↓reduceIte, Nat.reduceEqDiff, Nat.reduceAdd, Nat.reduceMul, reduceCtorEq, Nat.reduceLeDiff]
            refine ⟨_, ASound.borrowB (e := 5) (y := true) (seal_spec false (h2 r r.texts.length) _ (by omega)) (h2_ne r _) (yg_fB _), ?_⟩
            rw [h2_all]
            simp only [TT, ↓reduceIte, Nat.reduceEqDiff, Nat.reduceAdd, Nat.reduceMul, reduceCtorEq, Nat.reduceLeDiff]
            exact Ends.data (.inr rfl) (by simp [ET]) ⟨al_B _, trivial, trivial⟩
  · have he : encode r = ([], recE r) := by rw [encode, if_neg hE]
    rw [he]
    simp only [hE, TT, ↓reduceIte, Nat.reduceEqDiff, Nat.reduceAdd, Nat.reduceMul, reduceCtorEq, Nat.reduceLeDiff]
    exact Ends.imp (r0 := .tup [.v (.slice none 0 0), .v (.int .i64 (recE r))]) (.inr rfl) (by simp [ET]) ⟨trivial, trivial, trivial⟩ (imp_nilE _)
end Go.Proofs.YtdenddhdeloceaaGreatDoor
namespace Go.Proofs.YtdenddhdeloceaaGreatDoor
open Go.RowKit
set_option maxRecDepth 100000
end Go.Proofs.YtdenddhdeloceaaGreatDoor
namespace Go.Proofs.YtdenddhdeloceaaGreatDoor
open Go.RowKit
set_option maxRecDepth 100000
def jB (l : List (List Int)) (i : Nat) : List Int := (l.take i).flatMap joinT
theorem jB_0 (l : List (List Int)) : jB l 0 = [] := by simp [jB]
theorem jB_s {l : List (List Int)} {k : Nat} {t : List Int} (h : l[k]? = some t) : jB l k ++ [((t.length / 256 % 256 : Nat) : Int), ((t.length % 256 : Nat) : Int)] ++ t = jB l (k + 1) := by rw [jB, jB, take_snoc h]; simp [joinT]
theorem jB_all (l : List (List Int)) : jB l l.length = l.flatMap joinT := by rw [jB, List.take_length]
theorem joinE_many {l : List (List Int)} (h : 4096 < l.length) : joinB l = ([], 3) := by
  have : joinE l = 3 := by rw [joinE, if_pos h]
  rw [joinB, this]; rfl
theorem joinE_long {l : List (List Int)} (h : ¬ 4096 < l.length) {i : Nat} {t : List Int} (ht : l[i]? = some t) (hl : 65535 < t.length) : joinB l = ([], 5) := by
  have : joinE l = 5 := by rw [joinE, if_neg h, if_pos ⟨t, List.mem_of_getElem? ht, hl⟩]
  rw [joinB, this]; rfl
theorem joinE_ok {l : List (List Int)} (h : ¬ 4096 < l.length) (ha : ∀ t ∈ l, ¬ 65535 < t.length) : joinB l = (jB l l.length, 0) := by
  have : joinE l = 0 := by rw [joinE, if_neg h, if_neg (by rintro ⟨t, ht, hl⟩; exact ha t ht hl)]
  rw [joinB, this, jB_all]; rfl
theorem jB_le {l : List (List Int)} {i : Nat} (h : ¬ 4096 < l.length) (ha : ∀ t ∈ l.take i, ¬ 65535 < t.length) : (jB l i).length ≤ 300000000 := by
  have := flat_le (e := joinT) (m := 65537) (l := l.take i) fun t ht => by have := ha t ht; simp only [joinT, List.length_append, List.length_cons, List.length_nil]; omega
  rw [List.length_take] at this
  unfold jB; omega
theorem sh8 (n : Nat) : shVal .shr .i64 (n : Int) 8 = some (.int .i64 ((n / 256 : Nat) : Int)) := by
  have h : Int.fdiv (n : Int) (2 ^ min (Int.toNat 8) IntKind.i64.bits) = ((n / 256 : Nat) : Int) := by
    show Int.fdiv (n : Int) 256 = _
    rw [Int.fdiv_eq_ediv_of_nonneg _ (by decide)]
    omega
  simp only [shVal, if_neg (show ¬ ((8 : Int) < 0) by decide), h]
theorem w8n (n : Nat) : IntKind.u8.wrap (n : Int) = ((n % 256 : Nat) : Int) := by rw [u8_wrap]; omega
abbrev L_jn (fr : Bool) (l : List (List Int)) (i : Nat) : ASt := ⟨envOf [(4, .os 0 0 (jB l i).length 1), (10, fL fr l), (11, .v (.int .i64 l.length)), (12, .v (.int .i64 i))], heapOf [(0, .row true 5 (eB (jB l i)))], 1⟩
set_option maxHeartbeats 1000000 in
theorem join_spec (fr : Bool) (l : List (List Int)) (nb : Nat) : ASound Tryz.prog 35 [fL fr l] nb (.ret (.tup [fB true (joinB l).1, .v (.int .i64 (joinB l).2)]) []) := by
  refine ok_35.sound (by simp) ⟨al_fL l, trivial⟩ ?_
  by_cases h4 : 4096 < l.length
  · have e4 : (4096 : Int) < (l.length : Int) := by omega
    rw [joinE_many h4]
    simp only [ac_35, e4, TT, ↓reduceIte, Nat.reduceEqDiff, Nat.reduceAdd, Nat.reduceMul, reduceCtorEq, Nat.reduceLeDiff]
    exact Ends.imp (r0 := .tup [.v (.slice none 0 0), .v (.int .i64 3)]) (.inr rfl) (by simp [ET]) ⟨trivial, trivial, trivial⟩ (imp_nilE _)
  have e4 : ¬ (4096 : Int) < (l.length : Int) := by omega
  simp only [ac_35, e4, TT, ↓reduceIte, Nat.reduceEqDiff, Nat.reduceAdd, Nat.reduceMul, reduceCtorEq, Nat.reduceLeDiff]
  refine AWc.family (L_jn fr l) (fun i => i ≤ l.length ∧ ∀ t ∈ l.take i, ¬ 65535 < t.length) (fun i => l.length - i) 0 ⟨Nat.zero_le _, by simp⟩ ?_ ?_
  · refine Weak.trans (Weak.virtC 5 1 (l := [(4, .os 900000 0 0 1), (10, fL fr l), (11, .v (.int .i64 l.length)), (12, .v (.int .i64 0))]) (h := []) ?_ ?_) (Weak.calc [(900000, 0)] (by decide) ?_ ?_)
    all_goals simp [WT, jB_0, eB]
  · rintro i ⟨hi, ha⟩
    by_cases hlt : i < l.length
    · obtain ⟨t, hx, e1, e0⟩ := lt_at hlt
      by_cases hl : 65535 < t.length
      · have e5 : (65535 : Int) < (t.length : Int) := by omega
        rw [joinE_long h4 hx hl]
        simp only [L_jn, e1, e0, get_L hx, e5, TT, ↓reduceIte, Nat.reduceEqDiff, Nat.reduceAdd, Nat.reduceMul, reduceCtorEq, Nat.reduceLeDiff]
        exact Ends.imp (r0 := .tup [.v (.slice none 0 0), .v (.int .i64 5)]) (.inr rfl) (by simp [ET]) ⟨trivial, trivial, trivial⟩ (imp_nilE _)
      · have e5 : ¬ (65535 : Int) < (t.length : Int) := by omega
        have ha2 := take_all ha hx hl
        have hle := jB_le h4 ha
        have hl2 := jB_le h4 ha2
        have hcs : eB (jB l i) ++ [AV.v (.int .u8 ((t.length / 256 % 256 : Nat) : Int)), AV.v (.int .u8 ((t.length % 256 : Nat) : Int))] = eB (jB l i ++ [((t.length / 256 % 256 : Nat) : Int), ((t.length % 256 : Nat) : Int)]) := by rw [app_B]; rfl
        have hn1 : (jB l i).length + 2 = (jB l i ++ [((t.length / 256 % 256 : Nat) : Int), ((t.length % 256 : Nat) : Int)]).length := by rw [List.length_append]; rfl
        have hcs2 : eB (jB l i ++ [((t.length / 256 % 256 : Nat) : Int), ((t.length % 256 : Nat) : Int)]) ++ eB t = eB (jB l (i + 1)) := by rw [← app_B, jB_s hx]
        have hn2 : (jB l i ++ [((t.length / 256 % 256 : Nat) : Int), ((t.length % 256 : Nat) : Int)]).length + t.length = (jB l (i + 1)).length := by rw [← jB_s hx]; exact (show (_ ++ t).length = _ from List.length_append).symm
        simp only [L_jn, e1, e0, get_L hx, e5, sh8, w8n, len_B, hcs, hn1, hcs2, hn2, TT, ↓reduceIte, Nat.reduceEqDiff, Nat.reduceAdd, Nat.reduceMul, reduceCtorEq, Nat.reduceLeDiff]
        rw [if_pos (by omega), if_pos (by omega)]
        refine famC_next (i + 1) (by omega) ⟨by omega, ha2⟩ ?_
        refine Weak.calc [(1800001, 0)] (by decide) ?_ ?_ <;> simp [WT, wrap64 (x := (i : Int) + 1) (by omega)]
    · obtain rfl : i = l.length := by omega
      have e1 : ¬ ((l.length : Int) < (l.length : Int)) := by omega
      rw [List.take_length] at ha
      rw [joinE_ok h4 ha]
      simp only [L_jn, e1, TT, ↓reduceIte, Nat.reduceEqDiff, Nat.reduceAdd, Nat.reduceMul, reduceCtorEq, Nat.reduceLeDiff]
      refine Ends.weak (Weak.freezeC 0 rfl (l := [(2, fB true (jB l l.length)), (3, .v (.int .i64 0))]) (h := []) ?_ ?_) (Ends.data (.inr rfl) (by simp [ET, fB]) ⟨al_B _, trivial, trivial⟩)
      · simp [WT]
      · simp [WT]
end Go.Proofs.YtdenddhdeloceaaGreatDoor
namespace Go.Proofs.YtdenddhdeloceaaGreatDoor
open Go.RowKit
def numsP (p : Pt) : List Int := [p.epoch, p.seq, p.view, p.commit]
def ptE (p : Pt) : Int := if ∃ n ∈ numsP p, n < 0 ∨ 1099511627776 < n then 4 else if 400 < p.data.length then 5 else 0
structure okP (p : Pt) : Prop where
  nums : ∀ n ∈ numsP p, ¬ (n < 0 ∨ 1099511627776 < n)
  short : ¬ 400 < p.data.length
theorem okP_iff (p : Pt) : ptE p = 0 ↔ okP p := by
  unfold ptE
  constructor
  · intro h
    split at h
    · simp at h
    · rename_i a
      split at h
      · simp at h
      · rename_i b
        exact ⟨fun n hn hl => a ⟨n, hn, hl⟩, b⟩
  · rintro ⟨a, b⟩
    rw [if_neg (by rintro ⟨n, hn, hl⟩; exact a n hn hl), if_neg b]
theorem ptE_range {p : Pt} {n : Int} (h : n ∈ numsP p) (h2 : n < 0 ∨ 1099511627776 < n) : ptE p = 4 := by rw [ptE, if_pos ⟨n, h, h2⟩]
theorem ptE_long {p : Pt} (h : ∀ n ∈ numsP p, ¬ (n < 0 ∨ 1099511627776 < n)) (h2 : 400 < p.data.length) : ptE p = 5 := by
  rw [ptE, if_neg (by rintro ⟨n, hn, hl⟩; exact h n hn hl), if_pos h2]
def recP (p : Pt) : Rec := ⟨7, numsP p, [p.data]⟩
/-- what is written before the padding -/
def bodyP (p : Pt) : List Int := joinT (sealB (encR (recP p)))
def pad (n : Nat) (l : List Int) : List Int := l ++ List.replicate (n - l.length) 0
def encP (p : Pt) : List Int × Int := if ptE p = 0 then (pad 512 (bodyP p), 0) else ([], ptE p)
theorem recE_P {p : Pt} (h : okP p) : recE (recP p) = 0 := by
  have := h.short
  unfold recE recP numsP
  rw [if_neg (by simp), if_neg (by simp), if_neg (by rintro ⟨t, ht, hl⟩; simp at ht; subst ht; omega)]
theorem nums64 {p : Pt} (h : okP p) : ∀ n ∈ numsP p, i64ok n := fun n hn => by
  have := h.nums n hn
  unfold i64ok; omega
theorem encode_P {p : Pt} (h : okP p) : encode (recP p) = (sealB (encR (recP p)), 0) := by rw [encode, if_pos (recE_P h)]
theorem encR_P_le {p : Pt} (h : okP p) : (encR (recP p)).length ≤ 453 := by
  have h1 := h.short
  have g : ∀ n ∈ numsP p, (gp (zz n)).length ≤ 10 := fun n hn => gp_le (zz_lt (nums64 h n hn))
  have g2 := gp_le (m := p.data.length) (by omega)
  simp only [numsP, List.mem_cons, List.not_mem_nil, or_false, forall_eq_or_imp, forall_eq] at g
  obtain ⟨a, b, c, d⟩ := g
  simp only [encR, recP, numsP, encT, List.flatMap_cons, List.flatMap_nil, List.length_append, List.length_cons, List.length_nil]
  omega
theorem sealP_le {p : Pt} (h : okP p) : (sealB (encR (recP p))).length ≤ 457 := by
  have := encR_P_le h
  have h2 : (low4 (crc (encR (recP p)))).length = 4 := rfl
  rw [sealB, List.length_append, h2]; omega
theorem bodyP_le {p : Pt} (h : okP p) : (bodyP p).length ≤ 459 := by
  have := sealP_le h
  unfold bodyP joinT; simp only [List.length_append, List.length_cons, List.length_nil]; omega
theorem pad_len {n : Nat} {l : List Int} (h : l.length ≤ n) : (pad n l).length = n := by rw [pad, List.length_append, List.length_replicate]; omega
end Go.Proofs.YtdenddhdeloceaaGreatDoor
namespace Go.Proofs.YtdenddhdeloceaaGreatDoor
open Go.RowKit
set_option maxRecDepth 100000
theorem nums_spec (fr : Bool) (p : Pt) (nb : Nat) : ASound Tryz.prog 34 [aPt fr p] nb (.ret (fI true (numsP p)) []) := by
  refine ok_34.sound (by simp) ⟨al_aPt p, trivial⟩ ?_
  simp only [ac_34, TT, ↓reduceIte, Nat.reduceEqDiff, Nat.reduceAdd, Nat.reduceMul, reduceCtorEq, Nat.reduceLeDiff]
  refine Ends.weak (Weak.freezeC 1000000 rfl (l := [(2, fI true (numsP p))]) (h := []) ?_ ?_) (Ends.data (.inr rfl) (by simp [ET, fI]) (al_fI _))
  · simp [WT, eI, numsP]
  · simp [WT]
abbrev rowP (fr : Bool) (p : Pt) : List AV := [.v (.int .i64 p.epoch), .v (.int .i64 p.seq), .v (.int .i64 p.view), .v (.int .i64 p.commit), fB fr p.data]
abbrev L_pc (fr : Bool) (p : Pt) (i : Nat) : ASt := ⟨envOf [(1, .op 0 0), (6, fI true (numsP p)), (7, .v (.int .i64 4)), (8, .v (.int .i64 i))], heapOf [(0, .row true 25 (rowP fr p))], 1⟩
theorem nums_len (p : Pt) : (numsP p).length = 4 := rfl
theorem pcheck_spec (fr : Bool) (p : Pt) (nb : Nat) : ASound Tryz.prog 17 [aPt fr p] nb (.ret (.v (.int .i64 (ptE p))) []) := by
  refine ok_17.sound (by simp) ⟨al_aPt p, trivial⟩ ?_
  have hc := nums_spec fr p
  simp only [aPt, fB] at hc
  simp only [ac_17, TT, ↓reduceIte, Nat.reduceEqDiff, Nat.reduceAdd, Nat.reduceMul, reduceCtorEq, Nat.reduceLeDiff]
  refine ⟨_, hc _, ?_⟩
  simp only [nums_len, TT, ↓reduceIte, Nat.reduceEqDiff, Nat.reduceAdd, Nat.reduceMul, reduceCtorEq, Nat.reduceLeDiff]
  refine AWc.family (L_pc fr p) (fun i => i ≤ 4 ∧ ∀ n ∈ (numsP p).take i, ¬ (n < 0 ∨ 1099511627776 < n)) (fun i => 4 - i) 0 ⟨Nat.zero_le _, by simp⟩ ?_ ?_
  · refine Weak.calc [(0, 0)] (by decide) ?_ ?_ <;> simp [WT, nums_len]
  · rintro i ⟨hi, ha⟩
    by_cases hlt : i < 4
    · obtain ⟨n, hx, e1, e0⟩ := lt_at (l := numsP p) (k := i) (by rw [nums_len]; exact hlt)
      rw [nums_len] at e1
      have e1b : (i : Int) < 4 := by omega
      by_cases h1 : n < 0
      · rw [ptE_range (List.mem_of_getElem? hx) (.inl h1)]
        simp only [L_pc, e1, e1b, e0, get_I hx, nums_len, h1, TT, ↓reduceIte, Nat.reduceEqDiff, Nat.reduceAdd, Nat.reduceMul, reduceCtorEq, Nat.reduceLeDiff]
        exact Ends.data (.inr rfl) (by simp [ET]) trivial
      by_cases h2 : 1099511627776 < n
      · rw [ptE_range (List.mem_of_getElem? hx) (.inr h2)]
        simp only [L_pc, e1, e1b, e0, get_I hx, nums_len, h1, h2, not_false_eq_true, TT, ↓reduceIte, Nat.reduceEqDiff, Nat.reduceAdd, Nat.reduceMul, reduceCtorEq, Nat.reduceLeDiff]
        exact Ends.data (.inr rfl) (by simp [ET]) trivial
      simp only [L_pc, e1, e1b, e0, get_I hx, nums_len, h1, h2, not_false_eq_true, TT, ↓reduceIte, Nat.reduceEqDiff, Nat.reduceAdd, Nat.reduceMul, reduceCtorEq, Nat.reduceLeDiff]
      refine famC_next (i + 1) (by omega) ⟨by omega, take_all ha hx (by omega)⟩ ?_
      refine Weak.calc [(0, 0)] (by decide) ?_ ?_ <;> simp [WT, nums_len, wrap64 (x := (i : Int) + 1) (by omega)]
    · obtain rfl : i = 4 := by omega
      have e1 : ¬ (((4 : Nat) : Int) < 4) := by decide
      rw [List.take_of_length_le (by rw [nums_len]; exact Nat.le_refl _)] at ha
      by_cases h4 : 400 < p.data.length
      · rw [ptE_long ha h4]
        have e4 : (400 : Int) < (p.data.length : Int) := by omega
        simp only [L_pc, e1, e4, TT, ↓reduceIte, Nat.reduceEqDiff, Nat.reduceAdd, Nat.reduceMul, reduceCtorEq, Nat.reduceLeDiff]
        exact Ends.data (.inr rfl) (by simp [ET]) trivial
      · rw [(okP_iff p).2 ⟨ha, h4⟩]
        have e4 : ¬ (400 : Int) < (p.data.length : Int) := by omega
        simp only [L_pc, e1, e4, TT, ↓reduceIte, Nat.reduceEqDiff, Nat.reduceAdd, Nat.reduceMul, reduceCtorEq, Nat.reduceLeDiff]
        exact Ends.data (.inr rfl) (by simp [ET]) trivial
abbrev L_rpc (fr : Bool) (p : Pt) (i : Nat) : ASt := ⟨envOf [(1, .op 0 0), (3, .os 1 0 4 1), (4, .v (.int .i64 i))], heapOf [(0, .row true 24 (rowP fr p)), (1, .row true 3 (eI (numsP p)))], 2⟩
theorem rpcheck_spec (fr : Bool) (p : Pt) (nb : Nat) : ASound Tryz.prog 18 [aPt fr p] nb (.ret (.v (.int .i64 (ptE p))) []) := by
  refine ok_18.sound (by simp) ⟨al_aPt p, trivial⟩ ?_
  simp only [ac_18, TT, ↓reduceIte, Nat.reduceEqDiff, Nat.reduceAdd, Nat.reduceMul, reduceCtorEq, Nat.reduceLeDiff]
  refine AWc.family (L_rpc fr p) (fun i => i ≤ 4 ∧ ∀ n ∈ (numsP p).take i, ¬ (n < 0 ∨ 1099511627776 < n)) (fun i => 4 - i) 0 ⟨Nat.zero_le _, by simp⟩ ?_ ?_
  · refine Weak.calc [(0, 0), (1000000, 1)] (by decide) ?_ ?_ <;> simp [WT, nums_len, eI, numsP]
  · rintro i ⟨hi, ha⟩
    by_cases hlt : i < 4
    · obtain ⟨n, hx, e1, e0⟩ := lt_at (l := numsP p) (k := i) (by rw [nums_len]; exact hlt)
      rw [nums_len] at e1
      have e1b : (i : Int) < 4 := by omega
      by_cases h1 : n < 0
      · rw [ptE_range (List.mem_of_getElem? hx) (.inl h1)]
        simp only [L_rpc, e1, e1b, e0, get_I hx, nums_len, h1, Nat.zero_add, TT, ↓reduceIte, Nat.reduceEqDiff, Nat.reduceAdd, Nat.reduceMul, reduceCtorEq, Nat.reduceLeDiff]
        exact Ends.data (.inr rfl) (by simp [ET]) trivial
      by_cases h2 : 1099511627776 < n
      · rw [ptE_range (List.mem_of_getElem? hx) (.inr h2)]
        simp only [L_rpc, e1, e1b, e0, get_I hx, nums_len, h1, h2, Nat.zero_add, not_false_eq_true, TT, ↓reduceIte, Nat.reduceEqDiff, Nat.reduceAdd, Nat.reduceMul, reduceCtorEq, Nat.reduceLeDiff]
        exact Ends.data (.inr rfl) (by simp [ET]) trivial
      simp only [L_rpc, e1, e1b, e0, get_I hx, nums_len, h1, h2, Nat.zero_add, not_false_eq_true, TT, ↓reduceIte, Nat.reduceEqDiff, Nat.reduceAdd, Nat.reduceMul, reduceCtorEq, Nat.reduceLeDiff]
      refine famC_next (i + 1) (by omega) ⟨by omega, take_all ha hx (by omega)⟩ ?_
      refine Weak.calc [(0, 0), (1, 1)] (by decide) ?_ ?_ <;> simp [WT, nums_len, wrap64 (x := (i : Int) + 1) (by omega)]
    · obtain rfl : i = 4 := by omega
      have e1 : ¬ (((4 : Nat) : Int) < ((4 : Nat) : Int)) := by decide
      rw [List.take_of_length_le (by rw [nums_len]; exact Nat.le_refl _)] at ha
      by_cases h4 : 400 < p.data.length
      · rw [ptE_long ha h4]
        have e4 : (400 : Int) < (p.data.length : Int) := by omega
        simp only [L_rpc, e1, e4, TT, ↓reduceIte, Nat.reduceEqDiff, Nat.reduceAdd, Nat.reduceMul, reduceCtorEq, Nat.reduceLeDiff]
        exact Ends.data (.inr rfl) (by simp [ET]) trivial
      · rw [(okP_iff p).2 ⟨ha, h4⟩]
        have e4 : ¬ (400 : Int) < (p.data.length : Int) := by omega
        simp only [L_rpc, e1, e4, TT, ↓reduceIte, Nat.reduceEqDiff, Nat.reduceAdd, Nat.reduceMul, reduceCtorEq, Nat.reduceLeDiff]
        exact Ends.data (.inr rfl) (by simp [ET]) trivial
end Go.Proofs.YtdenddhdeloceaaGreatDoor
namespace Go.Proofs.YtdenddhdeloceaaGreatDoor
open Go.RowKit
set_option maxRecDepth 100000
theorem od_fB (fr : Bool) (l : List Int) : od (fB fr l) = fB false l := by simp [fB, od, od_B]
theorem encodeP_b (fr : Bool) (p : Pt) (h : okP p) (id nb : Nat) : ASound Tryz.prog 33 [.agg [.v (.int .i64 7), fI true (numsP p), .os id 0 1 1]] nb (rowsM [(id, true, 22, [fB fr p.data])] (.ret (.tup [fB true (sealB (encR (recP p))), .v (.int .i64 0)]) [])) := by
  refine ASound.borrow [] [(id, true, 22, [fB fr p.data])] ?_ (by simp) (by simp) ⟨yg_fB _, trivial, trivial⟩ (by simp)
  have e : boL [(id, true, 22, [fB fr p.data])] [.agg [.v (.int .i64 7), fI true (numsP p), .os id 0 1 1]] = [aRec false (recP p)] := by
    simp [boL, bo, cellsAt, od, odL, od_I, od_fB, fI, aRec, recP, fL, eL, fB, od_B]
  rw [e]
  have := encode_spec false (recP p) nb (nums64 h)
  rw [encode_P h] at this
  exact this
theorem join1 {x : List Int} (h : ¬ 65535 < x.length) : joinB [x] = (joinT x, 0) := by
  rw [joinE_ok (by simp) (by intro t ht; simp at ht; subst ht; exact h)]; simp [jB]
theorem joinP_b (x : List Int) (hx : ¬ 65535 < x.length) (id nb : Nat) : ASound Tryz.prog 35 [.os id 0 1 1] nb (rowsM [(id, true, 22, [fB true x])] (.ret (.tup [fB true (joinT x), .v (.int .i64 0)]) [])) := by
  refine ASound.borrow [] [(id, true, 22, [fB true x])] ?_ (by simp) (by simp) ⟨yg_fB _, trivial, trivial⟩ (by simp)
  have e : boL [(id, true, 22, [fB true x])] [.os id 0 1 1] = [fL false [x]] := by
    simp [boL, bo, cellsAt, od, odL, od_fB, fL, eL, fB, od_B]
  rw [e]
  have := join_spec false [x] nb
  rw [join1 hx] at this
  exact this
theorem setN_app : ∀ {r l : List AV} {off : Nat}, off + r.length ≤ l.length → setN l off r = l.take off ++ r ++ l.drop (off + r.length)
  | [], l, off, h => by simp [setN]
  | a :: r, l, off, h => by
    have h2 : off < l.length := by rw [List.length_cons] at h; omega
    rw [setN, setN_app (by rw [List.length_set, List.length_cons] at *; omega)]
    have e : l.set off a = l.take off ++ [a] ++ l.drop (off + 1) := by rw [List.set_eq_take_append_cons_drop, if_pos h2]; simp
    have hA : (l.take off ++ [a]).length = off + 1 := by simp; omega
    rw [e, List.take_left' hA, List.drop_append, hA, Nat.add_sub_cancel_left, List.drop_drop, List.drop_of_length_le (by rw [hA]; omega), List.length_cons, show off + 1 + r.length = off + (r.length + 1) from by omega]
    simp
theorem rep_B (n : Nat) : (List.replicate n [AV.v (.int .u8 0)]).flatten = eB (List.replicate n 0) := by
  induction n with
  | zero => rfl
  | succ n ih => rw [List.replicate_succ, List.flatten_cons, ih]; rfl
theorem setN_B {l b : List Int} (h : b.length ≤ l.length) : setN (eB l) 0 (eB b) = eB (b ++ l.drop b.length) := by
  rw [setN_app (by rw [len_B, len_B]; omega), len_B, List.take_zero, List.nil_append, Nat.zero_add, drop_B, app_B]
theorem pad_rep (n : Nat) (b : List Int) : b ++ (List.replicate n 0).drop b.length = pad n b := by rw [List.drop_replicate]; rfl
set_option maxHeartbeats 1000000 in
theorem pencode_spec (fr : Bool) (p : Pt) (nb : Nat) : ASound Tryz.prog 10 [aPt fr p] nb (.ret (.tup [fB true (encP p).1, .v (.int .i64 (encP p).2)]) []) := by
  refine ok_10.sound (by simp) ⟨al_aPt p, trivial⟩ ?_
  have hc := pcheck_spec fr p
  have hn := nums_spec fr p
  simp only [aPt, fB] at hc hn
  simp only [ac_10, TT, ↓reduceIte, Nat.reduceEqDiff, Nat.reduceAdd, Nat.reduceMul, reduceCtorEq, Nat.reduceLeDiff]
  refine ⟨_, hc _, ?_⟩
  simp only [TT, ↓reduceIte, Nat.reduceEqDiff, Nat.reduceAdd, Nat.reduceMul, reduceCtorEq, Nat.reduceLeDiff]
  by_cases hE : ptE p = 0
  · have h := (okP_iff p).1 hE
    have hs := sealP_le h
    have hb := bodyP_le h
    have he : encP p = (pad 512 (bodyP p), 0) := by rw [encP, if_pos hE]
    rw [he]
    simp only [hE, TT, ↓reduceIte, Nat.reduceEqDiff, Nat.reduceAdd, Nat.reduceMul, reduceCtorEq, Nat.reduceLeDiff]
    refine ⟨_, hn _, ?_⟩
    simp only [TT, ↓reduceIte, Nat.reduceEqDiff, Nat.reduceAdd, Nat.reduceMul, reduceCtorEq, Nat.reduceLeDiff]
    refine ⟨_, encodeP_b fr p h _ _, ?_⟩
    simp only [TT, ↓reduceIte, Nat.reduceEqDiff, Nat.reduceAdd, Nat.reduceMul, reduceCtorEq, Nat.reduceLeDiff]
    refine ⟨by rfl, ?_⟩
    refine ⟨_, joinP_b (sealB (encR (recP p))) (by omega) _ _, ?_⟩
    simp only [TT, ↓reduceIte, Nat.reduceEqDiff, Nat.reduceAdd, Nat.reduceMul, reduceCtorEq, Nat.reduceLeDiff]
    have hl : (joinT (sealB (encR (recP p)))).length ≤ 459 := hb
    have t5 : Int.toNat 512 = 512 := rfl
    have hm : (joinT (sealB (encR (recP p)))).length.min 512 = (joinT (sealB (encR (recP p)))).length := Nat.min_eq_left (by omega)
    simp only [t5, rep_B, len_B, List.length_replicate, hm, tk_B]
    rw [if_pos (by decide), if_pos True.intro, if_pos (by decide), setN_B (by rw [List.length_replicate]; omega), pad_rep]
    have hpl : (pad 512 (joinT (sealB (encR (recP p))))).length = 512 := pad_len (by omega)
    refine Ends.weak (Weak.freezeC 2800000 rfl (l := [(2, fB true (pad 512 (bodyP p))), (3, .v (.int .i64 0))]) (h := []) ?_ ?_) (Ends.data (.inr rfl) (by simp [ET, fB]) ⟨al_B _, trivial, trivial⟩)
    · have htk : List.take 512 (eB (pad 512 (joinT (sealB (encR (recP p)))))) = eB (pad 512 (joinT (sealB (encR (recP p))))) := List.take_of_length_le (by rw [len_B, hpl]; exact Nat.le_refl _)
      simp [WT, hpl, bodyP, htk]
    · simp [WT]
  · have he : encP p = ([], ptE p) := by rw [encP, if_neg hE]
    rw [he]
    simp only [hE, not_false_eq_true, TT, ↓reduceIte, Nat.reduceEqDiff, Nat.reduceAdd, Nat.reduceMul, reduceCtorEq, Nat.reduceLeDiff]
    exact Ends.imp (r0 := .tup [.v (.slice none 0 0), .v (.int .i64 (ptE p))]) (.inr rfl) (by simp [ET]) ⟨trivial, trivial, trivial⟩ (imp_nilE _)
end Go.Proofs.YtdenddhdeloceaaGreatDoor
namespace Go.Proofs.YtdenddhdeloceaaGreatDoor
open Go.RowKit
set_option maxRecDepth 100000
end Go.Proofs.YtdenddhdeloceaaGreatDoor
namespace Go.Proofs.YtdenddhdeloceaaGreatDoor
open Go.RowKit
/-- one octet: its value, the code, the rest -/
def scOct : List Int → Int × Int × List Int
  | [] => (0, 8, [])
  | x :: r => (x, 0, r)
/-- a number in groups of 7 bits, from group k on -/
def scGrp (k acc : Nat) : List Int → Nat × Int × List Int
  | [] => (0, 8, [])
  | x :: r => if (k = 9 ∧ 1 < x) ∨ (0 < k ∧ x = 0) then (0, 4, r) else if x < 128 then (acc + (x % 128).toNat * 2 ^ (7 * k), 0, r) else scGrp (k + 1) (acc + (x % 128).toNat * 2 ^ (7 * k)) r
def scCnt (l : List Int) : Int × Int × List Int := ((scOct l).1, if (scOct l).2.1 = 0 ∧ 64 < (scOct l).1 then 3 else (scOct l).2.1, (scOct l).2.2)
/-- a number without its fold -/
def unzz (m : Nat) : Int := if m % 2 = 0 then ((m / 2 : Nat) : Int) else -((m / 2 : Nat) : Int) - 1
def scText (l : List Int) : List Int × Int × List Int :=
  if (scGrp 0 0 l).2.1 ≠ 0 then ([], (scGrp 0 0 l).2.1, (scGrp 0 0 l).2.2) else if 4096 < (scGrp 0 0 l).1 then ([], 5, (scGrp 0 0 l).2.2) else
  if (scGrp 0 0 l).2.2.length < (scGrp 0 0 l).1 then ([], 8, (scGrp 0 0 l).2.2) else ((scGrp 0 0 l).2.2.take (scGrp 0 0 l).1, 0, (scGrp 0 0 l).2.2.drop (scGrp 0 0 l).1)
/-- k times, until the first that fails -/
def scMany {α : Type} (f : List Int → α × Int × List Int) : Nat → List Int → List α × Int × List Int
  | 0, l => ([], 0, l)
  | k + 1, l => if (f l).2.1 ≠ 0 then ([(f l).1], (f l).2.1, (f l).2.2) else ((f l).1 :: (scMany f k (f l).2.2).1, (scMany f k (f l).2.2).2.1, (scMany f k (f l).2.2).2.2)
def scNum (l : List Int) : Int × Int × List Int := (unzz (scGrp 0 0 l).1, (scGrp 0 0 l).2.1, (scGrp 0 0 l).2.2)
def scList {α : Type} (f : List Int → α × Int × List Int) (l : List Int) : List α × Int × List Int := if (scCnt l).2.1 ≠ 0 then ([], (scCnt l).2.1, (scCnt l).2.2) else scMany f (scCnt l).1.toNat (scCnt l).2.2
def scNums := scList scNum
def scTexts := scList scText
def rec0 : Rec := ⟨0, [], []⟩
def scRec (l : List Int) : Rec × Int :=
  let k := scOct l
  if k.2.1 ≠ 0 then (rec0, k.2.1) else
  let n := scNums k.2.2
  if n.2.1 ≠ 0 then (rec0, n.2.1) else
  let t := scTexts n.2.2
  if t.2.1 ≠ 0 then (rec0, t.2.1) else
  if 0 < t.2.2.length then (rec0, 23) else (⟨k.1, n.1, t.1⟩, 0)
def dec (l : List Int) : Rec × Int := if (openB l).2 ≠ 0 then (rec0, (openB l).2) else scRec (openB l).1
theorem pow7 (k : Nat) : 2 ^ (7 * k) = 128 ^ k := by rw [Nat.pow_mul]
/-- what is read stays an octet's list; nothing grows -/
theorem scOct_rest (l : List Int) : (scOct l).2.2 = l.drop 1 := by cases l <;> rfl
theorem scGrp_rest : ∀ (l : List Int) (k acc : Nat), ∃ n, (scGrp k acc l).2.2 = l.drop n
  | [], k, acc => ⟨0, rfl⟩
  | x :: r, k, acc => by
    unfold scGrp
    split
    · exact ⟨1, rfl⟩
    · split
      · exact ⟨1, rfl⟩
      · obtain ⟨n, h⟩ := scGrp_rest r (k + 1) (acc + (x % 128).toNat * 2 ^ (7 * k))
        exact ⟨n + 1, by rw [h]; rfl⟩
theorem scText_rest (l : List Int) : ∃ n, (scText l).2.2 = l.drop n := by
  obtain ⟨n, h⟩ := scGrp_rest l 0 0
  unfold scText
  split
  · exact ⟨n, h⟩
  split
  · exact ⟨n, h⟩
  split
  · exact ⟨n, h⟩
  · exact ⟨n + (scGrp 0 0 l).1, by show List.drop _ _ = _; rw [h, List.drop_drop]⟩
theorem scMany_rest {α : Type} {f : List Int → α × Int × List Int} (hf : ∀ l, ∃ n, (f l).2.2 = l.drop n) : ∀ (k : Nat) (l : List Int), ∃ n, (scMany f k l).2.2 = l.drop n
  | 0, l => ⟨0, rfl⟩
  | k + 1, l => by
    obtain ⟨n, h⟩ := hf l
    unfold scMany
    split
    · exact ⟨n, h⟩
    · obtain ⟨m, h2⟩ := scMany_rest hf k (f l).2.2
      exact ⟨n + m, by show (scMany f k (f l).2.2).2.2 = _; rw [h2, h, List.drop_drop]⟩
theorem scCnt_rest (l : List Int) : (scCnt l).2.2 = l.drop 1 := scOct_rest l
theorem scList_rest {α : Type} {f : List Int → α × Int × List Int} (hf : ∀ l, ∃ n, (f l).2.2 = l.drop n) (l : List Int) : ∃ n, (scList f l).2.2 = l.drop n := by
  unfold scList
  split
  · exact ⟨1, scCnt_rest l⟩
  · obtain ⟨m, h⟩ := scMany_rest hf (scCnt l).1.toNat (scCnt l).2.2
    exact ⟨1 + m, by rw [h, scCnt_rest, List.drop_drop]⟩
theorem scGrp_lt : ∀ (l : List Int) (k acc : Nat), (∀ x ∈ l, 0 ≤ x ∧ x < 256) → acc < 2 ^ (7 * k) → k ≤ 9 → (scGrp k acc l).1 < 2 ^ 64
  | [], k, acc, _, _, _ => by show 0 < _; decide
  | x :: r, k, acc, hb, ha, hk => by
    have hx := hb x (by simp)
    have hm : (x % 128).toNat ≤ 127 := by omega
    have hp : 0 < 2 ^ (7 * k) := Nat.pow_pos (by decide)
    unfold scGrp
    split
    · show 0 < _; decide
    · rename_i hne
      by_cases hk9 : k = 9
      · subst hk9
        have hx1 : x ≤ 1 := by omega
        rw [if_pos (by omega)]
        have : (x % 128).toNat ≤ 1 := by omega
        show acc + _ < _
        have h3 : (x % 128).toNat * 2 ^ (7 * 9) ≤ 1 * 2 ^ (7 * 9) := Nat.mul_le_mul_right _ this
        have e1 : (2 : Nat) ^ (7 * 9) = 9223372036854775808 := by decide
        have e2 : (2 : Nat) ^ 64 = 18446744073709551616 := by decide
        rw [e1] at h3 ha ⊢; rw [e2]; omega
      · have h4 : acc + (x % 128).toNat * 2 ^ (7 * k) < 2 ^ (7 * (k + 1)) := by
          have h3 : (x % 128).toNat * 2 ^ (7 * k) ≤ 127 * 2 ^ (7 * k) := Nat.mul_le_mul_right _ hm
          rw [show 7 * (k + 1) = 7 * k + 7 from by omega, Nat.pow_add]
          omega
        split
        · show acc + _ < _
          exact Nat.lt_of_lt_of_le h4 (Nat.pow_le_pow_right (by decide) (by omega))
        · exact scGrp_lt r (k + 1) _ (fun y hy => hb y (by simp [hy])) h4 (by omega)
end Go.Proofs.YtdenddhdeloceaaGreatDoor
namespace Go.Proofs.YtdenddhdeloceaaGreatDoor
set_option maxRecDepth 100000
def ac_113 : AC :=
(.seq (.reg false [⟨some 4, .mv (.const (.slice none 0 0)), none, [], []⟩,
    ⟨some 5, .mv (.const .nilIface), none, [], []⟩] [0, 1])
(.seq (.seq (.reg false [⟨some 7, .mv (.tmp 0), none, [0], []⟩,
    ⟨some 8, .nilc (.tmp 7), none, [7], []⟩,
    ⟨some 9, .foff 0 (.tmp 8), none, [8], []⟩,
    ⟨some 10, .load false 1 (.tmp 9), none, [9], []⟩,
    ⟨some 11, .len false (.tmp 10), none, [10], []⟩,
    ⟨some 12, .mv (.tmp 1), none, [1], []⟩,
    ⟨some 13, .bin .lss (.tmp 11) (.tmp 12), none, [11, 12], []⟩] [0, 1, 13])
(.cond (.tmp 13)
(.seq (.reg false [⟨some 14, .build [(.int .i64 (0))] [(0, 1, (.const (.int .i64 (8))))], none, [], []⟩,
    ⟨some 15, .mkif 153 (.tmp 14), none, [14], []⟩,
    ⟨some 4, .mv (.const (.slice none 0 0)), none, [], []⟩,
    ⟨some 5, .mv (.tmp 15), none, [15], []⟩] [4, 5])
.ret)
.skip))
(.seq (.reg false [⟨some 16, .mv (.tmp 0), none, [0], []⟩,
    ⟨some 17, .nilc (.tmp 16), none, [16], []⟩,
    ⟨some 18, .foff 0 (.tmp 17), none, [17], []⟩,
    ⟨some 19, .load false 1 (.tmp 18), none, [18], []⟩,
    ⟨some 20, .mv (.tmp 1), none, [1], []⟩,
    ⟨some 21, .slice 1 (.tmp 19) none (some (.tmp 20)), none, [19, 20], []⟩,
    ⟨some 6, .mv (.tmp 21), none, [21], []⟩] [0, 1, 6])
(.seq (.reg false [⟨some 22, .mv (.tmp 0), none, [0], []⟩,
    ⟨some 23, .mv (.tmp 0), none, [0], []⟩,
    ⟨some 24, .nilc (.tmp 23), none, [23], []⟩,
    ⟨some 25, .foff 0 (.tmp 24), none, [24], []⟩,
    ⟨some 26, .load false 1 (.tmp 25), none, [25], []⟩,
    ⟨some 27, .mv (.tmp 1), none, [1], []⟩,
    ⟨some 28, .slice 1 (.tmp 26) (some (.tmp 27)) none, none, [26, 27], []⟩,
    ⟨some 29, .nilc (.tmp 22), none, [22], []⟩,
    ⟨some 30, .foff 0 (.tmp 29), none, [29], []⟩,
    ⟨none, .store 1 (.tmp 30) (.tmp 28), none, [30, 28], []⟩] [6])
(.seq (.reg false [⟨some 31, .mv (.tmp 6), none, [6], []⟩,
    ⟨some 4, .mv (.tmp 31), none, [31], []⟩,
    ⟨some 5, .mv (.const .nilIface), none, [], []⟩] [4, 5])
.ret)))))
theorem ok_113 : FnOk Tryz.prog 113 32 ac_113 [.tmp 4, .tmp 5] := ⟨Tryz.f113, Tryz.func113, by kernel_rfl, by kernel_rfl, by kernel_rfl, by kernel_rfl, by kernel_rfl⟩
def ac_96 : AC :=
(.seq (.reg false [⟨some 2, .mv (.const (.int .i64 (0))), none, [], []⟩,
    ⟨some 3, .mv (.const .nilIface), none, [], []⟩] [0])
(.seq (.reg false [⟨some 7, .mv (.tmp 0), none, [0], []⟩,
    ⟨some 8, .call 113 [(.tmp 7), (.const (.int .i64 (1)))], none, [7], []⟩,
    ⟨some 6, .mv (.tmp 8), none, [8], []⟩,
    ⟨some 9, .ext 0 (.tmp 6), none, [6], []⟩,
    ⟨some 10, .ext 1 (.tmp 6), none, [6], []⟩,
    ⟨some 4, .mv (.tmp 9), none, [9], []⟩,
    ⟨some 5, .mv (.tmp 10), none, [10], []⟩] [4, 5])
(.seq (.seq (.reg false [⟨some 11, .mv (.tmp 5), none, [5], []⟩,
    ⟨some 12, .isnil true .nilIface (.tmp 11), none, [11], []⟩] [4, 5, 12])
(.cond (.tmp 12)
(.seq (.reg false [⟨some 13, .mv (.tmp 5), none, [5], []⟩,
    ⟨some 2, .mv (.const (.int .i64 (0))), none, [], []⟩,
    ⟨some 3, .mv (.tmp 13), none, [13], []⟩] [2, 3])
.ret)
.skip))
(.seq (.reg false [⟨some 14, .mv (.tmp 4), none, [4], []⟩,
    ⟨some 15, .idx 1 (.tmp 14) (.const (.int .i64 (0))), none, [14], []⟩,
    ⟨some 16, .load false 1 (.tmp 15), none, [15], []⟩,
    ⟨some 17, .conv .i64 (.tmp 16), none, [16], []⟩,
    ⟨some 2, .mv (.tmp 17), none, [17], []⟩,
    ⟨some 3, .mv (.const .nilIface), none, [], []⟩] [2, 3])
.ret))))
theorem ok_96 : FnOk Tryz.prog 96 18 ac_96 [.tmp 2, .tmp 3] := ⟨Tryz.f96, Tryz.func96, by kernel_rfl, by kernel_rfl, by kernel_rfl, by kernel_rfl, by kernel_rfl⟩
def ac_115 : AC :=
(.seq (.reg false [⟨some 2, .mv (.const (.int .u64 (0))), none, [], []⟩,
    ⟨some 3, .mv (.const .nilIface), none, [], []⟩] [0])
(.seq (.reg false [⟨some 4, .mv (.const (.int .u64 (0))), none, [], []⟩] [0, 4])
(.seq (.reg false [⟨some 5, .mv (.const (.int .i64 (0))), none, [], []⟩] [0, 4, 5])
(.block 0 (.loop (.seq (.block 1 (.seq (.reg false [⟨some 11, .mv (.tmp 0), none, [0], []⟩,
    ⟨some 12, .call 96 [(.tmp 11)], none, [11], []⟩,
    ⟨some 10, .mv (.tmp 12), none, [12], []⟩,
    ⟨some 13, .ext 0 (.tmp 10), none, [10], []⟩,
    ⟨some 14, .ext 1 (.tmp 10), none, [10], []⟩,
    ⟨some 6, .mv (.tmp 13), none, [13], []⟩,
    ⟨some 7, .mv (.tmp 14), none, [14], []⟩] [0, 4, 5, 6, 7])
(.seq (.block 2 (.seq (.reg false [⟨some 16, .mv (.tmp 7), none, [7], []⟩,
    ⟨some 17, .isnil true .nilIface (.tmp 16), none, [16], []⟩,
    ⟨some 15, .mv (.tmp 17), none, [17], []⟩] [0, 4, 5, 6, 7, 15])
(.cond (.tmp 15)
(.seq (.reg false [⟨some 18, .mv (.tmp 7), none, [7], []⟩,
    ⟨some 2, .mv (.const (.int .u64 (0))), none, [], []⟩,
    ⟨some 3, .mv (.tmp 18), none, [18], []⟩] [2, 3])
.ret)
(.seq (.seq (.reg false [⟨some 20, .mv (.tmp 5), none, [5], []⟩,
    ⟨some 21, .bin .eql (.tmp 20) (.const (.int .i64 (63))), none, [20], []⟩,
    ⟨some 22, .mv (.tmp 21), none, [21], []⟩,
    ⟨some 23, .mv (.tmp 6), some (22, true), [6, 22], []⟩,
    ⟨some 24, .bin .gtr (.tmp 23) (.const (.int .i64 (1))), some (22, true), [23, 22], []⟩,
    ⟨some 25, .pick (.tmp 22) (.tmp 24) (.const (.bool false)), none, [22, 24], []⟩,
    ⟨some 19, .mv (.tmp 25), none, [25], []⟩] [0, 4, 5, 6, 19])
(.cond (.tmp 19)
.skip
(.reg false [⟨some 26, .mv (.tmp 5), none, [5], []⟩,
    ⟨some 27, .bin .gtr (.tmp 26) (.const (.int .i64 (0))), none, [26], []⟩,
    ⟨some 28, .mv (.tmp 27), none, [27], []⟩,
    ⟨some 29, .mv (.tmp 6), some (28, true), [6, 28], []⟩,
    ⟨some 30, .bin .eql (.tmp 29) (.const (.int .i64 (0))), some (28, true), [29, 28], []⟩,
    ⟨some 31, .pick (.tmp 28) (.tmp 30) (.const (.bool false)), none, [28, 30], []⟩,
    ⟨some 19, .mv (.tmp 31), none, [31], []⟩] [0, 4, 5, 6, 19])))
(.cond (.tmp 19)
(.seq (.reg false [⟨some 32, .build [(.int .i64 (0))] [(0, 1, (.const (.int .i64 (4))))], none, [], []⟩,
    ⟨some 33, .mkif 153 (.tmp 32), none, [32], []⟩,
    ⟨some 2, .mv (.const (.int .u64 (0))), none, [], []⟩,
    ⟨some 3, .mv (.tmp 33), none, [33], []⟩] [2, 3])
.ret)
.skip)))))
(.seq (.reg false [⟨some 34, .mv (.tmp 4), none, [4], []⟩,
    ⟨some 35, .mv (.tmp 6), none, [6], []⟩,
    ⟨some 36, .bin .and (.tmp 35) (.const (.int .i64 (127))), none, [35], []⟩,
    ⟨some 37, .conv .u64 (.tmp 36), none, [36], []⟩,
    ⟨some 38, .mv (.tmp 5), none, [5], []⟩,
    ⟨some 39, .bin .shl (.tmp 37) (.tmp 38), none, [37, 38], []⟩,
    ⟨some 40, .bin .or (.tmp 34) (.tmp 39), none, [34, 39], []⟩,
    ⟨some 4, .mv (.tmp 40), none, [40], []⟩] [0, 4, 5, 6])
(.seq (.reg false [⟨some 41, .mv (.tmp 6), none, [6], []⟩,
    ⟨some 42, .bin .lss (.tmp 41) (.const (.int .i64 (128))), none, [41], []⟩] [0, 4, 5, 42])
(.cond (.tmp 42)
(.seq (.reg false [⟨some 43, .mv (.tmp 4), none, [4], []⟩,
    ⟨some 2, .mv (.tmp 43), none, [43], []⟩,
    ⟨some 3, .mv (.const .nilIface), none, [], []⟩] [2, 3])
.ret)
.skip))))))
(.reg false [⟨some 8, .mv (.tmp 5), none, [5], []⟩,
    ⟨some 9, .bin .add (.tmp 8) (.const (.int .i64 (7))), none, [8], []⟩,
    ⟨some 5, .mv (.tmp 9), none, [9], []⟩] [0, 4, 5])))))))
theorem ok_115 : FnOk Tryz.prog 115 44 ac_115 [.tmp 2, .tmp 3] := ⟨Tryz.f115, Tryz.func115, by kernel_rfl, by kernel_rfl, by kernel_rfl, by kernel_rfl, by kernel_rfl⟩
def ac_114 : AC :=
(.seq (.reg false [⟨some 4, .mv (.const (.int .i64 (0))), none, [], []⟩,
    ⟨some 5, .mv (.const .nilIface), none, [], []⟩] [0, 1])
(.seq (.reg false [⟨some 9, .mv (.tmp 0), none, [0], []⟩,
    ⟨some 10, .call 96 [(.tmp 9)], none, [9], []⟩,
    ⟨some 8, .mv (.tmp 10), none, [10], []⟩,
    ⟨some 11, .ext 0 (.tmp 8), none, [8], []⟩,
    ⟨some 12, .ext 1 (.tmp 8), none, [8], []⟩,
    ⟨some 6, .mv (.tmp 11), none, [11], []⟩,
    ⟨some 7, .mv (.tmp 12), none, [12], []⟩] [1, 6, 7])
(.seq (.seq (.reg false [⟨some 13, .mv (.tmp 7), none, [7], []⟩,
    ⟨some 14, .isnil false .nilIface (.tmp 13), none, [13], []⟩,
    ⟨some 15, .mv (.tmp 14), none, [14], []⟩,
    ⟨some 16, .mv (.tmp 6), some (15, true), [6, 15], []⟩,
    ⟨some 17, .mv (.tmp 1), some (15, true), [1, 15], []⟩,
    ⟨some 18, .bin .gtr (.tmp 16) (.tmp 17), some (15, true), [16, 17, 15], []⟩,
    ⟨some 19, .pick (.tmp 15) (.tmp 18) (.const (.bool false)), none, [15, 18], []⟩] [6, 7, 19])
(.cond (.tmp 19)
(.reg false [⟨some 20, .build [(.int .i64 (0))] [(0, 1, (.const (.int .i64 (3))))], none, [], []⟩,
    ⟨some 21, .mkif 153 (.tmp 20), none, [20], []⟩,
    ⟨some 7, .mv (.tmp 21), none, [21], []⟩] [6, 7])
.skip))
(.seq (.reg false [⟨some 22, .mv (.tmp 6), none, [6], []⟩,
    ⟨some 23, .mv (.tmp 7), none, [7], []⟩,
    ⟨some 4, .mv (.tmp 22), none, [22], []⟩,
    ⟨some 5, .mv (.tmp 23), none, [23], []⟩] [4, 5])
.ret))))
theorem ok_114 : FnOk Tryz.prog 114 24 ac_114 [.tmp 4, .tmp 5] := ⟨Tryz.f114, Tryz.func114, by kernel_rfl, by kernel_rfl, by kernel_rfl, by kernel_rfl, by kernel_rfl⟩
def ac_97 : AC :=
(.seq (.reg false [⟨some 2, .mv (.const (.slice none 0 0)), none, [], []⟩,
    ⟨some 3, .mv (.const .nilIface), none, [], []⟩] [0])
(.seq (.reg false [⟨some 10, .mv (.tmp 0), none, [0], []⟩,
    ⟨some 11, .call 114 [(.tmp 10), (.const (.int .i64 (64)))], none, [10], []⟩,
    ⟨some 9, .mv (.tmp 11), none, [11], []⟩,
    ⟨some 12, .ext 0 (.tmp 9), none, [9], []⟩,
    ⟨some 13, .ext 1 (.tmp 9), none, [9], []⟩,
    ⟨some 4, .mv (.tmp 12), none, [12], []⟩,
    ⟨some 5, .mv (.tmp 13), none, [13], []⟩] [0, 4, 5])
(.seq (.reg false [⟨some 6, .mv (.const (.slice none 0 0)), none, [], []⟩] [0, 4, 5, 6])
(.seq (.seq (.reg false [⟨some 7, .mv (.const (.int .i64 (0))), none, [], []⟩] [0, 4, 5, 6, 7])
(.block 0 (.loop (.seq (.seq (.reg false [⟨some 14, .mv (.tmp 5), none, [5], []⟩,
    ⟨some 15, .isnil false .nilIface (.tmp 14), none, [14], []⟩,
    ⟨some 16, .mv (.tmp 15), none, [15], []⟩,
    ⟨some 17, .mv (.tmp 7), some (16, true), [7, 16], []⟩,
    ⟨some 18, .mv (.tmp 4), some (16, true), [4, 16], []⟩,
    ⟨some 19, .bin .lss (.tmp 17) (.tmp 18), some (16, true), [17, 18, 16], []⟩,
    ⟨some 20, .pick (.tmp 16) (.tmp 19) (.const (.bool false)), none, [16, 19], []⟩] [0, 4, 5, 6, 7, 20])
(.cond (.tmp 20)
.skip
(.exit 0)))
(.seq (.block 1 (.seq (.reg false [⟨some 8, .mv (.const (.int .u64 (0))), none, [], []⟩] [0, 4, 6, 7])
(.seq (.reg false [⟨some 24, .mv (.tmp 0), none, [0], []⟩,
    ⟨some 25, .call 115 [(.tmp 24)], none, [24], []⟩,
    ⟨some 23, .mv (.tmp 25), none, [25], []⟩,
    ⟨some 26, .ext 0 (.tmp 23), none, [23], []⟩,
    ⟨some 27, .ext 1 (.tmp 23), none, [23], []⟩,
    ⟨some 8, .mv (.tmp 26), none, [26], []⟩,
    ⟨some 5, .mv (.tmp 27), none, [27], []⟩] [0, 4, 5, 6, 7, 8])
(.reg false [⟨some 28, .mv (.tmp 6), none, [6], []⟩,
    ⟨some 29, .mv (.tmp 8), none, [8], []⟩,
    ⟨some 30, .bin .shr (.tmp 29) (.const (.int .u64 (1))), none, [29], []⟩,
    ⟨some 31, .conv .i64 (.tmp 30), none, [30], []⟩,
    ⟨some 32, .mv (.tmp 8), none, [8], []⟩,
    ⟨some 33, .bin .and (.tmp 32) (.const (.int .u64 (1))), none, [32], []⟩,
    ⟨some 34, .conv .i64 (.tmp 33), none, [33], []⟩,
    ⟨some 35, .un .neg (.tmp 34), none, [34], []⟩,
    ⟨some 36, .bin .xor (.tmp 31) (.tmp 35), none, [31, 35], []⟩,
    ⟨some 37, .bslice 3 1 1 [(.int .i64 (0))] [(0, 1, (.tmp 36))], none, [36], []⟩,
    ⟨some 38, .append 3 1 8 (.tmp 28) (.tmp 37), none, [28, 37], []⟩,
    ⟨some 6, .mv (.tmp 38), none, [38], []⟩] [0, 4, 5, 6, 7]))))
(.reg false [⟨some 21, .mv (.tmp 7), none, [7], []⟩,
    ⟨some 22, .bin .add (.tmp 21) (.const (.int .i64 (1))), none, [21], []⟩,
    ⟨some 7, .mv (.tmp 22), none, [22], []⟩] [0, 4, 5, 6, 7]))))))
(.seq (.reg false [⟨some 39, .mv (.tmp 6), none, [6], []⟩,
    ⟨some 40, .mv (.tmp 5), none, [5], []⟩,
    ⟨some 2, .mv (.tmp 39), none, [39], []⟩,
    ⟨some 3, .mv (.tmp 40), none, [40], []⟩] [2, 3])
.ret)))))
theorem ok_97 : FnOk Tryz.prog 97 41 ac_97 [.tmp 2, .tmp 3] := ⟨Tryz.f97, Tryz.func97, by kernel_rfl, by kernel_rfl, by kernel_rfl, by kernel_rfl, by kernel_rfl⟩
def ac_116 : AC :=
(.seq (.reg false [⟨some 2, .mv (.const (.slice none 0 0)), none, [], []⟩,
    ⟨some 3, .mv (.const .nilIface), none, [], []⟩] [0])
(.seq (.reg false [⟨some 8, .mv (.tmp 0), none, [0], []⟩,
    ⟨some 9, .call 115 [(.tmp 8)], none, [8], []⟩,
    ⟨some 7, .mv (.tmp 9), none, [9], []⟩,
    ⟨some 10, .ext 0 (.tmp 7), none, [7], []⟩,
    ⟨some 11, .ext 1 (.tmp 7), none, [7], []⟩,
    ⟨some 4, .mv (.tmp 10), none, [10], []⟩,
    ⟨some 5, .mv (.tmp 11), none, [11], []⟩] [0, 4, 5])
(.seq (.seq (.reg false [⟨some 12, .mv (.tmp 5), none, [5], []⟩,
    ⟨some 13, .isnil true .nilIface (.tmp 12), none, [12], []⟩] [0, 4, 5, 13])
(.cond (.tmp 13)
(.seq (.reg false [⟨some 14, .mv (.tmp 5), none, [5], []⟩,
    ⟨some 2, .mv (.const (.slice none 0 0)), none, [], []⟩,
    ⟨some 3, .mv (.tmp 14), none, [14], []⟩] [2, 3])
.ret)
.skip))
(.seq (.seq (.reg false [⟨some 15, .mv (.tmp 4), none, [4], []⟩,
    ⟨some 16, .bin .gtr (.tmp 15) (.const (.int .u64 (4096))), none, [15], []⟩] [0, 4, 16])
(.cond (.tmp 16)
(.seq (.reg false [⟨some 17, .build [(.int .i64 (0))] [(0, 1, (.const (.int .i64 (5))))], none, [], []⟩,
    ⟨some 18, .mkif 153 (.tmp 17), none, [17], []⟩,
    ⟨some 2, .mv (.const (.slice none 0 0)), none, [], []⟩,
    ⟨some 3, .mv (.tmp 18), none, [18], []⟩] [2, 3])
.ret)
.skip))
(.seq (.reg false [⟨some 20, .mv (.tmp 0), none, [0], []⟩,
    ⟨some 21, .mv (.tmp 4), none, [4], []⟩,
    ⟨some 22, .conv .i64 (.tmp 21), none, [21], []⟩,
    ⟨some 23, .call 113 [(.tmp 20), (.tmp 22)], none, [20, 22], []⟩,
    ⟨some 19, .mv (.tmp 23), none, [23], []⟩,
    ⟨some 24, .ext 0 (.tmp 19), none, [19], []⟩,
    ⟨some 25, .ext 1 (.tmp 19), none, [19], []⟩,
    ⟨some 6, .mv (.tmp 24), none, [24], []⟩,
    ⟨some 5, .mv (.tmp 25), none, [25], []⟩] [5, 6])
(.seq (.reg false [⟨some 26, .mv (.tmp 6), none, [6], []⟩,
    ⟨some 27, .call 95 [(.tmp 26)], none, [26], []⟩,
    ⟨some 28, .mv (.tmp 5), none, [5], []⟩,
    ⟨some 2, .mv (.tmp 27), none, [27], []⟩,
    ⟨some 3, .mv (.tmp 28), none, [28], []⟩] [2, 3])
.ret))))))
theorem ok_116 : FnOk Tryz.prog 116 29 ac_116 [.tmp 2, .tmp 3] := ⟨Tryz.f116, Tryz.func116, by kernel_rfl, by kernel_rfl, by kernel_rfl, by kernel_rfl, by kernel_rfl⟩
def ac_98 : AC :=
(.seq (.reg false [⟨some 2, .mv (.const (.slice none 0 0)), none, [], []⟩,
    ⟨some 3, .mv (.const .nilIface), none, [], []⟩] [0])
(.seq (.reg false [⟨some 10, .mv (.tmp 0), none, [0], []⟩,
    ⟨some 11, .call 114 [(.tmp 10), (.const (.int .i64 (64)))], none, [10], []⟩,
    ⟨some 9, .mv (.tmp 11), none, [11], []⟩,
    ⟨some 12, .ext 0 (.tmp 9), none, [9], []⟩,
    ⟨some 13, .ext 1 (.tmp 9), none, [9], []⟩,
    ⟨some 4, .mv (.tmp 12), none, [12], []⟩,
    ⟨some 5, .mv (.tmp 13), none, [13], []⟩] [0, 4, 5])
(.seq (.reg false [⟨some 6, .mv (.const (.slice none 0 0)), none, [], []⟩] [0, 4, 5, 6])
(.seq (.seq (.reg false [⟨some 7, .mv (.const (.int .i64 (0))), none, [], []⟩] [0, 4, 5, 6, 7])
(.block 0 (.loop (.seq (.seq (.reg false [⟨some 14, .mv (.tmp 5), none, [5], []⟩,
    ⟨some 15, .isnil false .nilIface (.tmp 14), none, [14], []⟩,
    ⟨some 16, .mv (.tmp 15), none, [15], []⟩,
    ⟨some 17, .mv (.tmp 7), some (16, true), [7, 16], []⟩,
    ⟨some 18, .mv (.tmp 4), some (16, true), [4, 16], []⟩,
    ⟨some 19, .bin .lss (.tmp 17) (.tmp 18), some (16, true), [17, 18, 16], []⟩,
    ⟨some 20, .pick (.tmp 16) (.tmp 19) (.const (.bool false)), none, [16, 19], []⟩] [0, 4, 5, 6, 7, 20])
(.cond (.tmp 20)
.skip
(.exit 0)))
(.seq (.block 1 (.seq (.reg false [⟨some 8, .mv (.const (.slice none 0 0)), none, [], []⟩] [0, 4, 6, 7])
(.seq (.reg false [⟨some 24, .mv (.tmp 0), none, [0], []⟩,
    ⟨some 25, .call 116 [(.tmp 24)], none, [24], []⟩,
    ⟨some 23, .mv (.tmp 25), none, [25], []⟩,
    ⟨some 26, .ext 0 (.tmp 23), none, [23], []⟩,
    ⟨some 27, .ext 1 (.tmp 23), none, [23], []⟩,
    ⟨some 8, .mv (.tmp 26), none, [26], []⟩,
    ⟨some 5, .mv (.tmp 27), none, [27], []⟩] [0, 4, 5, 6, 7, 8])
(.reg false [⟨some 28, .mv (.tmp 6), none, [6], []⟩,
    ⟨some 29, .mv (.tmp 8), none, [8], []⟩,
    ⟨some 30, .bslice 22 1 1 [(.slice none 0 0)] [(0, 1, (.tmp 29))], none, [29], []⟩,
    ⟨some 31, .append 22 1 24 (.tmp 28) (.tmp 30), none, [28, 30], []⟩,
    ⟨some 6, .mv (.tmp 31), none, [31], []⟩] [0, 4, 5, 6, 7]))))
(.reg false [⟨some 21, .mv (.tmp 7), none, [7], []⟩,
    ⟨some 22, .bin .add (.tmp 21) (.const (.int .i64 (1))), none, [21], []⟩,
    ⟨some 7, .mv (.tmp 22), none, [22], []⟩] [0, 4, 5, 6, 7]))))))
(.seq (.reg false [⟨some 32, .mv (.tmp 6), none, [6], []⟩,
    ⟨some 33, .mv (.tmp 5), none, [5], []⟩,
    ⟨some 2, .mv (.tmp 32), none, [32], []⟩,
    ⟨some 3, .mv (.tmp 33), none, [33], []⟩] [2, 3])
.ret)))))
theorem ok_98 : FnOk Tryz.prog 98 34 ac_98 [.tmp 2, .tmp 3] := ⟨Tryz.f98, Tryz.func98, by kernel_rfl, by kernel_rfl, by kernel_rfl, by kernel_rfl, by kernel_rfl⟩
def ac_66 : AC :=
(.seq (.reg false [⟨some 2, .new 76 [(.int .i64 (0)), (.slice none 0 0), (.slice none 0 0)], none, [], []⟩,
    ⟨some 3, .mv (.const .nilIface), none, [], []⟩] [0, 2])
(.seq (.seq (.reg false [⟨some 5, .mv (.tmp 0), none, [0], []⟩,
    ⟨some 6, .call 96 [(.tmp 5)], none, [5], []⟩,
    ⟨some 4, .mv (.tmp 6), none, [6], []⟩,
    ⟨some 7, .ext 0 (.tmp 4), none, [4], []⟩,
    ⟨some 8, .ext 1 (.tmp 4), none, [4], []⟩,
    ⟨some 9, .foff 0 (.tmp 2), none, [2], []⟩,
    ⟨none, .store 1 (.tmp 9) (.tmp 7), none, [9, 7], []⟩,
    ⟨some 3, .mv (.tmp 8), none, [8], []⟩] [0, 2, 3])
(.seq (.reg false [⟨some 10, .mv (.tmp 3), none, [3], []⟩,
    ⟨some 11, .isnil true .nilIface (.tmp 10), none, [10], []⟩] [0, 2, 3, 11])
(.cond (.tmp 11)
(.seq (.reg false [⟨some 12, .load true 3 (.tmp 2), none, [2], []⟩,
    ⟨some 13, .mv (.tmp 3), none, [3], []⟩,
    ⟨none, .store 3 (.tmp 2) (.tmp 12), none, [2, 12], []⟩,
    ⟨some 3, .mv (.tmp 13), none, [13], []⟩] [2, 3])
.ret)
.skip)))
(.seq (.seq (.reg false [⟨some 15, .mv (.tmp 0), none, [0], []⟩,
    ⟨some 16, .call 97 [(.tmp 15)], none, [15], []⟩,
    ⟨some 14, .mv (.tmp 16), none, [16], []⟩,
    ⟨some 17, .ext 0 (.tmp 14), none, [14], []⟩,
    ⟨some 18, .ext 1 (.tmp 14), none, [14], []⟩,
    ⟨some 19, .foff 1 (.tmp 2), none, [2], []⟩,
    ⟨none, .store 1 (.tmp 19) (.tmp 17), none, [19, 17], []⟩,
    ⟨some 3, .mv (.tmp 18), none, [18], []⟩] [0, 2, 3])
(.seq (.reg false [⟨some 20, .mv (.tmp 3), none, [3], []⟩,
    ⟨some 21, .isnil true .nilIface (.tmp 20), none, [20], []⟩] [0, 2, 3, 21])
(.cond (.tmp 21)
(.seq (.reg false [⟨some 22, .load true 3 (.tmp 2), none, [2], []⟩,
    ⟨some 23, .mv (.tmp 3), none, [3], []⟩,
    ⟨none, .store 3 (.tmp 2) (.tmp 22), none, [2, 22], []⟩,
    ⟨some 3, .mv (.tmp 23), none, [23], []⟩] [2, 3])
.ret)
.skip)))
(.seq (.seq (.reg false [⟨some 25, .mv (.tmp 0), none, [0], []⟩,
    ⟨some 26, .call 98 [(.tmp 25)], none, [25], []⟩,
    ⟨some 24, .mv (.tmp 26), none, [26], []⟩,
    ⟨some 27, .ext 0 (.tmp 24), none, [24], []⟩,
    ⟨some 28, .ext 1 (.tmp 24), none, [24], []⟩,
    ⟨some 29, .foff 2 (.tmp 2), none, [2], []⟩,
    ⟨none, .store 1 (.tmp 29) (.tmp 27), none, [29, 27], []⟩,
    ⟨some 3, .mv (.tmp 28), none, [28], []⟩] [0, 2, 3])
(.seq (.reg false [⟨some 30, .mv (.tmp 3), none, [3], []⟩,
    ⟨some 31, .isnil true .nilIface (.tmp 30), none, [30], []⟩] [0, 2, 3, 31])
(.cond (.tmp 31)
(.seq (.reg false [⟨some 32, .load true 3 (.tmp 2), none, [2], []⟩,
    ⟨some 33, .mv (.tmp 3), none, [3], []⟩,
    ⟨none, .store 3 (.tmp 2) (.tmp 32), none, [2, 32], []⟩,
    ⟨some 3, .mv (.tmp 33), none, [33], []⟩] [2, 3])
.ret)
.skip)))
(.seq (.seq (.reg false [⟨some 34, .mv (.tmp 0), none, [0], []⟩,
    ⟨some 35, .nilc (.tmp 34), none, [34], []⟩,
    ⟨some 36, .foff 0 (.tmp 35), none, [35], []⟩,
    ⟨some 37, .load false 1 (.tmp 36), none, [36], []⟩,
    ⟨some 38, .len false (.tmp 37), none, [37], []⟩,
    ⟨some 39, .bin .gtr (.tmp 38) (.const (.int .i64 (0))), none, [38], []⟩] [2, 3, 39])
(.cond (.tmp 39)
(.reg false [⟨some 40, .build [(.int .i64 (0))] [(0, 1, (.const (.int .i64 (23))))], none, [], []⟩,
    ⟨some 41, .mkif 153 (.tmp 40), none, [40], []⟩,
    ⟨some 3, .mv (.tmp 41), none, [41], []⟩] [2, 3])
.skip))
(.seq (.reg false [⟨some 42, .load true 3 (.tmp 2), none, [2], []⟩,
    ⟨some 43, .mv (.tmp 3), none, [3], []⟩,
    ⟨none, .store 3 (.tmp 2) (.tmp 42), none, [2, 42], []⟩,
    ⟨some 3, .mv (.tmp 43), none, [43], []⟩] [2, 3])
.ret))))))
theorem ok_66 : FnOk Tryz.prog 66 44 ac_66 [.cell 2 true 3, .tmp 3] := ⟨Tryz.f66, Tryz.func66, by kernel_rfl, by kernel_rfl, by kernel_rfl, by kernel_rfl, by kernel_rfl⟩
def ac_38 : AC :=
(.seq (.reg false [⟨some 2, .new 76 [(.int .i64 (0)), (.slice none 0 0), (.slice none 0 0)], none, [], []⟩,
    ⟨some 3, .mv (.const (.int .i64 (0))), none, [], []⟩] [0, 2])
(.seq (.reg false [⟨some 9, .mv (.tmp 0), none, [0], []⟩,
    ⟨some 10, .call 65 [(.tmp 9)], none, [9], []⟩,
    ⟨some 8, .mv (.tmp 10), none, [10], []⟩,
    ⟨some 11, .ext 0 (.tmp 8), none, [8], []⟩,
    ⟨some 12, .ext 1 (.tmp 8), none, [8], []⟩,
    ⟨some 4, .mv (.tmp 11), none, [11], []⟩,
    ⟨some 5, .mv (.tmp 12), none, [12], []⟩] [2, 4, 5])
(.seq (.seq (.reg false [⟨some 13, .mv (.tmp 5), none, [5], []⟩,
    ⟨some 14, .bin .neq (.tmp 13) (.const (.int .i64 (0))), none, [13], []⟩] [2, 4, 5, 14])
(.cond (.tmp 14)
(.seq (.reg false [⟨some 15, .build [(.int .i64 (0)), (.slice none 0 0), (.slice none 0 0)] [], none, [], []⟩,
    ⟨some 16, .mv (.tmp 5), none, [5], []⟩,
    ⟨none, .store 3 (.tmp 2) (.tmp 15), none, [2, 15], []⟩,
    ⟨some 3, .mv (.tmp 16), none, [16], []⟩] [2, 3])
.ret)
.skip))
(.seq (.reg false [⟨some 18, .mv (.tmp 4), none, [4], []⟩,
    ⟨some 19, .build [(.slice none 0 0)] [(0, 1, (.tmp 18))], none, [18], []⟩,
    ⟨some 20, .box 115 (.tmp 19), none, [19], []⟩,
    ⟨some 21, .call 66 [(.tmp 20)], none, [20], []⟩,
    ⟨some 17, .mv (.tmp 21), none, [21], []⟩,
    ⟨some 22, .ext 0 (.tmp 17), none, [17], []⟩,
    ⟨some 23, .ext 1 (.tmp 17), none, [17], []⟩,
    ⟨some 6, .new 76 [(.int .i64 (0)), (.slice none 0 0), (.slice none 0 0)], none, [], []⟩,
    ⟨none, .store 3 (.tmp 6) (.tmp 22), none, [6, 22], []⟩,
    ⟨some 7, .mv (.tmp 23), none, [23], []⟩] [2, 6, 7])
(.seq (.seq (.reg false [⟨some 24, .mv (.tmp 7), none, [7], []⟩,
    ⟨some 25, .isnil true .nilIface (.tmp 24), none, [24], []⟩] [2, 6, 7, 25])
(.cond (.tmp 25)
(.seq (.reg false [⟨some 26, .build [(.int .i64 (0)), (.slice none 0 0), (.slice none 0 0)] [], none, [], []⟩,
    ⟨some 27, .mv (.tmp 7), none, [7], []⟩,
    ⟨some 28, .call 67 [(.tmp 27)], none, [27], []⟩,
    ⟨none, .store 3 (.tmp 2) (.tmp 26), none, [2, 26], []⟩,
    ⟨some 3, .mv (.tmp 28), none, [28], []⟩] [2, 3])
.ret)
.skip))
(.seq (.reg false [⟨some 29, .load true 3 (.tmp 6), none, [6], []⟩,
    ⟨none, .store 3 (.tmp 2) (.tmp 29), none, [2, 29], []⟩,
    ⟨some 3, .mv (.const (.int .i64 (0))), none, [], []⟩] [2, 3])
.ret))))))
theorem ok_38 : FnOk Tryz.prog 38 30 ac_38 [.cell 2 true 3, .tmp 3] := ⟨Tryz.f38, Tryz.func38, by kernel_rfl, by kernel_rfl, by kernel_rfl, by kernel_rfl, by kernel_rfl⟩
def ac_12 : AC :=
(.seq (.reg false [⟨some 2, .new 25 [(.int .i64 (0)), (.int .i64 (0)), (.int .i64 (0)), (.int .i64 (0)), (.slice none 0 0)], none, [], []⟩,
    ⟨some 3, .mv (.const (.int .i64 (0))), none, [], []⟩] [0, 2])
(.seq (.seq (.reg false [⟨some 9, .mv (.tmp 0), none, [0], []⟩,
    ⟨some 10, .len false (.tmp 9), none, [9], []⟩,
    ⟨some 11, .bin .neq (.tmp 10) (.const (.int .i64 (512))), none, [10], []⟩] [0, 2, 11])
(.cond (.tmp 11)
(.seq (.reg false [⟨some 12, .build [(.int .i64 (0)), (.int .i64 (0)), (.int .i64 (0)), (.int .i64 (0)), (.slice none 0 0)] [], none, [], []⟩,
    ⟨none, .store 5 (.tmp 2) (.tmp 12), none, [2, 12], []⟩,
    ⟨some 3, .mv (.const (.int .i64 (3))), none, [], []⟩] [2, 3])
.ret)
.skip))
(.seq (.reg true [⟨some 13, .mv (.tmp 0), none, [0], []⟩,
    ⟨some 14, .idx 1 (.tmp 13) (.const (.int .i64 (0))), none, [13], [0]⟩,
    ⟨some 15, .load false 1 (.tmp 14), none, [14], [1, 0]⟩,
    ⟨some 16, .conv .i64 (.tmp 15), none, [15], [2, 1, 0]⟩,
    ⟨some 17, .bin .shl (.tmp 16) (.const (.int .u64 (8))), none, [16], [3, 2, 1, 0]⟩,
    ⟨some 18, .mv (.tmp 0), none, [0], []⟩,
    ⟨some 19, .idx 1 (.tmp 18) (.const (.int .i64 (1))), none, [18], [5]⟩,
    ⟨some 20, .load false 1 (.tmp 19), none, [19], [6, 5]⟩,
    ⟨some 21, .conv .i64 (.tmp 20), none, [20], [7, 6, 5]⟩,
    ⟨some 22, .bin .or (.tmp 17) (.tmp 21), none, [17, 21], [4, 8, 3, 2, 1, 0, 7, 6, 5]⟩,
    ⟨some 23, .bin .add (.const (.int .i64 (2))) (.tmp 22), none, [22], [9, 4, 8, 3, 2, 1, 0, 7, 6, 5]⟩,
    ⟨some 4, .mv (.tmp 23), none, [23], [10, 0, 1, 2, 3, 4, 5, 6, 7, 8, 9]⟩] [0, 2, 4])
(.seq (.seq (.reg false [⟨some 24, .mv (.tmp 4), none, [4], []⟩,
    ⟨some 25, .bin .gtr (.tmp 24) (.const (.int .i64 (512))), none, [24], []⟩] [0, 2, 4, 25])
(.cond (.tmp 25)
(.seq (.reg false [⟨some 26, .build [(.int .i64 (0)), (.int .i64 (0)), (.int .i64 (0)), (.int .i64 (0)), (.slice none 0 0)] [], none, [], []⟩,
    ⟨none, .store 5 (.tmp 2) (.tmp 26), none, [2, 26], []⟩,
    ⟨some 3, .mv (.const (.int .i64 (5))), none, [], []⟩] [2, 3])
.ret)
.skip))
(.seq (.reg false [⟨some 28, .mv (.tmp 0), none, [0], []⟩,
    ⟨some 29, .mv (.tmp 4), none, [4], []⟩,
    ⟨some 30, .slice 1 (.tmp 28) (some (.const (.int .i64 (2)))) (some (.tmp 29)), none, [28, 29], []⟩,
    ⟨some 31, .call 38 [(.tmp 30)], none, [30], []⟩,
    ⟨some 27, .mv (.tmp 31), none, [31], []⟩,
    ⟨some 32, .ext 0 (.tmp 27), none, [27], []⟩,
    ⟨some 33, .ext 1 (.tmp 27), none, [27], []⟩,
    ⟨some 5, .new 76 [(.int .i64 (0)), (.slice none 0 0), (.slice none 0 0)], none, [], []⟩,
    ⟨none, .store 3 (.tmp 5) (.tmp 32), none, [5, 32], []⟩,
    ⟨some 6, .mv (.tmp 33), none, [33], []⟩] [0, 2, 4, 5, 6])
(.seq (.block 0 (.seq (.reg false [⟨some 35, .mv (.tmp 6), none, [6], []⟩,
    ⟨some 36, .bin .neq (.tmp 35) (.const (.int .i64 (0))), none, [35], []⟩,
    ⟨some 34, .mv (.tmp 36), none, [36], []⟩] [0, 2, 4, 5, 6, 34])
(.cond (.tmp 34)
(.seq (.reg false [⟨some 37, .build [(.int .i64 (0)), (.int .i64 (0)), (.int .i64 (0)), (.int .i64 (0)), (.slice none 0 0)] [], none, [], []⟩,
    ⟨some 38, .mv (.tmp 6), none, [6], []⟩,
    ⟨none, .store 5 (.tmp 2) (.tmp 37), none, [2, 37], []⟩,
    ⟨some 3, .mv (.tmp 38), none, [38], []⟩] [2, 3])
.ret)
(.seq (.reg false [⟨some 40, .foff 0 (.tmp 5), none, [5], []⟩,
    ⟨some 41, .load false 1 (.tmp 40), none, [40], []⟩,
    ⟨some 42, .bin .neq (.tmp 41) (.const (.int .i64 (7))), none, [41], []⟩,
    ⟨some 39, .mv (.tmp 42), none, [42], []⟩] [0, 2, 4, 5, 39])
(.cond (.tmp 39)
(.seq (.reg false [⟨some 43, .build [(.int .i64 (0)), (.int .i64 (0)), (.int .i64 (0)), (.int .i64 (0)), (.slice none 0 0)] [], none, [], []⟩,
    ⟨none, .store 5 (.tmp 2) (.tmp 43), none, [2, 43], []⟩,
    ⟨some 3, .mv (.const (.int .i64 (22))), none, [], []⟩] [2, 3])
.ret)
(.seq (.reg false [⟨some 45, .foff 1 (.tmp 5), none, [5], []⟩,
    ⟨some 46, .load false 1 (.tmp 45), none, [45], []⟩,
    ⟨some 47, .len false (.tmp 46), none, [46], []⟩,
    ⟨some 48, .bin .neq (.tmp 47) (.const (.int .i64 (4))), none, [47], []⟩,
    ⟨some 49, .mv (.tmp 48), none, [48], []⟩,
    ⟨some 50, .foff 2 (.tmp 5), some (49, false), [5, 49], []⟩,
    ⟨some 51, .load false 1 (.tmp 50), some (49, false), [50, 49], []⟩,
    ⟨some 52, .len false (.tmp 51), some (49, false), [51, 49], []⟩,
    ⟨some 53, .bin .neq (.tmp 52) (.const (.int .i64 (1))), some (49, false), [52, 49], []⟩,
    ⟨some 54, .pick (.tmp 49) (.const (.bool true)) (.tmp 53), none, [49, 53], []⟩,
    ⟨some 44, .mv (.tmp 54), none, [54], []⟩] [0, 2, 4, 5, 44])
(.cond (.tmp 44)
(.seq (.reg false [⟨some 55, .build [(.int .i64 (0)), (.int .i64 (0)), (.int .i64 (0)), (.int .i64 (0)), (.slice none 0 0)] [], none, [], []⟩,
    ⟨none, .store 5 (.tmp 2) (.tmp 55), none, [2, 55], []⟩,
    ⟨some 3, .mv (.const (.int .i64 (3))), none, [], []⟩] [2, 3])
.ret)
.skip)))))))
(.seq (.reg true [⟨some 56, .foff 1 (.tmp 5), none, [5], []⟩,
    ⟨some 57, .load false 1 (.tmp 56), none, [56], [0]⟩,
    ⟨some 58, .idx 1 (.tmp 57) (.const (.int .i64 (0))), none, [57], [1, 0]⟩,
    ⟨some 59, .load false 1 (.tmp 58), none, [58], [2, 1, 0]⟩,
    ⟨some 60, .foff 1 (.tmp 5), none, [5], []⟩,
    ⟨some 61, .load false 1 (.tmp 60), none, [60], [4]⟩,
    ⟨some 62, .idx 1 (.tmp 61) (.const (.int .i64 (1))), none, [61], [5, 4]⟩,
    ⟨some 63, .load false 1 (.tmp 62), none, [62], [6, 5, 4]⟩,
    ⟨some 64, .foff 1 (.tmp 5), none, [5], []⟩,
    ⟨some 65, .load false 1 (.tmp 64), none, [64], [8]⟩,
    ⟨some 66, .idx 1 (.tmp 65) (.const (.int .i64 (2))), none, [65], [9, 8]⟩,
    ⟨some 67, .load false 1 (.tmp 66), none, [66], [10, 9, 8]⟩,
    ⟨some 68, .foff 1 (.tmp 5), none, [5], []⟩,
    ⟨some 69, .load false 1 (.tmp 68), none, [68], [12]⟩,
    ⟨some 70, .idx 1 (.tmp 69) (.const (.int .i64 (3))), none, [69], [13, 12]⟩,
    ⟨some 71, .load false 1 (.tmp 70), none, [70], [14, 13, 12]⟩,
    ⟨some 72, .foff 2 (.tmp 5), none, [5], []⟩,
    ⟨some 73, .load false 1 (.tmp 72), none, [72], [16]⟩,
    ⟨some 74, .idx 1 (.tmp 73) (.const (.int .i64 (0))), none, [73], [17, 16]⟩,
    ⟨some 75, .load false 1 (.tmp 74), none, [74], [18, 17, 16]⟩,
    ⟨some 76, .build [(.int .i64 (0)), (.int .i64 (0)), (.int .i64 (0)), (.int .i64 (0)), (.slice none 0 0)] [(0, 1, (.tmp 59)), (1, 1, (.tmp 63)), (2, 1, (.tmp 67)), (3, 1, (.tmp 71)), (4, 1, (.tmp 75))], none, [59, 63, 67, 71, 75], [3, 7, 11, 15, 19, 2, 1, 0, 6, 5, 4, 10, 9, 8, 14, 13, 12, 18, 17, 16]⟩,
    ⟨some 7, .new 25 [(.int .i64 (0)), (.int .i64 (0)), (.int .i64 (0)), (.int .i64 (0)), (.slice none 0 0)], none, [], []⟩,
    ⟨none, .store 5 (.tmp 7) (.tmp 76), none, [7, 76], [21, 20, 0, 1, 2, 3, 4, 5, 6, 7, 8, 9, 10, 11, 12, 13, 14, 15, 16, 17, 18, 19]⟩] [0, 2, 4, 7])
(.seq (.seq (.reg false [⟨some 77, .load true 5 (.tmp 7), none, [7], []⟩,
    ⟨some 78, .call 17 [(.tmp 77)], none, [77], []⟩,
    ⟨some 8, .mv (.tmp 78), none, [78], []⟩] [0, 2, 4, 7, 8])
(.seq (.reg false [⟨some 79, .mv (.tmp 8), none, [8], []⟩,
    ⟨some 80, .bin .neq (.tmp 79) (.const (.int .i64 (0))), none, [79], []⟩] [0, 2, 4, 7, 8, 80])
(.cond (.tmp 80)
(.seq (.reg false [⟨some 81, .build [(.int .i64 (0)), (.int .i64 (0)), (.int .i64 (0)), (.int .i64 (0)), (.slice none 0 0)] [], none, [], []⟩,
    ⟨some 82, .mv (.tmp 8), none, [8], []⟩,
    ⟨none, .store 5 (.tmp 2) (.tmp 81), none, [2, 81], []⟩,
    ⟨some 3, .mv (.tmp 82), none, [82], []⟩] [2, 3])
.ret)
.skip)))
(.seq (.seq (.reg false [⟨some 83, .mv (.tmp 0), none, [0], []⟩,
    ⟨some 84, .mv (.tmp 4), none, [4], []⟩,
    ⟨some 85, .slice 1 (.tmp 83) (some (.tmp 84)) none, none, [83, 84], []⟩,
    ⟨some 86, .call 39 [(.tmp 85), (.const (.string (ByteArray.mk #[0])))], none, [85], []⟩,
    ⟨some 87, .len false (.tmp 86), none, [86], []⟩,
    ⟨some 88, .bin .gtr (.tmp 87) (.const (.int .i64 (0))), none, [87], []⟩] [2, 7, 88])
(.cond (.tmp 88)
(.seq (.reg false [⟨some 89, .build [(.int .i64 (0)), (.int .i64 (0)), (.int .i64 (0)), (.int .i64 (0)), (.slice none 0 0)] [], none, [], []⟩,
    ⟨none, .store 5 (.tmp 2) (.tmp 89), none, [2, 89], []⟩,
    ⟨some 3, .mv (.const (.int .i64 (23))), none, [], []⟩] [2, 3])
.ret)
.skip))
(.seq (.reg false [⟨some 90, .load true 5 (.tmp 7), none, [7], []⟩,
    ⟨none, .store 5 (.tmp 2) (.tmp 90), none, [2, 90], []⟩,
    ⟨some 3, .mv (.const (.int .i64 (0))), none, [], []⟩] [2, 3])
.ret))))))))))
theorem ok_12 : FnOk Tryz.prog 12 91 ac_12 [.cell 2 true 5, .tmp 3] := ⟨Tryz.f12, Tryz.func12, by kernel_rfl, by kernel_rfl, by kernel_rfl, by kernel_rfl, by kernel_rfl⟩
def ac_39 : AC :=
(.seq (.reg false [⟨some 4, .mv (.const (.slice none 0 0)), none, [], []⟩] [0, 1])
(.seq (.seq (.reg false [⟨some 7, .mv (.tmp 0), none, [0], []⟩,
    ⟨some 8, .len false (.tmp 7), none, [7], []⟩,
    ⟨some 9, .bin .eql (.tmp 8) (.const (.int .i64 (0))), none, [8], []⟩] [0, 1, 9])
(.cond (.tmp 9)
(.seq (.reg false [⟨some 4, .mv (.const (.slice none 0 0)), none, [], []⟩] [4])
.ret)
.skip))
(.seq (.seq (.reg false [⟨some 10, .mv (.tmp 1), none, [1], []⟩,
    ⟨some 11, .bin .eql (.tmp 10) (.const (.string (ByteArray.mk #[]))), none, [10], []⟩] [0, 1, 11])
(.cond (.tmp 11)
(.seq (.reg false [⟨some 12, .mv (.tmp 0), none, [0], []⟩,
    ⟨some 4, .mv (.tmp 12), none, [12], []⟩] [4])
.ret)
.skip))
(.seq (.seq (.reg false [⟨some 13, .mv (.tmp 1), none, [1], []⟩,
    ⟨some 14, .len true (.tmp 13), none, [13], []⟩,
    ⟨some 15, .bin .eql (.tmp 14) (.const (.int .i64 (1))), none, [14], []⟩,
    ⟨some 16, .mv (.tmp 15), none, [15], []⟩,
    ⟨some 17, .mv (.tmp 1), some (16, true), [1, 16], []⟩,
    ⟨some 18, .sidx (.tmp 17) (.const (.int .i64 (0))), some (16, true), [17, 16], []⟩,
    ⟨some 19, .bin .lss (.tmp 18) (.const (.int .u8 (128))), some (16, true), [18, 16], []⟩,
    ⟨some 20, .pick (.tmp 16) (.tmp 19) (.const (.bool false)), none, [16, 19], []⟩] [0, 1, 20])
(.cond (.tmp 20)
(.seq (.reg true [⟨some 21, .mv (.tmp 0), none, [0], []⟩,
    ⟨some 22, .mv (.tmp 1), none, [1], []⟩,
    ⟨some 23, .sidx (.tmp 22) (.const (.int .i64 (0))), none, [22], [1]⟩,
    ⟨some 24, .call 69 [(.tmp 21), (.tmp 23)], none, [21, 23], [0, 2, 1]⟩,
    ⟨some 25, .mv (.tmp 1), none, [1], []⟩,
    ⟨some 26, .sidx (.tmp 25) (.const (.int .i64 (0))), none, [25], [4]⟩,
    ⟨some 27, .call 68 [(.tmp 24), (.tmp 26)], none, [24, 26], [3, 5, 0, 2, 1, 4]⟩,
    ⟨some 4, .mv (.tmp 27), none, [27], [6, 0, 1, 2, 3, 4, 5]⟩] [4])
.ret)
.skip))
(.seq (.seq (.reg false [⟨some 29, .mv (.tmp 1), none, [1], []⟩,
    ⟨some 30, .call 70 [(.tmp 29)], none, [29], []⟩,
    ⟨some 28, .mv (.tmp 30), none, [30], []⟩,
    ⟨some 31, .ext 0 (.tmp 28), none, [28], []⟩,
    ⟨some 32, .ext 1 (.tmp 28), none, [28], []⟩,
    ⟨some 5, .new 120 [(.bool false), (.bool false), (.bool false), (.bool false), (.bool false), (.bool false), (.bool false), (.bool false), (.bool false), (.bool false), (.bool false), (.bool false), (.bool false), (.bool false), (.bool false), (.bool false), (.bool false), (.bool false), (.bool false), (.bool false), (.bool false), (.bool false), (.bool false), (.bool false), (.bool false), (.bool false), (.bool false), (.bool false), (.bool false), (.bool false), (.bool false), (.bool false), (.bool false), (.bool false), (.bool false), (.bool false), (.bool false), (.bool false), (.bool false), (.bool false), (.bool false), (.bool false), (.bool false), (.bool false), (.bool false), (.bool false), (.bool false), (.bool false), (.bool false), (.bool false), (.bool false), (.bool false), (.bool false), (.bool false), (.bool false), (.bool false), (.bool false), (.bool false), (.bool false), (.bool false), (.bool false), (.bool false), (.bool false), (.bool false), (.bool false), (.bool false), (.bool false), (.bool false), (.bool false), (.bool false), (.bool false), (.bool false), (.bool false), (.bool false), (.bool false), (.bool false), (.bool false), (.bool false), (.bool false), (.bool false), (.bool false), (.bool false), (.bool false), (.bool false), (.bool false), (.bool false), (.bool false), (.bool false), (.bool false), (.bool false), (.bool false), (.bool false), (.bool false), (.bool false), (.bool false), (.bool false), (.bool false), (.bool false), (.bool false), (.bool false), (.bool false), (.bool false), (.bool false), (.bool false), (.bool false), (.bool false), (.bool false), (.bool false), (.bool false), (.bool false), (.bool false), (.bool false), (.bool false), (.bool false), (.bool false), (.bool false), (.bool false), (.bool false), (.bool false), (.bool false), (.bool false), (.bool false), (.bool false), (.bool false), (.bool false), (.bool false), (.bool false), (.bool false), (.bool false), (.bool false), (.bool false), (.bool false), (.bool false), (.bool false), (.bool false), (.bool false), (.bool false), (.bool false), (.bool false), (.bool false), (.bool false), (.bool false), (.bool false), (.bool false), (.bool false), (.bool false), (.bool false), (.bool false), (.bool false), (.bool false), (.bool false), (.bool false), (.bool false), (.bool false), (.bool false), (.bool false), (.bool false), (.bool false), (.bool false), (.bool false), (.bool false), (.bool false), (.bool false), (.bool false), (.bool false), (.bool false), (.bool false), (.bool false), (.bool false), (.bool false), (.bool false), (.bool false), (.bool false), (.bool false), (.bool false), (.bool false), (.bool false), (.bool false), (.bool false), (.bool false), (.bool false), (.bool false), (.bool false), (.bool false), (.bool false), (.bool false), (.bool false), (.bool false), (.bool false), (.bool false), (.bool false), (.bool false), (.bool false), (.bool false), (.bool false), (.bool false), (.bool false), (.bool false), (.bool false), (.bool false), (.bool false), (.bool false), (.bool false), (.bool false), (.bool false), (.bool false), (.bool false), (.bool false), (.bool false), (.bool false), (.bool false), (.bool false), (.bool false), (.bool false), (.bool false), (.bool false), (.bool false), (.bool false), (.bool false), (.bool false), (.bool false), (.bool false), (.bool false), (.bool false), (.bool false), (.bool false), (.bool false), (.bool false), (.bool false), (.bool false), (.bool false), (.bool false), (.bool false), (.bool false), (.bool false), (.bool false), (.bool false), (.bool false), (.bool false), (.bool false), (.bool false), (.bool false), (.bool false), (.bool false), (.bool false), (.bool false), (.bool false), (.bool false), (.bool false), (.bool false), (.bool false), (.bool false), (.bool false), (.bool false), (.bool false), (.bool false)], none, [], []⟩,
    ⟨none, .store 256 (.tmp 5) (.tmp 31), none, [5, 31], []⟩,
    ⟨some 6, .mv (.tmp 32), none, [32], []⟩] [0, 1, 5, 6])
(.seq (.reg false [⟨some 33, .mv (.tmp 6), none, [6], []⟩] [0, 1, 5, 33])
(.cond (.tmp 33)
(.seq (.reg false [⟨some 34, .mv (.tmp 0), none, [0], []⟩,
    ⟨some 35, .call 72 [(.tmp 34), (.tmp 5)], none, [34, 5], []⟩,
    ⟨some 36, .call 71 [(.tmp 35), (.tmp 5)], none, [35, 5], []⟩,
    ⟨some 4, .mv (.tmp 36), none, [36], []⟩] [4])
.ret)
.skip)))
(.seq (.reg false [⟨some 37, .mv (.tmp 0), none, [0], []⟩,
    ⟨some 38, .mv (.tmp 1), none, [1], []⟩,
    ⟨some 39, .call 74 [(.tmp 37), (.tmp 38)], none, [37, 38], []⟩,
    ⟨some 40, .mv (.tmp 1), none, [1], []⟩,
    ⟨some 41, .call 73 [(.tmp 39), (.tmp 40)], none, [39, 40], []⟩,
    ⟨some 4, .mv (.tmp 41), none, [41], []⟩] [4])
.ret))))))
theorem ok_39 : FnOk Tryz.prog 39 42 ac_39 [.tmp 4] := ⟨Tryz.f39, Tryz.func39, by kernel_rfl, by kernel_rfl, by kernel_rfl, by kernel_rfl, by kernel_rfl⟩
def ac_68 : AC :=
(.seq (.reg false [⟨some 4, .mv (.const (.slice none 0 0)), none, [], []⟩] [0, 1])
(.seq (.block 0 (.loop (.seq (.seq (.reg false [⟨some 5, .mv (.tmp 0), none, [0], []⟩,
    ⟨some 6, .len false (.tmp 5), none, [5], []⟩,
    ⟨some 7, .bin .gtr (.tmp 6) (.const (.int .i64 (0))), none, [6], []⟩,
    ⟨some 8, .mv (.tmp 7), none, [7], []⟩,
    ⟨some 9, .mv (.tmp 0), some (8, true), [0, 8], []⟩,
    ⟨some 10, .idx 1 (.tmp 9) (.const (.int .i64 (0))), some (8, true), [9, 8], []⟩,
    ⟨some 11, .load false 1 (.tmp 10), some (8, true), [10, 8], []⟩,
    ⟨some 12, .mv (.tmp 1), some (8, true), [1, 8], []⟩,
    ⟨some 13, .bin .eql (.tmp 11) (.tmp 12), some (8, true), [11, 12, 8], []⟩,
    ⟨some 14, .pick (.tmp 8) (.tmp 13) (.const (.bool false)), none, [8, 13], []⟩] [0, 1, 14])
(.cond (.tmp 14)
.skip
(.exit 0)))
(.block 1 (.reg false [⟨some 15, .mv (.tmp 0), none, [0], []⟩,
    ⟨some 16, .slice 1 (.tmp 15) (some (.const (.int .i64 (1)))) none, none, [15], []⟩,
    ⟨some 0, .mv (.tmp 16), none, [16], []⟩] [0, 1])))))
(.seq (.seq (.reg false [⟨some 17, .mv (.tmp 0), none, [0], []⟩,
    ⟨some 18, .len false (.tmp 17), none, [17], []⟩,
    ⟨some 19, .bin .eql (.tmp 18) (.const (.int .i64 (0))), none, [18], []⟩] [0, 19])
(.cond (.tmp 19)
(.seq (.reg false [⟨some 4, .mv (.const (.slice none 0 0)), none, [], []⟩] [4])
.ret)
.skip))
(.seq (.reg false [⟨some 20, .mv (.tmp 0), none, [0], []⟩,
    ⟨some 4, .mv (.tmp 20), none, [20], []⟩] [4])
.ret))))
theorem ok_68 : FnOk Tryz.prog 68 21 ac_68 [.tmp 4] := ⟨Tryz.f68, Tryz.func68, by kernel_rfl, by kernel_rfl, by kernel_rfl, by kernel_rfl, by kernel_rfl⟩
def ac_69 : AC :=
(.seq (.reg false [⟨some 4, .mv (.const (.slice none 0 0)), none, [], []⟩] [0, 1])
(.seq (.block 0 (.loop (.seq (.seq (.reg false [⟨some 5, .mv (.tmp 0), none, [0], []⟩,
    ⟨some 6, .len false (.tmp 5), none, [5], []⟩,
    ⟨some 7, .bin .gtr (.tmp 6) (.const (.int .i64 (0))), none, [6], []⟩,
    ⟨some 8, .mv (.tmp 7), none, [7], []⟩,
    ⟨some 9, .mv (.tmp 0), some (8, true), [0, 8], []⟩,
    ⟨some 10, .mv (.tmp 0), some (8, true), [0, 8], []⟩,
    ⟨some 11, .len false (.tmp 10), some (8, true), [10, 8], []⟩,
    ⟨some 12, .bin .sub (.tmp 11) (.const (.int .i64 (1))), some (8, true), [11, 8], []⟩,
    ⟨some 13, .idx 1 (.tmp 9) (.tmp 12), some (8, true), [9, 12, 8], []⟩,
    ⟨some 14, .load false 1 (.tmp 13), some (8, true), [13, 8], []⟩,
    ⟨some 15, .mv (.tmp 1), some (8, true), [1, 8], []⟩,
    ⟨some 16, .bin .eql (.tmp 14) (.tmp 15), some (8, true), [14, 15, 8], []⟩,
    ⟨some 17, .pick (.tmp 8) (.tmp 16) (.const (.bool false)), none, [8, 16], []⟩] [0, 1, 17])
(.cond (.tmp 17)
.skip
(.exit 0)))
(.block 1 (.reg false [⟨some 18, .mv (.tmp 0), none, [0], []⟩,
    ⟨some 19, .mv (.tmp 0), none, [0], []⟩,
    ⟨some 20, .len false (.tmp 19), none, [19], []⟩,
    ⟨some 21, .bin .sub (.tmp 20) (.const (.int .i64 (1))), none, [20], []⟩,
    ⟨some 22, .slice 1 (.tmp 18) none (some (.tmp 21)), none, [18, 21], []⟩,
    ⟨some 0, .mv (.tmp 22), none, [22], []⟩] [0, 1])))))
(.seq (.reg false [⟨some 23, .mv (.tmp 0), none, [0], []⟩,
    ⟨some 4, .mv (.tmp 23), none, [23], []⟩] [4])
.ret)))
theorem ok_69 : FnOk Tryz.prog 69 24 ac_69 [.tmp 4] := ⟨Tryz.f69, Tryz.func69, by kernel_rfl, by kernel_rfl, by kernel_rfl, by kernel_rfl, by kernel_rfl⟩
end Go.Proofs.YtdenddhdeloceaaGreatDoor
namespace Go.Proofs.YtdenddhdeloceaaGreatDoor
open Go.RowKit
set_option maxRecDepth 100000
/-- an error of octets, or none -/
def errV (e : Int) : AV := if e = 0 then .v .nilIface else .ifc 153 (.agg [.v (.int .i64 e)])
theorem errV_0 : errV 0 = .v .nilIface := rfl
theorem errV_ne {e : Int} (h : e ≠ 0) : errV e = .ifc 153 (.agg [.v (.int .i64 e)]) := if_neg h
theorem al_errV {p : Nat → Prop} (e : Int) : Al p (errV e) := by
  unfold errV; split
  · trivial
  · exact ⟨trivial, trivial⟩
abbrev scRow (y fr : Bool) (l : List Int) : AObj := .row y 115 [fB fr l]
theorem take_ok (y fr : Bool) (l : List Int) (n : Nat) (id nb : Nat) (hid : id < nb) (h : n ≤ l.length) :
    ASound Tryz.prog 113 [.op id 0, .v (.int .i64 n)] nb (rowM id (scRow y fr l) (.ret (.tup [fB fr (l.take n), .v .nilIface]) [(id, some (scRow y fr (l.drop n)))])) := by
  refine ok_113.soundR (by simp) ⟨rfl, trivial, trivial⟩ (by simp) ⟨al_B l, trivial⟩ ⟨al_B _, trivial⟩ rfl hid ?_
  have e1 : ¬ ((l.length : Int) < (n : Int)) := by omega
  have e2 : ((0 : Int) ≤ (n : Int) ∧ (n : Int) ≤ (l.length : Int)) = True := eq_true ⟨by omega, by omega⟩
  have e3 : ((0 : Int) ≤ (n : Int)) := by omega
  have e4 : ((n : Int) ≤ (l.length : Int)) := by omega
  have c1 : (l.take n).length = n := List.length_take_of_le h
  have c2 : (l.drop n).length = l.length - n := List.length_drop
  have d1 : (l.drop n).take (l.length - n) = l.drop n := List.take_of_length_le (by rw [c2]; exact Nat.le_refl _)
  simp only [ac_113, renL, ren, e1, e2, e3, e4, Nat.sub_zero, take_B, drop_B, tk_B, d1, TT, ↓reduceIte, Nat.reduceEqDiff, Nat.reduceAdd, Nat.reduceMul, reduceCtorEq, Nat.reduceLeDiff]
  exact EndsR.data (.inr rfl) (by simp [ET, c1]) ⟨al_B _, trivial, trivial⟩ (by simp [ET, c2])
theorem take_short (y fr : Bool) (l : List Int) (n : Nat) (id nb : Nat) (hid : id < nb) (h : l.length < n) :
    ASound Tryz.prog 113 [.op id 0, .v (.int .i64 n)] nb (rowM id (scRow y fr l) (.ret (.tup [fB true [], errV 8]) [(id, some (scRow y fr l))])) := by
  refine ok_113.soundR (by simp) ⟨rfl, trivial, trivial⟩ (by simp) ⟨al_B l, trivial⟩ ⟨al_B _, trivial⟩ rfl hid ?_
  have e1 : ((l.length : Int) < (n : Int)) := by omega
  simp only [ac_113, renL, ren, e1, TT, ↓reduceIte, Nat.reduceEqDiff, Nat.reduceAdd, Nat.reduceMul, reduceCtorEq, Nat.reduceLeDiff]
  exact EndsR.imp (r0 := .tup [.v (.slice none 0 0), errV 8]) (.inr rfl) (by simp [ET, errV]) ⟨trivial, al_errV 8, trivial⟩ (Imp.tupL ⟨Imp.nil true, Imp.refl _, trivial⟩) (by simp [ET])
theorem octet_spec (y fr : Bool) (l : List Int) (id nb : Nat) (hid : id < nb) (hb : okB l) :
    ASound Tryz.prog 96 [.op id 0] nb (rowM id (scRow y fr l) (.ret (.tup [.v (.int .i64 (scOct l).1), errV (scOct l).2.1]) [(id, some (scRow y fr (scOct l).2.2))])) := by
  refine ok_96.soundR (by simp) ⟨rfl, trivial⟩ (by simp) ⟨al_B l, trivial⟩ ⟨al_B _, trivial⟩ rfl hid ?_
  cases l with
  | nil =>
    simp only [ac_96, renL, ren, TT, ↓reduceIte, Nat.reduceEqDiff, Nat.reduceAdd, Nat.reduceMul, reduceCtorEq, Nat.reduceLeDiff]
    have h := fun nb h => take_short y fr [] 1 0 nb h (by decide)
    simp only [scRow, fB, List.length_cons, List.length_nil, List.drop_succ_cons, List.drop_zero, List.drop_nil, List.take_succ_cons, List.take_zero, Nat.zero_add] at h
    refine ⟨_, h _ (by decide), ?_⟩
    simp only [errV_ne (show (8 : Int) ≠ 0 by decide), TT, ↓reduceIte, Nat.reduceEqDiff, Nat.reduceAdd, Nat.reduceMul, reduceCtorEq, Nat.reduceLeDiff]
    exact EndsR.data (r := .tup [.v (.int .i64 0), errV 8]) (.inr rfl) (by simp [ET, errV]) ⟨trivial, al_errV 8, trivial⟩ (by simp [ET, scOct, eB])
  | cons x r =>
    have hx := hb x (by simp)
    have w1 : IntKind.i64.wrap x = x := wrap64 (by omega)
    simp only [ac_96, renL, ren, TT, ↓reduceIte, Nat.reduceEqDiff, Nat.reduceAdd, Nat.reduceMul, reduceCtorEq, Nat.reduceLeDiff]
    have h := fun nb h => take_ok y fr (x :: r) 1 0 nb h (by simp)
    simp only [scRow, fB, List.length_cons, List.length_nil, List.drop_succ_cons, List.drop_zero, List.drop_nil, List.take_succ_cons, List.take_zero, Nat.zero_add] at h
    refine ⟨_, h _ (by decide), ?_⟩
    have g0 : (eB [x])[Int.toNat 0]? = some (.v (.int .u8 x)) := rfl
    have g1 : ((0 : Int) ≤ 0 ∧ (0 : Int) < ((1 : Nat) : Int)) = True := eq_true ⟨by decide, by decide⟩
    simp only [List.drop_succ_cons, g0, g1, w1, TT, ↓reduceIte, Nat.reduceEqDiff, Nat.reduceAdd, Nat.reduceMul, reduceCtorEq, Nat.reduceLeDiff]
    exact EndsR.data (r := .tup [.v (.int .i64 x), errV 0]) (.inr rfl) (by simp [ET, errV]) ⟨trivial, al_errV 0, trivial⟩ (by simp [ET, scOct, eB])
end Go.Proofs.YtdenddhdeloceaaGreatDoor
namespace Go.Proofs.YtdenddhdeloceaaGreatDoor
open Go.RowKit
set_option maxRecDepth 100000
theorem sc_and {x : Int} (h : 0 ≤ x ∧ x < 256) : IntKind.i64.wrap ((BitVec.ofInt IntKind.i64.bits x &&& BitVec.ofInt IntKind.i64.bits 127).toNat : Int) = ((x % 128).toNat : Int) := by
  have h1 : (BitVec.ofInt IntKind.i64.bits x &&& BitVec.ofInt IntKind.i64.bits 127).toNat = (x % 128).toNat := by
    show (BitVec.ofInt 64 x &&& BitVec.ofInt 64 127).toNat = _
    rw [BitVec.toNat_and, ofInt64, ofInt64]
    rw [show ((127 : Int) % 18446744073709551616).toNat = 127 from rfl, and127]
    omega
  rw [h1, wrap64 (by omega)]
theorem sc_shl {m k : Nat} (hm : m * 2 ^ (7 * k) < 2 ^ 64) (hk : k ≤ 9) : shVal .shl .u64 (m : Int) (7 * (k : Int)) = some (.int .u64 ((m * 2 ^ (7 * k) : Nat) : Int)) := by
  simp only [shVal, if_neg (show ¬ (7 * (k : Int) < 0) by omega)]
  have e1 : min (7 * (k : Int)).toNat IntKind.u64.bits = 7 * k := by
    show min (7 * (k : Int)).toNat 64 = 7 * k
    omega
  congr 2
  show IntKind.u64.wrap ((m : Int) * 2 ^ min (7 * (k : Int)).toNat IntKind.u64.bits) = _
  rw [e1, u64_mod]
  have e2 : ((m : Int) * 2 ^ (7 * k)) = ((m * 2 ^ (7 * k) : Nat) : Int) := by push_cast; rfl
  have e3 : (2 : Nat) ^ 64 = 18446744073709551616 := by decide
  rw [e2]
  omega
theorem sc_or {a m k : Nat} (ha : a < 2 ^ (7 * k)) (hs : a + m * 2 ^ (7 * k) < 2 ^ 64) : IntKind.u64.wrap ((BitVec.ofInt IntKind.u64.bits (a : Int) ||| BitVec.ofInt IntKind.u64.bits ((m * 2 ^ (7 * k) : Nat) : Int)).toNat : Int) = ((a + m * 2 ^ (7 * k) : Nat) : Int) := by
  have e3 : (2 : Nat) ^ 64 = 18446744073709551616 := by decide
  have h1 : (BitVec.ofInt IntKind.u64.bits (a : Int) ||| BitVec.ofInt IntKind.u64.bits ((m * 2 ^ (7 * k) : Nat) : Int)).toNat = a + m * 2 ^ (7 * k) := by
    show (BitVec.ofInt 64 (a : Int) ||| BitVec.ofInt 64 ((m * 2 ^ (7 * k) : Nat) : Int)).toNat = _
    rw [BitVec.toNat_or, ofInt64, ofInt64]
    rw [show ((a : Int) % 18446744073709551616).toNat = a from by omega, show (((m * 2 ^ (7 * k) : Nat) : Int) % 18446744073709551616).toNat = m * 2 ^ (7 * k) from by omega]
    rw [Nat.or_comm, ← Nat.shiftLeft_eq, ← Nat.shiftLeft_add_eq_or_of_lt ha, Nat.add_comm]
  rw [h1, u64_mod]; omega
abbrev L_sg (y fr : Bool) (q : Nat × Nat × List Int) : ASt := ⟨envOf [(0, .op 0 0), (4, .v (.int .u64 q.2.1)), (5, .v (.int .i64 (7 * (q.1 : Int))))], heapOf [(0, scRow y fr q.2.2)], 1⟩
set_option maxHeartbeats 4000000 in
theorem scgroups_spec (y fr : Bool) (l : List Int) (id nb : Nat) (hid : id < nb) (hb : okB l) :
    ASound Tryz.prog 115 [.op id 0] nb (rowM id (scRow y fr l) (.ret (.tup [.v (.int .u64 (scGrp 0 0 l).1), errV (scGrp 0 0 l).2.1]) [(id, some (scRow y fr (scGrp 0 0 l).2.2))])) := by
  refine ok_115.soundR (by simp) ⟨rfl, trivial⟩ (by simp) ⟨al_B l, trivial⟩ ⟨al_B _, trivial⟩ rfl hid ?_
  simp only [ac_115, renL, ren, TT, ↓reduceIte, Nat.reduceEqDiff, Nat.reduceAdd, Nat.reduceMul, reduceCtorEq, Nat.reduceLeDiff]
  refine AWc.family (L_sg y fr) (fun q => scGrp q.1 q.2.1 q.2.2 = scGrp 0 0 l ∧ q.2.1 < 2 ^ (7 * q.1) ∧ q.1 ≤ 9 ∧ okB q.2.2) (fun q => q.2.2.length) (0, 0, l) ⟨rfl, by simp, by simp, hb⟩ ?_ ?_
  · refine Weak.calc [(0, 0)] (by decide) ?_ ?_ <;> simp [WT]
  · rintro ⟨k, a, s⟩ ⟨he, ha, hk, hs⟩
    simp only at he ha hk hs
    rw [← he]
    cases s with
    | nil =>
      have h := fun nb h => octet_spec y fr [] 0 nb h hs
      simp only [scRow, scOct, fB, List.length_cons, List.length_nil] at h
      simp only [L_sg, scRow, TT, ↓reduceIte, Nat.reduceEqDiff, Nat.reduceAdd, Nat.reduceMul, reduceCtorEq, Nat.reduceLeDiff]
      refine ⟨_, h _ (by omega), ?_⟩
      simp only [errV_ne (show (8 : Int) ≠ 0 by decide), TT, ↓reduceIte, Nat.reduceEqDiff, Nat.reduceAdd, Nat.reduceMul, reduceCtorEq, Nat.reduceLeDiff]
      exact EndsR.data (r := .tup [.v (.int .u64 0), errV 8]) (.inr rfl) (by simp [ET, errV]) ⟨trivial, al_errV 8, trivial⟩ (by simp [ET, scGrp, eB])
    | cons x r =>
      have hx := hs x (by simp)
      have hr : okB r := fun z hz => hs z (by simp [hz])
      have h := fun nb h => octet_spec y fr (x :: r) 0 nb h hs
      simp only [scRow, scOct, fB, List.length_cons, List.length_nil] at h
      have e3 : (2 : Nat) ^ 64 = 18446744073709551616 := by decide
      have hm : (x % 128).toNat ≤ 127 := by omega
      have hp : 0 < 2 ^ (7 * k) := Nat.pow_pos (by decide)
      have sd : ∀ h3 : a + (x % 128).toNat * 2 ^ (7 * k) < 2 ^ 64, (x % 128).toNat * 2 ^ (7 * k) < 2 ^ 64 := fun h3 => by omega
      have w7 : IntKind.i64.wrap (7 * (k : Int) + 7) = 7 * ((k + 1 : Nat) : Int) := by rw [wrap64 (by omega)]; omega
      have wu : IntKind.u64.wrap ((x % 128).toNat : Int) = ((x % 128).toNat : Int) := by rw [u64_mod]; omega
      by_cases hbad : (k = 9 ∧ 1 < x) ∨ (0 < k ∧ x = 0)
      · have hg : scGrp k a (x :: r) = (0, 4, r) := by rw [scGrp, if_pos hbad]
        rw [hg]
        by_cases k9 : k = 9
        · have f9 : (7 * (k : Int)) = 63 := by omega
          by_cases x1 : 1 < x
          · simp only [L_sg, scRow, TT, ↓reduceIte, Nat.reduceEqDiff, Nat.reduceAdd, Nat.reduceMul, reduceCtorEq, Nat.reduceLeDiff]
            refine ⟨_, h _ (by omega), ?_⟩
            simp only [errV_0, f9, x1, not_false_eq_true, TT, ↓reduceIte, Nat.reduceEqDiff, Nat.reduceAdd, Nat.reduceMul, reduceCtorEq, Nat.reduceLeDiff]
            exact EndsR.data (r := .tup [.v (.int .u64 0), errV 4]) (.inr rfl) (by simp [ET, errV]) ⟨trivial, al_errV 4, trivial⟩ (by simp [ET, eB])
          · have x0 : x = 0 := by omega
            subst x0
            have f0 : ((0 : Int) < 63) := by decide
            simp only [L_sg, scRow, TT, ↓reduceIte, Nat.reduceEqDiff, Nat.reduceAdd, Nat.reduceMul, reduceCtorEq, Nat.reduceLeDiff]
            refine ⟨_, h _ (by omega), ?_⟩
            simp only [errV_0, f9, x1, f0, not_false_eq_true, TT, ↓reduceIte, Nat.reduceEqDiff, Nat.reduceAdd, Nat.reduceMul, reduceCtorEq, Nat.reduceLeDiff]
            exact EndsR.data (r := .tup [.v (.int .u64 0), errV 4]) (.inr rfl) (by simp [ET, errV]) ⟨trivial, al_errV 4, trivial⟩ (by simp [ET, eB])
        · have f9 : ¬ (7 * (k : Int)) = 63 := by omega
          have x0 : x = 0 := by omega
          subst x0
          have f0 : ((0 : Int) < 7 * (k : Int)) := by omega
          simp only [L_sg, scRow, TT, ↓reduceIte, Nat.reduceEqDiff, Nat.reduceAdd, Nat.reduceMul, reduceCtorEq, Nat.reduceLeDiff]
          refine ⟨_, h _ (by omega), ?_⟩
          simp only [errV_0, f9, f0, not_false_eq_true, TT, ↓reduceIte, Nat.reduceEqDiff, Nat.reduceAdd, Nat.reduceMul, reduceCtorEq, Nat.reduceLeDiff]
          exact EndsR.data (r := .tup [.v (.int .u64 0), errV 4]) (.inr rfl) (by simp [ET, errV]) ⟨trivial, al_errV 4, trivial⟩ (by simp [ET, eB])
      · have hsum : a + (x % 128).toNat * 2 ^ (7 * k) < 2 ^ 64 := by
          by_cases k9 : k = 9
          · subst k9
            have h3 : (x % 128).toNat * 2 ^ (7 * 9) ≤ 1 * 2 ^ (7 * 9) := Nat.mul_le_mul_right _ (by omega)
            have e1 : (2 : Nat) ^ (7 * 9) = 9223372036854775808 := by decide
            rw [e1] at h3 ha ⊢; omega
          · have h3 : (x % 128).toNat * 2 ^ (7 * k) ≤ 127 * 2 ^ (7 * k) := Nat.mul_le_mul_right _ hm
            have h4 : 2 ^ (7 * k) ≤ 2 ^ 56 := Nat.pow_le_pow_right (by decide) (by omega)
            have e1 : (2 : Nat) ^ 56 = 72057594037927936 := by decide
            rw [e1] at h4; omega
        have ss := sc_shl (m := (x % 128).toNat) (sd hsum) hk
        have so := sc_or ha hsum
        have sa := sc_and hx
        by_cases k9 : k = 9
        · have f9 : (7 * (k : Int)) = 63 := by omega
          have x1 : ¬ 1 < x := by omega
          have x0 : ¬ x = 0 := by omega
          have f0 : ((0 : Int) < 63) := by decide
          have hlt : x < 128 := by omega
          have hg : scGrp k a (x :: r) = (a + (x % 128).toNat * 2 ^ (7 * k), 0, r) := by rw [scGrp, if_neg hbad, if_pos hlt]
          rw [hg]
          rw [f9] at ss
          simp only [L_sg, scRow, TT, ↓reduceIte, Nat.reduceEqDiff, Nat.reduceAdd, Nat.reduceMul, reduceCtorEq, Nat.reduceLeDiff]
          refine ⟨_, h _ (by omega), ?_⟩
          simp only [errV_0, f9, x1, x0, f0, hlt, sa, wu, ss, so, not_false_eq_true, TT, ↓reduceIte, Nat.reduceEqDiff, Nat.reduceAdd, Nat.reduceMul, reduceCtorEq, Nat.reduceLeDiff]
          exact EndsR.data (r := .tup [.v (.int .u64 (a + (x % 128).toNat * 2 ^ (7 * k) : Nat)), errV 0]) (.inr rfl) (by simp [ET, errV]) ⟨trivial, al_errV 0, trivial⟩ (by simp [ET, eB])
        · have f9 : ¬ (7 * (k : Int)) = 63 := by omega
          by_cases k0 : k = 0
          · have f0 : ¬ ((0 : Int) < 7 * (k : Int)) := by omega
            by_cases hlt : x < 128
            · have hg : scGrp k a (x :: r) = (a + (x % 128).toNat * 2 ^ (7 * k), 0, r) := by rw [scGrp, if_neg hbad, if_pos hlt]
              rw [hg]
              simp only [L_sg, scRow, TT, ↓reduceIte, Nat.reduceEqDiff, Nat.reduceAdd, Nat.reduceMul, reduceCtorEq, Nat.reduceLeDiff]
              refine ⟨_, h _ (by omega), ?_⟩
              simp only [errV_0, f9, f0, hlt, sa, wu, ss, so, not_false_eq_true, TT, ↓reduceIte, Nat.reduceEqDiff, Nat.reduceAdd, Nat.reduceMul, reduceCtorEq, Nat.reduceLeDiff]
              exact EndsR.data (r := .tup [.v (.int .u64 (a + (x % 128).toNat * 2 ^ (7 * k) : Nat)), errV 0]) (.inr rfl) (by simp [ET, errV]) ⟨trivial, al_errV 0, trivial⟩ (by simp [ET, eB])
            · have hg : scGrp k a (x :: r) = scGrp (k + 1) (a + (x % 128).toNat * 2 ^ (7 * k)) r := by rw [scGrp, if_neg hbad, if_neg hlt]
              have ha2 : a + (x % 128).toNat * 2 ^ (7 * k) < 2 ^ (7 * (k + 1)) := by
                have h3 : (x % 128).toNat * 2 ^ (7 * k) ≤ 127 * 2 ^ (7 * k) := Nat.mul_le_mul_right _ hm
                rw [show 7 * (k + 1) = 7 * k + 7 from by omega, Nat.pow_add]
                omega
              simp only [L_sg, scRow, TT, ↓reduceIte, Nat.reduceEqDiff, Nat.reduceAdd, Nat.reduceMul, reduceCtorEq, Nat.reduceLeDiff]
              refine ⟨_, h _ (by omega), ?_⟩
              simp only [errV_0, f9, f0, hlt, sa, wu, ss, so, w7, not_false_eq_true, TT, ↓reduceIte, Nat.reduceEqDiff, Nat.reduceAdd, Nat.reduceMul, reduceCtorEq, Nat.reduceLeDiff]
              refine famC_next (k + 1, a + (x % 128).toNat * 2 ^ (7 * k), r) (by simp) ⟨?_, ha2, by simp only; omega, hr⟩ ?_
              · simp only; rw [← hg, he]
              · refine Weak.calc [(0, 0)] (by decide) ?_ ?_ <;> simp [WT]
          · have f0 : ((0 : Int) < 7 * (k : Int)) := by omega
            have x0 : ¬ x = 0 := by omega
            by_cases hlt : x < 128
            · have hg : scGrp k a (x :: r) = (a + (x % 128).toNat * 2 ^ (7 * k), 0, r) := by rw [scGrp, if_neg hbad, if_pos hlt]
              rw [hg]
              simp only [L_sg, scRow, TT, ↓reduceIte, Nat.reduceEqDiff, Nat.reduceAdd, Nat.reduceMul, reduceCtorEq, Nat.reduceLeDiff]
              refine ⟨_, h _ (by omega), ?_⟩
              simp only [errV_0, f9, f0, x0, hlt, sa, wu, ss, so, not_false_eq_true, TT, ↓reduceIte, Nat.reduceEqDiff, Nat.reduceAdd, Nat.reduceMul, reduceCtorEq, Nat.reduceLeDiff]
              exact EndsR.data (r := .tup [.v (.int .u64 (a + (x % 128).toNat * 2 ^ (7 * k) : Nat)), errV 0]) (.inr rfl) (by simp [ET, errV]) ⟨trivial, al_errV 0, trivial⟩ (by simp [ET, eB])
            · have hg : scGrp k a (x :: r) = scGrp (k + 1) (a + (x % 128).toNat * 2 ^ (7 * k)) r := by rw [scGrp, if_neg hbad, if_neg hlt]
              have ha2 : a + (x % 128).toNat * 2 ^ (7 * k) < 2 ^ (7 * (k + 1)) := by
                have h3 : (x % 128).toNat * 2 ^ (7 * k) ≤ 127 * 2 ^ (7 * k) := Nat.mul_le_mul_right _ hm
                rw [show 7 * (k + 1) = 7 * k + 7 from by omega, Nat.pow_add]
                omega
              simp only [L_sg, scRow, TT, ↓reduceIte, Nat.reduceEqDiff, Nat.reduceAdd, Nat.reduceMul, reduceCtorEq, Nat.reduceLeDiff]
              refine ⟨_, h _ (by omega), ?_⟩
              simp only [errV_0, f9, f0, x0, hlt, sa, wu, ss, so, w7, not_false_eq_true, TT, ↓reduceIte, Nat.reduceEqDiff, Nat.reduceAdd, Nat.reduceMul, reduceCtorEq, Nat.reduceLeDiff]
              refine famC_next (k + 1, a + (x % 128).toNat * 2 ^ (7 * k), r) (by simp) ⟨?_, ha2, by simp only; omega, hr⟩ ?_
              · simp only; rw [← hg, he]
              · refine Weak.calc [(0, 0)] (by decide) ?_ ?_ <;> simp [WT]
end Go.Proofs.YtdenddhdeloceaaGreatDoor
namespace Go.Proofs.YtdenddhdeloceaaGreatDoor
open Go.RowKit
set_option maxRecDepth 100000
theorem count_spec (y fr : Bool) (l : List Int) (id nb : Nat) (hid : id < nb) (hb : okB l) :
    ASound Tryz.prog 114 [.op id 0, .v (.int .i64 64)] nb (rowM id (scRow y fr l) (.ret (.tup [.v (.int .i64 (scCnt l).1), errV (scCnt l).2.1]) [(id, some (scRow y fr (scCnt l).2.2))])) := by
  refine ok_114.soundR (by simp) ⟨rfl, trivial, trivial⟩ (by simp) ⟨al_B l, trivial⟩ ⟨al_B _, trivial⟩ rfl hid ?_
  have h := fun nb h => octet_spec y fr l 0 nb h hb
  simp only [scRow, fB] at h
  simp only [ac_114, renL, ren, scRow, TT, ↓reduceIte, Nat.reduceEqDiff, Nat.reduceAdd, Nat.reduceMul, reduceCtorEq, Nat.reduceLeDiff]
  refine ⟨_, h _ (by decide), ?_⟩
  cases l with
  | nil =>
    simp only [scOct, errV_ne (show (8 : Int) ≠ 0 by decide), TT, ↓reduceIte, Nat.reduceEqDiff, Nat.reduceAdd, Nat.reduceMul, reduceCtorEq, Nat.reduceLeDiff]
    exact EndsR.data (r := .tup [.v (.int .i64 0), errV 8]) (.inr rfl) (by simp [ET, errV]) ⟨trivial, al_errV 8, trivial⟩ (by simp [ET, scCnt, scOct, eB])
  | cons x r =>
    by_cases h6 : 64 < x
    · have hg : scCnt (x :: r) = (x, 3, r) := by simp [scCnt, scOct, h6]
      rw [hg]
      simp only [scOct, errV_0, h6, TT, ↓reduceIte, Nat.reduceEqDiff, Nat.reduceAdd, Nat.reduceMul, reduceCtorEq, Nat.reduceLeDiff]
      exact EndsR.data (r := .tup [.v (.int .i64 x), errV 3]) (.inr rfl) (by simp [ET, errV]) ⟨trivial, al_errV 3, trivial⟩ (by simp [ET, eB])
    · have hg : scCnt (x :: r) = (x, 0, r) := by simp [scCnt, scOct, h6]
      rw [hg]
      simp only [scOct, errV_0, h6, TT, ↓reduceIte, Nat.reduceEqDiff, Nat.reduceAdd, Nat.reduceMul, reduceCtorEq, Nat.reduceLeDiff]
      exact EndsR.data (r := .tup [.v (.int .i64 x), errV 0]) (.inr rfl) (by simp [ET, errV]) ⟨trivial, al_errV 0, trivial⟩ (by simp [ET, eB])
theorem okB_sc {l r : List Int} (hb : okB l) (h : ∃ n, r = l.drop n) : okB r := by obtain ⟨n, rfl⟩ := h; exact okB_drop hb n
theorem scText_err {l r : List Int} {m : Nat} {e : Int} (hq : scGrp 0 0 l = (m, e, r)) (he : e ≠ 0) : scText l = ([], e, r) := by simp [scText, hq, he]
theorem scText_long {l r : List Int} {m : Nat} (hq : scGrp 0 0 l = (m, 0, r)) (h : 4096 < m) : scText l = ([], 5, r) := by simp [scText, hq, h]
theorem scText_short {l r : List Int} {m : Nat} (hq : scGrp 0 0 l = (m, 0, r)) (h : ¬ 4096 < m) (h2 : r.length < m) : scText l = ([], 8, r) := by simp [scText, hq, h, h2]
theorem scText_ok {l r : List Int} {m : Nat} (hq : scGrp 0 0 l = (m, 0, r)) (h : ¬ 4096 < m) (h2 : ¬ r.length < m) : scText l = (r.take m, 0, r.drop m) := by simp [scText, hq, h, h2]
theorem sctext_spec (y fr : Bool) (l : List Int) (id nb : Nat) (hid : id < nb) (hb : okB l) :
    ASound Tryz.prog 116 [.op id 0] nb (rowM id (scRow y fr l) (.ret (.tup [fB true (scText l).1, errV (scText l).2.1]) [(id, some (scRow y fr (scText l).2.2))])) := by
  refine ok_116.soundR (by simp) ⟨rfl, trivial⟩ (by simp) ⟨al_B l, trivial⟩ ⟨al_B _, trivial⟩ rfl hid ?_
  have h := fun nb h => scgroups_spec y fr l 0 nb h hb
  rcases hq : scGrp 0 0 l with ⟨m, e, r⟩
  rw [hq] at h
  simp only [scRow, fB] at h
  simp only [ac_116, renL, ren, scRow, TT, ↓reduceIte, Nat.reduceEqDiff, Nat.reduceAdd, Nat.reduceMul, reduceCtorEq, Nat.reduceLeDiff]
  refine ⟨_, h _ (by decide), ?_⟩
  by_cases he : e = 0
  · subst he
    by_cases h4 : 4096 < m
    · have f4 : (4096 : Int) < (m : Int) := by omega
      rw [scText_long hq h4]
      simp only [errV_0, f4, TT, ↓reduceIte, Nat.reduceEqDiff, Nat.reduceAdd, Nat.reduceMul, reduceCtorEq, Nat.reduceLeDiff]
      exact EndsR.imp (r0 := .tup [.v (.slice none 0 0), errV 5]) (.inr rfl) (by simp [ET, errV]) ⟨trivial, al_errV 5, trivial⟩ (Imp.tupL ⟨Imp.nil true, Imp.refl _, trivial⟩) (by simp [ET])
    · have f4 : ¬ (4096 : Int) < (m : Int) := by omega
      have w1 : IntKind.i64.wrap (m : Int) = m := wrap64 (by omega)
      simp only [errV_0, f4, w1, TT, ↓reduceIte, Nat.reduceEqDiff, Nat.reduceAdd, Nat.reduceMul, reduceCtorEq, Nat.reduceLeDiff]
      by_cases hl : r.length < m
      · rw [scText_short hq h4 hl]
        have k := fun nb h => take_short y fr r m 0 nb h hl
        simp only [scRow, fB] at k
        refine ⟨_, k _ (by omega), ?_⟩
        simp only [TT, ↓reduceIte, Nat.reduceEqDiff, Nat.reduceAdd, Nat.reduceMul, reduceCtorEq, Nat.reduceLeDiff]
        refine ⟨_, bytesClone_spec true [] _ (by simp), ?_⟩
        simp only [TT, ↓reduceIte, Nat.reduceEqDiff, Nat.reduceAdd, Nat.reduceMul, reduceCtorEq, Nat.reduceLeDiff]
        exact EndsR.data (r := .tup [fB true [], errV 8]) (.inr rfl) (by simp [ET, fB]) ⟨al_B _, al_errV 8, trivial⟩ (by simp [ET])
      · rw [scText_ok hq h4 hl]
        have k := fun nb h => take_ok y fr r m 0 nb h (by omega)
        simp only [scRow, fB] at k
        refine ⟨_, k _ (by omega), ?_⟩
        simp only [TT, ↓reduceIte, Nat.reduceEqDiff, Nat.reduceAdd, Nat.reduceMul, reduceCtorEq, Nat.reduceLeDiff]
        refine ⟨_, bytesClone_spec fr (r.take m) _ (by rw [List.length_take]; omega), ?_⟩
        simp only [TT, ↓reduceIte, Nat.reduceEqDiff, Nat.reduceAdd, Nat.reduceMul, reduceCtorEq, Nat.reduceLeDiff]
        exact EndsR.data (r := .tup [fB true (r.take m), errV 0]) (.inr rfl) (by simp [ET, errV, fB]) ⟨al_B _, al_errV 0, trivial⟩ (by simp [ET])
  · rw [scText_err hq he]
    simp only [errV_ne he, TT, ↓reduceIte, Nat.reduceEqDiff, Nat.reduceAdd, Nat.reduceMul, reduceCtorEq, Nat.reduceLeDiff]
    exact EndsR.imp (r0 := .tup [.v (.slice none 0 0), errV e]) (.inr rfl) (by simp [ET, errV, he]) ⟨trivial, al_errV e, trivial⟩ (Imp.tupL ⟨Imp.nil true, by rw [errV_ne he]; exact Imp.refl _, trivial⟩) (by simp [ET])
end Go.Proofs.YtdenddhdeloceaaGreatDoor
namespace Go.Proofs.YtdenddhdeloceaaGreatDoor
open Go.RowKit
set_option maxRecDepth 100000
theorem ren_errV {ρ : Nat → Nat} (e : Int) : ren ρ (errV e) = errV e := by
  unfold errV; split <;> simp [ren, renL]
theorem many_go {α : Type} {f : List Int → α × Int × List Int} {N i : Nat} {rest : List Int} {out : List α} {R : List α × Int × List Int} (hR : R = (out ++ (scMany f (N - i) rest).1, (scMany f (N - i) rest).2)) (hi : i < N) (h0 : (f rest).2.1 = 0) :
    R = ((out ++ [(f rest).1]) ++ (scMany f (N - (i + 1)) (f rest).2.2).1, (scMany f (N - (i + 1)) (f rest).2.2).2) := by
  rw [hR, show N - i = (N - (i + 1)) + 1 from by omega, scMany, if_neg (by rw [h0]; simp)]
  simp
theorem many_stop {α : Type} {f : List Int → α × Int × List Int} {N i : Nat} {rest : List Int} {out : List α} {R : List α × Int × List Int} (hR : R = (out ++ (scMany f (N - i) rest).1, (scMany f (N - i) rest).2)) (hi : i < N) (h0 : (f rest).2.1 ≠ 0) :
    R = (out ++ [(f rest).1], (f rest).2.1, (f rest).2.2) := by
  rw [hR, show N - i = (N - (i + 1)) + 1 from by omega, scMany, if_pos h0]
theorem many_end {α : Type} {f : List Int → α × Int × List Int} {N : Nat} {rest : List Int} {out : List α} {R : List α × Int × List Int} (hR : R = (out ++ (scMany f (N - N) rest).1, (scMany f (N - N) rest).2)) : R = (out, 0, rest) := by
  rw [hR, Nat.sub_self, scMany]; simp
structure manyI {α : Type} (f : List Int → α × Int × List Int) (N : Nat) (R : List α × Int × List Int) (i : Nat) (out : List α) (e : Int) (rest : List Int) : Prop where
  len : out.length ≤ i
  le : i ≤ 64
  ok : okB rest
  st : (e = 0 ∧ N ≤ 64 ∧ i ≤ N ∧ R = (out ++ (scMany f (N - i) rest).1, (scMany f (N - i) rest).2)) ∨ (e ≠ 0 ∧ R = (out, e, rest))
theorem manyI.start {α : Type} (f : List Int → α × Int × List Int) (l : List Int) (hb : okB l) : manyI f (scCnt l).1.toNat (scList f l) 0 [] (scCnt l).2.1 (scCnt l).2.2 := by
  refine ⟨by simp, by omega, by rw [scCnt_rest]; exact okB_drop hb 1, ?_⟩
  unfold scList
  by_cases h : (scCnt l).2.1 = 0
  · left
    refine ⟨h, ?_, Nat.zero_le _, ?_⟩
    · unfold scCnt at h ⊢
      simp only at h ⊢
      split at h
      · simp at h
      · rename_i h2; rw [h] at h2; omega
    · rw [if_neg (by rw [h]; simp)]; simp
  · right
    exact ⟨h, by rw [if_pos h]⟩
theorem manyI.step {α : Type} {f : List Int → α × Int × List Int} {N : Nat} {R : List α × Int × List Int} {i : Nat} {out : List α} {rest : List Int} (h : manyI f N R i out 0 rest) (hi : i < N) (hf : ∃ n, (f rest).2.2 = rest.drop n) : manyI f N R (i + 1) (out ++ [(f rest).1]) (f rest).2.1 (f rest).2.2 := by
  rcases h.st with ⟨_, hN, hle, hR⟩ | ⟨h0, _⟩
  · refine ⟨?_, ?_, ?_, ?_⟩
    · rw [List.length_append, List.length_cons, List.length_nil]; have := h.len; omega
    · omega
    · exact okB_sc h.ok hf
    · by_cases h0 : (f rest).2.1 = 0
      · exact .inl ⟨h0, hN, by omega, many_go hR hi h0⟩
      · exact .inr ⟨h0, many_stop hR hi h0⟩
  · exact absurd rfl h0
theorem cnt_nn {l : List Int} (hb : okB l) : ((scCnt l).1.toNat : Int) = (scCnt l).1 := by
  cases l with
  | nil => rfl
  | cons x r => have := hb x (by simp); show (x.toNat : Int) = x; omega
theorem sh1 (m : Nat) : shVal .shr .u64 (m : Int) 1 = some (.int .u64 ((m / 2 : Nat) : Int)) := by
  have h : Int.fdiv (m : Int) (2 ^ min (Int.toNat 1) IntKind.u64.bits) = ((m / 2 : Nat) : Int) := by
    show Int.fdiv (m : Int) 2 = _
    rw [Int.fdiv_eq_ediv_of_nonneg _ (by decide)]
    omega
  simp only [shVal, if_neg (show ¬ ((1 : Int) < 0) by decide), h]
theorem and_1 {m : Nat} (h : m < 2 ^ 64) : IntKind.u64.wrap ((BitVec.ofInt IntKind.u64.bits (m : Int) &&& BitVec.ofInt IntKind.u64.bits 1).toNat : Int) = ((m % 2 : Nat) : Int) := by
  have e3 : (2 : Nat) ^ 64 = 18446744073709551616 := by decide
  have h1 : (BitVec.ofInt IntKind.u64.bits (m : Int) &&& BitVec.ofInt IntKind.u64.bits 1).toNat = m % 2 := by
    show (BitVec.ofInt 64 (m : Int) &&& BitVec.ofInt 64 1).toNat = _
    rw [BitVec.toNat_and, ofInt64, ofInt64, show ((1 : Int) % 18446744073709551616).toNat = 1 from rfl, show ((m : Int) % 18446744073709551616).toNat = m from by omega]
    exact Nat.and_two_pow_sub_one_eq_mod m 1
  rw [h1, u64_mod]; omega
theorem xor_unzz {m : Nat} (h : m < 2 ^ 64) : IntKind.i64.wrap ((BitVec.ofInt IntKind.i64.bits ((m / 2 : Nat) : Int) ^^^ BitVec.ofInt IntKind.i64.bits (-((m % 2 : Nat) : Int))).toNat : Int) = unzz m := by
  have e3 : (2 : Nat) ^ 64 = 18446744073709551616 := by decide
  show IntKind.i64.wrap ((BitVec.ofInt 64 ((m / 2 : Nat) : Int) ^^^ BitVec.ofInt 64 (-((m % 2 : Nat) : Int))).toNat : Int) = _
  unfold unzz
  by_cases h0 : m % 2 = 0
  · rw [h0, if_pos rfl, show BitVec.ofInt 64 (-((0 : Nat) : Int)) = 0#64 from by decide, BitVec.xor_zero, ofInt64, IntKind.wrap_i64]
    omega
  · have h1 : m % 2 = 1 := by omega
    rw [h1, if_neg (by decide), show BitVec.ofInt 64 (-((1 : Nat) : Int)) = BitVec.allOnes 64 from by decide, BitVec.xor_allOnes, BitVec.toNat_not, ofInt64, IntKind.wrap_i64]
    omega
structure Sm (α : Type) where
  i : Nat
  out : List α
  e : Int
  rest : List Int
abbrev L_sn (y fr : Bool) (N : Nat) (q : Sm Int) : ASt := ⟨envOf [(0, .op 0 0), (4, .v (.int .i64 N)), (5, errV q.e), (6, .os 1 0 q.out.length 1), (7, .v (.int .i64 q.i))], heapOf [(0, scRow y fr q.rest), (1, .row true 3 (eI q.out))], 2⟩
theorem scNum_rest (l : List Int) : ∃ n, (scNum l).2.2 = l.drop n := scGrp_rest l 0 0
set_option maxHeartbeats 2000000 in
theorem scnums_spec (y fr : Bool) (l : List Int) (id nb : Nat) (hid : id < nb) (hb : okB l) :
    ASound Tryz.prog 97 [.op id 0] nb (rowM id (scRow y fr l) (.ret (.tup [fI true (scNums l).1, errV (scNums l).2.1]) [(id, some (scRow y fr (scNums l).2.2))])) := by
  refine ok_97.soundR (by simp) ⟨rfl, trivial⟩ (by simp) ⟨al_B l, trivial⟩ ⟨al_B _, trivial⟩ rfl hid ?_
  have h := fun nb h => count_spec y fr l 0 nb h hb
  have hI := manyI.start scNum l hb
  rw [← cnt_nn hb] at h
  simp only [scNums]
  generalize (scCnt l).1.toNat = N at h hI
  generalize scList scNum l = R at hI ⊢
  generalize (scCnt l).2.1 = e0 at h hI
  generalize (scCnt l).2.2 = r0 at h hI
  simp only [scRow, fB] at h
  simp only [ac_97, renL, ren, scRow, TT, ↓reduceIte, Nat.reduceEqDiff, Nat.reduceAdd, Nat.reduceMul, reduceCtorEq, Nat.reduceLeDiff]
  refine ⟨_, h _ (by decide), ?_⟩
  simp only [TT, ↓reduceIte, Nat.reduceEqDiff, Nat.reduceAdd, Nat.reduceMul, reduceCtorEq, Nat.reduceLeDiff]
  refine AWc.family (L_sn y fr N) (fun q => manyI scNum N R q.i q.out q.e q.rest) (fun q => 64 - q.i) ⟨0, [], e0, r0⟩ hI ?_ ?_
  · refine Weak.trans (Weak.virtC 3 1 (l := [(0, .op 0 0), (4, .v (.int .i64 N)), (5, errV e0), (6, .os 1100001 0 0 1), (7, .v (.int .i64 0))]) (h := [(0, scRow y fr r0)]) ?_ ?_) (Weak.calc [(0, 0), (1100001, 1)] (by decide) ?_ ?_)
    all_goals simp [WT, al_errV, ren_errV, eI]
  · rintro ⟨i, out, e, rest⟩ hI
    simp only at hI
    by_cases he : e = 0
    · subst he
      by_cases hlt : i < N
      · have f1 : (i : Int) < (N : Int) := by omega
        have hb2 := hI.ok
        have hst := hI.step hlt (scNum_rest rest)
        have hl := hI.len
        have hN : N ≤ 64 := by
          rcases hI.st with ⟨_, h, _⟩ | ⟨h0, _⟩
          · exact h
          · exact absurd rfl h0
        have hm := scGrp_lt rest 0 0 hb2 (by decide) (by decide)
        have k := fun nb h => scgroups_spec y fr rest 0 nb h hb2
        unfold scNum at hst
        simp only at hst
        generalize scGrp 0 0 rest = q at hst hm k
        obtain ⟨m, e, r⟩ := q
        simp only at hst hm
        simp only [scRow, fB] at k
        have e3 : (2 : Nat) ^ 64 = 18446744073709551616 := by decide
        have w2 : IntKind.i64.wrap ((m / 2 : Nat) : Int) = ((m / 2 : Nat) : Int) := wrap64 (by omega)
        have w3 : IntKind.i64.wrap ((m % 2 : Nat) : Int) = ((m % 2 : Nat) : Int) := wrap64 (by omega)
        have w4 : IntKind.i64.wrap (0 - ((m % 2 : Nat) : Int)) = -((m % 2 : Nat) : Int) := by rw [wrap64 (by omega)]; omega
        simp only [L_sn, scRow, errV_0, f1, TT, ↓reduceIte, Nat.reduceEqDiff, Nat.reduceAdd, Nat.reduceMul, reduceCtorEq, Nat.reduceLeDiff]
        refine ⟨_, k _ (by omega), ?_⟩
        have hcs : eI out ++ [AV.v (.int .i64 (unzz m))] = eI (out ++ [unzz m]) := by rw [app_I]; rfl
        have hn : out.length + 1 = (out ++ [unzz m]).length := by simp
        simp only [len_I, sh1, and_1 hm, w2, w3, w4, xor_unzz hm, hcs, hn, TT, ↓reduceIte, Nat.reduceEqDiff, Nat.reduceAdd, Nat.reduceMul, reduceCtorEq, Nat.reduceLeDiff]
        rw [if_pos (by rw [← hn]; omega)]
        refine famC_next ⟨i + 1, out ++ [unzz m], e, r⟩ (show 64 - (i + 1) < 64 - i by omega) hst ?_
        refine Weak.calc [(0, 0), (2500002, 1)] (by decide) ?_ ?_ <;> simp [WT, al_errV, ren_errV, wrap64 (x := (i : Int) + 1) (by omega)]
      · have f1 : ¬ (i : Int) < (N : Int) := by omega
        have hR : R = (out, 0, rest) := by
          rcases hI.st with ⟨_, hN, hle, hR⟩ | ⟨h0, _⟩
          · obtain rfl : i = N := by omega
            exact many_end hR
          · exact absurd rfl h0
        rw [hR]
        simp only [L_sn, scRow, errV_0, f1, TT, ↓reduceIte, Nat.reduceEqDiff, Nat.reduceAdd, Nat.reduceMul, reduceCtorEq, Nat.reduceLeDiff]
        refine EndsR.weak (Weak.freezeC 1 rfl (l := [(2, fI true out), (3, .v .nilIface)]) (h := [(0, scRow y fr rest)]) ?_ ?_) (EndsR.data (.inr rfl) (by simp [ET, fI]) ⟨al_I _, trivial, trivial⟩ (by simp [ET, fB]))
        · simp [WT]
        · simp [WT]
    · have hR : R = (out, e, rest) := by
        rcases hI.st with ⟨h0, _⟩ | ⟨_, hR⟩
        · exact absurd h0 he
        · exact hR
      rw [hR]
      simp only [L_sn, scRow, errV_ne he, TT, ↓reduceIte, Nat.reduceEqDiff, Nat.reduceAdd, Nat.reduceMul, reduceCtorEq, Nat.reduceLeDiff]
      refine EndsR.weak (Weak.freezeC 1 rfl (l := [(2, fI true out), (3, errV e)]) (h := [(0, scRow y fr rest)]) ?_ ?_) (EndsR.data (.inr rfl) (by simp [ET, fI, errV_ne he]) ⟨al_I _, ⟨trivial, trivial⟩, trivial⟩ (by simp [ET, fB]))
      · simp [WT, errV_ne he]
      · simp [WT]
end Go.Proofs.YtdenddhdeloceaaGreatDoor
namespace Go.Proofs.YtdenddhdeloceaaGreatDoor
open Go.RowKit
set_option maxRecDepth 100000
abbrev L_st (y fr : Bool) (N : Nat) (q : Sm (List Int)) : ASt := ⟨envOf [(0, .op 0 0), (4, .v (.int .i64 N)), (5, errV q.e), (6, .os 1 0 q.out.length 1), (7, .v (.int .i64 q.i))], heapOf [(0, scRow y fr q.rest), (1, .row true 22 (eL true q.out))], 2⟩
set_option maxHeartbeats 2000000 in
theorem sctexts_spec (y fr : Bool) (l : List Int) (id nb : Nat) (hid : id < nb) (hb : okB l) :
    ASound Tryz.prog 98 [.op id 0] nb (rowM id (scRow y fr l) (.ret (.tup [fL true (scTexts l).1, errV (scTexts l).2.1]) [(id, some (scRow y fr (scTexts l).2.2))])) := by
  refine ok_98.soundR (by simp) ⟨rfl, trivial⟩ (by simp) ⟨al_B l, trivial⟩ ⟨al_B _, trivial⟩ rfl hid ?_
  have h := fun nb h => count_spec y fr l 0 nb h hb
  have hI := manyI.start scText l hb
  rw [← cnt_nn hb] at h
  simp only [scTexts]
  generalize (scCnt l).1.toNat = N at h hI
  generalize scList scText l = R at hI ⊢
  generalize (scCnt l).2.1 = e0 at h hI
  generalize (scCnt l).2.2 = r0 at h hI
  simp only [scRow, fB] at h
  simp only [ac_98, renL, ren, scRow, TT, ↓reduceIte, Nat.reduceEqDiff, Nat.reduceAdd, Nat.reduceMul, reduceCtorEq, Nat.reduceLeDiff]
  refine ⟨_, h _ (by decide), ?_⟩
  simp only [TT, ↓reduceIte, Nat.reduceEqDiff, Nat.reduceAdd, Nat.reduceMul, reduceCtorEq, Nat.reduceLeDiff]
  refine AWc.family (L_st y fr N) (fun q => manyI scText N R q.i q.out q.e q.rest) (fun q => 64 - q.i) ⟨0, [], e0, r0⟩ hI ?_ ?_
  · refine Weak.trans (Weak.virtC 22 1 (l := [(0, .op 0 0), (4, .v (.int .i64 N)), (5, errV e0), (6, .os 1100001 0 0 1), (7, .v (.int .i64 0))]) (h := [(0, scRow y fr r0)]) ?_ ?_) (Weak.calc [(0, 0), (1100001, 1)] (by decide) ?_ ?_)
    all_goals simp [WT, al_errV, ren_errV, eL]
  · rintro ⟨i, out, e, rest⟩ hI
    simp only at hI
    by_cases he : e = 0
    · subst he
      by_cases hlt : i < N
      · have f1 : (i : Int) < (N : Int) := by omega
        have hb2 := hI.ok
        have hst := hI.step hlt (scText_rest rest)
        have hl := hI.len
        have hN : N ≤ 64 := by
          rcases hI.st with ⟨_, h, _⟩ | ⟨h0, _⟩
          · exact h
          · exact absurd rfl h0
        have k := fun nb h => sctext_spec y fr rest 0 nb h hb2
        generalize scText rest = q at hst k
        obtain ⟨m, e, r⟩ := q
        simp only at hst
        simp only [scRow, fB] at k
        simp only [L_st, scRow, errV_0, f1, TT, ↓reduceIte, Nat.reduceEqDiff, Nat.reduceAdd, Nat.reduceMul, reduceCtorEq, Nat.reduceLeDiff]
        refine ⟨_, k _ (by omega), ?_⟩
        have hcs : eL true out ++ [AV.fs true (eB m) m.length] = eL true (out ++ [m]) := by rw [app_L]; rfl
        have hn : out.length + 1 = (out ++ [m]).length := by simp
        simp only [len_L, hcs, hn, TT, ↓reduceIte, Nat.reduceEqDiff, Nat.reduceAdd, Nat.reduceMul, reduceCtorEq, Nat.reduceLeDiff]
        rw [if_pos (by rw [← hn]; omega)]
        refine famC_next ⟨i + 1, out ++ [m], e, r⟩ (show 64 - (i + 1) < 64 - i by omega) hst ?_
        refine Weak.calc [(0, 0), (1800002, 1)] (by decide) ?_ ?_ <;> simp [WT, al_errV, ren_errV, wrap64 (x := (i : Int) + 1) (by omega)]
      · have f1 : ¬ (i : Int) < (N : Int) := by omega
        have hR : R = (out, 0, rest) := by
          rcases hI.st with ⟨_, hN, hle, hR⟩ | ⟨h0, _⟩
          · obtain rfl : i = N := by omega
            exact many_end hR
          · exact absurd rfl h0
        rw [hR]
        simp only [L_st, scRow, errV_0, f1, TT, ↓reduceIte, Nat.reduceEqDiff, Nat.reduceAdd, Nat.reduceMul, reduceCtorEq, Nat.reduceLeDiff]
        refine EndsR.weak (Weak.freezeC 1 rfl (l := [(2, fL true out), (3, .v .nilIface)]) (h := [(0, scRow y fr rest)]) ?_ ?_) (EndsR.data (.inr rfl) (by simp [ET, fL]) ⟨al_L _, trivial, trivial⟩ (by simp [ET, fB]))
        · simp [WT]
        · simp [WT]
    · have hR : R = (out, e, rest) := by
        rcases hI.st with ⟨h0, _⟩ | ⟨_, hR⟩
        · exact absurd h0 he
        · exact hR
      rw [hR]
      simp only [L_st, scRow, errV_ne he, TT, ↓reduceIte, Nat.reduceEqDiff, Nat.reduceAdd, Nat.reduceMul, reduceCtorEq, Nat.reduceLeDiff]
      refine EndsR.weak (Weak.freezeC 1 rfl (l := [(2, fL true out), (3, errV e)]) (h := [(0, scRow y fr rest)]) ?_ ?_) (EndsR.data (.inr rfl) (by simp [ET, fL, errV_ne he]) ⟨al_L _, ⟨trivial, trivial⟩, trivial⟩ (by simp [ET, fB]))
      · simp [WT, errV_ne he]
      · simp [WT]
end Go.Proofs.YtdenddhdeloceaaGreatDoor
namespace Go.Proofs.YtdenddhdeloceaaGreatDoor
open Go.RowKit
set_option maxRecDepth 100000
def scRecR (l : List Int) : List Int :=
  if (scOct l).2.1 ≠ 0 then (scOct l).2.2 else if (scNums (scOct l).2.2).2.1 ≠ 0 then (scNums (scOct l).2.2).2.2 else (scTexts (scNums (scOct l).2.2).2.2).2.2
def anyR : AV := .agg [.any, .any, .any]
def recV (x : Rec × Int) : AV := if x.2 = 0 then aRec true x.1 else anyR
theorem recV_0 {r : Rec} : recV (r, 0) = aRec true r := rfl
theorem recV_ne {x : Rec × Int} (h : x.2 ≠ 0) : recV x = anyR := if_neg h
theorem imp_recE {a b c : AV} (e : Int) : Imp (.tup [.agg [a, b, c], errV e]) (.tup [anyR, errV e]) := Imp.tupL ⟨Imp.aggL ⟨Imp.any _, Imp.any _, Imp.any _, trivial⟩, Imp.refl _, trivial⟩
set_option maxHeartbeats 2000000 in
theorem record_spec (y fr : Bool) (l : List Int) (id nb : Nat) (hid : id < nb) (hb : okB l) :
    ASound Tryz.prog 66 [.op id 0] nb (rowM id (scRow y fr l) (.ret (.tup [recV (scRec l), errV (scRec l).2]) [(id, some (scRow y fr (scRecR l)))])) := by
  refine ok_66.soundR (by simp) ⟨rfl, trivial⟩ (by simp) ⟨al_B l, trivial⟩ ⟨al_B _, trivial⟩ rfl hid ?_
  have h1 := fun nb h => octet_spec y fr l 0 nb h hb
  have hb1 : okB (scOct l).2.2 := okB_sc hb ⟨1, scOct_rest l⟩
  rcases hk : scOct l with ⟨k, ek, r1⟩
  rw [hk] at h1 hb1
  simp only at hb1
  have h2 := fun nb h => scnums_spec y fr r1 0 nb h hb1
  have hb2 : okB (scNums r1).2.2 := okB_sc hb1 (scList_rest scNum_rest r1)
  rcases hn : scNums r1 with ⟨ns, en, r2⟩
  rw [hn] at h2 hb2
  simp only at hb2
  have h3 := fun nb h => sctexts_spec y fr r2 0 nb h hb2
  rcases ht : scTexts r2 with ⟨ts, et, r3⟩
  rw [ht] at h3
  simp only [scRow, fB, fI, fL] at h1 h2 h3
  simp only [ac_66, renL, ren, scRow, TT, ↓reduceIte, Nat.reduceEqDiff, Nat.reduceAdd, Nat.reduceMul, reduceCtorEq, Nat.reduceLeDiff]
  refine ⟨_, h1 _ (by decide), ?_⟩
  by_cases e1 : ek = 0
  · subst e1
    simp only [errV_0, TT, ↓reduceIte, Nat.reduceEqDiff, Nat.reduceAdd, Nat.reduceMul, reduceCtorEq, Nat.reduceLeDiff]
    refine ⟨_, h2 _ (by omega), ?_⟩
    by_cases e2 : en = 0
    · subst e2
      simp only [errV_0, TT, ↓reduceIte, Nat.reduceEqDiff, Nat.reduceAdd, Nat.reduceMul, reduceCtorEq, Nat.reduceLeDiff]
      refine ⟨_, h3 _ (by omega), ?_⟩
      by_cases e3 : et = 0
      · subst e3
        simp only [errV_0, TT, ↓reduceIte, Nat.reduceEqDiff, Nat.reduceAdd, Nat.reduceMul, reduceCtorEq, Nat.reduceLeDiff]
        have hR : scRecR l = r3 := by simp [scRecR, hk, hn, ht]
        by_cases e4 : 0 < r3.length
        · have f4 : (0 : Int) < (r3.length : Int) := by omega
          have hv : scRec l = (rec0, 23) := by simp [scRec, hk, hn, ht, e4]
          rw [hv, hR]
          simp only [f4, TT, ↓reduceIte, Nat.reduceEqDiff, Nat.reduceAdd, Nat.reduceMul, reduceCtorEq, Nat.reduceLeDiff]
          rw [recV_ne (show (rec0, 23).2 ≠ 0 from by decide)]
          exact EndsR.imp (r0 := .tup [.agg [.v (.int .i64 k), .fs true (eI ns) ns.length, .fs true (eL true ts) ts.length], errV 23]) (.inr rfl) (by simp [ET, errV]) ⟨⟨trivial, al_I _, al_L _, trivial⟩, al_errV _, trivial⟩ (imp_recE _) (by simp [ET])
        · have f4 : ¬ (0 : Int) < (r3.length : Int) := by omega
          have hv : scRec l = (⟨k, ns, ts⟩, 0) := by simp [scRec, hk, hn, ht, e4]
          rw [hv, hR]
          simp only [f4, recV_0, TT, ↓reduceIte, Nat.reduceEqDiff, Nat.reduceAdd, Nat.reduceMul, reduceCtorEq, Nat.reduceLeDiff]
          exact EndsR.data (r := .tup [aRec true ⟨k, ns, ts⟩, errV 0]) (.inr rfl) (by simp [ET, errV, aRec, fI, fL]) ⟨al_aRec _, al_errV 0, trivial⟩ (by simp [ET])
      · have hR : scRecR l = r3 := by simp [scRecR, hk, hn, ht]
        have hv : scRec l = (rec0, et) := by simp [scRec, hk, hn, ht, e3]
        rw [hv, hR]
        simp only [errV_ne e3, TT, ↓reduceIte, Nat.reduceEqDiff, Nat.reduceAdd, Nat.reduceMul, reduceCtorEq, Nat.reduceLeDiff]
        rw [recV_ne (show (rec0, et).2 ≠ 0 from e3)]
        exact EndsR.imp (r0 := .tup [.agg [.v (.int .i64 k), .fs true (eI ns) ns.length, .fs true (eL true ts) ts.length], errV et]) (.inr rfl) (by simp [ET, errV, e3]) ⟨⟨trivial, al_I _, al_L _, trivial⟩, al_errV _, trivial⟩ (by rw [← errV_ne e3]; exact imp_recE _) (by simp [ET])
    · have hR : scRecR l = r2 := by simp [scRecR, hk, hn, e2]
      have hv : scRec l = (rec0, en) := by simp [scRec, hk, hn, e2]
      rw [hv, hR]
      simp only [errV_ne e2, TT, ↓reduceIte, Nat.reduceEqDiff, Nat.reduceAdd, Nat.reduceMul, reduceCtorEq, Nat.reduceLeDiff]
      rw [recV_ne (show (rec0, en).2 ≠ 0 from e2)]
      exact EndsR.imp (r0 := .tup [.agg [.v (.int .i64 k), .fs true (eI ns) ns.length, .v (.slice none 0 0)], errV en]) (.inr rfl) (by simp [ET, errV, e2]) ⟨⟨trivial, al_I _, trivial, trivial⟩, al_errV _, trivial⟩ (by rw [← errV_ne e2]; exact imp_recE _) (by simp [ET])
  · have hR : scRecR l = r1 := by simp [scRecR, hk, e1]
    have hv : scRec l = (rec0, ek) := by simp [scRec, hk, e1]
    rw [hv, hR]
    simp only [errV_ne e1, TT, ↓reduceIte, Nat.reduceEqDiff, Nat.reduceAdd, Nat.reduceMul, reduceCtorEq, Nat.reduceLeDiff]
    rw [recV_ne (show (rec0, ek).2 ≠ 0 from e1)]
    exact EndsR.imp (r0 := .tup [.agg [.v (.int .i64 k), .v (.slice none 0 0), .v (.slice none 0 0)], errV ek]) (.inr rfl) (by simp [ET, errV, e1]) ⟨⟨trivial, trivial, trivial, trivial⟩, al_errV _, trivial⟩ (by rw [← errV_ne e1]; exact imp_recE _) (by simp [ET])
end Go.Proofs.YtdenddhdeloceaaGreatDoor
