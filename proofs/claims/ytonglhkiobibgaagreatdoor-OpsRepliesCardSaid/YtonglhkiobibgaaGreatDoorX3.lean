/- Merged texts: NG, NH, KA, KB, U0, U1, U2, U3, T1, KC, U4, AP, U5, U6, U7, U8, U9, T2, UA, UB, AZ, BD, H0, RB, RD, AQ, AS, BI, KM, H1, H2, H3, G0, G1, KF, G2, G3, G4, G5, H4, H5, H6. -/
import Derived.Test.YtonglhkiobibgaaGreatDoorX1
import Derived.Test.YtonglhkiobibgaaGreatDoorProg
import Derived.Test.YtonglhkiobibgaaGreatDoorX2
import Derived.Test.YtonglhkiobibgaaGreatDoorRows
import Derived.LaidLaws
import Derived.LaidHandle
import Derived.LaidMore
import Derived.Lay
import Derived.SevenTiedAt
import Derived.Stop.Joined
import Derived.RangeFuncNested
import Derived.RangeFuncBound
import Derived.RangeFuncCalls
set_option linter.unusedSimpArgs false
set_option linter.unusedVariables false
namespace Go.Proofs.YtonglhkiobibgaaGreatDoor
set_option maxRecDepth 100000
def ac_237 : AC :=
(.seq (.reg false [⟨some 4, .mv (.const (.slice none 0 0)), none, [], []⟩] [0, 1])
(.seq (.seq (.reg false [⟨some 5, .mv (.tmp 1), none, [1], []⟩,
    ⟨some 6, .bin .lss (.tmp 5) (.const (.int .i64 (0))), none, [5], []⟩] [0, 1, 6])
(.cond (.tmp 6)
(.reg false [⟨some 7, .mkif 9 (.const (.string (ByteArray.mk #[99, 97, 110, 110, 111, 116, 32, 98, 101, 32, 110, 101, 103, 97, 116, 105, 118, 101]))), none, [], []⟩,
    ⟨none, .die , none, [7], []⟩] [0, 1])
.skip))
(.seq (.seq (.reg false [⟨some 8, .mv (.tmp 1), none, [1], []⟩,
    ⟨some 9, .mv (.tmp 0), none, [0], []⟩,
    ⟨some 10, .cap (.tmp 9), none, [9], []⟩,
    ⟨some 11, .mv (.tmp 0), none, [0], []⟩,
    ⟨some 12, .len false (.tmp 11), none, [11], []⟩,
    ⟨some 13, .bin .sub (.tmp 10) (.tmp 12), none, [10, 12], []⟩,
    ⟨some 14, .bin .sub (.tmp 8) (.tmp 13), none, [8, 13], []⟩,
    ⟨some 1, .mv (.tmp 14), none, [14], []⟩] [0, 1])
(.seq (.reg false [⟨some 15, .mv (.tmp 1), none, [1], []⟩,
    ⟨some 16, .bin .gtr (.tmp 15) (.const (.int .i64 (0))), none, [15], []⟩] [0, 1, 16])
(.cond (.tmp 16)
(.reg false [⟨some 17, .mv (.tmp 0), none, [0], []⟩,
    ⟨some 18, .mv (.tmp 0), none, [0], []⟩,
    ⟨some 19, .cap (.tmp 18), none, [18], []⟩,
    ⟨some 20, .slice 1 (.tmp 17) none (some (.tmp 19)), none, [17, 19], []⟩,
    ⟨some 21, .mv (.tmp 1), none, [1], []⟩,
    ⟨some 22, .appz 5 1 1 [(.int .u8 (0))] (.tmp 20) (.tmp 21), none, [20, 21], []⟩,
    ⟨some 23, .mv (.tmp 0), none, [0], []⟩,
    ⟨some 24, .len false (.tmp 23), none, [23], []⟩,
    ⟨some 25, .slice 1 (.tmp 22) none (some (.tmp 24)), none, [22, 24], []⟩,
    ⟨some 0, .mv (.tmp 25), none, [25], []⟩] [0])
.skip)))
(.seq (.reg false [⟨some 26, .mv (.tmp 0), none, [0], []⟩,
    ⟨some 4, .mv (.tmp 26), none, [26], []⟩] [4])
.ret))))
theorem ok_237 : FnOk Tryz.prog 237 27 ac_237 [.tmp 4] := ⟨Tryz.f237, Tryz.func237, by kernel_rfl, by kernel_rfl, by kernel_rfl, by kernel_rfl, by kernel_rfl⟩
def ac_238 : AC :=
(.seq (.reg false [⟨some 4, .mv (.const (.int .u32 (0))), none, [], []⟩] [0, 1])
(.seq (.reg false [⟨some 8, .call 275 [], none, [], []⟩,
    ⟨some 5, .new 399 [(.int .u32 (0)), (.int .u32 (0)), (.int .u32 (0)), (.int .u32 (0)), (.int .u32 (0)), (.int .u32 (0)), (.int .u32 (0)), (.int .u32 (0)), (.int .u32 (0)), (.int .u32 (0)), (.int .u32 (0)), (.int .u32 (0)), (.int .u32 (0)), (.int .u32 (0)), (.int .u32 (0)), (.int .u32 (0))], none, [], []⟩,
    ⟨none, .store 16 (.tmp 5) (.tmp 8), none, [5, 8], []⟩] [0, 1, 5])
(.seq (.reg false [⟨some 9, .mv (.tmp 0), none, [0], []⟩,
    ⟨some 10, .un .xor (.tmp 9), none, [9], []⟩,
    ⟨some 0, .mv (.tmp 10), none, [10], []⟩] [0, 1, 5])
(.seq (.seq (.reg false [⟨some 11, .mv (.tmp 1), none, [1], []⟩,
    ⟨some 12, .len false (.tmp 11), none, [11], []⟩,
    ⟨some 13, .mv (.const (.int .i64 (0))), none, [], []⟩] [0, 5, 11, 12, 13])
(.block 0 (.loop (.seq (.reg false [⟨some 14, .bin .lss (.tmp 13) (.tmp 12), none, [13, 12], []⟩] [0, 5, 11, 12, 13, 14])
(.seq (.cond (.tmp 14)
.skip
(.exit 0))
(.seq (.block 1 (.seq (.reg false [⟨some 15, .idx 1 (.tmp 11) (.tmp 13), none, [11, 13], []⟩,
    ⟨some 16, .load false 1 (.tmp 15), none, [15], []⟩,
    ⟨some 7, .mv (.tmp 16), none, [16], []⟩] [0, 5, 7, 11, 12, 13])
(.seq (.reg false [⟨some 17, .mv (.tmp 0), none, [0], []⟩,
    ⟨some 18, .mv (.tmp 7), none, [7], []⟩,
    ⟨some 19, .conv .u32 (.tmp 18), none, [18], []⟩,
    ⟨some 20, .bin .xor (.tmp 17) (.tmp 19), none, [17, 19], []⟩,
    ⟨some 0, .mv (.tmp 20), none, [20], []⟩] [0, 5, 11, 12, 13])
(.seq (.reg false [⟨some 21, .mv (.tmp 0), none, [0], []⟩,
    ⟨some 22, .bin .shr (.tmp 21) (.const (.int .u64 (4))), none, [21], []⟩,
    ⟨some 23, .mv (.tmp 0), none, [0], []⟩,
    ⟨some 24, .bin .and (.tmp 23) (.const (.int .u32 (15))), none, [23], []⟩,
    ⟨some 25, .aidx 1 16 (.tmp 5) (.tmp 24), none, [5, 24], []⟩,
    ⟨some 26, .load false 1 (.tmp 25), none, [25], []⟩,
    ⟨some 27, .bin .xor (.tmp 22) (.tmp 26), none, [22, 26], []⟩,
    ⟨some 0, .mv (.tmp 27), none, [27], []⟩] [0, 5, 11, 12, 13])
(.reg false [⟨some 28, .mv (.tmp 0), none, [0], []⟩,
    ⟨some 29, .bin .shr (.tmp 28) (.const (.int .u64 (4))), none, [28], []⟩,
    ⟨some 30, .mv (.tmp 0), none, [0], []⟩,
    ⟨some 31, .bin .and (.tmp 30) (.const (.int .u32 (15))), none, [30], []⟩,
    ⟨some 32, .aidx 1 16 (.tmp 5) (.tmp 31), none, [5, 31], []⟩,
    ⟨some 33, .load false 1 (.tmp 32), none, [32], []⟩,
    ⟨some 34, .bin .xor (.tmp 29) (.tmp 33), none, [29, 33], []⟩,
    ⟨some 0, .mv (.tmp 34), none, [34], []⟩] [0, 5, 11, 12, 13])))))
(.reg false [⟨some 35, .bin .add (.tmp 13) (.const (.int .i64 (1))), none, [13], []⟩,
    ⟨some 13, .mv (.tmp 35), none, [35], []⟩] [0, 5, 11, 12, 13])))))))
(.seq (.reg false [⟨some 36, .mv (.tmp 0), none, [0], []⟩,
    ⟨some 37, .un .xor (.tmp 36), none, [36], []⟩,
    ⟨some 4, .mv (.tmp 37), none, [37], []⟩] [4])
.ret)))))
theorem ok_238 : FnOk Tryz.prog 238 38 ac_238 [.tmp 4] := ⟨Tryz.f238, Tryz.func238, by kernel_rfl, by kernel_rfl, by kernel_rfl, by kernel_rfl, by kernel_rfl⟩
def ac_239 : AC :=
(.seq (.reg false [⟨some 4, .mv (.const (.int .u32 (0))), none, [], []⟩] [0, 1])
(.seq (.reg false [⟨some 7, .mv (.tmp 0), none, [0], []⟩,
    ⟨some 8, .un .xor (.tmp 7), none, [7], []⟩,
    ⟨some 0, .mv (.tmp 8), none, [8], []⟩] [0, 1])
(.seq (.seq (.reg false [⟨some 5, .mv (.const (.int .i64 (0))), none, [], []⟩] [0, 1, 5])
(.block 0 (.loop (.seq (.seq (.reg false [⟨some 9, .mv (.tmp 5), none, [5], []⟩,
    ⟨some 10, .mv (.tmp 1), none, [1], []⟩,
    ⟨some 11, .len false (.tmp 10), none, [10], []⟩,
    ⟨some 12, .bin .lss (.tmp 9) (.tmp 11), none, [9, 11], []⟩] [0, 1, 5, 12])
(.cond (.tmp 12)
.skip
(.exit 0)))
(.seq (.block 1 (.seq (.reg false [⟨some 15, .mv (.tmp 0), none, [0], []⟩,
    ⟨some 16, .mv (.tmp 1), none, [1], []⟩,
    ⟨some 17, .mv (.tmp 5), none, [5], []⟩,
    ⟨some 18, .idx 1 (.tmp 16) (.tmp 17), none, [16, 17], []⟩,
    ⟨some 19, .load false 1 (.tmp 18), none, [18], []⟩,
    ⟨some 20, .conv .u32 (.tmp 19), none, [19], []⟩,
    ⟨some 21, .bin .xor (.tmp 15) (.tmp 20), none, [15, 20], []⟩,
    ⟨some 0, .mv (.tmp 21), none, [21], []⟩] [0, 1, 5])
(.seq (.reg false [⟨some 6, .mv (.const (.int .i64 (0))), none, [], []⟩] [0, 1, 5, 6])
(.block 2 (.loop (.seq (.seq (.reg false [⟨some 22, .mv (.tmp 6), none, [6], []⟩,
    ⟨some 23, .bin .lss (.tmp 22) (.const (.int .i64 (8))), none, [22], []⟩] [0, 1, 5, 6, 23])
(.cond (.tmp 23)
.skip
(.exit 2)))
(.seq (.block 3 (.seq (.reg false [⟨some 26, .mv (.tmp 0), none, [0], []⟩,
    ⟨some 27, .bin .and (.tmp 26) (.const (.int .u32 (1))), none, [26], []⟩,
    ⟨some 28, .bin .eql (.tmp 27) (.const (.int .u32 (1))), none, [27], []⟩] [0, 1, 5, 6, 28])
(.cond (.tmp 28)
(.reg false [⟨some 29, .mv (.tmp 0), none, [0], []⟩,
    ⟨some 30, .bin .shr (.tmp 29) (.const (.int .u64 (1))), none, [29], []⟩,
    ⟨some 31, .bin .xor (.tmp 30) (.const (.int .u32 (3988292384))), none, [30], []⟩,
    ⟨some 0, .mv (.tmp 31), none, [31], []⟩] [0, 1, 5, 6])
(.reg false [⟨some 32, .mv (.tmp 0), none, [0], []⟩,
    ⟨some 33, .bin .shr (.tmp 32) (.const (.int .u64 (1))), none, [32], []⟩,
    ⟨some 0, .mv (.tmp 33), none, [33], []⟩] [0, 1, 5, 6]))))
(.reg false [⟨some 24, .mv (.tmp 6), none, [6], []⟩,
    ⟨some 25, .bin .add (.tmp 24) (.const (.int .i64 (1))), none, [24], []⟩,
    ⟨some 6, .mv (.tmp 25), none, [25], []⟩] [0, 1, 5, 6]))))))))
(.reg false [⟨some 13, .mv (.tmp 5), none, [5], []⟩,
    ⟨some 14, .bin .add (.tmp 13) (.const (.int .i64 (1))), none, [13], []⟩,
    ⟨some 5, .mv (.tmp 14), none, [14], []⟩] [0, 1, 5]))))))
(.seq (.reg false [⟨some 34, .mv (.tmp 0), none, [0], []⟩,
    ⟨some 35, .un .xor (.tmp 34), none, [34], []⟩,
    ⟨some 4, .mv (.tmp 35), none, [35], []⟩] [4])
.ret))))
theorem ok_239 : FnOk Tryz.prog 239 36 ac_239 [.tmp 4] := ⟨Tryz.f239, Tryz.func239, by kernel_rfl, by kernel_rfl, by kernel_rfl, by kernel_rfl, by kernel_rfl⟩
def ac_240 : AC :=
(.seq (.reg false [⟨some 4, .mv (.const (.slice none 0 0)), none, [], []⟩,
    ⟨some 5, .mv (.const .nilIface), none, [], []⟩] [0, 1])
(.seq (.seq (.reg false [⟨some 7, .mv (.tmp 0), none, [0], []⟩,
    ⟨some 8, .nilc (.tmp 7), none, [7], []⟩,
    ⟨some 9, .foff 0 (.tmp 8), none, [8], []⟩,
    ⟨some 10, .load false 1 (.tmp 9), none, [9], []⟩,
    ⟨some 11, .len false (.tmp 10), none, [10], []⟩,
    ⟨some 12, .mv (.tmp 1), none, [1], []⟩,
    ⟨some 13, .bin .lss (.tmp 11) (.tmp 12), none, [11, 12], []⟩] [0, 1, 13])
(.cond (.tmp 13)
(.seq (.reg false [⟨some 14, .build [(.int .i64 (0))] [(0, 1, (.const (.int .i64 (8))))], none, [], []⟩,
    ⟨some 15, .mkif 323 (.tmp 14), none, [14], []⟩,
    ⟨some 4, .mv (.const (.slice none 0 0)), none, [], []⟩,
    ⟨some 5, .mv (.tmp 15), none, [15], []⟩] [4, 5])
.ret)
.skip))
(.seq (.reg false [⟨some 16, .mv (.tmp 0), none, [0], []⟩,
    ⟨some 17, .nilc (.tmp 16), none, [16], []⟩,
    ⟨some 18, .foff 0 (.tmp 17), none, [17], []⟩,
    ⟨some 19, .load false 1 (.tmp 18), none, [18], []⟩,
    ⟨some 20, .mv (.tmp 1), none, [1], []⟩,
    ⟨some 21, .slice 1 (.tmp 19) none (some (.tmp 20)), none, [19, 20], []⟩,
    ⟨some 6, .mv (.tmp 21), none, [21], []⟩] [0, 1, 6])
(.seq (.reg false [⟨some 22, .mv (.tmp 0), none, [0], []⟩,
    ⟨some 23, .mv (.tmp 0), none, [0], []⟩,
    ⟨some 24, .nilc (.tmp 23), none, [23], []⟩,
    ⟨some 25, .foff 0 (.tmp 24), none, [24], []⟩,
    ⟨some 26, .load false 1 (.tmp 25), none, [25], []⟩,
    ⟨some 27, .mv (.tmp 1), none, [1], []⟩,
    ⟨some 28, .slice 1 (.tmp 26) (some (.tmp 27)) none, none, [26, 27], []⟩,
    ⟨some 29, .nilc (.tmp 22), none, [22], []⟩,
    ⟨some 30, .foff 0 (.tmp 29), none, [29], []⟩,
    ⟨none, .store 1 (.tmp 30) (.tmp 28), none, [30, 28], []⟩] [6])
(.seq (.reg false [⟨some 31, .mv (.tmp 6), none, [6], []⟩,
    ⟨some 4, .mv (.tmp 31), none, [31], []⟩,
    ⟨some 5, .mv (.const .nilIface), none, [], []⟩] [4, 5])
.ret)))))
theorem ok_240 : FnOk Tryz.prog 240 32 ac_240 [.tmp 4, .tmp 5] := ⟨Tryz.f240, Tryz.func240, by kernel_rfl, by kernel_rfl, by kernel_rfl, by kernel_rfl, by kernel_rfl⟩
def ac_241 : AC :=
(.seq (.reg false [⟨some 4, .mv (.const (.int .i64 (0))), none, [], []⟩,
    ⟨some 5, .mv (.const .nilIface), none, [], []⟩] [0, 1])
(.seq (.reg false [⟨some 9, .mv (.tmp 0), none, [0], []⟩,
    ⟨some 10, .call 211 [(.tmp 9)], none, [9], []⟩,
    ⟨some 8, .mv (.tmp 10), none, [10], []⟩,
    ⟨some 11, .ext 0 (.tmp 8), none, [8], []⟩,
    ⟨some 12, .ext 1 (.tmp 8), none, [8], []⟩,
    ⟨some 6, .mv (.tmp 11), none, [11], []⟩,
    ⟨some 7, .mv (.tmp 12), none, [12], []⟩] [1, 6, 7])
(.seq (.seq (.reg false [⟨some 13, .mv (.tmp 7), none, [7], []⟩,
    ⟨some 14, .isnil false .nilIface (.tmp 13), none, [13], []⟩,
    ⟨some 15, .mv (.tmp 14), none, [14], []⟩,
    ⟨some 16, .mv (.tmp 6), some (15, true), [6, 15], []⟩,
    ⟨some 17, .mv (.tmp 1), some (15, true), [1, 15], []⟩,
    ⟨some 18, .bin .gtr (.tmp 16) (.tmp 17), some (15, true), [16, 17, 15], []⟩,
    ⟨some 19, .pick (.tmp 15) (.tmp 18) (.const (.bool false)), none, [15, 18], []⟩] [6, 7, 19])
(.cond (.tmp 19)
(.reg false [⟨some 20, .build [(.int .i64 (0))] [(0, 1, (.const (.int .i64 (3))))], none, [], []⟩,
    ⟨some 21, .mkif 323 (.tmp 20), none, [20], []⟩,
    ⟨some 7, .mv (.tmp 21), none, [21], []⟩] [6, 7])
.skip))
(.seq (.reg false [⟨some 22, .mv (.tmp 6), none, [6], []⟩,
    ⟨some 23, .mv (.tmp 7), none, [7], []⟩,
    ⟨some 4, .mv (.tmp 22), none, [22], []⟩,
    ⟨some 5, .mv (.tmp 23), none, [23], []⟩] [4, 5])
.ret))))
theorem ok_241 : FnOk Tryz.prog 241 24 ac_241 [.tmp 4, .tmp 5] := ⟨Tryz.f241, Tryz.func241, by kernel_rfl, by kernel_rfl, by kernel_rfl, by kernel_rfl, by kernel_rfl⟩
def ac_242 : AC :=
(.seq (.reg false [⟨some 2, .mv (.const (.int .u64 (0))), none, [], []⟩,
    ⟨some 3, .mv (.const .nilIface), none, [], []⟩] [0])
(.seq (.reg false [⟨some 4, .mv (.const (.int .u64 (0))), none, [], []⟩] [0, 4])
(.seq (.reg false [⟨some 5, .mv (.const (.int .i64 (0))), none, [], []⟩] [0, 4, 5])
(.block 0 (.loop (.seq (.block 1 (.seq (.reg false [⟨some 11, .mv (.tmp 0), none, [0], []⟩,
    ⟨some 12, .call 211 [(.tmp 11)], none, [11], []⟩,
    ⟨some 10, .mv (.tmp 12), none, [12], []⟩,
    ⟨some 13, .ext 0 (.tmp 10), none, [10], []⟩,
    ⟨some 14, .ext 1 (.tmp 10), none, [10], []⟩,
    ⟨some 6, .mv (.tmp 13), none, [13], []⟩,
    ⟨some 7, .mv (.tmp 14), none, [14], []⟩] [0, 4, 5, 6, 7])
(.seq (.block 2 (.seq (.reg false [⟨some 16, .mv (.tmp 7), none, [7], []⟩,
    ⟨some 17, .isnil true .nilIface (.tmp 16), none, [16], []⟩,
    ⟨some 15, .mv (.tmp 17), none, [17], []⟩] [0, 4, 5, 6, 7, 15])
(.cond (.tmp 15)
(.seq (.reg false [⟨some 18, .mv (.tmp 7), none, [7], []⟩,
    ⟨some 2, .mv (.const (.int .u64 (0))), none, [], []⟩,
    ⟨some 3, .mv (.tmp 18), none, [18], []⟩] [2, 3])
.ret)
(.seq (.seq (.reg false [⟨some 20, .mv (.tmp 5), none, [5], []⟩,
    ⟨some 21, .bin .eql (.tmp 20) (.const (.int .i64 (63))), none, [20], []⟩,
    ⟨some 22, .mv (.tmp 21), none, [21], []⟩,
    ⟨some 23, .mv (.tmp 6), some (22, true), [6, 22], []⟩,
    ⟨some 24, .bin .gtr (.tmp 23) (.const (.int .i64 (1))), some (22, true), [23, 22], []⟩,
    ⟨some 25, .pick (.tmp 22) (.tmp 24) (.const (.bool false)), none, [22, 24], []⟩,
    ⟨some 19, .mv (.tmp 25), none, [25], []⟩] [0, 4, 5, 6, 19])
(.cond (.tmp 19)
.skip
(.reg false [⟨some 26, .mv (.tmp 5), none, [5], []⟩,
    ⟨some 27, .bin .gtr (.tmp 26) (.const (.int .i64 (0))), none, [26], []⟩,
    ⟨some 28, .mv (.tmp 27), none, [27], []⟩,
    ⟨some 29, .mv (.tmp 6), some (28, true), [6, 28], []⟩,
    ⟨some 30, .bin .eql (.tmp 29) (.const (.int .i64 (0))), some (28, true), [29, 28], []⟩,
    ⟨some 31, .pick (.tmp 28) (.tmp 30) (.const (.bool false)), none, [28, 30], []⟩,
    ⟨some 19, .mv (.tmp 31), none, [31], []⟩] [0, 4, 5, 6, 19])))
(.cond (.tmp 19)
(.seq (.reg false [⟨some 32, .build [(.int .i64 (0))] [(0, 1, (.const (.int .i64 (4))))], none, [], []⟩,
    ⟨some 33, .mkif 323 (.tmp 32), none, [32], []⟩,
    ⟨some 2, .mv (.const (.int .u64 (0))), none, [], []⟩,
    ⟨some 3, .mv (.tmp 33), none, [33], []⟩] [2, 3])
.ret)
.skip)))))
(.seq (.reg false [⟨some 34, .mv (.tmp 4), none, [4], []⟩,
    ⟨some 35, .mv (.tmp 6), none, [6], []⟩,
    ⟨some 36, .bin .and (.tmp 35) (.const (.int .i64 (127))), none, [35], []⟩,
    ⟨some 37, .conv .u64 (.tmp 36), none, [36], []⟩,
    ⟨some 38, .mv (.tmp 5), none, [5], []⟩,
    ⟨some 39, .bin .shl (.tmp 37) (.tmp 38), none, [37, 38], []⟩,
    ⟨some 40, .bin .or (.tmp 34) (.tmp 39), none, [34, 39], []⟩,
    ⟨some 4, .mv (.tmp 40), none, [40], []⟩] [0, 4, 5, 6])
(.seq (.reg false [⟨some 41, .mv (.tmp 6), none, [6], []⟩,
    ⟨some 42, .bin .lss (.tmp 41) (.const (.int .i64 (128))), none, [41], []⟩] [0, 4, 5, 42])
(.cond (.tmp 42)
(.seq (.reg false [⟨some 43, .mv (.tmp 4), none, [4], []⟩,
    ⟨some 2, .mv (.tmp 43), none, [43], []⟩,
    ⟨some 3, .mv (.const .nilIface), none, [], []⟩] [2, 3])
.ret)
.skip))))))
(.reg false [⟨some 8, .mv (.tmp 5), none, [5], []⟩,
    ⟨some 9, .bin .add (.tmp 8) (.const (.int .i64 (7))), none, [8], []⟩,
    ⟨some 5, .mv (.tmp 9), none, [9], []⟩] [0, 4, 5])))))))
theorem ok_242 : FnOk Tryz.prog 242 44 ac_242 [.tmp 2, .tmp 3] := ⟨Tryz.f242, Tryz.func242, by kernel_rfl, by kernel_rfl, by kernel_rfl, by kernel_rfl, by kernel_rfl⟩
def ac_243 : AC :=
(.seq (.reg false [⟨some 2, .mv (.const (.slice none 0 0)), none, [], []⟩,
    ⟨some 3, .mv (.const .nilIface), none, [], []⟩] [0])
(.seq (.reg false [⟨some 8, .mv (.tmp 0), none, [0], []⟩,
    ⟨some 9, .call 242 [(.tmp 8)], none, [8], []⟩,
    ⟨some 7, .mv (.tmp 9), none, [9], []⟩,
    ⟨some 10, .ext 0 (.tmp 7), none, [7], []⟩,
    ⟨some 11, .ext 1 (.tmp 7), none, [7], []⟩,
    ⟨some 4, .mv (.tmp 10), none, [10], []⟩,
    ⟨some 5, .mv (.tmp 11), none, [11], []⟩] [0, 4, 5])
(.seq (.seq (.reg false [⟨some 12, .mv (.tmp 5), none, [5], []⟩,
    ⟨some 13, .isnil true .nilIface (.tmp 12), none, [12], []⟩] [0, 4, 5, 13])
(.cond (.tmp 13)
(.seq (.reg false [⟨some 14, .mv (.tmp 5), none, [5], []⟩,
    ⟨some 2, .mv (.const (.slice none 0 0)), none, [], []⟩,
    ⟨some 3, .mv (.tmp 14), none, [14], []⟩] [2, 3])
.ret)
.skip))
(.seq (.seq (.reg false [⟨some 15, .mv (.tmp 4), none, [4], []⟩,
    ⟨some 16, .bin .gtr (.tmp 15) (.const (.int .u64 (4096))), none, [15], []⟩] [0, 4, 16])
(.cond (.tmp 16)
(.seq (.reg false [⟨some 17, .build [(.int .i64 (0))] [(0, 1, (.const (.int .i64 (5))))], none, [], []⟩,
    ⟨some 18, .mkif 323 (.tmp 17), none, [17], []⟩,
    ⟨some 2, .mv (.const (.slice none 0 0)), none, [], []⟩,
    ⟨some 3, .mv (.tmp 18), none, [18], []⟩] [2, 3])
.ret)
.skip))
(.seq (.reg false [⟨some 20, .mv (.tmp 0), none, [0], []⟩,
    ⟨some 21, .mv (.tmp 4), none, [4], []⟩,
    ⟨some 22, .conv .i64 (.tmp 21), none, [21], []⟩,
    ⟨some 23, .call 240 [(.tmp 20), (.tmp 22)], none, [20, 22], []⟩,
    ⟨some 19, .mv (.tmp 23), none, [23], []⟩,
    ⟨some 24, .ext 0 (.tmp 19), none, [19], []⟩,
    ⟨some 25, .ext 1 (.tmp 19), none, [19], []⟩,
    ⟨some 6, .mv (.tmp 24), none, [24], []⟩,
    ⟨some 5, .mv (.tmp 25), none, [25], []⟩] [5, 6])
(.seq (.reg false [⟨some 26, .mv (.tmp 6), none, [6], []⟩,
    ⟨some 27, .call 108 [(.tmp 26)], none, [26], []⟩,
    ⟨some 28, .mv (.tmp 5), none, [5], []⟩,
    ⟨some 2, .mv (.tmp 27), none, [27], []⟩,
    ⟨some 3, .mv (.tmp 28), none, [28], []⟩] [2, 3])
.ret))))))
theorem ok_243 : FnOk Tryz.prog 243 29 ac_243 [.tmp 2, .tmp 3] := ⟨Tryz.f243, Tryz.func243, by kernel_rfl, by kernel_rfl, by kernel_rfl, by kernel_rfl, by kernel_rfl⟩
def ac_248 : AC :=
(.seq (.reg false [⟨some 4, .mv (.const (.bool false)), none, [], []⟩] [0, 1])
(.seq (.reg false [⟨some 5, .mv (.tmp 0), none, [0], []⟩,
    ⟨some 6, .len true (.tmp 5), none, [5], []⟩,
    ⟨some 7, .mv (.tmp 1), none, [1], []⟩,
    ⟨some 8, .len true (.tmp 7), none, [7], []⟩,
    ⟨some 9, .bin .geq (.tmp 6) (.tmp 8), none, [6, 8], []⟩,
    ⟨some 10, .mv (.tmp 9), none, [9], []⟩,
    ⟨some 11, .mv (.tmp 0), some (10, true), [0, 10], []⟩,
    ⟨some 12, .mv (.tmp 1), some (10, true), [1, 10], []⟩,
    ⟨some 13, .len true (.tmp 12), some (10, true), [12, 10], []⟩,
    ⟨some 14, .sslice (.tmp 11) none (some (.tmp 13)), some (10, true), [11, 13, 10], []⟩,
    ⟨some 15, .mv (.tmp 1), some (10, true), [1, 10], []⟩,
    ⟨some 16, .bin .eql (.tmp 14) (.tmp 15), some (10, true), [14, 15, 10], []⟩,
    ⟨some 17, .pick (.tmp 10) (.tmp 16) (.const (.bool false)), none, [10, 16], []⟩,
    ⟨some 4, .mv (.tmp 17), none, [17], []⟩] [4])
.ret))
theorem ok_248 : FnOk Tryz.prog 248 18 ac_248 [.tmp 4] := ⟨Tryz.f248, Tryz.func248, by kernel_rfl, by kernel_rfl, by kernel_rfl, by kernel_rfl, by kernel_rfl⟩
def ac_251 : AC :=
(.seq (.reg false [⟨some 4, .mv (.const (.int .i64 (0))), none, [], []⟩] [0, 1])
(.seq (.reg false [⟨some 5, .mv (.tmp 0), none, [0], []⟩,
    ⟨some 6, .mv (.tmp 1), none, [1], []⟩,
    ⟨some 7, .call 281 [(.tmp 5), (.tmp 6)], none, [5, 6], []⟩,
    ⟨some 4, .mv (.tmp 7), none, [7], []⟩] [4])
.ret))
theorem ok_251 : FnOk Tryz.prog 251 8 ac_251 [.tmp 4] := ⟨Tryz.f251, Tryz.func251, by kernel_rfl, by kernel_rfl, by kernel_rfl, by kernel_rfl, by kernel_rfl⟩
def ac_252 : AC :=
(.seq (.reg false [⟨some 4, .mv (.const (.bool false)), none, [], []⟩] [0, 1])
(.seq (.reg false [⟨some 5, .mv (.tmp 0), none, [0], []⟩,
    ⟨some 6, .mv (.tmp 1), none, [1], []⟩,
    ⟨some 7, .call 251 [(.tmp 5), (.tmp 6)], none, [5, 6], []⟩,
    ⟨some 8, .bin .geq (.tmp 7) (.const (.int .i64 (0))), none, [7], []⟩,
    ⟨some 4, .mv (.tmp 8), none, [8], []⟩] [4])
.ret))
theorem ok_252 : FnOk Tryz.prog 252 9 ac_252 [.tmp 4] := ⟨Tryz.f252, Tryz.func252, by kernel_rfl, by kernel_rfl, by kernel_rfl, by kernel_rfl, by kernel_rfl⟩
def ac_253 : AC :=
(.seq (.reg false [⟨some 6, .mv (.const (.int .i64 (0))), none, [], []⟩,
    ⟨some 7, .mv (.const (.bool false)), none, [], []⟩] [0, 1, 2])
(.seq (.reg false [⟨some 12, .mv (.tmp 0), none, [0], []⟩,
    ⟨some 13, .len false (.tmp 12), none, [12], []⟩,
    ⟨some 8, .mv (.tmp 13), none, [13], []⟩] [0, 1, 2, 8])
(.seq (.reg false [⟨some 14, .mv (.tmp 8), none, [8], []⟩,
    ⟨some 9, .mv (.const (.int .i64 (0))), none, [], []⟩,
    ⟨some 10, .mv (.tmp 14), none, [14], []⟩] [0, 1, 2, 8, 9, 10])
(.seq (.block 0 (.loop (.seq (.seq (.reg false [⟨some 15, .mv (.tmp 9), none, [9], []⟩,
    ⟨some 16, .mv (.tmp 10), none, [10], []⟩,
    ⟨some 17, .bin .lss (.tmp 15) (.tmp 16), none, [15, 16], []⟩] [0, 1, 2, 8, 9, 10, 17])
(.cond (.tmp 17)
.skip
(.exit 0)))
(.block 1 (.seq (.reg false [⟨some 18, .mv (.tmp 9), none, [9], []⟩,
    ⟨some 19, .mv (.tmp 10), none, [10], []⟩,
    ⟨some 20, .bin .add (.tmp 18) (.tmp 19), none, [18, 19], []⟩,
    ⟨some 21, .conv .u64 (.tmp 20), none, [20], []⟩,
    ⟨some 22, .bin .shr (.tmp 21) (.const (.int .u64 (1))), none, [21], []⟩,
    ⟨some 23, .conv .i64 (.tmp 22), none, [22], []⟩,
    ⟨some 11, .mv (.tmp 23), none, [23], []⟩] [0, 1, 2, 8, 9, 10, 11])
(.seq (.reg false [⟨some 24, .mv (.tmp 2), none, [2], []⟩,
    ⟨some 25, .mv (.tmp 0), none, [0], []⟩,
    ⟨some 26, .mv (.tmp 11), none, [11], []⟩,
    ⟨some 27, .idx 2 (.tmp 25) (.tmp 26), none, [25, 26], []⟩,
    ⟨some 28, .load true 2 (.tmp 27), none, [27], []⟩,
    ⟨some 29, .mv (.tmp 1), none, [1], []⟩,
    ⟨some 30, .callv (.tmp 24) [(.tmp 28), (.tmp 29)], none, [24, 28, 29], []⟩,
    ⟨some 31, .bin .lss (.tmp 30) (.const (.int .i64 (0))), none, [30], []⟩] [0, 1, 2, 8, 9, 10, 11, 31])
(.cond (.tmp 31)
(.reg false [⟨some 32, .mv (.tmp 11), none, [11], []⟩,
    ⟨some 33, .bin .add (.tmp 32) (.const (.int .i64 (1))), none, [32], []⟩,
    ⟨some 9, .mv (.tmp 33), none, [33], []⟩] [0, 1, 2, 8, 9, 10])
(.reg false [⟨some 34, .mv (.tmp 11), none, [11], []⟩,
    ⟨some 10, .mv (.tmp 34), none, [34], []⟩] [0, 1, 2, 8, 9, 10]))))))))
(.seq (.reg false [⟨some 35, .mv (.tmp 9), none, [9], []⟩,
    ⟨some 36, .mv (.tmp 9), none, [9], []⟩,
    ⟨some 37, .mv (.tmp 8), none, [8], []⟩,
    ⟨some 38, .bin .lss (.tmp 36) (.tmp 37), none, [36, 37], []⟩,
    ⟨some 39, .mv (.tmp 38), none, [38], []⟩,
    ⟨some 40, .mv (.tmp 2), some (39, true), [2, 39], []⟩,
    ⟨some 41, .mv (.tmp 0), some (39, true), [0, 39], []⟩,
    ⟨some 42, .mv (.tmp 9), some (39, true), [9, 39], []⟩,
    ⟨some 43, .idx 2 (.tmp 41) (.tmp 42), some (39, true), [41, 42, 39], []⟩,
    ⟨some 44, .load true 2 (.tmp 43), some (39, true), [43, 39], []⟩,
    ⟨some 45, .mv (.tmp 1), some (39, true), [1, 39], []⟩,
    ⟨some 46, .callv (.tmp 40) [(.tmp 44), (.tmp 45)], some (39, true), [40, 44, 45, 39], []⟩,
    ⟨some 47, .bin .eql (.tmp 46) (.const (.int .i64 (0))), some (39, true), [46, 39], []⟩,
    ⟨some 48, .pick (.tmp 39) (.tmp 47) (.const (.bool false)), none, [39, 47], []⟩,
    ⟨some 6, .mv (.tmp 35), none, [35], []⟩,
    ⟨some 7, .mv (.tmp 48), none, [48], []⟩] [6, 7])
.ret)))))
theorem ok_253 : FnOk Tryz.prog 253 49 ac_253 [.tmp 6, .tmp 7] := ⟨Tryz.f253, Tryz.func253, by kernel_rfl, by kernel_rfl, by kernel_rfl, by kernel_rfl, by kernel_rfl⟩
def ac_254 : AC :=
(.seq (.reg false [⟨some 2, .box 134 (.tmp 0), none, [0], []⟩,
    ⟨some 4, .mv (.const (.int .i64 (0))), none, [], []⟩] [1, 2])
(.seq (.reg false [⟨some 5, .foff 0 (.tmp 2), none, [2], []⟩,
    ⟨some 6, .load false 1 (.tmp 5), none, [5], []⟩,
    ⟨some 7, .mv (.tmp 1), none, [1], []⟩,
    ⟨some 8, .call 255 [(.tmp 6), (.tmp 7)], none, [6, 7], []⟩,
    ⟨some 4, .mv (.tmp 8), none, [8], []⟩] [4])
.ret))
theorem ok_254 : FnOk Tryz.prog 254 9 ac_254 [.tmp 4] := ⟨Tryz.f254, Tryz.func254, by kernel_rfl, by kernel_rfl, by kernel_rfl, by kernel_rfl, by kernel_rfl⟩
def ac_255 : AC :=
(.seq (.reg false [⟨some 4, .mv (.const (.int .i64 (0))), none, [], []⟩] [0, 1])
(.seq (.reg false [⟨some 7, .mv (.tmp 0), none, [0], []⟩,
    ⟨some 8, .call 282 [(.tmp 7)], none, [7], []⟩,
    ⟨some 5, .mv (.tmp 8), none, [8], []⟩] [0, 1, 5])
(.seq (.reg false [⟨some 9, .mv (.tmp 1), none, [1], []⟩,
    ⟨some 10, .call 282 [(.tmp 9)], none, [9], []⟩,
    ⟨some 6, .mv (.tmp 10), none, [10], []⟩] [0, 1, 5, 6])
(.seq (.seq (.reg false [⟨some 11, .mv (.tmp 5), none, [5], []⟩] [0, 1, 6, 11])
(.cond (.tmp 11)
(.seq (.seq (.reg false [⟨some 12, .mv (.tmp 6), none, [6], []⟩] [12])
(.cond (.tmp 12)
(.seq (.reg false [⟨some 4, .mv (.const (.int .i64 (0))), none, [], []⟩] [4])
.ret)
.skip))
(.seq (.reg false [⟨some 4, .mv (.const (.int .i64 (-1))), none, [], []⟩] [4])
.ret))
.skip))
(.seq (.seq (.reg false [⟨some 13, .mv (.tmp 6), none, [6], []⟩] [0, 1, 13])
(.cond (.tmp 13)
(.seq (.reg false [⟨some 4, .mv (.const (.int .i64 (1))), none, [], []⟩] [4])
.ret)
.skip))
(.seq (.seq (.reg false [⟨some 14, .mv (.tmp 0), none, [0], []⟩,
    ⟨some 15, .mv (.tmp 1), none, [1], []⟩,
    ⟨some 16, .bin .lss (.tmp 14) (.tmp 15), none, [14, 15], []⟩] [0, 1, 16])
(.cond (.tmp 16)
(.seq (.reg false [⟨some 4, .mv (.const (.int .i64 (-1))), none, [], []⟩] [4])
.ret)
.skip))
(.seq (.seq (.reg false [⟨some 17, .mv (.tmp 0), none, [0], []⟩,
    ⟨some 18, .mv (.tmp 1), none, [1], []⟩,
    ⟨some 19, .bin .gtr (.tmp 17) (.tmp 18), none, [17, 18], []⟩] [19])
(.cond (.tmp 19)
(.seq (.reg false [⟨some 4, .mv (.const (.int .i64 (1))), none, [], []⟩] [4])
.ret)
.skip))
(.seq (.reg false [⟨some 4, .mv (.const (.int .i64 (0))), none, [], []⟩] [4])
.ret))))))))
theorem ok_255 : FnOk Tryz.prog 255 20 ac_255 [.tmp 4] := ⟨Tryz.f255, Tryz.func255, by kernel_rfl, by kernel_rfl, by kernel_rfl, by kernel_rfl, by kernel_rfl⟩
def ac_258 : AC :=
(.seq (.reg false [⟨some 4, .mv (.const (.slice none 0 0)), none, [], []⟩] [0, 1])
(.seq (.block 0 (.loop (.seq (.seq (.reg false [⟨some 5, .mv (.tmp 0), none, [0], []⟩,
    ⟨some 6, .len false (.tmp 5), none, [5], []⟩,
    ⟨some 7, .bin .gtr (.tmp 6) (.const (.int .i64 (0))), none, [6], []⟩,
    ⟨some 8, .mv (.tmp 7), none, [7], []⟩,
    ⟨some 9, .mv (.tmp 0), some (8, true), [0, 8], []⟩,
    ⟨some 10, .idx 1 (.tmp 9) (.const (.int .i64 (0))), some (8, true), [9, 8], []⟩,
    ⟨some 11, .load false 1 (.tmp 10), some (8, true), [10, 8], []⟩,
    ⟨some 12, .mv (.tmp 1), some (8, true), [1, 8], []⟩,
    ⟨some 13, .bin .eql (.tmp 11) (.tmp 12), some (8, true), [11, 12, 8], []⟩,
    ⟨some 14, .pick (.tmp 8) (.tmp 13) (.const (.bool false)), none, [8, 13], []⟩] [0, 1, 14])
(.cond (.tmp 14)
.skip
(.exit 0)))
(.block 1 (.reg false [⟨some 15, .mv (.tmp 0), none, [0], []⟩,
    ⟨some 16, .slice 1 (.tmp 15) (some (.const (.int .i64 (1)))) none, none, [15], []⟩,
    ⟨some 0, .mv (.tmp 16), none, [16], []⟩] [0, 1])))))
(.seq (.seq (.reg false [⟨some 17, .mv (.tmp 0), none, [0], []⟩,
    ⟨some 18, .len false (.tmp 17), none, [17], []⟩,
    ⟨some 19, .bin .eql (.tmp 18) (.const (.int .i64 (0))), none, [18], []⟩] [0, 19])
(.cond (.tmp 19)
(.seq (.reg false [⟨some 4, .mv (.const (.slice none 0 0)), none, [], []⟩] [4])
.ret)
.skip))
(.seq (.reg false [⟨some 20, .mv (.tmp 0), none, [0], []⟩,
    ⟨some 4, .mv (.tmp 20), none, [20], []⟩] [4])
.ret))))
theorem ok_258 : FnOk Tryz.prog 258 21 ac_258 [.tmp 4] := ⟨Tryz.f258, Tryz.func258, by kernel_rfl, by kernel_rfl, by kernel_rfl, by kernel_rfl, by kernel_rfl⟩
def ac_259 : AC :=
(.seq (.reg false [⟨some 4, .mv (.const (.slice none 0 0)), none, [], []⟩] [0, 1])
(.seq (.block 0 (.loop (.seq (.seq (.reg false [⟨some 5, .mv (.tmp 0), none, [0], []⟩,
    ⟨some 6, .len false (.tmp 5), none, [5], []⟩,
    ⟨some 7, .bin .gtr (.tmp 6) (.const (.int .i64 (0))), none, [6], []⟩,
    ⟨some 8, .mv (.tmp 7), none, [7], []⟩,
    ⟨some 9, .mv (.tmp 0), some (8, true), [0, 8], []⟩,
    ⟨some 10, .mv (.tmp 0), some (8, true), [0, 8], []⟩,
    ⟨some 11, .len false (.tmp 10), some (8, true), [10, 8], []⟩,
    ⟨some 12, .bin .sub (.tmp 11) (.const (.int .i64 (1))), some (8, true), [11, 8], []⟩,
    ⟨some 13, .idx 1 (.tmp 9) (.tmp 12), some (8, true), [9, 12, 8], []⟩,
    ⟨some 14, .load false 1 (.tmp 13), some (8, true), [13, 8], []⟩,
    ⟨some 15, .mv (.tmp 1), some (8, true), [1, 8], []⟩,
    ⟨some 16, .bin .eql (.tmp 14) (.tmp 15), some (8, true), [14, 15, 8], []⟩,
    ⟨some 17, .pick (.tmp 8) (.tmp 16) (.const (.bool false)), none, [8, 16], []⟩] [0, 1, 17])
(.cond (.tmp 17)
.skip
(.exit 0)))
(.block 1 (.reg false [⟨some 18, .mv (.tmp 0), none, [0], []⟩,
    ⟨some 19, .mv (.tmp 0), none, [0], []⟩,
    ⟨some 20, .len false (.tmp 19), none, [19], []⟩,
    ⟨some 21, .bin .sub (.tmp 20) (.const (.int .i64 (1))), none, [20], []⟩,
    ⟨some 22, .slice 1 (.tmp 18) none (some (.tmp 21)), none, [18, 21], []⟩,
    ⟨some 0, .mv (.tmp 22), none, [22], []⟩] [0, 1])))))
(.seq (.reg false [⟨some 23, .mv (.tmp 0), none, [0], []⟩,
    ⟨some 4, .mv (.tmp 23), none, [23], []⟩] [4])
.ret)))
theorem ok_259 : FnOk Tryz.prog 259 24 ac_259 [.tmp 4] := ⟨Tryz.f259, Tryz.func259, by kernel_rfl, by kernel_rfl, by kernel_rfl, by kernel_rfl, by kernel_rfl⟩
end Go.Proofs.YtonglhkiobibgaaGreatDoor
namespace Go.Proofs.YtonglhkiobibgaaGreatDoor
set_option maxRecDepth 100000
def ac_275 : AC :=
(.seq (.reg false [⟨some 0, .new 399 [(.int .u32 (0)), (.int .u32 (0)), (.int .u32 (0)), (.int .u32 (0)), (.int .u32 (0)), (.int .u32 (0)), (.int .u32 (0)), (.int .u32 (0)), (.int .u32 (0)), (.int .u32 (0)), (.int .u32 (0)), (.int .u32 (0)), (.int .u32 (0)), (.int .u32 (0)), (.int .u32 (0)), (.int .u32 (0))], none, [], []⟩] [0])
(.seq (.reg false [⟨some 1, .new 399 [(.int .u32 (0)), (.int .u32 (0)), (.int .u32 (0)), (.int .u32 (0)), (.int .u32 (0)), (.int .u32 (0)), (.int .u32 (0)), (.int .u32 (0)), (.int .u32 (0)), (.int .u32 (0)), (.int .u32 (0)), (.int .u32 (0)), (.int .u32 (0)), (.int .u32 (0)), (.int .u32 (0)), (.int .u32 (0))], none, [], []⟩] [0, 1])
(.seq (.seq (.reg false [⟨some 4, .mv (.const (.int .i64 (0))), none, [], []⟩] [0, 1, 4])
(.block 0 (.loop (.seq (.reg false [⟨some 5, .bin .lss (.tmp 4) (.const (.int .i64 (16))), none, [4], []⟩] [0, 1, 4, 5])
(.seq (.cond (.tmp 5)
.skip
(.exit 0))
(.seq (.block 1 (.seq (.reg false [⟨some 6, .mv (.tmp 4), none, [4], []⟩,
    ⟨some 2, .mv (.tmp 6), none, [6], []⟩] [0, 1, 2, 4])
(.seq (.reg false [⟨some 7, .mv (.tmp 2), none, [2], []⟩,
    ⟨some 8, .conv .u32 (.tmp 7), none, [7], []⟩,
    ⟨some 3, .mv (.tmp 8), none, [8], []⟩] [0, 1, 2, 3, 4])
(.seq (.seq (.reg false [⟨some 9, .mv (.const (.int .i64 (0))), none, [], []⟩] [0, 1, 2, 3, 4, 9])
(.block 2 (.loop (.seq (.reg false [⟨some 10, .bin .lss (.tmp 9) (.const (.int .i64 (4))), none, [9], []⟩] [0, 1, 2, 3, 4, 9, 10])
(.seq (.cond (.tmp 10)
.skip
(.exit 2))
(.seq (.block 3 (.reg false [⟨some 11, .mv (.tmp 3), none, [3], []⟩,
    ⟨some 12, .bin .shr (.tmp 11) (.const (.int .u64 (1))), none, [11], []⟩,
    ⟨some 13, .mv (.tmp 3), none, [3], []⟩,
    ⟨some 14, .bin .and (.tmp 13) (.const (.int .u32 (1))), none, [13], []⟩,
    ⟨some 15, .un .neg (.tmp 14), none, [14], []⟩,
    ⟨some 16, .bin .and (.const (.int .u32 (3988292384))) (.tmp 15), none, [15], []⟩,
    ⟨some 17, .bin .xor (.tmp 12) (.tmp 16), none, [12, 16], []⟩,
    ⟨some 3, .mv (.tmp 17), none, [17], []⟩] [0, 1, 2, 3, 4, 9]))
(.reg false [⟨some 18, .bin .add (.tmp 9) (.const (.int .i64 (1))), none, [9], []⟩,
    ⟨some 9, .mv (.tmp 18), none, [18], []⟩] [0, 1, 2, 3, 4, 9])))))))
(.reg false [⟨some 19, .mv (.tmp 2), none, [2], []⟩,
    ⟨some 20, .mv (.tmp 3), none, [3], []⟩,
    ⟨some 21, .aidx 1 16 (.tmp 1) (.tmp 19), none, [1, 19], []⟩,
    ⟨none, .store 1 (.tmp 21) (.tmp 20), none, [21, 20], []⟩] [0, 1, 4])))))
(.reg false [⟨some 22, .bin .add (.tmp 4) (.const (.int .i64 (1))), none, [4], []⟩,
    ⟨some 4, .mv (.tmp 22), none, [22], []⟩] [0, 1, 4])))))))
(.seq (.reg false [⟨some 23, .load true 16 (.tmp 1), none, [1], []⟩,
    ⟨none, .store 16 (.tmp 0) (.tmp 23), none, [0, 23], []⟩] [0])
.ret))))
theorem ok_275 : FnOk Tryz.prog 275 24 ac_275 [.cell 0 true 16] := ⟨Tryz.f275, Tryz.func275, by kernel_rfl, by kernel_rfl, by kernel_rfl, by kernel_rfl, by kernel_rfl⟩
def ac_281 : AC :=
(.seq (.reg false [⟨some 4, .mv (.const (.int .i64 (0))), none, [], []⟩] [0, 1])
(.seq (.reg false [⟨some 14, .mv (.tmp 1), none, [1], []⟩,
    ⟨some 15, .len true (.tmp 14), none, [14], []⟩,
    ⟨some 5, .mv (.tmp 15), none, [15], []⟩] [0, 1, 5])
(.seq (.block 0 (.seq (.reg false [⟨some 17, .mv (.tmp 5), none, [5], []⟩,
    ⟨some 18, .bin .eql (.tmp 17) (.const (.int .i64 (0))), none, [17], []⟩,
    ⟨some 19, .mv (.tmp 18), none, [18], []⟩,
    ⟨some 20, .mv (.tmp 1), some (19, false), [1, 19], []⟩,
    ⟨some 21, .mv (.tmp 0), some (19, false), [0, 19], []⟩,
    ⟨some 22, .bin .eql (.tmp 20) (.tmp 21), some (19, false), [20, 21, 19], []⟩,
    ⟨some 23, .pick (.tmp 19) (.const (.bool true)) (.tmp 22), none, [19, 22], []⟩,
    ⟨some 16, .mv (.tmp 23), none, [23], []⟩] [0, 1, 5, 16])
(.cond (.tmp 16)
(.seq (.reg false [⟨some 4, .mv (.const (.int .i64 (0))), none, [], []⟩] [4])
.ret)
(.seq (.reg false [⟨some 25, .mv (.tmp 5), none, [5], []⟩,
    ⟨some 26, .bin .eql (.tmp 25) (.const (.int .i64 (1))), none, [25], []⟩,
    ⟨some 24, .mv (.tmp 26), none, [26], []⟩] [0, 1, 5, 24])
(.cond (.tmp 24)
(.seq (.reg false [⟨some 27, .mv (.tmp 0), none, [0], []⟩,
    ⟨some 28, .mv (.tmp 1), none, [1], []⟩,
    ⟨some 29, .sidx (.tmp 28) (.const (.int .i64 (0))), none, [28], []⟩,
    ⟨some 30, .call 298 [(.tmp 27), (.tmp 29)], none, [27, 29], []⟩,
    ⟨some 4, .mv (.tmp 30), none, [30], []⟩] [4])
.ret)
(.seq (.reg false [⟨some 32, .mv (.tmp 5), none, [5], []⟩,
    ⟨some 33, .mv (.tmp 0), none, [0], []⟩,
    ⟨some 34, .len true (.tmp 33), none, [33], []⟩,
    ⟨some 35, .bin .geq (.tmp 32) (.tmp 34), none, [32, 34], []⟩,
    ⟨some 31, .mv (.tmp 35), none, [35], []⟩] [0, 1, 5, 31])
(.cond (.tmp 31)
(.seq (.reg false [⟨some 4, .mv (.const (.int .i64 (-1))), none, [], []⟩] [4])
.ret)
(.seq (.reg false [⟨some 37, .mv (.tmp 5), none, [5], []⟩,
    ⟨some 38, .load false 1 (.global 3), none, [], []⟩,
    ⟨some 39, .bin .leq (.tmp 37) (.tmp 38), none, [37, 38], []⟩,
    ⟨some 40, .mv (.tmp 39), none, [39], []⟩,
    ⟨some 41, .mv (.tmp 0), some (40, true), [0, 40], []⟩,
    ⟨some 42, .len true (.tmp 41), some (40, true), [41, 40], []⟩,
    ⟨some 43, .bin .leq (.tmp 42) (.const (.int .i64 (64))), some (40, true), [42, 40], []⟩,
    ⟨some 44, .pick (.tmp 40) (.tmp 43) (.const (.bool false)), none, [40, 43], []⟩,
    ⟨some 36, .mv (.tmp 44), none, [44], []⟩] [0, 1, 5, 36])
(.cond (.tmp 36)
(.seq (.reg false [⟨some 45, .mv (.tmp 0), none, [0], []⟩,
    ⟨some 46, .mv (.tmp 1), none, [1], []⟩,
    ⟨some 47, .call 299 [(.tmp 45), (.tmp 46)], none, [45, 46], []⟩,
    ⟨some 4, .mv (.tmp 47), none, [47], []⟩] [4])
.ret)
.skip)))))))))
(.seq (.reg false [⟨some 48, .mv (.tmp 1), none, [1], []⟩,
    ⟨some 49, .sidx (.tmp 48) (.const (.int .i64 (0))), none, [48], []⟩,
    ⟨some 6, .mv (.tmp 49), none, [49], []⟩] [0, 1, 5, 6])
(.seq (.reg false [⟨some 50, .mv (.tmp 1), none, [1], []⟩,
    ⟨some 51, .sidx (.tmp 50) (.const (.int .i64 (1))), none, [50], []⟩,
    ⟨some 7, .mv (.tmp 51), none, [51], []⟩] [0, 1, 5, 6, 7])
(.seq (.reg false [⟨some 8, .mv (.const (.int .i64 (0))), none, [], []⟩] [0, 1, 5, 6, 7, 8])
(.seq (.reg false [⟨some 52, .mv (.tmp 0), none, [0], []⟩,
    ⟨some 53, .len true (.tmp 52), none, [52], []⟩,
    ⟨some 54, .mv (.tmp 5), none, [5], []⟩,
    ⟨some 55, .bin .sub (.tmp 53) (.tmp 54), none, [53, 54], []⟩,
    ⟨some 56, .bin .add (.tmp 55) (.const (.int .i64 (1))), none, [55], []⟩,
    ⟨some 9, .mv (.tmp 56), none, [56], []⟩] [0, 1, 5, 6, 7, 8, 9])
(.seq (.reg false [⟨some 10, .mv (.const (.int .i64 (0))), none, [], []⟩] [0, 1, 5, 6, 7, 8, 9, 10])
(.seq (.block 1 (.loop (.seq (.seq (.reg false [⟨some 57, .mv (.tmp 8), none, [8], []⟩,
    ⟨some 58, .mv (.tmp 9), none, [9], []⟩,
    ⟨some 59, .bin .lss (.tmp 57) (.tmp 58), none, [57, 58], []⟩] [0, 1, 5, 6, 7, 8, 9, 10, 59])
(.cond (.tmp 59)
.skip
(.exit 1)))
(.block 2 (.seq (.seq (.reg false [⟨some 60, .mv (.tmp 0), none, [0], []⟩,
    ⟨some 61, .mv (.tmp 8), none, [8], []⟩,
    ⟨some 62, .sidx (.tmp 60) (.tmp 61), none, [60, 61], []⟩,
    ⟨some 63, .mv (.tmp 6), none, [6], []⟩,
    ⟨some 64, .bin .neq (.tmp 62) (.tmp 63), none, [62, 63], []⟩] [0, 1, 5, 6, 7, 8, 9, 10, 64])
(.cond (.tmp 64)
(.seq (.reg false [⟨some 65, .mv (.tmp 0), none, [0], []⟩,
    ⟨some 66, .mv (.tmp 8), none, [8], []⟩,
    ⟨some 67, .bin .add (.tmp 66) (.const (.int .i64 (1))), none, [66], []⟩,
    ⟨some 68, .mv (.tmp 9), none, [9], []⟩,
    ⟨some 69, .sslice (.tmp 65) (some (.tmp 67)) (some (.tmp 68)), none, [65, 67, 68], []⟩,
    ⟨some 70, .mv (.tmp 6), none, [6], []⟩,
    ⟨some 71, .call 298 [(.tmp 69), (.tmp 70)], none, [69, 70], []⟩,
    ⟨some 11, .mv (.tmp 71), none, [71], []⟩] [0, 1, 5, 6, 7, 8, 9, 10, 11])
(.seq (.seq (.reg false [⟨some 72, .mv (.tmp 11), none, [11], []⟩,
    ⟨some 73, .bin .lss (.tmp 72) (.const (.int .i64 (0))), none, [72], []⟩] [0, 1, 5, 6, 7, 8, 9, 10, 11, 73])
(.cond (.tmp 73)
(.seq (.reg false [⟨some 4, .mv (.const (.int .i64 (-1))), none, [], []⟩] [4])
.ret)
.skip))
(.reg false [⟨some 74, .mv (.tmp 8), none, [8], []⟩,
    ⟨some 75, .mv (.tmp 11), none, [11], []⟩,
    ⟨some 76, .bin .add (.tmp 75) (.const (.int .i64 (1))), none, [75], []⟩,
    ⟨some 77, .bin .add (.tmp 74) (.tmp 76), none, [74, 76], []⟩,
    ⟨some 8, .mv (.tmp 77), none, [77], []⟩] [0, 1, 5, 6, 7, 8, 9, 10])))
.skip))
(.seq (.seq (.reg false [⟨some 78, .mv (.tmp 0), none, [0], []⟩,
    ⟨some 79, .mv (.tmp 8), none, [8], []⟩,
    ⟨some 80, .bin .add (.tmp 79) (.const (.int .i64 (1))), none, [79], []⟩,
    ⟨some 81, .sidx (.tmp 78) (.tmp 80), none, [78, 80], []⟩,
    ⟨some 82, .mv (.tmp 7), none, [7], []⟩,
    ⟨some 83, .bin .eql (.tmp 81) (.tmp 82), none, [81, 82], []⟩,
    ⟨some 84, .mv (.tmp 83), none, [83], []⟩,
    ⟨some 85, .mv (.tmp 0), some (84, true), [0, 84], []⟩,
    ⟨some 86, .mv (.tmp 8), some (84, true), [8, 84], []⟩,
    ⟨some 87, .mv (.tmp 8), some (84, true), [8, 84], []⟩,
    ⟨some 88, .mv (.tmp 5), some (84, true), [5, 84], []⟩,
    ⟨some 89, .bin .add (.tmp 87) (.tmp 88), some (84, true), [87, 88, 84], []⟩,
    ⟨some 90, .sslice (.tmp 85) (some (.tmp 86)) (some (.tmp 89)), some (84, true), [85, 86, 89, 84], []⟩,
    ⟨some 91, .mv (.tmp 1), some (84, true), [1, 84], []⟩,
    ⟨some 92, .bin .eql (.tmp 90) (.tmp 91), some (84, true), [90, 91, 84], []⟩,
    ⟨some 93, .pick (.tmp 84) (.tmp 92) (.const (.bool false)), none, [84, 92], []⟩] [0, 1, 5, 6, 7, 8, 9, 10, 93])
(.cond (.tmp 93)
(.seq (.reg false [⟨some 94, .mv (.tmp 8), none, [8], []⟩,
    ⟨some 4, .mv (.tmp 94), none, [94], []⟩] [4])
.ret)
.skip))
(.seq (.reg false [⟨some 95, .mv (.tmp 8), none, [8], []⟩,
    ⟨some 96, .bin .add (.tmp 95) (.const (.int .i64 (1))), none, [95], []⟩,
    ⟨some 8, .mv (.tmp 96), none, [96], []⟩] [0, 1, 5, 6, 7, 8, 9, 10])
(.seq (.reg false [⟨some 97, .mv (.tmp 10), none, [10], []⟩,
    ⟨some 98, .bin .add (.tmp 97) (.const (.int .i64 (1))), none, [97], []⟩,
    ⟨some 10, .mv (.tmp 98), none, [98], []⟩] [0, 1, 5, 6, 7, 8, 9, 10])
(.seq (.reg false [⟨some 99, .mv (.tmp 5), none, [5], []⟩,
    ⟨some 100, .load false 1 (.global 3), none, [], []⟩,
    ⟨some 101, .bin .leq (.tmp 99) (.tmp 100), none, [99, 100], []⟩,
    ⟨some 102, .mv (.tmp 101), none, [101], []⟩,
    ⟨some 103, .mv (.tmp 10), some (102, true), [10, 102], []⟩,
    ⟨some 104, .mv (.tmp 8), some (102, true), [8, 102], []⟩,
    ⟨some 105, .call 300 [(.tmp 104)], some (102, true), [104, 102], []⟩,
    ⟨some 106, .bin .gtr (.tmp 103) (.tmp 105), some (102, true), [103, 105, 102], []⟩,
    ⟨some 107, .pick (.tmp 102) (.tmp 106) (.const (.bool false)), none, [102, 106], []⟩] [0, 1, 5, 6, 7, 8, 9, 10, 107])
(.cond (.tmp 107)
(.seq (.reg false [⟨some 108, .mv (.tmp 0), none, [0], []⟩,
    ⟨some 109, .mv (.tmp 8), none, [8], []⟩,
    ⟨some 110, .sslice (.tmp 108) (some (.tmp 109)) none, none, [108, 109], []⟩,
    ⟨some 111, .mv (.tmp 1), none, [1], []⟩,
    ⟨some 112, .call 299 [(.tmp 110), (.tmp 111)], none, [110, 111], []⟩,
    ⟨some 12, .mv (.tmp 112), none, [112], []⟩] [8, 12])
(.seq (.seq (.reg false [⟨some 113, .mv (.tmp 12), none, [12], []⟩,
    ⟨some 114, .bin .geq (.tmp 113) (.const (.int .i64 (0))), none, [113], []⟩] [8, 12, 114])
(.cond (.tmp 114)
(.seq (.reg false [⟨some 115, .mv (.tmp 12), none, [12], []⟩,
    ⟨some 116, .mv (.tmp 8), none, [8], []⟩,
    ⟨some 117, .bin .add (.tmp 115) (.tmp 116), none, [115, 116], []⟩,
    ⟨some 4, .mv (.tmp 117), none, [117], []⟩] [4])
.ret)
.skip))
(.seq (.reg false [⟨some 4, .mv (.const (.int .i64 (-1))), none, [], []⟩] [4])
.ret)))
(.seq (.reg false [⟨some 118, .mv (.tmp 5), none, [5], []⟩,
    ⟨some 119, .load false 1 (.global 3), none, [], []⟩,
    ⟨some 120, .bin .gtr (.tmp 118) (.tmp 119), none, [118, 119], []⟩,
    ⟨some 121, .mv (.tmp 120), none, [120], []⟩,
    ⟨some 122, .mv (.tmp 10), some (121, true), [10, 121], []⟩,
    ⟨some 123, .mv (.tmp 8), some (121, true), [8, 121], []⟩,
    ⟨some 124, .bin .shr (.tmp 123) (.const (.int .u64 (4))), some (121, true), [123, 121], []⟩,
    ⟨some 125, .bin .add (.const (.int .i64 (4))) (.tmp 124), some (121, true), [124, 121], []⟩,
    ⟨some 126, .bin .geq (.tmp 122) (.tmp 125), some (121, true), [122, 125, 121], []⟩,
    ⟨some 127, .pick (.tmp 121) (.tmp 126) (.const (.bool false)), none, [121, 126], []⟩,
    ⟨some 128, .mv (.tmp 127), none, [127], []⟩,
    ⟨some 129, .mv (.tmp 8), some (128, true), [8, 128], []⟩,
    ⟨some 130, .mv (.tmp 9), some (128, true), [9, 128], []⟩,
    ⟨some 131, .bin .lss (.tmp 129) (.tmp 130), some (128, true), [129, 130, 128], []⟩,
    ⟨some 132, .pick (.tmp 128) (.tmp 131) (.const (.bool false)), none, [128, 131], []⟩] [0, 1, 5, 6, 7, 8, 9, 10, 132])
(.cond (.tmp 132)
(.seq (.reg false [⟨some 133, .mv (.tmp 0), none, [0], []⟩,
    ⟨some 134, .mv (.tmp 8), none, [8], []⟩,
    ⟨some 135, .sslice (.tmp 133) (some (.tmp 134)) none, none, [133, 134], []⟩,
    ⟨some 136, .mv (.tmp 1), none, [1], []⟩,
    ⟨some 137, .call 301 [(.tmp 135), (.tmp 136)], none, [135, 136], []⟩,
    ⟨some 13, .mv (.tmp 137), none, [137], []⟩] [8, 13])
(.seq (.seq (.reg false [⟨some 138, .mv (.tmp 13), none, [13], []⟩,
    ⟨some 139, .bin .lss (.tmp 138) (.const (.int .i64 (0))), none, [138], []⟩] [8, 13, 139])
(.cond (.tmp 139)
(.seq (.reg false [⟨some 4, .mv (.const (.int .i64 (-1))), none, [], []⟩] [4])
.ret)
.skip))
(.seq (.reg false [⟨some 140, .mv (.tmp 8), none, [8], []⟩,
    ⟨some 141, .mv (.tmp 13), none, [13], []⟩,
    ⟨some 142, .bin .add (.tmp 140) (.tmp 141), none, [140, 141], []⟩,
    ⟨some 4, .mv (.tmp 142), none, [142], []⟩] [4])
.ret)))
.skip))))))))))))
(.seq (.reg false [⟨some 4, .mv (.const (.int .i64 (-1))), none, [], []⟩] [4])
.ret))))))))))
theorem ok_281 : FnOk Tryz.prog 281 143 ac_281 [.tmp 4] := ⟨Tryz.f281, Tryz.func281, by kernel_rfl, by kernel_rfl, by kernel_rfl, by kernel_rfl, by kernel_rfl⟩
def ac_282 : AC :=
(.seq (.reg false [⟨some 2, .mv (.const (.bool false)), none, [], []⟩] [0])
(.seq (.reg false [⟨some 3, .mv (.tmp 0), none, [0], []⟩,
    ⟨some 4, .mv (.tmp 0), none, [0], []⟩,
    ⟨some 5, .bin .neq (.tmp 3) (.tmp 4), none, [3, 4], []⟩,
    ⟨some 2, .mv (.tmp 5), none, [5], []⟩] [2])
.ret))
theorem ok_282 : FnOk Tryz.prog 282 6 ac_282 [.tmp 2] := ⟨Tryz.f282, Tryz.func282, by kernel_rfl, by kernel_rfl, by kernel_rfl, by kernel_rfl, by kernel_rfl⟩
end Go.Proofs.YtonglhkiobibgaaGreatDoor
namespace Go.Proofs.YtonglhkiobibgaaGreatDoor
open Go.RowKit
set_option maxRecDepth 100000
theorem copied_spec (fr : Bool) (l : List Int) (nb : Nat) (h : l.length ≤ 140737488355328) : ASound Tryz.prog 162 [fB fr l] nb (.ret (.os nb 0 l.length 1) [(nb, some (.row true 5 (eB l)))]) := by
  refine ok_162.sound (by simp) ⟨al_fB l, trivial⟩ ?_
  simp only [ac_162, len_B, h, TT, ↓reduceIte, Nat.reduceEqDiff, Nat.reduceAdd, Nat.reduceMul, reduceCtorEq, Nat.reduceLeDiff]
  exact Ends.rows1 (i := 400000) (r0 := .os 400000 0 l.length 1) (.inr rfl) (by simp [ET]) rfl (al_B l) (by simp [Al]) (by simp [ren, rn])
theorem copyBytes_spec (fr : Bool) (l : List Int) (nb : Nat) (h : l.length ≤ 140737488355328) : ASound Tryz.prog 42 [fB fr l] nb (.ret (fB true l) []) := by
  refine ok_42.sound (by simp) ⟨al_fB l, trivial⟩ ?_
  simp only [ac_42, len_B, h, TT, ↓reduceIte, Nat.reduceEqDiff, Nat.reduceAdd, Nat.reduceMul, reduceCtorEq, Nat.reduceLeDiff]
  refine Ends.weak (Weak.freezeC 400000 rfl (l := [(2, fB true l)]) (h := []) ?_ ?_) (Ends.data (.inr rfl) (by simp [ET, fB]) (al_fB l))
  · simp [WT]
  · simp [WT]
def nibC (k : Nat) : List AV := (List.range 16).map fun j => if j < k then tabV j else .v (.int .u32 0)
theorem nib_set {k : Nat} (h : k < 16) : (nibC k).set k (tabV k) = nibC (k + 1) := by
  apply List.ext_getElem?
  intro j
  rw [List.getElem?_set]
  simp only [nibC, List.length_map, List.length_range, List.getElem?_map]
  by_cases hj : j < 16
  · rw [List.getElem?_range hj]
    by_cases e : k = j
    · subst e; simp [h]
    · rw [if_neg e]
      simp only [Option.map_some]
      congr 2
      simp only [eq_iff_iff]
      omega
  · have h2 : (List.range 16)[j]? = none := by rw [List.getElem?_eq_none_iff]; simp; omega
    rw [h2, if_neg (by omega)]; rfl
theorem nib_len (k : Nat) : (nibC k).length = 16 := by simp [nibC]
theorem nib_16 : nibC 16 = tabA := rfl
theorem al_nib {p : Nat → Prop} (k : Nat) : AlL p (nibC k) := AlL_map (e := fun j => if j < k then tabV j else .v (.int .u32 0)) (fun j => by split <;> trivial) _
theorem ren_nib {ρ : Nat → Nat} (k : Nat) : renL ρ (nibC k) = nibC k := renL_id (p := fun _ => False) (fun _ h => h.elim) (al_nib k)
theorem tab16 : tabA[0]? = some (tabV 0) ∧ tabA[1]? = some (tabV 1) ∧ tabA[2]? = some (tabV 2) ∧ tabA[3]? = some (tabV 3) ∧ tabA[4]? = some (tabV 4) ∧ tabA[5]? = some (tabV 5) ∧ tabA[6]? = some (tabV 6) ∧ tabA[7]? = some (tabV 7) ∧ tabA[8]? = some (tabV 8) ∧ tabA[9]? = some (tabV 9) ∧ tabA[10]? = some (tabV 10) ∧ tabA[11]? = some (tabV 11) ∧ tabA[12]? = some (tabV 12) ∧ tabA[13]? = some (tabV 13) ∧ tabA[14]? = some (tabV 14) ∧ tabA[15]? = some (tabV 15) := ⟨rfl, rfl, rfl, rfl, rfl, rfl, rfl, rfl, rfl, rfl, rfl, rfl, rfl, rfl, rfl, rfl⟩
def cbn : Nat → BitVec 32 → BitVec 32
  | 0, c => c
  | n + 1, c => cbit (cbn n c)
theorem lit_poly : BitVec.ofInt 32 3988292384 = 3988292384#32 := rfl
theorem lit_one : BitVec.ofInt 32 1 = 1#32 := rfl
theorem lit_15 : BitVec.ofInt 32 15 = 15#32 := rfl
abbrev z16 : List AV := [.v (.int .u32 0), .v (.int .u32 0), .v (.int .u32 0), .v (.int .u32 0), .v (.int .u32 0), .v (.int .u32 0), .v (.int .u32 0), .v (.int .u32 0), .v (.int .u32 0), .v (.int .u32 0), .v (.int .u32 0), .v (.int .u32 0), .v (.int .u32 0), .v (.int .u32 0), .v (.int .u32 0), .v (.int .u32 0)]
abbrev L_nib (k : Nat) : ASt := ⟨envOf [(0, .op 0 0), (1, .op 1 0), (4, .v (.int .i64 k))], heapOf [(0, .row true 399 z16), (1, .row true 399 (nibC k))], 2⟩
abbrev L_nib2 (k j : Nat) : ASt := ⟨envOf [(0, .op 0 0), (1, .op 1 0), (2, .v (.int .i64 k)), (3, .v (.int .u32 ((cbn j (BitVec.ofNat 32 k)).toNat))), (4, .v (.int .i64 k)), (9, .v (.int .i64 j))], heapOf [(0, .row true 399 z16), (1, .row true 399 (nibC k))], 2⟩
set_option maxHeartbeats 1000000 in
theorem nibbles_spec (nb : Nat) : ASound Tryz.prog 275 [] nb (.ret (.agg tabA) []) := by
  refine ok_275.sound (by simp) trivial ?_
  simp only [ac_275, TT, ↓reduceIte, Nat.reduceEqDiff, Nat.reduceAdd, Nat.reduceMul, reduceCtorEq, Nat.reduceLeDiff]
  refine AWc.family L_nib (fun k => k ≤ 16) (fun k => 16 - k) 0 (by omega) ?_ ?_
  · refine Weak.calc [(0, 0), (100000, 1)] (by decide) ?_ ?_
    · simp [WT]
    · simp [WT]; rfl
  · intro k hk
    by_cases hlt : k < 16
    · have e1 : (k : Int) < 16 := by omega
      have e0 : (0 : Int) ≤ (k : Int) := by omega
      simp only [L_nib, e1, u32_wrap, lit32, TT, ↓reduceIte, Nat.reduceEqDiff, Nat.reduceAdd, Nat.reduceMul, reduceCtorEq, Nat.reduceLeDiff]
      refine AWc.family (L_nib2 k) (fun j => j ≤ 4) (fun j => 4 - j) 0 (by omega) ?_ ?_
      · refine Weak.calc [(0, 0), (1, 1)] (by decide) ?_ ?_
        · simp [WT, cbn, al_nib, ren_nib]
        · simp [WT, cbn, al_nib, ren_nib]
      · intro j hj
        by_cases hjl : j < 4
        · have f1 : (j : Int) < 4 := by omega
          simp only [L_nib2, f1, sh_1, and_u32, xor_u32, neg_u32, u32_back, lit_poly, lit_one, cbit_prog, TT, ↓reduceIte, Nat.reduceEqDiff, Nat.reduceAdd, Nat.reduceMul, reduceCtorEq, Nat.reduceLeDiff]
          refine famC_next (j + 1) (by omega) (by omega) ?_
          refine Weak.calc [(0, 0), (1, 1)] (by decide) ?_ ?_ <;> simp [WT, cbn, al_nib, ren_nib, wrap64 (x := (j : Int) + 1) (by omega)]
        · obtain rfl : j = 4 := by omega
          have f1 : ¬ ((4 : Nat) : Int) < 4 := by decide
          have hs : (nibC k).set k (.v (.int .u32 ((cbn 4 (BitVec.ofNat 32 k)).toNat))) = nibC (k + 1) := nib_set hlt
          have e2 : (k : Int) < ((16 : Nat) : Int) := by omega
          simp only [L_nib2, f1, e0, e1, e2, hs, nib_len, TT, ↓reduceIte, Nat.reduceEqDiff, Nat.reduceAdd, Nat.reduceMul, reduceCtorEq, Nat.reduceLeDiff]
          rw [if_pos (by omega)]
          refine famC_next (k + 1) (by omega) (by omega) ?_
          refine Weak.calc [(0, 0), (1, 1)] (by decide) ?_ ?_ <;> simp [WT, al_nib, ren_nib, wrap64 (x := (k : Int) + 1) (by omega)]
    · obtain rfl : k = 16 := by omega
      have e1 : ¬ ((16 : Nat) : Int) < 16 := by decide
      simp only [L_nib, e1, nib_16, tab16, len_tab, TT, ↓reduceIte, Nat.reduceEqDiff, Nat.reduceAdd, Nat.reduceMul, reduceCtorEq, Nat.reduceLeDiff]
      exact Ends.data (.inr rfl) (by simp [ET]; rfl) al_tab
end Go.Proofs.YtonglhkiobibgaaGreatDoor
namespace Go.Proofs.YtonglhkiobibgaaGreatDoor
open Go.RowKit
set_option maxRecDepth 100000
theorem nib_lt (d : BitVec 32) : (d &&& 15#32).toNat < 16 := by
  rw [BitVec.toNat_and]
  exact Nat.and_lt_two_pow d.toNat (n := 4) (show (15#32).toNat < 2 ^ 4 by decide)
theorem get_tab2 (d : BitVec 32) : tabA[(d &&& 15#32).toNat]? = some (.v (.int .u32 ((cbit4 (d &&& 15#32)).toNat))) := by
  rw [get_tab (nib_lt d)]
  simp only [tabV, BitVec.ofNat_toNat, BitVec.setWidth_eq]
theorem cbit4_prog (c : BitVec 32) : (c >>> 4) ^^^ cbit4 (c &&& 15#32) = cbit4 c := (cbit4_nib c).symm
theorem nib_ok (d : BitVec 32) : ((0 : Int) ≤ ((d &&& 15#32).toNat : Int) ∧ ((d &&& 15#32).toNat : Int) < ((16 : Nat) : Int)) = True := eq_true ⟨by omega, by have := nib_lt d; omega⟩
theorem take_snoc {α : Type} {l : List α} {k : Nat} {x : α} (h : l[k]? = some x) : l.take (k + 1) = l.take k ++ [x] := by
  obtain ⟨hk, rfl⟩ := List.getElem?_eq_some_iff.1 h
  rw [List.take_succ_eq_append_getElem hk]
theorem cgo_snoc {c : BitVec 32} {l : List Int} {k : Nat} {x : Int} (h : l[k]? = some x) : cgo c (l.take (k + 1)) = cbit4 (cbit4 (cgo c (l.take k) ^^^ BitVec.ofInt 32 x)) := by rw [take_snoc h, crc_snoc]; rfl
abbrev L_ext (fr : Bool) (c : BitVec 32) (l : List Int) (k : Nat) : ASt := ⟨envOf [(0, .v (.int .u32 ((cgo c (l.take k)).toNat))), (5, .op 0 0), (11, fB fr l), (12, .v (.int .i64 l.length)), (13, .v (.int .i64 k))], heapOf [(0, .row true 399 tabA)], 1⟩
set_option maxHeartbeats 1000000 in
theorem ext_spec (fr : Bool) (c : BitVec 32) (l : List Int) (nb : Nat) (hl : l.length ≤ 140737488355328) : ASound Tryz.prog 238 [.v (.int .u32 (c.toNat)), fB fr l] nb (.ret (.v (.int .u32 ((~~~ (cgo (~~~ c) l)).toNat))) []) := by
  refine ok_238.sound (by simp) ⟨trivial, al_fB l, trivial⟩ ?_
  simp only [ac_238, TT, ↓reduceIte, Nat.reduceEqDiff, Nat.reduceAdd, Nat.reduceMul, reduceCtorEq, Nat.reduceLeDiff]
  refine ⟨_, nibbles_spec _, ?_⟩
  simp only [len_tab, not_u32, u32_back, TT, ↓reduceIte, Nat.reduceEqDiff, Nat.reduceAdd, Nat.reduceMul, reduceCtorEq, Nat.reduceLeDiff]
  rw [setN_all tabA z16 rfl]
  refine AWc.family (L_ext fr (~~~ c) l) (fun k => k ≤ l.length) (fun k => l.length - k) 0 (Nat.zero_le _) ?_ ?_
  · refine Weak.calc [(200000, 0)] (by decide) ?_ ?_ <;> simp [WT, al_tab, ren_tab, cgo]
  · intro k hk
    by_cases hlt : k < l.length
    · obtain ⟨x, hx, e1, e0⟩ := lt_at hlt
      simp only [L_ext, e1, e0, get_B hx, u32_wrap x, xor_u32, and_u32, u32_back, sh_4, lit_15, nib_ok, get_tab2, cbit4_prog, TT, ↓reduceIte, Nat.reduceEqDiff, Nat.reduceAdd, Nat.reduceMul, reduceCtorEq, Nat.reduceLeDiff]
      refine famC_next (k + 1) (by omega) (by omega) ?_
      refine Weak.calc [(0, 0)] (by decide) ?_ ?_ <;> simp [WT, al_tab, ren_tab, cgo_snoc hx, wrap64 (x := (k : Int) + 1) (by omega)]
    · obtain rfl : k = l.length := by omega
      have e1 : ¬ ((l.length : Int) < (l.length : Int)) := by omega
      simp only [L_ext, e1, not_u32, u32_back, List.take_length, TT, ↓reduceIte, Nat.reduceEqDiff, Nat.reduceAdd, Nat.reduceMul, reduceCtorEq, Nat.reduceLeDiff]
      exact Ends.data (.inr rfl) (by simp [ET]) trivial
theorem sum_spec (fr : Bool) (l : List Int) (nb : Nat) (hl : l.length ≤ 140737488355328) : ASound Tryz.prog 208 [fB fr l] nb (.ret (.v (.int .u32 ((crc l).toNat))) []) := by
  refine ok_208.sound (by simp) ⟨al_fB l, trivial⟩ ?_
  simp only [ac_208, TT, ↓reduceIte, Nat.reduceEqDiff, Nat.reduceAdd, Nat.reduceMul, reduceCtorEq, Nat.reduceLeDiff]
  refine ⟨_, ext_spec fr 0#32 l _ hl, ?_⟩
  simp only [TT, ↓reduceIte, Nat.reduceEqDiff, Nat.reduceAdd, Nat.reduceMul, reduceCtorEq, Nat.reduceLeDiff]
  exact Ends.data (.inr rfl) (by simp [ET, crc]) trivial
abbrev L_rext (fr : Bool) (c : BitVec 32) (l : List Int) (k : Nat) : ASt := ⟨envOf [(0, .v (.int .u32 ((cgo c (l.take k)).toNat))), (1, fB fr l), (5, .v (.int .i64 k))], heapOf [], 0⟩
abbrev L_rext2 (fr : Bool) (d : BitVec 32) (l : List Int) (k j : Nat) : ASt := ⟨envOf [(0, .v (.int .u32 ((cbn j d).toNat))), (1, fB fr l), (5, .v (.int .i64 k)), (6, .v (.int .i64 j))], heapOf [], 0⟩
theorem bit_eq (c : BitVec 32) : (((c &&& 1#32).toNat : Int) = 1) ↔ (c &&& 1#32 = 1#32) := by
  constructor
  · intro h
    apply BitVec.eq_of_toNat_eq
    show (c &&& 1#32).toNat = 1
    omega
  · intro h; rw [h]; rfl
theorem cbit_yes {c : BitVec 32} (h : c &&& 1#32 = 1#32) : (c >>> 1) ^^^ 3988292384#32 = cbit c := by unfold cbit; rw [if_pos h]
theorem cbit_no {c : BitVec 32} (h : ¬ c &&& 1#32 = 1#32) : c >>> 1 = cbit c := by unfold cbit; rw [if_neg h]
set_option maxHeartbeats 1000000 in
theorem rext_spec (fr : Bool) (c : BitVec 32) (l : List Int) (nb : Nat) (hl : l.length ≤ 140737488355328) : ASound Tryz.prog 239 [.v (.int .u32 (c.toNat)), fB fr l] nb (.ret (.v (.int .u32 ((~~~ (cgo (~~~ c) l)).toNat))) []) := by
  refine ok_239.sound (by simp) ⟨trivial, al_fB l, trivial⟩ ?_
  simp only [ac_239, not_u32, u32_back, TT, ↓reduceIte, Nat.reduceEqDiff, Nat.reduceAdd, Nat.reduceMul, reduceCtorEq, Nat.reduceLeDiff]
  refine AWc.family (L_rext fr (~~~ c) l) (fun k => k ≤ l.length) (fun k => l.length - k) 0 (Nat.zero_le _) ?_ ?_
  · refine Weak.calc [] (by decide) ?_ ?_ <;> simp [WT, cgo]
  · intro k hk
    by_cases hlt : k < l.length
    · obtain ⟨x, hx, e1, e0⟩ := lt_at hlt
      simp only [L_rext, e1, e0, get_B hx, u32_wrap x, xor_u32, u32_back, TT, ↓reduceIte, Nat.reduceEqDiff, Nat.reduceAdd, Nat.reduceMul, reduceCtorEq, Nat.reduceLeDiff]
      refine AWc.family (L_rext2 fr (cgo (~~~ c) (l.take k) ^^^ BitVec.ofInt 32 x) l k) (fun j => j ≤ 8) (fun j => 8 - j) 0 (by omega) ?_ ?_
      · refine Weak.calc [] (by decide) ?_ ?_ <;> simp [WT, cbn]
      · intro j hj
        generalize hd : cgo (~~~ c) (l.take k) ^^^ BitVec.ofInt 32 x = d
        by_cases hjl : j < 8
        · have f1 : (j : Int) < 8 := by omega
          by_cases hb : cbn j d &&& 1#32 = 1#32
          · have hb' := (bit_eq _).2 hb
            simp only [L_rext2, f1, sh_1, and_u32, xor_u32, u32_back, lit_poly, lit_one, hb', cbit_yes hb, TT, ↓reduceIte, Nat.reduceEqDiff, Nat.reduceAdd, Nat.reduceMul, reduceCtorEq, Nat.reduceLeDiff]
            refine famC_next (j + 1) (by omega) (by omega) ?_
            refine Weak.calc [] (by decide) ?_ ?_ <;> simp [WT, cbn, wrap64 (x := (j : Int) + 1) (by omega)]
          · have hb' := mt (bit_eq _).1 hb
            simp only [L_rext2, f1, sh_1, and_u32, xor_u32, u32_back, lit_poly, lit_one, hb', cbit_no hb, TT, ↓reduceIte, Nat.reduceEqDiff, Nat.reduceAdd, Nat.reduceMul, reduceCtorEq, Nat.reduceLeDiff]
            refine famC_next (j + 1) (by omega) (by omega) ?_
            refine Weak.calc [] (by decide) ?_ ?_ <;> simp [WT, cbn, wrap64 (x := (j : Int) + 1) (by omega)]
        · obtain rfl : j = 8 := by omega
          have f1 : ¬ ((8 : Nat) : Int) < 8 := by decide
          simp only [L_rext2, f1, TT, ↓reduceIte, Nat.reduceEqDiff, Nat.reduceAdd, Nat.reduceMul, reduceCtorEq, Nat.reduceLeDiff]
          refine famC_next (k + 1) (by omega) (by omega) ?_
          refine Weak.calc [] (by decide) ?_ ?_ <;> simp [WT, cgo_snoc hx, hd, cbn, cbit4, wrap64 (x := (k : Int) + 1) (by omega)]
    · obtain rfl : k = l.length := by omega
      have e1 : ¬ ((l.length : Int) < (l.length : Int)) := by omega
      simp only [L_rext, e1, not_u32, u32_back, List.take_length, TT, ↓reduceIte, Nat.reduceEqDiff, Nat.reduceAdd, Nat.reduceMul, reduceCtorEq, Nat.reduceLeDiff]
      exact Ends.data (.inr rfl) (by simp [ET]) trivial
theorem rsum_spec (fr : Bool) (l : List Int) (nb : Nat) (hl : l.length ≤ 140737488355328) : ASound Tryz.prog 210 [fB fr l] nb (.ret (.v (.int .u32 ((crc l).toNat))) []) := by
  refine ok_210.sound (by simp) ⟨al_fB l, trivial⟩ ?_
  simp only [ac_210, TT, ↓reduceIte, Nat.reduceEqDiff, Nat.reduceAdd, Nat.reduceMul, reduceCtorEq, Nat.reduceLeDiff]
  refine ⟨_, rext_spec fr 0#32 l _ hl, ?_⟩
  simp only [TT, ↓reduceIte, Nat.reduceEqDiff, Nat.reduceAdd, Nat.reduceMul, reduceCtorEq, Nat.reduceLeDiff]
  exact Ends.data (.inr rfl) (by simp [ET, crc]) trivial
theorem rlow_spec (c : BitVec 32) (nb : Nat) : ASound Tryz.prog 209 [.v (.int .u32 (c.toNat))] nb (.ret (fB true (low4 c)) []) := by
  refine ok_209.sound (by simp) ⟨trivial, trivial⟩ ?_
  simp only [ac_209, sh_8, sh_16, sh_24, u8_wrap, TT, ↓reduceIte, Nat.reduceEqDiff, Nat.reduceAdd, Nat.reduceMul, reduceCtorEq, Nat.reduceLeDiff]
  refine Ends.weak (Weak.freezeC 1200000 rfl (l := [(2, fB true (low4 c))]) (h := []) ?_ ?_) (Ends.data (.inr rfl) (by simp [ET, fB]) (al_fB _))
  · simp [WT, low4, eB]
  · simp [WT]
end Go.Proofs.YtonglhkiobibgaaGreatDoor
namespace Go.Proofs.YtonglhkiobibgaaGreatDoor
open Go.RowKit
set_option maxRecDepth 100000
def okB (l : List Int) : Prop := ∀ x ∈ l, 0 ≤ x ∧ x < 256
theorem ASound.nil1 {P : Program} {f : FuncId} {fr : Bool} {rest : List AV} {nb : Nat} {am : AM} (h : ∀ A k, ASound P f (.v (.slice A 0 k) :: rest) nb am) : ASound P f (.fs fr [] 0 :: rest) nb am := by
  refine ⟨(h none 0).1, fun c us r R W hrun hr hfr hv => ?_⟩
  obtain ⟨u, us', rfl, h1, h2⟩ := hv
  obtain ⟨A, k, rfl, hk, _⟩ := h1
  exact (h A k).2 c _ r R W hrun hr hfr ⟨_, us', rfl, rfl, h2⟩
theorem bytesClone_spec (fr : Bool) (l : List Int) (nb : Nat) (h : l.length ≤ 140737488355328) : ASound Tryz.prog 108 [fB fr l] nb (.ret (fB true l) []) := by
  by_cases h0 : l.length = 0
  · have hl : l = [] := List.eq_nil_of_length_eq_zero h0
    subst hl
    refine ASound.nil1 fun A k => ?_
    refine ok_108.sound (by simp) ⟨trivial, trivial⟩ ?_
    cases A with
    | none =>
      simp only [ac_108, TT, ↓reduceIte, Nat.reduceEqDiff, Nat.reduceAdd, Nat.reduceMul, reduceCtorEq, Nat.reduceLeDiff]
      exact Ends.imp (r0 := .v (.slice none 0 0)) (.inr rfl) (by simp [ET]) trivial (Imp.nil true)
    | some A =>
      simp only [ac_108, TT, ↓reduceIte, Nat.reduceEqDiff, Nat.reduceAdd, Nat.reduceMul, reduceCtorEq, Nat.reduceLeDiff]
      refine Ends.weak (Weak.freezeC 500000 rfl (l := [(2, fB true [])]) (h := []) ?_ ?_) (Ends.data (.inr rfl) (by simp [ET, fB]) (al_fB []))
      · simp [WT, eB]
      · simp [WT]
  · refine ok_108.sound (by simp) ⟨al_fB l, trivial⟩ ?_
    simp only [ac_108, len_B, h, h0, TT, ↓reduceIte, Nat.reduceEqDiff, Nat.reduceAdd, Nat.reduceMul, reduceCtorEq, Nat.reduceLeDiff]
    refine Ends.weak (Weak.freezeC 500000 rfl (l := [(2, fB true l)]) (h := []) ?_ ?_) (Ends.data (.inr rfl) (by simp [ET, fB]) (al_fB l))
    · simp [WT]
    · simp [WT]
def lowC (c : BitVec 32) (k : Nat) : List AV := (List.range 4).map fun j => .v (.int .u8 (if j < k then ((c >>> (8 * j)).toNat : Int) % 256 else 0))
theorem low_set {c : BitVec 32} {k : Nat} (h : k < 4) : (lowC c k).set k (.v (.int .u8 (((c >>> (8 * k)).toNat : Int) % 256))) = lowC c (k + 1) := by
  apply List.ext_getElem?
  intro j
  rw [List.getElem?_set]
  simp only [lowC, List.length_map, List.length_range, List.getElem?_map]
  by_cases hj : j < 4
  · rw [List.getElem?_range hj]
    by_cases e : k = j
    · subst e; simp [h]
    · rw [if_neg e]
      simp only [Option.map_some]
      congr 4
      simp only [eq_iff_iff]
      omega
  · have h2 : (List.range 4)[j]? = none := by rw [List.getElem?_eq_none_iff]; simp; omega
    rw [h2, if_neg (by omega)]; rfl
theorem low_len (c : BitVec 32) (k : Nat) : (lowC c k).length = 4 := by simp [lowC]
theorem low_4 (c : BitVec 32) : lowC c 4 = eB (low4 c) := by simp [lowC, eB, low4, List.range_succ]
theorem al_low {p : Nat → Prop} (c : BitVec 32) (k : Nat) : AlL p (lowC c k) := AlL_map (e := fun j => .v (.int .u8 (if j < k then ((c >>> (8 * j)).toNat : Int) % 256 else 0))) (fun j => trivial) _
theorem ren_low {ρ : Nat → Nat} (c : BitVec 32) (k : Nat) : renL ρ (lowC c k) = lowC c k := renL_id (p := fun _ => False) (fun _ h => h.elim) (al_low c k)
abbrev L_low (c : BitVec 32) (k : Nat) : ASt := ⟨envOf [(0, .v (.int .u32 (c.toNat))), (3, .os 0 0 4 1), (7, .v (.int .i64 4)), (8, .v (.int .i64 k))], heapOf [(0, .row true 5 (lowC c k))], 1⟩
theorem low_spec (c : BitVec 32) (nb : Nat) : ASound Tryz.prog 207 [.v (.int .u32 (c.toNat))] nb (.ret (fB true (low4 c)) []) := by
  refine ok_207.sound (by simp) ⟨trivial, trivial⟩ ?_
  simp only [ac_207, TT, ↓reduceIte, Nat.reduceEqDiff, Nat.reduceAdd, Nat.reduceMul, reduceCtorEq, Nat.reduceLeDiff]
  refine AWc.family (L_low c) (fun k => k ≤ 4) (fun k => 4 - k) 0 (by omega) ?_ ?_
  · refine Weak.calc [(100000, 0)] (by decide) ?_ ?_
    · simp [WT]
    · simp [WT]; rfl
  · intro k hk
    by_cases hlt : k < 4
    · have e1 : (k : Int) < 4 := by omega
      have e2 : (k : Int) < ((4 : Nat) : Int) := by omega
      have e0 : (0 : Int) ≤ (k : Int) := by omega
      have w8 : IntKind.i64.wrap (8 * (k : Int)) = 8 * (k : Int) := wrap64 (by omega)
      have hs := sh_r c (8 * (k : Int)) (by omega) (by omega)
      rw [show (8 * (k : Int)).toNat = 8 * k from by omega] at hs
      simp only [L_low, e1, e2, e0, w8, hs, u8_wrap, low_set hlt, low_len, TT, ↓reduceIte, Nat.reduceEqDiff, Nat.reduceAdd, Nat.reduceMul, reduceCtorEq, Nat.reduceLeDiff]
      rw [if_pos (by omega)]
      refine famC_next (k + 1) (by omega) (by omega) ?_
      refine Weak.calc [(0, 0)] (by decide) ?_ ?_ <;> simp [WT, al_low, ren_low, wrap64 (x := (k : Int) + 1) (by omega)]
    · obtain rfl : k = 4 := by omega
      have e1 : ¬ ((4 : Nat) : Int) < 4 := by decide
      simp only [L_low, e1, low_4, TT, ↓reduceIte, Nat.reduceEqDiff, Nat.reduceAdd, Nat.reduceMul, reduceCtorEq, Nat.reduceLeDiff]
      refine Ends.weak (Weak.freezeC 0 rfl (l := [(2, fB true (low4 c))]) (h := []) ?_ ?_) (Ends.data (.inr rfl) (by simp [ET, fB]) (al_fB _))
      · have : (eB (low4 c)).take 4 = eB (low4 c) := by rw [List.take_of_length_le]; simp [eB, low4]
        simp [WT, this, show (low4 c).length = 4 from rfl]
      · simp [WT]
theorem grow_spec (n : Nat) (nb : Nat) (h0 : 0 < n) (h : n ≤ 140737488355328) : ASound Tryz.prog 237 [.v (.slice none 0 0), .v (.int .i64 n)] nb (.ret (.os nb 0 0 1) [(nb, some (.row true 5 []))]) := by
  refine ok_237.sound (by simp) ⟨trivial, trivial, trivial⟩ ?_
  have e1 : ¬ ((n : Int) < 0) := by omega
  have e2 : (0 : Int) < (n : Int) := by omega
  have w0 : IntKind.i64.wrap (((0 : Nat) : Int) - ((0 : Nat) : Int)) = 0 := rfl
  have w1 : IntKind.i64.wrap ((n : Int) - 0) = n := by rw [Int.sub_zero]; exact wrap64 (by omega)
  have z0 : ((0 : Int) ≤ ((0 : Nat) : Int) ∧ ((0 : Nat) : Int) ≤ ((0 : Nat) : Int)) = True := eq_true ⟨by decide, by decide⟩
  have z1 : ((0 : Int) ≤ ((0 : Nat) : Int) ∧ ((0 : Nat) : Int) ≤ (n : Int)) = True := eq_true ⟨by decide, by omega⟩
  simp only [ac_237, e1, e2, w0, w1, h, z0, z1, Nat.zero_mul, TT, ↓reduceIte, Nat.reduceEqDiff, Nat.reduceAdd, Nat.reduceMul, reduceCtorEq, Nat.reduceLeDiff]
  refine Ends.weak (Weak.forget 1800000 [(4, .os 1800000 0 0 1)] (fun t v hv => by simp at hv; obtain ⟨rfl, rfl⟩ := hv; simp [ET]) (by simp [ET]; exact ⟨rfl, rfl, rfl⟩)) ?_
  exact Ends.rows1 (i := 1800000) (r0 := .os 1800000 0 0 1) (.inr rfl) (by simp [ET]) rfl trivial (by simp [Al]) (by simp [ren, rn])
/-- lists, one behind the other -/
def catB (ls : List (Bool × List Int)) : List Int := ls.flatMap (·.2)
def eLs (ls : List (Bool × List Int)) : List AV := ls.map fun p => fB p.1 p.2
theorem al_Ls {p : Nat → Prop} (ls : List (Bool × List Int)) : AlL p (eLs ls) := AlL_map (e := fun p => fB p.1 p.2) (fun q => al_fB q.2) ls
theorem ren_Ls {ρ : Nat → Nat} (ls : List (Bool × List Int)) : renL ρ (eLs ls) = eLs ls := renL_id (p := fun _ => False) (fun _ h => h.elim) (al_Ls ls)
theorem get_Ls {ls : List (Bool × List Int)} {i : Nat} {q : Bool × List Int} (h : ls[i]? = some q) : (eLs ls)[i]? = some (.fs q.1 (eB q.2) q.2.length) := by simp [eLs, h, fB]
theorem cat_snoc {ls : List (Bool × List Int)} {k : Nat} {q : Bool × List Int} (h : ls[k]? = some q) : catB (ls.take (k + 1)) = catB (ls.take k) ++ q.2 := by
  rw [take_snoc h]; simp [catB]
theorem cat_le (ls : List (Bool × List Int)) (k : Nat) : (catB (ls.take k)).length ≤ (catB ls).length := by
  have : catB ls = catB (ls.take k) ++ catB (ls.drop k) := by unfold catB; rw [← List.flatMap_append, List.take_append_drop]
  rw [this, List.length_append]; omega
abbrev L_cat1 (y : Bool) (ls : List (Bool × List Int)) (k : Nat) : ASt := ⟨envOf [(0, .os 0 0 ls.length 1), (3, .v (.int .i64 (catB (ls.take k)).length)), (9, .os 0 0 ls.length 1), (10, .v (.int .i64 ls.length)), (11, .v (.int .i64 k))], heapOf [(0, .row y 37 (eLs ls))], 1⟩
abbrev L_cat2 (y : Bool) (ls : List (Bool × List Int)) (k : Nat) : ASt := ⟨envOf [(6, .os 1 0 (catB (ls.take k)).length 1), (25, .os 0 0 ls.length 1), (26, .v (.int .i64 ls.length)), (27, .v (.int .i64 k))], heapOf [(0, .row y 37 (eLs ls)), (1, .row true 5 (eB (catB (ls.take k))))], 2⟩
set_option maxHeartbeats 1000000 in
theorem concat_spec (y : Bool) (ls : List (Bool × List Int)) (id nb : Nat) (hid : id < nb) (hn : ls.length ≤ 1000) (hne : ls ≠ []) (h0 : 0 < (catB ls).length) (h : (catB ls).length ≤ 140737488355328) :
    ASound Tryz.prog 206 [.os id 0 ls.length 1] nb (rowM id (.row y 37 (eLs ls)) (.ret (.os nb 0 (catB ls).length 1) [(id, some (.row y 37 (eLs ls))), (nb, some (.row true 5 (eB (catB ls))))])) := by
  refine ok_206.soundR (by simp) ⟨rfl, trivial⟩ (by intro h; exact hne (List.map_eq_nil_iff.1 h)) (al_Ls ls) (al_Ls ls) rfl hid ?_
  simp only [ac_206, renL, ren, TT, ↓reduceIte, Nat.reduceEqDiff, Nat.reduceAdd, Nat.reduceMul, reduceCtorEq, Nat.reduceLeDiff]
  refine AWc.family (L_cat1 y ls) (fun k => k ≤ ls.length) (fun k => ls.length - k) 0 (Nat.zero_le _) ?_ ?_
  · refine Weak.calc [(0, 0)] (by decide) ?_ ?_ <;> simp [WT, al_Ls, ren_Ls, catB]
  · intro k hk
    by_cases hlt : k < ls.length
    · obtain ⟨q, hq, e1, e0⟩ := lt_at hlt
      have hle := cat_le ls (k + 1)
      rw [cat_snoc hq, List.length_append] at hle
      have w1 : IntKind.i64.wrap (((catB (ls.take k)).length : Int) + (q.2.length : Int)) = (catB (ls.take k)).length + (q.2.length : Int) := wrap64 (by omega)
      have n1 : ¬ (((catB (ls.take k)).length : Int) + (q.2.length : Int) < 0) := by omega
      simp only [L_cat1, e1, e0, get_Ls hq, w1, n1, TT, ↓reduceIte, Nat.reduceEqDiff, Nat.reduceAdd, Nat.reduceMul, reduceCtorEq, Nat.reduceLeDiff]
      refine famC_next (k + 1) (by omega) (by omega) ?_
      refine Weak.calc [(0, 0)] (by decide) ?_ ?_ <;> simp [WT, al_Ls, ren_Ls, cat_snoc hq, wrap64 (x := (k : Int) + 1) (by omega)]
    · obtain rfl : k = ls.length := by omega
      have e1 : ¬ ((ls.length : Int) < (ls.length : Int)) := by omega
      simp only [L_cat1, e1, List.take_length, TT, ↓reduceIte, Nat.reduceEqDiff, Nat.reduceAdd, Nat.reduceMul, reduceCtorEq, Nat.reduceLeDiff]
      refine ⟨_, grow_spec (catB ls).length _ h0 h, ?_⟩
      simp only [TT, ↓reduceIte, Nat.reduceEqDiff, Nat.reduceAdd, Nat.reduceMul, reduceCtorEq, Nat.reduceLeDiff]
      refine AWc.family (L_cat2 y ls) (fun k => k ≤ ls.length) (fun k => ls.length - k) 0 (Nat.zero_le _) ?_ ?_
      · refine Weak.calc [(0, 0), (200001, 1)] (by decide) ?_ ?_ <;> simp [WT, al_Ls, ren_Ls, catB, eB]
      · intro k hk
        by_cases hlt : k < ls.length
        · obtain ⟨q, hq, e1, e0⟩ := lt_at hlt
          have hle := cat_le ls (k + 1)
          rw [cat_snoc hq, List.length_append] at hle
          simp only [L_cat2, e1, e0, get_Ls hq, len_B, TT, ↓reduceIte, Nat.reduceEqDiff, Nat.reduceAdd, Nat.reduceMul, reduceCtorEq, Nat.reduceLeDiff]
          rw [if_pos (by omega)]
          refine famC_next (k + 1) (by omega) (by omega) ?_
          refine Weak.calc [(0, 0), (600002, 1)] (by decide) ?_ ?_ <;> simp [WT, al_Ls, ren_Ls, cat_snoc hq, app_B, wrap64 (x := (k : Int) + 1) (by omega)]
        · obtain rfl : k = ls.length := by omega
          have e1 : ¬ ((ls.length : Int) < (ls.length : Int)) := by omega
          simp only [L_cat2, e1, List.take_length, TT, ↓reduceIte, Nat.reduceEqDiff, Nat.reduceAdd, Nat.reduceMul, reduceCtorEq, Nat.reduceLeDiff]
          exact EndsR.rows1 (i := 1) (r0 := .os 1 0 (catB ls).length 1) (.inr rfl) (by simp [ET]) rfl (by decide) rfl (al_B _) (by simp [Al]) (by simp [ren, rn])
theorem low_length (c : BitVec 32) : (low4 c).length = 4 := rfl
theorem seal_spec (fr : Bool) (l : List Int) (nb : Nat) (h : l.length ≤ 140737488355320) : ASound Tryz.prog 150 [fB fr l] nb (.ret (fB true (sealB l)) []) := by
  refine ok_150.sound (by simp) ⟨al_fB l, trivial⟩ ?_
  simp only [ac_150, TT, ↓reduceIte, Nat.reduceEqDiff, Nat.reduceAdd, Nat.reduceMul, reduceCtorEq, Nat.reduceLeDiff]
  refine ⟨_, sum_spec fr l _ (by omega), ?_⟩
  simp only [TT, ↓reduceIte, Nat.reduceEqDiff, Nat.reduceAdd, Nat.reduceMul, reduceCtorEq, Nat.reduceLeDiff]
  refine ⟨_, low_spec (crc l) _, ?_⟩
  simp only [TT, ↓reduceIte, Nat.reduceEqDiff, Nat.reduceAdd, Nat.reduceMul, reduceCtorEq, Nat.reduceLeDiff]
  have hc : catB [(fr, l), (true, low4 (crc l))] = sealB l := by simp [catB, sealB]
  refine ⟨_, concat_spec true [(fr, l), (true, low4 (crc l))] 500000 600000 (by omega) (by simp) (by simp) (by rw [hc]; simp [sealB, low_length]) (by rw [hc]; simp [sealB, low_length]; omega), ?_⟩
  rw [hc]
  simp only [eLs, low_length, TT, ↓reduceIte, Nat.reduceEqDiff, Nat.reduceAdd, Nat.reduceMul, reduceCtorEq, Nat.reduceLeDiff]
  refine Ends.weak (Weak.freezeC 600000 rfl (l := [(2, fB true (sealB l))]) (h := []) ?_ ?_) (Ends.data (.inr rfl) (by simp [ET, fB]) (al_fB _))
  · simp [WT]
  · simp [WT]
theorem rseal_spec (fr : Bool) (l : List Int) (nb : Nat) (h : l.length ≤ 140737488355320) : ASound Tryz.prog 154 [fB fr l] nb (.ret (fB true (sealB l)) []) := by
  refine ok_154.sound (by simp) ⟨al_fB l, trivial⟩ ?_
  simp only [ac_154, TT, ↓reduceIte, Nat.reduceEqDiff, Nat.reduceAdd, Nat.reduceMul, reduceCtorEq, Nat.reduceLeDiff]
  refine ⟨_, copied_spec fr l _ (by omega), ?_⟩
  simp only [TT, ↓reduceIte, Nat.reduceEqDiff, Nat.reduceAdd, Nat.reduceMul, reduceCtorEq, Nat.reduceLeDiff]
  refine ⟨_, rsum_spec fr l _ (by omega), ?_⟩
  simp only [TT, ↓reduceIte, Nat.reduceEqDiff, Nat.reduceAdd, Nat.reduceMul, reduceCtorEq, Nat.reduceLeDiff]
  refine ⟨_, rlow_spec (crc l) _, ?_⟩
  simp only [len_B, low_length, TT, ↓reduceIte, Nat.reduceEqDiff, Nat.reduceAdd, Nat.reduceMul, reduceCtorEq, Nat.reduceLeDiff]
  rw [if_pos (by omega)]
  have hs : eB l ++ eB (low4 (crc l)) = eB (sealB l) := by simp [eB, sealB]
  have hn : l.length + 4 = (sealB l).length := by simp [sealB, low_length]
  rw [hs, hn]
  refine Ends.weak (Weak.freezeC 600000 rfl (l := [(2, fB true (sealB l))]) (h := []) ?_ ?_) (Ends.data (.inr rfl) (by simp [ET, fB]) (al_fB _))
  · simp [WT]
  · simp [WT]
end Go.Proofs.YtonglhkiobibgaaGreatDoor
namespace Go.Proofs.YtonglhkiobibgaaGreatDoor
open Go.RowKit
set_option maxRecDepth 100000
theorem strOf_data (l : List Int) : (strOf l).data.toList = l.map fun n => UInt8.ofNat n.toNat := by
  have key : ∀ (l : List Int) (b : ByteArray), (l.foldl (fun r n => r.push (UInt8.ofNat n.toNat)) b).data.toList = b.data.toList ++ l.map fun n => UInt8.ofNat n.toNat := by
    intro l
    induction l with
    | nil => intro b; simp
    | cons x l ih => intro b; rw [List.foldl_cons, ih]; simp [ByteArray.push]
  have := key l .empty
  simpa [strOf] using this
theorem strOf_inj {a b : List Int} (ha : okB a) (hb : okB b) : strOf a = strOf b ↔ a = b := by
  constructor
  · intro h
    have h2 : (a.map fun n : Int => UInt8.ofNat n.toNat) = b.map fun n : Int => UInt8.ofNat n.toNat := by rw [← strOf_data, ← strOf_data, h]
    have hl : a.length = b.length := by simpa using congrArg List.length h2
    apply List.ext_getElem? 
    intro j
    by_cases hj : j < a.length
    · have e := congrArg (fun l => l[j]?) h2
      simp only [List.getElem?_map, List.getElem?_eq_getElem hj, List.getElem?_eq_getElem (show j < b.length by omega), Option.map_some, Option.some.injEq] at e
      have x1 := ha a[j] (List.getElem_mem _)
      have x2 := hb b[j] (List.getElem_mem _)
      have e2 := congrArg UInt8.toNat e
      simp only [UInt8.toNat_ofNat'] at e2
      rw [List.getElem?_eq_getElem hj, List.getElem?_eq_getElem (show j < b.length by omega)]
      congr 1
      omega
    · rw [List.getElem?_eq_none_iff.2 (by omega), List.getElem?_eq_none_iff.2 (by omega)]
  · rintro rfl; rfl
theorem bytesOf_B (l : List Int) : bytesOf (eB l) = some l := by
  induction l with
  | nil => rfl
  | cons x l ih =>
    show bytesOf (.v (.int .u8 x) :: eB l) = _
    rw [bytesOf, ih]
theorem okB_low (c : BitVec 32) : okB (low4 c) := by
  intro x hx
  simp only [low4, List.mem_cons, List.not_mem_nil, or_false] at hx
  rcases hx with rfl | rfl | rfl | rfl <;> omega
theorem okB_drop {l : List Int} (h : okB l) (n : Nat) : okB (l.drop n) := fun x hx => h x (List.mem_of_mem_drop hx)
theorem okB_take {l : List Int} (h : okB l) (n : Nat) : okB (l.take n) := fun x hx => h x (List.mem_of_mem_take hx)
theorem equal_spec (fa fb : Bool) (a b : List Int) (nb : Nat) (ha : okB a) (hb : okB b) : ASound Tryz.prog 107 [fB fa a, fB fb b] nb (.ret (.v (.bool (decide (a = b)))) []) := by
  refine ok_107.sound (by simp) ⟨al_fB a, al_fB b, trivial⟩ ?_
  simp only [ac_107, len_B, ↓bytesOf_B, strOp, strOf_inj ha hb, TT, ↓reduceIte, Nat.reduceEqDiff, Nat.reduceAdd, Nat.reduceMul, reduceCtorEq, Nat.reduceLeDiff]
  exact Ends.data (.inr rfl) (by simp [ET]) trivial
theorem openB_app {a b : List Int} (h : b.length = 4) : openB (a ++ b) = if b = low4 (crc a) then (a, 0) else ([], 21) := by
  unfold openB
  have e : (a ++ b).length - 4 = a.length := by rw [List.length_append]; omega
  rw [if_neg (by rw [List.length_append]; omega), e]
  simp
theorem open4 {l : List Int} (h : ¬ l.length < 4) : ∃ a b, l = a ++ b ∧ b.length = 4 := ⟨l.take (l.length - 4), l.drop (l.length - 4), (List.take_append_drop _ _).symm, by rw [List.length_drop]; omega⟩
theorem imp_nilE (e : Int) : Imp (.tup [.v (.slice none 0 0), .v (.int .i64 e)]) (.tup [fB true [], .v (.int .i64 e)]) := Imp.tupL ⟨Imp.nil true, Imp.refl _, trivial⟩
theorem open_spec (fr : Bool) (l : List Int) (nb : Nat) (hb : okB l) (h : l.length ≤ 140737488355320) : ASound Tryz.prog 155 [fB fr l] nb (.ret (.tup [fB true (openB l).1, .v (.int .i64 (openB l).2)]) []) := by
  refine ok_155.sound (by simp) ⟨al_fB l, trivial⟩ ?_
  by_cases h4 : l.length < 4
  · have e1 : ((l.length : Int) < 4) := by omega
    simp only [ac_155, openB, e1, h4, TT, ↓reduceIte, Nat.reduceEqDiff, Nat.reduceAdd, Nat.reduceMul, reduceCtorEq, Nat.reduceLeDiff]
    exact Ends.imp (r0 := .tup [.v (.slice none 0 0), .v (.int .i64 8)]) (.inr rfl) (by simp [ET]) ⟨trivial, trivial, trivial⟩ (imp_nilE 8)
  · obtain ⟨a, b, rfl, hl⟩ := open4 h4
    rw [openB_app hl]
    have hla : (a ++ b).length = a.length + 4 := by rw [List.length_append]; omega
    rw [hla] at h h4
    have e1 : ¬ (((a.length + 4 : Nat) : Int) < 4) := by omega
    have w1 : IntKind.i64.wrap (((a.length + 4 : Nat) : Int) - 4) = (a.length : Int) := by rw [wrap64 (by omega)]; omega
    have c1 : ((0 : Int) ≤ (a.length : Int) ∧ (a.length : Int) ≤ ((a.length + 4 : Nat) : Int)) = True := eq_true ⟨by omega, by omega⟩
    have n2 : a.length + 4 - a.length = b.length := by omega
    have d1 : (eB (a ++ b)).drop a.length = eB b := by rw [drop_B]; simp
    have d2 : (eB (a ++ b)).take a.length = eB a := by rw [take_B]; simp
    simp only [ac_155, hla, e1, w1, c1, n2, d1, d2, tk_B, Nat.sub_zero, TT, ↓reduceIte, Nat.reduceEqDiff, Nat.reduceAdd, Nat.reduceMul, reduceCtorEq, Nat.reduceLeDiff]
    refine ⟨by rfl, ?_⟩
    refine ⟨_, sum_spec fr a _ (by omega), ?_⟩
    simp only [TT, ↓reduceIte, Nat.reduceEqDiff, Nat.reduceAdd, Nat.reduceMul, reduceCtorEq, Nat.reduceLeDiff]
    refine ⟨_, low_spec (crc a) _, ?_⟩
    simp only [TT, ↓reduceIte, Nat.reduceEqDiff, Nat.reduceAdd, Nat.reduceMul, reduceCtorEq, Nat.reduceLeDiff]
    refine ⟨_, equal_spec fr true b (low4 (crc a)) _ (fun x hx => hb x (by simp [hx])) (okB_low _), ?_⟩
    simp only [TT, ↓reduceIte, Nat.reduceEqDiff, Nat.reduceAdd, Nat.reduceMul, reduceCtorEq, Nat.reduceLeDiff]
    by_cases he : b = low4 (crc a)
    · simp only [he, TT, ↓reduceIte, Nat.reduceEqDiff, Nat.reduceAdd, Nat.reduceMul, reduceCtorEq, Nat.reduceLeDiff]
      refine ⟨_, bytesClone_spec fr a _ (by omega), ?_⟩
      simp only [TT, ↓reduceIte, Nat.reduceEqDiff, Nat.reduceAdd, Nat.reduceMul, reduceCtorEq, Nat.reduceLeDiff]
      exact Ends.data (.inr rfl) (by simp [ET]) ⟨al_B a, trivial, trivial⟩
    · simp only [he, TT, ↓reduceIte, Nat.reduceEqDiff, Nat.reduceAdd, Nat.reduceMul, reduceCtorEq, Nat.reduceLeDiff]
      exact Ends.imp (r0 := .tup [.v (.slice none 0 0), .v (.int .i64 21)]) (.inr rfl) (by simp [ET]) ⟨trivial, trivial, trivial⟩ (imp_nilE 21)
abbrev L_ropen (fr : Bool) (a b c : List Int) (k : Nat) : ASt := ⟨envOf [(0, fB fr (a ++ b)), (4, .v (.int .i64 a.length)), (5, fB true c), (6, .v (.int .i64 k))], heapOf [], 0⟩
theorem ropen_spec (fr : Bool) (l : List Int) (nb : Nat) (hb : okB l) (h : l.length ≤ 140737488355320) : ASound Tryz.prog 158 [fB fr l] nb (.ret (.tup [fB true (openB l).1, .v (.int .i64 (openB l).2)]) []) := by
  refine ok_158.sound (by simp) ⟨al_fB l, trivial⟩ ?_
  by_cases h4 : l.length < 4
  · have e1 : ((l.length : Int) < 4) := by omega
    simp only [ac_158, openB, e1, h4, TT, ↓reduceIte, Nat.reduceEqDiff, Nat.reduceAdd, Nat.reduceMul, reduceCtorEq, Nat.reduceLeDiff]
    exact Ends.imp (r0 := .tup [.v (.slice none 0 0), .v (.int .i64 8)]) (.inr rfl) (by simp [ET]) ⟨trivial, trivial, trivial⟩ (imp_nilE 8)
  · obtain ⟨a, b, rfl, hl⟩ := open4 h4
    rw [openB_app hl]
    have hla : (a ++ b).length = a.length + 4 := by rw [List.length_append]; omega
    rw [hla] at h h4
    have e1 : ¬ (((a.length + 4 : Nat) : Int) < 4) := by omega
    have w1 : IntKind.i64.wrap (((a.length + 4 : Nat) : Int) - 4) = (a.length : Int) := by rw [wrap64 (by omega)]; omega
    have c1 : ((0 : Int) ≤ (a.length : Int) ∧ (a.length : Int) ≤ ((a.length + 4 : Nat) : Int)) = True := eq_true ⟨by omega, by omega⟩
    have d2 : (eB (a ++ b)).take a.length = eB a := by rw [take_B]; simp
    simp only [ac_158, hla, e1, w1, c1, d2, Nat.sub_zero, TT, ↓reduceIte, Nat.reduceEqDiff, Nat.reduceAdd, Nat.reduceMul, reduceCtorEq, Nat.reduceLeDiff]
    refine ⟨_, rsum_spec fr a _ (by omega), ?_⟩
    simp only [TT, ↓reduceIte, Nat.reduceEqDiff, Nat.reduceAdd, Nat.reduceMul, reduceCtorEq, Nat.reduceLeDiff]
    refine ⟨_, rlow_spec (crc a) _, ?_⟩
    simp only [TT, ↓reduceIte, Nat.reduceEqDiff, Nat.reduceAdd, Nat.reduceMul, reduceCtorEq, Nat.reduceLeDiff]
    generalize hc : low4 (crc a) = c
    have hcl : c.length = 4 := by rw [← hc]; rfl
    refine AWc.family (L_ropen fr a b c) (fun k => k ≤ 4 ∧ b.take k = c.take k) (fun k => 4 - k) 0 ⟨by omega, rfl⟩ ?_ ?_
    · refine Weak.calc [] (by decide) ?_ ?_ <;> simp [WT, hla]
    · rintro k ⟨hk, hke⟩
      by_cases hlt : k < 4
      · obtain ⟨x, hx, f1, f0⟩ := lt_at (l := b) (k := k) (by omega)
        obtain ⟨z, hz, _, _⟩ := lt_at (l := c) (k := k) (by omega)
        have e1 : (k : Int) < 4 := by omega
        have w2 : IntKind.i64.wrap ((a.length : Int) + (k : Int)) = ((a.length + k : Nat) : Int) := by rw [wrap64 (by omega)]; omega
        have c2 : ((0 : Int) ≤ ((a.length + k : Nat) : Int) ∧ ((a.length + k : Nat) : Int) < ((a.length + 4 : Nat) : Int)) = True := eq_true ⟨by omega, by omega⟩
        have c3 : ((0 : Int) ≤ (k : Int) ∧ (k : Int) < (c.length : Int)) = True := eq_true ⟨by omega, by omega⟩
        have g1 : (eB (a ++ b))[a.length + k]? = some (.v (.int .u8 x)) := get_B (by rw [List.getElem?_append_right (by omega), Nat.add_sub_cancel_left]; exact hx)
        by_cases he : x = z
        · subst he
          simp only [L_ropen, hla, e1, w2, c2, c3, g1, get_B hz, decide_true, Bool.not_true, TT, ↓reduceIte, Nat.reduceEqDiff, Nat.reduceAdd, Nat.reduceMul, reduceCtorEq, Nat.reduceLeDiff]
          refine ⟨by rfl, ?_⟩
          refine famC_next (k + 1) (by omega) ⟨by omega, by rw [take_snoc hx, take_snoc hz, hke]⟩ ?_
          refine Weak.calc [] (by decide) ?_ ?_ <;> simp [WT, hla, wrap64 (x := (k : Int) + 1) (by omega)]
        · have hne : b ≠ c := by rintro rfl; rw [hx] at hz; cases hz; exact he rfl
          simp only [L_ropen, hla, e1, w2, c2, c3, g1, get_B hz, he, decide_false, Bool.not_false, TT, ↓reduceIte, Nat.reduceEqDiff, Nat.reduceAdd, Nat.reduceMul, reduceCtorEq, Nat.reduceLeDiff]
          refine ⟨by rfl, ?_⟩
          rw [if_neg hne]
          exact Ends.imp (r0 := .tup [.v (.slice none 0 0), .v (.int .i64 21)]) (.inr rfl) (by simp [ET]) ⟨trivial, trivial, trivial⟩ (imp_nilE 21)
      · obtain rfl : k = 4 := by omega
        have e1 : ¬ ((4 : Nat) : Int) < 4 := by decide
        have hbc : b = c := by rw [List.take_of_length_le (by omega), List.take_of_length_le (by omega)] at hke; exact hke
        simp only [L_ropen, hla, e1, c1, d2, Nat.sub_zero, TT, ↓reduceIte, Nat.reduceEqDiff, Nat.reduceAdd, Nat.reduceMul, reduceCtorEq, Nat.reduceLeDiff]
        refine ⟨_, copied_spec fr a _ (by omega), ?_⟩
        simp only [TT, ↓reduceIte, Nat.reduceEqDiff, Nat.reduceAdd, Nat.reduceMul, reduceCtorEq, Nat.reduceLeDiff]
        rw [if_pos hbc]
        refine Ends.weak (Weak.freezeC 500000 rfl (l := [(2, fB true a), (3, .v (.int .i64 0))]) (h := []) ?_ ?_) (Ends.data (.inr rfl) (by simp [ET, fB]) ⟨al_B a, trivial, trivial⟩)
        · simp [WT]
        · simp [WT]
end Go.Proofs.YtonglhkiobibgaaGreatDoor
namespace Go.Proofs.YtonglhkiobibgaaGreatDoor
open Go.RowKit
/-- a number in groups of 7 bits -/
def gp (m : Nat) : List Int := if m < 128 then [(m : Int)] else ((m % 128 + 128 : Nat) : Int) :: gp (m / 128)
termination_by m
decreasing_by omega
theorem gp_small {m : Nat} (h : m < 128) : gp m = [(m : Int)] := by rw [gp, if_pos h]
theorem gp_big {m : Nat} (h : ¬ m < 128) : gp m = ((m % 128 + 128 : Nat) : Int) :: gp (m / 128) := by rw [gp, if_neg h]
theorem gp_len : ∀ (k m : Nat), m < 128 ^ (k + 1) → (gp m).length ≤ k + 1
  | 0, m, h => by rw [gp_small (by simpa using h)]; simp
  | k + 1, m, h => by
    by_cases h1 : m < 128
    · rw [gp_small h1]; simp
    · rw [gp_big h1, List.length_cons]
      have := gp_len k (m / 128) (by rw [Nat.div_lt_iff_lt_mul (by decide), ← Nat.pow_succ]; exact h)
      omega
theorem gp_le {m : Nat} (h : m < 18446744073709551616) : (gp m).length ≤ 10 := gp_len 9 m (Nat.lt_of_lt_of_le h (by decide))
/-- a number with its sign -/
def zz (n : Int) : Nat := if 0 ≤ n then (2 * n).toNat else (-2 * n - 1).toNat
def i64ok (n : Int) : Prop := -9223372036854775808 ≤ n ∧ n ≤ 9223372036854775807
theorem zz_lt {n : Int} (h : i64ok n) : zz n < 18446744073709551616 := by
  unfold zz i64ok at *; split <;> omega
def encT (t : List Int) : List Int := gp t.length ++ t
def encR (r : Rec) : List Int := [r.kind, (r.nums.length : Int)] ++ r.nums.flatMap (fun n => gp (zz n)) ++ ((r.texts.length : Int) :: r.texts.flatMap encT)
def recE (r : Rec) : Int := if r.kind < 0 ∨ 255 < r.kind then 22 else if 64 < r.nums.length ∨ 64 < r.texts.length then 3 else if ∃ t ∈ r.texts, 4096 < t.length then 5 else 0
def encode (r : Rec) : List Int × Int := if recE r = 0 then (sealB (encR r), 0) else ([], recE r)
theorem or_tab : ∀ a, a < 256 → (a ||| 128) % 256 = a % 128 + 128 := by decide +kernel
theorem or_128 (x : Int) : IntKind.u8.wrap ((BitVec.ofInt IntKind.u8.bits (x % 256) ||| BitVec.ofInt IntKind.u8.bits 128).toNat : Int) = x % 128 + 128 := by
  rw [u8_wrap]
  have h1 : (BitVec.ofInt IntKind.u8.bits (x % 256) ||| BitVec.ofInt IntKind.u8.bits 128).toNat = (x % 256).toNat ||| 128 := by
    rw [BitVec.toNat_or, BitVec.toNat_ofInt, BitVec.toNat_ofInt]
    show ((x % 256) % ((2 ^ 8 : Nat) : Int)).toNat ||| ((128 : Int) % ((2 ^ 8 : Nat) : Int)).toNat = _
    rw [show ((2 ^ 8 : Nat) : Int) = 256 from rfl, Int.emod_emod_of_dvd _ (Int.dvd_refl _)]
    rfl
  rw [h1]
  have h2 := or_tab (x % 256).toNat (by omega)
  omega
theorem or_128' (x : Int) : IntKind.u8.wrap ((BitVec.ofInt IntKind.u8.bits (IntKind.u8.wrap x) ||| BitVec.ofInt IntKind.u8.bits 128).toNat : Int) = x % 128 + 128 := by rw [u8_wrap x]; exact or_128 x
theorem sh_u64 (m : Nat) : shVal .shr .u64 (m : Int) 7 = some (.int .u64 ((m / 128 : Nat) : Int)) := by
  have h : Int.fdiv (m : Int) (2 ^ min (Int.toNat 7) IntKind.u64.bits) = ((m / 128 : Nat) : Int) := by
    show Int.fdiv (m : Int) 128 = _
    rw [Int.fdiv_eq_ediv_of_nonneg _ (by decide)]
    omega
  simp only [shVal, if_neg (show ¬ ((7 : Int) < 0) by decide), h]
theorem u64_mod (x : Int) : IntKind.u64.wrap x = x % 18446744073709551616 := by simp [IntKind.wrap, IntKind.bits, IntKind.signed]
theorem ofInt64 (x : Int) : (BitVec.ofInt 64 x).toNat = (x % 18446744073709551616).toNat := by rw [BitVec.toNat_ofInt]; rfl
theorem and127 (m : Nat) : m &&& 127 = m % 128 := Nat.and_two_pow_sub_one_eq_mod m 7
theorem rg_bits {m : Nat} (hm : m < 18446744073709551616) : IntKind.u8.wrap (IntKind.u64.wrap ((BitVec.ofInt IntKind.u64.bits (IntKind.u64.wrap ((BitVec.ofInt IntKind.u64.bits (m : Int) &&& BitVec.ofInt IntKind.u64.bits 127).toNat : Int)) ||| BitVec.ofInt IntKind.u64.bits 128).toNat : Int)) = ((m % 128 + 128 : Nat) : Int) := by
  have h1 : (BitVec.ofInt IntKind.u64.bits (m : Int) &&& BitVec.ofInt IntKind.u64.bits 127).toNat = m % 128 := by
    show (BitVec.ofInt 64 (m : Int) &&& BitVec.ofInt 64 127).toNat = m % 128
    rw [BitVec.toNat_and, ofInt64, ofInt64, show ((m : Int) % 18446744073709551616).toNat = m from by omega]
    exact and127 m
  rw [h1]
  have h2 : (BitVec.ofInt IntKind.u64.bits (IntKind.u64.wrap ((m % 128 : Nat) : Int)) ||| BitVec.ofInt IntKind.u64.bits 128).toNat = m % 128 ||| 128 := by
    show (BitVec.ofInt 64 (IntKind.u64.wrap ((m % 128 : Nat) : Int)) ||| BitVec.ofInt 64 128).toNat = _
    rw [BitVec.toNat_or, ofInt64, ofInt64, u64_mod, show (((m % 128 : Nat) : Int) % 18446744073709551616 % 18446744073709551616).toNat = m % 128 from by omega]
    rfl
  rw [h2, u64_mod, u8_wrap]
  have h3 := or_tab (m % 128) (by omega)
  have h4 : (m % 128 ||| 128) < 2 ^ 8 := Nat.or_lt_two_pow (by omega) (by decide)
  omega
theorem fd63 {n : Int} (h : i64ok n) : n.fdiv (2 ^ min (Int.toNat 63) IntKind.i64.bits) = if 0 ≤ n then 0 else -1 := by
  show n.fdiv 9223372036854775808 = _
  rw [Int.fdiv_eq_ediv_of_nonneg _ (by decide)]
  unfold i64ok at h
  split <;> omega
theorem zz_prog {n : Int} (h : i64ok n) : IntKind.u64.wrap (IntKind.i64.wrap ((BitVec.ofInt IntKind.i64.bits (IntKind.i64.wrap (n * 2 ^ min (Int.toNat 1) IntKind.i64.bits)) ^^^ BitVec.ofInt IntKind.i64.bits (n.fdiv (2 ^ min (Int.toNat 63) IntKind.i64.bits))).toNat : Int)) = (zz n : Int) := by
  rw [fd63 h]
  have e2 : n * 2 ^ min (Int.toNat 1) IntKind.i64.bits = n * 2 := rfl
  rw [e2]
  have hx : ((BitVec.ofInt IntKind.i64.bits (IntKind.i64.wrap (n * 2)) ^^^ BitVec.ofInt IntKind.i64.bits (if 0 ≤ n then 0 else -1)).toNat : Int) = (zz n : Int) := by
    show ((BitVec.ofInt 64 (IntKind.i64.wrap (n * 2)) ^^^ BitVec.ofInt 64 (if 0 ≤ n then 0 else -1)).toNat : Int) = _
    unfold zz i64ok at *
    by_cases h0 : 0 ≤ n
    · rw [if_pos h0, if_pos h0, show BitVec.ofInt 64 0 = 0#64 from rfl, BitVec.xor_zero, ofInt64, IntKind.wrap_i64]
      omega
    · rw [if_neg h0, if_neg h0, show BitVec.ofInt 64 (-1) = BitVec.allOnes 64 from by decide, BitVec.xor_allOnes, BitVec.toNat_not, ofInt64, IntKind.wrap_i64]
      omega
  rw [hx, u64_mod, IntKind.wrap_i64]
  have := zz_lt h
  omega
theorem zz_ref {n : Int} (h : i64ok n) : (0 ≤ n → shVal .shl .u64 (IntKind.u64.wrap n) 1 = some (.int .u64 (zz n))) ∧ (n < 0 → ∃ q, shVal .shl .u64 (IntKind.u64.wrap n) 1 = some (.int .u64 q) ∧ IntKind.u64.wrap ((BitVec.ofInt IntKind.u64.bits (if IntKind.u64.signed = true then -1 else IntKind.u64.max) ^^^ BitVec.ofInt IntKind.u64.bits q).toNat : Int) = (zz n : Int)) := by
  have e : shVal .shl .u64 (IntKind.u64.wrap n) 1 = some (.int .u64 (n * 2 % 18446744073709551616)) := by
    simp only [shVal, if_neg (show ¬ ((1 : Int) < 0) by decide)]
    congr 2
    show IntKind.u64.wrap (IntKind.u64.wrap n * 2) = _
    rw [u64_mod, u64_mod]
    omega
  unfold i64ok at h
  refine ⟨fun h0 => ?_, fun h0 => ⟨_, e, ?_⟩⟩
  · have hz : zz n = (2 * n).toNat := by unfold zz; rw [if_pos h0]
    rw [e, hz]
    congr 2
    omega
  · have hz : zz n = (-2 * n - 1).toNat := by unfold zz; rw [if_neg (by omega)]
    have hb : BitVec.ofInt 64 (if IntKind.u64.signed = true then -1 else IntKind.u64.max) = BitVec.allOnes 64 := by decide
    have hx : (BitVec.ofInt IntKind.u64.bits (if IntKind.u64.signed = true then -1 else IntKind.u64.max) ^^^ BitVec.ofInt IntKind.u64.bits (n * 2 % 18446744073709551616)).toNat = (-2 * n - 1).toNat := by
      show (BitVec.ofInt 64 (if IntKind.u64.signed = true then -1 else IntKind.u64.max) ^^^ BitVec.ofInt 64 (n * 2 % 18446744073709551616)).toNat = _
      rw [hb, BitVec.allOnes_xor, BitVec.toNat_not, ofInt64]
      omega
    rw [hx, u64_mod, hz]
    omega
end Go.Proofs.YtonglhkiobibgaaGreatDoor
namespace Go.Proofs.YtonglhkiobibgaaGreatDoor
open Go.RowKit
set_option maxRecDepth 100000
abbrev L_gp (y : Bool) (q : List Int × Nat) : ASt := ⟨envOf [(0, .os 0 0 q.1.length 1), (1, .v (.int .u64 q.2))], heapOf [(0, .row y 5 (eB q.1))], 1⟩
theorem groups_spec (y : Bool) (l : List Int) (m : Nat) (id nb : Nat) (hid : id < nb) (hne : l ≠ []) (hl : l.length ≤ 140737488355300) (hm : m < 18446744073709551616) :
    ASound Tryz.prog 149 [.os id 0 l.length 1, .v (.int .u64 m)] nb (rowsM [(id, y, 5, eB l)] (.ret (.os nb 0 (l ++ gp m).length 1) [(id, none), (nb, some (.row y 5 (eB (l ++ gp m))))])) := by
  refine FnOk.soundX (m := 0) [(id, y, 5, eB l)] [none] ok_149 (W := [(nb, some (.row y 5 (eB (l ++ gp m))))]) (by simp) (by simp [AlL, Al]) (by simp) (by intro x hx; simp at hx; subst hx; exact ⟨by simp [eB, hne], al_B l, hid⟩) rfl (Nat.zero_le _) (by intro k cl h; rcases k with _ | k <;> simp at h) ?_
  simp only [ac_149, rowsIn, renL, ren, rn, List.map_cons, List.map_nil, List.zipIdx_cons, List.zipIdx_nil, List.find?_cons_of_pos, beq_self_eq_true, TT, ↓reduceIte, Nat.reduceEqDiff, Nat.reduceAdd, Nat.reduceMul, reduceCtorEq, Nat.reduceLeDiff]
  refine AWc.family (L_gp y) (fun q => q.1 ++ gp q.2 = l ++ gp m ∧ q.2 < 18446744073709551616 ∧ q.1.length ≤ 140737488355320) (fun q => q.2) (l, m) ⟨rfl, hm, by simp only; omega⟩ ?_ ?_
  · refine Weak.calc [(0, 0)] (by decide) ?_ ?_ <;> simp [WT]
  · rintro ⟨l', m'⟩ ⟨he, hm', hl'⟩
    simp only at he hm' hl'
    have hlen : (l' ++ gp m').length ≤ 140737488355320 := by rw [he, List.length_append]; have := gp_le hm; omega
    rw [List.length_append] at hlen
    by_cases hb : m' < 128
    · have e1 : ¬ ((127 : Int) < (m' : Int)) := by omega
      rw [gp_small hb] at hlen he
      simp only [List.length_cons, List.length_nil] at hlen
      have w8 : IntKind.u8.wrap (m' : Int) = m' := by rw [u8_wrap]; omega
      simp only [L_gp, e1, w8, len_B, TT, ↓reduceIte, Nat.reduceEqDiff, Nat.reduceAdd, Nat.reduceMul, reduceCtorEq, Nat.reduceLeDiff]
      rw [if_pos (by omega)]
      have hc : eB l' ++ [AV.v (.int .u8 (m' : Int))] = eB (l' ++ [(m' : Int)]) := by rw [app_B, one_B]
      rw [← he, hc]
      exact EndsX.rows1 (i := 600001) (r0 := .os 600001 0 (l' ++ [(m' : Int)]).length 1) (.inr rfl) (by simp [ET]) rfl (al_B _) (by simp [Al]) (by simp [ren, rn]) trivial
    · have e1 : ((127 : Int) < (m' : Int)) := by omega
      have hg := gp_big hb
      rw [hg, List.length_cons] at hlen
      simp only [L_gp, e1, or_128', sh_u64, len_B, TT, ↓reduceIte, Nat.reduceEqDiff, Nat.reduceAdd, Nat.reduceMul, reduceCtorEq, Nat.reduceLeDiff]
      rw [if_pos (by omega)]
      refine famC_next (l' ++ [((m' % 128 + 128 : Nat) : Int)], m' / 128) (by simp only; omega) ⟨by rw [← he, hg]; simp, by simp only; omega, by simp only [List.length_append, List.length_cons, List.length_nil]; omega⟩ ?_
      refine Weak.calc [(700001, 0)] (by decide) ?_ ?_ <;> simp [WT, app_B, one_B]
abbrev L_rgp (q : List Int × Nat) : ASt := ⟨envOf [(0, .v (.int .u64 q.2)), (3, .os 0 0 q.1.length 1)], heapOf [(0, .row true 5 (eB q.1))], 1⟩
theorem rgroups_spec (m : Nat) (nb : Nat) (hm : m < 18446744073709551616) : ASound Tryz.prog 152 [.v (.int .u64 m)] nb (.ret (.os nb 0 (gp m).length 1) [(nb, some (.row true 5 (eB (gp m))))]) := by
  refine ok_152.sound (by simp) ⟨trivial, trivial⟩ ?_
  simp only [ac_152, TT, ↓reduceIte, Nat.reduceEqDiff, Nat.reduceAdd, Nat.reduceMul, reduceCtorEq, Nat.reduceLeDiff]
  refine AWc.family L_rgp (fun q => q.1 ++ gp q.2 = gp m ∧ q.2 < 18446744073709551616) (fun q => q.2) ([], m) ⟨rfl, hm⟩ ?_ ?_
  · refine Weak.trans (Weak.virtC 5 1 (l := [(0, .v (.int .u64 m)), (3, .os 200000 0 0 1)]) (h := []) ?_ ?_) (Weak.calc [(200000, 0)] (by decide) ?_ ?_)
    all_goals simp [WT, eB]
  · rintro ⟨l', m'⟩ ⟨he, hm'⟩
    simp only at he hm'
    have hlen := gp_le hm
    rw [← he, List.length_append] at hlen
    by_cases hb : m' < 128
    · have e1 : ¬ ((128 : Int) ≤ (m' : Int)) := by omega
      rw [gp_small hb] at hlen he
      simp only [List.length_cons, List.length_nil] at hlen
      have w8 : IntKind.u8.wrap (m' : Int) = m' := by rw [u8_wrap]; omega
      simp only [L_rgp, e1, w8, len_B, TT, ↓reduceIte, Nat.reduceEqDiff, Nat.reduceAdd, Nat.reduceMul, reduceCtorEq, Nat.reduceLeDiff]
      rw [if_pos (by omega)]
      have hc : eB l' ++ [AV.v (.int .u8 (m' : Int))] = eB (l' ++ [(m' : Int)]) := by rw [app_B, one_B]
      rw [← he, hc]
      exact Ends.rows1 (i := 600001) (r0 := .os 600001 0 (l' ++ [(m' : Int)]).length 1) (.inr rfl) (by simp [ET]) rfl (al_B _) (by simp [Al]) (by simp [ren, rn])
    · have e1 : ((128 : Int) ≤ (m' : Int)) := by omega
      have hg := gp_big hb
      rw [hg, List.length_cons] at hlen
      simp only [L_rgp, e1, sh_u64, rg_bits hm', len_B, TT, ↓reduceIte, Nat.reduceEqDiff, Nat.reduceAdd, Nat.reduceMul, reduceCtorEq, Nat.reduceLeDiff]
      rw [if_pos (by omega)]
      refine famC_next (l' ++ [((m' % 128 + 128 : Nat) : Int)], m' / 128) (by simp only; omega) ⟨by rw [← he, hg]; simp, by simp only; omega⟩ ?_
      refine Weak.calc [(800001, 0)] (by decide) ?_ ?_ <;> simp [WT, app_B, one_B]
theorem folded_spec (n : Int) (nb : Nat) (h : i64ok n) : ASound Tryz.prog 153 [.v (.int .i64 n)] nb (.ret (.v (.int .u64 (zz n))) []) := by
  refine ok_153.sound (by simp) ⟨trivial, trivial⟩ ?_
  by_cases h0 : 0 ≤ n
  · have e1 : ¬ (n < 0) := by omega
    simp only [ac_153, e1, (zz_ref h).1 h0, TT, ↓reduceIte, Nat.reduceEqDiff, Nat.reduceAdd, Nat.reduceMul, reduceCtorEq, Nat.reduceLeDiff]
    exact Ends.data (.inr rfl) (by simp [ET]) trivial
  · obtain ⟨q, q1, q2⟩ := (zz_ref h).2 (by omega)
    have e1 : n < 0 := by omega
    simp only [ac_153, e1, q1, q2, TT, ↓reduceIte, Nat.reduceEqDiff, Nat.reduceAdd, Nat.reduceMul, reduceCtorEq, Nat.reduceLeDiff]
    exact Ends.data (.inr rfl) (by simp [ET]) trivial
end Go.Proofs.YtonglhkiobibgaaGreatDoor
namespace Go.Proofs.YtonglhkiobibgaaGreatDoor
open Go.RowKit
variable {P : Program} {c d : Cx}
mutual
/-- all labels say young; all names are S's -/
def Yg (S : Nat → Prop) : AV → Prop
  | .any | .v _ | .wv _ => True
  | .fs fr cs _ | .fp fr cs _ | .us fr _ cs _ => fr = true ∧ YgL S cs
  | .agg cs | .tup cs | .fn _ cs => YgL S cs
  | .ifc _ a => Yg S a
  | .os id _ _ _ | .op id _ | .mp id => S id
  | .ws _ _ | .wp _ => False
def YgL (S : Nat → Prop) : List AV → Prop
  | [] => True
  | a :: r => Yg S a ∧ YgL S r
end
theorem YgL_iff {S : Nat → Prop} : ∀ {l : List AV}, YgL S l ↔ ∀ a ∈ l, Yg S a
  | [] => by simp [YgL]
  | a :: r => by rw [YgL, YgL_iff (l := r)]; simp
mutual
theorem VR.yg {S : Nat → Prop} (hw : d.w = c.w) (hk : ∀ b, b < c.w.heap.size → c.ok true b → d.ok true b) (hn : ∀ i x, S i → c.φ i = some x → d.φ i = some x) : ∀ {a : AV} {u : Value}, Yg S a → VR c a u → VR d a u
  | .any, u, _, _ => trivial
  | .v x, u, _, k => k
  | .wv q, u, _, k => k
  | .fs fr cs n, u, q, k => by
    obtain ⟨A, k', rfl, hk', hm⟩ := k
    refine ⟨A, k', rfl, hk', fun h0 => ?_⟩
    obtain ⟨b, off, rfl, e1, e2, e3⟩ := hm h0
    obtain ⟨rfl, q2⟩ := q
    exact ⟨b, off, rfl, by rw [hw]; exact e1, hk b e1 e2, VRm.yg hw hk hn q2 e3⟩
  | .fp fr cs n, u, q, k => by
    obtain ⟨b, off, rfl, e1, e2, e3⟩ := k
    obtain ⟨rfl, q2⟩ := q
    exact ⟨b, off, rfl, by rw [hw]; exact e1, hk b e1 e2, VRm.yg hw hk hn q2 e3⟩
  | .us fr e cs n, u, q, k => by
    obtain ⟨A, k', rfl, hk', hm⟩ := k
    refine ⟨A, k', rfl, hk', fun h0 => ?_⟩
    obtain ⟨b, rfl, e2, ⟨vs, e1⟩, e3⟩ := hm h0
    obtain ⟨rfl, q2⟩ := q
    exact ⟨b, rfl, hk b (lt_of_blk e1) e2, ⟨vs, by rw [hw]; exact e1⟩, VRm.yg hw hk hn q2 e3⟩
  | .os id off n sz, u, q, k => by
    obtain ⟨A, k', rfl, hk', hm⟩ := k
    refine ⟨A, k', rfl, hk', ?_⟩
    rcases hm with ⟨h1, h2⟩ | ⟨b, h1, rfl, cs, e, f, h2, h3⟩
    · obtain ⟨x, hx⟩ := Option.ne_none_iff_exists'.1 h1
      exact .inl ⟨by rw [hn _ _ q hx]; simp, h2⟩
    · exact .inr ⟨b, hn _ _ q h1, rfl, cs, e, f, by rw [hw]; exact h2, h3⟩
  | .op id off, u, q, k => by
    obtain ⟨b, h1, rfl, h2⟩ := k
    exact ⟨b, hn _ _ q h1, rfl, by rw [hw]; exact h2⟩
  | .mp id, u, q, k => by
    obtain ⟨b, h1, rfl⟩ := k
    exact ⟨b, hn _ _ q h1, rfl⟩
  | .ifc t a, u, q, k => by obtain ⟨v, rfl, k⟩ := k; exact ⟨v, rfl, VR.yg hw hk hn (a := a) q k⟩
  | .agg l, u, q, k => by obtain ⟨us, rfl, k⟩ := k; exact ⟨us, rfl, VRl.yg hw hk hn q k⟩
  | .tup l, u, q, k => by obtain ⟨us, rfl, k⟩ := k; exact ⟨us, rfl, VRt.yg hw hk hn q k⟩
  | .fn f l, u, q, k => by obtain ⟨us, rfl, k⟩ := k; exact ⟨us, rfl, VRt.yg hw hk hn q k⟩
theorem VRm.yg {S : Nat → Prop} (hw : d.w = c.w) (hk : ∀ b, b < c.w.heap.size → c.ok true b → d.ok true b) (hn : ∀ i x, S i → c.φ i = some x → d.φ i = some x) {b : Nat} : ∀ {cs : List AV} {off : Nat}, YgL S cs → VRm c b off cs → VRm d b off cs
  | [], _, _, _ => trivial
  | a :: r, off, q, k => by
    rw [VRm] at k ⊢
    obtain ⟨⟨u, h1, h2, h3⟩, h4⟩ := k
    exact ⟨⟨u, by rw [hw]; exact h1, h2, VR.yg hw hk hn q.1 h3⟩, VRm.yg hw hk hn q.2 h4⟩
theorem VRl.yg {S : Nat → Prop} (hw : d.w = c.w) (hk : ∀ b, b < c.w.heap.size → c.ok true b → d.ok true b) (hn : ∀ i x, S i → c.φ i = some x → d.φ i = some x) : ∀ {cs : List AV} {us : List Value}, YgL S cs → VRl c cs us → VRl d cs us
  | [], _, _, k => k
  | a :: r, us, q, k => by
    rw [VRl] at k ⊢
    obtain ⟨u, us', rfl, h1, h2, h3⟩ := k
    exact ⟨u, us', rfl, h1, VR.yg hw hk hn q.1 h2, VRl.yg hw hk hn q.2 h3⟩
theorem VRt.yg {S : Nat → Prop} (hw : d.w = c.w) (hk : ∀ b, b < c.w.heap.size → c.ok true b → d.ok true b) (hn : ∀ i x, S i → c.φ i = some x → d.φ i = some x) : ∀ {cs : List AV} {us : List Value}, YgL S cs → VRt c cs us → VRt d cs us
  | [], _, _, k => k
  | a :: r, us, q, k => by
    rw [VRt] at k ⊢
    obtain ⟨u, us', rfl, h2, h3⟩ := k
    exact ⟨u, us', rfl, VR.yg hw hk hn q.1 h2, VRt.yg hw hk hn q.2 h3⟩
end
mutual
/-- what is known of it, as old data -/
def od : AV → AV
  | .any => .any
  | .v x => .v x
  | .wv k => .wv k
  | .fs _ cs n => .fs false (odL cs) n
  | .fp _ cs n => .fp false (odL cs) n
  | .us _ e cs n => .us false e (odL cs) n
  | .agg l => .agg (odL l)
  | .tup l => .tup (odL l)
  | .fn f l => .fn f (odL l)
  | .ifc t a => .ifc t (od a)
  | .os _ _ _ _ | .op _ _ | .mp _ | .ws _ _ | .wp _ => .any
def odL : List AV → List AV
  | [] => []
  | a :: r => od a :: odL r
end
theorem odL_map : ∀ l : List AV, odL l = l.map od
  | [] => rfl
  | a :: r => by rw [odL, odL_map r]; rfl
mutual
theorem VR.od (hw : d.w = c.w) (hk : ∀ fr b, b < c.w.heap.size → c.ok fr b → d.ok false b) : ∀ {a : AV} {u : Value}, VR c a u → VR d (od a) u
  | .any, u, _ => trivial
  | .v x, u, k => k
  | .wv q, u, k => k
  | .ws _ _, u, _ => trivial
  | .wp _, u, _ => trivial
  | .mp _, u, _ => trivial
  | .os _ _ _ _, u, _ => trivial
  | .op _ _, u, _ => trivial
  | .fs fr cs n, u, k => by
    obtain ⟨A, k', rfl, hk', hm⟩ := k
    refine ⟨A, k', rfl, hk', fun h0 => ?_⟩
    obtain ⟨b, off, rfl, e1, e2, e3⟩ := hm h0
    exact ⟨b, off, rfl, by rw [hw]; exact e1, hk fr b e1 e2, VRm.od hw hk e3⟩
  | .fp fr cs n, u, k => by
    obtain ⟨b, off, rfl, e1, e2, e3⟩ := k
    exact ⟨b, off, rfl, by rw [hw]; exact e1, hk fr b e1 e2, VRm.od hw hk e3⟩
  | .us fr e cs n, u, k => by
    obtain ⟨A, k', rfl, hk', hm⟩ := k
    refine ⟨A, k', rfl, hk', fun h0 => ?_⟩
    obtain ⟨b, rfl, e2, ⟨vs, e1⟩, e3⟩ := hm h0
    exact ⟨b, rfl, hk fr b (lt_of_blk e1) e2, ⟨vs, by rw [hw]; exact e1⟩, VRm.od hw hk e3⟩
  | .ifc t a, u, k => by obtain ⟨v, rfl, k⟩ := k; exact ⟨v, rfl, VR.od hw hk (a := a) k⟩
  | .agg l, u, k => by obtain ⟨us, rfl, k⟩ := k; exact ⟨us, rfl, VRl.od hw hk k⟩
  | .tup l, u, k => by obtain ⟨us, rfl, k⟩ := k; exact ⟨us, rfl, VRt.od hw hk k⟩
  | .fn f l, u, k => by obtain ⟨us, rfl, k⟩ := k; exact ⟨us, rfl, VRt.od hw hk k⟩
theorem VRm.od (hw : d.w = c.w) (hk : ∀ fr b, b < c.w.heap.size → c.ok fr b → d.ok false b) {b : Nat} : ∀ {cs : List AV} {off : Nat}, VRm c b off cs → VRm d b off (odL cs)
  | [], _, _ => trivial
  | a :: r, off, k => by
    rw [VRm] at k
    rw [odL, VRm]
    obtain ⟨⟨u, h1, h2, h3⟩, h4⟩ := k
    exact ⟨⟨u, by rw [hw]; exact h1, h2, VR.od hw hk h3⟩, VRm.od hw hk h4⟩
theorem VRl.od (hw : d.w = c.w) (hk : ∀ fr b, b < c.w.heap.size → c.ok fr b → d.ok false b) : ∀ {cs : List AV} {us : List Value}, VRl c cs us → VRl d (odL cs) us
  | [], _, k => k
  | a :: r, us, k => by
    rw [VRl] at k
    rw [odL, VRl]
    obtain ⟨u, us', rfl, h1, h2, h3⟩ := k
    exact ⟨u, us', rfl, h1, VR.od hw hk h2, VRl.od hw hk h3⟩
theorem VRt.od (hw : d.w = c.w) (hk : ∀ fr b, b < c.w.heap.size → c.ok fr b → d.ok false b) : ∀ {cs : List AV} {us : List Value}, VRt c cs us → VRt d (odL cs) us
  | [], _, k => k
  | a :: r, us, k => by
    rw [VRt] at k
    rw [odL, VRt]
    obtain ⟨u, us', rfl, h2, h3⟩ := k
    exact ⟨u, us', rfl, VR.od hw hk h2, VRt.od hw hk h3⟩
end
def cellsAt : List RW → Nat → Option (List AV)
  | [], _ => none
  | x :: r, id => if id = x.1 then some x.2.2.2 else cellsAt r id
theorem cellsAt_mem : ∀ {rws : List RW} {id : Nat} {cs : List AV}, cellsAt rws id = some cs → ∃ (j : Nat) (x : RW), rws[j]? = some x ∧ x.1 = id ∧ x.2.2.2 = cs
  | [], _, _, h => by cases h
  | x :: r, id, cs, h => by
    rw [cellsAt] at h
    split at h
    · rename_i e; cases h; exact ⟨0, x, rfl, e.symm, rfl⟩
    · obtain ⟨j, y, h1, h2⟩ := cellsAt_mem h
      exact ⟨j + 1, y, by simpa using h1, h2⟩
mutual
/-- an argument, its rows as data -/
def bo (rws : List RW) : AV → AV
  | .os id off n sz => match cellsAt rws id with | some cs => .fs false (odL ((cs.drop off).take (n * sz))) n | none => .any
  | .op id off => match cellsAt rws id with | some cs => .fp false (odL cs) off | none => .any
  | .agg l => .agg (boL rws l)
  | .fn f l => .fn f (boL rws l)
  | .ifc t a => .ifc t (bo rws a)
  | a => od a
def boL (rws : List RW) : List AV → List AV
  | [] => []
  | a :: r => bo rws a :: boL rws r
end
section
variable {rws : List RW}
theorem VR.bo0 (hr : HR c) (hσ : ∀ (j : Nat) (x : RW), rws[j]? = some x → c.σ x.1 = some (.row x.2.1 x.2.2.1 x.2.2.2)) (hne : ∀ x ∈ rws, x.2.2.2 ≠ []) (hw : d.w = c.w) (hk : ∀ fr b, b < c.w.heap.size → c.ok fr b → d.ok false b)
    (hrow : ∀ (j : Nat) (x : RW) b, rws[j]? = some x → c.φ x.1 = some (some b) → d.ok false b) {id : Nat} {cs : List AV} (hc : cellsAt rws id = some cs) : ∃ b, c.φ id = some (some b) ∧ b < c.w.heap.size ∧ d.ok false b ∧ ((∃ vs e' f, c.w.heap[b]? = some (Obj.cells vs e' f)) → VRm d b 0 (odL cs)) := by
  obtain ⟨j, x, h1, rfl, rfl⟩ := cellsAt_mem hc
  rcases hr.row x.1 _ _ _ (hσ j x h1) with ⟨_, h2⟩ | ⟨b, vs, g1, g2, g3, g4, g5⟩
  · exact absurd h2.1 (hne x (List.mem_of_getElem? h1))
  · refine ⟨b, g1, g2.lt, hrow j x b h1 g1, fun hcl => VRm.od hw hk (VRm_iff.2 fun q a hq => ?_)⟩
    replace g2 := g2.cells hcl
    obtain ⟨u, k1, k2, k3⟩ := g5 q a hq
    exact ⟨u, by rw [Nat.zero_add]; simp [World.cell?, g2, k1], k2, k3⟩
mutual
theorem VR.bo (hr : HR c) (hσ : ∀ (j : Nat) (x : RW), rws[j]? = some x → c.σ x.1 = some (.row x.2.1 x.2.2.1 x.2.2.2)) (hne : ∀ x ∈ rws, x.2.2.2 ≠ []) (hw : d.w = c.w) (hk : ∀ fr b, b < c.w.heap.size → c.ok fr b → d.ok false b)
    (hrow : ∀ (j : Nat) (x : RW) b, rws[j]? = some x → c.φ x.1 = some (some b) → d.ok false b) : ∀ {a : AV} {u : Value}, VR c a u → VR d (bo rws a) u
  | .os id off n sz, u, k => by
    unfold Go.Proofs.YtonglhkiobibgaaGreatDoor.bo
    cases hc : cellsAt rws id with
    | none => trivial
    | some cs =>
      obtain ⟨b, g1, g2, g3, g4⟩ := VR.bo0 hr hσ hne hw hk hrow hc
      obtain ⟨A, k', rfl, hk', hm⟩ := k
      refine ⟨A, k', rfl, hk', fun h0 => ?_⟩
      rcases hm with ⟨_, h2⟩ | ⟨b', h1, rfl, cs9, e9, f9, h9, _⟩
      · omega
      · rw [g1] at h1; cases h1
        replace g4 := g4 ⟨_, _, _, h9⟩
        refine ⟨b, off, rfl, by rw [hw]; exact g2, g3, VRm_iff.2 fun q a hq => ?_⟩
        rw [odL_map, List.getElem?_map, Option.map_eq_some_iff] at hq
        obtain ⟨a', h8, rfl⟩ := hq
        rw [List.getElem?_take] at h8
        split at h8
        · rw [List.getElem?_drop] at h8
          have := VRm_iff.1 g4 (off + q) (od a') (by rw [odL_map, List.getElem?_map, h8]; rfl)
          rwa [Nat.zero_add] at this
        · cases h8
  | .op id off, u, k => by
    unfold Go.Proofs.YtonglhkiobibgaaGreatDoor.bo
    cases hc : cellsAt rws id with
    | none => trivial
    | some cs =>
      obtain ⟨b, g1, g2, g3, g4⟩ := VR.bo0 hr hσ hne hw hk hrow hc
      obtain ⟨b', h1, rfl, hcl⟩ := k
      rw [g1] at h1; cases h1
      exact ⟨b, 0, by rw [Nat.zero_add], by rw [hw]; exact g2, g3, g4 hcl⟩
  | .agg l, u, k => by obtain ⟨us, rfl, k⟩ := k; exact ⟨us, rfl, VRl.bo hr hσ hne hw hk hrow k⟩
  | .ifc t a, u, k => by obtain ⟨v, rfl, k⟩ := k; exact ⟨v, rfl, VR.bo hr hσ hne hw hk hrow (a := a) k⟩
  | .any, u, k => VR.od hw hk (a := .any) k
  | .v x, u, k => VR.od hw hk (a := .v x) k
  | .wv x, u, k => VR.od hw hk (a := .wv x) k
  | .ws x n, u, k => VR.od hw hk (a := .ws x n) k
  | .wp x, u, k => VR.od hw hk (a := .wp x) k
  | .mp x, u, k => VR.od hw hk (a := .mp x) k
  | .fs fr cs n, u, k => VR.od hw hk (a := .fs fr cs n) k
  | .fp fr cs n, u, k => VR.od hw hk (a := .fp fr cs n) k
  | .us fr e cs n, u, k => VR.od hw hk (a := .us fr e cs n) k
  | .tup l, u, k => VR.od hw hk (a := .tup l) k
  | .fn f l, u, k => by obtain ⟨us, rfl, k⟩ := k; exact ⟨us, rfl, VRt.bo hr hσ hne hw hk hrow k⟩
theorem VRl.bo (hr : HR c) (hσ : ∀ (j : Nat) (x : RW), rws[j]? = some x → c.σ x.1 = some (.row x.2.1 x.2.2.1 x.2.2.2)) (hne : ∀ x ∈ rws, x.2.2.2 ≠ []) (hw : d.w = c.w) (hk : ∀ fr b, b < c.w.heap.size → c.ok fr b → d.ok false b)
    (hrow : ∀ (j : Nat) (x : RW) b, rws[j]? = some x → c.φ x.1 = some (some b) → d.ok false b) : ∀ {cs : List AV} {us : List Value}, VRl c cs us → VRl d (boL rws cs) us
  | [], _, k => k
  | a :: r, us, k => by
    rw [VRl] at k
    rw [boL, VRl]
    obtain ⟨u, us', rfl, h1, h2, h3⟩ := k
    exact ⟨u, us', rfl, h1, VR.bo hr hσ hne hw hk hrow h2, VRl.bo hr hσ hne hw hk hrow h3⟩
theorem VRt.bo (hr : HR c) (hσ : ∀ (j : Nat) (x : RW), rws[j]? = some x → c.σ x.1 = some (.row x.2.1 x.2.2.1 x.2.2.2)) (hne : ∀ x ∈ rws, x.2.2.2 ≠ []) (hw : d.w = c.w) (hk : ∀ fr b, b < c.w.heap.size → c.ok fr b → d.ok false b)
    (hrow : ∀ (j : Nat) (x : RW) b, rws[j]? = some x → c.φ x.1 = some (some b) → d.ok false b) : ∀ {cs : List AV} {us : List Value}, VRt c cs us → VRt d (boL rws cs) us
  | [], _, k => k
  | a :: r, us, k => by
    rw [VRt] at k
    rw [boL, VRt]
    obtain ⟨u, us', rfl, h2, h3⟩ := k
    exact ⟨u, us', rfl, VR.bo hr hσ hne hw hk hrow h2, VRt.bo hr hσ hne hw hk hrow h3⟩
end
end
/-- the rows that a contract leaves -/
def newW (nb : Nat) (ws : List (Bool × Nat × List AV)) : List (Nat × Option AObj) := (ws.zipIdx nb).map fun x => (x.2, some (AObj.row x.1.1 x.1.2.1 x.1.2.2))
theorem ASound.borrow {f : FuncId} {args : List AV} {nb : Nat} {r : AV} (ws : List (Bool × Nat × List AV)) (rws : List RW) (h : ASound P f (boL rws args) nb (.ret r (newW nb ws))) (hne : ∀ x ∈ rws, x.2.2.2 ≠ []) (hfew : ws.length ≤ 100000)
    (hy : Yg (fun i => nb ≤ i ∧ i < nb + ws.length) r) (hyw : ∀ x ∈ ws, YgL (fun i => nb ≤ i ∧ i < nb + ws.length) x.2.2) : ASound P f args nb (rowsM rws (.ret r (newW nb ws))) := by
  refine ⟨h.1, fun c us r' R W' hrun hr hfr hv => ?_⟩
  obtain ⟨hσ, R', hrun2⟩ := rowsM_run hrun
  simp [AM.run] at hrun2
  obtain ⟨rfl, _, rfl⟩ := hrun2
  clear hrun
  obtain ⟨Yx, Yx_pos, Yx_neg⟩ := c.yx
  have Tlt : ∀ b, c.T b → b < c.w.heap.size := by
    rintro b ⟨i, ⟨y', e', cl⟩, e1, e2⟩
    rcases hr.row i y' e' cl e1 with ⟨g1, _⟩ | ⟨b', cs, g1, g2, _⟩
    · rw [e2] at g1; cases g1
    · rw [e2] at g1; cases g1; exact g2.lt
  generalize hc1 : (⟨c.w, c.w.heap.size, fun _ => none, fun _ => none, fun b => (c.T b ∧ ∀ (j : Nat) (x : RW), rws[j]? = some x → c.φ x.1 ≠ some (some b)) ∨ c.X b, Yx⟩ : Cx) = c1
  have w1 : c1.w = c.w := by rw [← hc1]
  have B1 : c1.B = c.w.heap.size := by rw [← hc1]
  have σ1 : c1.σ = fun _ => none := by rw [← hc1]
  have φ1 : c1.φ = fun _ => none := by rw [← hc1]
  have X1 : ∀ b, c1.X b ↔ ((c.T b ∧ ∀ (j : Nat) (x : RW), rws[j]? = some x → c.φ x.1 ≠ some (some b)) ∨ c.X b) := by rw [← hc1]; intro b; rfl
  have Y1 : c1.Y = Yx := by rw [← hc1]
  have T1 : ∀ b, ¬ c1.T b := by rintro b ⟨id, o, e1, _⟩; rw [σ1] at e1; cases e1
  have hx1 : ∀ b, c1.X b → b < c1.w.heap.size := by
    intro b hb
    rw [w1]
    rcases (X1 b).1 hb with h9 | h9
    · exact Tlt b h9.1
    · exact hr.xlt b h9
  have hr1 : HR c1 := ⟨fun id y e cells hs => (by rw [σ1] at hs; cases hs), fun id id' b e1 => (by rw [σ1] at e1; exact absurd rfl e1), (by rw [B1, w1]; exact Nat.le_refl _), hx1, hr.gl.to fun b _ h2 h3 => ⟨by rw [w1], T1 b, fun _ => by
      rw [Y1]
      by_cases hx : c.X b
      · rw [Yx_pos _ hx]; exact h3 hx
      · exact Yx_neg _ hx⟩⟩
  have hv1 : VRt c1 (boL rws args) us := by
    refine VRt.bo hr hσ hne w1 (fun fr b _ ho => ⟨fun h => (by cases h), T1 b, ?_⟩) (fun j x b h1 h2 => ⟨fun h => (by cases h), T1 b, ?_⟩) hv
    · rw [X1]; rintro (h9 | h9)
      · exact ho.2.1 h9.1
      · exact ho.2.2 h9
    · rw [X1]; rintro (h9 | h9)
      · exact h9.2 j x h1 h2
      · exact hr.TX ⟨x.1, _, hσ j x h1, h2⟩ h9
  have hk9 := h.2 c1 us r [] (newW nb ws) rfl hr1 (fun id _ => .inl (by rw [φ1])) hv1
  rw [w1] at hk9
  refine hk9.mono ?_
  rintro e w' ⟨v, d1, rfl, rfl, hv2, T2⟩
  have G := T2.grow
  have dσ1 : ∀ i, d1.σ i = if nb ≤ i then (match ws[i - nb]? with | some x => some (.row x.1 x.2.1 x.2.2) | none => none) else none := by
    intro i
    rw [T2.σ, σ1, newW, app_rows]
    cases ws[i - nb]? <;> rfl
  generalize hd : (⟨d1.w, c.B, fun i => if nb ≤ i ∧ i < nb + ws.length then d1.φ i else c.φ i, app c.σ (newW nb ws), c.X, c.Y⟩ : Cx) = d
  have dw : d.w = d1.w := by rw [← hd]
  have dB : d.B = c.B := by rw [← hd]
  have dX : d.X = c.X := by rw [← hd]
  have dY : d.Y = c.Y := by rw [← hd]
  have dφ : ∀ i, d.φ i = if nb ≤ i ∧ i < nb + ws.length then d1.φ i else c.φ i := by rw [← hd]; intro i; rfl
  have dσ : ∀ i, d.σ i = if nb ≤ i then (match ws[i - nb]? with | some x => some (.row x.1 x.2.1 x.2.2) | none => c.σ i) else c.σ i := by
    intro i
    rw [← hd]
    show app c.σ (newW nb ws) i = _
    rw [newW, app_rows]
    cases ws[i - nb]? <;> rfl
  have stay : ∀ b, b < c.w.heap.size → (c.X b → c.Y b = .no) → d.w.heap[b]? = c.w.heap[b]? := fun b hb hy => by
    rw [dw]
    have := G.stay b (by rw [w1]; exact hb) (T1 b) (fun _ => by
      rw [Y1]
      by_cases hx : c.X b
      · rw [Yx_pos _ hx]; exact hy hx
      · exact Yx_neg _ hx)
    rw [this, w1]
  have size : c.w.heap.size ≤ d.w.heap.size := by rw [dw, ← w1]; exact G.size
  have newT : ∀ b, d1.T b → c.w.heap.size ≤ b := fun b hb => by
    rcases G.held b hb with h9 | h9
    · exact absurd h9 (T1 b)
    · rw [← w1]; exact h9
  have names : Names c d := by
    intro i x hx
    rw [dφ]
    by_cases h1 : nb ≤ i ∧ i < nb + ws.length
    · rcases hfr i h1.1 with h2 | h2
      · rw [h2] at hx; cases hx
      · omega
    · rw [if_neg h1]; exact hx
  have dlive : ∀ i o, d.σ i = some o → (c.σ i = some o ∧ d.φ i = c.φ i ∧ ¬ (nb ≤ i ∧ i < nb + ws.length)) ∨ (nb ≤ i ∧ i < nb + ws.length ∧ d1.σ i = some o ∧ d.φ i = d1.φ i ∧ ∃ x ∈ ws, o = .row x.1 x.2.1 x.2.2) := by
    intro i o ho
    by_cases h1 : nb ≤ i ∧ i < nb + ws.length
    · right
      have h2 : i - nb < ws.length := by omega
      rw [dσ, if_pos h1.1, List.getElem?_eq_getElem h2] at ho
      exact ⟨h1.1, h1.2, by rw [dσ1, if_pos h1.1, List.getElem?_eq_getElem h2]; exact ho, by rw [dφ, if_pos h1], _, List.getElem_mem h2, by simp at ho; exact ho.symm⟩
    · left
      refine ⟨?_, by rw [dφ, if_neg h1], h1⟩
      rw [dσ] at ho
      by_cases h2 : nb ≤ i
      · rw [if_pos h2, List.getElem?_eq_none_iff.2 (by omega)] at ho; exact ho
      · rw [if_neg h2] at ho; exact ho
  have dT : ∀ b, d.T b → c.T b ∨ (c.w.heap.size ≤ b ∧ d1.T b) := by
    rintro b ⟨i, o, e1, e2⟩
    rcases dlive i o e1 with ⟨f1, f2, _⟩ | ⟨_, _, f3, f4, _⟩
    · exact .inl ⟨i, o, f1, by rw [← f2]; exact e2⟩
    · rw [f4] at e2
      exact .inr ⟨newT b ⟨i, o, f3, e2⟩, i, o, f3, e2⟩
  have grow : Grow c d := by
    refine ⟨dX, dB, ?_, ?_, ?_, size, fun b hb _ hy => stay b hb hy, fun b hb => (dT b hb).imp id (·.1), fun b cs e f hb => (by have := G.shape b cs e f (by rw [w1]; exact hb); rw [dw]; exact this), dY, fun b k sz h1 h2 h3 h4 h5 => (by
      have := G.wild b k sz (T1 b) (by rw [X1]; exact .inr h2) (by rw [Y1, Yx_pos _ h2]; exact h3) h4 (by rw [w1]; exact h5)
      rw [dw]; exact this)⟩
    · rw [dw, G.out, w1]
    · rw [dw, G.osE, w1]
    · rw [dw, G.tape, w1]
  have base := hr.base
  have ok2 : ∀ b, b < d1.w.heap.size → d1.ok true b → d.ok true b := fun b _ ho => by
    have hge : c.w.heap.size ≤ b := by have := ho.1 rfl; rw [G.B, B1] at this; exact this
    refine ⟨fun _ => by rw [dB]; omega, fun ht => ?_, fun hx => ?_⟩
    · rcases dT b ht with h9 | h9
      · have := Tlt b h9; omega
      · exact ho.2.1 h9.2
    · rw [dX] at hx; have := hr.xlt b hx; omega
  have nm2 : ∀ i x, (nb ≤ i ∧ i < nb + ws.length) → d1.φ i = some x → d.φ i = some x := fun i x h1 h2 => by rw [dφ, if_pos h1]; exact h2
  have hrd : HR d := by
    refine ⟨fun i y2 e2 cl hs => ?_, fun i i' b e1 e2 e3 e4 => ?_, by rw [dB]; exact Nat.le_trans hr.base size, fun b hb => by rw [dX] at hb; exact Nat.lt_of_lt_of_le (hr.xlt b hb) size, hr.gl.grow grow⟩
    · rcases dlive i _ hs with ⟨f1, f2, _⟩ | ⟨h1, h2, f3, f4, x, hx, f5⟩
      · rcases hr.row i y2 e2 cl f1 with ⟨g1, g2⟩ | ⟨b, cs, g1, g2, g3', g4, g5⟩
        · exact .inl ⟨by rw [f2]; exact g1, g2⟩
        · refine .inr ⟨b, cs, by rw [f2]; exact g1, g2.of (stay b g2.lt (fun h9 => absurd h9 g3'.2)), ⟨by rw [dB]; exact g3'.1, by rw [dX]; exact g3'.2⟩, g4, fun j x hj => ?_⟩
          obtain ⟨q, k1, k2, k3⟩ := g5 j x hj
          exact ⟨q, k1, k2, k3.mono grow names⟩
      · cases f5
        rcases T2.hr.row i _ _ _ f3 with ⟨g1, g2⟩ | ⟨b, cs, g1, g2, g3', g4, g5⟩
        · exact .inl ⟨by rw [f4]; exact g1, g2⟩
        · have hge := newT b ⟨i, _, f3, g1⟩
          refine .inr ⟨b, cs, by rw [f4]; exact g1, by rw [dw]; exact g2, ⟨fun _ => by rw [dB]; omega, fun hx2 => by rw [dX] at hx2; have := hr.xlt b hx2; omega⟩, g4, fun j x' hj => ?_⟩
          obtain ⟨q, m1, m2, m3⟩ := g5 j x' hj
          exact ⟨q, m1, m2, VR.yg dw ok2 nm2 (YgL_iff.1 (hyw x hx) x' (List.mem_of_getElem? hj)) m3⟩
    · obtain ⟨o1, ho1⟩ := Option.ne_none_iff_exists'.1 e1
      obtain ⟨o2, ho2⟩ := Option.ne_none_iff_exists'.1 e2
      rcases dlive i o1 ho1 with ⟨f1, f2, _⟩ | ⟨_, _, f3, f4, _⟩ <;> rcases dlive i' o2 ho2 with ⟨j1, j2, _⟩ | ⟨_, _, j3, j4, _⟩
      · exact hr.inj i i' b (by rw [f1]; simp) (by rw [j1]; simp) (by rw [← f2]; exact e3) (by rw [← j2]; exact e4)
      · rw [j4] at e4
        have := newT b ⟨i', _, j3, e4⟩
        have := Tlt b ⟨i, _, f1, by rw [← f2]; exact e3⟩
        omega
      · rw [f4] at e3
        have := newT b ⟨i, _, f3, e3⟩
        have := Tlt b ⟨i', _, j1, by rw [← j2]; exact e4⟩
        omega
      · rw [f4] at e3
        rw [j4] at e4
        exact T2.hr.inj i i' b (by rw [f3]; simp) (by rw [j3]; simp) e3 e4
  exact ⟨v, d, rfl, dw, VR.yg dw ok2 nm2 hy hv2, grow, names, hrd, by rw [← hd], fun i hi => by
    rw [dφ] at hi
    by_cases h1 : nb ≤ i ∧ i < nb + ws.length
    · exact .inr (by omega)
    · rw [if_neg h1] at hi; exact .inl hi⟩
end Go.Proofs.YtonglhkiobibgaaGreatDoor
namespace Go.Proofs.YtonglhkiobibgaaGreatDoor
open Go.RowKit
set_option maxRecDepth 100000
theorem recE_kind {r : Rec} (h : r.kind < 0 ∨ 255 < r.kind) : recE r = 22 := by unfold recE; rw [if_pos h]
theorem recE_many {r : Rec} (h : ¬ (r.kind < 0 ∨ 255 < r.kind)) (h2 : 64 < r.nums.length ∨ 64 < r.texts.length) : recE r = 3 := by unfold recE; rw [if_neg h, if_pos h2]
theorem recE_long {r : Rec} (h : ¬ (r.kind < 0 ∨ 255 < r.kind)) (h2 : ¬ (64 < r.nums.length ∨ 64 < r.texts.length)) {i : Nat} {t : List Int} (ht : r.texts[i]? = some t) (hl : 4096 < t.length) : recE r = 5 := by
  unfold recE; rw [if_neg h, if_neg h2, if_pos ⟨t, List.mem_of_getElem? ht, hl⟩]
theorem recE_ok {r : Rec} (h : ¬ (r.kind < 0 ∨ 255 < r.kind)) (h2 : ¬ (64 < r.nums.length ∨ 64 < r.texts.length)) (h3 : ∀ t ∈ r.texts, ¬ 4096 < t.length) : recE r = 0 := by
  unfold recE; rw [if_neg h, if_neg h2, if_neg (by rintro ⟨t, ht, hl⟩; exact h3 t ht hl)]
theorem take_all {α : Type} {p : α → Prop} {l : List α} {k : Nat} {x : α} (h : ∀ t ∈ l.take k, p t) (hx : l[k]? = some x) (hp : p x) : ∀ t ∈ l.take (k + 1), p t := by
  intro t ht
  rw [take_snoc hx] at ht
  rcases List.mem_append.1 ht with h1 | h1
  · exact h t h1
  · simp at h1; subst h1; exact hp
abbrev L_chk (fr : Bool) (r : Rec) (i : Nat) : ASt := ⟨envOf [(24, fL fr r.texts), (25, .v (.int .i64 r.texts.length)), (26, .v (.int .i64 i))], heapOf [], 0⟩
theorem check_spec (fr : Bool) (r : Rec) (nb : Nat) : ASound Tryz.prog 148 [aRec fr r] nb (.ret (.v (.int .i64 (recE r))) []) := by
  refine ok_148.sound (by simp) ⟨al_aRec r, trivial⟩ ?_
  by_cases h1 : r.kind < 0
  · rw [recE_kind (.inl h1)]
    simp only [ac_148, h1, TT, ↓reduceIte, Nat.reduceEqDiff, Nat.reduceAdd, Nat.reduceMul, reduceCtorEq, Nat.reduceLeDiff]
    exact Ends.data (.inr rfl) (by simp [ET]) trivial
  by_cases h2 : 255 < r.kind
  · rw [recE_kind (.inr h2)]
    simp only [ac_148, h1, h2, TT, ↓reduceIte, Nat.reduceEqDiff, Nat.reduceAdd, Nat.reduceMul, reduceCtorEq, Nat.reduceLeDiff]
    exact Ends.data (.inr rfl) (by simp [ET]) trivial
  have h12 : ¬ (r.kind < 0 ∨ 255 < r.kind) := by omega
  by_cases h3 : 64 < r.nums.length
  · rw [recE_many h12 (.inl h3)]
    have e3 : (64 : Int) < (r.nums.length : Int) := by omega
    simp only [ac_148, h1, h2, e3, TT, ↓reduceIte, Nat.reduceEqDiff, Nat.reduceAdd, Nat.reduceMul, reduceCtorEq, Nat.reduceLeDiff]
    exact Ends.data (.inr rfl) (by simp [ET]) trivial
  have e3 : ¬ (64 : Int) < (r.nums.length : Int) := by omega
  by_cases h4 : 64 < r.texts.length
  · rw [recE_many h12 (.inr h4)]
    have e4 : (64 : Int) < (r.texts.length : Int) := by omega
    simp only [ac_148, h1, h2, e3, e4, TT, ↓reduceIte, Nat.reduceEqDiff, Nat.reduceAdd, Nat.reduceMul, reduceCtorEq, Nat.reduceLeDiff]
    exact Ends.data (.inr rfl) (by simp [ET]) trivial
  have e4 : ¬ (64 : Int) < (r.texts.length : Int) := by omega
  have h34 : ¬ (64 < r.nums.length ∨ 64 < r.texts.length) := by omega
  simp only [ac_148, h1, h2, e3, e4, TT, ↓reduceIte, Nat.reduceEqDiff, Nat.reduceAdd, Nat.reduceMul, reduceCtorEq, Nat.reduceLeDiff]
  refine AWc.family (L_chk fr r) (fun i => i ≤ r.texts.length ∧ ∀ t ∈ r.texts.take i, ¬ 4096 < t.length) (fun i => r.texts.length - i) 0 ⟨Nat.zero_le _, by simp⟩ ?_ ?_
  · refine Weak.calc [] (by decide) ?_ ?_ <;> simp [WT]
  · rintro i ⟨hi, ha⟩
    by_cases hlt : i < r.texts.length
    · obtain ⟨t, ht, e1, e0⟩ := lt_at hlt
      by_cases hl : 4096 < t.length
      · have e5 : (4096 : Int) < (t.length : Int) := by omega
        rw [recE_long h12 h34 ht hl]
        simp only [L_chk, e1, e0, get_L ht, e5, TT, ↓reduceIte, Nat.reduceEqDiff, Nat.reduceAdd, Nat.reduceMul, reduceCtorEq, Nat.reduceLeDiff]
        exact Ends.data (.inr rfl) (by simp [ET]) trivial
      · have e5 : ¬ (4096 : Int) < (t.length : Int) := by omega
        simp only [L_chk, e1, e0, get_L ht, e5, TT, ↓reduceIte, Nat.reduceEqDiff, Nat.reduceAdd, Nat.reduceMul, reduceCtorEq, Nat.reduceLeDiff]
        refine famC_next (i + 1) (by omega) ⟨by omega, take_all ha ht hl⟩ ?_
        refine Weak.calc [] (by decide) ?_ ?_ <;> simp [WT, wrap64 (x := (i : Int) + 1) (by omega)]
    · obtain rfl : i = r.texts.length := by omega
      have e1 : ¬ ((r.texts.length : Int) < (r.texts.length : Int)) := by omega
      rw [List.take_length] at ha
      rw [recE_ok h12 h34 ha]
      simp only [L_chk, e1, TT, ↓reduceIte, Nat.reduceEqDiff, Nat.reduceAdd, Nat.reduceMul, reduceCtorEq, Nat.reduceLeDiff]
      exact Ends.data (.inr rfl) (by simp [ET]) trivial
abbrev L_rchk (fr : Bool) (r : Rec) (i : Nat) : ASt := ⟨envOf [(1, .op 0 0), (3, .v (.int .i64 i))], heapOf [(0, .row true 156 [.v (.int .i64 r.kind), fI fr r.nums, fL fr r.texts])], 1⟩
theorem rcheck_spec (fr : Bool) (r : Rec) (nb : Nat) : ASound Tryz.prog 151 [aRec fr r] nb (.ret (.v (.int .i64 (recE r))) []) := by
  refine ok_151.sound (by simp) ⟨al_aRec r, trivial⟩ ?_
  by_cases h1 : r.kind < 0
  · rw [recE_kind (.inl h1)]
    simp only [ac_151, h1, TT, ↓reduceIte, Nat.reduceEqDiff, Nat.reduceAdd, Nat.reduceMul, reduceCtorEq, Nat.reduceLeDiff]
    exact Ends.data (.inr rfl) (by simp [ET]) trivial
  by_cases h2 : 255 < r.kind
  · rw [recE_kind (.inr h2)]
    simp only [ac_151, h1, h2, TT, ↓reduceIte, Nat.reduceEqDiff, Nat.reduceAdd, Nat.reduceMul, reduceCtorEq, Nat.reduceLeDiff]
    exact Ends.data (.inr rfl) (by simp [ET]) trivial
  have h12 : ¬ (r.kind < 0 ∨ 255 < r.kind) := by omega
  by_cases h3 : 64 < r.nums.length
  · rw [recE_many h12 (.inl h3)]
    have e3 : (64 : Int) < (r.nums.length : Int) := by omega
    simp only [ac_151, h1, h2, e3, TT, ↓reduceIte, Nat.reduceEqDiff, Nat.reduceAdd, Nat.reduceMul, reduceCtorEq, Nat.reduceLeDiff]
    exact Ends.data (.inr rfl) (by simp [ET]) trivial
  have e3 : ¬ (64 : Int) < (r.nums.length : Int) := by omega
  by_cases h4 : 64 < r.texts.length
  · rw [recE_many h12 (.inr h4)]
    have e4 : (64 : Int) < (r.texts.length : Int) := by omega
    simp only [ac_151, h1, h2, e3, e4, TT, ↓reduceIte, Nat.reduceEqDiff, Nat.reduceAdd, Nat.reduceMul, reduceCtorEq, Nat.reduceLeDiff]
    exact Ends.data (.inr rfl) (by simp [ET]) trivial
  have e4 : ¬ (64 : Int) < (r.texts.length : Int) := by omega
  have h34 : ¬ (64 < r.nums.length ∨ 64 < r.texts.length) := by omega
  simp only [ac_151, h1, h2, e3, e4, TT, ↓reduceIte, Nat.reduceEqDiff, Nat.reduceAdd, Nat.reduceMul, reduceCtorEq, Nat.reduceLeDiff]
  refine AWc.family (L_rchk fr r) (fun i => i ≤ r.texts.length ∧ ∀ t ∈ r.texts.take i, ¬ 4096 < t.length) (fun i => r.texts.length - i) 0 ⟨Nat.zero_le _, by simp⟩ ?_ ?_
  · refine Weak.calc [(0, 0)] (by decide) ?_ ?_ <;> simp [WT]
  · rintro i ⟨hi, ha⟩
    by_cases hlt : i < r.texts.length
    · obtain ⟨t, ht, e1, e0⟩ := lt_at hlt
      by_cases hl : 4096 < t.length
      · have e5 : (4096 : Int) < (t.length : Int) := by omega
        rw [recE_long h12 h34 ht hl]
        simp only [L_rchk, e1, e0, get_L ht, e5, TT, ↓reduceIte, Nat.reduceEqDiff, Nat.reduceAdd, Nat.reduceMul, reduceCtorEq, Nat.reduceLeDiff]
        exact Ends.data (.inr rfl) (by simp [ET]) trivial
      · have e5 : ¬ (4096 : Int) < (t.length : Int) := by omega
        simp only [L_rchk, e1, e0, get_L ht, e5, TT, ↓reduceIte, Nat.reduceEqDiff, Nat.reduceAdd, Nat.reduceMul, reduceCtorEq, Nat.reduceLeDiff]
        refine famC_next (i + 1) (by omega) ⟨by omega, take_all ha ht hl⟩ ?_
        refine Weak.calc [(0, 0)] (by decide) ?_ ?_ <;> simp [WT, wrap64 (x := (i : Int) + 1) (by omega)]
    · obtain rfl : i = r.texts.length := by omega
      have e1 : ¬ ((r.texts.length : Int) < (r.texts.length : Int)) := by omega
      rw [List.take_length] at ha
      rw [recE_ok h12 h34 ha]
      simp only [L_rchk, e1, TT, ↓reduceIte, Nat.reduceEqDiff, Nat.reduceAdd, Nat.reduceMul, reduceCtorEq, Nat.reduceLeDiff]
      exact Ends.data (.inr rfl) (by simp [ET]) trivial
end Go.Proofs.YtonglhkiobibgaaGreatDoor
namespace Go.Proofs.YtonglhkiobibgaaGreatDoor
open Go.RowKit
set_option maxRecDepth 100000
theorem od_B (l : List Int) : odL (eB l) = eB l := by
  rw [odL_map, eB, List.map_map]; rfl
theorem yg_B {S : Nat → Prop} (l : List Int) : YgL S (eB l) := by
  rw [YgL_iff]; intro a ha
  obtain ⟨x, _, rfl⟩ := List.mem_map.1 ha
  trivial
theorem yg_fB {S : Nat → Prop} (l : List Int) : Yg S (fB true l) := ⟨rfl, yg_B l⟩
/-- a pure contract of octets, used with a held row -/
theorem ASound.borrowB {f : FuncId} {l : List Int} {r : AV} {id nb e : Nat} {y : Bool} (h : ASound Tryz.prog f [fB false l] nb (.ret r [])) (hne : l ≠ []) (hy : Yg (fun i => nb ≤ i ∧ i < nb + 0) r) :
    ASound Tryz.prog f [.os id 0 l.length 1] nb (rowsM [(id, y, e, eB l)] (.ret r [])) := by
  refine ASound.borrow [] [(id, y, e, eB l)] ?_ ?_ (by simp) hy (by simp)
  · have : boL [(id, y, e, eB l)] [.os id 0 l.length 1] = [fB false l] := by
      simp [boL, bo, cellsAt, od_B, tk_B, fB]
    rw [this]; exact h
  · intro x hx
    simp at hx; subst hx
    simp [eB, hne]
def numB (ns : List Int) : List Int := ns.flatMap fun n => gp (zz n)
def txtB (ts : List (List Int)) : List Int := ts.flatMap encT
theorem numB_snoc {ns : List Int} {k : Nat} {n : Int} (h : ns[k]? = some n) : numB (ns.take (k + 1)) = numB (ns.take k) ++ gp (zz n) := by rw [take_snoc h]; simp [numB]
theorem txtB_snoc {ts : List (List Int)} {k : Nat} {t : List Int} (h : ts[k]? = some t) : txtB (ts.take (k + 1)) = txtB (ts.take k) ++ (gp t.length ++ t) := by rw [take_snoc h]; simp [txtB, encT]
theorem flat_le {α : Type} {e : α → List Int} {m : Nat} : ∀ {l : List α}, (∀ x ∈ l, (e x).length ≤ m) → (l.flatMap e).length ≤ m * l.length
  | [], _ => by simp
  | x :: l, h => by
    have h1 := h x (by simp)
    have h2 := flat_le (l := l) fun y hy => h y (by simp [hy])
    rw [List.flatMap_cons, List.length_append, List.length_cons, Nat.mul_add]
    omega
theorem numB_le {ns : List Int} (h : ∀ n ∈ ns, i64ok n) : (numB ns).length ≤ 10 * ns.length := flat_le fun n hn => gp_le (zz_lt (h n hn))
theorem txtB_le {ts : List (List Int)} (h : ∀ t ∈ ts, ¬ 4096 < t.length) : (txtB ts).length ≤ 4106 * ts.length := flat_le fun t ht => by
  have h1 := h t ht
  have h2 := gp_le (m := t.length) (by omega)
  rw [encT, List.length_append]; omega
/-- what is written before the number i -/
def h1 (r : Rec) (i : Nat) : List Int := [r.kind, (r.nums.length : Int)] ++ numB (r.nums.take i)
/-- what is written before the text i -/
def h2 (r : Rec) (i : Nat) : List Int := h1 r r.nums.length ++ [(r.texts.length : Int)] ++ txtB (r.texts.take i)
theorem h1_0 (r : Rec) : h1 r 0 = [r.kind, (r.nums.length : Int)] := by simp [h1, numB]
theorem h1_s {r : Rec} {k : Nat} {n : Int} (h : r.nums[k]? = some n) : h1 r k ++ gp (zz n) = h1 r (k + 1) := by rw [h1, h1, numB_snoc h, List.append_assoc]
theorem h2_0 (r : Rec) : h1 r r.nums.length ++ [(r.texts.length : Int)] = h2 r 0 := by simp [h2, txtB]
theorem h2_s {r : Rec} {k : Nat} {t : List Int} (h : r.texts[k]? = some t) : h2 r k ++ gp t.length ++ t = h2 r (k + 1) := by rw [h2, h2, txtB_snoc h]; simp
theorem h2_all (r : Rec) : h2 r r.texts.length = encR r := by simp [h2, h1, encR, numB, txtB]
theorem h1_ne (r : Rec) (i : Nat) : h1 r i ≠ [] := by simp [h1]
theorem h2_ne (r : Rec) (i : Nat) : h2 r i ≠ [] := by simp [h2, h1]
structure okR (r : Rec) : Prop where
  kind : ¬ (r.kind < 0 ∨ 255 < r.kind)
  many : ¬ (64 < r.nums.length ∨ 64 < r.texts.length)
  short : ∀ t ∈ r.texts, ¬ 4096 < t.length
theorem okR_iff (r : Rec) : recE r = 0 ↔ okR r := by
  unfold recE
  constructor
  · intro h
    split at h
    · simp at h
    · rename_i a
      split at h
      · simp at h
      · rename_i b
        split at h
        · simp at h
        · rename_i c
          exact ⟨a, b, fun t ht hl => c ⟨t, ht, hl⟩⟩
  · rintro ⟨a, b, c⟩
    rw [if_neg a, if_neg b, if_neg (by rintro ⟨t, ht, hl⟩; exact c t ht hl)]
theorem h1_le {r : Rec} (hr : okR r) (hn : ∀ n ∈ r.nums, i64ok n) (i : Nat) : (h1 r i).length ≤ 642 := by
  have := numB_le (ns := r.nums.take i) fun n h => hn n (List.mem_of_mem_take h)
  have h3 := hr.many
  rw [List.length_take] at this
  rw [h1, List.length_append]; simp only [List.length_cons, List.length_nil]; omega
theorem h2_le {r : Rec} (hr : okR r) (hn : ∀ n ∈ r.nums, i64ok n) (i : Nat) : (h2 r i).length ≤ 300000 := by
  have a := h1_le hr hn r.nums.length
  have b := txtB_le (ts := r.texts.take i) fun t h => hr.short t (List.mem_of_mem_take h)
  have h3 := hr.many
  rw [List.length_take] at b
  rw [h2, List.length_append, List.length_append]; simp only [List.length_cons, List.length_nil]; omega
end Go.Proofs.YtonglhkiobibgaaGreatDoor
namespace Go.Proofs.YtonglhkiobibgaaGreatDoor
open Go.RowKit
set_option maxRecDepth 100000
abbrev rowR (fr : Bool) (r : Rec) : List AV := [.v (.int .i64 r.kind), fI fr r.nums, fL fr r.texts]
abbrev L_en1 (fr : Bool) (r : Rec) (i : Nat) : ASt := ⟨envOf [(1, .op 0 0), (5, .os 1 0 (h1 r i).length 1), (24, fI fr r.nums), (25, .v (.int .i64 r.nums.length)), (26, .v (.int .i64 i))], heapOf [(0, .row true 154 (rowR fr r)), (1, .row true 5 (eB (h1 r i)))], 2⟩
abbrev L_en2 (fr : Bool) (r : Rec) (i : Nat) : ASt := ⟨envOf [(5, .os 0 0 (h2 r i).length 1), (47, fL fr r.texts), (48, .v (.int .i64 r.texts.length)), (49, .v (.int .i64 i))], heapOf [(0, .row true 5 (eB (h2 r i)))], 1⟩
set_option maxHeartbeats 2000000 in
theorem encode_spec (fr : Bool) (r : Rec) (nb : Nat) (hn : ∀ n ∈ r.nums, i64ok n) : ASound Tryz.prog 96 [aRec fr r] nb (.ret (.tup [fB true (encode r).1, .v (.int .i64 (encode r).2)]) []) := by
  refine ok_96.sound (by simp) ⟨al_aRec r, trivial⟩ ?_
  have hc := check_spec fr r
  simp only [aRec, fI, fL] at hc
  simp only [ac_96, TT, ↓reduceIte, Nat.reduceEqDiff, Nat.reduceAdd, Nat.reduceMul, reduceCtorEq, Nat.reduceLeDiff]
  refine ⟨_, hc _, ?_⟩
  simp only [TT, ↓reduceIte, Nat.reduceEqDiff, Nat.reduceAdd, Nat.reduceMul, reduceCtorEq, Nat.reduceLeDiff]
  by_cases hE : recE r = 0
  · have hr := (okR_iff r).1 hE
    have k1 := hr.kind
    have k2 := hr.many
    have w1 : IntKind.u8.wrap r.kind = r.kind := by rw [u8_wrap]; omega
    have w2 : IntKind.u8.wrap (r.nums.length : Int) = r.nums.length := by rw [u8_wrap]; omega
    have w3 : IntKind.u8.wrap (r.texts.length : Int) = r.texts.length := by rw [u8_wrap]; omega
    have he : encode r = (sealB (encR r), 0) := by rw [encode, if_pos hE]
    rw [he]
    simp only [hE, w1, w2, w3, TT, ↓reduceIte, Nat.reduceEqDiff, Nat.reduceAdd, Nat.reduceMul, reduceCtorEq, Nat.reduceLeDiff]
    refine AWc.family (L_en1 fr r) (fun i => i ≤ r.nums.length) (fun i => r.nums.length - i) 0 (Nat.zero_le _) ?_ ?_
    · refine Weak.calc [(0, 0), (1500000, 1)] (by decide) ?_ ?_ <;> simp [WT, h1_0, eB]
    · intro i hi
      by_cases hlt : i < r.nums.length
      · obtain ⟨n, hx, e1, e0⟩ := lt_at hlt
        have hno := hn n (List.mem_of_getElem? hx)
        have hle := h1_le hr hn i
        have s1 : shVal .shl .i64 n 1 = some (.int .i64 (IntKind.i64.wrap (n * 2 ^ min (Int.toNat 1) IntKind.i64.bits))) := by simp only [shVal, if_neg (show ¬ ((1 : Int) < 0) by decide)]
        have s2 : shVal .shr .i64 n 63 = some (.int .i64 (n.fdiv (2 ^ min (Int.toNat 63) IntKind.i64.bits))) := by simp only [shVal, if_neg (show ¬ ((63 : Int) < 0) by decide)]
        simp only [L_en1, e1, e0, get_I hx, s1, s2, zz_prog hno, TT, ↓reduceIte, Nat.reduceEqDiff, Nat.reduceAdd, Nat.reduceMul, reduceCtorEq, Nat.reduceLeDiff]
        refine ⟨_, groups_spec true (h1 r i) (zz n) _ _ (by omega) (h1_ne r i) (by omega) (zz_lt hno), ?_⟩
        rw [h1_s hx]
        simp only [TT, ↓reduceIte, Nat.reduceEqDiff, Nat.reduceAdd, Nat.reduceMul, reduceCtorEq, Nat.reduceLeDiff]
        refine famC_next (i + 1) (by omega) (by omega) ?_
        refine Weak.calc [(0, 0), (1100002, 1)] (by decide) ?_ ?_ <;> simp [WT, wrap64 (x := (i : Int) + 1) (by omega)]
      · obtain rfl : i = r.nums.length := by omega
        have e1 : ¬ ((r.nums.length : Int) < (r.nums.length : Int)) := by omega
        have hle := h1_le hr hn r.nums.length
        simp only [L_en1, e1, len_B, w3, TT, ↓reduceIte, Nat.reduceEqDiff, Nat.reduceAdd, Nat.reduceMul, reduceCtorEq, Nat.reduceLeDiff]
        rw [if_pos (by omega)]
        have hcc : eB (h1 r r.nums.length) ++ [AV.v (.int .u8 (r.texts.length : Int))] = eB (h2 r 0) := by rw [← one_B, ← app_B, h2_0]
        rw [hcc]
        have hlen : (h1 r r.nums.length).length + 1 = (h2 r 0).length := by rw [← h2_0, List.length_append]; rfl
        rw [hlen]
        refine AWc.family (L_en2 fr r) (fun i => i ≤ r.texts.length) (fun i => r.texts.length - i) 0 (Nat.zero_le _) ?_ ?_
        · refine Weak.calc [(700002, 0)] (by decide) ?_ ?_ <;> simp [WT]
        · intro i hi
          by_cases hlt : i < r.texts.length
          · obtain ⟨t, hx, e1, e0⟩ := lt_at hlt
            have hts := hr.short t (List.mem_of_getElem? hx)
            have hle := h2_le hr hn i
            have hl2 := h2_le hr hn (i + 1)
            have w4 : IntKind.u64.wrap (t.length : Int) = t.length := by rw [u64_mod]; omega
            simp only [L_en2, e1, e0, get_L hx, w4, TT, ↓reduceIte, Nat.reduceEqDiff, Nat.reduceAdd, Nat.reduceMul, reduceCtorEq, Nat.reduceLeDiff]
            refine ⟨_, groups_spec true (h2 r i) t.length _ _ (by omega) (h2_ne r i) (by omega) (by omega), ?_⟩
            have hls : (h2 r i ++ gp t.length).length + t.length = (h2 r (i + 1)).length := by rw [← h2_s hx]; exact (show (h2 r i ++ gp t.length ++ t).length = _ from List.length_append).symm
            have hcs : eB (h2 r i ++ gp t.length) ++ eB t = eB (h2 r (i + 1)) := by rw [← app_B, h2_s hx]
            simp only [len_B, hls, hcs, TT, ↓reduceIte, Nat.reduceEqDiff, Nat.reduceAdd, Nat.reduceMul, reduceCtorEq, Nat.reduceLeDiff]
            rw [if_pos (by omega)]
            refine famC_next (i + 1) (by omega) (by omega) ?_
            refine Weak.calc [(1000001, 0)] (by decide) ?_ ?_ <;> simp [WT, wrap64 (x := (i : Int) + 1) (by omega)]
          · obtain rfl : i = r.texts.length := by omega
            have e1 : ¬ ((r.texts.length : Int) < (r.texts.length : Int)) := by omega
            have hle := h2_le hr hn r.texts.length
            simp only [L_en2, e1, TT, ↓reduceIte, Nat.reduceEqDiff, Nat.reduceAdd, Nat.reduceMul, reduceCtorEq, Nat.reduceLeDiff]
            refine ⟨_, ASound.borrowB (e := 5) (y := true) (seal_spec false (h2 r r.texts.length) _ (by omega)) (h2_ne r _) (yg_fB _), ?_⟩
            rw [h2_all]
            simp only [TT, ↓reduceIte, Nat.reduceEqDiff, Nat.reduceAdd, Nat.reduceMul, reduceCtorEq, Nat.reduceLeDiff]
            exact Ends.data (.inr rfl) (by simp [ET]) ⟨al_B _, trivial, trivial⟩
  · have he : encode r = ([], recE r) := by rw [encode, if_neg hE]
    rw [he]
    simp only [hE, TT, ↓reduceIte, Nat.reduceEqDiff, Nat.reduceAdd, Nat.reduceMul, reduceCtorEq, Nat.reduceLeDiff]
    exact Ends.imp (r0 := .tup [.v (.slice none 0 0), .v (.int .i64 (recE r))]) (.inr rfl) (by simp [ET]) ⟨trivial, trivial, trivial⟩ (imp_nilE _)
end Go.Proofs.YtonglhkiobibgaaGreatDoor
namespace Go.Proofs.YtonglhkiobibgaaGreatDoor
open Go.RowKit
set_option maxRecDepth 100000
abbrev L_re1 (fr : Bool) (r : Rec) (i : Nat) : ASt := ⟨envOf [(1, .op 0 0), (5, .os 1 0 (h1 r i).length 1), (6, .v (.int .i64 i))], heapOf [(0, .row true 156 (rowR fr r)), (1, .row true 5 (eB (h1 r i)))], 2⟩
abbrev L_re2 (fr : Bool) (r : Rec) (i : Nat) : ASt := ⟨envOf [(1, .op 0 0), (5, .os 1 0 (h2 r i).length 1), (7, .v (.int .i64 i))], heapOf [(0, .row true 156 (rowR fr r)), (1, .row true 5 (eB (h2 r i)))], 2⟩
set_option maxHeartbeats 2000000 in
theorem rencode_spec (fr : Bool) (r : Rec) (nb : Nat) (hn : ∀ n ∈ r.nums, i64ok n) : ASound Tryz.prog 97 [aRec fr r] nb (.ret (.tup [fB true (encode r).1, .v (.int .i64 (encode r).2)]) []) := by
  refine ok_97.sound (by simp) ⟨al_aRec r, trivial⟩ ?_
  have hc := rcheck_spec fr r
  simp only [aRec, fI, fL] at hc
  simp only [ac_97, TT, ↓reduceIte, Nat.reduceEqDiff, Nat.reduceAdd, Nat.reduceMul, reduceCtorEq, Nat.reduceLeDiff]
  refine ⟨_, hc _, ?_⟩
  simp only [TT, ↓reduceIte, Nat.reduceEqDiff, Nat.reduceAdd, Nat.reduceMul, reduceCtorEq, Nat.reduceLeDiff]
  by_cases hE : recE r = 0
  · have hr := (okR_iff r).1 hE
    have k1 := hr.kind
    have k2 := hr.many
    have w1 : IntKind.u8.wrap r.kind = r.kind := by rw [u8_wrap]; omega
    have w2 : IntKind.u8.wrap (r.nums.length : Int) = r.nums.length := by rw [u8_wrap]; omega
    have w3 : IntKind.u8.wrap (r.texts.length : Int) = r.texts.length := by rw [u8_wrap]; omega
    have he : encode r = (sealB (encR r), 0) := by rw [encode, if_pos hE]
    rw [he]
    simp only [hE, w1, w2, w3, TT, ↓reduceIte, Nat.reduceEqDiff, Nat.reduceAdd, Nat.reduceMul, reduceCtorEq, Nat.reduceLeDiff]
    refine AWc.family (L_re1 fr r) (fun i => i ≤ r.nums.length) (fun i => r.nums.length - i) 0 (Nat.zero_le _) ?_ ?_
    · refine Weak.calc [(0, 0), (1500000, 1)] (by decide) ?_ ?_ <;> simp [WT, h1_0, eB]
    · intro i hi
      by_cases hlt : i < r.nums.length
      · obtain ⟨n, hx, e1, e0⟩ := lt_at hlt
        have hno := hn n (List.mem_of_getElem? hx)
        have hle := h1_le hr hn i
        have hle2 := h1_le hr hn (i + 1)
        simp only [L_re1, e1, e0, get_I hx, TT, ↓reduceIte, Nat.reduceEqDiff, Nat.reduceAdd, Nat.reduceMul, reduceCtorEq, Nat.reduceLeDiff]
        refine ⟨_, folded_spec n _ hno, ?_⟩
        simp only [TT, ↓reduceIte, Nat.reduceEqDiff, Nat.reduceAdd, Nat.reduceMul, reduceCtorEq, Nat.reduceLeDiff]
        refine ⟨_, rgroups_spec (zz n) _ (zz_lt hno), ?_⟩
        have hls : (h1 r i).length + (gp (zz n)).length = (h1 r (i + 1)).length := by rw [← h1_s hx, List.length_append]
        have hcs : eB (h1 r i) ++ eB (gp (zz n)) = eB (h1 r (i + 1)) := by rw [← app_B, h1_s hx]
        simp only [len_B, hls, hcs, tk_B, TT, ↓reduceIte, Nat.reduceEqDiff, Nat.reduceAdd, Nat.reduceMul, reduceCtorEq, Nat.reduceLeDiff]
        rw [if_pos (by omega)]
        refine famC_next (i + 1) (by omega) (by omega) ?_
        refine Weak.calc [(0, 0), (1300002, 1)] (by decide) ?_ ?_ <;> simp [WT, wrap64 (x := (i : Int) + 1) (by omega)]
      · obtain rfl : i = r.nums.length := by omega
        have e1 : ¬ ((r.nums.length : Int) < (r.nums.length : Int)) := by omega
        have hle := h1_le hr hn r.nums.length
        simp only [L_re1, e1, len_B, w3, TT, ↓reduceIte, Nat.reduceEqDiff, Nat.reduceAdd, Nat.reduceMul, reduceCtorEq, Nat.reduceLeDiff]
        rw [if_pos (by omega)]
        have hcc : eB (h1 r r.nums.length) ++ [AV.v (.int .u8 (r.texts.length : Int))] = eB (h2 r 0) := by rw [← one_B, ← app_B, h2_0]
        rw [hcc]
        have hlen : (h1 r r.nums.length).length + 1 = (h2 r 0).length := by rw [← h2_0, List.length_append]; rfl
        rw [hlen]
        refine AWc.family (L_re2 fr r) (fun i => i ≤ r.texts.length) (fun i => r.texts.length - i) 0 (Nat.zero_le _) ?_ ?_
        · refine Weak.calc [(0, 0), (1100002, 1)] (by decide) ?_ ?_ <;> simp [WT]
        · intro i hi
          by_cases hlt : i < r.texts.length
          · obtain ⟨t, hx, e1, e0⟩ := lt_at hlt
            have hts := hr.short t (List.mem_of_getElem? hx)
            have hle := h2_le hr hn i
            have hl2 := h2_le hr hn (i + 1)
            have w4 : IntKind.u64.wrap (t.length : Int) = t.length := by rw [u64_mod]; omega
            have hl3 := gp_le (m := t.length) (by omega)
            simp only [L_re2, e1, e0, get_L hx, w4, TT, ↓reduceIte, Nat.reduceEqDiff, Nat.reduceAdd, Nat.reduceMul, reduceCtorEq, Nat.reduceLeDiff]
            refine ⟨_, rgroups_spec t.length _ (by omega), ?_⟩
            have hls : (h2 r i ++ gp t.length).length + t.length = (h2 r (i + 1)).length := by rw [← h2_s hx]; exact (show (h2 r i ++ gp t.length ++ t).length = _ from List.length_append).symm
            have hl1 : (h2 r i).length + (gp t.length).length = (h2 r i ++ gp t.length).length := List.length_append.symm
            have hcs : eB (h2 r i ++ gp t.length) ++ eB t = eB (h2 r (i + 1)) := by rw [← app_B, h2_s hx]
            have hc1 : eB (h2 r i) ++ eB (gp t.length) = eB (h2 r i ++ gp t.length) := by rw [app_B]
            simp only [len_B, tk_B, hl1, hc1, TT, ↓reduceIte, Nat.reduceEqDiff, Nat.reduceAdd, Nat.reduceMul, reduceCtorEq, Nat.reduceLeDiff]
            rw [if_pos (by omega)]
            simp only [e1, e0, get_L hx, len_B, hls, hcs, TT, ↓reduceIte, Nat.reduceEqDiff, Nat.reduceAdd, Nat.reduceMul, reduceCtorEq, Nat.reduceLeDiff]
            rw [if_pos (by omega)]
            refine famC_next (i + 1) (by omega) (by omega) ?_
            refine Weak.calc [(0, 0), (2200002, 1)] (by decide) ?_ ?_ <;> simp [WT, wrap64 (x := (i : Int) + 1) (by omega)]
          · obtain rfl : i = r.texts.length := by omega
            have e1 : ¬ ((r.texts.length : Int) < (r.texts.length : Int)) := by omega
            have hle := h2_le hr hn r.texts.length
            simp only [L_re2, e1, TT, ↓reduceIte, Nat.reduceEqDiff, Nat.reduceAdd, Nat.reduceMul, reduceCtorEq, Nat.reduceLeDiff]
            refine ⟨_, ASound.borrowB (e := 5) (y := true) (rseal_spec false (h2 r r.texts.length) _ (by omega)) (h2_ne r _) (yg_fB _), ?_⟩
            rw [h2_all]
            simp only [TT, ↓reduceIte, Nat.reduceEqDiff, Nat.reduceAdd, Nat.reduceMul, reduceCtorEq, Nat.reduceLeDiff]
            exact Ends.data (.inr rfl) (by simp [ET]) ⟨al_B _, trivial, trivial⟩
  · have he : encode r = ([], recE r) := by rw [encode, if_neg hE]
    rw [he]
    simp only [hE, TT, ↓reduceIte, Nat.reduceEqDiff, Nat.reduceAdd, Nat.reduceMul, reduceCtorEq, Nat.reduceLeDiff]
    exact Ends.imp (r0 := .tup [.v (.slice none 0 0), .v (.int .i64 (recE r))]) (.inr rfl) (by simp [ET]) ⟨trivial, trivial, trivial⟩ (imp_nilE _)
end Go.Proofs.YtonglhkiobibgaaGreatDoor
namespace Go.Proofs.YtonglhkiobibgaaGreatDoor
open Go.RowKit
set_option maxRecDepth 100000
end Go.Proofs.YtonglhkiobibgaaGreatDoor
namespace Go.Proofs.YtonglhkiobibgaaGreatDoor
open Go.RowKit
end Go.Proofs.YtonglhkiobibgaaGreatDoor
namespace Go.Proofs.YtonglhkiobibgaaGreatDoor
open Go.RowKit
set_option maxRecDepth 100000
end Go.Proofs.YtonglhkiobibgaaGreatDoor
namespace Go.Proofs.YtonglhkiobibgaaGreatDoor
open Go.RowKit
set_option maxRecDepth 100000
theorem od_fB (fr : Bool) (l : List Int) : od (fB fr l) = fB false l := by simp [fB, od, od_B]
end Go.Proofs.YtonglhkiobibgaaGreatDoor
namespace Go.Proofs.YtonglhkiobibgaaGreatDoor
open Go.RowKit
variable {P : Program} {c d : Cx} {rws : List RW}
theorem VRm.bo (hr : HR c) (hσ : ∀ (j : Nat) (x : RW), rws[j]? = some x → c.σ x.1 = some (.row x.2.1 x.2.2.1 x.2.2.2)) (hne : ∀ x ∈ rws, x.2.2.2 ≠ []) (hw : d.w = c.w) (hk : ∀ fr b, b < c.w.heap.size → c.ok fr b → d.ok false b)
    (hrow : ∀ (j : Nat) (x : RW) b, rws[j]? = some x → c.φ x.1 = some (some b) → d.ok false b) {b : Nat} : ∀ {cs : List AV} {off : Nat}, VRm c b off cs → VRm d b off (boL rws cs)
  | [], _, _ => trivial
  | a :: r, off, k => by
    rw [VRm] at k
    rw [boL, VRm]
    obtain ⟨⟨u, h1, h2, h3⟩, h4⟩ := k
    exact ⟨⟨u, by rw [hw]; exact h1, h2, VR.bo hr hσ hne hw hk hrow h3⟩, VRm.bo hr hσ hne hw hk hrow h4⟩
end Go.Proofs.YtonglhkiobibgaaGreatDoor
namespace Go.Proofs.YtonglhkiobibgaaGreatDoor
open Go.RowKit
variable {P : Program} {c d : Cx} {rws : List RW}
section
variable {f : List AV → List AV}
theorem VRm.part {b : Nat} {cs : List AV} {off m : Nat} (h : VRm c b 0 cs) : VRm c b off ((cs.drop off).take m) := by
  rw [VRm_iff] at h ⊢
  intro j a hj
  rw [List.getElem?_take] at hj
  split at hj
  · rw [List.getElem?_drop] at hj
    have := h _ _ hj
    rwa [Nat.zero_add] at this
  · cases hj
end
end Go.Proofs.YtonglhkiobibgaaGreatDoor
namespace Go.Proofs.YtonglhkiobibgaaGreatDoor
open Go.RowKit
set_option maxRecDepth 100000
theorem ASound.args {P : Program} {f : FuncId} {args args' : List AV} {nb : Nat} {am : AM} (h : ASound P f args nb am) (hi : ImpL args' args) : ASound P f args' nb am :=
  ⟨h.1, fun c us r R W hrun hr hfr hv => h.2 c us r R W hrun hr hfr (by
    obtain ⟨e1, e2⟩ := ImpL_get hi
    rw [VRt_iff] at hv ⊢
    refine ⟨by omega, fun j a hj => ?_⟩
    obtain ⟨x, hx, hix⟩ := e2 j a hj
    obtain ⟨u, k1, k2⟩ := hv.2 j x hx
    exact ⟨u, k1, hix c u k2⟩)⟩
def octL (s : ByteArray) : List Int := s.data.toList.map fun b => (b.toNat : Int)
theorem octL_len (s : ByteArray) : (octL s).length = s.size := by unfold octL; rw [List.length_map, Array.length_toList]; rfl
theorem octs_eq (s : ByteArray) : octs s = eB (octL s) := by unfold octs eB octL; rw [List.map_map]; rfl
/-- strings -/
def eS (l : List ByteArray) : List AV := l.map fun s => .v (.string s)
def fS (fr : Bool) (l : List ByteArray) : AV := .fs fr (eS l) l.length
section
variable {fr : Bool} {p : Nat → Prop}
theorem al_S (l : List ByteArray) : AlL p (eS l) := AlL_map (e := fun s => AV.v (.string s)) (fun _ => trivial) l
theorem al_fS (l : List ByteArray) : Al p (fS fr l) := al_S l
theorem ren_S {ρ : Nat → Nat} (l : List ByteArray) : renL ρ (eS l) = eS l := renL_id (p := fun _ => False) (fun _ h => h.elim) (al_S l)
theorem len_S (l : List ByteArray) : (eS l).length = l.length := by simp [eS]
theorem tk_S (l : List ByteArray) : List.take l.length (eS l) = eS l := List.take_of_length_le (by rw [len_S]; exact Nat.le_refl _)
theorem get_S {l : List ByteArray} {i : Nat} {x : ByteArray} (h : l[i]? = some x) : (eS l)[i]? = some (.v (.string x)) := by simp [eS, h]
theorem od_S (l : List ByteArray) : odL (eS l) = eS l := by rw [odL_map, eS, List.map_map]; rfl
end
structure OpD where
  kind : Int
  path : ByteArray
  to : ByteArray
  off : Int
  n : Int
  data : List Int
structure RepD where
  err : Int
  n : Int
  data : List Int
  names : List ByteArray
def aOp (fr : Bool) (o : OpD) : AV := .agg [.v (.int .i64 o.kind), .v (.string o.path), .v (.string o.to), .v (.int .i64 o.off), .v (.int .i64 o.n), fB fr o.data]
def aRep (fr : Bool) (r : RepD) : AV := .agg [.v (.int .i64 r.err), .v (.int .i64 r.n), fB fr r.data, fS fr r.names]
theorem al_aOp {p : Nat → Prop} {fr : Bool} (o : OpD) : Al p (aOp fr o) := ⟨trivial, trivial, trivial, trivial, trivial, al_fB _, trivial⟩
theorem al_aRep {p : Nat → Prop} {fr : Bool} (r : RepD) : Al p (aRep fr r) := ⟨trivial, trivial, al_fB _, al_fS _, trivial⟩
/-- may an op be? -/
def opChk (o : OpD) : Int := if o.kind < 1 ∨ 12 < o.kind then 22 else if 255 < o.path.size ∨ 255 < o.to.size ∨ 4096 < o.data.length then 5 else 0
def opRec (o : OpD) : Rec := ⟨o.kind, [o.off, o.n], [octL o.path, octL o.to, o.data]⟩
def encO (o : OpD) : List Int × Int := if opChk o = 0 then encode (opRec o) else ([], opChk o)
def repChk (r : RepD) : Int := if r.err < 0 ∨ 65536 < r.err ∨ r.n < 0 ∨ 2147483647 < r.n then 4 else if 4096 < r.data.length then 5 else if 64 < r.names.length then 3 else if ∃ s ∈ r.names, 255 < s.size then 5 else 0
def repRec (r : RepD) : Rec := ⟨0, [r.err, r.n], r.data :: r.names.map octL⟩
def encRep (r : RepD) : List Int × Int := if repChk r = 0 then encode (repRec r) else ([], repChk r)
end Go.Proofs.YtonglhkiobibgaaGreatDoor
namespace Go.Proofs.YtonglhkiobibgaaGreatDoor
open Go.RowKit
set_option maxRecDepth 100000
def okBytes (l : List Int) : Prop := l.length * 1 ≤ reachB ∧ ∀ x ∈ l, (Lit.int .u8 x).wf = true
def wf64 (x : Int) : Prop := (Lit.int .i64 x).wf = true
theorem okBytes_B {l : List Int} (h : okBytes l) : okB l := fun x hx => by
  have := h.2 x hx
  simp [Lit.wf, IntKind.min, IntKind.max, IntKind.bits, IntKind.signed] at this
  omega
theorem okBytes_le {l : List Int} (h : okBytes l) : l.length ≤ 140737488351232 := by have := h.1; unfold reachB at this; omega
theorem eB_flat (l : List Int) : eB l = l.flatMap fun x => [.v (.int .u8 x)] := by simp [eB, List.map_eq_flatMap]
theorem rdt_bytes : Rd Tryz.prog 37 (fun fr l => [fB fr l]) okBytes :=
  (rd_slice (B := 1) Tryz.underlying37 (by kernel_rfl) (by kernel_rfl) (by rw [show Tryz.prog.cellsOf 5 = 1 from by kernel_rfl]; decide) (rd_int Tryz.underlying5 (by kernel_rfl))).map id id (fun fr b => by simp [fB, eB_flat]) (fun fr b => by simp [fB, eB_flat]) fun a h => h
theorem rdt_num : Rd Tryz.prog 3 (fun _ x => [.v (.int .i64 x)]) wf64 := rd_int Tryz.underlying3 (by kernel_rfl)
theorem laid : laidOutB Tryz.prog = true := by kernel_rfl
theorem open_bytes {H : Type} {enc : TypeId × Value → H} {W : World} {base : Nat} {v : Value} {d : DataW H} {ps : List MemPlace} (hv : Value.okWide Tryz.prog W .any base 37 v) (h : DataW.Trod enc Tryz.prog W 0 (fun _ => true) true 37 v d ps)
    (hw : (d.weights Tryz.prog 37).all (· ≤ reachBytes) = true) : ∃ s, okBytes s ∧ VR (cx0 W) (fB false s) v := by
  have hc : v.cells.toList = [v] := by
    cases v <;> first | rfl | (exfalso; simp [Value.okWide, Cell.okWide, Cell.ok, Tryz.underlying37] at hv)
  obtain ⟨fuel, h⟩ := h
  obtain ⟨s, h1, h2⟩ := rdt_bytes.rd h hw
  refine ⟨s, h1, ?_⟩
  rw [hc, VRl] at h2
  obtain ⟨u, us, e, _, h3, _⟩ := h2
  cases e
  exact h3
def lst : List (String × DataW Unit) := [("unicode/utf8.acceptRanges", Rows.laid_unicode_utf8_acceptRanges), ("errors.errorType", Rows.laid_errors_errorType), ("unicode/utf8.first", Rows.laid_unicode_utf8_first)]
theorem own : ownKnob Tryz.prog.godebug = none := by kernel_rfl
theorem et : Tryz.prog.globalNamed "errors.errorType" = some 0 := by kernel_rfl
theorem rtT : (Tryz.prog.cutTypes.find? (·.1 == "internal/reflectlite.rtype")).map (·.2) = some 342 := by kernel_rfl
theorem tsize : Tryz.prog.types.size = 459 := by kernel_rfl
theorem oneRow : ((List.range 459).filter fun t => Tryz.prog.rowNamed t [101, 114, 114, 111, 114]) = [102] := by kernel_rfl
theorem glob_of_laid {W : World} (h : laidMetH Tryz.prog lst W) : ∀ b v, GLOB b = some v → W.cell? ⟨b, 0, none⟩ = some v := by
  intro b v hb
  have h' : laidMet Tryz.prog (lst.filter fun x => x.2.handleName?.isNone) W ∧ handlesMet Tryz.prog (lst.filter fun x => x.2.handleName?.isSome) W := h
  obtain ⟨name, u, ty, e1, e2, e3, e4, e5⟩ := h'.2 ("errors.errorType", Rows.laid_errors_errorType) (by simp [lst]; decide)
  have en : name = [101, 114, 114, 111, 114] := (Option.some.inj e1).symm
  subst en
  obtain rfl := Option.some.inj (rtT.symm.trans e2)
  have hm : ty ∈ (List.range 459).filter fun t => Tryz.prog.rowNamed t [101, 114, 114, 111, 114] := List.mem_filter.2 ⟨List.mem_range.2 (by rw [← tsize]; exact e3), e4⟩
  rw [oneRow] at hm
  obtain rfl := List.mem_singleton.1 hm
  have hh : typeHandle Tryz.prog 102 = .pointer (some ⟨4, 102, none⟩) := by kernel_rfl
  rw [hh] at e5
  have hc : W.cell? ⟨0, 0, none⟩ = some (.iface 342 (.agg #[.pointer (some ⟨4, 102, none⟩)])) := by simpa using World.var?_cell et e5 0
  unfold GLOB at hb
  split at hb
  · rename_i e; subst e; cases hb; exact hc
  · cases hb
/-- a world that holds it -/
noncomputable def laidW0 (os : Os) : World :=
  let w0 := World.holding Tryz.prog os ⟨#[], #[], []⟩
  { w0 with heap := w0.heap.modify 0 fun
      | .cells _ t frozen => .cells #[.iface 342 (.agg #[.pointer (some ⟨4, 102, none⟩)])] t frozen
      | o => o }
def lstD : List (String × DataW Unit) := [("unicode/utf8.acceptRanges", Rows.laid_unicode_utf8_acceptRanges), ("unicode/utf8.first", Rows.laid_unicode_utf8_first)]
noncomputable def laidWorld (os : Os) : World := (laidW0 os).layVars Tryz.prog lstD
theorem laidWorld_os (os : Os) : (laidWorld os).os = os := World.layVars_os _ _ _
theorem laidWorld_met (os : Os) (args : Array Value) : laidMetH Tryz.prog lst ((laidWorld os).forCall (fun _ _ => 0) ⟨#[], args, []⟩).memory := by
  refine laidMetH_of_parts ?_ (by kernel_rfl)
  have e : (lst.filter fun x => x.2.handleName?.isNone) = lstD := by rfl
  rw [e]
  have e1 : (lstD.filter fun x => ["unicode/utf8.acceptRanges", "unicode/utf8.first"].contains x.1) = lstD := by rfl
  have e2 : (lstD.filter fun x => !["unicode/utf8.acceptRanges", "unicode/utf8.first"].contains x.1) = [] := by rfl
  have h : laidMet Tryz.prog lstD (laidWorld os) := laidMet_layVars (w0 := laidW0 os) ["unicode/utf8.acceptRanges", "unicode/utf8.first"] [] (by rw [e1]; rfl) (by rw [e1]; kernel_rfl) (by rw [e1]; kernel_rfl) (by rw [e2]; exact LaidIn.none)
  exact h.of_heap (by simp [World.memory, World.forCall, Input.heap])
theorem laidWorld_shaped (os : Os) (args : Array Value) : ((laidWorld os).forCall (fun _ _ => 0) ⟨#[], args, []⟩).Shaped Tryz.prog := World.shaped_of_ZipB (by kernel_rfl) (by kernel_rfl)
theorem looksT : true = Tryz.pinned.checked.prog.looks [] := by kernel_rfl
theorem mainT : Tryz.pinned.checked.prog.mainIs = some ((true, "99614a6981dfa3949a41461e4baab9d71b1d837fc286f2318c98390de9c6db5d").1, (true, "99614a6981dfa3949a41461e4baab9d71b1d837fc286f2318c98390de9c6db5d").2.toList) := by kernel_rfl
end Go.Proofs.YtonglhkiobibgaaGreatDoor
namespace Go.Proofs.YtonglhkiobibgaaGreatDoor
open Go.RowKit
set_option maxRecDepth 100000
theorem rd_string {P : Program} {t : TypeId} (ht : P.underlying t = some .string) (hc : P.cellsOf t = 1) : Rd P t (fun _ x => [.v (.string x)]) (fun x => x.size ≤ maxLen) where
  len _ := hc.symm
  rd := by
    intro H enc W fuel cs x h _
    obtain ⟨n, rfl, _, hw⟩ := DataW.trod_string ht h
    exact ⟨n, hw, _, [], rfl, rfl, rfl, rfl⟩
theorem rdt_str : Rd Tryz.prog 9 (fun _ x => [.v (.string x)]) (fun x => x.size ≤ maxLen) := rd_string Tryz.underlying9 (by kernel_rfl)
theorem eS_flat (l : List ByteArray) : eS l = l.flatMap fun x => [.v (.string x)] := by simp [eS, List.map_eq_flatMap]
theorem rdt_strs : Rd Tryz.prog 45 (fun fr l => [fS fr l]) (fun l => l.length * 16 ≤ reachB ∧ ∀ x ∈ l, x.size ≤ maxLen) :=
  (rd_slice (B := 16) Tryz.underlying45 (by kernel_rfl) (by kernel_rfl) (by rw [show Tryz.prog.cellsOf 9 = 1 from by kernel_rfl]; decide) rdt_str).map id id (fun fr b => by simp [fS, eS_flat]) (fun fr b => by simp [fS, eS_flat]) fun a h => h
structure okRep (r : RepD) : Prop where
  e : wf64 r.err
  n : wf64 r.n
  d : okBytes r.data
  s : r.names.length * 16 ≤ reachB
theorem rdt_rep : Rd Tryz.prog 57 (fun fr (r : RepD) => [.v (.int .i64 r.err), .v (.int .i64 r.n), fB fr r.data, fS fr r.names]) okRep :=
  (rd_struct Tryz.underlying57 (by kernel_rfl) (RdF.cons (c := 1) rfl (by kernel_rfl) (rd_int Tryz.underlying29 (by kernel_rfl)) (RdF.cons (c := 1) rfl (by kernel_rfl) rdt_num (RdF.cons (c := 1) rfl (by kernel_rfl) rdt_bytes (RdF.cons (c := 1) rfl (by kernel_rfl) rdt_strs RdF.nil))))).map
    (fun x => ⟨x.1, x.2.1, x.2.2.1, x.2.2.2.1⟩) (fun b => (b.err, b.n, b.data, b.names, ())) (fun fr b => rfl) (fun fr b => rfl) fun a h => ⟨h.1, h.2.1, h.2.2.1, h.2.2.2.1.1⟩
theorem open_rep {H : Type} {enc : TypeId × Value → H} {W : World} {base : Nat} {v : Value} {d : DataW H} {ps : List MemPlace} (hv : Value.okWide Tryz.prog W .any base 57 v) (h : DataW.Trod enc Tryz.prog W 0 (fun _ => true) true 57 v d ps)
    (hw : (d.weights Tryz.prog 57).all (· ≤ reachBytes) = true) : ∃ s, okRep s ∧ VR (cx0 W) (aRep false s) v := by
  simp only [Value.okWide, Tryz.underlying57] at hv
  obtain ⟨cs, rfl, _, _⟩ := hv
  obtain ⟨fuel, h⟩ := h
  obtain ⟨s, h1, h2⟩ := rdt_rep.rd h hw
  refine ⟨s, h1, ?_⟩
  rw [aRep, VR]
  exact ⟨_, rfl, h2⟩
theorem wf_ok {x : Int} (h : wf64 x) : i64ok x := by
  simp [wf64, Lit.wf, IntKind.min, IntKind.max, IntKind.bits, IntKind.signed] at h
  unfold i64ok
  omega
end Go.Proofs.YtonglhkiobibgaaGreatDoor
namespace Go.Proofs.YtonglhkiobibgaaGreatDoor
open Go.RowKit
variable {P : Program} {N m : Nat}
/-- what nobody writes lies asg it lay -/
def Kc (c : Cx) (A B : World) : Prop := ∀ b, b < c.w.heap.size → ¬ c.T b → (c.X b → c.Y b = .no) → B.heap[b]? = A.heap[b]?
/-- Function gf, with such captured values, yields what L says, in order, until it is told to stop. -/
def IterA (P : Program) (gf : Nat) (caps : List AV) (L : List (List AV)) : Prop :=
  enters P gf = true ∧ ∀ (c : Cx) (lb : List Value), HR c → VRt c caps lb → ∃ V : _root_.Fin L.length → List Value, (∀ i, VRt c L[i] (V i)) ∧
    SeqStopsK Fence.wide 2 P gf lb.toArray (fun i => (V i).toArray) (Kc c) (fun xs => xs = List.finRange L.length) (fun pre => ∃ k, k < L.length ∧ pre = (List.finRange L.length).take (k + 1)) L.length c.w
def bindP : List Nat → List AV → (Nat → AV) → (Nat → AV)
  | p :: ps, x :: xs, env => bindP ps xs (putE env (some p) x)
  | _, _, env => env
def mvE : List (Nat × Operand) → (Nat → AV) → (Nat → AV)
  | [], env => env
  | (d, x) :: r, env => mvE r (putE env (some d) (evA env x))
def mvAct : List (Nat × Operand) → Act → Act
  | [], a => a
  | (d, x) :: r, a => mvAct r (a.put (some d) (a.eval x))
theorem RelR.set {nx : Nat} {done : Nat → Prop} {c : Cx} {st : ASt} {a : Act} (h : RelR N nx done c st a) {d : Nat} (hd : d < N) {x : AV} {v : Value} (hv : VR c x v) : RelR N nx done c ⟨putE st.env (some d) x, st.σ, st.nx⟩ (a.put (some d) v) := by
  refine ⟨by simp [Act.put, h.size], fun t => ?_, h.hr, h.σ, h.fresh⟩
  simp only [putE, Act.put]
  by_cases e : t = d
  · subst e
    rw [if_pos rfl]
    have : (a.tmps.setIfInBounds t v).getD t undef = v := by simp [h.size, hd]
    rw [this]; exact hv
  · rw [if_neg e]
    have : (a.tmps.setIfInBounds d v).getD t undef = a.tmps.getD t undef := by simp [Array.getElem?_setIfInBounds_ne (Ne.symm e)]
    rw [this]; exact h.env t
theorem RelR.mvs {nx : Nat} {done : Nat → Prop} {c : Cx} : ∀ {mv : List (Nat × Operand)} {st : ASt} {a : Act}, RelR N nx done c st a → (∀ q ∈ mv, q.1 < N) → RelR N nx done c ⟨mvE mv st.env, st.σ, st.nx⟩ (mvAct mv a)
  | [], st, a, h, _ => h
  | (d, x) :: r, st, a, h, hq => RelR.mvs (mv := r) (st := ⟨putE st.env (some d) (evA st.env x), st.σ, st.nx⟩) (h.set (hq (d, x) (by simp)) (h.eval x)) (fun q hq' => hq q (by simp [hq']))
theorem RelR.binds {nx : Nat} {done : Nat → Prop} {c : Cx} : ∀ {ps : List Nat} {l : List AV} {vs : List Value} {st : ASt} {a : Act}, RelR N nx done c st a → (∀ p ∈ ps, p < N) → VRt c l vs →
    RelR N nx done c ⟨bindP ps l st.env, st.σ, st.nx⟩ { a with tmps := (ps.zip vs).foldl (fun t q => t.setIfInBounds q.1 q.2) a.tmps }
  | [], l, vs, st, a, h, _, _ => by cases l <;> exact h
  | p :: ps, [], vs, st, a, h, _, hv => by rw [VRt] at hv; subst hv; exact h
  | p :: ps, x :: l, vs, st, a, h, hp, hv => by
    rw [VRt] at hv
    obtain ⟨u, us, rfl, h1, h2⟩ := hv
    exact RelR.binds (st := ⟨putE st.env (some p) x, st.σ, st.nx⟩) (a := a.put (some p) u) (h.set (hp p (by simp)) h1) (fun q hq => hp q (by simp [hq])) h2
theorem mvOps_wp {ro : Option Nat} {n : Nat} {ops : Array Oper} {Q : Exit → Act → World → Prop} : ∀ {l : List Oper} {mv : List (Nat × Operand)} {k : Nat} {a : Act} {W : World}, mvOps l = some mv → (∀ (j : Nat) o, l[j]? = some o → ops[k + j]? = some o) → Q .normal (mvAct mv a) W →
    wpOpsIn (FR ro) n P ops Q (List.range' k l.length) a W
  | [], mv, k, a, W, h, _, hq => by
    simp [mvOps] at h; subst h
    simpa [wpOpsIn, mvAct] using hq
  | o :: r, mv, k, a, W, h, hl, hq => by
    rw [List.length_cons, List.range'_succ, wpOpsIn_cons]
    have h0 := hl 0 o rfl
    rw [Nat.add_zero] at h0
    rw [mvOps] at h
    have go : ∀ (x : Operand) (d : Nat) (mv' : List (Nat × Operand)), o.guard = none → o.dst = some d → (∀ c, o.op ≠ .defer c) → (∀ W, (execOp a.eval o).run P W = .ok (.value (a.eval x)) W) → mvOps r = some mv' → mv = (d, x) :: mv' →
        wpOpIn (FR ro) n P ops Q k (wpOpsIn (FR ro) n P ops Q (List.range' (k + 1) r.length)) a W := by
      intro x d mv' hg hd hnd hrun hm e
      subst e
      unfold wpOpIn
      rw [h0]
      simp only
      rw [if_pos (by simp [Region.wanted, hg])]
      refine ⟨fun _ _ => trivial, ?_⟩
      rw [Oper.semAt_eq _ _ _ hnd, hrun, Oper.uponIn_value, hd]
      exact mvOps_wp hm (fun j o' hj => by have := hl (j + 1) o' (by simpa using hj); rwa [Nat.add_assoc, Nat.add_comm 1 j]) hq
    split at h
    · rename_i x d e1 e2 e3
      split at h
      · rename_i mv' hm
        cases h
        exact go x d mv' e3 e2 (by rw [e1]; intro c hc; cases hc) (fun W => by simp [execOp, e1]) hm rfl
      · cases h
    · rename_i x d e1 e2 e3
      split at h
      · rename_i mv' hm
        cases h
        exact go x d mv' e3 e2 (by rw [e1]; intro c hc; cases hc) (fun W => by simp [execOp, e1]) hm rfl
      · cases h
    · cases h
theorem mv_wp {ro : Option Nat} {n : Nat} : ∀ {asg : Code} {mv : List (Nat × Operand)} {a : Act} {W : World} {Q : Exit → Act → World → Prop}, compMv asg = some mv → Q .normal (mvAct mv a) W → asg.wpIn (FR ro) n P Q a W
  | .skip, mv, a, W, Q, h, hk => by simp [compMv] at h; subst h; exact wpIn_skip hk
  | .region id ops draw, mv, a, W, Q, h, hk => by
    rw [compMv] at h
    split at h
    · cases h
    · rename_i hd
      have hd : draw = false := by simpa using hd
      subst hd
      refine wpIn_region ?_
      have := mvOps_wp (ro := ro) (n := n) (P := P) (ops := ops) (Q := Q) (k := 0) (a := a) (W := W) h (fun j o hj => by simpa using hj) hk
      rw [List.range_eq_range']
      simpa using this
  | .seq x y, mv, a, W, Q, h, hk => by
    rw [compMv] at h
    split at h
    · rename_i l hl
      split at h
      · rename_i r hr
        cases h
        have happ : ∀ (l r : List (Nat × Operand)) (a : Act), mvAct (l ++ r) a = mvAct r (mvAct l a) := by
          intro l
          induction l with
          | nil => intro r a; rfl
          | cons q l ih => intro r a; exact ih r _
        rw [happ] at hk
        exact wpIn_seq (mv_wp hl (mv_wp (Q := Q) hr hk))
      · cases h
    · cases h
/-- how a round may end -/
def rngK (N m1 : Nat) {α : Type} (F : List α → Heap × Nat) (X : Exit → List α → Heap → Nat → Prop) (xs : List α) : Exit → ASt → Prop
  | .normal, s => Weak N m1 s ⟨fun _ => .any, (F xs).1, (F xs).2⟩
  | .ret, s => X .ret xs s.σ s.nx
  | .exit id, s => X (.exit id) xs s.σ s.nx
  | _, _ => False
theorem Grow.reYback {c d : Cx} {Y : Nat → WK} (hY : ∀ b, Y b = c.Y b ∨ (Y b = .no ∧ ∀ cs e f, c.w.heap[b]? ≠ some (.cells cs e f))) (g : Grow (c.reY Y) d) : Grow c (d.reY c.Y) := by
  refine ⟨g.X, g.B, g.out, g.osE, g.tape, g.size, fun b hb ht hy => ?_, g.held, g.shape, rfl, fun b k sz h1 h2 h3 h4 h5 => ?_⟩
  · refine g.stay b hb ht (fun hx => ?_)
    rcases hY b with h | ⟨h, _⟩
    · show Y b = .no; rw [h]; exact hy hx
    · exact h
  · refine g.wild b k sz h1 h2 ?_ h4 h5
    rcases hY b with h | ⟨_, h⟩
    · show Y b = k; rw [h]; exact h3
    · obtain ⟨cs, e, h6, _⟩ := h5
      exact absurd h6 (h _ _ _)
theorem AWc.range {g : Operand} {ps : List Nat} {mv : List (Nat × Operand)} {b : AC} {st : ASt} {Q : Exit → ASt → Prop} {gf : Nat} {caps : List AV} {L : List (List AV)} (m1 : Nat) (hm : m ≤ m1)
    (hg : evA st.env g = .fn gf caps) (hI : IterA P gf caps L) (hfl : b.flat = true)
    (hLp : ∀ l ∈ L, AlNL (fun i => i < m1) l ∧ l.length = ps.length) (hlow : ∀ t, AlN (fun i => i < m1) (st.env t))
    (F : List (_root_.Fin L.length) → Heap × Nat) (hF0 : F [] = (st.σ, st.nx)) (hFn : ∀ pre, m1 ≤ (F pre).2) (hFm : ∀ pre, NoM (F pre).1)
    (X : Exit → List (_root_.Fin L.length) → Heap → Nat → Prop) (hXm : ∀ e pre σ nx, X e pre σ nx → NoM σ)
    (hbody : ∀ (pre : List (_root_.Fin L.length)) (i : _root_.Fin L.length), pre.length < L.length → wpC P N m1 b ⟨mvE mv (bindP ps L[i] st.env), (F pre).1, (F pre).2⟩ (rngK N m1 F X (pre ++ [i])))
    (hdone : Q .normal ⟨st.env, (F (List.finRange L.length)).1, (F (List.finRange L.length)).2⟩)
    (hstop : ∀ (k : Nat) (e : Exit) (σ : Heap) (nx : Nat), k < L.length → X e ((List.finRange L.length).take (k + 1)) σ nx → Q e ⟨st.env, σ, nx⟩) : AWc P N m (.rfunc g ps mv b) st Q := by
  intro code hc ro hro
  have hro : ro = none := hro.resolve_right (by simp [AC.flat])
  subst hro
  obtain ⟨pa, asg, x, rfl, rfl, hmv, hx, hps, hmvN⟩ := comp_rfunc hc
  intro n c a hr hmn
  have hv := hr.eval g
  rw [hg] at hv
  obtain ⟨lb, hgu, hlb⟩ := hv
  obtain ⟨hent, hI⟩ := hI
  obtain ⟨V, hV, hseq⟩ := hI c lb hr.hr hlb
  show (Code.rangeFunc g pa asg x).wpIn Fence.wide n P _ a c.w
  rw [wpIn_wide, ← wpIn_wide (n := 3)]
  have hVl : ∀ i, (V i).length = pa.size := fun i => by
    rw [(VRt_iff.1 (hV i)).1, (hLp L[i] (by exact List.getElem_mem _)).2]; simp
  have envs : ∀ {c' : Cx} {σ : Heap} {nx : Nat}, Grow c c' → (∀ id, id < m1 → c'.φ id = c.φ id) → HR c' → c'.σ = σ → (∀ id, nx ≤ id → c'.φ id = none) → RelR N nx No c' ⟨st.env, σ, nx⟩ a := by
    intro c' σ nx hgr hl hh hs hf
    exact ⟨hr.size, fun t => (hr.env t).monoP (p := fun i => i < m1) hgr (fun id y h1 h2 => by rw [hl id h1]; exact h2) (hlow t), hh, hs, fun id h1 h2 => absurd (hf id h1) h2⟩
  have fresh' : ∀ {nx : Nat} {c' : Cx} {s : ASt} {a' : Act}, RelR N nx No c' s a' → ∀ id, nx ≤ id → c'.φ id = none := by
    intro nx c' s a' h id hid
    cases hq : c'.φ id with
    | none => rfl
    | some y => obtain ⟨j, hj, _⟩ := h.fresh id hid (by rw [hq]; simp); exact hj.elim
  refine wpIn_rangeFunc_ownF (F := Fence.wide) (n := 3) rfl (by decide) hgu trivial (fun args w => run_callFunc hent args w) hseq (fun h k b h1 h2 h3 => (k b h1 h2 h3).trans (h b h1 h2 h3))
    (fun W l o o' hl _ _ _ b h1 _ _ => World.putObj_heap_other (by omega)) (Below.refl _ _) (fun i => by simp [hVl i])
    (fun pre W => ∃ c', c'.w = W ∧ Grow c c' ∧ (∀ id, id < m1 → c'.φ id = c.φ id) ∧ RelR N (F pre).2 No c' ⟨st.env, (F pre).1, (F pre).2⟩ a)
    (fun cd pre W => ∃ (e : Exit) (σ : Heap) (nx : Nat) (c' : Cx), ((cd = .ret ∧ e = .ret) ∨ ∃ id, cd = .exit id ∧ e = .exit id) ∧ c'.w = W ∧ Grow c c' ∧ (∀ id, id < m1 → c'.φ id = c.φ id) ∧ RelR N nx No c' ⟨st.env, σ, nx⟩ a ∧ m1 ≤ nx ∧ X e pre σ nx)
    ?_ ?_ ⟨c, rfl, Grow.refl c, fun _ _ => rfl, by rw [hF0]; exact hr⟩ (fun i => mvAct mv { tmps := (pa.zip (V i).toArray).foldl (fun t q => t.setIfInBounds q.1 q.2) a.tmps, defers := [] }) ?_ ?_ ?_ ?_
  · rintro pre W W' row ⟨c', rfl, h1, h2, h3⟩ hgr hrow
    have hs : Side c.w.heap.size c' W' := Side.grown hgr hrow (by rw [h3.σ]; exact hFm pre)
    exact ⟨c'.at W', rfl, h1.side hs (Nat.le_refl _), h2, h3.side hs⟩
  · rintro cd pre W W' row ⟨e, σ, nx, c', h0, rfl, h1, h2, h3, h4, h5⟩ hgr hrow
    have hs : Side c.w.heap.size c' W' := Side.grown hgr hrow (by rw [h3.σ]; exact hXm _ _ _ _ h5)
    exact ⟨e, σ, nx, c'.at W', h0, rfl, h1.side hs (Nat.le_refl _), h2, h3.side hs, h4, h5⟩
  · intro l i W K hK
    exact mv_wp (ro := some l) (Q := Exit.then K (fun _ _ _ => False)) hmv hK
  · rintro l pre i W ⟨c', rfl, h1, h2, h3⟩ hlen
    classical
    obtain ⟨Y, hY⟩ : ∃ Y : Nat → WK, ∀ b, Y b = if ∃ cs e f, c'.w.heap[b]? = some (.cells cs e f) then c'.Y b else .no := ⟨_, fun b => rfl⟩
    have hY1 : ∀ b, Y b = c'.Y b ∨ (Y b = .no ∧ ∀ cs e f, c'.w.heap[b]? ≠ some (.cells cs e f)) := fun b => by
      rw [hY b]
      split
      · exact .inl rfl
      · rename_i h; exact .inr ⟨rfl, fun cs e f h9 => h ⟨cs, e, f, h9⟩⟩
    have hwok : ∀ k b n, c'.wok k b n → (c'.reY Y).wok k b n := by
      rintro k b n ⟨k1, k2, k3, k4, sz, ⟨cs, e, k5, k6⟩, k7⟩
      refine ⟨k1, k2, ?_, k4, sz, ⟨cs, e, k5, k6⟩, k7⟩
      rcases hY1 b with h | ⟨_, h⟩
      · show Y b = k; rw [h]; exact k3
      · exact absurd k5 (h _ _ _)
    have hno : ∀ b, c'.Y b = .no → Y b = .no := fun b h => by
      rcases hY1 b with h9 | ⟨h9, _⟩
      · rw [h9, h]
      · exact h9
    have hr1 : RelR N (F pre).2 No (c'.reY Y) ⟨st.env, (F pre).1, (F pre).2⟩ { tmps := a.tmps, defers := [] } :=
      ⟨h3.size, fun t => (h3.env t).reY hwok, h3.hr.reY (fun b v hb hx => hno b ((h3.hr.gl b v hb).2.2 hx)) hwok, h3.σ, h3.fresh⟩
    have hV2 : VRt (c'.reY Y) L[i] (V i) := ((hV i).monoP (p := fun i => i < m1) h1 (fun id y q1 q2 => by rw [h2 id q1]; exact q2) (hLp L[i] (by exact List.getElem_mem _)).1).reY hwok
    have hr2 := (hr1.binds hps hV2).mvs hmvN
    have hz : (pa.zip (V i).toArray).foldl (fun t q => t.setIfInBounds q.1 q.2) a.tmps = (pa.toList.zip (V i)).foldl (fun t q => t.setIfInBounds q.1 q.2) a.tmps := by
      rw [← Array.foldl_toList, Array.toList_zip]
    have hb := wpC_sound (hbody pre i hlen) x hx (some l) (.inr hfl) 1 (c'.reY Y) _ hr2 (hFn pre)
    rw [hz]
    refine wpIn_mono hb ?_
    have fin : ∀ {c3 : Cx} {s3 : ASt} {a3 : Act}, Grow (c'.reY Y) c3 → (∀ id, id < m1 → c3.φ id = (c'.reY Y).φ id) → RelR N s3.nx No c3 s3 a3 →
        KeepsOthers c'.w c3.w ∧ Kc c c'.w c3.w ∧ Grow c (c3.reY c'.Y) ∧ (∀ id, id < m1 → (c3.reY c'.Y).φ id = c.φ id) ∧ RelR N s3.nx No (c3.reY c'.Y) ⟨st.env, s3.σ, s3.nx⟩ a := by
      intro c3 s3 a3 hg3 hl3 hr3
      have hgg : Grow c (c3.reY c'.Y) := h1.trans (hg3.reYback hY1)
      have hll : ∀ id, id < m1 → (c3.reY c'.Y).φ id = c.φ id := fun id hid => (hl3 id hid).trans (h2 id hid)
      have hY3 : c3.Y = Y := hg3.Y
      have hh : HR (c3.reY c'.Y) := hr3.hr.reY (fun b v hb hx => (h3.hr.gl b v hb).2.2 (by rw [hg3.X] at hx; exact hx)) (by
        rintro k b n ⟨k1, k2, k3, k4, k5⟩
        refine ⟨k1, k2, ?_, k4, k5⟩
        rw [hY3] at k3
        rcases hY1 b with h | ⟨h, _⟩
        · show c'.Y b = k; rw [← h]; exact k3
        · rw [h] at k3; subst k3; rcases k4 with k4 | k4 <;> cases k4)
      refine ⟨⟨hg3.size, fun k o hk ho => ?_⟩, fun b q1 q2 q3 => ?_, hgg, hll, envs hgg hll hh hr3.σ (fun id hid => fresh' hr3 id hid)⟩
      · refine (hg3.stay k (Array.getElem?_eq_some_iff.1 hk).1 (fun ht => ?_) (fun _ => ?_)).trans hk
        · obtain ⟨cs, e, f, h9⟩ := h3.hr.T_cells (by rw [h3.σ]; exact hFm pre) ht
          rw [hk] at h9; cases h9; cases ho
        · show Y k = .no
          rw [hY k, if_neg]
          rintro ⟨cs, e, f, h9⟩
          rw [hk] at h9; cases h9; cases ho
      · refine hg3.stay b (Nat.lt_of_lt_of_le q1 h1.size) (fun ht => ?_) (fun hx => ?_)
        · rcases h1.held b ht with h9 | h9
          · exact q2 h9
          · omega
        · refine hno b ?_
          rw [h1.Y]; exact q3 (by rw [← h1.X]; exact hx)
    rintro e a' w' ⟨c2, s2, rfl, ga, low2, rel2, hm2, hq⟩
    cases e with
    | normal =>
      obtain ⟨c3, w3, g3, low3, rel3, hm3⟩ := hq c2 a' rel2 hm2
      obtain ⟨k1, k2, k3, k4, k5⟩ := fin (ga.g.trans g3) (fun id hid => (low3 id hid).trans (low2 id hid)) rel3
      rw [w3] at k1 k2
      exact ⟨k1, k2, c3.reY c'.Y, w3, k3, k4, k5⟩
    | ret =>
      obtain ⟨k1, k2, k3, k4, k5⟩ := fin ga.g low2 rel2
      exact ⟨k1, .ret, s2.σ, s2.nx, c2.reY c'.Y, .inl ⟨rfl, rfl⟩, rfl, k3, k4, k5, hm2, hq⟩
    | exit id =>
      obtain ⟨k1, k2, k3, k4, k5⟩ := fin ga.g low2 rel2
      exact ⟨k1, .exit id, s2.σ, s2.nx, c2.reY c'.Y, .inr ⟨id, rfl, rfl⟩, rfl, k3, k4, k5, hm2, hq⟩
    | _ => exact hq.elim
  · rintro D xs W hD rfl ⟨c', rfl, h1, h2, h3⟩ hdd
    exact ⟨c', _, rfl, ⟨h1, [{ target := .collected D, args := #[] }], rfl, by simp, fun d hd => by rw [List.mem_singleton] at hd; exact ⟨D, hd, hD, hdd⟩⟩, fun id hid => h2 id (Nat.lt_of_lt_of_le hid hm), ⟨h3.size, h3.env, h3.hr, h3.σ, h3.fresh⟩, Nat.le_trans hm (hFn _), hdone⟩
  · rintro D cd pre W hD ⟨k, hk, rfl⟩ ⟨e, σ, nx, c', h0, rfl, h1, h2, h3, h4, h5⟩ hdd
    have key : ∃ c'' st', c''.w = c'.w ∧ GoA c a c'' { a with defers := { target := .collected D, args := #[] } :: a.defers } ∧ (∀ id, id < m → c''.φ id = c.φ id) ∧ RelR N st'.nx No c'' st' { a with defers := { target := .collected D, args := #[] } :: a.defers } ∧ m ≤ st'.nx ∧ Q e st' :=
      ⟨c', ⟨st.env, σ, nx⟩, rfl, ⟨h1, [{ target := .collected D, args := #[] }], rfl, by simp, fun d hd => by rw [List.mem_singleton] at hd; exact ⟨D, hd, hD, hdd⟩⟩, fun id hid => h2 id (Nat.lt_of_lt_of_le hid hm), ⟨h3.size, h3.env, h3.hr, h3.σ, h3.fresh⟩, Nat.le_trans hm h4, hstop k e σ nx hk h5⟩
    rcases h0 with ⟨rfl, rfl⟩ | ⟨id, rfl, rfl⟩
    · exact wpIn_ret key
    · exact wpIn_exit key
theorem RelR.envs {c c' : Cx} {env : Nat → AV} {σ0 σ : Heap} {nx0 nx m1 : Nat} {a : Act} (hr : RelR N nx0 No c ⟨env, σ0, nx0⟩ a) (hlow : ∀ t, AlN (fun i => i < m1) (env t)) (hgr : Grow c c') (hl : ∀ id, id < m1 → c'.φ id = c.φ id) (hh : HR c') (hs : c'.σ = σ) (hf : ∀ id, nx ≤ id → c'.φ id = none) :
    RelR N nx No c' ⟨env, σ, nx⟩ a :=
  ⟨hr.size, fun t => (hr.env t).monoP (p := fun i => i < m1) hgr (fun id y h1 h2 => by rw [hl id h1]; exact h2) (hlow t), hh, hs, fun id h1 h2 => absurd (hf id h1) h2⟩
theorem RelR.none {nx : Nat} {c' : Cx} {s : ASt} {a' : Act} (h : RelR N nx No c' s a') : ∀ id, nx ≤ id → c'.φ id = none := by
  intro id hid
  cases hq : c'.φ id with
  | none => rfl
  | some y => obtain ⟨j, hj, _⟩ := h.fresh id hid (by rw [hq]; simp); exact hj.elim
end Go.Proofs.YtonglhkiobibgaaGreatDoor
namespace Go.Proofs.YtonglhkiobibgaaGreatDoor
open Go.RowKit
variable {P : Program} {N m : Nat}
theorem Weak.fnData {s : ASt} (t f : Nat) (caps caps' : List AV) (h : s.env t = .fn f caps) (hl : caps'.length = caps.length)
    (hc : ∀ (j : Nat) x', caps'[j]? = some x' → ∃ x, caps[j]? = some x ∧ ((x' = x ∧ Pu x) ∨ ∃ id y e cells off, x = .op id off ∧ s.σ id = some (.row y e cells) ∧ PuL cells ∧ x' = .fp y cells off)) :
    Weak N m s ⟨envOf [(t, .fn f caps')], heapOf [], s.nx⟩ := by
  intro c a hr hms
  generalize hd : (⟨c.w, c.B, c.φ, heapOf [], c.X, c.Y⟩ : Cx) = d
  have dw : d.w = c.w := by rw [← hd]
  have dB : d.B = c.B := by rw [← hd]
  have dX : d.X = c.X := by rw [← hd]
  have dY : d.Y = c.Y := by rw [← hd]
  have dσ : d.σ = heapOf [] := by rw [← hd]
  have dφ : d.φ = c.φ := by rw [← hd]
  have hT : ∀ b, ¬ d.T b := by rintro b ⟨k, o, e1, e2⟩; rw [dσ] at e1; cases e1
  have g : Grow c d := Still.grow ⟨dY, dX, dB, by rw [dw], by rw [dw], by rw [dw], by rw [dw]; exact Nat.le_refl _, fun b _ _ => by rw [dw], fun b hb => (hT b hb).elim, fun b cs e f hb => ⟨cs, f, by rw [dw]; exact hb, rfl⟩⟩
  have nm : Names c d := fun k x hk => by rw [dφ]; exact hk
  refine ⟨d, dw, g, fun _ _ => by rw [dφ], ⟨hr.size, fun t' => ?_, ⟨fun j y' e' cs' hs => (by rw [dσ] at hs; cases hs), fun i i' b e1 e2 e3 e4 => by rw [dσ] at e1; exact absurd rfl e1, by rw [dB, dw]; exact hr.hr.base, fun b hb => by rw [dX] at hb; rw [dw]; exact hr.hr.xlt b hb, hr.hr.gl.grow g⟩, dσ, fun k hk hne => by rw [dφ] at hne; exact hr.fresh k hk hne⟩, hms⟩
  simp only [envOf]
  split
  · rename_i e
    subst e
    have hv := hr.env t'
    rw [h] at hv
    obtain ⟨us, hu, hv⟩ := hv
    rw [VRt_iff] at hv
    refine ⟨us, hu, VRt_iff.2 ⟨by omega, fun j x' hj => ?_⟩⟩
    obtain ⟨x, k1, k2⟩ := hc j x' hj
    obtain ⟨u, k3, k4⟩ := hv.2 j x k1
    refine ⟨u, k3, ?_⟩
    rcases k2 with ⟨rfl, _⟩ | ⟨id, y, e, cells, off, rfl, q1, q2, rfl⟩
    · exact k4.mono g nm
    · obtain ⟨b, e1, rfl, hcl⟩ := k4
      rcases hr.hr.row id y e cells (by rw [hr.σ]; exact q1) with ⟨g1, _⟩ | ⟨b', cs, g1, g2, g3, g4, g5⟩
      · rw [e1] at g1; cases g1
      · rw [e1] at g1; cases g1
        replace g2 := g2.cells hcl
        refine ⟨b, 0, by rw [Nat.zero_add], by rw [dw, Array.getElem?_eq_some_iff] at *; exact g2.1, ⟨by rw [dB]; exact g3.1, hT b, by rw [dX]; exact g3.2⟩, VRm_iff.2 fun j z hj => ?_⟩
        obtain ⟨q, k1, k2, k3⟩ := g5 _ _ hj
        exact ⟨q, by rw [dw, Nat.zero_add]; simp [World.cell?, g2, k1], k2, k3.mono g nm⟩
  · trivial
mutual
theorem AlN.of {p : Nat → Prop} : ∀ {a : AV}, Al p a → AlN p a
  | .any, _ | .v _, _ | .ws _ _, _ | .wp _, _ | .wv _, _ => trivial
  | .fs fr cs n, h | .fp fr cs n, h | .us fr e cs n, h => AlNL.of (l := cs) h
  | .agg l, h | .tup l, h | .fn f l, h => AlNL.of (l := l) h
  | .ifc _ a, h => AlN.of (a := a) h
  | .os _ _ _ _, h | .op _ _, h | .mp _, h => h
theorem AlNL.of {p : Nat → Prop} : ∀ {l : List AV}, AlL p l → AlNL p l
  | [], _ => trivial
  | a :: r, h => ⟨AlN.of (a := a) h.1, AlNL.of (l := r) h.2⟩
end
theorem AlN.env {p : Nat → Prop} {l : List (Nat × AV)} (h : AlL p (l.map (·.2))) (t : Nat) : AlN p (envOf l t) := by
  rcases envOf_mem (l := l) (t := t) with e | e
  · rw [e]; trivial
  · exact AlN.of (AlL_iff.1 h _ (List.mem_map.2 ⟨_, e, rfl⟩))
end Go.Proofs.YtonglhkiobibgaaGreatDoor
namespace Go.Proofs.YtonglhkiobibgaaGreatDoor
open Go.RowKit
variable {P : Program} {N m : Nat}
theorem Weak.ifcData {s : ASt} (t ty id : Nat) {y : Bool} {e off : Nat} {cells : List AV} (h : s.env t = .ifc ty (.op id off)) (hs : s.σ id = some (.row y e cells)) (hp : PuL cells) :
    Weak N m s ⟨envOf [(t, .ifc ty (.fp y cells off))], heapOf [], s.nx⟩ := by
  intro c a hr hms
  generalize hd : (⟨c.w, c.B, c.φ, heapOf [], c.X, c.Y⟩ : Cx) = d
  have dw : d.w = c.w := by rw [← hd]
  have dB : d.B = c.B := by rw [← hd]
  have dX : d.X = c.X := by rw [← hd]
  have dY : d.Y = c.Y := by rw [← hd]
  have dσ : d.σ = heapOf [] := by rw [← hd]
  have dφ : d.φ = c.φ := by rw [← hd]
  have hT : ∀ b, ¬ d.T b := by rintro b ⟨k, o, e1, e2⟩; rw [dσ] at e1; cases e1
  have g : Grow c d := Still.grow ⟨dY, dX, dB, by rw [dw], by rw [dw], by rw [dw], by rw [dw]; exact Nat.le_refl _, fun b _ _ => by rw [dw], fun b hb => (hT b hb).elim, fun b cs e f hb => ⟨cs, f, by rw [dw]; exact hb, rfl⟩⟩
  have nm : Names c d := fun k x hk => by rw [dφ]; exact hk
  refine ⟨d, dw, g, fun _ _ => by rw [dφ], ⟨hr.size, fun t' => ?_, ⟨fun j y' e' cs' hs => (by rw [dσ] at hs; cases hs), fun i i' b e1 e2 e3 e4 => by rw [dσ] at e1; exact absurd rfl e1, by rw [dB, dw]; exact hr.hr.base, fun b hb => by rw [dX] at hb; rw [dw]; exact hr.hr.xlt b hb, hr.hr.gl.grow g⟩, dσ, fun k hk hne => by rw [dφ] at hne; exact hr.fresh k hk hne⟩, hms⟩
  simp only [envOf]
  split
  · rename_i e
    subst e
    have hv := hr.env t'
    rw [h] at hv
    obtain ⟨v, hu, hv⟩ := hv
    refine ⟨v, hu, ?_⟩
    obtain ⟨b, e1, rfl, hcl⟩ := hv
    rcases hr.hr.row id y e cells (by rw [hr.σ]; exact hs) with ⟨g1, _⟩ | ⟨b', cs, g1, g2, g3, g4, g5⟩
    · rw [e1] at g1; cases g1
    · rw [e1] at g1; cases g1
      replace g2 := g2.cells hcl
      refine ⟨b, 0, by rw [Nat.zero_add], by rw [dw, Array.getElem?_eq_some_iff] at *; exact g2.1, ⟨by rw [dB]; exact g3.1, hT b, by rw [dX]; exact g3.2⟩, VRm_iff.2 fun j z hj => ?_⟩
      obtain ⟨q, k1, k2, k3⟩ := g5 _ _ hj
      exact ⟨q, by rw [dw, Nat.zero_add]; simp [World.cell?, g2, k1], k2, k3.mono g nm⟩
  · trivial
end Go.Proofs.YtonglhkiobibgaaGreatDoor
namespace Go.Proofs.YtonglhkiobibgaaGreatDoor
open Go.RowKit
set_option maxRecDepth 100000
set_option maxHeartbeats 1000000 in
theorem opCheck_spec (fr : Bool) (o : OpD) (nb : Nat) : ASound Tryz.prog 48 [aOp fr o] nb (.ret (.v (.int .i64 (opChk o))) []) := by
  refine ok_48.sound (by simp) ⟨al_aOp o, trivial⟩ ?_
  by_cases h1 : o.kind < 1
  · have e : opChk o = 22 := by rw [opChk, if_pos (.inl h1)]
    simp only [ac_48, aOp, h1, e, TT, ↓reduceIte, Nat.reduceEqDiff, Nat.reduceAdd, Nat.reduceMul, reduceCtorEq, Nat.reduceLeDiff]
    exact Ends.data (.inr rfl) (by simp [ET]) trivial
  by_cases h2 : 12 < o.kind
  · have e : opChk o = 22 := by rw [opChk, if_pos (.inr h2)]
    simp only [ac_48, aOp, h1, h2, e, TT, ↓reduceIte, Nat.reduceEqDiff, Nat.reduceAdd, Nat.reduceMul, reduceCtorEq, Nat.reduceLeDiff]
    exact Ends.data (.inr rfl) (by simp [ET]) trivial
  have e0 : opChk o = if 255 < o.path.size ∨ 255 < o.to.size ∨ 4096 < o.data.length then 5 else 0 := by rw [opChk, if_neg (by omega)]
  have em : ((255 : Int) < (if (o.path.size : Int) < (o.to.size : Int) then (o.to.size : Int) else (o.path.size : Int))) ↔ (255 < o.path.size ∨ 255 < o.to.size) := by split <;> omega
  by_cases h3 : 255 < o.path.size ∨ 255 < o.to.size
  · have e : opChk o = 5 := by rw [e0, if_pos (by omega)]
    simp only [ac_48, aOp, h1, h2, em, h3, e, TT, ↓reduceIte, Nat.reduceEqDiff, Nat.reduceAdd, Nat.reduceMul, reduceCtorEq, Nat.reduceLeDiff]
    exact Ends.data (.inr rfl) (by simp [ET]) trivial
  by_cases h4 : 4096 < o.data.length
  · have e : opChk o = 5 := by rw [e0, if_pos (by omega)]
    have e4 : ((4096 : Int) < (o.data.length : Int)) := by omega
    simp only [ac_48, aOp, h1, h2, em, h3, e4, e, TT, ↓reduceIte, Nat.reduceEqDiff, Nat.reduceAdd, Nat.reduceMul, reduceCtorEq, Nat.reduceLeDiff]
    exact Ends.data (.inr rfl) (by simp [ET]) trivial
  have e : opChk o = 0 := by rw [e0, if_neg (by omega)]
  have e4 : ¬ ((4096 : Int) < (o.data.length : Int)) := by omega
  simp only [ac_48, aOp, h1, h2, em, h3, e4, e, TT, ↓reduceIte, Nat.reduceEqDiff, Nat.reduceAdd, Nat.reduceMul, reduceCtorEq, Nat.reduceLeDiff]
  exact Ends.data (.inr rfl) (by simp [ET]) trivial
theorem encode_b (fr : Bool) (o : OpD) (h1 : i64ok o.off) (h2 : i64ok o.n) (id1 id2 nb : Nat) (hne : id1 ≠ id2) : ASound Tryz.prog 96 [.agg [.v (.int .i64 o.kind), .os id1 0 2 1, .os id2 0 3 1]] nb
    (rowsM [(id1, true, 3, [.v (.int .i64 o.off), .v (.int .i64 o.n)]), (id2, true, 37, [.fs true (octs o.path) o.path.size, .fs true (octs o.to) o.to.size, fB fr o.data])] (.ret (.tup [fB true (encode (opRec o)).1, .v (.int .i64 (encode (opRec o)).2)]) [])) := by
  refine ASound.borrow [] [(id1, true, 3, [.v (.int .i64 o.off), .v (.int .i64 o.n)]), (id2, true, 37, [.fs true (octs o.path) o.path.size, .fs true (octs o.to) o.to.size, fB fr o.data])] ?_ (by simp) (by simp) ⟨yg_fB _, trivial, trivial⟩ (by simp)
  have e : boL [(id1, true, 3, [.v (.int .i64 o.off), .v (.int .i64 o.n)]), (id2, true, 37, [.fs true (octs o.path) o.path.size, .fs true (octs o.to) o.to.size, fB fr o.data])] [.agg [.v (.int .i64 o.kind), .os id1 0 2 1, .os id2 0 3 1]] = [aRec false (opRec o)] := by
    simp [boL, bo, cellsAt, od, odL, od_fB, fI, aRec, opRec, fL, eL, eI, fB, hne.symm, od_B, octs_eq, octL_len]
  rw [e]
  exact encode_spec false (opRec o) nb (by intro n hn; simp [opRec] at hn; rcases hn with rfl | rfl <;> assumption)
set_option maxHeartbeats 1000000 in
theorem opEncode_spec (fr : Bool) (o : OpD) (nb : Nat) (h1 : i64ok o.off) (h2 : i64ok o.n) : ASound Tryz.prog 43 [aOp fr o] nb (.ret (.tup [fB true (encO o).1, .v (.int .i64 (encO o).2)]) []) := by
  refine ok_43.sound (by simp) ⟨al_aOp o, trivial⟩ ?_
  have hc := opCheck_spec fr o
  simp only [aOp] at hc
  simp only [ac_43, aOp, TT, ↓reduceIte, Nat.reduceEqDiff, Nat.reduceAdd, Nat.reduceMul, reduceCtorEq, Nat.reduceLeDiff]
  refine ⟨_, hc _, ?_⟩
  simp only [TT, ↓reduceIte, Nat.reduceEqDiff, Nat.reduceAdd, Nat.reduceMul, reduceCtorEq, Nat.reduceLeDiff]
  by_cases h0 : opChk o = 0
  · have e : encO o = encode (opRec o) := by rw [encO, if_pos h0]
    simp only [h0, e, TT, ↓reduceIte, Nat.reduceEqDiff, Nat.reduceAdd, Nat.reduceMul, reduceCtorEq, Nat.reduceLeDiff]
    refine ⟨_, encode_b fr o h1 h2 _ _ _ (by omega), ?_⟩
    simp only [TT, ↓reduceIte, Nat.reduceEqDiff, Nat.reduceAdd, Nat.reduceMul, reduceCtorEq, Nat.reduceLeDiff]
    exact Ends.data (.inr rfl) (by simp [ET]) ⟨al_fB _, trivial, trivial⟩
  · have e : encO o = ([], opChk o) := by rw [encO, if_neg h0]
    simp only [h0, e, TT, ↓reduceIte, Nat.reduceEqDiff, Nat.reduceAdd, Nat.reduceMul, reduceCtorEq, Nat.reduceLeDiff]
    exact Ends.imp (.inr rfl) (r0 := .tup [.v (.slice none 0 0), .v (.int .i64 (opChk o))]) (by simp [ET]) ⟨trivial, trivial, trivial⟩ (Imp.tup rfl (fun j a' hj => by
      match j with
      | 0 => simp at hj; subst hj; exact ⟨_, rfl, Imp.nil true⟩
      | 1 => simp at hj; subst hj; exact ⟨_, rfl, Imp.refl _⟩
      | j + 2 => simp at hj))
end Go.Proofs.YtonglhkiobibgaaGreatDoor
namespace Go.Proofs.YtonglhkiobibgaaGreatDoor
open Go.RowKit
set_option maxRecDepth 100000
theorem longS_spec (s : ByteArray) (nb : Nat) : ASound Tryz.prog 101 [.v (.string s)] nb (.ret (.v (.bool (decide (255 < (s.size : Int))))) []) := by
  refine ok_101.sound (by simp) ⟨trivial, trivial⟩ ?_
  simp only [ac_101, TT, ↓reduceIte, Nat.reduceEqDiff, Nat.reduceAdd, Nat.reduceMul, reduceCtorEq, Nat.reduceLeDiff]
  exact Ends.data (.inr rfl) (by simp [ET]) trivial
/-- the first name that is too long -/
def idxS : List ByteArray → Nat → Int
  | [], _ => -1
  | s :: r, i => if 255 < s.size then (i : Int) else idxS r (i + 1)
theorem idxS_drop {l : List ByteArray} {i : Nat} {s : ByteArray} (h : l[i]? = some s) : idxS (l.drop i) i = if 255 < s.size then (i : Int) else idxS (l.drop (i + 1)) (i + 1) := by
  have hi := (List.getElem?_eq_some_iff.1 h)
  rw [List.drop_eq_getElem_cons hi.1, hi.2]; rfl
theorem idxS_pos : ∀ (l : List ByteArray) (i : Nat), 0 ≤ idxS l i ↔ ∃ s ∈ l, 255 < s.size
  | [], i => by simp [idxS]
  | s :: r, i => by
    rw [idxS]
    by_cases h : 255 < s.size
    · rw [if_pos h]; simp [h]
    · rw [if_neg h, idxS_pos r (i + 1)]; simp [h]
abbrev L_is (fr : Bool) (l : List ByteArray) (i : Nat) : ASt := ⟨envOf [(0, fS fr l), (1, .fn 101 []), (7, .v (.int .i64 l.length)), (8, .v (.int .i64 i))], heapOf [], 1⟩
theorem indexS_spec (fr : Bool) (l : List ByteArray) (nb : Nat) (hn : l.length ≤ 140737488355328) : ASound Tryz.prog 164 [fS fr l, .fn 101 []] nb (.ret (.v (.int .i64 (idxS l 0))) []) := by
  refine ok_164.sound (by simp) ⟨al_fS l, trivial, trivial⟩ ?_
  simp only [ac_164, fS, TT, ↓reduceIte, Nat.reduceEqDiff, Nat.reduceAdd, Nat.reduceMul, reduceCtorEq, Nat.reduceLeDiff]
  refine AWc.family (L_is fr l) (fun i => i ≤ l.length ∧ idxS (l.drop i) i = idxS l 0) (fun i => l.length - i) 0 ⟨Nat.zero_le _, rfl⟩ ?_ ?_
  · refine Weak.calc [] (by decide) ?_ ?_ <;> simp [WT, al_S, ren_S, fS]
  · rintro i ⟨hi, he⟩
    by_cases hlt : i < l.length
    · obtain ⟨s, hx, e1, e0⟩ := lt_at hlt
      simp only [L_is, fS, e1, e0, get_S hx, Int.toNat_natCast, TT, ↓reduceIte, Nat.reduceEqDiff, Nat.reduceAdd, Nat.reduceMul, reduceCtorEq, Nat.reduceLeDiff]
      refine ⟨_, _, _, rfl, longS_spec s _, ?_⟩
      have hd := idxS_drop hx
      by_cases h : 255 < s.size
      · have t1 : ((255 : Int) < (s.size : Int)) := by omega
        rw [if_pos h] at hd
        simp only [t1, decide_true, TT, ↓reduceIte, Nat.reduceEqDiff, Nat.reduceAdd, Nat.reduceMul, reduceCtorEq, Nat.reduceLeDiff]
        rw [← he, hd]
        exact Ends.data (.inr rfl) (by simp [ET]) trivial
      · have t1 : ¬ ((255 : Int) < (s.size : Int)) := by omega
        rw [if_neg h] at hd
        simp only [t1, decide_false, TT, ↓reduceIte, Nat.reduceEqDiff, Nat.reduceAdd, Nat.reduceMul, reduceCtorEq, Nat.reduceLeDiff]
        refine famC_next (i + 1) (by omega) ⟨by omega, by rw [← hd, he]⟩ ?_
        refine Weak.calc [] (by decide) ?_ ?_ <;> simp [WT, al_S, ren_S, fS, wrap64 (x := (i : Int) + 1) (by omega)]
    · obtain rfl : i = l.length := by omega
      have e1 : ¬ ((l.length : Int) < (l.length : Int)) := by omega
      rw [List.drop_length] at he
      simp only [L_is, fS, e1, TT, ↓reduceIte, Nat.reduceEqDiff, Nat.reduceAdd, Nat.reduceMul, reduceCtorEq, Nat.reduceLeDiff]
      rw [← he]
      exact Ends.data (.inr rfl) (by simp [ET, idxS]) trivial
theorem containsS_spec (fr : Bool) (l : List ByteArray) (nb : Nat) (hn : l.length ≤ 140737488355328) : ASound Tryz.prog 100 [fS fr l, .fn 101 []] nb (.ret (.v (.bool (decide (0 ≤ idxS l 0)))) []) := by
  refine ok_100.sound (by simp) ⟨al_fS l, trivial, trivial⟩ ?_
  have hs := indexS_spec fr l
  simp only [fS] at hs
  simp only [ac_100, fS, TT, ↓reduceIte, Nat.reduceEqDiff, Nat.reduceAdd, Nat.reduceMul, reduceCtorEq, Nat.reduceLeDiff]
  refine ⟨_, hs _ hn, ?_⟩
  simp only [TT, ↓reduceIte, Nat.reduceEqDiff, Nat.reduceAdd, Nat.reduceMul, reduceCtorEq, Nat.reduceLeDiff]
  exact Ends.data (.inr rfl) (by simp [ET]) trivial
/-- what the loop has laid -/
def txR (r : RepD) (i : Nat) : List (List Int) := r.data :: (r.names.take i).map octL
def eTx (fr : Bool) (r : RepD) (i : Nat) : List AV := fB fr r.data :: (r.names.take i).map fun s => .fs true (octs s) s.size
theorem eTx_len (fr : Bool) (r : RepD) {i : Nat} (h : i ≤ r.names.length) : (eTx fr r i).length = i + 1 := by simp [eTx]; omega
theorem eTx_s (fr : Bool) (r : RepD) {i : Nat} {s : ByteArray} (h : r.names[i]? = some s) : eTx fr r i ++ [.fs true (octs s) s.size] = eTx fr r (i + 1) := by
  unfold eTx
  rw [take_snoc h]; simp
theorem al_eTx {p : Nat → Prop} (fr : Bool) (r : RepD) (i : Nat) : AlL p (eTx fr r i) := ⟨al_fB _, AlL_map (e := fun s => AV.fs true (octs s) s.size) (fun s => by rw [octs_eq]; exact al_B _) _⟩
theorem ren_eTx {ρ : Nat → Nat} (fr : Bool) (r : RepD) (i : Nat) : renL ρ (eTx fr r i) = eTx fr r i := renL_id (p := fun _ => False) (fun _ h => h.elim) (al_eTx fr r i)
theorem od_eTx (fr : Bool) (r : RepD) (i : Nat) : odL (eTx fr r i) = eL false (txR r i) := by
  unfold eTx txR eL
  rw [odL_map, List.map_cons, List.map_cons, List.map_map, List.map_map]
  congr 1
  · rw [od_fB]; rfl
  · apply List.map_congr_left
    intro s _
    simp [od, octs_eq, od_B, octL_len]
theorem encodeR_b (fr : Bool) (r : RepD) (h1 : i64ok r.err) (h2 : i64ok r.n) (id1 id2 nb : Nat) (hne : id1 ≠ id2) : ASound Tryz.prog 96 [.agg [.v (.int .i64 0), .os id1 0 2 1, .os id2 0 (r.names.length + 1) 1]] nb
    (rowsM [(id1, true, 3, [.v (.int .i64 r.err), .v (.int .i64 r.n)]), (id2, true, 37, eTx fr r r.names.length)] (.ret (.tup [fB true (encode (repRec r)).1, .v (.int .i64 (encode (repRec r)).2)]) [])) := by
  refine ASound.borrow [] [(id1, true, 3, [.v (.int .i64 r.err), .v (.int .i64 r.n)]), (id2, true, 37, eTx fr r r.names.length)] ?_ (by simp [eTx]) (by simp) ⟨yg_fB _, trivial, trivial⟩ (by simp)
  have e : boL [(id1, true, 3, [.v (.int .i64 r.err), .v (.int .i64 r.n)]), (id2, true, 37, eTx fr r r.names.length)] [.agg [.v (.int .i64 0), .os id1 0 2 1, .os id2 0 (r.names.length + 1) 1]] = [aRec false (repRec r)] := by
    have e3 : (eTx fr r r.names.length).take (r.names.length + 1) = eTx fr r r.names.length := List.take_of_length_le (by rw [eTx_len fr r (Nat.le_refl _)]; exact Nat.le_refl _)
    simp [boL, bo, cellsAt, od, odL, fI, aRec, repRec, fL, eI, hne.symm, e3, od_eTx, txR]
  rw [e]
  exact encode_spec false (repRec r) nb (by intro n hn; simp [repRec] at hn; rcases hn with rfl | rfl <;> assumption)
abbrev L_er (fr : Bool) (r : RepD) (i : Nat) : ASt := ⟨envOf [(4, .op 0 0), (50, fS fr r.names), (51, .v (.int .i64 r.names.length)), (52, .v (.int .i64 i))], heapOf [(0, .row true 154 [.v (.int .i64 0), .os 1 0 2 1, .os 2 0 (i + 1) 1]), (1, .row true 3 [.v (.int .i64 r.err), .v (.int .i64 r.n)]), (2, .row true 37 (eTx fr r i))], 3⟩
theorem nilE (e : Int) : Imp (.tup [.v (.slice none 0 0), .v (.int .i64 e)]) (.tup [fB true [], .v (.int .i64 e)]) := Imp.tup rfl (fun j a' hj => by
  match j with
  | 0 => simp at hj; subst hj; exact ⟨_, rfl, Imp.nil true⟩
  | 1 => simp at hj; subst hj; exact ⟨_, rfl, Imp.refl _⟩
  | j + 2 => simp at hj)
set_option maxHeartbeats 2000000 in
theorem repEncode_spec (fr : Bool) (r : RepD) (nb : Nat) (h1 : i64ok r.err) (h2 : i64ok r.n) (hn : r.names.length ≤ 140737488355328) : ASound Tryz.prog 51 [aRep fr r] nb (.ret (.tup [fB true (encRep r).1, .v (.int .i64 (encRep r).2)]) []) := by
  refine ok_51.sound (by simp) ⟨al_aRep r, trivial⟩ ?_
  have bad : ∀ (e : Int), repChk r = e → e ≠ 0 → encRep r = ([], e) := fun e h h0 => by rw [encRep, if_neg (by omega), h]
  by_cases c1 : r.err < 0
  · have e := bad 4 (by rw [repChk, if_pos (.inl c1)]) (by decide)
    simp only [ac_51, aRep, c1, e, TT, ↓reduceIte, Nat.reduceEqDiff, Nat.reduceAdd, Nat.reduceMul, reduceCtorEq, Nat.reduceLeDiff]
    exact Ends.imp (.inr rfl) (r0 := .tup [.v (.slice none 0 0), .v (.int .i64 4)]) (by simp [ET]) ⟨trivial, trivial, trivial⟩ (nilE 4)
  by_cases c2 : 65536 < r.err
  · have e := bad 4 (by rw [repChk, if_pos (.inr (.inl c2))]) (by decide)
    simp only [ac_51, aRep, c1, c2, e, TT, ↓reduceIte, Nat.reduceEqDiff, Nat.reduceAdd, Nat.reduceMul, reduceCtorEq, Nat.reduceLeDiff]
    exact Ends.imp (.inr rfl) (r0 := .tup [.v (.slice none 0 0), .v (.int .i64 4)]) (by simp [ET]) ⟨trivial, trivial, trivial⟩ (nilE 4)
  by_cases c3 : r.n < 0
  · have e := bad 4 (by rw [repChk, if_pos (.inr (.inr (.inl c3)))]) (by decide)
    simp only [ac_51, aRep, c1, c2, c3, e, TT, ↓reduceIte, Nat.reduceEqDiff, Nat.reduceAdd, Nat.reduceMul, reduceCtorEq, Nat.reduceLeDiff]
    exact Ends.imp (.inr rfl) (r0 := .tup [.v (.slice none 0 0), .v (.int .i64 4)]) (by simp [ET]) ⟨trivial, trivial, trivial⟩ (nilE 4)
  by_cases c4 : 2147483647 < r.n
  · have e := bad 4 (by rw [repChk, if_pos (.inr (.inr (.inr c4)))]) (by decide)
    simp only [ac_51, aRep, c1, c2, c3, c4, e, TT, ↓reduceIte, Nat.reduceEqDiff, Nat.reduceAdd, Nat.reduceMul, reduceCtorEq, Nat.reduceLeDiff]
    exact Ends.imp (.inr rfl) (r0 := .tup [.v (.slice none 0 0), .v (.int .i64 4)]) (by simp [ET]) ⟨trivial, trivial, trivial⟩ (nilE 4)
  have e0 : repChk r = if 4096 < r.data.length then 5 else if 64 < r.names.length then 3 else if ∃ s ∈ r.names, 255 < s.size then 5 else 0 := by rw [repChk, if_neg (by omega)]
  by_cases c5 : 4096 < r.data.length
  · have e := bad 5 (by rw [e0, if_pos c5]) (by decide)
    have d5 : ((4096 : Int) < (r.data.length : Int)) := by omega
    simp only [ac_51, aRep, fB, c1, c2, c3, c4, d5, e, TT, ↓reduceIte, Nat.reduceEqDiff, Nat.reduceAdd, Nat.reduceMul, reduceCtorEq, Nat.reduceLeDiff]
    exact Ends.imp (.inr rfl) (r0 := .tup [.v (.slice none 0 0), .v (.int .i64 5)]) (by simp [ET]) ⟨trivial, trivial, trivial⟩ (nilE 5)
  have d5 : ¬ ((4096 : Int) < (r.data.length : Int)) := by omega
  by_cases c6 : 64 < r.names.length
  · have e := bad 3 (by rw [e0, if_neg c5, if_pos c6]) (by decide)
    have d6 : ((64 : Int) < (r.names.length : Int)) := by omega
    simp only [ac_51, aRep, fB, fS, c1, c2, c3, c4, d5, d6, e, TT, ↓reduceIte, Nat.reduceEqDiff, Nat.reduceAdd, Nat.reduceMul, reduceCtorEq, Nat.reduceLeDiff]
    exact Ends.imp (.inr rfl) (r0 := .tup [.v (.slice none 0 0), .v (.int .i64 3)]) (by simp [ET]) ⟨trivial, trivial, trivial⟩ (nilE 3)
  have d6 : ¬ ((64 : Int) < (r.names.length : Int)) := by omega
  have hs := containsS_spec fr r.names
  simp only [fS] at hs
  by_cases c7 : ∃ s ∈ r.names, 255 < s.size
  · have e := bad 5 (by rw [e0, if_neg c5, if_neg c6, if_pos c7]) (by decide)
    have t7 : decide (0 ≤ idxS r.names 0) = true := decide_eq_true ((idxS_pos _ _).2 c7)
    rw [t7] at hs
    simp only [ac_51, aRep, fB, fS, c1, c2, c3, c4, d5, d6, e, TT, ↓reduceIte, Nat.reduceEqDiff, Nat.reduceAdd, Nat.reduceMul, reduceCtorEq, Nat.reduceLeDiff]
    refine ⟨_, hs _ hn, ?_⟩
    simp only [TT, ↓reduceIte, Nat.reduceEqDiff, Nat.reduceAdd, Nat.reduceMul, reduceCtorEq, Nat.reduceLeDiff]
    exact Ends.imp (.inr rfl) (r0 := .tup [.v (.slice none 0 0), .v (.int .i64 5)]) (by simp [ET]) ⟨trivial, trivial, trivial⟩ (nilE 5)
  have t7 : decide (0 ≤ idxS r.names 0) = false := decide_eq_false (fun h => c7 ((idxS_pos _ _).1 h))
  rw [t7] at hs
  have eE : encRep r = encode (repRec r) := by rw [encRep, if_pos (by rw [e0, if_neg c5, if_neg c6, if_neg c7])]
  simp only [ac_51, aRep, fB, fS, c1, c2, c3, c4, d5, d6, TT, ↓reduceIte, Nat.reduceEqDiff, Nat.reduceAdd, Nat.reduceMul, reduceCtorEq, Nat.reduceLeDiff]
  refine ⟨_, hs _ hn, ?_⟩
  simp only [TT, ↓reduceIte, Nat.reduceEqDiff, Nat.reduceAdd, Nat.reduceMul, reduceCtorEq, Nat.reduceLeDiff]
  refine AWc.family (L_er fr r) (fun i => i ≤ r.names.length) (fun i => r.names.length - i) 0 (Nat.zero_le _) ?_ ?_
  · refine Weak.calc [(4500000, 0), (4000000, 1), (4300000, 2)] (by decide) ?_ ?_ <;> simp [WT, al_S, ren_S, fS, eTx]
  · intro i hi
    by_cases hlt : i < r.names.length
    · obtain ⟨s, hx, g1, g0⟩ := lt_at hlt
      have ls := eTx_len fr r hi
      simp only [L_er, fS, g1, g0, get_S hx, Int.toNat_natCast, ls, eTx_s fr r hx, TT, ↓reduceIte, Nat.reduceEqDiff, Nat.reduceAdd, Nat.reduceMul, reduceCtorEq, Nat.reduceLeDiff]
      rw [if_pos (by omega)]
      refine famC_next (i + 1) (by omega) (by omega) ?_
      refine Weak.calc [(0, 0), (1, 1), (900003, 2)] (by decide) ?_ ?_ <;> simp [WT, al_S, ren_S, fS, al_eTx, ren_eTx, wrap64 (x := (i : Int) + 1) (by omega)]
    · obtain rfl : i = r.names.length := by omega
      have g1 : ¬ ((r.names.length : Int) < (r.names.length : Int)) := by omega
      simp only [L_er, fS, g1, eE, TT, ↓reduceIte, Nat.reduceEqDiff, Nat.reduceAdd, Nat.reduceMul, reduceCtorEq, Nat.reduceLeDiff]
      refine ⟨_, encodeR_b fr r h1 h2 _ _ _ (by omega), ?_⟩
      simp only [TT, ↓reduceIte, Nat.reduceEqDiff, Nat.reduceAdd, Nat.reduceMul, reduceCtorEq, Nat.reduceLeDiff]
      exact Ends.data (.inr rfl) (by simp [ET]) ⟨al_fB _, trivial, trivial⟩
end Go.Proofs.YtonglhkiobibgaaGreatDoor
namespace Go.Proofs.YtonglhkiobibgaaGreatDoor
open Go.RowKit
set_option maxRecDepth 100000
structure Ent where
  name : ByteArray
  ino : Int
structure Bk where
  index : Int
  data : List Int
structure Fl where
  size : Int
  blocks : List Bk
structure Nd where
  ino : Int
  dir : Bool
  links : Int
  entries : List Ent
  file : Fl
structure FSt where
  nodes : List Nd
  next : Int
def eEnt (e : Ent) : List AV := [.v (.string e.name), .v (.int .i64 e.ino)]
def eEnts (l : List Ent) : List AV := l.flatMap eEnt
def fEnts (fr : Bool) (l : List Ent) : AV := .fs fr (eEnts l) l.length
def eBk (fr : Bool) (b : Bk) : List AV := [.v (.int .i64 b.index), .fs fr (eB b.data) b.data.length]
def eBks (fr : Bool) (l : List Bk) : List AV := l.flatMap (eBk fr)
def fBks (fr : Bool) (l : List Bk) : AV := .fs fr (eBks fr l) l.length
def aFl (fr : Bool) (f : Fl) : AV := .agg [.v (.int .i64 f.size), fBks fr f.blocks]
def eNd (fr : Bool) (n : Nd) : List AV := [.v (.int .i64 n.ino), .v (.bool n.dir), .v (.int .i64 n.links), fEnts fr n.entries, .v (.int .i64 n.file.size), fBks fr n.file.blocks]
def eNds (fr : Bool) (l : List Nd) : List AV := l.flatMap (eNd fr)
def fNds (fr : Bool) (l : List Nd) : AV := .fs fr (eNds fr l) l.length
def aFs (fr : Bool) (s : FSt) : AV := .agg [fNds fr s.nodes, .v (.int .i64 s.next)]
section
variable {fr : Bool} {p : Nat → Prop}
theorem al_Ents (l : List Ent) : AlL p (eEnts l) := AlL_flat (e := eEnt) (fun e => ⟨trivial, trivial, trivial⟩) l
theorem al_fEnts (l : List Ent) : Al p (fEnts fr l) := al_Ents l
theorem al_Bks (l : List Bk) : AlL p (eBks fr l) := AlL_flat (e := eBk fr) (fun b => ⟨trivial, al_B _, trivial⟩) l
theorem al_fBks (l : List Bk) : Al p (fBks fr l) := al_Bks l
theorem al_aFl (f : Fl) : Al p (aFl fr f) := ⟨trivial, al_fBks _, trivial⟩
theorem al_Nd (n : Nd) : AlL p (eNd fr n) := ⟨trivial, trivial, trivial, al_fEnts _, trivial, al_fBks _, trivial⟩
theorem al_Nds (l : List Nd) : AlL p (eNds fr l) := AlL_flat (fun n => al_Nd n) l
theorem al_fNds (l : List Nd) : Al p (fNds fr l) := al_Nds l
theorem al_aFs (s : FSt) : Al p (aFs fr s) := ⟨al_fNds _, trivial, trivial⟩
theorem ren_Ents {ρ : Nat → Nat} (l : List Ent) : renL ρ (eEnts l) = eEnts l := renL_id (p := fun _ => False) (fun _ h => h.elim) (al_Ents l)
theorem ren_Bks {ρ : Nat → Nat} (l : List Bk) : renL ρ (eBks fr l) = eBks fr l := renL_id (p := fun _ => False) (fun _ h => h.elim) (al_Bks l)
theorem ren_Nds {ρ : Nat → Nat} (l : List Nd) : renL ρ (eNds fr l) = eNds fr l := renL_id (p := fun _ => False) (fun _ h => h.elim) (al_Nds l)
theorem len_Nds (l : List Nd) : (eNds fr l).length = l.length * 6 := flat_len (e := eNd fr) (k := 6) (fun _ => rfl) l
theorem get_Ents {l : List Ent} {i : Nat} {e : Ent} (h : l[i]? = some e) : (eEnts l)[i * 2]? = some (.v (.string e.name)) ∧ (eEnts l)[i * 2 + 1]? = some (.v (.int .i64 e.ino)) :=
  ⟨flat_get (e := eEnt) (k := 2) (fun _ => rfl) h 0 (by omega), flat_get (e := eEnt) (k := 2) (fun _ => rfl) h 1 (by omega)⟩
theorem get_Bks {l : List Bk} {i : Nat} {b : Bk} (h : l[i]? = some b) : (eBks fr l)[i * 2]? = some (.v (.int .i64 b.index)) ∧ (eBks fr l)[i * 2 + 1]? = some (.fs fr (eB b.data) b.data.length) :=
  ⟨flat_get (e := eBk fr) (k := 2) (fun _ => rfl) h 0 (by omega), flat_get (e := eBk fr) (k := 2) (fun _ => rfl) h 1 (by omega)⟩
theorem get_Nds {l : List Nd} {i : Nat} {n : Nd} (h : l[i]? = some n) : (eNds fr l)[i * 6]? = some (.v (.int .i64 n.ino)) ∧ (eNds fr l)[i * 6 + 1]? = some (.v (.bool n.dir)) ∧ (eNds fr l)[i * 6 + 2]? = some (.v (.int .i64 n.links)) ∧
    (eNds fr l)[i * 6 + 3]? = some (.fs fr (eEnts n.entries) n.entries.length) ∧ (eNds fr l)[i * 6 + 4]? = some (.v (.int .i64 n.file.size)) ∧ (eNds fr l)[i * 6 + 5]? = some (.fs fr (eBks fr n.file.blocks) n.file.blocks.length) :=
  ⟨flat_get (e := eNd fr) (k := 6) (fun _ => rfl) h 0 (by omega), flat_get (e := eNd fr) (k := 6) (fun _ => rfl) h 1 (by omega), flat_get (e := eNd fr) (k := 6) (fun _ => rfl) h 2 (by omega),
   flat_get (e := eNd fr) (k := 6) (fun _ => rfl) h 3 (by omega), flat_get (e := eNd fr) (k := 6) (fun _ => rfl) h 4 (by omega), flat_get (e := eNd fr) (k := 6) (fun _ => rfl) h 5 (by omega)⟩
end
/-- the root alone -/
def newF : FSt := ⟨[⟨1, true, 0, [], ⟨0, []⟩⟩], 2⟩
theorem new_spec (nb : Nat) : ASound Tryz.prog 37 [] nb (.ret (aFs true newF) []) := by
  refine ok_37.sound (by simp) trivial ?_
  simp only [ac_37, TT, ↓reduceIte, Nat.reduceEqDiff, Nat.reduceAdd, Nat.reduceMul, reduceCtorEq, Nat.reduceLeDiff]
  refine Ends.weak (Weak.freezeC 200000 rfl (l := [(0, .op 0 0)]) (h := [(0, .row true 28 [.fs true [.v (.int .i64 1), .v (.bool true), .v (.int .i64 0), .v (.slice none 0 0), .v (.int .i64 0), .v (.slice none 0 0)] 1, .v (.int .i64 2)])]) ?_ ?_)
    (Ends.imp (.inr rfl) (r0 := .agg [.fs true [.v (.int .i64 1), .v (.bool true), .v (.int .i64 0), .v (.slice none 0 0), .v (.int .i64 0), .v (.slice none 0 0)] 1, .v (.int .i64 2)]) (by simp [ET]) ⟨⟨trivial, trivial, trivial, trivial, trivial, trivial, trivial⟩, trivial, trivial⟩ ?_)
  · simp [WT]
  · simp [WT]
  · refine Imp.agg rfl (fun j a' hj => ?_)
    match j with
    | 0 =>
      simp [aFs, fNds, eNds, newF, eNd] at hj
      subst hj
      refine ⟨_, rfl, Imp.fs (fun h => h) rfl (fun j a' hj => ?_)⟩
      match j with
      | 0 => simp at hj; subst hj; exact ⟨_, rfl, Imp.refl _⟩
      | 1 => simp at hj; subst hj; exact ⟨_, rfl, Imp.refl _⟩
      | 2 => simp at hj; subst hj; exact ⟨_, rfl, Imp.refl _⟩
      | 3 => simp at hj; subst hj; exact ⟨_, rfl, Imp.nil _⟩
      | 4 => simp at hj; subst hj; exact ⟨_, rfl, Imp.refl _⟩
      | 5 => simp at hj; subst hj; exact ⟨_, rfl, Imp.nil _⟩
      | j + 6 => simp at hj
    | 1 => simp [aFs, newF] at hj; subst hj; exact ⟨_, rfl, Imp.refl _⟩
    | j + 2 => simp [aFs] at hj
end Go.Proofs.YtonglhkiobibgaaGreatDoor
namespace Go.Proofs.YtonglhkiobibgaaGreatDoor
open Go.RowKit
abbrev Ls := List (List Int)
/-- is a log the beginning of another one? -/
def begL (a b : Ls) : Prop := a.length ≤ b.length ∧ a = b.take a.length
instance (a b : Ls) : Decidable (begL a b) := inferInstanceAs (Decidable (_ ∧ _))
end Go.Proofs.YtonglhkiobibgaaGreatDoor
namespace Go.Proofs.YtonglhkiobibgaaGreatDoor
open Go.RowKit
set_option maxRecDepth 100000
theorem at_Ls {fr : Bool} {l : Ls} {i : Nat} {t : List Int} (h : l[i]? = some t) : (eL fr l)[i]? = some (.fs fr (eB t) t.length) := by simp [eL, h]
end Go.Proofs.YtonglhkiobibgaaGreatDoor
namespace Go.Proofs.YtonglhkiobibgaaGreatDoor
open Go.RowKit
set_option maxRecDepth 100000
theorem eq_upto {α : Type} {a b : List α} (hl : a.length = b.length) (h : ∀ j, j < a.length → a[j]? = b[j]?) : a = b := by
  apply List.ext_getElem? 
  intro j
  by_cases hj : j < a.length
  · exact h j hj
  · rw [List.getElem?_eq_none (by omega), List.getElem?_eq_none (by omega)]
abbrev L_sameB (fa fb : Bool) (a b : List Int) (k : Nat) : ASt := ⟨envOf [(0, fB fa a), (1, fB fb b), (5, .v (.int .i64 k))], heapOf [], 0⟩
theorem sameBytes_spec (fa fb : Bool) (a b : List Int) (nb : Nat) (hz : a.length ≤ 140737488355328) : ASound Tryz.prog 27 [fB fa a, fB fb b] nb (.ret (.v (.bool (decide (a = b)))) []) := by
  refine ok_27.sound (by simp) ⟨al_fB a, al_fB b, trivial⟩ ?_
  simp only [ac_27, TT, ↓reduceIte, Nat.reduceEqDiff, Nat.reduceAdd, Nat.reduceMul, reduceCtorEq, Nat.reduceLeDiff]
  by_cases hl : a.length = b.length
  · have hl' : (a.length : Int) = (b.length : Int) := by omega
    simp only [hl', not_true, TT, ↓reduceIte, Nat.reduceEqDiff, Nat.reduceAdd, Nat.reduceMul, reduceCtorEq, Nat.reduceLeDiff]
    refine AWc.family (L_sameB fa fb a b) (fun k => k ≤ a.length ∧ ∀ j, j < k → a[j]? = b[j]?) (fun k => a.length - k) 0 ⟨Nat.zero_le _, fun j h => absurd h (Nat.not_lt_zero _)⟩ ?_ ?_
    · refine Weak.calc [] (by decide) ?_ ?_ <;> simp [WT]
    · rintro k ⟨hk, hj⟩
      by_cases hlt : k < a.length
      · obtain ⟨x, hx, e1, e0⟩ := lt_at hlt
        obtain ⟨y, hy, e2, _⟩ := lt_at (show k < b.length by omega)
        have g1 := get_B hx
        have g2 := get_B hy
        simp only [L_sameB, g1, g2, e1, e0, e2, TT, ↓reduceIte, Nat.reduceEqDiff, Nat.reduceAdd, Nat.reduceMul, reduceCtorEq, Nat.reduceLeDiff]
        refine ⟨by rfl, ?_⟩
        split
        · rename_i hne
          have : ¬ a = b := by intro h; subst h; rw [hx] at hy; cases hy; exact hne rfl
          exact Ends.data (.inr rfl) (by simp [this, ET]) trivial
        · rename_i hne
          have hxy : x = y := by simpa using hne
          refine famC_next (k + 1) (by omega) ⟨by omega, fun j hj1 => ?_⟩ ?_
          · by_cases e : j = k
            · subst e; rw [hx, hy, hxy]
            · exact hj j (by omega)
          · refine Weak.calc [] (by decide) ?_ ?_ <;> simp [WT, wrap64 (x := (k : Int) + 1) (by omega)]
      · have e1 : ¬ ((k : Int) < (a.length : Int)) := by omega
        simp only [L_sameB, e1, TT, ↓reduceIte, Nat.reduceEqDiff, Nat.reduceAdd, Nat.reduceMul, reduceCtorEq, Nat.reduceLeDiff]
        have : a = b := eq_upto hl fun j h => hj j (by omega)
        exact Ends.data (.inr rfl) (by simp [this, ET]) trivial
  · have hl' : ¬ (a.length : Int) = (b.length : Int) := by omega
    simp only [hl', not_false_eq_true, TT, ↓reduceIte, Nat.reduceEqDiff, Nat.reduceAdd, Nat.reduceMul, reduceCtorEq, Nat.reduceLeDiff]
    have : ¬ a = b := fun h => hl (by rw [h])
    exact Ends.data (.inr rfl) (by simp [this, ET]) trivial
end Go.Proofs.YtonglhkiobibgaaGreatDoor
namespace Go.Proofs.YtonglhkiobibgaaGreatDoor
open Go.RowKit
set_option maxRecDepth 100000
end Go.Proofs.YtonglhkiobibgaaGreatDoor
namespace Go.Proofs.YtonglhkiobibgaaGreatDoor
open Go.RowKit
set_option maxRecDepth 100000
end Go.Proofs.YtonglhkiobibgaaGreatDoor
namespace Go.Proofs.YtonglhkiobibgaaGreatDoor
open Go.RowKit
set_option maxRecDepth 100000
end Go.Proofs.YtonglhkiobibgaaGreatDoor
namespace Go.Proofs.YtonglhkiobibgaaGreatDoor
open Go.RowKit
set_option maxRecDepth 100000
abbrev nilA0 : AV := .v (.slice none 0 0)
end Go.Proofs.YtonglhkiobibgaaGreatDoor
namespace Go.Proofs.YtonglhkiobibgaaGreatDoor
open Go.RowKit
set_option maxRecDepth 100000
def cmpI (a b : Int) : Int := if a < b then -1 else if b < a then 1 else 0
theorem cmpI_neg {a b : Int} : cmpI a b < 0 ↔ a < b := by unfold cmpI; split <;> (try split) <;> omega
theorem cmpI_zero {a b : Int} : cmpI a b = 0 ↔ a = b := by unfold cmpI; split <;> (try split) <;> omega
theorem nanI_spec (a : Int) (nb : Nat) : ASound Tryz.prog 127 [.v (.int .i64 a)] nb (.ret (.v (.bool false)) []) := by
  refine ok_127.sound (by simp) ⟨trivial, trivial⟩ ?_
  simp only [ac_127, TT, ↓reduceIte, Nat.reduceEqDiff, Nat.reduceAdd, Nat.reduceMul, reduceCtorEq, Nat.reduceLeDiff]
  exact Ends.data (.inr rfl) (by simp [ET]) trivial
theorem cmpI_spec (a b : Int) (nb : Nat) : ASound Tryz.prog 85 [.v (.int .i64 a), .v (.int .i64 b)] nb (.ret (.v (.int .i64 (cmpI a b))) []) := by
  refine ok_85.sound (by simp) ⟨trivial, trivial, trivial⟩ ?_
  simp only [ac_85, TT, ↓reduceIte, Nat.reduceEqDiff, Nat.reduceAdd, Nat.reduceMul, reduceCtorEq, Nat.reduceLeDiff]
  refine ⟨_, nanI_spec a _, ?_⟩
  simp only [TT, ↓reduceIte, Nat.reduceEqDiff, Nat.reduceAdd, Nat.reduceMul, reduceCtorEq, Nat.reduceLeDiff]
  refine ⟨_, nanI_spec b _, ?_⟩
  by_cases h1 : a < b
  · simp only [h1, TT, ↓reduceIte, Nat.reduceEqDiff, Nat.reduceAdd, Nat.reduceMul, reduceCtorEq, Nat.reduceLeDiff]
    exact Ends.data (.inr rfl) (by simp [ET, cmpI, h1]) trivial
  · by_cases h2 : b < a
    · simp only [h1, h2, TT, ↓reduceIte, Nat.reduceEqDiff, Nat.reduceAdd, Nat.reduceMul, reduceCtorEq, Nat.reduceLeDiff]
      exact Ends.data (.inr rfl) (by simp [ET, cmpI, h1, h2]) trivial
    · simp only [h1, h2, TT, ↓reduceIte, Nat.reduceEqDiff, Nat.reduceAdd, Nat.reduceMul, reduceCtorEq, Nat.reduceLeDiff]
      exact Ends.data (.inr rfl) (by simp [ET, cmpI, h1, h2]) trivial
theorem cmpN1_spec (fr : Bool) (n : Nd) (t : Int) (nb : Nat) : ASound Tryz.prog 84 [.agg (eNd fr n), .v (.int .i64 t)] nb (.ret (.v (.int .i64 (cmpI n.ino t))) []) := by
  refine ok_84.sound (by simp) ⟨al_Nd n, trivial, trivial⟩ ?_
  simp only [ac_84, eNd, TT, ↓reduceIte, Nat.reduceEqDiff, Nat.reduceAdd, Nat.reduceMul, reduceCtorEq, Nat.reduceLeDiff]
  refine ⟨_, cmpI_spec _ _ _, ?_⟩
  simp only [TT, ↓reduceIte, Nat.reduceEqDiff, Nat.reduceAdd, Nat.reduceMul, reduceCtorEq, Nat.reduceLeDiff]
  exact Ends.data (.inr rfl) (by simp [ET]) trivial
theorem cmpN2_spec (fr : Bool) (n : Nd) (t : Int) (nb : Nat) : ASound Tryz.prog 223 [.agg (eNd fr n), .v (.int .i64 t)] nb (.ret (.v (.int .i64 (cmpI n.ino t))) []) := by
  refine ok_223.sound (by simp) ⟨al_Nd n, trivial, trivial⟩ ?_
  simp only [ac_223, eNd, TT, ↓reduceIte, Nat.reduceEqDiff, Nat.reduceAdd, Nat.reduceMul, reduceCtorEq, Nat.reduceLeDiff]
  refine ⟨_, cmpI_spec _ _ _, ?_⟩
  simp only [TT, ↓reduceIte, Nat.reduceEqDiff, Nat.reduceAdd, Nat.reduceMul, reduceCtorEq, Nat.reduceLeDiff]
  exact Ends.data (.inr rfl) (by simp [ET]) trivial
/-- a search by halves: the first place from which on numbers are not less -/
def bsI (f : Nat → Int) (t : Int) : Nat → Nat → Nat → Nat
  | 0, i, _ => i
  | k + 1, i, j => if i < j then (if f ((i + j) / 2) < t then bsI f t k ((i + j) / 2 + 1) j else bsI f t k i ((i + j) / 2)) else i
theorem bsI_stop {f : Nat → Int} {t : Int} {k i j : Nat} (h : ¬ i < j) : bsI f t k i j = i := by
  cases k with
  | zero => rfl
  | succ k => rw [bsI, if_neg h]
def inoA (l : List Nd) (h : Nat) : Int := match l[h]? with | some n => n.ino | none => 0
theorem inoA_at {l : List Nd} {h : Nat} {n : Nd} (e : l[h]? = some n) : inoA l h = n.ino := by rw [inoA, e]
def plc (l : List Nd) (t : Int) : Nat := bsI (inoA l) t l.length 0 l.length
abbrev hasN (l : List Nd) (t : Int) : Prop := plc l t < l.length ∧ inoA l (plc l t) = t
structure Bs where
  k : Nat
  i : Nat
  j : Nat
theorem shr1 (m : Nat) : shVal .shr .u64 (m : Int) 1 = some (.int .u64 ((m / 2 : Nat) : Int)) := by
  have h : Int.fdiv (m : Int) (2 ^ min (Int.toNat 1) IntKind.u64.bits) = ((m / 2 : Nat) : Int) := by
    show Int.fdiv (m : Int) 2 = _
    rw [Int.fdiv_eq_ediv_of_nonneg _ (by decide)]
    omega
  simp only [shVal, if_neg (show ¬ ((1 : Int) < 0) by decide), h]
theorem wu64 {m : Nat} (h : m ≤ 281474976710656) : IntKind.u64.wrap (m : Int) = (m : Int) := by
  have e3 : (2 : Nat) ^ 64 = 18446744073709551616 := by decide
  rw [u64_mod]; omega
abbrev L_bs (f : Nat) (fr : Bool) (l : List Nd) (t : Int) (q : Bs) : ASt := ⟨envOf [(0, fNds fr l), (1, .v (.int .i64 t)), (2, .fn f []), (8, .v (.int .i64 l.length)), (9, .v (.int .i64 q.i)), (10, .v (.int .i64 q.j))], heapOf [], 1⟩
set_option maxHeartbeats 1000000 in
theorem bsearch_spec (f : Nat) (fr : Bool) (l : List Nd) (t : Int) (nb : Nat) (hl : l.length ≤ 140737488355328) (hf : ∀ (n : Nd) (nb : Nat), ASound Tryz.prog f [.agg (eNd fr n), .v (.int .i64 t)] nb (.ret (.v (.int .i64 (cmpI n.ino t))) [])) :
    ASound Tryz.prog 83 [fNds fr l, .v (.int .i64 t), .fn f []] nb (.ret (.tup [.v (.int .i64 (plc l t)), .v (.bool (decide (hasN l t)))]) []) := by
  refine ok_83.sound (by simp) ⟨al_fNds l, trivial, trivial, trivial⟩ ?_
  simp only [ac_83, fNds, TT, ↓reduceIte, Nat.reduceEqDiff, Nat.reduceAdd, Nat.reduceMul, reduceCtorEq, Nat.reduceLeDiff]
  refine AWc.family (L_bs f fr l t) (fun q => (q.i ≤ q.j ∧ q.j ≤ l.length ∧ q.j - q.i ≤ q.k) ∧ bsI (inoA l) t q.k q.i q.j = plc l t) (fun q => q.j - q.i) ⟨l.length, 0, l.length⟩ ⟨⟨Nat.zero_le _, Nat.le_refl _, Nat.le_refl _⟩, rfl⟩ ?_ ?_
  · refine Weak.calc [] (by decide) ?_ ?_ <;> simp [WT, al_Nds, ren_Nds, fNds]
  · rintro ⟨k, i, j⟩ ⟨⟨hi, hj, hk⟩, he⟩
    simp only at hi hj hk he
    by_cases hlt : i < j
    · obtain ⟨k, rfl⟩ : ∃ k', k = k' + 1 := ⟨k - 1, by omega⟩
      have g1 : ((i : Int) < (j : Int)) = True := eq_true (by omega)
      have w1 : IntKind.i64.wrap ((i : Int) + (j : Int)) = ((i + j : Nat) : Int) := by rw [wrap64 (by omega)]; omega
      have w2 := wu64 (m := i + j) (by omega)
      have w3 : IntKind.i64.wrap (((i + j) / 2 : Nat) : Int) = (((i + j) / 2 : Nat) : Int) := wrap64 (by omega)
      rw [bsI, if_pos hlt] at he
      generalize hm : (i + j) / 2 = m at he w3
      obtain ⟨n, hx, e1, e0⟩ := lt_at (show m < l.length by omega)
      obtain ⟨a0, a1, a2, a3, a4, a5⟩ := get_Nds (fr := fr) hx
      rw [inoA_at hx] at he
      have ho := hf n
      simp only [eNd, fEnts, fBks] at ho
      simp only [L_bs, fNds, g1, w1, w2, shr1, hm, w3, e1, e0, a0, a1, a2, a3, a4, a5, Int.toNat_natCast, TT, ↓reduceIte, Nat.reduceEqDiff, Nat.reduceAdd, Nat.reduceMul, reduceCtorEq, Nat.reduceLeDiff]
      refine ⟨_, _, _, rfl, ho _, ?_⟩
      by_cases h : n.ino < t
      · rw [if_pos h] at he
        have c1 : (cmpI n.ino t < 0) = True := eq_true (cmpI_neg.2 h)
        simp only [c1, decide_true, TT, ↓reduceIte, Nat.reduceEqDiff, Nat.reduceAdd, Nat.reduceMul, reduceCtorEq, Nat.reduceLeDiff]
        refine famC_next ⟨k, m + 1, j⟩ (by show j - (m + 1) < j - i; omega) ⟨⟨by show m + 1 ≤ j; omega, hj, by show j - (m + 1) ≤ k; omega⟩, he⟩ ?_
        refine Weak.calc [] (by decide) ?_ ?_ <;> simp [WT, al_Nds, ren_Nds, fNds, wrap64 (x := (m : Int) + 1) (by omega)]
      · rw [if_neg h] at he
        have c1 : (cmpI n.ino t < 0) = False := eq_false fun h9 => h (cmpI_neg.1 h9)
        simp only [c1, decide_false, TT, ↓reduceIte, Nat.reduceEqDiff, Nat.reduceAdd, Nat.reduceMul, reduceCtorEq, Nat.reduceLeDiff]
        refine famC_next ⟨k, i, m⟩ (by show m - i < j - i; omega) ⟨⟨by show i ≤ m; omega, by show m ≤ l.length; omega, by show m - i ≤ k; omega⟩, he⟩ ?_
        refine Weak.calc [] (by decide) ?_ ?_ <;> simp [WT, al_Nds, ren_Nds, fNds]
    · obtain rfl : i = j := by omega
      rw [bsI_stop hlt] at he
      subst he
      have g1 : ((plc l t : Int) < (plc l t : Int)) = False := eq_false (by omega)
      by_cases h9 : plc l t < l.length
      · have g2 : ((plc l t : Int) < (l.length : Int)) = True := eq_true (by omega)
        obtain ⟨n, hx, e1, e0⟩ := lt_at h9
        obtain ⟨a0, a1, a2, a3, a4, a5⟩ := get_Nds (fr := fr) hx
        have ho := hf n
        simp only [eNd, fEnts, fBks] at ho
        have hd : decide (hasN l t) = decide (cmpI n.ino t = 0) := by
          by_cases h : n.ino = t
          · rw [decide_eq_true (cmpI_zero.2 h), decide_eq_true ⟨h9, by rw [inoA_at hx, h]⟩]
          · rw [decide_eq_false fun h8 => h (cmpI_zero.1 h8), decide_eq_false fun h8 => h (by rw [← inoA_at hx]; exact h8.2)]
        rw [hd]
        simp only [L_bs, fNds, g1, g2, decide_true, e0, a0, a1, a2, a3, a4, a5, Int.toNat_natCast, TT, ↓reduceIte, Nat.reduceEqDiff, Nat.reduceAdd, Nat.reduceMul, reduceCtorEq, Nat.reduceLeDiff]
        refine ⟨_, _, _, rfl, ho _, ?_⟩
        simp only [TT, ↓reduceIte, Nat.reduceEqDiff, Nat.reduceAdd, Nat.reduceMul, reduceCtorEq, Nat.reduceLeDiff]
        exact Ends.data (.inr rfl) (by simp [ET]) ⟨trivial, trivial, trivial⟩
      · have g2 : ((plc l t : Int) < (l.length : Int)) = False := eq_false (by omega)
        have hd : decide (hasN l t) = false := decide_eq_false fun h => h9 h.1
        rw [hd]
        simp only [L_bs, fNds, g1, g2, decide_false, TT, ↓reduceIte, Nat.reduceEqDiff, Nat.reduceAdd, Nat.reduceMul, reduceCtorEq, Nat.reduceLeDiff]
        exact Ends.data (.inr rfl) (by simp [ET]) ⟨trivial, trivial, trivial⟩
/-- the state, at a pointer -/
def pFs (f fr : Bool) (s : FSt) : AV := .fp f [fNds fr s.nodes, .v (.int .i64 s.next)] 0
theorem al_pFs {f fr : Bool} {p : Nat → Prop} (s : FSt) : Al p (pFs f fr s) := ⟨al_fNds _, trivial, trivial⟩
theorem place_spec (f fr : Bool) (s : FSt) (t : Int) (nb : Nat) (hl : s.nodes.length ≤ 140737488355328) :
    ASound Tryz.prog 174 [pFs f fr s, .v (.int .i64 t)] nb (.ret (.tup [.v (.int .i64 (plc s.nodes t)), .v (.bool (decide (hasN s.nodes t)))]) []) := by
  refine ok_174.sound (by simp) ⟨al_pFs s, trivial, trivial⟩ ?_
  have h := fun nb => bsearch_spec 223 fr s.nodes t nb hl (fun n nb => cmpN2_spec fr n t nb)
  simp only [fNds] at h
  simp only [ac_174, pFs, fNds, List.getElem?_cons_zero, TT, ↓reduceIte, Nat.reduceEqDiff, Nat.reduceAdd, Nat.reduceMul, reduceCtorEq, Nat.reduceLeDiff]
  refine ⟨_, h _, ?_⟩
  simp only [TT, ↓reduceIte, Nat.reduceEqDiff, Nat.reduceAdd, Nat.reduceMul, reduceCtorEq, Nat.reduceLeDiff]
  exact Ends.data (.inr rfl) (by simp [ET]) ⟨trivial, trivial, trivial⟩
theorem node_spec (f fr : Bool) (s : FSt) (t : Int) (nb : Nat) (hl : s.nodes.length ≤ 140737488355328) (h : plc s.nodes t < s.nodes.length) :
    ASound Tryz.prog 116 [pFs f fr s, .v (.int .i64 t)] nb (.ret (.fp fr (eNds fr s.nodes) (plc s.nodes t * 6)) []) := by
  refine ok_116.sound (by simp) ⟨al_pFs s, trivial, trivial⟩ ?_
  have h1 := fun nb => place_spec f fr s t nb hl
  obtain ⟨n, hx, e1, e0⟩ := lt_at h
  simp only [pFs, fNds] at h1
  simp only [ac_116, pFs, fNds, List.getElem?_cons_zero, TT, ↓reduceIte, Nat.reduceEqDiff, Nat.reduceAdd, Nat.reduceMul, reduceCtorEq, Nat.reduceLeDiff]
  refine ⟨_, h1 _, ?_⟩
  simp only [e0, e1, Int.toNat_natCast, List.getElem?_cons_zero, TT, ↓reduceIte, Nat.reduceEqDiff, Nat.reduceAdd, Nat.reduceMul, reduceCtorEq, Nat.reduceLeDiff]
  exact Ends.data (.inr rfl) (by simp [ET]) (al_Nds _)
end Go.Proofs.YtonglhkiobibgaaGreatDoor
namespace Go.Proofs.YtonglhkiobibgaaGreatDoor
open Go.RowKit
set_option maxRecDepth 100000
theorem hasN_get {l : List Nd} {t : Int} (h : hasN l t) : ∃ n, l[plc l t]? = some n ∧ n ∈ l ∧ n.ino = t := by
  obtain ⟨n, hx⟩ : ∃ n, l[plc l t]? = some n := ⟨_, List.getElem?_eq_getElem h.1⟩
  exact ⟨n, hx, List.mem_of_getElem? hx, by rw [← inoA_at hx]; exact h.2⟩
def nodA (s : FSt) (t : Int) : Nd := match s.nodes[plc s.nodes t]? with | some n => n | none => ⟨0, false, 0, [], ⟨0, []⟩⟩
/-- every name leads to a node -/
def okE (s : FSt) : Prop := ∀ n ∈ s.nodes, n.entries.length ≤ 140737488355328 ∧ ∀ e ∈ n.entries, hasN s.nodes e.ino
def mxI (a b : Int) : Int := if a < b then b else a
theorem mxI_bd {a b k : Int} (h1 : 0 ≤ a) (h2 : a ≤ k) (h3 : 0 ≤ b) (h4 : b ≤ k) : 0 ≤ mxI a b ∧ mxI a b ≤ k := by unfold mxI; split <;> omega
def dpt (s : FSt) : Nat → Int → Int
  | 0, _ => 0
  | k + 1, t => if (nodA s t).dir = true then (nodA s t).entries.foldl (fun d e => mxI d (1 + dpt s k e.ino)) 0 else 0
theorem fold_bd {g : Ent → Int} {k : Int} (hg : ∀ e, 0 ≤ g e ∧ g e ≤ k) : ∀ (l : List Ent) (d : Int), 0 ≤ d → d ≤ k + 1 → 0 ≤ l.foldl (fun d e => mxI d (1 + g e)) d ∧ l.foldl (fun d e => mxI d (1 + g e)) d ≤ k + 1
  | [], d, h1, h2 => ⟨h1, h2⟩
  | e :: l, d, h1, h2 => by
    have h := hg e
    have hm := mxI_bd (a := d) (b := 1 + g e) (k := k + 1) h1 h2 (by omega) (by omega)
    exact fold_bd hg l _ hm.1 hm.2
theorem dpt_bd (s : FSt) : ∀ (k : Nat) (t : Int), 0 ≤ dpt s k t ∧ dpt s k t ≤ k
  | 0, t => ⟨Int.le_refl _, Int.le_refl _⟩
  | k + 1, t => by
    rw [dpt]
    split
    · have h := fold_bd (g := fun e => dpt s k e.ino) (fun e => dpt_bd s k e.ino) (nodA s t).entries 0 (Int.le_refl _) (by omega)
      exact ⟨h.1, by have := h.2; omega⟩
    · omega
abbrev dpI (s : FSt) (k : Nat) (n : Nd) (i : Nat) : Int := (n.entries.take i).foldl (fun d e => mxI d (1 + dpt s k e.ino)) 0
theorem dpI_s {s : FSt} {k : Nat} {n : Nd} {i : Nat} {e : Ent} (h : n.entries[i]? = some e) : dpI s k n (i + 1) = mxI (dpI s k n i) (1 + dpt s k e.ino) := by
  unfold dpI
  rw [take_snoc h, List.foldl_append]
  rfl
abbrev L_dp (f fr : Bool) (s : FSt) (k : Nat) (n : Nd) (i : Nat) : ASt := ⟨envOf [(0, pFs f fr s), (2, .v (.int .i64 k)), (8, .v (.int .i64 (dpI s k n i))), (26, fEnts fr n.entries), (27, .v (.int .i64 n.entries.length)), (28, .v (.int .i64 i))], heapOf [], 1⟩
set_option maxHeartbeats 1000000 in
theorem depth_spec (f fr : Bool) (s : FSt) (hl : s.nodes.length ≤ 140737488355328) (hok : okE s) (k : Nat) : ∀ (t left : Int) (nb : Nat), k ≤ 100 → left = (k : Int) - 1 → hasN s.nodes t →
    ASound Tryz.prog 88 [pFs f fr s, .v (.int .i64 t), .v (.int .i64 left)] nb (.ret (.v (.int .i64 (dpt s k t))) []) := by
  induction k with
  | zero =>
    intro t left nb hk hleft hh
    have hn := fun nb => node_spec f fr s t nb hl hh.1
    obtain ⟨n, hx, hmem, _⟩ := hasN_get hh
    obtain ⟨a0, a1, a2, a3, a4, a5⟩ := get_Nds (fr := fr) hx
    refine ok_88.sound (by simp) ⟨al_pFs s, trivial, trivial, trivial⟩ ?_
    simp only [pFs, fNds] at hn
    have g1 : (left < 0) = True := eq_true (by omega)
    simp only [ac_88, pFs, fNds, TT, ↓reduceIte, Nat.reduceEqDiff, Nat.reduceAdd, Nat.reduceMul, reduceCtorEq, Nat.reduceLeDiff]
    refine ⟨_, hn _, ?_⟩
    cases hd : n.dir <;> simp only [a1, hd, g1, decide_true, TT, ↓reduceIte, Nat.reduceEqDiff, Nat.reduceAdd, Nat.reduceMul, reduceCtorEq, Nat.reduceLeDiff] <;> exact Ends.data (.inr rfl) (by simp [ET, dpt]) trivial
  | succ k ih =>
    intro t left nb hk hleft hh
    have hn := fun nb => node_spec f fr s t nb hl hh.1
    obtain ⟨n, hx, hmem, _⟩ := hasN_get hh
    have hA : nodA s t = n := by rw [nodA, hx]
    obtain ⟨a0, a1, a2, a3, a4, a5⟩ := get_Nds (fr := fr) hx
    obtain ⟨hle, hoke⟩ := hok n hmem
    obtain rfl : left = (k : Int) := by omega
    refine ok_88.sound (by simp) ⟨al_pFs s, trivial, trivial, trivial⟩ ?_
    simp only [pFs, fNds] at hn
    have g1 : ((k : Int) < 0) = False := eq_false (by omega)
    simp only [ac_88, pFs, fNds, TT, ↓reduceIte, Nat.reduceEqDiff, Nat.reduceAdd, Nat.reduceMul, reduceCtorEq, Nat.reduceLeDiff]
    refine ⟨_, hn _, ?_⟩
    cases hd : n.dir
    · simp only [a1, hd, TT, ↓reduceIte, Nat.reduceEqDiff, Nat.reduceAdd, Nat.reduceMul, reduceCtorEq, Nat.reduceLeDiff]
      exact Ends.data (.inr rfl) (by simp [ET, dpt, hA, hd]) trivial
    · simp only [a1, a3, hd, g1, decide_false, TT, ↓reduceIte, Nat.reduceEqDiff, Nat.reduceAdd, Nat.reduceMul, reduceCtorEq, Nat.reduceLeDiff]
      refine AWc.family (L_dp f fr s k n) (fun i => i ≤ n.entries.length) (fun i => n.entries.length - i) 0 (Nat.zero_le _) ?_ ?_
      · refine Weak.calc [] (by decide) ?_ ?_ <;> simp [WT, dpI, pFs, fNds, al_Nds, ren_Nds, fEnts, al_Ents, ren_Ents]
      · intro i hi
        by_cases hlt : i < n.entries.length
        · obtain ⟨e, hx2, e1, e0⟩ := lt_at hlt
          obtain ⟨b0, b1⟩ := get_Ents hx2
          have hb := dpt_bd s k e.ino
          have hb2 := fold_bd (g := fun e => dpt s k e.ino) (fun e => dpt_bd s k e.ino) (n.entries.take i) 0 (Int.le_refl _) (by omega)
          have w1 : IntKind.i64.wrap ((k : Int) - 1) = (k : Int) - 1 := wrap64 (by omega)
          have w2 : IntKind.i64.wrap (1 + dpt s k e.ino) = 1 + dpt s k e.ino := wrap64 (by omega)
          have hi2 := fun nb => ih e.ino ((k : Int) - 1) nb (by omega) rfl (hoke e (List.mem_of_getElem? hx2))
          simp only [pFs, fNds] at hi2
          simp only [L_dp, pFs, fNds, fEnts, e1, e0, b0, b1, w1, Int.toNat_natCast, TT, ↓reduceIte, Nat.reduceEqDiff, Nat.reduceAdd, Nat.reduceMul, reduceCtorEq, Nat.reduceLeDiff]
          refine ⟨_, hi2 _, ?_⟩
          simp only [w2, TT, ↓reduceIte, Nat.reduceEqDiff, Nat.reduceAdd, Nat.reduceMul, reduceCtorEq, Nat.reduceLeDiff]
          refine famC_next (i + 1) (by omega) (by omega) ?_
          have hs := dpI_s (s := s) (k := k) hx2
          simp only [mxI] at hs
          refine Weak.calc [] (by decide) ?_ ?_ <;> simp [WT, hs, pFs, fNds, al_Nds, ren_Nds, fEnts, al_Ents, ren_Ents, wrap64 (x := (i : Int) + 1) (by omega)]
        · obtain rfl : i = n.entries.length := by omega
          have e1 : ¬ ((n.entries.length : Int) < (n.entries.length : Int)) := by omega
          have hd2 : dpt s (k + 1) t = dpI s k n n.entries.length := by rw [dpt, hA, if_pos hd, dpI, List.take_length]
          rw [hd2]
          simp only [L_dp, pFs, fNds, fEnts, e1, TT, ↓reduceIte, Nat.reduceEqDiff, Nat.reduceAdd, Nat.reduceMul, reduceCtorEq, Nat.reduceLeDiff]
          exact Ends.data (.inr rfl) (by simp [ET]) trivial
/-- a key more, if it is not there -/
def addK (t : Int) (l : List Int) : List Int := if t ∈ l then l else l ++ [t]
def encB (l : List Int) : List AV := l.flatMap fun k => [.v (.int .i64 k), .v (.bool true)]
theorem al_encB {p : Nat → Prop} (l : List Int) : AlL p (encB l) := AlL_flat (e := fun k => [AV.v (.int .i64 k), .v (.bool true)]) (fun _ => ⟨trivial, trivial, trivial⟩) l
theorem ren_encB {ρ : Nat → Nat} (l : List Int) : renL ρ (encB l) = encB l := renL_id (p := fun _ => False) (fun _ h => h.elim) (al_encB l)
theorem len_encB (l : List Int) : (encB l).length = l.length * 2 := flat_len (e := fun k => [AV.v (.int .i64 k), .v (.bool true)]) (k := 2) (fun _ => rfl) l
theorem mput_encB (t : Int) : ∀ l : List Int, mput t (.v (.bool true)) (encB l) = some (encB (addK t l))
  | [] => by simp [addK, encB, mput]
  | k :: l => by
    show mput t (.v (.bool true)) (.v (.int .i64 k) :: .v (.bool true) :: encB l) = _
    rw [mput]
    by_cases h : k = t
    · subst h; simp [addK, encB]
    · rw [if_neg h, mput_encB t l]
      have h' : ¬ t = k := fun h9 => h h9.symm
      by_cases h2 : t ∈ l <;> simp [addK, h2, h', encB]
def rch (s : FSt) : Nat → Int → List Int → List Int
  | 0, t, l => addK t l
  | k + 1, t, l => (nodA s t).entries.foldl (fun l e => rch s k e.ino l) (addK t l)
abbrev rcI (s : FSt) (k : Nat) (n : Nd) (l : List Int) (i : Nat) : List Int := (n.entries.take i).foldl (fun l e => rch s k e.ino l) l
theorem rcI_s {s : FSt} {k : Nat} {n : Nd} {l : List Int} {i : Nat} {e : Ent} (h : n.entries[i]? = some e) : rcI s k n l (i + 1) = rch s k e.ino (rcI s k n l i) := by
  unfold rcI
  rw [take_snoc h, List.foldl_append]
  rfl
abbrev L_rc (f fr y : Bool) (s : FSt) (k : Nat) (n : Nd) (l : List Int) (i : Nat) : ASt := ⟨envOf [(0, pFs f fr s), (2, .v (.int .i64 ((k + 1 : Nat) : Int))), (3, .mp 0), (19, fEnts fr n.entries), (20, .v (.int .i64 n.entries.length)), (21, .v (.int .i64 i))], heapOf [(0, .row y MAPE (encB (rcI s k n l i)))], 1⟩
set_option maxHeartbeats 1000000 in
theorem reached_spec (f fr y : Bool) (s : FSt) (hl : s.nodes.length ≤ 140737488355328) (hok : okE s) (k : Nat) : ∀ (t left : Int) (l : List Int) (id nb : Nat), id < nb → k ≤ 100 → left = (k : Int) → hasN s.nodes t →
    ASound Tryz.prog 87 [pFs f fr s, .v (.int .i64 t), .v (.int .i64 left), .mp id] nb (rowsM [(id, y, MAPE, encB l)] (.ret (.tup []) (outW [(id, y, MAPE, encB l)] [some (encB (rch s k t l))] ++ []))) := by
  induction k with
  | zero =>
    intro t left l id nb hid hk hleft hh
    obtain rfl : left = 0 := hleft
    refine ok_87.soundX 1 [(id, y, MAPE, encB l)] [some (encB (rch s 0 t l))] (by simp) ⟨al_pFs s, trivial, trivial, by simp [Al], trivial⟩ (by simp) (fun x hx => ?_) rfl (by simp) (fun k cl hk => ?_) ?_
    · simp at hx; subst hx; exact ⟨.inr rfl, al_encB _, hid⟩
    · rcases k with _ | k
      · decide
      · simp at hk
    · have hrn : rn [(id, 0)] id = 0 := by simp [rn]
      simp only [ac_87, pFs, fNds, renL, ren, hrn, rowsIn, ren_Nds, mput_encB, List.map_cons, List.map_nil, List.zipIdx_cons, List.zipIdx_nil, TT, ↓reduceIte, Nat.reduceEqDiff, Nat.reduceAdd, Nat.reduceMul, reduceCtorEq, Nat.reduceLeDiff]
      refine EndsX.data (r := .tup []) (.inl rfl) (by simp [ET]) trivial ?_
      exact ⟨⟨by simp [WT, rch], by simp, al_encB _⟩, trivial⟩
  | succ k ih =>
    intro t left l id nb hid hk hleft hh
    have hn := fun nb => node_spec f fr s t nb hl hh.1
    obtain ⟨n, hx, hmem, _⟩ := hasN_get hh
    have hA : nodA s t = n := by rw [nodA, hx]
    obtain ⟨a0, a1, a2, a3, a4, a5⟩ := get_Nds (fr := fr) hx
    obtain ⟨hle, hoke⟩ := hok n hmem
    subst hleft
    refine ok_87.soundX 1 [(id, y, MAPE, encB l)] [some (encB (rch s (k + 1) t l))] (by simp) ⟨al_pFs s, trivial, trivial, by simp [Al], trivial⟩ (by simp) (fun x hx => ?_) rfl (by simp) (fun k cl hk => ?_) ?_
    · simp at hx; subst hx; exact ⟨.inr rfl, al_encB _, hid⟩
    · rcases k with _ | k
      · decide
      · simp at hk
    · have g1 : ((0 : Int) < ((k + 1 : Nat) : Int)) = True := eq_true (by omega)
      have hrn : rn [(id, 0)] id = 0 := by simp [rn]
      simp only [pFs, fNds] at hn
      simp only [ac_87, pFs, fNds, renL, ren, hrn, rowsIn, ren_Nds, mput_encB, List.map_cons, List.map_nil, List.zipIdx_cons, List.zipIdx_nil, g1, decide_true, TT, ↓reduceIte, Nat.reduceEqDiff, Nat.reduceAdd, Nat.reduceMul, reduceCtorEq, Nat.reduceLeDiff]
      refine ⟨_, hn _, ?_⟩
      simp only [a3, TT, ↓reduceIte, Nat.reduceEqDiff, Nat.reduceAdd, Nat.reduceMul, reduceCtorEq, Nat.reduceLeDiff]
      refine AWc.family (L_rc f fr y s k n (addK t l)) (fun i => i ≤ n.entries.length) (fun i => n.entries.length - i) 0 (Nat.zero_le _) ?_ ?_
      · refine Weak.calc [(0, 0)] (by decide) ?_ ?_ <;> simp [WT, rcI, al_encB, ren_encB, pFs, fNds, al_Nds, ren_Nds, fEnts, al_Ents, ren_Ents]
      · intro i hi
        by_cases hlt : i < n.entries.length
        · obtain ⟨e, hx2, e1, e0⟩ := lt_at hlt
          obtain ⟨b0, b1⟩ := get_Ents hx2
          have w1 : IntKind.i64.wrap (((k + 1 : Nat) : Int) - 1) = (k : Int) := by rw [wrap64 (by omega)]; omega
          have hi2 := fun nb hid => ih e.ino (k : Int) (rcI s k n (addK t l) i) 0 nb hid (by omega) rfl (hoke e (List.mem_of_getElem? hx2))
          simp only [pFs, fNds, rowsM, outW, Option.map_some] at hi2
          simp only [L_rc, pFs, fNds, fEnts, e1, e0, b0, b1, w1, Int.toNat_natCast, TT, ↓reduceIte, Nat.reduceEqDiff, Nat.reduceAdd, Nat.reduceMul, reduceCtorEq, Nat.reduceLeDiff]
          refine ⟨_, hi2 _ (by decide), ?_⟩
          simp only [TT, ↓reduceIte, Nat.reduceEqDiff, Nat.reduceAdd, Nat.reduceMul, reduceCtorEq, Nat.reduceLeDiff]
          refine famC_next (i + 1) (by omega) (by omega) ?_
          refine Weak.calc [(0, 0)] (by decide) ?_ ?_ <;> simp [WT, rcI_s hx2, pFs, fNds, al_Nds, ren_Nds, fEnts, al_Ents, ren_Ents, al_encB, ren_encB, wrap64 (x := (i : Int) + 1) (by omega)]
        · obtain rfl : i = n.entries.length := by omega
          have e1 : ¬ ((n.entries.length : Int) < (n.entries.length : Int)) := by omega
          have hd2 : rch s (k + 1) t l = rcI s k n (addK t l) n.entries.length := by rw [rch, hA, rcI, List.take_length]
          rw [hd2]
          simp only [L_rc, pFs, fNds, fEnts, e1, TT, ↓reduceIte, Nat.reduceEqDiff, Nat.reduceAdd, Nat.reduceMul, reduceCtorEq, Nat.reduceLeDiff]
          refine EndsX.data (r := .tup []) (.inl rfl) (by simp [ET]) trivial ?_
          exact ⟨⟨by simp [WT], by simp, al_encB _⟩, trivial⟩
end Go.Proofs.YtonglhkiobibgaaGreatDoor
