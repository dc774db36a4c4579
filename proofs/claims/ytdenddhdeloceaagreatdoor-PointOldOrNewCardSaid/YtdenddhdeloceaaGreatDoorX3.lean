/- Merged texts: KD, UD, UE, UF, UG, UH, UI, UL, UM, UN, UO, KE, UP, UQ, UR, US, UT, UV, WV. -/
import Derived.Test.YtdenddhdeloceaaGreatDoorX1
import Derived.Test.YtdenddhdeloceaaGreatDoorProg
import Derived.Test.YtdenddhdeloceaaGreatDoorX2
set_option linter.unusedSimpArgs false
set_option linter.unusedVariables false
/- Functions of the program, compiled. -/
namespace Go.Proofs.YtdenddhdeloceaaGreatDoor
set_option maxRecDepth 100000
def ac_113 : AC :=
(.seq (.reg false [⟨some 4, .mv (.const (.slice none 0 0)), none, [], []⟩,
    ⟨some 5, .mv (.const .nilIface), none, [], []⟩] [0, 1])
(.seq (.seq (.reg false [⟨some 7, .mv (.tmp 0), none, [0], []⟩,
    ⟨some 8, .nilc (.tmp 7), none, [7], []⟩,
    ⟨some 9, .foff 0 (.tmp 8), none, [8], []⟩,
    ⟨some 10, .load false 1 (.tmp 9), none, [9], []⟩,
    ⟨some 11, .len false (.tmp 10), none, [10], []⟩,
    ⟨some 12, .mv (.tmp 1), none, [1], []⟩,
    ⟨some 13, .bin .lss (.tmp 11) (.tmp 12), none, [11, 12], []⟩] [0, 1, 13])
(.cond (.tmp 13)
(.seq (.reg false [⟨some 14, .build [(.int .i64 (0))] [(0, 1, (.const (.int .i64 (8))))], none, [], []⟩,
    ⟨some 15, .mkif 153 (.tmp 14), none, [14], []⟩,
    ⟨some 4, .mv (.const (.slice none 0 0)), none, [], []⟩,
    ⟨some 5, .mv (.tmp 15), none, [15], []⟩] [4, 5])
.ret)
.skip))
(.seq (.reg false [⟨some 16, .mv (.tmp 0), none, [0], []⟩,
    ⟨some 17, .nilc (.tmp 16), none, [16], []⟩,
    ⟨some 18, .foff 0 (.tmp 17), none, [17], []⟩,
    ⟨some 19, .load false 1 (.tmp 18), none, [18], []⟩,
    ⟨some 20, .mv (.tmp 1), none, [1], []⟩,
    ⟨some 21, .slice 1 (.tmp 19) none (some (.tmp 20)), none, [19, 20], []⟩,
    ⟨some 6, .mv (.tmp 21), none, [21], []⟩] [0, 1, 6])
(.seq (.reg false [⟨some 22, .mv (.tmp 0), none, [0], []⟩,
    ⟨some 23, .mv (.tmp 0), none, [0], []⟩,
    ⟨some 24, .nilc (.tmp 23), none, [23], []⟩,
    ⟨some 25, .foff 0 (.tmp 24), none, [24], []⟩,
    ⟨some 26, .load false 1 (.tmp 25), none, [25], []⟩,
    ⟨some 27, .mv (.tmp 1), none, [1], []⟩,
    ⟨some 28, .slice 1 (.tmp 26) (some (.tmp 27)) none, none, [26, 27], []⟩,
    ⟨some 29, .nilc (.tmp 22), none, [22], []⟩,
    ⟨some 30, .foff 0 (.tmp 29), none, [29], []⟩,
    ⟨none, .store 1 (.tmp 30) (.tmp 28), none, [30, 28], []⟩] [6])
(.seq (.reg false [⟨some 31, .mv (.tmp 6), none, [6], []⟩,
    ⟨some 4, .mv (.tmp 31), none, [31], []⟩,
    ⟨some 5, .mv (.const .nilIface), none, [], []⟩] [4, 5])
.ret)))))
theorem ok_113 : FnOk Tryz.prog 113 32 ac_113 [.tmp 4, .tmp 5] := ⟨Tryz.f113, Tryz.func113, by kernel_rfl, by kernel_rfl, by kernel_rfl, by kernel_rfl, by kernel_rfl⟩
def ac_96 : AC :=
(.seq (.reg false [⟨some 2, .mv (.const (.int .i64 (0))), none, [], []⟩,
    ⟨some 3, .mv (.const .nilIface), none, [], []⟩] [0])
(.seq (.reg false [⟨some 7, .mv (.tmp 0), none, [0], []⟩,
    ⟨some 8, .call 113 [(.tmp 7), (.const (.int .i64 (1)))], none, [7], []⟩,
    ⟨some 6, .mv (.tmp 8), none, [8], []⟩,
    ⟨some 9, .ext 0 (.tmp 6), none, [6], []⟩,
    ⟨some 10, .ext 1 (.tmp 6), none, [6], []⟩,
    ⟨some 4, .mv (.tmp 9), none, [9], []⟩,
    ⟨some 5, .mv (.tmp 10), none, [10], []⟩] [4, 5])
(.seq (.seq (.reg false [⟨some 11, .mv (.tmp 5), none, [5], []⟩,
    ⟨some 12, .isnil true .nilIface (.tmp 11), none, [11], []⟩] [4, 5, 12])
(.cond (.tmp 12)
(.seq (.reg false [⟨some 13, .mv (.tmp 5), none, [5], []⟩,
    ⟨some 2, .mv (.const (.int .i64 (0))), none, [], []⟩,
    ⟨some 3, .mv (.tmp 13), none, [13], []⟩] [2, 3])
.ret)
.skip))
(.seq (.reg false [⟨some 14, .mv (.tmp 4), none, [4], []⟩,
    ⟨some 15, .idx 1 (.tmp 14) (.const (.int .i64 (0))), none, [14], []⟩,
    ⟨some 16, .load false 1 (.tmp 15), none, [15], []⟩,
    ⟨some 17, .conv .i64 (.tmp 16), none, [16], []⟩,
    ⟨some 2, .mv (.tmp 17), none, [17], []⟩,
    ⟨some 3, .mv (.const .nilIface), none, [], []⟩] [2, 3])
.ret))))
theorem ok_96 : FnOk Tryz.prog 96 18 ac_96 [.tmp 2, .tmp 3] := ⟨Tryz.f96, Tryz.func96, by kernel_rfl, by kernel_rfl, by kernel_rfl, by kernel_rfl, by kernel_rfl⟩
def ac_115 : AC :=
(.seq (.reg false [⟨some 2, .mv (.const (.int .u64 (0))), none, [], []⟩,
    ⟨some 3, .mv (.const .nilIface), none, [], []⟩] [0])
(.seq (.reg false [⟨some 4, .mv (.const (.int .u64 (0))), none, [], []⟩] [0, 4])
(.seq (.reg false [⟨some 5, .mv (.const (.int .i64 (0))), none, [], []⟩] [0, 4, 5])
(.block 0 (.loop (.seq (.block 1 (.seq (.reg false [⟨some 11, .mv (.tmp 0), none, [0], []⟩,
    ⟨some 12, .call 96 [(.tmp 11)], none, [11], []⟩,
    ⟨some 10, .mv (.tmp 12), none, [12], []⟩,
    ⟨some 13, .ext 0 (.tmp 10), none, [10], []⟩,
    ⟨some 14, .ext 1 (.tmp 10), none, [10], []⟩,
    ⟨some 6, .mv (.tmp 13), none, [13], []⟩,
    ⟨some 7, .mv (.tmp 14), none, [14], []⟩] [0, 4, 5, 6, 7])
(.seq (.block 2 (.seq (.reg false [⟨some 16, .mv (.tmp 7), none, [7], []⟩,
    ⟨some 17, .isnil true .nilIface (.tmp 16), none, [16], []⟩,
    ⟨some 15, .mv (.tmp 17), none, [17], []⟩] [0, 4, 5, 6, 7, 15])
(.cond (.tmp 15)
(.seq (.reg false [⟨some 18, .mv (.tmp 7), none, [7], []⟩,
    ⟨some 2, .mv (.const (.int .u64 (0))), none, [], []⟩,
    ⟨some 3, .mv (.tmp 18), none, [18], []⟩] [2, 3])
.ret)
(.seq (.seq (.reg false [⟨some 20, .mv (.tmp 5), none, [5], []⟩,
    ⟨some 21, .bin .eql (.tmp 20) (.const (.int .i64 (63))), none, [20], []⟩,
    ⟨some 22, .mv (.tmp 21), none, [21], []⟩,
    ⟨some 23, .mv (.tmp 6), some (22, true), [6, 22], []⟩,
    ⟨some 24, .bin .gtr (.tmp 23) (.const (.int .i64 (1))), some (22, true), [23, 22], []⟩,
    ⟨some 25, .pick (.tmp 22) (.tmp 24) (.const (.bool false)), none, [22, 24], []⟩,
    ⟨some 19, .mv (.tmp 25), none, [25], []⟩] [0, 4, 5, 6, 19])
(.cond (.tmp 19)
.skip
(.reg false [⟨some 26, .mv (.tmp 5), none, [5], []⟩,
    ⟨some 27, .bin .gtr (.tmp 26) (.const (.int .i64 (0))), none, [26], []⟩,
    ⟨some 28, .mv (.tmp 27), none, [27], []⟩,
    ⟨some 29, .mv (.tmp 6), some (28, true), [6, 28], []⟩,
    ⟨some 30, .bin .eql (.tmp 29) (.const (.int .i64 (0))), some (28, true), [29, 28], []⟩,
    ⟨some 31, .pick (.tmp 28) (.tmp 30) (.const (.bool false)), none, [28, 30], []⟩,
    ⟨some 19, .mv (.tmp 31), none, [31], []⟩] [0, 4, 5, 6, 19])))
(.cond (.tmp 19)
(.seq (.reg false [⟨some 32, .build [(.int .i64 (0))] [(0, 1, (.const (.int .i64 (4))))], none, [], []⟩,
    ⟨some 33, .mkif 153 (.tmp 32), none, [32], []⟩,
    ⟨some 2, .mv (.const (.int .u64 (0))), none, [], []⟩,
    ⟨some 3, .mv (.tmp 33), none, [33], []⟩] [2, 3])
.ret)
.skip)))))
(.seq (.reg false [⟨some 34, .mv (.tmp 4), none, [4], []⟩,
    ⟨some 35, .mv (.tmp 6), none, [6], []⟩,
    ⟨some 36, .bin .and (.tmp 35) (.const (.int .i64 (127))), none, [35], []⟩,
    ⟨some 37, .conv .u64 (.tmp 36), none, [36], []⟩,
    ⟨some 38, .mv (.tmp 5), none, [5], []⟩,
    ⟨some 39, .bin .shl (.tmp 37) (.tmp 38), none, [37, 38], []⟩,
    ⟨some 40, .bin .or (.tmp 34) (.tmp 39), none, [34, 39], []⟩,
    ⟨some 4, .mv (.tmp 40), none, [40], []⟩] [0, 4, 5, 6])
(.seq (.reg false [⟨some 41, .mv (.tmp 6), none, [6], []⟩,
    ⟨some 42, .bin .lss (.tmp 41) (.const (.int .i64 (128))), none, [41], []⟩] [0, 4, 5, 42])
(.cond (.tmp 42)
(.seq (.reg false [⟨some 43, .mv (.tmp 4), none, [4], []⟩,
    ⟨some 2, .mv (.tmp 43), none, [43], []⟩,
    ⟨some 3, .mv (.const .nilIface), none, [], []⟩] [2, 3])
.ret)
.skip))))))
(.reg false [⟨some 8, .mv (.tmp 5), none, [5], []⟩,
    ⟨some 9, .bin .add (.tmp 8) (.const (.int .i64 (7))), none, [8], []⟩,
    ⟨some 5, .mv (.tmp 9), none, [9], []⟩] [0, 4, 5])))))))
theorem ok_115 : FnOk Tryz.prog 115 44 ac_115 [.tmp 2, .tmp 3] := ⟨Tryz.f115, Tryz.func115, by kernel_rfl, by kernel_rfl, by kernel_rfl, by kernel_rfl, by kernel_rfl⟩
def ac_114 : AC :=
(.seq (.reg false [⟨some 4, .mv (.const (.int .i64 (0))), none, [], []⟩,
    ⟨some 5, .mv (.const .nilIface), none, [], []⟩] [0, 1])
(.seq (.reg false [⟨some 9, .mv (.tmp 0), none, [0], []⟩,
    ⟨some 10, .call 96 [(.tmp 9)], none, [9], []⟩,
    ⟨some 8, .mv (.tmp 10), none, [10], []⟩,
    ⟨some 11, .ext 0 (.tmp 8), none, [8], []⟩,
    ⟨some 12, .ext 1 (.tmp 8), none, [8], []⟩,
    ⟨some 6, .mv (.tmp 11), none, [11], []⟩,
    ⟨some 7, .mv (.tmp 12), none, [12], []⟩] [1, 6, 7])
(.seq (.seq (.reg false [⟨some 13, .mv (.tmp 7), none, [7], []⟩,
    ⟨some 14, .isnil false .nilIface (.tmp 13), none, [13], []⟩,
    ⟨some 15, .mv (.tmp 14), none, [14], []⟩,
    ⟨some 16, .mv (.tmp 6), some (15, true), [6, 15], []⟩,
    ⟨some 17, .mv (.tmp 1), some (15, true), [1, 15], []⟩,
    ⟨some 18, .bin .gtr (.tmp 16) (.tmp 17), some (15, true), [16, 17, 15], []⟩,
    ⟨some 19, .pick (.tmp 15) (.tmp 18) (.const (.bool false)), none, [15, 18], []⟩] [6, 7, 19])
(.cond (.tmp 19)
(.reg false [⟨some 20, .build [(.int .i64 (0))] [(0, 1, (.const (.int .i64 (3))))], none, [], []⟩,
    ⟨some 21, .mkif 153 (.tmp 20), none, [20], []⟩,
    ⟨some 7, .mv (.tmp 21), none, [21], []⟩] [6, 7])
.skip))
(.seq (.reg false [⟨some 22, .mv (.tmp 6), none, [6], []⟩,
    ⟨some 23, .mv (.tmp 7), none, [7], []⟩,
    ⟨some 4, .mv (.tmp 22), none, [22], []⟩,
    ⟨some 5, .mv (.tmp 23), none, [23], []⟩] [4, 5])
.ret))))
theorem ok_114 : FnOk Tryz.prog 114 24 ac_114 [.tmp 4, .tmp 5] := ⟨Tryz.f114, Tryz.func114, by kernel_rfl, by kernel_rfl, by kernel_rfl, by kernel_rfl, by kernel_rfl⟩
def ac_97 : AC :=
(.seq (.reg false [⟨some 2, .mv (.const (.slice none 0 0)), none, [], []⟩,
    ⟨some 3, .mv (.const .nilIface), none, [], []⟩] [0])
(.seq (.reg false [⟨some 10, .mv (.tmp 0), none, [0], []⟩,
    ⟨some 11, .call 114 [(.tmp 10), (.const (.int .i64 (64)))], none, [10], []⟩,
    ⟨some 9, .mv (.tmp 11), none, [11], []⟩,
    ⟨some 12, .ext 0 (.tmp 9), none, [9], []⟩,
    ⟨some 13, .ext 1 (.tmp 9), none, [9], []⟩,
    ⟨some 4, .mv (.tmp 12), none, [12], []⟩,
    ⟨some 5, .mv (.tmp 13), none, [13], []⟩] [0, 4, 5])
(.seq (.reg false [⟨some 6, .mv (.const (.slice none 0 0)), none, [], []⟩] [0, 4, 5, 6])
(.seq (.seq (.reg false [⟨some 7, .mv (.const (.int .i64 (0))), none, [], []⟩] [0, 4, 5, 6, 7])
(.block 0 (.loop (.seq (.seq (.reg false [⟨some 14, .mv (.tmp 5), none, [5], []⟩,
    ⟨some 15, .isnil false .nilIface (.tmp 14), none, [14], []⟩,
    ⟨some 16, .mv (.tmp 15), none, [15], []⟩,
    ⟨some 17, .mv (.tmp 7), some (16, true), [7, 16], []⟩,
    ⟨some 18, .mv (.tmp 4), some (16, true), [4, 16], []⟩,
    ⟨some 19, .bin .lss (.tmp 17) (.tmp 18), some (16, true), [17, 18, 16], []⟩,
    ⟨some 20, .pick (.tmp 16) (.tmp 19) (.const (.bool false)), none, [16, 19], []⟩] [0, 4, 5, 6, 7, 20])
(.cond (.tmp 20)
.skip
(.exit 0)))
(.seq (.block 1 (.seq (.reg false [⟨some 8, .mv (.const (.int .u64 (0))), none, [], []⟩] [0, 4, 6, 7])
(.seq (.reg false [⟨some 24, .mv (.tmp 0), none, [0], []⟩,
    ⟨some 25, .call 115 [(.tmp 24)], none, [24], []⟩,
    ⟨some 23, .mv (.tmp 25), none, [25], []⟩,
    ⟨some 26, .ext 0 (.tmp 23), none, [23], []⟩,
    ⟨some 27, .ext 1 (.tmp 23), none, [23], []⟩,
    ⟨some 8, .mv (.tmp 26), none, [26], []⟩,
    ⟨some 5, .mv (.tmp 27), none, [27], []⟩] [0, 4, 5, 6, 7, 8])
(.reg false [⟨some 28, .mv (.tmp 6), none, [6], []⟩,
    ⟨some 29, .mv (.tmp 8), none, [8], []⟩,
    ⟨some 30, .bin .shr (.tmp 29) (.const (.int .u64 (1))), none, [29], []⟩,
    ⟨some 31, .conv .i64 (.tmp 30), none, [30], []⟩,
    ⟨some 32, .mv (.tmp 8), none, [8], []⟩,
    ⟨some 33, .bin .and (.tmp 32) (.const (.int .u64 (1))), none, [32], []⟩,
    ⟨some 34, .conv .i64 (.tmp 33), none, [33], []⟩,
    ⟨some 35, .un .neg (.tmp 34), none, [34], []⟩,
    ⟨some 36, .bin .xor (.tmp 31) (.tmp 35), none, [31, 35], []⟩,
    ⟨some 37, .bslice 3 1 1 [(.int .i64 (0))] [(0, 1, (.tmp 36))], none, [36], []⟩,
    ⟨some 38, .append 3 1 8 (.tmp 28) (.tmp 37), none, [28, 37], []⟩,
    ⟨some 6, .mv (.tmp 38), none, [38], []⟩] [0, 4, 5, 6, 7]))))
(.reg false [⟨some 21, .mv (.tmp 7), none, [7], []⟩,
    ⟨some 22, .bin .add (.tmp 21) (.const (.int .i64 (1))), none, [21], []⟩,
    ⟨some 7, .mv (.tmp 22), none, [22], []⟩] [0, 4, 5, 6, 7]))))))
(.seq (.reg false [⟨some 39, .mv (.tmp 6), none, [6], []⟩,
    ⟨some 40, .mv (.tmp 5), none, [5], []⟩,
    ⟨some 2, .mv (.tmp 39), none, [39], []⟩,
    ⟨some 3, .mv (.tmp 40), none, [40], []⟩] [2, 3])
.ret)))))
theorem ok_97 : FnOk Tryz.prog 97 41 ac_97 [.tmp 2, .tmp 3] := ⟨Tryz.f97, Tryz.func97, by kernel_rfl, by kernel_rfl, by kernel_rfl, by kernel_rfl, by kernel_rfl⟩
def ac_116 : AC :=
(.seq (.reg false [⟨some 2, .mv (.const (.slice none 0 0)), none, [], []⟩,
    ⟨some 3, .mv (.const .nilIface), none, [], []⟩] [0])
(.seq (.reg false [⟨some 8, .mv (.tmp 0), none, [0], []⟩,
    ⟨some 9, .call 115 [(.tmp 8)], none, [8], []⟩,
    ⟨some 7, .mv (.tmp 9), none, [9], []⟩,
    ⟨some 10, .ext 0 (.tmp 7), none, [7], []⟩,
    ⟨some 11, .ext 1 (.tmp 7), none, [7], []⟩,
    ⟨some 4, .mv (.tmp 10), none, [10], []⟩,
    ⟨some 5, .mv (.tmp 11), none, [11], []⟩] [0, 4, 5])
(.seq (.seq (.reg false [⟨some 12, .mv (.tmp 5), none, [5], []⟩,
    ⟨some 13, .isnil true .nilIface (.tmp 12), none, [12], []⟩] [0, 4, 5, 13])
(.cond (.tmp 13)
(.seq (.reg false [⟨some 14, .mv (.tmp 5), none, [5], []⟩,
    ⟨some 2, .mv (.const (.slice none 0 0)), none, [], []⟩,
    ⟨some 3, .mv (.tmp 14), none, [14], []⟩] [2, 3])
.ret)
.skip))
(.seq (.seq (.reg false [⟨some 15, .mv (.tmp 4), none, [4], []⟩,
    ⟨some 16, .bin .gtr (.tmp 15) (.const (.int .u64 (4096))), none, [15], []⟩] [0, 4, 16])
(.cond (.tmp 16)
(.seq (.reg false [⟨some 17, .build [(.int .i64 (0))] [(0, 1, (.const (.int .i64 (5))))], none, [], []⟩,
    ⟨some 18, .mkif 153 (.tmp 17), none, [17], []⟩,
    ⟨some 2, .mv (.const (.slice none 0 0)), none, [], []⟩,
    ⟨some 3, .mv (.tmp 18), none, [18], []⟩] [2, 3])
.ret)
.skip))
(.seq (.reg false [⟨some 20, .mv (.tmp 0), none, [0], []⟩,
    ⟨some 21, .mv (.tmp 4), none, [4], []⟩,
    ⟨some 22, .conv .i64 (.tmp 21), none, [21], []⟩,
    ⟨some 23, .call 113 [(.tmp 20), (.tmp 22)], none, [20, 22], []⟩,
    ⟨some 19, .mv (.tmp 23), none, [23], []⟩,
    ⟨some 24, .ext 0 (.tmp 19), none, [19], []⟩,
    ⟨some 25, .ext 1 (.tmp 19), none, [19], []⟩,
    ⟨some 6, .mv (.tmp 24), none, [24], []⟩,
    ⟨some 5, .mv (.tmp 25), none, [25], []⟩] [5, 6])
(.seq (.reg false [⟨some 26, .mv (.tmp 6), none, [6], []⟩,
    ⟨some 27, .call 95 [(.tmp 26)], none, [26], []⟩,
    ⟨some 28, .mv (.tmp 5), none, [5], []⟩,
    ⟨some 2, .mv (.tmp 27), none, [27], []⟩,
    ⟨some 3, .mv (.tmp 28), none, [28], []⟩] [2, 3])
.ret))))))
theorem ok_116 : FnOk Tryz.prog 116 29 ac_116 [.tmp 2, .tmp 3] := ⟨Tryz.f116, Tryz.func116, by kernel_rfl, by kernel_rfl, by kernel_rfl, by kernel_rfl, by kernel_rfl⟩
def ac_98 : AC :=
(.seq (.reg false [⟨some 2, .mv (.const (.slice none 0 0)), none, [], []⟩,
    ⟨some 3, .mv (.const .nilIface), none, [], []⟩] [0])
(.seq (.reg false [⟨some 10, .mv (.tmp 0), none, [0], []⟩,
    ⟨some 11, .call 114 [(.tmp 10), (.const (.int .i64 (64)))], none, [10], []⟩,
    ⟨some 9, .mv (.tmp 11), none, [11], []⟩,
    ⟨some 12, .ext 0 (.tmp 9), none, [9], []⟩,
    ⟨some 13, .ext 1 (.tmp 9), none, [9], []⟩,
    ⟨some 4, .mv (.tmp 12), none, [12], []⟩,
    ⟨some 5, .mv (.tmp 13), none, [13], []⟩] [0, 4, 5])
(.seq (.reg false [⟨some 6, .mv (.const (.slice none 0 0)), none, [], []⟩] [0, 4, 5, 6])
(.seq (.seq (.reg false [⟨some 7, .mv (.const (.int .i64 (0))), none, [], []⟩] [0, 4, 5, 6, 7])
(.block 0 (.loop (.seq (.seq (.reg false [⟨some 14, .mv (.tmp 5), none, [5], []⟩,
    ⟨some 15, .isnil false .nilIface (.tmp 14), none, [14], []⟩,
    ⟨some 16, .mv (.tmp 15), none, [15], []⟩,
    ⟨some 17, .mv (.tmp 7), some (16, true), [7, 16], []⟩,
    ⟨some 18, .mv (.tmp 4), some (16, true), [4, 16], []⟩,
    ⟨some 19, .bin .lss (.tmp 17) (.tmp 18), some (16, true), [17, 18, 16], []⟩,
    ⟨some 20, .pick (.tmp 16) (.tmp 19) (.const (.bool false)), none, [16, 19], []⟩] [0, 4, 5, 6, 7, 20])
(.cond (.tmp 20)
.skip
(.exit 0)))
(.seq (.block 1 (.seq (.reg false [⟨some 8, .mv (.const (.slice none 0 0)), none, [], []⟩] [0, 4, 6, 7])
(.seq (.reg false [⟨some 24, .mv (.tmp 0), none, [0], []⟩,
    ⟨some 25, .call 116 [(.tmp 24)], none, [24], []⟩,
    ⟨some 23, .mv (.tmp 25), none, [25], []⟩,
    ⟨some 26, .ext 0 (.tmp 23), none, [23], []⟩,
    ⟨some 27, .ext 1 (.tmp 23), none, [23], []⟩,
    ⟨some 8, .mv (.tmp 26), none, [26], []⟩,
    ⟨some 5, .mv (.tmp 27), none, [27], []⟩] [0, 4, 5, 6, 7, 8])
(.reg false [⟨some 28, .mv (.tmp 6), none, [6], []⟩,
    ⟨some 29, .mv (.tmp 8), none, [8], []⟩,
    ⟨some 30, .bslice 22 1 1 [(.slice none 0 0)] [(0, 1, (.tmp 29))], none, [29], []⟩,
    ⟨some 31, .append 22 1 24 (.tmp 28) (.tmp 30), none, [28, 30], []⟩,
    ⟨some 6, .mv (.tmp 31), none, [31], []⟩] [0, 4, 5, 6, 7]))))
(.reg false [⟨some 21, .mv (.tmp 7), none, [7], []⟩,
    ⟨some 22, .bin .add (.tmp 21) (.const (.int .i64 (1))), none, [21], []⟩,
    ⟨some 7, .mv (.tmp 22), none, [22], []⟩] [0, 4, 5, 6, 7]))))))
(.seq (.reg false [⟨some 32, .mv (.tmp 6), none, [6], []⟩,
    ⟨some 33, .mv (.tmp 5), none, [5], []⟩,
    ⟨some 2, .mv (.tmp 32), none, [32], []⟩,
    ⟨some 3, .mv (.tmp 33), none, [33], []⟩] [2, 3])
.ret)))))
theorem ok_98 : FnOk Tryz.prog 98 34 ac_98 [.tmp 2, .tmp 3] := ⟨Tryz.f98, Tryz.func98, by kernel_rfl, by kernel_rfl, by kernel_rfl, by kernel_rfl, by kernel_rfl⟩
def ac_66 : AC :=
(.seq (.reg false [⟨some 2, .new 76 [(.int .i64 (0)), (.slice none 0 0), (.slice none 0 0)], none, [], []⟩,
    ⟨some 3, .mv (.const .nilIface), none, [], []⟩] [0, 2])
(.seq (.seq (.reg false [⟨some 5, .mv (.tmp 0), none, [0], []⟩,
    ⟨some 6, .call 96 [(.tmp 5)], none, [5], []⟩,
    ⟨some 4, .mv (.tmp 6), none, [6], []⟩,
    ⟨some 7, .ext 0 (.tmp 4), none, [4], []⟩,
    ⟨some 8, .ext 1 (.tmp 4), none, [4], []⟩,
    ⟨some 9, .foff 0 (.tmp 2), none, [2], []⟩,
    ⟨none, .store 1 (.tmp 9) (.tmp 7), none, [9, 7], []⟩,
    ⟨some 3, .mv (.tmp 8), none, [8], []⟩] [0, 2, 3])
(.seq (.reg false [⟨some 10, .mv (.tmp 3), none, [3], []⟩,
    ⟨some 11, .isnil true .nilIface (.tmp 10), none, [10], []⟩] [0, 2, 3, 11])
(.cond (.tmp 11)
(.seq (.reg false [⟨some 12, .load true 3 (.tmp 2), none, [2], []⟩,
    ⟨some 13, .mv (.tmp 3), none, [3], []⟩,
    ⟨none, .store 3 (.tmp 2) (.tmp 12), none, [2, 12], []⟩,
    ⟨some 3, .mv (.tmp 13), none, [13], []⟩] [2, 3])
.ret)
.skip)))
(.seq (.seq (.reg false [⟨some 15, .mv (.tmp 0), none, [0], []⟩,
    ⟨some 16, .call 97 [(.tmp 15)], none, [15], []⟩,
    ⟨some 14, .mv (.tmp 16), none, [16], []⟩,
    ⟨some 17, .ext 0 (.tmp 14), none, [14], []⟩,
    ⟨some 18, .ext 1 (.tmp 14), none, [14], []⟩,
    ⟨some 19, .foff 1 (.tmp 2), none, [2], []⟩,
    ⟨none, .store 1 (.tmp 19) (.tmp 17), none, [19, 17], []⟩,
    ⟨some 3, .mv (.tmp 18), none, [18], []⟩] [0, 2, 3])
(.seq (.reg false [⟨some 20, .mv (.tmp 3), none, [3], []⟩,
    ⟨some 21, .isnil true .nilIface (.tmp 20), none, [20], []⟩] [0, 2, 3, 21])
(.cond (.tmp 21)
(.seq (.reg false [⟨some 22, .load true 3 (.tmp 2), none, [2], []⟩,
    ⟨some 23, .mv (.tmp 3), none, [3], []⟩,
    ⟨none, .store 3 (.tmp 2) (.tmp 22), none, [2, 22], []⟩,
    ⟨some 3, .mv (.tmp 23), none, [23], []⟩] [2, 3])
.ret)
.skip)))
(.seq (.seq (.reg false [⟨some 25, .mv (.tmp 0), none, [0], []⟩,
    ⟨some 26, .call 98 [(.tmp 25)], none, [25], []⟩,
    ⟨some 24, .mv (.tmp 26), none, [26], []⟩,
    ⟨some 27, .ext 0 (.tmp 24), none, [24], []⟩,
    ⟨some 28, .ext 1 (.tmp 24), none, [24], []⟩,
    ⟨some 29, .foff 2 (.tmp 2), none, [2], []⟩,
    ⟨none, .store 1 (.tmp 29) (.tmp 27), none, [29, 27], []⟩,
    ⟨some 3, .mv (.tmp 28), none, [28], []⟩] [0, 2, 3])
(.seq (.reg false [⟨some 30, .mv (.tmp 3), none, [3], []⟩,
    ⟨some 31, .isnil true .nilIface (.tmp 30), none, [30], []⟩] [0, 2, 3, 31])
(.cond (.tmp 31)
(.seq (.reg false [⟨some 32, .load true 3 (.tmp 2), none, [2], []⟩,
    ⟨some 33, .mv (.tmp 3), none, [3], []⟩,
    ⟨none, .store 3 (.tmp 2) (.tmp 32), none, [2, 32], []⟩,
    ⟨some 3, .mv (.tmp 33), none, [33], []⟩] [2, 3])
.ret)
.skip)))
(.seq (.seq (.reg false [⟨some 34, .mv (.tmp 0), none, [0], []⟩,
    ⟨some 35, .nilc (.tmp 34), none, [34], []⟩,
    ⟨some 36, .foff 0 (.tmp 35), none, [35], []⟩,
    ⟨some 37, .load false 1 (.tmp 36), none, [36], []⟩,
    ⟨some 38, .len false (.tmp 37), none, [37], []⟩,
    ⟨some 39, .bin .gtr (.tmp 38) (.const (.int .i64 (0))), none, [38], []⟩] [2, 3, 39])
(.cond (.tmp 39)
(.reg false [⟨some 40, .build [(.int .i64 (0))] [(0, 1, (.const (.int .i64 (23))))], none, [], []⟩,
    ⟨some 41, .mkif 153 (.tmp 40), none, [40], []⟩,
    ⟨some 3, .mv (.tmp 41), none, [41], []⟩] [2, 3])
.skip))
(.seq (.reg false [⟨some 42, .load true 3 (.tmp 2), none, [2], []⟩,
    ⟨some 43, .mv (.tmp 3), none, [3], []⟩,
    ⟨none, .store 3 (.tmp 2) (.tmp 42), none, [2, 42], []⟩,
    ⟨some 3, .mv (.tmp 43), none, [43], []⟩] [2, 3])
.ret))))))
theorem ok_66 : FnOk Tryz.prog 66 44 ac_66 [.cell 2 true 3, .tmp 3] := ⟨Tryz.f66, Tryz.func66, by kernel_rfl, by kernel_rfl, by kernel_rfl, by kernel_rfl, by kernel_rfl⟩
def ac_38 : AC :=
(.seq (.reg false [⟨some 2, .new 76 [(.int .i64 (0)), (.slice none 0 0), (.slice none 0 0)], none, [], []⟩,
    ⟨some 3, .mv (.const (.int .i64 (0))), none, [], []⟩] [0, 2])
(.seq (.reg false [⟨some 9, .mv (.tmp 0), none, [0], []⟩,
    ⟨some 10, .call 65 [(.tmp 9)], none, [9], []⟩,
    ⟨some 8, .mv (.tmp 10), none, [10], []⟩,
    ⟨some 11, .ext 0 (.tmp 8), none, [8], []⟩,
    ⟨some 12, .ext 1 (.tmp 8), none, [8], []⟩,
    ⟨some 4, .mv (.tmp 11), none, [11], []⟩,
    ⟨some 5, .mv (.tmp 12), none, [12], []⟩] [2, 4, 5])
(.seq (.seq (.reg false [⟨some 13, .mv (.tmp 5), none, [5], []⟩,
    ⟨some 14, .bin .neq (.tmp 13) (.const (.int .i64 (0))), none, [13], []⟩] [2, 4, 5, 14])
(.cond (.tmp 14)
(.seq (.reg false [⟨some 15, .build [(.int .i64 (0)), (.slice none 0 0), (.slice none 0 0)] [], none, [], []⟩,
    ⟨some 16, .mv (.tmp 5), none, [5], []⟩,
    ⟨none, .store 3 (.tmp 2) (.tmp 15), none, [2, 15], []⟩,
    ⟨some 3, .mv (.tmp 16), none, [16], []⟩] [2, 3])
.ret)
.skip))
(.seq (.reg false [⟨some 18, .mv (.tmp 4), none, [4], []⟩,
    ⟨some 19, .build [(.slice none 0 0)] [(0, 1, (.tmp 18))], none, [18], []⟩,
    ⟨some 20, .box 115 (.tmp 19), none, [19], []⟩,
    ⟨some 21, .call 66 [(.tmp 20)], none, [20], []⟩,
    ⟨some 17, .mv (.tmp 21), none, [21], []⟩,
    ⟨some 22, .ext 0 (.tmp 17), none, [17], []⟩,
    ⟨some 23, .ext 1 (.tmp 17), none, [17], []⟩,
    ⟨some 6, .new 76 [(.int .i64 (0)), (.slice none 0 0), (.slice none 0 0)], none, [], []⟩,
    ⟨none, .store 3 (.tmp 6) (.tmp 22), none, [6, 22], []⟩,
    ⟨some 7, .mv (.tmp 23), none, [23], []⟩] [2, 6, 7])
(.seq (.seq (.reg false [⟨some 24, .mv (.tmp 7), none, [7], []⟩,
    ⟨some 25, .isnil true .nilIface (.tmp 24), none, [24], []⟩] [2, 6, 7, 25])
(.cond (.tmp 25)
(.seq (.reg false [⟨some 26, .build [(.int .i64 (0)), (.slice none 0 0), (.slice none 0 0)] [], none, [], []⟩,
    ⟨some 27, .mv (.tmp 7), none, [7], []⟩,
    ⟨some 28, .call 67 [(.tmp 27)], none, [27], []⟩,
    ⟨none, .store 3 (.tmp 2) (.tmp 26), none, [2, 26], []⟩,
    ⟨some 3, .mv (.tmp 28), none, [28], []⟩] [2, 3])
.ret)
.skip))
(.seq (.reg false [⟨some 29, .load true 3 (.tmp 6), none, [6], []⟩,
    ⟨none, .store 3 (.tmp 2) (.tmp 29), none, [2, 29], []⟩,
    ⟨some 3, .mv (.const (.int .i64 (0))), none, [], []⟩] [2, 3])
.ret))))))
theorem ok_38 : FnOk Tryz.prog 38 30 ac_38 [.cell 2 true 3, .tmp 3] := ⟨Tryz.f38, Tryz.func38, by kernel_rfl, by kernel_rfl, by kernel_rfl, by kernel_rfl, by kernel_rfl⟩
def ac_79 : AC :=
(.seq (.reg false [⟨some 4, .mv (.const (.slice none 0 0)), none, [], []⟩] [0, 1])
(.seq (.seq (.reg false [⟨some 5, .mv (.tmp 0), none, [0], []⟩,
    ⟨some 6, .nilc (.tmp 5), none, [5], []⟩,
    ⟨some 7, .foff 2 (.tmp 6), none, [6], []⟩,
    ⟨some 8, .load false 1 (.tmp 7), none, [7], []⟩,
    ⟨some 9, .bin .neq (.tmp 8) (.const (.int .i64 (0))), none, [8], []⟩] [0, 1, 9])
(.cond (.tmp 9)
(.seq (.reg false [⟨some 4, .mv (.const (.slice none 0 0)), none, [], []⟩] [4])
.ret)
.skip))
(.seq (.seq (.reg true [⟨some 10, .mv (.tmp 0), none, [0], []⟩,
    ⟨some 11, .nilc (.tmp 10), none, [10], [0]⟩,
    ⟨some 12, .foff 0 (.tmp 11), none, [11], [1, 0]⟩,
    ⟨some 13, .load false 1 (.tmp 12), none, [12], [2, 1, 0]⟩,
    ⟨some 14, .len false (.tmp 13), none, [13], [3, 2, 1, 0]⟩,
    ⟨some 15, .mv (.tmp 0), none, [0], []⟩,
    ⟨some 16, .nilc (.tmp 15), none, [15], [5]⟩,
    ⟨some 17, .foff 1 (.tmp 16), none, [16], [6, 5]⟩,
    ⟨some 18, .load false 1 (.tmp 17), none, [17], [7, 6, 5]⟩,
    ⟨some 19, .bin .sub (.tmp 14) (.tmp 18), none, [14, 18], [4, 8, 3, 2, 1, 0, 7, 6, 5]⟩,
    ⟨some 20, .mv (.tmp 1), none, [1], []⟩,
    ⟨some 21, .bin .lss (.tmp 19) (.tmp 20), none, [19, 20], [9, 10, 4, 8, 3, 2, 1, 0, 7, 6, 5]⟩] [0, 1, 21])
(.cond (.tmp 21)
(.seq (.reg false [⟨some 22, .mv (.tmp 0), none, [0], []⟩,
    ⟨some 23, .nilc (.tmp 22), none, [22], []⟩,
    ⟨some 24, .foff 2 (.tmp 23), none, [23], []⟩,
    ⟨none, .store 1 (.tmp 24) (.const (.int .i64 (8))), none, [24], []⟩] [])
(.seq (.reg false [⟨some 4, .mv (.const (.slice none 0 0)), none, [], []⟩] [4])
.ret))
.skip))
(.seq (.reg false [⟨some 25, .mv (.tmp 0), none, [0], []⟩,
    ⟨some 26, .mv (.tmp 0), none, [0], []⟩,
    ⟨some 27, .nilc (.tmp 26), none, [26], []⟩,
    ⟨some 28, .foff 1 (.tmp 27), none, [27], []⟩,
    ⟨some 29, .load false 1 (.tmp 28), none, [28], []⟩,
    ⟨some 30, .mv (.tmp 1), none, [1], []⟩,
    ⟨some 31, .bin .add (.tmp 29) (.tmp 30), none, [29, 30], []⟩,
    ⟨some 32, .nilc (.tmp 25), none, [25], []⟩,
    ⟨some 33, .foff 1 (.tmp 32), none, [32], []⟩,
    ⟨none, .store 1 (.tmp 33) (.tmp 31), none, [33, 31], []⟩] [0, 1])
(.seq (.reg true [⟨some 34, .mv (.tmp 0), none, [0], []⟩,
    ⟨some 35, .nilc (.tmp 34), none, [34], [0]⟩,
    ⟨some 36, .foff 0 (.tmp 35), none, [35], [1, 0]⟩,
    ⟨some 37, .load false 1 (.tmp 36), none, [36], [2, 1, 0]⟩,
    ⟨some 38, .mv (.tmp 0), none, [0], []⟩,
    ⟨some 39, .nilc (.tmp 38), none, [38], [4]⟩,
    ⟨some 40, .foff 1 (.tmp 39), none, [39], [5, 4]⟩,
    ⟨some 41, .load false 1 (.tmp 40), none, [40], [6, 5, 4]⟩,
    ⟨some 42, .mv (.tmp 1), none, [1], []⟩,
    ⟨some 43, .bin .sub (.tmp 41) (.tmp 42), none, [41, 42], [7, 8, 6, 5, 4]⟩,
    ⟨some 44, .mv (.tmp 0), none, [0], []⟩,
    ⟨some 45, .nilc (.tmp 44), none, [44], [10]⟩,
    ⟨some 46, .foff 1 (.tmp 45), none, [45], [11, 10]⟩,
    ⟨some 47, .load false 1 (.tmp 46), none, [46], [12, 11, 10]⟩,
    ⟨some 48, .slice 1 (.tmp 37) (some (.tmp 43)) (some (.tmp 47)), none, [37, 43, 47], [3, 9, 13, 2, 1, 0, 7, 8, 6, 5, 4, 12, 11, 10]⟩,
    ⟨some 4, .mv (.tmp 48), none, [48], [14, 0, 1, 2, 3, 4, 5, 6, 7, 8, 9, 10, 11, 12, 13]⟩] [4])
.ret)))))
theorem ok_79 : FnOk Tryz.prog 79 49 ac_79 [.tmp 4] := ⟨Tryz.f79, Tryz.func79, by kernel_rfl, by kernel_rfl, by kernel_rfl, by kernel_rfl, by kernel_rfl⟩
def ac_76 : AC :=
(.seq (.reg false [⟨some 2, .mv (.const (.int .i64 (0))), none, [], []⟩] [0])
(.seq (.reg false [⟨some 4, .mv (.tmp 0), none, [0], []⟩,
    ⟨some 5, .call 79 [(.tmp 4), (.const (.int .i64 (1)))], none, [4], []⟩,
    ⟨some 3, .mv (.tmp 5), none, [5], []⟩] [0, 3])
(.seq (.seq (.reg false [⟨some 6, .mv (.tmp 0), none, [0], []⟩,
    ⟨some 7, .nilc (.tmp 6), none, [6], []⟩,
    ⟨some 8, .foff 2 (.tmp 7), none, [7], []⟩,
    ⟨some 9, .load false 1 (.tmp 8), none, [8], []⟩,
    ⟨some 10, .bin .neq (.tmp 9) (.const (.int .i64 (0))), none, [9], []⟩] [3, 10])
(.cond (.tmp 10)
(.seq (.reg false [⟨some 2, .mv (.const (.int .i64 (0))), none, [], []⟩] [2])
.ret)
.skip))
(.seq (.reg false [⟨some 11, .mv (.tmp 3), none, [3], []⟩,
    ⟨some 12, .idx 1 (.tmp 11) (.const (.int .i64 (0))), none, [11], []⟩,
    ⟨some 13, .load false 1 (.tmp 12), none, [12], []⟩,
    ⟨some 14, .conv .i64 (.tmp 13), none, [13], []⟩,
    ⟨some 2, .mv (.tmp 14), none, [14], []⟩] [2])
.ret))))
theorem ok_76 : FnOk Tryz.prog 76 15 ac_76 [.tmp 2] := ⟨Tryz.f76, Tryz.func76, by kernel_rfl, by kernel_rfl, by kernel_rfl, by kernel_rfl, by kernel_rfl⟩
def ac_78 : AC :=
(.seq (.reg false [⟨some 2, .mv (.const (.int .u64 (0))), none, [], []⟩] [0])
(.seq (.reg false [⟨some 3, .mv (.const (.int .u64 (0))), none, [], []⟩] [0, 3])
(.seq (.seq (.reg false [⟨some 4, .mv (.const (.int .i64 (0))), none, [], []⟩] [0, 3, 4])
(.block 0 (.loop (.seq (.seq (.reg false [⟨some 6, .mv (.tmp 4), none, [4], []⟩,
    ⟨some 7, .bin .lss (.tmp 6) (.const (.int .i64 (10))), none, [6], []⟩] [0, 3, 4, 7])
(.cond (.tmp 7)
.skip
(.exit 0)))
(.seq (.block 1 (.seq (.reg false [⟨some 10, .mv (.tmp 0), none, [0], []⟩,
    ⟨some 11, .call 76 [(.tmp 10)], none, [10], []⟩,
    ⟨some 5, .mv (.tmp 11), none, [11], []⟩] [0, 3, 4, 5])
(.seq (.seq (.reg false [⟨some 12, .mv (.tmp 0), none, [0], []⟩,
    ⟨some 13, .nilc (.tmp 12), none, [12], []⟩,
    ⟨some 14, .foff 2 (.tmp 13), none, [13], []⟩,
    ⟨some 15, .load false 1 (.tmp 14), none, [14], []⟩,
    ⟨some 16, .bin .neq (.tmp 15) (.const (.int .i64 (0))), none, [15], []⟩] [0, 3, 4, 5, 16])
(.cond (.tmp 16)
(.seq (.reg false [⟨some 2, .mv (.const (.int .u64 (0))), none, [], []⟩] [2])
.ret)
.skip))
(.seq (.seq (.reg false [⟨some 17, .mv (.tmp 4), none, [4], []⟩,
    ⟨some 18, .bin .eql (.tmp 17) (.const (.int .i64 (9))), none, [17], []⟩,
    ⟨some 19, .mv (.tmp 18), none, [18], []⟩,
    ⟨some 20, .mv (.tmp 5), some (19, true), [5, 19], []⟩,
    ⟨some 21, .bin .gtr (.tmp 20) (.const (.int .i64 (1))), some (19, true), [20, 19], []⟩,
    ⟨some 22, .pick (.tmp 19) (.tmp 21) (.const (.bool false)), none, [19, 21], []⟩,
    ⟨some 23, .mv (.tmp 22), none, [22], []⟩,
    ⟨some 24, .mv (.tmp 5), some (23, false), [5, 23], []⟩,
    ⟨some 25, .bin .eql (.tmp 24) (.const (.int .i64 (0))), some (23, false), [24, 23], []⟩,
    ⟨some 26, .mv (.tmp 25), some (23, false), [25, 23], []⟩,
    ⟨some 27, .mv (.tmp 4), some (26, true), [4, 26], []⟩,
    ⟨some 28, .bin .gtr (.tmp 27) (.const (.int .i64 (0))), some (26, true), [27, 26], []⟩,
    ⟨some 29, .pick (.tmp 26) (.tmp 28) (.const (.bool false)), some (23, false), [26, 28, 23], []⟩,
    ⟨some 30, .pick (.tmp 23) (.const (.bool true)) (.tmp 29), none, [23, 29], []⟩] [0, 3, 4, 5, 30])
(.cond (.tmp 30)
(.seq (.reg false [⟨some 31, .mv (.tmp 0), none, [0], []⟩,
    ⟨some 32, .nilc (.tmp 31), none, [31], []⟩,
    ⟨some 33, .foff 2 (.tmp 32), none, [32], []⟩,
    ⟨none, .store 1 (.tmp 33) (.const (.int .i64 (4))), none, [33], []⟩] [])
(.seq (.reg false [⟨some 2, .mv (.const (.int .u64 (0))), none, [], []⟩] [2])
.ret))
.skip))
(.seq (.reg false [⟨some 34, .mv (.tmp 3), none, [3], []⟩,
    ⟨some 35, .mv (.tmp 5), none, [5], []⟩,
    ⟨some 36, .bin .and (.tmp 35) (.const (.int .i64 (127))), none, [35], []⟩,
    ⟨some 37, .conv .u64 (.tmp 36), none, [36], []⟩,
    ⟨some 38, .mv (.tmp 4), none, [4], []⟩,
    ⟨some 39, .bin .mul (.const (.int .i64 (7))) (.tmp 38), none, [38], []⟩,
    ⟨some 40, .bin .shl (.tmp 37) (.tmp 39), none, [37, 39], []⟩,
    ⟨some 41, .bin .or (.tmp 34) (.tmp 40), none, [34, 40], []⟩,
    ⟨some 3, .mv (.tmp 41), none, [41], []⟩] [0, 3, 4, 5])
(.seq (.reg false [⟨some 42, .mv (.tmp 5), none, [5], []⟩,
    ⟨some 43, .bin .lss (.tmp 42) (.const (.int .i64 (128))), none, [42], []⟩] [0, 3, 4, 43])
(.cond (.tmp 43)
(.seq (.reg false [⟨some 44, .mv (.tmp 3), none, [3], []⟩,
    ⟨some 2, .mv (.tmp 44), none, [44], []⟩] [2])
.ret)
.skip)))))))
(.reg false [⟨some 8, .mv (.tmp 4), none, [4], []⟩,
    ⟨some 9, .bin .add (.tmp 8) (.const (.int .i64 (1))), none, [8], []⟩,
    ⟨some 4, .mv (.tmp 9), none, [9], []⟩] [0, 3, 4]))))))
(.seq (.reg false [⟨some 45, .mv (.tmp 3), none, [3], []⟩,
    ⟨some 2, .mv (.tmp 45), none, [45], []⟩] [2])
.ret))))
theorem ok_78 : FnOk Tryz.prog 78 46 ac_78 [.tmp 2] := ⟨Tryz.f78, Tryz.func78, by kernel_rfl, by kernel_rfl, by kernel_rfl, by kernel_rfl, by kernel_rfl⟩
def ac_77 : AC :=
(.seq (.reg false [⟨some 4, .mv (.const (.int .i64 (0))), none, [], []⟩] [0, 1])
(.seq (.reg false [⟨some 6, .mv (.tmp 0), none, [0], []⟩,
    ⟨some 7, .call 76 [(.tmp 6)], none, [6], []⟩,
    ⟨some 5, .mv (.tmp 7), none, [7], []⟩] [0, 1, 5])
(.seq (.seq (.reg false [⟨some 8, .mv (.tmp 0), none, [0], []⟩,
    ⟨some 9, .nilc (.tmp 8), none, [8], []⟩,
    ⟨some 10, .foff 2 (.tmp 9), none, [9], []⟩,
    ⟨some 11, .load false 1 (.tmp 10), none, [10], []⟩,
    ⟨some 12, .bin .eql (.tmp 11) (.const (.int .i64 (0))), none, [11], []⟩,
    ⟨some 13, .mv (.tmp 12), none, [12], []⟩,
    ⟨some 14, .mv (.tmp 5), some (13, true), [5, 13], []⟩,
    ⟨some 15, .mv (.tmp 1), some (13, true), [1, 13], []⟩,
    ⟨some 16, .bin .gtr (.tmp 14) (.tmp 15), some (13, true), [14, 15, 13], []⟩,
    ⟨some 17, .pick (.tmp 13) (.tmp 16) (.const (.bool false)), none, [13, 16], []⟩] [0, 5, 17])
(.cond (.tmp 17)
(.reg false [⟨some 18, .mv (.tmp 0), none, [0], []⟩,
    ⟨some 19, .nilc (.tmp 18), none, [18], []⟩,
    ⟨some 20, .foff 2 (.tmp 19), none, [19], []⟩,
    ⟨none, .store 1 (.tmp 20) (.const (.int .i64 (3))), none, [20], []⟩] [5])
.skip))
(.seq (.reg false [⟨some 21, .mv (.tmp 5), none, [5], []⟩,
    ⟨some 4, .mv (.tmp 21), none, [21], []⟩] [4])
.ret))))
theorem ok_77 : FnOk Tryz.prog 77 22 ac_77 [.tmp 4] := ⟨Tryz.f77, Tryz.func77, by kernel_rfl, by kernel_rfl, by kernel_rfl, by kernel_rfl, by kernel_rfl⟩
def ac_40 : AC :=
(.seq (.reg false [⟨some 2, .new 79 [(.int .i64 (0)), (.slice none 0 0), (.slice none 0 0)], none, [], []⟩,
    ⟨some 3, .mv (.const (.int .i64 (0))), none, [], []⟩] [0, 2])
(.seq (.reg false [⟨some 16, .mv (.tmp 0), none, [0], []⟩,
    ⟨some 17, .call 75 [(.tmp 16)], none, [16], []⟩,
    ⟨some 15, .mv (.tmp 17), none, [17], []⟩,
    ⟨some 18, .ext 0 (.tmp 15), none, [15], []⟩,
    ⟨some 19, .ext 1 (.tmp 15), none, [15], []⟩,
    ⟨some 4, .mv (.tmp 18), none, [18], []⟩,
    ⟨some 5, .mv (.tmp 19), none, [19], []⟩] [2, 4, 5])
(.seq (.seq (.reg false [⟨some 20, .mv (.tmp 5), none, [5], []⟩,
    ⟨some 21, .bin .neq (.tmp 20) (.const (.int .i64 (0))), none, [20], []⟩] [2, 4, 5, 21])
(.cond (.tmp 21)
(.seq (.reg false [⟨some 22, .build [(.int .i64 (0)), (.slice none 0 0), (.slice none 0 0)] [], none, [], []⟩,
    ⟨some 23, .mv (.tmp 5), none, [5], []⟩,
    ⟨none, .store 3 (.tmp 2) (.tmp 22), none, [2, 22], []⟩,
    ⟨some 3, .mv (.tmp 23), none, [23], []⟩] [2, 3])
.ret)
.skip))
(.seq (.reg false [⟨some 24, .mv (.tmp 4), none, [4], []⟩,
    ⟨some 25, .build [(.slice none 0 0), (.int .i64 (0)), (.int .i64 (0))] [(0, 1, (.tmp 24))], none, [24], []⟩,
    ⟨some 26, .box 128 (.tmp 25), none, [25], []⟩,
    ⟨some 6, .mv (.tmp 26), none, [26], []⟩] [2, 4, 6])
(.seq (.reg false [⟨some 27, .mv (.tmp 6), none, [6], []⟩,
    ⟨some 28, .call 76 [(.tmp 27)], none, [27], []⟩,
    ⟨some 29, .build [(.int .i64 (0)), (.slice none 0 0), (.slice none 0 0)] [(0, 1, (.tmp 28))], none, [28], []⟩,
    ⟨some 7, .new 79 [(.int .i64 (0)), (.slice none 0 0), (.slice none 0 0)], none, [], []⟩,
    ⟨none, .store 3 (.tmp 7) (.tmp 29), none, [7, 29], []⟩] [2, 4, 6, 7])
(.seq (.reg false [⟨some 30, .mv (.tmp 6), none, [6], []⟩,
    ⟨some 31, .call 77 [(.tmp 30), (.const (.int .i64 (64)))], none, [30], []⟩,
    ⟨some 8, .mv (.tmp 31), none, [31], []⟩] [2, 4, 6, 7, 8])
(.seq (.seq (.reg false [⟨some 9, .mv (.const (.int .i64 (0))), none, [], []⟩] [2, 4, 6, 7, 8, 9])
(.block 0 (.loop (.seq (.seq (.reg false [⟨some 32, .mv (.tmp 9), none, [9], []⟩,
    ⟨some 33, .mv (.tmp 8), none, [8], []⟩,
    ⟨some 34, .bin .lss (.tmp 32) (.tmp 33), none, [32, 33], []⟩,
    ⟨some 35, .mv (.tmp 34), none, [34], []⟩,
    ⟨some 36, .mv (.tmp 6), some (35, true), [6, 35], []⟩,
    ⟨some 37, .nilc (.tmp 36), some (35, true), [36, 35], []⟩,
    ⟨some 38, .foff 2 (.tmp 37), some (35, true), [37, 35], []⟩,
    ⟨some 39, .load false 1 (.tmp 38), some (35, true), [38, 35], []⟩,
    ⟨some 40, .bin .eql (.tmp 39) (.const (.int .i64 (0))), some (35, true), [39, 35], []⟩,
    ⟨some 41, .pick (.tmp 35) (.tmp 40) (.const (.bool false)), none, [35, 40], []⟩] [2, 4, 6, 7, 8, 9, 41])
(.cond (.tmp 41)
.skip
(.exit 0)))
(.seq (.block 1 (.seq (.reg false [⟨some 44, .mv (.tmp 6), none, [6], []⟩,
    ⟨some 45, .call 78 [(.tmp 44)], none, [44], []⟩,
    ⟨some 10, .mv (.tmp 45), none, [45], []⟩] [2, 4, 6, 7, 8, 9, 10])
(.seq (.reg false [⟨some 46, .mv (.tmp 10), none, [10], []⟩,
    ⟨some 47, .bin .shr (.tmp 46) (.const (.int .u64 (1))), none, [46], []⟩,
    ⟨some 48, .conv .i64 (.tmp 47), none, [47], []⟩,
    ⟨some 11, .mv (.tmp 48), none, [48], []⟩] [2, 4, 6, 7, 8, 9, 10, 11])
(.seq (.seq (.reg false [⟨some 49, .mv (.tmp 10), none, [10], []⟩,
    ⟨some 50, .bin .and (.tmp 49) (.const (.int .u64 (1))), none, [49], []⟩,
    ⟨some 51, .bin .eql (.tmp 50) (.const (.int .u64 (1))), none, [50], []⟩] [2, 4, 6, 7, 8, 9, 11, 51])
(.cond (.tmp 51)
(.reg false [⟨some 52, .mv (.tmp 11), none, [11], []⟩,
    ⟨some 53, .un .xor (.tmp 52), none, [52], []⟩,
    ⟨some 11, .mv (.tmp 53), none, [53], []⟩] [2, 4, 6, 7, 8, 9, 11])
.skip))
(.reg false [⟨some 54, .foff 1 (.tmp 7), none, [7], []⟩,
    ⟨some 55, .load false 1 (.tmp 54), none, [54], []⟩,
    ⟨some 56, .mv (.tmp 11), none, [11], []⟩,
    ⟨some 57, .bslice 3 1 1 [(.int .i64 (0))] [(0, 1, (.tmp 56))], none, [56], []⟩,
    ⟨some 58, .append 3 1 8 (.tmp 55) (.tmp 57), none, [55, 57], []⟩,
    ⟨some 59, .foff 1 (.tmp 7), none, [7], []⟩,
    ⟨none, .store 1 (.tmp 59) (.tmp 58), none, [59, 58], []⟩] [2, 4, 6, 7, 8, 9])))))
(.reg false [⟨some 42, .mv (.tmp 9), none, [9], []⟩,
    ⟨some 43, .bin .add (.tmp 42) (.const (.int .i64 (1))), none, [42], []⟩,
    ⟨some 9, .mv (.tmp 43), none, [43], []⟩] [2, 4, 6, 7, 8, 9]))))))
(.seq (.reg false [⟨some 60, .mv (.tmp 6), none, [6], []⟩,
    ⟨some 61, .call 77 [(.tmp 60), (.const (.int .i64 (64)))], none, [60], []⟩,
    ⟨some 12, .mv (.tmp 61), none, [61], []⟩] [2, 4, 6, 7, 12])
(.seq (.seq (.reg false [⟨some 13, .mv (.const (.int .i64 (0))), none, [], []⟩] [2, 4, 6, 7, 12, 13])
(.block 2 (.loop (.seq (.seq (.reg false [⟨some 62, .mv (.tmp 13), none, [13], []⟩,
    ⟨some 63, .mv (.tmp 12), none, [12], []⟩,
    ⟨some 64, .bin .lss (.tmp 62) (.tmp 63), none, [62, 63], []⟩,
    ⟨some 65, .mv (.tmp 64), none, [64], []⟩,
    ⟨some 66, .mv (.tmp 6), some (65, true), [6, 65], []⟩,
    ⟨some 67, .nilc (.tmp 66), some (65, true), [66, 65], []⟩,
    ⟨some 68, .foff 2 (.tmp 67), some (65, true), [67, 65], []⟩,
    ⟨some 69, .load false 1 (.tmp 68), some (65, true), [68, 65], []⟩,
    ⟨some 70, .bin .eql (.tmp 69) (.const (.int .i64 (0))), some (65, true), [69, 65], []⟩,
    ⟨some 71, .pick (.tmp 65) (.tmp 70) (.const (.bool false)), none, [65, 70], []⟩] [2, 4, 6, 7, 12, 13, 71])
(.cond (.tmp 71)
.skip
(.exit 2)))
(.seq (.block 3 (.seq (.reg false [⟨some 74, .mv (.tmp 6), none, [6], []⟩,
    ⟨some 75, .call 78 [(.tmp 74)], none, [74], []⟩,
    ⟨some 14, .mv (.tmp 75), none, [75], []⟩] [2, 4, 6, 7, 12, 13, 14])
(.seq (.seq (.reg false [⟨some 76, .mv (.tmp 6), none, [6], []⟩,
    ⟨some 77, .nilc (.tmp 76), none, [76], []⟩,
    ⟨some 78, .foff 2 (.tmp 77), none, [77], []⟩,
    ⟨some 79, .load false 1 (.tmp 78), none, [78], []⟩,
    ⟨some 80, .bin .eql (.tmp 79) (.const (.int .i64 (0))), none, [79], []⟩,
    ⟨some 81, .mv (.tmp 80), none, [80], []⟩,
    ⟨some 82, .mv (.tmp 14), some (81, true), [14, 81], []⟩,
    ⟨some 83, .bin .gtr (.tmp 82) (.const (.int .u64 (4096))), some (81, true), [82, 81], []⟩,
    ⟨some 84, .pick (.tmp 81) (.tmp 83) (.const (.bool false)), none, [81, 83], []⟩] [2, 4, 6, 7, 12, 13, 14, 84])
(.cond (.tmp 84)
(.reg false [⟨some 85, .mv (.tmp 6), none, [6], []⟩,
    ⟨some 86, .nilc (.tmp 85), none, [85], []⟩,
    ⟨some 87, .foff 2 (.tmp 86), none, [86], []⟩,
    ⟨none, .store 1 (.tmp 87) (.const (.int .i64 (5))), none, [87], []⟩] [2, 4, 6, 7, 12, 13, 14])
.skip))
(.reg true [⟨some 88, .foff 2 (.tmp 7), none, [7], []⟩,
    ⟨some 89, .load false 1 (.tmp 88), none, [88], [0]⟩,
    ⟨some 90, .mv (.tmp 6), none, [6], []⟩,
    ⟨some 91, .mv (.tmp 14), none, [14], []⟩,
    ⟨some 92, .bin .and (.tmp 91) (.const (.int .u64 (8191))), none, [91], [3]⟩,
    ⟨some 93, .conv .i64 (.tmp 92), none, [92], [4, 3]⟩,
    ⟨some 94, .call 79 [(.tmp 90), (.tmp 93)], none, [90, 93], [2, 5, 4, 3]⟩,
    ⟨some 95, .call 57 [(.tmp 94)], none, [94], [6, 2, 5, 4, 3]⟩,
    ⟨some 96, .bslice 22 1 1 [(.slice none 0 0)] [(0, 1, (.tmp 95))], none, [95], [7, 6, 2, 5, 4, 3]⟩,
    ⟨some 97, .append 22 1 24 (.tmp 89) (.tmp 96), none, [89, 96], [1, 8, 7, 0, 6, 2, 5, 4, 3]⟩,
    ⟨some 98, .foff 2 (.tmp 7), none, [7], [0, 1, 2, 3, 4, 5, 6, 7, 8, 9]⟩,
    ⟨none, .store 1 (.tmp 98) (.tmp 97), none, [98, 97], [10, 9, 0, 1, 2, 3, 4, 5, 6, 7, 8]⟩] [2, 4, 6, 7, 12, 13]))))
(.reg false [⟨some 72, .mv (.tmp 13), none, [13], []⟩,
    ⟨some 73, .bin .add (.tmp 72) (.const (.int .i64 (1))), none, [72], []⟩,
    ⟨some 13, .mv (.tmp 73), none, [73], []⟩] [2, 4, 6, 7, 12, 13]))))))
(.seq (.block 4 (.seq (.reg false [⟨some 100, .mv (.tmp 6), none, [6], []⟩,
    ⟨some 101, .nilc (.tmp 100), none, [100], []⟩,
    ⟨some 102, .foff 2 (.tmp 101), none, [101], []⟩,
    ⟨some 103, .load false 1 (.tmp 102), none, [102], []⟩,
    ⟨some 104, .bin .neq (.tmp 103) (.const (.int .i64 (0))), none, [103], []⟩,
    ⟨some 99, .mv (.tmp 104), none, [104], []⟩] [2, 4, 6, 7, 99])
(.cond (.tmp 99)
(.seq (.reg true [⟨some 105, .build [(.int .i64 (0)), (.slice none 0 0), (.slice none 0 0)] [], none, [], []⟩,
    ⟨some 106, .mv (.tmp 6), none, [6], []⟩,
    ⟨some 107, .nilc (.tmp 106), none, [106], [1]⟩,
    ⟨some 108, .foff 2 (.tmp 107), none, [107], [2, 1]⟩,
    ⟨some 109, .load false 1 (.tmp 108), none, [108], [3, 2, 1]⟩,
    ⟨none, .store 3 (.tmp 2) (.tmp 105), none, [2, 105], [0]⟩,
    ⟨some 3, .mv (.tmp 109), none, [109], [4, 5, 0, 1, 2, 3]⟩] [2, 3])
.ret)
(.seq (.reg false [⟨some 111, .mv (.tmp 6), none, [6], []⟩,
    ⟨some 112, .nilc (.tmp 111), none, [111], []⟩,
    ⟨some 113, .foff 1 (.tmp 112), none, [112], []⟩,
    ⟨some 114, .load false 1 (.tmp 113), none, [113], []⟩,
    ⟨some 115, .mv (.tmp 4), none, [4], []⟩,
    ⟨some 116, .len false (.tmp 115), none, [115], []⟩,
    ⟨some 117, .bin .lss (.tmp 114) (.tmp 116), none, [114, 116], []⟩,
    ⟨some 110, .mv (.tmp 117), none, [117], []⟩] [2, 7, 110])
(.cond (.tmp 110)
(.seq (.reg false [⟨some 118, .build [(.int .i64 (0)), (.slice none 0 0), (.slice none 0 0)] [], none, [], []⟩,
    ⟨none, .store 3 (.tmp 2) (.tmp 118), none, [2, 118], []⟩,
    ⟨some 3, .mv (.const (.int .i64 (23))), none, [], []⟩] [2, 3])
.ret)
.skip)))))
(.seq (.reg false [⟨some 119, .load true 3 (.tmp 7), none, [7], []⟩,
    ⟨none, .store 3 (.tmp 2) (.tmp 119), none, [2, 119], []⟩,
    ⟨some 3, .mv (.const (.int .i64 (0))), none, [], []⟩] [2, 3])
.ret)))))))))))
theorem ok_40 : FnOk Tryz.prog 40 120 ac_40 [.cell 2 true 3, .tmp 3] := ⟨Tryz.f40, Tryz.func40, by kernel_rfl, by kernel_rfl, by kernel_rfl, by kernel_rfl, by kernel_rfl⟩
def ac_12 : AC :=
(.seq (.reg false [⟨some 2, .new 25 [(.int .i64 (0)), (.int .i64 (0)), (.int .i64 (0)), (.int .i64 (0)), (.slice none 0 0)], none, [], []⟩,
    ⟨some 3, .mv (.const (.int .i64 (0))), none, [], []⟩] [0, 2])
(.seq (.seq (.reg false [⟨some 9, .mv (.tmp 0), none, [0], []⟩,
    ⟨some 10, .len false (.tmp 9), none, [9], []⟩,
    ⟨some 11, .bin .neq (.tmp 10) (.const (.int .i64 (512))), none, [10], []⟩] [0, 2, 11])
(.cond (.tmp 11)
(.seq (.reg false [⟨some 12, .build [(.int .i64 (0)), (.int .i64 (0)), (.int .i64 (0)), (.int .i64 (0)), (.slice none 0 0)] [], none, [], []⟩,
    ⟨none, .store 5 (.tmp 2) (.tmp 12), none, [2, 12], []⟩,
    ⟨some 3, .mv (.const (.int .i64 (3))), none, [], []⟩] [2, 3])
.ret)
.skip))
(.seq (.reg true [⟨some 13, .mv (.tmp 0), none, [0], []⟩,
    ⟨some 14, .idx 1 (.tmp 13) (.const (.int .i64 (0))), none, [13], [0]⟩,
    ⟨some 15, .load false 1 (.tmp 14), none, [14], [1, 0]⟩,
    ⟨some 16, .conv .i64 (.tmp 15), none, [15], [2, 1, 0]⟩,
    ⟨some 17, .bin .shl (.tmp 16) (.const (.int .u64 (8))), none, [16], [3, 2, 1, 0]⟩,
    ⟨some 18, .mv (.tmp 0), none, [0], []⟩,
    ⟨some 19, .idx 1 (.tmp 18) (.const (.int .i64 (1))), none, [18], [5]⟩,
    ⟨some 20, .load false 1 (.tmp 19), none, [19], [6, 5]⟩,
    ⟨some 21, .conv .i64 (.tmp 20), none, [20], [7, 6, 5]⟩,
    ⟨some 22, .bin .or (.tmp 17) (.tmp 21), none, [17, 21], [4, 8, 3, 2, 1, 0, 7, 6, 5]⟩,
    ⟨some 23, .bin .add (.const (.int .i64 (2))) (.tmp 22), none, [22], [9, 4, 8, 3, 2, 1, 0, 7, 6, 5]⟩,
    ⟨some 4, .mv (.tmp 23), none, [23], [10, 0, 1, 2, 3, 4, 5, 6, 7, 8, 9]⟩] [0, 2, 4])
(.seq (.seq (.reg false [⟨some 24, .mv (.tmp 4), none, [4], []⟩,
    ⟨some 25, .bin .gtr (.tmp 24) (.const (.int .i64 (512))), none, [24], []⟩] [0, 2, 4, 25])
(.cond (.tmp 25)
(.seq (.reg false [⟨some 26, .build [(.int .i64 (0)), (.int .i64 (0)), (.int .i64 (0)), (.int .i64 (0)), (.slice none 0 0)] [], none, [], []⟩,
    ⟨none, .store 5 (.tmp 2) (.tmp 26), none, [2, 26], []⟩,
    ⟨some 3, .mv (.const (.int .i64 (5))), none, [], []⟩] [2, 3])
.ret)
.skip))
(.seq (.reg false [⟨some 28, .mv (.tmp 0), none, [0], []⟩,
    ⟨some 29, .mv (.tmp 4), none, [4], []⟩,
    ⟨some 30, .slice 1 (.tmp 28) (some (.const (.int .i64 (2)))) (some (.tmp 29)), none, [28, 29], []⟩,
    ⟨some 31, .call 38 [(.tmp 30)], none, [30], []⟩,
    ⟨some 27, .mv (.tmp 31), none, [31], []⟩,
    ⟨some 32, .ext 0 (.tmp 27), none, [27], []⟩,
    ⟨some 33, .ext 1 (.tmp 27), none, [27], []⟩,
    ⟨some 5, .new 76 [(.int .i64 (0)), (.slice none 0 0), (.slice none 0 0)], none, [], []⟩,
    ⟨none, .store 3 (.tmp 5) (.tmp 32), none, [5, 32], []⟩,
    ⟨some 6, .mv (.tmp 33), none, [33], []⟩] [0, 2, 4, 5, 6])
(.seq (.block 0 (.seq (.reg false [⟨some 35, .mv (.tmp 6), none, [6], []⟩,
    ⟨some 36, .bin .neq (.tmp 35) (.const (.int .i64 (0))), none, [35], []⟩,
    ⟨some 34, .mv (.tmp 36), none, [36], []⟩] [0, 2, 4, 5, 6, 34])
(.cond (.tmp 34)
(.seq (.reg false [⟨some 37, .build [(.int .i64 (0)), (.int .i64 (0)), (.int .i64 (0)), (.int .i64 (0)), (.slice none 0 0)] [], none, [], []⟩,
    ⟨some 38, .mv (.tmp 6), none, [6], []⟩,
    ⟨none, .store 5 (.tmp 2) (.tmp 37), none, [2, 37], []⟩,
    ⟨some 3, .mv (.tmp 38), none, [38], []⟩] [2, 3])
.ret)
(.seq (.reg false [⟨some 40, .foff 0 (.tmp 5), none, [5], []⟩,
    ⟨some 41, .load false 1 (.tmp 40), none, [40], []⟩,
    ⟨some 42, .bin .neq (.tmp 41) (.const (.int .i64 (7))), none, [41], []⟩,
    ⟨some 39, .mv (.tmp 42), none, [42], []⟩] [0, 2, 4, 5, 39])
(.cond (.tmp 39)
(.seq (.reg false [⟨some 43, .build [(.int .i64 (0)), (.int .i64 (0)), (.int .i64 (0)), (.int .i64 (0)), (.slice none 0 0)] [], none, [], []⟩,
    ⟨none, .store 5 (.tmp 2) (.tmp 43), none, [2, 43], []⟩,
    ⟨some 3, .mv (.const (.int .i64 (22))), none, [], []⟩] [2, 3])
.ret)
(.seq (.reg false [⟨some 45, .foff 1 (.tmp 5), none, [5], []⟩,
    ⟨some 46, .load false 1 (.tmp 45), none, [45], []⟩,
    ⟨some 47, .len false (.tmp 46), none, [46], []⟩,
    ⟨some 48, .bin .neq (.tmp 47) (.const (.int .i64 (4))), none, [47], []⟩,
    ⟨some 49, .mv (.tmp 48), none, [48], []⟩,
    ⟨some 50, .foff 2 (.tmp 5), some (49, false), [5, 49], []⟩,
    ⟨some 51, .load false 1 (.tmp 50), some (49, false), [50, 49], []⟩,
    ⟨some 52, .len false (.tmp 51), some (49, false), [51, 49], []⟩,
    ⟨some 53, .bin .neq (.tmp 52) (.const (.int .i64 (1))), some (49, false), [52, 49], []⟩,
    ⟨some 54, .pick (.tmp 49) (.const (.bool true)) (.tmp 53), none, [49, 53], []⟩,
    ⟨some 44, .mv (.tmp 54), none, [54], []⟩] [0, 2, 4, 5, 44])
(.cond (.tmp 44)
(.seq (.reg false [⟨some 55, .build [(.int .i64 (0)), (.int .i64 (0)), (.int .i64 (0)), (.int .i64 (0)), (.slice none 0 0)] [], none, [], []⟩,
    ⟨none, .store 5 (.tmp 2) (.tmp 55), none, [2, 55], []⟩,
    ⟨some 3, .mv (.const (.int .i64 (3))), none, [], []⟩] [2, 3])
.ret)
.skip)))))))
(.seq (.reg true [⟨some 56, .foff 1 (.tmp 5), none, [5], []⟩,
    ⟨some 57, .load false 1 (.tmp 56), none, [56], [0]⟩,
    ⟨some 58, .idx 1 (.tmp 57) (.const (.int .i64 (0))), none, [57], [1, 0]⟩,
    ⟨some 59, .load false 1 (.tmp 58), none, [58], [2, 1, 0]⟩,
    ⟨some 60, .foff 1 (.tmp 5), none, [5], []⟩,
    ⟨some 61, .load false 1 (.tmp 60), none, [60], [4]⟩,
    ⟨some 62, .idx 1 (.tmp 61) (.const (.int .i64 (1))), none, [61], [5, 4]⟩,
    ⟨some 63, .load false 1 (.tmp 62), none, [62], [6, 5, 4]⟩,
    ⟨some 64, .foff 1 (.tmp 5), none, [5], []⟩,
    ⟨some 65, .load false 1 (.tmp 64), none, [64], [8]⟩,
    ⟨some 66, .idx 1 (.tmp 65) (.const (.int .i64 (2))), none, [65], [9, 8]⟩,
    ⟨some 67, .load false 1 (.tmp 66), none, [66], [10, 9, 8]⟩,
    ⟨some 68, .foff 1 (.tmp 5), none, [5], []⟩,
    ⟨some 69, .load false 1 (.tmp 68), none, [68], [12]⟩,
    ⟨some 70, .idx 1 (.tmp 69) (.const (.int .i64 (3))), none, [69], [13, 12]⟩,
    ⟨some 71, .load false 1 (.tmp 70), none, [70], [14, 13, 12]⟩,
    ⟨some 72, .foff 2 (.tmp 5), none, [5], []⟩,
    ⟨some 73, .load false 1 (.tmp 72), none, [72], [16]⟩,
    ⟨some 74, .idx 1 (.tmp 73) (.const (.int .i64 (0))), none, [73], [17, 16]⟩,
    ⟨some 75, .load false 1 (.tmp 74), none, [74], [18, 17, 16]⟩,
    ⟨some 76, .build [(.int .i64 (0)), (.int .i64 (0)), (.int .i64 (0)), (.int .i64 (0)), (.slice none 0 0)] [(0, 1, (.tmp 59)), (1, 1, (.tmp 63)), (2, 1, (.tmp 67)), (3, 1, (.tmp 71)), (4, 1, (.tmp 75))], none, [59, 63, 67, 71, 75], [3, 7, 11, 15, 19, 2, 1, 0, 6, 5, 4, 10, 9, 8, 14, 13, 12, 18, 17, 16]⟩,
    ⟨some 7, .new 25 [(.int .i64 (0)), (.int .i64 (0)), (.int .i64 (0)), (.int .i64 (0)), (.slice none 0 0)], none, [], []⟩,
    ⟨none, .store 5 (.tmp 7) (.tmp 76), none, [7, 76], [21, 20, 0, 1, 2, 3, 4, 5, 6, 7, 8, 9, 10, 11, 12, 13, 14, 15, 16, 17, 18, 19]⟩] [0, 2, 4, 7])
(.seq (.seq (.reg false [⟨some 77, .load true 5 (.tmp 7), none, [7], []⟩,
    ⟨some 78, .call 17 [(.tmp 77)], none, [77], []⟩,
    ⟨some 8, .mv (.tmp 78), none, [78], []⟩] [0, 2, 4, 7, 8])
(.seq (.reg false [⟨some 79, .mv (.tmp 8), none, [8], []⟩,
    ⟨some 80, .bin .neq (.tmp 79) (.const (.int .i64 (0))), none, [79], []⟩] [0, 2, 4, 7, 8, 80])
(.cond (.tmp 80)
(.seq (.reg false [⟨some 81, .build [(.int .i64 (0)), (.int .i64 (0)), (.int .i64 (0)), (.int .i64 (0)), (.slice none 0 0)] [], none, [], []⟩,
    ⟨some 82, .mv (.tmp 8), none, [8], []⟩,
    ⟨none, .store 5 (.tmp 2) (.tmp 81), none, [2, 81], []⟩,
    ⟨some 3, .mv (.tmp 82), none, [82], []⟩] [2, 3])
.ret)
.skip)))
(.seq (.seq (.reg false [⟨some 83, .mv (.tmp 0), none, [0], []⟩,
    ⟨some 84, .mv (.tmp 4), none, [4], []⟩,
    ⟨some 85, .slice 1 (.tmp 83) (some (.tmp 84)) none, none, [83, 84], []⟩,
    ⟨some 86, .call 39 [(.tmp 85), (.const (.string (ByteArray.mk #[0])))], none, [85], []⟩,
    ⟨some 87, .len false (.tmp 86), none, [86], []⟩,
    ⟨some 88, .bin .gtr (.tmp 87) (.const (.int .i64 (0))), none, [87], []⟩] [2, 7, 88])
(.cond (.tmp 88)
(.seq (.reg false [⟨some 89, .build [(.int .i64 (0)), (.int .i64 (0)), (.int .i64 (0)), (.int .i64 (0)), (.slice none 0 0)] [], none, [], []⟩,
    ⟨none, .store 5 (.tmp 2) (.tmp 89), none, [2, 89], []⟩,
    ⟨some 3, .mv (.const (.int .i64 (23))), none, [], []⟩] [2, 3])
.ret)
.skip))
(.seq (.reg false [⟨some 90, .load true 5 (.tmp 7), none, [7], []⟩,
    ⟨none, .store 5 (.tmp 2) (.tmp 90), none, [2, 90], []⟩,
    ⟨some 3, .mv (.const (.int .i64 (0))), none, [], []⟩] [2, 3])
.ret))))))))))
theorem ok_12 : FnOk Tryz.prog 12 91 ac_12 [.cell 2 true 5, .tmp 3] := ⟨Tryz.f12, Tryz.func12, by kernel_rfl, by kernel_rfl, by kernel_rfl, by kernel_rfl, by kernel_rfl⟩
def ac_13 : AC :=
(.seq (.reg false [⟨some 2, .new 24 [(.int .i64 (0)), (.int .i64 (0)), (.int .i64 (0)), (.int .i64 (0)), (.slice none 0 0)], none, [], []⟩,
    ⟨some 3, .mv (.const (.int .i64 (0))), none, [], []⟩] [0, 2])
(.seq (.seq (.reg false [⟨some 10, .mv (.tmp 0), none, [0], []⟩,
    ⟨some 11, .len false (.tmp 10), none, [10], []⟩,
    ⟨some 12, .bin .neq (.tmp 11) (.const (.int .i64 (512))), none, [11], []⟩] [0, 2, 12])
(.cond (.tmp 12)
(.seq (.reg false [⟨some 13, .build [(.int .i64 (0)), (.int .i64 (0)), (.int .i64 (0)), (.int .i64 (0)), (.slice none 0 0)] [], none, [], []⟩,
    ⟨none, .store 5 (.tmp 2) (.tmp 13), none, [2, 13], []⟩,
    ⟨some 3, .mv (.const (.int .i64 (3))), none, [], []⟩] [2, 3])
.ret)
.skip))
(.seq (.reg true [⟨some 14, .mv (.tmp 0), none, [0], []⟩,
    ⟨some 15, .idx 1 (.tmp 14) (.const (.int .i64 (0))), none, [14], [0]⟩,
    ⟨some 16, .load false 1 (.tmp 15), none, [15], [1, 0]⟩,
    ⟨some 17, .conv .i64 (.tmp 16), none, [16], [2, 1, 0]⟩,
    ⟨some 18, .bin .shl (.tmp 17) (.const (.int .u64 (8))), none, [17], [3, 2, 1, 0]⟩,
    ⟨some 19, .mv (.tmp 0), none, [0], []⟩,
    ⟨some 20, .idx 1 (.tmp 19) (.const (.int .i64 (1))), none, [19], [5]⟩,
    ⟨some 21, .load false 1 (.tmp 20), none, [20], [6, 5]⟩,
    ⟨some 22, .conv .i64 (.tmp 21), none, [21], [7, 6, 5]⟩,
    ⟨some 23, .bin .or (.tmp 18) (.tmp 22), none, [18, 22], [4, 8, 3, 2, 1, 0, 7, 6, 5]⟩,
    ⟨some 4, .mv (.tmp 23), none, [23], [9, 0, 1, 2, 3, 4, 5, 6, 7, 8]⟩] [0, 2, 4])
(.seq (.seq (.reg false [⟨some 24, .mv (.tmp 4), none, [4], []⟩,
    ⟨some 25, .bin .gtr (.tmp 24) (.const (.int .i64 (510))), none, [24], []⟩] [0, 2, 4, 25])
(.cond (.tmp 25)
(.seq (.reg false [⟨some 26, .build [(.int .i64 (0)), (.int .i64 (0)), (.int .i64 (0)), (.int .i64 (0)), (.slice none 0 0)] [], none, [], []⟩,
    ⟨none, .store 5 (.tmp 2) (.tmp 26), none, [2, 26], []⟩,
    ⟨some 3, .mv (.const (.int .i64 (5))), none, [], []⟩] [2, 3])
.ret)
.skip))
(.seq (.reg false [⟨some 28, .mv (.tmp 0), none, [0], []⟩,
    ⟨some 29, .mv (.tmp 4), none, [4], []⟩,
    ⟨some 30, .bin .add (.const (.int .i64 (2))) (.tmp 29), none, [29], []⟩,
    ⟨some 31, .slice 1 (.tmp 28) (some (.const (.int .i64 (2)))) (some (.tmp 30)), none, [28, 30], []⟩,
    ⟨some 32, .call 40 [(.tmp 31)], none, [31], []⟩,
    ⟨some 27, .mv (.tmp 32), none, [32], []⟩,
    ⟨some 33, .ext 0 (.tmp 27), none, [27], []⟩,
    ⟨some 34, .ext 1 (.tmp 27), none, [27], []⟩,
    ⟨some 5, .new 79 [(.int .i64 (0)), (.slice none 0 0), (.slice none 0 0)], none, [], []⟩,
    ⟨none, .store 3 (.tmp 5) (.tmp 33), none, [5, 33], []⟩,
    ⟨some 6, .mv (.tmp 34), none, [34], []⟩] [0, 2, 4, 5, 6])
(.seq (.block 0 (.seq (.reg false [⟨some 36, .mv (.tmp 6), none, [6], []⟩,
    ⟨some 37, .bin .neq (.tmp 36) (.const (.int .i64 (0))), none, [36], []⟩,
    ⟨some 35, .mv (.tmp 37), none, [37], []⟩] [0, 2, 4, 5, 6, 35])
(.cond (.tmp 35)
(.seq (.reg false [⟨some 38, .build [(.int .i64 (0)), (.int .i64 (0)), (.int .i64 (0)), (.int .i64 (0)), (.slice none 0 0)] [], none, [], []⟩,
    ⟨some 39, .mv (.tmp 6), none, [6], []⟩,
    ⟨none, .store 5 (.tmp 2) (.tmp 38), none, [2, 38], []⟩,
    ⟨some 3, .mv (.tmp 39), none, [39], []⟩] [2, 3])
.ret)
(.seq (.reg false [⟨some 41, .foff 0 (.tmp 5), none, [5], []⟩,
    ⟨some 42, .load false 1 (.tmp 41), none, [41], []⟩,
    ⟨some 43, .bin .neq (.tmp 42) (.const (.int .i64 (7))), none, [42], []⟩,
    ⟨some 40, .mv (.tmp 43), none, [43], []⟩] [0, 2, 4, 5, 40])
(.cond (.tmp 40)
(.seq (.reg false [⟨some 44, .build [(.int .i64 (0)), (.int .i64 (0)), (.int .i64 (0)), (.int .i64 (0)), (.slice none 0 0)] [], none, [], []⟩,
    ⟨none, .store 5 (.tmp 2) (.tmp 44), none, [2, 44], []⟩,
    ⟨some 3, .mv (.const (.int .i64 (22))), none, [], []⟩] [2, 3])
.ret)
(.seq (.reg false [⟨some 46, .foff 1 (.tmp 5), none, [5], []⟩,
    ⟨some 47, .load false 1 (.tmp 46), none, [46], []⟩,
    ⟨some 48, .len false (.tmp 47), none, [47], []⟩,
    ⟨some 49, .bin .neq (.tmp 48) (.const (.int .i64 (4))), none, [48], []⟩,
    ⟨some 50, .mv (.tmp 49), none, [49], []⟩,
    ⟨some 51, .foff 2 (.tmp 5), some (50, false), [5, 50], []⟩,
    ⟨some 52, .load false 1 (.tmp 51), some (50, false), [51, 50], []⟩,
    ⟨some 53, .len false (.tmp 52), some (50, false), [52, 50], []⟩,
    ⟨some 54, .bin .neq (.tmp 53) (.const (.int .i64 (1))), some (50, false), [53, 50], []⟩,
    ⟨some 55, .pick (.tmp 50) (.const (.bool true)) (.tmp 54), none, [50, 54], []⟩,
    ⟨some 45, .mv (.tmp 55), none, [55], []⟩] [0, 2, 4, 5, 45])
(.cond (.tmp 45)
(.seq (.reg false [⟨some 56, .build [(.int .i64 (0)), (.int .i64 (0)), (.int .i64 (0)), (.int .i64 (0)), (.slice none 0 0)] [], none, [], []⟩,
    ⟨none, .store 5 (.tmp 2) (.tmp 56), none, [2, 56], []⟩,
    ⟨some 3, .mv (.const (.int .i64 (3))), none, [], []⟩] [2, 3])
.ret)
.skip)))))))
(.seq (.reg true [⟨some 57, .foff 1 (.tmp 5), none, [5], []⟩,
    ⟨some 58, .load false 1 (.tmp 57), none, [57], [0]⟩,
    ⟨some 59, .idx 1 (.tmp 58) (.const (.int .i64 (0))), none, [58], [1, 0]⟩,
    ⟨some 60, .load false 1 (.tmp 59), none, [59], [2, 1, 0]⟩,
    ⟨some 61, .foff 1 (.tmp 5), none, [5], []⟩,
    ⟨some 62, .load false 1 (.tmp 61), none, [61], [4]⟩,
    ⟨some 63, .idx 1 (.tmp 62) (.const (.int .i64 (1))), none, [62], [5, 4]⟩,
    ⟨some 64, .load false 1 (.tmp 63), none, [63], [6, 5, 4]⟩,
    ⟨some 65, .foff 1 (.tmp 5), none, [5], []⟩,
    ⟨some 66, .load false 1 (.tmp 65), none, [65], [8]⟩,
    ⟨some 67, .idx 1 (.tmp 66) (.const (.int .i64 (2))), none, [66], [9, 8]⟩,
    ⟨some 68, .load false 1 (.tmp 67), none, [67], [10, 9, 8]⟩,
    ⟨some 69, .foff 1 (.tmp 5), none, [5], []⟩,
    ⟨some 70, .load false 1 (.tmp 69), none, [69], [12]⟩,
    ⟨some 71, .idx 1 (.tmp 70) (.const (.int .i64 (3))), none, [70], [13, 12]⟩,
    ⟨some 72, .load false 1 (.tmp 71), none, [71], [14, 13, 12]⟩,
    ⟨some 73, .foff 2 (.tmp 5), none, [5], []⟩,
    ⟨some 74, .load false 1 (.tmp 73), none, [73], [16]⟩,
    ⟨some 75, .idx 1 (.tmp 74) (.const (.int .i64 (0))), none, [74], [17, 16]⟩,
    ⟨some 76, .load false 1 (.tmp 75), none, [75], [18, 17, 16]⟩,
    ⟨some 77, .build [(.int .i64 (0)), (.int .i64 (0)), (.int .i64 (0)), (.int .i64 (0)), (.slice none 0 0)] [(0, 1, (.tmp 60)), (1, 1, (.tmp 64)), (2, 1, (.tmp 68)), (3, 1, (.tmp 72)), (4, 1, (.tmp 76))], none, [60, 64, 68, 72, 76], [3, 7, 11, 15, 19, 2, 1, 0, 6, 5, 4, 10, 9, 8, 14, 13, 12, 18, 17, 16]⟩,
    ⟨some 7, .new 24 [(.int .i64 (0)), (.int .i64 (0)), (.int .i64 (0)), (.int .i64 (0)), (.slice none 0 0)], none, [], []⟩,
    ⟨none, .store 5 (.tmp 7) (.tmp 77), none, [7, 77], [21, 20, 0, 1, 2, 3, 4, 5, 6, 7, 8, 9, 10, 11, 12, 13, 14, 15, 16, 17, 18, 19]⟩] [0, 2, 4, 7])
(.seq (.reg false [⟨some 78, .load true 5 (.tmp 7), none, [7], []⟩,
    ⟨some 79, .call 18 [(.tmp 78)], none, [78], []⟩,
    ⟨some 8, .mv (.tmp 79), none, [79], []⟩] [0, 2, 4, 7, 8])
(.seq (.seq (.reg false [⟨some 80, .mv (.tmp 8), none, [8], []⟩,
    ⟨some 81, .bin .neq (.tmp 80) (.const (.int .i64 (0))), none, [80], []⟩] [0, 2, 4, 7, 8, 81])
(.cond (.tmp 81)
(.seq (.reg false [⟨some 82, .build [(.int .i64 (0)), (.int .i64 (0)), (.int .i64 (0)), (.int .i64 (0)), (.slice none 0 0)] [], none, [], []⟩,
    ⟨some 83, .mv (.tmp 8), none, [8], []⟩,
    ⟨none, .store 5 (.tmp 2) (.tmp 82), none, [2, 82], []⟩,
    ⟨some 3, .mv (.tmp 83), none, [83], []⟩] [2, 3])
.ret)
.skip))
(.seq (.seq (.reg false [⟨some 84, .mv (.tmp 4), none, [4], []⟩,
    ⟨some 85, .bin .add (.const (.int .i64 (2))) (.tmp 84), none, [84], []⟩,
    ⟨some 9, .mv (.tmp 85), none, [85], []⟩] [0, 2, 7, 9])
(.block 1 (.loop (.seq (.seq (.reg false [⟨some 86, .mv (.tmp 9), none, [9], []⟩,
    ⟨some 87, .bin .lss (.tmp 86) (.const (.int .i64 (512))), none, [86], []⟩] [0, 2, 7, 9, 87])
(.cond (.tmp 87)
.skip
(.exit 1)))
(.seq (.block 2 (.seq (.reg false [⟨some 90, .mv (.tmp 0), none, [0], []⟩,
    ⟨some 91, .mv (.tmp 9), none, [9], []⟩,
    ⟨some 92, .idx 1 (.tmp 90) (.tmp 91), none, [90, 91], []⟩,
    ⟨some 93, .load false 1 (.tmp 92), none, [92], []⟩,
    ⟨some 94, .bin .neq (.tmp 93) (.const (.int .u8 (0))), none, [93], []⟩] [0, 2, 7, 9, 94])
(.cond (.tmp 94)
(.seq (.reg false [⟨some 95, .build [(.int .i64 (0)), (.int .i64 (0)), (.int .i64 (0)), (.int .i64 (0)), (.slice none 0 0)] [], none, [], []⟩,
    ⟨none, .store 5 (.tmp 2) (.tmp 95), none, [2, 95], []⟩,
    ⟨some 3, .mv (.const (.int .i64 (23))), none, [], []⟩] [2, 3])
.ret)
.skip)))
(.reg false [⟨some 88, .mv (.tmp 9), none, [9], []⟩,
    ⟨some 89, .bin .add (.tmp 88) (.const (.int .i64 (1))), none, [88], []⟩,
    ⟨some 9, .mv (.tmp 89), none, [89], []⟩] [0, 2, 7, 9]))))))
(.seq (.reg false [⟨some 96, .load true 5 (.tmp 7), none, [7], []⟩,
    ⟨none, .store 5 (.tmp 2) (.tmp 96), none, [2, 96], []⟩,
    ⟨some 3, .mv (.const (.int .i64 (0))), none, [], []⟩] [2, 3])
.ret)))))))))))
theorem ok_13 : FnOk Tryz.prog 13 97 ac_13 [.cell 2 true 5, .tmp 3] := ⟨Tryz.f13, Tryz.func13, by kernel_rfl, by kernel_rfl, by kernel_rfl, by kernel_rfl, by kernel_rfl⟩
def ac_39 : AC :=
(.seq (.reg false [⟨some 4, .mv (.const (.slice none 0 0)), none, [], []⟩] [0, 1])
(.seq (.seq (.reg false [⟨some 7, .mv (.tmp 0), none, [0], []⟩,
    ⟨some 8, .len false (.tmp 7), none, [7], []⟩,
    ⟨some 9, .bin .eql (.tmp 8) (.const (.int .i64 (0))), none, [8], []⟩] [0, 1, 9])
(.cond (.tmp 9)
(.seq (.reg false [⟨some 4, .mv (.const (.slice none 0 0)), none, [], []⟩] [4])
.ret)
.skip))
(.seq (.seq (.reg false [⟨some 10, .mv (.tmp 1), none, [1], []⟩,
    ⟨some 11, .bin .eql (.tmp 10) (.const (.string (ByteArray.mk #[]))), none, [10], []⟩] [0, 1, 11])
(.cond (.tmp 11)
(.seq (.reg false [⟨some 12, .mv (.tmp 0), none, [0], []⟩,
    ⟨some 4, .mv (.tmp 12), none, [12], []⟩] [4])
.ret)
.skip))
(.seq (.seq (.reg false [⟨some 13, .mv (.tmp 1), none, [1], []⟩,
    ⟨some 14, .len true (.tmp 13), none, [13], []⟩,
    ⟨some 15, .bin .eql (.tmp 14) (.const (.int .i64 (1))), none, [14], []⟩,
    ⟨some 16, .mv (.tmp 15), none, [15], []⟩,
    ⟨some 17, .mv (.tmp 1), some (16, true), [1, 16], []⟩,
    ⟨some 18, .sidx (.tmp 17) (.const (.int .i64 (0))), some (16, true), [17, 16], []⟩,
    ⟨some 19, .bin .lss (.tmp 18) (.const (.int .u8 (128))), some (16, true), [18, 16], []⟩,
    ⟨some 20, .pick (.tmp 16) (.tmp 19) (.const (.bool false)), none, [16, 19], []⟩] [0, 1, 20])
(.cond (.tmp 20)
(.seq (.reg true [⟨some 21, .mv (.tmp 0), none, [0], []⟩,
    ⟨some 22, .mv (.tmp 1), none, [1], []⟩,
    ⟨some 23, .sidx (.tmp 22) (.const (.int .i64 (0))), none, [22], [1]⟩,
    ⟨some 24, .call 69 [(.tmp 21), (.tmp 23)], none, [21, 23], [0, 2, 1]⟩,
    ⟨some 25, .mv (.tmp 1), none, [1], []⟩,
    ⟨some 26, .sidx (.tmp 25) (.const (.int .i64 (0))), none, [25], [4]⟩,
    ⟨some 27, .call 68 [(.tmp 24), (.tmp 26)], none, [24, 26], [3, 5, 0, 2, 1, 4]⟩,
    ⟨some 4, .mv (.tmp 27), none, [27], [6, 0, 1, 2, 3, 4, 5]⟩] [4])
.ret)
.skip))
(.seq (.seq (.reg false [⟨some 29, .mv (.tmp 1), none, [1], []⟩,
    ⟨some 30, .call 70 [(.tmp 29)], none, [29], []⟩,
    ⟨some 28, .mv (.tmp 30), none, [30], []⟩,
    ⟨some 31, .ext 0 (.tmp 28), none, [28], []⟩,
    ⟨some 32, .ext 1 (.tmp 28), none, [28], []⟩,
    ⟨some 5, .new 120 [(.bool false), (.bool false), (.bool false), (.bool false), (.bool false), (.bool false), (.bool false), (.bool false), (.bool false), (.bool false), (.bool false), (.bool false), (.bool false), (.bool false), (.bool false), (.bool false), (.bool false), (.bool false), (.bool false), (.bool false), (.bool false), (.bool false), (.bool false), (.bool false), (.bool false), (.bool false), (.bool false), (.bool false), (.bool false), (.bool false), (.bool false), (.bool false), (.bool false), (.bool false), (.bool false), (.bool false), (.bool false), (.bool false), (.bool false), (.bool false), (.bool false), (.bool false), (.bool false), (.bool false), (.bool false), (.bool false), (.bool false), (.bool false), (.bool false), (.bool false), (.bool false), (.bool false), (.bool false), (.bool false), (.bool false), (.bool false), (.bool false), (.bool false), (.bool false), (.bool false), (.bool false), (.bool false), (.bool false), (.bool false), (.bool false), (.bool false), (.bool false), (.bool false), (.bool false), (.bool false), (.bool false), (.bool false), (.bool false), (.bool false), (.bool false), (.bool false), (.bool false), (.bool false), (.bool false), (.bool false), (.bool false), (.bool false), (.bool false), (.bool false), (.bool false), (.bool false), (.bool false), (.bool false), (.bool false), (.bool false), (.bool false), (.bool false), (.bool false), (.bool false), (.bool false), (.bool false), (.bool false), (.bool false), (.bool false), (.bool false), (.bool false), (.bool false), (.bool false), (.bool false), (.bool false), (.bool false), (.bool false), (.bool false), (.bool false), (.bool false), (.bool false), (.bool false), (.bool false), (.bool false), (.bool false), (.bool false), (.bool false), (.bool false), (.bool false), (.bool false), (.bool false), (.bool false), (.bool false), (.bool false), (.bool false), (.bool false), (.bool false), (.bool false), (.bool false), (.bool false), (.bool false), (.bool false), (.bool false), (.bool false), (.bool false), (.bool false), (.bool false), (.bool false), (.bool false), (.bool false), (.bool false), (.bool false), (.bool false), (.bool false), (.bool false), (.bool false), (.bool false), (.bool false), (.bool false), (.bool false), (.bool false), (.bool false), (.bool false), (.bool false), (.bool false), (.bool false), (.bool false), (.bool false), (.bool false), (.bool false), (.bool false), (.bool false), (.bool false), (.bool false), (.bool false), (.bool false), (.bool false), (.bool false), (.bool false), (.bool false), (.bool false), (.bool false), (.bool false), (.bool false), (.bool false), (.bool false), (.bool false), (.bool false), (.bool false), (.bool false), (.bool false), (.bool false), (.bool false), (.bool false), (.bool false), (.bool false), (.bool false), (.bool false), (.bool false), (.bool false), (.bool false), (.bool false), (.bool false), (.bool false), (.bool false), (.bool false), (.bool false), (.bool false), (.bool false), (.bool false), (.bool false), (.bool false), (.bool false), (.bool false), (.bool false), (.bool false), (.bool false), (.bool false), (.bool false), (.bool false), (.bool false), (.bool false), (.bool false), (.bool false), (.bool false), (.bool false), (.bool false), (.bool false), (.bool false), (.bool false), (.bool false), (.bool false), (.bool false), (.bool false), (.bool false), (.bool false), (.bool false), (.bool false), (.bool false), (.bool false), (.bool false), (.bool false), (.bool false), (.bool false), (.bool false), (.bool false), (.bool false), (.bool false), (.bool false), (.bool false), (.bool false), (.bool false), (.bool false), (.bool false), (.bool false), (.bool false), (.bool false), (.bool false), (.bool false), (.bool false), (.bool false), (.bool false), (.bool false), (.bool false), (.bool false), (.bool false)], none, [], []⟩,
    ⟨none, .store 256 (.tmp 5) (.tmp 31), none, [5, 31], []⟩,
    ⟨some 6, .mv (.tmp 32), none, [32], []⟩] [0, 1, 5, 6])
(.seq (.reg false [⟨some 33, .mv (.tmp 6), none, [6], []⟩] [0, 1, 5, 33])
(.cond (.tmp 33)
(.seq (.reg false [⟨some 34, .mv (.tmp 0), none, [0], []⟩,
    ⟨some 35, .call 72 [(.tmp 34), (.tmp 5)], none, [34, 5], []⟩,
    ⟨some 36, .call 71 [(.tmp 35), (.tmp 5)], none, [35, 5], []⟩,
    ⟨some 4, .mv (.tmp 36), none, [36], []⟩] [4])
.ret)
.skip)))
(.seq (.reg false [⟨some 37, .mv (.tmp 0), none, [0], []⟩,
    ⟨some 38, .mv (.tmp 1), none, [1], []⟩,
    ⟨some 39, .call 74 [(.tmp 37), (.tmp 38)], none, [37, 38], []⟩,
    ⟨some 40, .mv (.tmp 1), none, [1], []⟩,
    ⟨some 41, .call 73 [(.tmp 39), (.tmp 40)], none, [39, 40], []⟩,
    ⟨some 4, .mv (.tmp 41), none, [41], []⟩] [4])
.ret))))))
theorem ok_39 : FnOk Tryz.prog 39 42 ac_39 [.tmp 4] := ⟨Tryz.f39, Tryz.func39, by kernel_rfl, by kernel_rfl, by kernel_rfl, by kernel_rfl, by kernel_rfl⟩
def ac_68 : AC :=
(.seq (.reg false [⟨some 4, .mv (.const (.slice none 0 0)), none, [], []⟩] [0, 1])
(.seq (.block 0 (.loop (.seq (.seq (.reg false [⟨some 5, .mv (.tmp 0), none, [0], []⟩,
    ⟨some 6, .len false (.tmp 5), none, [5], []⟩,
    ⟨some 7, .bin .gtr (.tmp 6) (.const (.int .i64 (0))), none, [6], []⟩,
    ⟨some 8, .mv (.tmp 7), none, [7], []⟩,
    ⟨some 9, .mv (.tmp 0), some (8, true), [0, 8], []⟩,
    ⟨some 10, .idx 1 (.tmp 9) (.const (.int .i64 (0))), some (8, true), [9, 8], []⟩,
    ⟨some 11, .load false 1 (.tmp 10), some (8, true), [10, 8], []⟩,
    ⟨some 12, .mv (.tmp 1), some (8, true), [1, 8], []⟩,
    ⟨some 13, .bin .eql (.tmp 11) (.tmp 12), some (8, true), [11, 12, 8], []⟩,
    ⟨some 14, .pick (.tmp 8) (.tmp 13) (.const (.bool false)), none, [8, 13], []⟩] [0, 1, 14])
(.cond (.tmp 14)
.skip
(.exit 0)))
(.block 1 (.reg false [⟨some 15, .mv (.tmp 0), none, [0], []⟩,
    ⟨some 16, .slice 1 (.tmp 15) (some (.const (.int .i64 (1)))) none, none, [15], []⟩,
    ⟨some 0, .mv (.tmp 16), none, [16], []⟩] [0, 1])))))
(.seq (.seq (.reg false [⟨some 17, .mv (.tmp 0), none, [0], []⟩,
    ⟨some 18, .len false (.tmp 17), none, [17], []⟩,
    ⟨some 19, .bin .eql (.tmp 18) (.const (.int .i64 (0))), none, [18], []⟩] [0, 19])
(.cond (.tmp 19)
(.seq (.reg false [⟨some 4, .mv (.const (.slice none 0 0)), none, [], []⟩] [4])
.ret)
.skip))
(.seq (.reg false [⟨some 20, .mv (.tmp 0), none, [0], []⟩,
    ⟨some 4, .mv (.tmp 20), none, [20], []⟩] [4])
.ret))))
theorem ok_68 : FnOk Tryz.prog 68 21 ac_68 [.tmp 4] := ⟨Tryz.f68, Tryz.func68, by kernel_rfl, by kernel_rfl, by kernel_rfl, by kernel_rfl, by kernel_rfl⟩
def ac_69 : AC :=
(.seq (.reg false [⟨some 4, .mv (.const (.slice none 0 0)), none, [], []⟩] [0, 1])
(.seq (.block 0 (.loop (.seq (.seq (.reg false [⟨some 5, .mv (.tmp 0), none, [0], []⟩,
    ⟨some 6, .len false (.tmp 5), none, [5], []⟩,
    ⟨some 7, .bin .gtr (.tmp 6) (.const (.int .i64 (0))), none, [6], []⟩,
    ⟨some 8, .mv (.tmp 7), none, [7], []⟩,
    ⟨some 9, .mv (.tmp 0), some (8, true), [0, 8], []⟩,
    ⟨some 10, .mv (.tmp 0), some (8, true), [0, 8], []⟩,
    ⟨some 11, .len false (.tmp 10), some (8, true), [10, 8], []⟩,
    ⟨some 12, .bin .sub (.tmp 11) (.const (.int .i64 (1))), some (8, true), [11, 8], []⟩,
    ⟨some 13, .idx 1 (.tmp 9) (.tmp 12), some (8, true), [9, 12, 8], []⟩,
    ⟨some 14, .load false 1 (.tmp 13), some (8, true), [13, 8], []⟩,
    ⟨some 15, .mv (.tmp 1), some (8, true), [1, 8], []⟩,
    ⟨some 16, .bin .eql (.tmp 14) (.tmp 15), some (8, true), [14, 15, 8], []⟩,
    ⟨some 17, .pick (.tmp 8) (.tmp 16) (.const (.bool false)), none, [8, 16], []⟩] [0, 1, 17])
(.cond (.tmp 17)
.skip
(.exit 0)))
(.block 1 (.reg false [⟨some 18, .mv (.tmp 0), none, [0], []⟩,
    ⟨some 19, .mv (.tmp 0), none, [0], []⟩,
    ⟨some 20, .len false (.tmp 19), none, [19], []⟩,
    ⟨some 21, .bin .sub (.tmp 20) (.const (.int .i64 (1))), none, [20], []⟩,
    ⟨some 22, .slice 1 (.tmp 18) none (some (.tmp 21)), none, [18, 21], []⟩,
    ⟨some 0, .mv (.tmp 22), none, [22], []⟩] [0, 1])))))
(.seq (.reg false [⟨some 23, .mv (.tmp 0), none, [0], []⟩,
    ⟨some 4, .mv (.tmp 23), none, [23], []⟩] [4])
.ret)))
theorem ok_69 : FnOk Tryz.prog 69 24 ac_69 [.tmp 4] := ⟨Tryz.f69, Tryz.func69, by kernel_rfl, by kernel_rfl, by kernel_rfl, by kernel_rfl, by kernel_rfl⟩
end Go.Proofs.YtdenddhdeloceaaGreatDoor
/- Contracts: the scanner: take, octet. -/
namespace Go.Proofs.YtdenddhdeloceaaGreatDoor
open Go.RowKit
set_option maxRecDepth 100000
/-- an error of octets, or none -/
def errV (e : Int) : AV := if e = 0 then .v .nilIface else .ifc 153 (.agg [.v (.int .i64 e)])
theorem errV_0 : errV 0 = .v .nilIface := rfl
theorem errV_ne {e : Int} (h : e ≠ 0) : errV e = .ifc 153 (.agg [.v (.int .i64 e)]) := if_neg h
theorem al_errV {p : Nat → Prop} (e : Int) : Al p (errV e) := by
  unfold errV; split
  · trivial
  · exact ⟨trivial, trivial⟩
abbrev scRow (y fr : Bool) (l : List Int) : AObj := .row y 115 [fB fr l]
theorem take_ok (y fr : Bool) (l : List Int) (n : Nat) (id nb : Nat) (hid : id < nb) (h : n ≤ l.length) :
    ASound Tryz.prog 113 [.op id 0, .v (.int .i64 n)] nb (rowM id (scRow y fr l) (.ret (.tup [fB fr (l.take n), .v .nilIface]) [(id, some (scRow y fr (l.drop n)))])) := by
  refine ok_113.soundR (by simp) ⟨rfl, trivial, trivial⟩ (by simp) ⟨al_B l, trivial⟩ ⟨al_B _, trivial⟩ rfl hid ?_
  have e1 : ¬ ((l.length : Int) < (n : Int)) := by omega
  have e2 : ((0 : Int) ≤ (n : Int) ∧ (n : Int) ≤ (l.length : Int)) = True := eq_true ⟨by omega, by omega⟩
  have e3 : ((0 : Int) ≤ (n : Int)) := by omega
  have e4 : ((n : Int) ≤ (l.length : Int)) := by omega
  have c1 : (l.take n).length = n := List.length_take_of_le h
  have c2 : (l.drop n).length = l.length - n := List.length_drop
  have d1 : (l.drop n).take (l.length - n) = l.drop n := List.take_of_length_le (by rw [c2]; exact Nat.le_refl _)
  simp only [ac_113, renL, ren, e1, e2, e3, e4, Nat.sub_zero, take_B, drop_B, tk_B, d1, TT, ↓reduceIte, Nat.reduceEqDiff, Nat.reduceAdd, Nat.reduceMul, reduceCtorEq, Nat.reduceLeDiff]
  exact EndsR.data (.inr rfl) (by simp [ET, c1]) ⟨al_B _, trivial, trivial⟩ (by simp [ET, c2])
theorem take_short (y fr : Bool) (l : List Int) (n : Nat) (id nb : Nat) (hid : id < nb) (h : l.length < n) :
    ASound Tryz.prog 113 [.op id 0, .v (.int .i64 n)] nb (rowM id (scRow y fr l) (.ret (.tup [fB true [], errV 8]) [(id, some (scRow y fr l))])) := by
  refine ok_113.soundR (by simp) ⟨rfl, trivial, trivial⟩ (by simp) ⟨al_B l, trivial⟩ ⟨al_B _, trivial⟩ rfl hid ?_
  have e1 : ((l.length : Int) < (n : Int)) := by omega
  simp only [ac_113, renL, ren, e1, TT, ↓reduceIte, Nat.reduceEqDiff, Nat.reduceAdd, Nat.reduceMul, reduceCtorEq, Nat.reduceLeDiff]
  exact EndsR.imp (r0 := .tup [.v (.slice none 0 0), errV 8]) (.inr rfl) (by simp [ET, errV]) ⟨trivial, al_errV 8, trivial⟩ (Imp.tupL ⟨Imp.nil true, Imp.refl _, trivial⟩) (by simp [ET])
theorem octet_spec (y fr : Bool) (l : List Int) (id nb : Nat) (hid : id < nb) (hb : okB l) :
    ASound Tryz.prog 96 [.op id 0] nb (rowM id (scRow y fr l) (.ret (.tup [.v (.int .i64 (scOct l).1), errV (scOct l).2.1]) [(id, some (scRow y fr (scOct l).2.2))])) := by
  refine ok_96.soundR (by simp) ⟨rfl, trivial⟩ (by simp) ⟨al_B l, trivial⟩ ⟨al_B _, trivial⟩ rfl hid ?_
  cases l with
  | nil =>
    simp only [ac_96, renL, ren, TT, ↓reduceIte, Nat.reduceEqDiff, Nat.reduceAdd, Nat.reduceMul, reduceCtorEq, Nat.reduceLeDiff]
    have h := fun nb h => take_short y fr [] 1 0 nb h (by decide)
    simp only [scRow, fB, List.length_cons, List.length_nil, List.drop_succ_cons, List.drop_zero, List.drop_nil, List.take_succ_cons, List.take_zero, Nat.zero_add] at h
    refine ⟨_, h _ (by decide), ?_⟩
    simp only [errV_ne (show (8 : Int) ≠ 0 by decide), TT, ↓reduceIte, Nat.reduceEqDiff, Nat.reduceAdd, Nat.reduceMul, reduceCtorEq, Nat.reduceLeDiff]
    exact EndsR.data (r := .tup [.v (.int .i64 0), errV 8]) (.inr rfl) (by simp [ET, errV]) ⟨trivial, al_errV 8, trivial⟩ (by simp [ET, scOct, eB])
  | cons x r =>
    have hx := hb x (by simp)
    have w1 : IntKind.i64.wrap x = x := wrap64 (by omega)
    simp only [ac_96, renL, ren, TT, ↓reduceIte, Nat.reduceEqDiff, Nat.reduceAdd, Nat.reduceMul, reduceCtorEq, Nat.reduceLeDiff]
    have h := fun nb h => take_ok y fr (x :: r) 1 0 nb h (by simp)
    simp only [scRow, fB, List.length_cons, List.length_nil, List.drop_succ_cons, List.drop_zero, List.drop_nil, List.take_succ_cons, List.take_zero, Nat.zero_add] at h
    refine ⟨_, h _ (by decide), ?_⟩
    have g0 : (eB [x])[Int.toNat 0]? = some (.v (.int .u8 x)) := rfl
    have g1 : ((0 : Int) ≤ 0 ∧ (0 : Int) < ((1 : Nat) : Int)) = True := eq_true ⟨by decide, by decide⟩
    simp only [List.drop_succ_cons, g0, g1, w1, TT, ↓reduceIte, Nat.reduceEqDiff, Nat.reduceAdd, Nat.reduceMul, reduceCtorEq, Nat.reduceLeDiff]
    exact EndsR.data (r := .tup [.v (.int .i64 x), errV 0]) (.inr rfl) (by simp [ET, errV]) ⟨trivial, al_errV 0, trivial⟩ (by simp [ET, scOct, eB])
end Go.Proofs.YtdenddhdeloceaaGreatDoor
/- Contracts: the scanner: a number in groups. -/
namespace Go.Proofs.YtdenddhdeloceaaGreatDoor
open Go.RowKit
set_option maxRecDepth 100000
theorem sc_and {x : Int} (h : 0 ≤ x ∧ x < 256) : IntKind.i64.wrap ((BitVec.ofInt IntKind.i64.bits x &&& BitVec.ofInt IntKind.i64.bits 127).toNat : Int) = ((x % 128).toNat : Int) := by
  have h1 : (BitVec.ofInt IntKind.i64.bits x &&& BitVec.ofInt IntKind.i64.bits 127).toNat = (x % 128).toNat := by
    show (BitVec.ofInt 64 x &&& BitVec.ofInt 64 127).toNat = _
    rw [BitVec.toNat_and, ofInt64, ofInt64]
    rw [show ((127 : Int) % 18446744073709551616).toNat = 127 from rfl, and127]
    omega
  rw [h1, wrap64 (by omega)]
theorem sc_shl {m k : Nat} (hm : m * 2 ^ (7 * k) < 2 ^ 64) (hk : k ≤ 9) : shVal .shl .u64 (m : Int) (7 * (k : Int)) = some (.int .u64 ((m * 2 ^ (7 * k) : Nat) : Int)) := by
  simp only [shVal, if_neg (show ¬ (7 * (k : Int) < 0) by omega)]
  have e1 : min (7 * (k : Int)).toNat IntKind.u64.bits = 7 * k := by
    show min (7 * (k : Int)).toNat 64 = 7 * k
    omega
  congr 2
  show IntKind.u64.wrap ((m : Int) * 2 ^ min (7 * (k : Int)).toNat IntKind.u64.bits) = _
  rw [e1, u64_mod]
  have e2 : ((m : Int) * 2 ^ (7 * k)) = ((m * 2 ^ (7 * k) : Nat) : Int) := by push_cast; rfl
  have e3 : (2 : Nat) ^ 64 = 18446744073709551616 := by decide
  rw [e2]
  omega
theorem sc_or {a m k : Nat} (ha : a < 2 ^ (7 * k)) (hs : a + m * 2 ^ (7 * k) < 2 ^ 64) : IntKind.u64.wrap ((BitVec.ofInt IntKind.u64.bits (a : Int) ||| BitVec.ofInt IntKind.u64.bits ((m * 2 ^ (7 * k) : Nat) : Int)).toNat : Int) = ((a + m * 2 ^ (7 * k) : Nat) : Int) := by
  have e3 : (2 : Nat) ^ 64 = 18446744073709551616 := by decide
  have h1 : (BitVec.ofInt IntKind.u64.bits (a : Int) ||| BitVec.ofInt IntKind.u64.bits ((m * 2 ^ (7 * k) : Nat) : Int)).toNat = a + m * 2 ^ (7 * k) := by
    show (BitVec.ofInt 64 (a : Int) ||| BitVec.ofInt 64 ((m * 2 ^ (7 * k) : Nat) : Int)).toNat = _
    rw [BitVec.toNat_or, ofInt64, ofInt64]
    rw [show ((a : Int) % 18446744073709551616).toNat = a from by omega, show (((m * 2 ^ (7 * k) : Nat) : Int) % 18446744073709551616).toNat = m * 2 ^ (7 * k) from by omega]
    rw [Nat.or_comm, ← Nat.shiftLeft_eq, ← Nat.shiftLeft_add_eq_or_of_lt ha, Nat.add_comm]
  rw [h1, u64_mod]; omega
abbrev L_sg (y fr : Bool) (q : Nat × Nat × List Int) : ASt := ⟨envOf [(0, .op 0 0), (4, .v (.int .u64 q.2.1)), (5, .v (.int .i64 (7 * (q.1 : Int))))], heapOf [(0, scRow y fr q.2.2)], 1⟩
set_option maxHeartbeats 4000000 in
theorem scgroups_spec (y fr : Bool) (l : List Int) (id nb : Nat) (hid : id < nb) (hb : okB l) :
    ASound Tryz.prog 115 [.op id 0] nb (rowM id (scRow y fr l) (.ret (.tup [.v (.int .u64 (scGrp 0 0 l).1), errV (scGrp 0 0 l).2.1]) [(id, some (scRow y fr (scGrp 0 0 l).2.2))])) := by
  refine ok_115.soundR (by simp) ⟨rfl, trivial⟩ (by simp) ⟨al_B l, trivial⟩ ⟨al_B _, trivial⟩ rfl hid ?_
  simp only [ac_115, renL, ren, TT, ↓reduceIte, Nat.reduceEqDiff, Nat.reduceAdd, Nat.reduceMul, reduceCtorEq, Nat.reduceLeDiff]
  refine AWc.family (L_sg y fr) (fun q => scGrp q.1 q.2.1 q.2.2 = scGrp 0 0 l ∧ q.2.1 < 2 ^ (7 * q.1) ∧ q.1 ≤ 9 ∧ okB q.2.2) (fun q => q.2.2.length) (0, 0, l) ⟨rfl, by simp, by simp, hb⟩ ?_ ?_
  · refine Weak.calc [(0, 0)] (by decide) ?_ ?_ <;> simp [WT]
  · rintro ⟨k, a, s⟩ ⟨he, ha, hk, hs⟩
    simp only at he ha hk hs
    rw [← he]
    cases s with
    | nil =>
      have h := fun nb h => octet_spec y fr [] 0 nb h hs
      simp only [scRow, scOct, fB, List.length_cons, List.length_nil] at h
      simp only [L_sg, scRow, TT, ↓reduceIte, Nat.reduceEqDiff, Nat.reduceAdd, Nat.reduceMul, reduceCtorEq, Nat.reduceLeDiff]
      refine ⟨_, h _ (by omega), ?_⟩
      simp only [errV_ne (show (8 : Int) ≠ 0 by decide), TT, ↓reduceIte, Nat.reduceEqDiff, Nat.reduceAdd, Nat.reduceMul, reduceCtorEq, Nat.reduceLeDiff]
      exact EndsR.data (r := .tup [.v (.int .u64 0), errV 8]) (.inr rfl) (by simp [ET, errV]) ⟨trivial, al_errV 8, trivial⟩ (by simp [ET, scGrp, eB])
    | cons x r =>
      have hx := hs x (by simp)
      have hr : okB r := fun z hz => hs z (by simp [hz])
      have h := fun nb h => octet_spec y fr (x :: r) 0 nb h hs
      simp only [scRow, scOct, fB, List.length_cons, List.length_nil] at h
      have e3 : (2 : Nat) ^ 64 = 18446744073709551616 := by decide
      have hm : (x % 128).toNat ≤ 127 := by omega
      have hp : 0 < 2 ^ (7 * k) := Nat.pow_pos (by decide)
      have sd : ∀ h3 : a + (x % 128).toNat * 2 ^ (7 * k) < 2 ^ 64, (x % 128).toNat * 2 ^ (7 * k) < 2 ^ 64 := fun h3 => by omega
      have w7 : IntKind.i64.wrap (7 * (k : Int) + 7) = 7 * ((k + 1 : Nat) : Int) := by rw [wrap64 (by omega)]; omega
      have wu : IntKind.u64.wrap ((x % 128).toNat : Int) = ((x % 128).toNat : Int) := by rw [u64_mod]; omega
      by_cases hbad : (k = 9 ∧ 1 < x) ∨ (0 < k ∧ x = 0)
      · have hg : scGrp k a (x :: r) = (0, 4, r) := by rw [scGrp, if_pos hbad]
        rw [hg]
        by_cases k9 : k = 9
        · have f9 : (7 * (k : Int)) = 63 := by omega
          by_cases x1 : 1 < x
          · simp only [L_sg, scRow, TT, ↓reduceIte, Nat.reduceEqDiff, Nat.reduceAdd, Nat.reduceMul, reduceCtorEq, Nat.reduceLeDiff]
            refine ⟨_, h _ (by omega), ?_⟩
            simp only [errV_0, f9, x1, not_false_eq_true, TT, ↓reduceIte, Nat.reduceEqDiff, Nat.reduceAdd, Nat.reduceMul, reduceCtorEq, Nat.reduceLeDiff]
            exact EndsR.data (r := .tup [.v (.int .u64 0), errV 4]) (.inr rfl) (by simp [ET, errV]) ⟨trivial, al_errV 4, trivial⟩ (by simp [ET, eB])
          · have x0 : x = 0 := by omega
            subst x0
            have f0 : ((0 : Int) < 63) := by decide
            simp only [L_sg, scRow, TT, ↓reduceIte, Nat.reduceEqDiff, Nat.reduceAdd, Nat.reduceMul, reduceCtorEq, Nat.reduceLeDiff]
            refine ⟨_, h _ (by omega), ?_⟩
            simp only [errV_0, f9, x1, f0, not_false_eq_true, TT, ↓reduceIte, Nat.reduceEqDiff, Nat.reduceAdd, Nat.reduceMul, reduceCtorEq, Nat.reduceLeDiff]
            exact EndsR.data (r := .tup [.v (.int .u64 0), errV 4]) (.inr rfl) (by simp [ET, errV]) ⟨trivial, al_errV 4, trivial⟩ (by simp [ET, eB])
        · have f9 : ¬ (7 * (k : Int)) = 63 := by omega
          have x0 : x = 0 := by omega
          subst x0
          have f0 : ((0 : Int) < 7 * (k : Int)) := by omega
          simp only [L_sg, scRow, TT, ↓reduceIte, Nat.reduceEqDiff, Nat.reduceAdd, Nat.reduceMul, reduceCtorEq, Nat.reduceLeDiff]
          refine ⟨_, h _ (by omega), ?_⟩
          simp only [errV_0, f9, f0, not_false_eq_true, TT, ↓reduceIte, Nat.reduceEqDiff, Nat.reduceAdd, Nat.reduceMul, reduceCtorEq, Nat.reduceLeDiff]
          exact EndsR.data (r := .tup [.v (.int .u64 0), errV 4]) (.inr rfl) (by simp [ET, errV]) ⟨trivial, al_errV 4, trivial⟩ (by simp [ET, eB])
      · have hsum : a + (x % 128).toNat * 2 ^ (7 * k) < 2 ^ 64 := by
          by_cases k9 : k = 9
          · subst k9
            have h3 : (x % 128).toNat * 2 ^ (7 * 9) ≤ 1 * 2 ^ (7 * 9) := Nat.mul_le_mul_right _ (by omega)
            have e1 : (2 : Nat) ^ (7 * 9) = 9223372036854775808 := by decide
            rw [e1] at h3 ha ⊢; omega
          · have h3 : (x % 128).toNat * 2 ^ (7 * k) ≤ 127 * 2 ^ (7 * k) := Nat.mul_le_mul_right _ hm
            have h4 : 2 ^ (7 * k) ≤ 2 ^ 56 := Nat.pow_le_pow_right (by decide) (by omega)
            have e1 : (2 : Nat) ^ 56 = 72057594037927936 := by decide
            rw [e1] at h4; omega
        have ss := sc_shl (m := (x % 128).toNat) (sd hsum) hk
        have so := sc_or ha hsum
        have sa := sc_and hx
        by_cases k9 : k = 9
        · have f9 : (7 * (k : Int)) = 63 := by omega
          have x1 : ¬ 1 < x := by omega
          have x0 : ¬ x = 0 := by omega
          have f0 : ((0 : Int) < 63) := by decide
          have hlt : x < 128 := by omega
          have hg : scGrp k a (x :: r) = (a + (x % 128).toNat * 2 ^ (7 * k), 0, r) := by rw [scGrp, if_neg hbad, if_pos hlt]
          rw [hg]
          rw [f9] at ss
          simp only [L_sg, scRow, TT, ↓reduceIte, Nat.reduceEqDiff, Nat.reduceAdd, Nat.reduceMul, reduceCtorEq, Nat.reduceLeDiff]
          refine ⟨_, h _ (by omega), ?_⟩
          simp only [errV_0, f9, x1, x0, f0, hlt, sa, wu, ss, so, not_false_eq_true, TT, ↓reduceIte, Nat.reduceEqDiff, Nat.reduceAdd, Nat.reduceMul, reduceCtorEq, Nat.reduceLeDiff]
          exact EndsR.data (r := .tup [.v (.int .u64 (a + (x % 128).toNat * 2 ^ (7 * k) : Nat)), errV 0]) (.inr rfl) (by simp [ET, errV]) ⟨trivial, al_errV 0, trivial⟩ (by simp [ET, eB])
        · have f9 : ¬ (7 * (k : Int)) = 63 := by omega
          by_cases k0 : k = 0
          · have f0 : ¬ ((0 : Int) < 7 * (k : Int)) := by omega
            by_cases hlt : x < 128
            · have hg : scGrp k a (x :: r) = (a + (x % 128).toNat * 2 ^ (7 * k), 0, r) := by rw [scGrp, if_neg hbad, if_pos hlt]
              rw [hg]
              simp only [L_sg, scRow, TT, ↓reduceIte, Nat.reduceEqDiff, Nat.reduceAdd, Nat.reduceMul, reduceCtorEq, Nat.reduceLeDiff]
              refine ⟨_, h _ (by omega), ?_⟩
              simp only [errV_0, f9, f0, hlt, sa, wu, ss, so, not_false_eq_true, TT, ↓reduceIte, Nat.reduceEqDiff, Nat.reduceAdd, Nat.reduceMul, reduceCtorEq, Nat.reduceLeDiff]
              exact EndsR.data (r := .tup [.v (.int .u64 (a + (x % 128).toNat * 2 ^ (7 * k) : Nat)), errV 0]) (.inr rfl) (by simp [ET, errV]) ⟨trivial, al_errV 0, trivial⟩ (by simp [ET, eB])
            · have hg : scGrp k a (x :: r) = scGrp (k + 1) (a + (x % 128).toNat * 2 ^ (7 * k)) r := by rw [scGrp, if_neg hbad, if_neg hlt]
              have ha2 : a + (x % 128).toNat * 2 ^ (7 * k) < 2 ^ (7 * (k + 1)) := by
                have h3 : (x % 128).toNat * 2 ^ (7 * k) ≤ 127 * 2 ^ (7 * k) := Nat.mul_le_mul_right _ hm
                rw [show 7 * (k + 1) = 7 * k + 7 from by omega, Nat.pow_add]
                omega
              simp only [L_sg, scRow, TT, ↓reduceIte, Nat.reduceEqDiff, Nat.reduceAdd, Nat.reduceMul, reduceCtorEq, Nat.reduceLeDiff]
              refine ⟨_, h _ (by omega), ?_⟩
              simp only [errV_0, f9, f0, hlt, sa, wu, ss, so, w7, not_false_eq_true, TT, ↓reduceIte, Nat.reduceEqDiff, Nat.reduceAdd, Nat.reduceMul, reduceCtorEq, Nat.reduceLeDiff]
              refine famC_next (k + 1, a + (x % 128).toNat * 2 ^ (7 * k), r) (by simp) ⟨?_, ha2, by simp only; omega, hr⟩ ?_
              · simp only; rw [← hg, he]
              · refine Weak.calc [(0, 0)] (by decide) ?_ ?_ <;> simp [WT]
          · have f0 : ((0 : Int) < 7 * (k : Int)) := by omega
            have x0 : ¬ x = 0 := by omega
            by_cases hlt : x < 128
            · have hg : scGrp k a (x :: r) = (a + (x % 128).toNat * 2 ^ (7 * k), 0, r) := by rw [scGrp, if_neg hbad, if_pos hlt]
              rw [hg]
              simp only [L_sg, scRow, TT, ↓reduceIte, Nat.reduceEqDiff, Nat.reduceAdd, Nat.reduceMul, reduceCtorEq, Nat.reduceLeDiff]
              refine ⟨_, h _ (by omega), ?_⟩
              simp only [errV_0, f9, f0, x0, hlt, sa, wu, ss, so, not_false_eq_true, TT, ↓reduceIte, Nat.reduceEqDiff, Nat.reduceAdd, Nat.reduceMul, reduceCtorEq, Nat.reduceLeDiff]
              exact EndsR.data (r := .tup [.v (.int .u64 (a + (x % 128).toNat * 2 ^ (7 * k) : Nat)), errV 0]) (.inr rfl) (by simp [ET, errV]) ⟨trivial, al_errV 0, trivial⟩ (by simp [ET, eB])
            · have hg : scGrp k a (x :: r) = scGrp (k + 1) (a + (x % 128).toNat * 2 ^ (7 * k)) r := by rw [scGrp, if_neg hbad, if_neg hlt]
              have ha2 : a + (x % 128).toNat * 2 ^ (7 * k) < 2 ^ (7 * (k + 1)) := by
                have h3 : (x % 128).toNat * 2 ^ (7 * k) ≤ 127 * 2 ^ (7 * k) := Nat.mul_le_mul_right _ hm
                rw [show 7 * (k + 1) = 7 * k + 7 from by omega, Nat.pow_add]
                omega
              simp only [L_sg, scRow, TT, ↓reduceIte, Nat.reduceEqDiff, Nat.reduceAdd, Nat.reduceMul, reduceCtorEq, Nat.reduceLeDiff]
              refine ⟨_, h _ (by omega), ?_⟩
              simp only [errV_0, f9, f0, x0, hlt, sa, wu, ss, so, w7, not_false_eq_true, TT, ↓reduceIte, Nat.reduceEqDiff, Nat.reduceAdd, Nat.reduceMul, reduceCtorEq, Nat.reduceLeDiff]
              refine famC_next (k + 1, a + (x % 128).toNat * 2 ^ (7 * k), r) (by simp) ⟨?_, ha2, by simp only; omega, hr⟩ ?_
              · simp only; rw [← hg, he]
              · refine Weak.calc [(0, 0)] (by decide) ?_ ?_ <;> simp [WT]
end Go.Proofs.YtdenddhdeloceaaGreatDoor
/- Contracts: the scanner: count, text. -/
namespace Go.Proofs.YtdenddhdeloceaaGreatDoor
open Go.RowKit
set_option maxRecDepth 100000
theorem count_spec (y fr : Bool) (l : List Int) (id nb : Nat) (hid : id < nb) (hb : okB l) :
    ASound Tryz.prog 114 [.op id 0, .v (.int .i64 64)] nb (rowM id (scRow y fr l) (.ret (.tup [.v (.int .i64 (scCnt l).1), errV (scCnt l).2.1]) [(id, some (scRow y fr (scCnt l).2.2))])) := by
  refine ok_114.soundR (by simp) ⟨rfl, trivial, trivial⟩ (by simp) ⟨al_B l, trivial⟩ ⟨al_B _, trivial⟩ rfl hid ?_
  have h := fun nb h => octet_spec y fr l 0 nb h hb
  simp only [scRow, fB] at h
  simp only [ac_114, renL, ren, scRow, TT, ↓reduceIte, Nat.reduceEqDiff, Nat.reduceAdd, Nat.reduceMul, reduceCtorEq, Nat.reduceLeDiff]
  refine ⟨_, h _ (by decide), ?_⟩
  cases l with
  | nil =>
    simp only [scOct, errV_ne (show (8 : Int) ≠ 0 by decide), TT, ↓reduceIte, Nat.reduceEqDiff, Nat.reduceAdd, Nat.reduceMul, reduceCtorEq, Nat.reduceLeDiff]
    exact EndsR.data (r := .tup [.v (.int .i64 0), errV 8]) (.inr rfl) (by simp [ET, errV]) ⟨trivial, al_errV 8, trivial⟩ (by simp [ET, scCnt, scOct, eB])
  | cons x r =>
    by_cases h6 : 64 < x
    · have hg : scCnt (x :: r) = (x, 3, r) := by simp [scCnt, scOct, h6]
      rw [hg]
      simp only [scOct, errV_0, h6, TT, ↓reduceIte, Nat.reduceEqDiff, Nat.reduceAdd, Nat.reduceMul, reduceCtorEq, Nat.reduceLeDiff]
      exact EndsR.data (r := .tup [.v (.int .i64 x), errV 3]) (.inr rfl) (by simp [ET, errV]) ⟨trivial, al_errV 3, trivial⟩ (by simp [ET, eB])
    · have hg : scCnt (x :: r) = (x, 0, r) := by simp [scCnt, scOct, h6]
      rw [hg]
      simp only [scOct, errV_0, h6, TT, ↓reduceIte, Nat.reduceEqDiff, Nat.reduceAdd, Nat.reduceMul, reduceCtorEq, Nat.reduceLeDiff]
      exact EndsR.data (r := .tup [.v (.int .i64 x), errV 0]) (.inr rfl) (by simp [ET, errV]) ⟨trivial, al_errV 0, trivial⟩ (by simp [ET, eB])
theorem okB_sc {l r : List Int} (hb : okB l) (h : ∃ n, r = l.drop n) : okB r := by obtain ⟨n, rfl⟩ := h; exact okB_drop hb n
theorem scText_err {l r : List Int} {m : Nat} {e : Int} (hq : scGrp 0 0 l = (m, e, r)) (he : e ≠ 0) : scText l = ([], e, r) := by simp [scText, hq, he]
theorem scText_long {l r : List Int} {m : Nat} (hq : scGrp 0 0 l = (m, 0, r)) (h : 4096 < m) : scText l = ([], 5, r) := by simp [scText, hq, h]
theorem scText_short {l r : List Int} {m : Nat} (hq : scGrp 0 0 l = (m, 0, r)) (h : ¬ 4096 < m) (h2 : r.length < m) : scText l = ([], 8, r) := by simp [scText, hq, h, h2]
theorem scText_ok {l r : List Int} {m : Nat} (hq : scGrp 0 0 l = (m, 0, r)) (h : ¬ 4096 < m) (h2 : ¬ r.length < m) : scText l = (r.take m, 0, r.drop m) := by simp [scText, hq, h, h2]
theorem sctext_spec (y fr : Bool) (l : List Int) (id nb : Nat) (hid : id < nb) (hb : okB l) :
    ASound Tryz.prog 116 [.op id 0] nb (rowM id (scRow y fr l) (.ret (.tup [fB true (scText l).1, errV (scText l).2.1]) [(id, some (scRow y fr (scText l).2.2))])) := by
  refine ok_116.soundR (by simp) ⟨rfl, trivial⟩ (by simp) ⟨al_B l, trivial⟩ ⟨al_B _, trivial⟩ rfl hid ?_
  have h := fun nb h => scgroups_spec y fr l 0 nb h hb
  rcases hq : scGrp 0 0 l with ⟨m, e, r⟩
  rw [hq] at h
  simp only [scRow, fB] at h
  simp only [ac_116, renL, ren, scRow, TT, ↓reduceIte, Nat.reduceEqDiff, Nat.reduceAdd, Nat.reduceMul, reduceCtorEq, Nat.reduceLeDiff]
  refine ⟨_, h _ (by decide), ?_⟩
  by_cases he : e = 0
  · subst he
    by_cases h4 : 4096 < m
    · have f4 : (4096 : Int) < (m : Int) := by omega
      rw [scText_long hq h4]
      simp only [errV_0, f4, TT, ↓reduceIte, Nat.reduceEqDiff, Nat.reduceAdd, Nat.reduceMul, reduceCtorEq, Nat.reduceLeDiff]
      exact EndsR.imp (r0 := .tup [.v (.slice none 0 0), errV 5]) (.inr rfl) (by simp [ET, errV]) ⟨trivial, al_errV 5, trivial⟩ (Imp.tupL ⟨Imp.nil true, Imp.refl _, trivial⟩) (by simp [ET])
    · have f4 : ¬ (4096 : Int) < (m : Int) := by omega
      have w1 : IntKind.i64.wrap (m : Int) = m := wrap64 (by omega)
      simp only [errV_0, f4, w1, TT, ↓reduceIte, Nat.reduceEqDiff, Nat.reduceAdd, Nat.reduceMul, reduceCtorEq, Nat.reduceLeDiff]
      by_cases hl : r.length < m
      · rw [scText_short hq h4 hl]
        have k := fun nb h => take_short y fr r m 0 nb h hl
        simp only [scRow, fB] at k
        refine ⟨_, k _ (by omega), ?_⟩
        simp only [TT, ↓reduceIte, Nat.reduceEqDiff, Nat.reduceAdd, Nat.reduceMul, reduceCtorEq, Nat.reduceLeDiff]
        refine ⟨_, bytesClone_spec true [] _ (by simp), ?_⟩
        simp only [TT, ↓reduceIte, Nat.reduceEqDiff, Nat.reduceAdd, Nat.reduceMul, reduceCtorEq, Nat.reduceLeDiff]
        exact EndsR.data (r := .tup [fB true [], errV 8]) (.inr rfl) (by simp [ET, fB]) ⟨al_B _, al_errV 8, trivial⟩ (by simp [ET])
      · rw [scText_ok hq h4 hl]
        have k := fun nb h => take_ok y fr r m 0 nb h (by omega)
        simp only [scRow, fB] at k
        refine ⟨_, k _ (by omega), ?_⟩
        simp only [TT, ↓reduceIte, Nat.reduceEqDiff, Nat.reduceAdd, Nat.reduceMul, reduceCtorEq, Nat.reduceLeDiff]
        refine ⟨_, bytesClone_spec fr (r.take m) _ (by rw [List.length_take]; omega), ?_⟩
        simp only [TT, ↓reduceIte, Nat.reduceEqDiff, Nat.reduceAdd, Nat.reduceMul, reduceCtorEq, Nat.reduceLeDiff]
        exact EndsR.data (r := .tup [fB true (r.take m), errV 0]) (.inr rfl) (by simp [ET, errV, fB]) ⟨al_B _, al_errV 0, trivial⟩ (by simp [ET])
  · rw [scText_err hq he]
    simp only [errV_ne he, TT, ↓reduceIte, Nat.reduceEqDiff, Nat.reduceAdd, Nat.reduceMul, reduceCtorEq, Nat.reduceLeDiff]
    exact EndsR.imp (r0 := .tup [.v (.slice none 0 0), errV e]) (.inr rfl) (by simp [ET, errV, he]) ⟨trivial, al_errV e, trivial⟩ (Imp.tupL ⟨Imp.nil true, by rw [errV_ne he]; exact Imp.refl _, trivial⟩) (by simp [ET])
end Go.Proofs.YtdenddhdeloceaaGreatDoor
/- Contracts: the scanner: numbers. -/
namespace Go.Proofs.YtdenddhdeloceaaGreatDoor
open Go.RowKit
set_option maxRecDepth 100000
theorem ren_errV {ρ : Nat → Nat} (e : Int) : ren ρ (errV e) = errV e := by
  unfold errV; split <;> simp [ren, renL]
theorem many_go {α : Type} {f : List Int → α × Int × List Int} {N i : Nat} {rest : List Int} {out : List α} {R : List α × Int × List Int} (hR : R = (out ++ (scMany f (N - i) rest).1, (scMany f (N - i) rest).2)) (hi : i < N) (h0 : (f rest).2.1 = 0) :
    R = ((out ++ [(f rest).1]) ++ (scMany f (N - (i + 1)) (f rest).2.2).1, (scMany f (N - (i + 1)) (f rest).2.2).2) := by
  rw [hR, show N - i = (N - (i + 1)) + 1 from by omega, scMany, if_neg (by rw [h0]; simp)]
  simp
theorem many_stop {α : Type} {f : List Int → α × Int × List Int} {N i : Nat} {rest : List Int} {out : List α} {R : List α × Int × List Int} (hR : R = (out ++ (scMany f (N - i) rest).1, (scMany f (N - i) rest).2)) (hi : i < N) (h0 : (f rest).2.1 ≠ 0) :
    R = (out ++ [(f rest).1], (f rest).2.1, (f rest).2.2) := by
  rw [hR, show N - i = (N - (i + 1)) + 1 from by omega, scMany, if_pos h0]
theorem many_end {α : Type} {f : List Int → α × Int × List Int} {N : Nat} {rest : List Int} {out : List α} {R : List α × Int × List Int} (hR : R = (out ++ (scMany f (N - N) rest).1, (scMany f (N - N) rest).2)) : R = (out, 0, rest) := by
  rw [hR, Nat.sub_self, scMany]; simp
structure manyI {α : Type} (f : List Int → α × Int × List Int) (N : Nat) (R : List α × Int × List Int) (i : Nat) (out : List α) (e : Int) (rest : List Int) : Prop where
  len : out.length ≤ i
  le : i ≤ 64
  ok : okB rest
  st : (e = 0 ∧ N ≤ 64 ∧ i ≤ N ∧ R = (out ++ (scMany f (N - i) rest).1, (scMany f (N - i) rest).2)) ∨ (e ≠ 0 ∧ R = (out, e, rest))
theorem manyI.start {α : Type} (f : List Int → α × Int × List Int) (l : List Int) (hb : okB l) : manyI f (scCnt l).1.toNat (scList f l) 0 [] (scCnt l).2.1 (scCnt l).2.2 := by
  refine ⟨by simp, by omega, by rw [scCnt_rest]; exact okB_drop hb 1, ?_⟩
  unfold scList
  by_cases h : (scCnt l).2.1 = 0
  · left
    refine ⟨h, ?_, Nat.zero_le _, ?_⟩
    · unfold scCnt at h ⊢
      simp only at h ⊢
      split at h
      · simp at h
      · rename_i h2; rw [h] at h2; omega
    · rw [if_neg (by rw [h]; simp)]; simp
  · right
    exact ⟨h, by rw [if_pos h]⟩
theorem manyI.step {α : Type} {f : List Int → α × Int × List Int} {N : Nat} {R : List α × Int × List Int} {i : Nat} {out : List α} {rest : List Int} (h : manyI f N R i out 0 rest) (hi : i < N) (hf : ∃ n, (f rest).2.2 = rest.drop n) : manyI f N R (i + 1) (out ++ [(f rest).1]) (f rest).2.1 (f rest).2.2 := by
  rcases h.st with ⟨_, hN, hle, hR⟩ | ⟨h0, _⟩
  · refine ⟨?_, ?_, ?_, ?_⟩
    · rw [List.length_append, List.length_cons, List.length_nil]; have := h.len; omega
    · omega
    · exact okB_sc h.ok hf
    · by_cases h0 : (f rest).2.1 = 0
      · exact .inl ⟨h0, hN, by omega, many_go hR hi h0⟩
      · exact .inr ⟨h0, many_stop hR hi h0⟩
  · exact absurd rfl h0
theorem cnt_nn {l : List Int} (hb : okB l) : ((scCnt l).1.toNat : Int) = (scCnt l).1 := by
  cases l with
  | nil => rfl
  | cons x r => have := hb x (by simp); show (x.toNat : Int) = x; omega
theorem sh1 (m : Nat) : shVal .shr .u64 (m : Int) 1 = some (.int .u64 ((m / 2 : Nat) : Int)) := by
  have h : Int.fdiv (m : Int) (2 ^ min (Int.toNat 1) IntKind.u64.bits) = ((m / 2 : Nat) : Int) := by
    show Int.fdiv (m : Int) 2 = _
    rw [Int.fdiv_eq_ediv_of_nonneg _ (by decide)]
    omega
  simp only [shVal, if_neg (show ¬ ((1 : Int) < 0) by decide), h]
theorem and_1 {m : Nat} (h : m < 2 ^ 64) : IntKind.u64.wrap ((BitVec.ofInt IntKind.u64.bits (m : Int) &&& BitVec.ofInt IntKind.u64.bits 1).toNat : Int) = ((m % 2 : Nat) : Int) := by
  have e3 : (2 : Nat) ^ 64 = 18446744073709551616 := by decide
  have h1 : (BitVec.ofInt IntKind.u64.bits (m : Int) &&& BitVec.ofInt IntKind.u64.bits 1).toNat = m % 2 := by
    show (BitVec.ofInt 64 (m : Int) &&& BitVec.ofInt 64 1).toNat = _
    rw [BitVec.toNat_and, ofInt64, ofInt64, show ((1 : Int) % 18446744073709551616).toNat = 1 from rfl, show ((m : Int) % 18446744073709551616).toNat = m from by omega]
    exact Nat.and_two_pow_sub_one_eq_mod m 1
  rw [h1, u64_mod]; omega
theorem xor_unzz {m : Nat} (h : m < 2 ^ 64) : IntKind.i64.wrap ((BitVec.ofInt IntKind.i64.bits ((m / 2 : Nat) : Int) ^^^ BitVec.ofInt IntKind.i64.bits (-((m % 2 : Nat) : Int))).toNat : Int) = unzz m := by
  have e3 : (2 : Nat) ^ 64 = 18446744073709551616 := by decide
  show IntKind.i64.wrap ((BitVec.ofInt 64 ((m / 2 : Nat) : Int) ^^^ BitVec.ofInt 64 (-((m % 2 : Nat) : Int))).toNat : Int) = _
  unfold unzz
  by_cases h0 : m % 2 = 0
  · rw [h0, if_pos rfl, show BitVec.ofInt 64 (-((0 : Nat) : Int)) = 0#64 from by decide, BitVec.xor_zero, ofInt64, IntKind.wrap_i64]
    omega
  · have h1 : m % 2 = 1 := by omega
    rw [h1, if_neg (by decide), show BitVec.ofInt 64 (-((1 : Nat) : Int)) = BitVec.allOnes 64 from by decide, BitVec.xor_allOnes, BitVec.toNat_not, ofInt64, IntKind.wrap_i64]
    omega
structure Sm (α : Type) where
  i : Nat
  out : List α
  e : Int
  rest : List Int
abbrev L_sn (y fr : Bool) (N : Nat) (q : Sm Int) : ASt := ⟨envOf [(0, .op 0 0), (4, .v (.int .i64 N)), (5, errV q.e), (6, .os 1 0 q.out.length 1), (7, .v (.int .i64 q.i))], heapOf [(0, scRow y fr q.rest), (1, .row true 3 (eI q.out))], 2⟩
theorem scNum_rest (l : List Int) : ∃ n, (scNum l).2.2 = l.drop n := scGrp_rest l 0 0
set_option maxHeartbeats 2000000 in
theorem scnums_spec (y fr : Bool) (l : List Int) (id nb : Nat) (hid : id < nb) (hb : okB l) :
    ASound Tryz.prog 97 [.op id 0] nb (rowM id (scRow y fr l) (.ret (.tup [fI true (scNums l).1, errV (scNums l).2.1]) [(id, some (scRow y fr (scNums l).2.2))])) := by
  refine ok_97.soundR (by simp) ⟨rfl, trivial⟩ (by simp) ⟨al_B l, trivial⟩ ⟨al_B _, trivial⟩ rfl hid ?_
  have h := fun nb h => count_spec y fr l 0 nb h hb
  have hI := manyI.start scNum l hb
  rw [← cnt_nn hb] at h
  simp only [scNums]
  generalize (scCnt l).1.toNat = N at h hI
  generalize scList scNum l = R at hI ⊢
  generalize (scCnt l).2.1 = e0 at h hI
  generalize (scCnt l).2.2 = r0 at h hI
  simp only [scRow, fB] at h
  simp only [ac_97, renL, ren, scRow, TT, ↓reduceIte, Nat.reduceEqDiff, Nat.reduceAdd, Nat.reduceMul, reduceCtorEq, Nat.reduceLeDiff]
  refine ⟨_, h _ (by decide), ?_⟩
  simp only [TT, ↓reduceIte, Nat.reduceEqDiff, Nat.reduceAdd, Nat.reduceMul, reduceCtorEq, Nat.reduceLeDiff]
  refine AWc.family (L_sn y fr N) (fun q => manyI scNum N R q.i q.out q.e q.rest) (fun q => 64 - q.i) ⟨0, [], e0, r0⟩ hI ?_ ?_
  · refine Weak.trans (Weak.virtC 3 1 (l := [(0, .op 0 0), (4, .v (.int .i64 N)), (5, errV e0), (6, .os 1100001 0 0 1), (7, .v (.int .i64 0))]) (h := [(0, scRow y fr r0)]) ?_ ?_) (Weak.calc [(0, 0), (1100001, 1)] (by decide) ?_ ?_)
    all_goals simp [WT, al_errV, ren_errV, eI]
  · rintro ⟨i, out, e, rest⟩ hI
    simp only at hI
    by_cases he : e = 0
    · subst he
      by_cases hlt : i < N
      · have f1 : (i : Int) < (N : Int) := by omega
        have hb2 := hI.ok
        have hst := hI.step hlt (scNum_rest rest)
        have hl := hI.len
        have hN : N ≤ 64 := by
          rcases hI.st with ⟨_, h, _⟩ | ⟨h0, _⟩
          · exact h
          · exact absurd rfl h0
        have hm := scGrp_lt rest 0 0 hb2 (by decide) (by decide)
        have k := fun nb h => scgroups_spec y fr rest 0 nb h hb2
        unfold scNum at hst
        simp only at hst
        generalize scGrp 0 0 rest = q at hst hm k
        obtain ⟨m, e, r⟩ := q
        simp only at hst hm
        simp only [scRow, fB] at k
        have e3 : (2 : Nat) ^ 64 = 18446744073709551616 := by decide
        have w2 : IntKind.i64.wrap ((m / 2 : Nat) : Int) = ((m / 2 : Nat) : Int) := wrap64 (by omega)
        have w3 : IntKind.i64.wrap ((m % 2 : Nat) : Int) = ((m % 2 : Nat) : Int) := wrap64 (by omega)
        have w4 : IntKind.i64.wrap (0 - ((m % 2 : Nat) : Int)) = -((m % 2 : Nat) : Int) := by rw [wrap64 (by omega)]; omega
        simp only [L_sn, scRow, errV_0, f1, TT, ↓reduceIte, Nat.reduceEqDiff, Nat.reduceAdd, Nat.reduceMul, reduceCtorEq, Nat.reduceLeDiff]
        refine ⟨_, k _ (by omega), ?_⟩
        have hcs : eI out ++ [AV.v (.int .i64 (unzz m))] = eI (out ++ [unzz m]) := by rw [app_I]; rfl
        have hn : out.length + 1 = (out ++ [unzz m]).length := by simp
        simp only [len_I, sh1, and_1 hm, w2, w3, w4, xor_unzz hm, hcs, hn, TT, ↓reduceIte, Nat.reduceEqDiff, Nat.reduceAdd, Nat.reduceMul, reduceCtorEq, Nat.reduceLeDiff]
        rw [if_pos (by rw [← hn]; omega)]
        refine famC_next ⟨i + 1, out ++ [unzz m], e, r⟩ (show 64 - (i + 1) < 64 - i by omega) hst ?_
        refine Weak.calc [(0, 0), (2500002, 1)] (by decide) ?_ ?_ <;> simp [WT, al_errV, ren_errV, wrap64 (x := (i : Int) + 1) (by omega)]
      · have f1 : ¬ (i : Int) < (N : Int) := by omega
        have hR : R = (out, 0, rest) := by
          rcases hI.st with ⟨_, hN, hle, hR⟩ | ⟨h0, _⟩
          · obtain rfl : i = N := by omega
            exact many_end hR
          · exact absurd rfl h0
        rw [hR]
        simp only [L_sn, scRow, errV_0, f1, TT, ↓reduceIte, Nat.reduceEqDiff, Nat.reduceAdd, Nat.reduceMul, reduceCtorEq, Nat.reduceLeDiff]
        refine EndsR.weak (Weak.freezeC 1 rfl (l := [(2, fI true out), (3, .v .nilIface)]) (h := [(0, scRow y fr rest)]) ?_ ?_) (EndsR.data (.inr rfl) (by simp [ET, fI]) ⟨al_I _, trivial, trivial⟩ (by simp [ET, fB]))
        · simp [WT]
        · simp [WT]
    · have hR : R = (out, e, rest) := by
        rcases hI.st with ⟨h0, _⟩ | ⟨_, hR⟩
        · exact absurd h0 he
        · exact hR
      rw [hR]
      simp only [L_sn, scRow, errV_ne he, TT, ↓reduceIte, Nat.reduceEqDiff, Nat.reduceAdd, Nat.reduceMul, reduceCtorEq, Nat.reduceLeDiff]
      refine EndsR.weak (Weak.freezeC 1 rfl (l := [(2, fI true out), (3, errV e)]) (h := [(0, scRow y fr rest)]) ?_ ?_) (EndsR.data (.inr rfl) (by simp [ET, fI, errV_ne he]) ⟨al_I _, ⟨trivial, trivial⟩, trivial⟩ (by simp [ET, fB]))
      · simp [WT, errV_ne he]
      · simp [WT]
end Go.Proofs.YtdenddhdeloceaaGreatDoor
/- Contracts: the scanner: texts. -/
namespace Go.Proofs.YtdenddhdeloceaaGreatDoor
open Go.RowKit
set_option maxRecDepth 100000
abbrev L_st (y fr : Bool) (N : Nat) (q : Sm (List Int)) : ASt := ⟨envOf [(0, .op 0 0), (4, .v (.int .i64 N)), (5, errV q.e), (6, .os 1 0 q.out.length 1), (7, .v (.int .i64 q.i))], heapOf [(0, scRow y fr q.rest), (1, .row true 22 (eL true q.out))], 2⟩
set_option maxHeartbeats 2000000 in
theorem sctexts_spec (y fr : Bool) (l : List Int) (id nb : Nat) (hid : id < nb) (hb : okB l) :
    ASound Tryz.prog 98 [.op id 0] nb (rowM id (scRow y fr l) (.ret (.tup [fL true (scTexts l).1, errV (scTexts l).2.1]) [(id, some (scRow y fr (scTexts l).2.2))])) := by
  refine ok_98.soundR (by simp) ⟨rfl, trivial⟩ (by simp) ⟨al_B l, trivial⟩ ⟨al_B _, trivial⟩ rfl hid ?_
  have h := fun nb h => count_spec y fr l 0 nb h hb
  have hI := manyI.start scText l hb
  rw [← cnt_nn hb] at h
  simp only [scTexts]
  generalize (scCnt l).1.toNat = N at h hI
  generalize scList scText l = R at hI ⊢
  generalize (scCnt l).2.1 = e0 at h hI
  generalize (scCnt l).2.2 = r0 at h hI
  simp only [scRow, fB] at h
  simp only [ac_98, renL, ren, scRow, TT, ↓reduceIte, Nat.reduceEqDiff, Nat.reduceAdd, Nat.reduceMul, reduceCtorEq, Nat.reduceLeDiff]
  refine ⟨_, h _ (by decide), ?_⟩
  simp only [TT, ↓reduceIte, Nat.reduceEqDiff, Nat.reduceAdd, Nat.reduceMul, reduceCtorEq, Nat.reduceLeDiff]
  refine AWc.family (L_st y fr N) (fun q => manyI scText N R q.i q.out q.e q.rest) (fun q => 64 - q.i) ⟨0, [], e0, r0⟩ hI ?_ ?_
  · refine Weak.trans (Weak.virtC 22 1 (l := [(0, .op 0 0), (4, .v (.int .i64 N)), (5, errV e0), (6, .os 1100001 0 0 1), (7, .v (.int .i64 0))]) (h := [(0, scRow y fr r0)]) ?_ ?_) (Weak.calc [(0, 0), (1100001, 1)] (by decide) ?_ ?_)
    all_goals simp [WT, al_errV, ren_errV, eL]
  · rintro ⟨i, out, e, rest⟩ hI
    simp only at hI
    by_cases he : e = 0
    · subst he
      by_cases hlt : i < N
      · have f1 : (i : Int) < (N : Int) := by omega
        have hb2 := hI.ok
        have hst := hI.step hlt (scText_rest rest)
        have hl := hI.len
        have hN : N ≤ 64 := by
          rcases hI.st with ⟨_, h, _⟩ | ⟨h0, _⟩
          · exact h
          · exact absurd rfl h0
        have k := fun nb h => sctext_spec y fr rest 0 nb h hb2
        generalize scText rest = q at hst k
        obtain ⟨m, e, r⟩ := q
        simp only at hst
        simp only [scRow, fB] at k
        simp only [L_st, scRow, errV_0, f1, TT, ↓reduceIte, Nat.reduceEqDiff, Nat.reduceAdd, Nat.reduceMul, reduceCtorEq, Nat.reduceLeDiff]
        refine ⟨_, k _ (by omega), ?_⟩
        have hcs : eL true out ++ [AV.fs true (eB m) m.length] = eL true (out ++ [m]) := by rw [app_L]; rfl
        have hn : out.length + 1 = (out ++ [m]).length := by simp
        simp only [len_L, hcs, hn, TT, ↓reduceIte, Nat.reduceEqDiff, Nat.reduceAdd, Nat.reduceMul, reduceCtorEq, Nat.reduceLeDiff]
        rw [if_pos (by rw [← hn]; omega)]
        refine famC_next ⟨i + 1, out ++ [m], e, r⟩ (show 64 - (i + 1) < 64 - i by omega) hst ?_
        refine Weak.calc [(0, 0), (1800002, 1)] (by decide) ?_ ?_ <;> simp [WT, al_errV, ren_errV, wrap64 (x := (i : Int) + 1) (by omega)]
      · have f1 : ¬ (i : Int) < (N : Int) := by omega
        have hR : R = (out, 0, rest) := by
          rcases hI.st with ⟨_, hN, hle, hR⟩ | ⟨h0, _⟩
          · obtain rfl : i = N := by omega
            exact many_end hR
          · exact absurd rfl h0
        rw [hR]
        simp only [L_st, scRow, errV_0, f1, TT, ↓reduceIte, Nat.reduceEqDiff, Nat.reduceAdd, Nat.reduceMul, reduceCtorEq, Nat.reduceLeDiff]
        refine EndsR.weak (Weak.freezeC 1 rfl (l := [(2, fL true out), (3, .v .nilIface)]) (h := [(0, scRow y fr rest)]) ?_ ?_) (EndsR.data (.inr rfl) (by simp [ET, fL]) ⟨al_L _, trivial, trivial⟩ (by simp [ET, fB]))
        · simp [WT]
        · simp [WT]
    · have hR : R = (out, e, rest) := by
        rcases hI.st with ⟨h0, _⟩ | ⟨_, hR⟩
        · exact absurd h0 he
        · exact hR
      rw [hR]
      simp only [L_st, scRow, errV_ne he, TT, ↓reduceIte, Nat.reduceEqDiff, Nat.reduceAdd, Nat.reduceMul, reduceCtorEq, Nat.reduceLeDiff]
      refine EndsR.weak (Weak.freezeC 1 rfl (l := [(2, fL true out), (3, errV e)]) (h := [(0, scRow y fr rest)]) ?_ ?_) (EndsR.data (.inr rfl) (by simp [ET, fL, errV_ne he]) ⟨al_L _, ⟨trivial, trivial⟩, trivial⟩ (by simp [ET, fB]))
      · simp [WT, errV_ne he]
      · simp [WT]
end Go.Proofs.YtdenddhdeloceaaGreatDoor
/- Contracts: the scanner: a record. -/
namespace Go.Proofs.YtdenddhdeloceaaGreatDoor
open Go.RowKit
set_option maxRecDepth 100000
def scRecR (l : List Int) : List Int :=
  if (scOct l).2.1 ≠ 0 then (scOct l).2.2 else if (scNums (scOct l).2.2).2.1 ≠ 0 then (scNums (scOct l).2.2).2.2 else (scTexts (scNums (scOct l).2.2).2.2).2.2
def anyR : AV := .agg [.any, .any, .any]
def recV (x : Rec × Int) : AV := if x.2 = 0 then aRec true x.1 else anyR
theorem recV_0 {r : Rec} : recV (r, 0) = aRec true r := rfl
theorem recV_ne {x : Rec × Int} (h : x.2 ≠ 0) : recV x = anyR := if_neg h
theorem imp_recE {a b c : AV} (e : Int) : Imp (.tup [.agg [a, b, c], errV e]) (.tup [anyR, errV e]) := Imp.tupL ⟨Imp.aggL ⟨Imp.any _, Imp.any _, Imp.any _, trivial⟩, Imp.refl _, trivial⟩
set_option maxHeartbeats 2000000 in
theorem record_spec (y fr : Bool) (l : List Int) (id nb : Nat) (hid : id < nb) (hb : okB l) :
    ASound Tryz.prog 66 [.op id 0] nb (rowM id (scRow y fr l) (.ret (.tup [recV (scRec l), errV (scRec l).2]) [(id, some (scRow y fr (scRecR l)))])) := by
  refine ok_66.soundR (by simp) ⟨rfl, trivial⟩ (by simp) ⟨al_B l, trivial⟩ ⟨al_B _, trivial⟩ rfl hid ?_
  have h1 := fun nb h => octet_spec y fr l 0 nb h hb
  have hb1 : okB (scOct l).2.2 := okB_sc hb ⟨1, scOct_rest l⟩
  rcases hk : scOct l with ⟨k, ek, r1⟩
  rw [hk] at h1 hb1
  simp only at hb1
  have h2 := fun nb h => scnums_spec y fr r1 0 nb h hb1
  have hb2 : okB (scNums r1).2.2 := okB_sc hb1 (scList_rest scNum_rest r1)
  rcases hn : scNums r1 with ⟨ns, en, r2⟩
  rw [hn] at h2 hb2
  simp only at hb2
  have h3 := fun nb h => sctexts_spec y fr r2 0 nb h hb2
  rcases ht : scTexts r2 with ⟨ts, et, r3⟩
  rw [ht] at h3
  simp only [scRow, fB, fI, fL] at h1 h2 h3
  simp only [ac_66, renL, ren, scRow, TT, ↓reduceIte, Nat.reduceEqDiff, Nat.reduceAdd, Nat.reduceMul, reduceCtorEq, Nat.reduceLeDiff]
  refine ⟨_, h1 _ (by decide), ?_⟩
  by_cases e1 : ek = 0
  · subst e1
    simp only [errV_0, TT, ↓reduceIte, Nat.reduceEqDiff, Nat.reduceAdd, Nat.reduceMul, reduceCtorEq, Nat.reduceLeDiff]
    refine ⟨_, h2 _ (by omega), ?_⟩
    by_cases e2 : en = 0
    · subst e2
      simp only [errV_0, TT, ↓reduceIte, Nat.reduceEqDiff, Nat.reduceAdd, Nat.reduceMul, reduceCtorEq, Nat.reduceLeDiff]
      refine ⟨_, h3 _ (by omega), ?_⟩
      by_cases e3 : et = 0
      · subst e3
        simp only [errV_0, TT, ↓reduceIte, Nat.reduceEqDiff, Nat.reduceAdd, Nat.reduceMul, reduceCtorEq, Nat.reduceLeDiff]
        have hR : scRecR l = r3 := by simp [scRecR, hk, hn, ht]
        by_cases e4 : 0 < r3.length
        · have f4 : (0 : Int) < (r3.length : Int) := by omega
          have hv : scRec l = (rec0, 23) := by simp [scRec, hk, hn, ht, e4]
          rw [hv, hR]
          simp only [f4, TT, ↓reduceIte, Nat.reduceEqDiff, Nat.reduceAdd, Nat.reduceMul, reduceCtorEq, Nat.reduceLeDiff]
          rw [recV_ne (show (rec0, 23).2 ≠ 0 from by decide)]
          exact EndsR.imp (r0 := .tup [.agg [.v (.int .i64 k), .fs true (eI ns) ns.length, .fs true (eL true ts) ts.length], errV 23]) (.inr rfl) (by simp [ET, errV]) ⟨⟨trivial, al_I _, al_L _, trivial⟩, al_errV _, trivial⟩ (imp_recE _) (by simp [ET])
        · have f4 : ¬ (0 : Int) < (r3.length : Int) := by omega
          have hv : scRec l = (⟨k, ns, ts⟩, 0) := by simp [scRec, hk, hn, ht, e4]
          rw [hv, hR]
          simp only [f4, recV_0, TT, ↓reduceIte, Nat.reduceEqDiff, Nat.reduceAdd, Nat.reduceMul, reduceCtorEq, Nat.reduceLeDiff]
          exact EndsR.data (r := .tup [aRec true ⟨k, ns, ts⟩, errV 0]) (.inr rfl) (by simp [ET, errV, aRec, fI, fL]) ⟨al_aRec _, al_errV 0, trivial⟩ (by simp [ET])
      · have hR : scRecR l = r3 := by simp [scRecR, hk, hn, ht]
        have hv : scRec l = (rec0, et) := by simp [scRec, hk, hn, ht, e3]
        rw [hv, hR]
        simp only [errV_ne e3, TT, ↓reduceIte, Nat.reduceEqDiff, Nat.reduceAdd, Nat.reduceMul, reduceCtorEq, Nat.reduceLeDiff]
        rw [recV_ne (show (rec0, et).2 ≠ 0 from e3)]
        exact EndsR.imp (r0 := .tup [.agg [.v (.int .i64 k), .fs true (eI ns) ns.length, .fs true (eL true ts) ts.length], errV et]) (.inr rfl) (by simp [ET, errV, e3]) ⟨⟨trivial, al_I _, al_L _, trivial⟩, al_errV _, trivial⟩ (by rw [← errV_ne e3]; exact imp_recE _) (by simp [ET])
    · have hR : scRecR l = r2 := by simp [scRecR, hk, hn, e2]
      have hv : scRec l = (rec0, en) := by simp [scRec, hk, hn, e2]
      rw [hv, hR]
      simp only [errV_ne e2, TT, ↓reduceIte, Nat.reduceEqDiff, Nat.reduceAdd, Nat.reduceMul, reduceCtorEq, Nat.reduceLeDiff]
      rw [recV_ne (show (rec0, en).2 ≠ 0 from e2)]
      exact EndsR.imp (r0 := .tup [.agg [.v (.int .i64 k), .fs true (eI ns) ns.length, .v (.slice none 0 0)], errV en]) (.inr rfl) (by simp [ET, errV, e2]) ⟨⟨trivial, al_I _, trivial, trivial⟩, al_errV _, trivial⟩ (by rw [← errV_ne e2]; exact imp_recE _) (by simp [ET])
  · have hR : scRecR l = r1 := by simp [scRecR, hk, e1]
    have hv : scRec l = (rec0, ek) := by simp [scRec, hk, e1]
    rw [hv, hR]
    simp only [errV_ne e1, TT, ↓reduceIte, Nat.reduceEqDiff, Nat.reduceAdd, Nat.reduceMul, reduceCtorEq, Nat.reduceLeDiff]
    rw [recV_ne (show (rec0, ek).2 ≠ 0 from e1)]
    exact EndsR.imp (r0 := .tup [.agg [.v (.int .i64 k), .v (.slice none 0 0), .v (.slice none 0 0)], errV ek]) (.inr rfl) (by simp [ET, errV, e1]) ⟨⟨trivial, trivial, trivial, trivial⟩, al_errV _, trivial⟩ (by rw [← errV_ne e1]; exact imp_recE _) (by simp [ET])
end Go.Proofs.YtdenddhdeloceaaGreatDoor
/- Contract: the code of an error. -/
namespace Go.Proofs.YtdenddhdeloceaaGreatDoor
open Go.RowKit
set_option maxRecDepth 100000
theorem Then.only {c : Cx} {w' : World} (h : HR c) (nb : Nat) (hs : c.w.heap.size ≤ w'.heap.size) (hb : ∀ b, b < c.w.heap.size → w'.heap[b]? = c.w.heap[b]?) (h1 : w'.output = c.w.output) (h2 : w'.os = c.w.os) (h3 : w'.tape = c.w.tape) : Then c nb [] (c.at w') := by
  have g : Grow c (c.at w') := Still.grow ⟨rfl, rfl, rfl, h1, h2, h3, hs, fun b hb2 _ => hb b hb2, fun b h => .inl h, fun b cs e f hx => ⟨cs, f, (hb b (by rw [Array.getElem?_eq_some_iff] at hx; exact hx.1)).trans hx, rfl⟩⟩
  have n : Names c (c.at w') := Names.refl c
  refine ⟨g, n, ⟨fun id y e cells hx => ?_, fun id id' b a1 a2 a3 a4 => h.inj id id' b a1 a2 a3 a4, Nat.le_trans h.base hs, fun b hx => Nat.lt_of_lt_of_le (h.xlt b hx) hs, h.gl.grow g⟩, rfl, fun id hid => .inl hid⟩
  rcases h.row id y e cells hx with ⟨k1, k2⟩ | ⟨b, cs, k1, k2, k3, k4, k5⟩
  · exact .inl ⟨k1, k2⟩
  · refine .inr ⟨b, cs, k1, (hb b (by rw [Array.getElem?_eq_some_iff] at k2; exact k2.1)).trans k2, k3, k4, fun j a hj => ?_⟩
    obtain ⟨u, m1, m2, m3⟩ := k5 j a hj
    exact ⟨u, m1, m2, m3.mono g n⟩
set_option maxHeartbeats 4000000 in
theorem code_walk (e : Int) (w : World) (hg : w.cell? ⟨0, 0, none⟩ = some (.iface 190 (.agg #[.pointer (some ⟨3, 111, none⟩)]))) :
    Calls Tryz.prog 67 #[.iface 153 (.agg #[.int .i64 e])] w fun ev w' => ev = .returned (.int .i64 e) ∧ w' = ((((w.alloc (.cells #[.int .i64 e] 153)).alloc (.cells #[.pointer (some ⟨w.heap.size, 0, none⟩)] 155)).alloc (.cells #[.pointer (some ⟨3, 155, none⟩), .pointer (some ⟨w.heap.size + 1, 0, none⟩), .int .u64 150] 177)).alloc (.cells #[.pointer (some ⟨3, 155, none⟩), .pointer (some ⟨w.heap.size + 1, 0, none⟩), .int .u64 150] 177)).alloc (.cells #[.int .i64 e] 153) := by
  have hlt : 0 < w.heap.size := by
    rcases Nat.eq_zero_or_pos w.heap.size with h0 | h
    · simp [World.cell?, h0] at hg
    · exact h
  have hgA : (w.alloc (.cells #[.int .i64 0] 153)).cell? ⟨0, 0, none⟩ = some (.iface 190 (.agg #[.pointer (some ⟨3, 111, none⟩)])) := by
    rw [World.cell?_alloc_lt _ _ ⟨0, 0, none⟩ hlt]; exact hg
  have htA : (w.alloc (.cells #[.int .i64 0] 153)).cell? ⟨w.heap.size, 0, none⟩ = some (.int .i64 0) := by simp
  have hfA : (w.alloc (.cells #[.int .i64 0] 153)).frozen? ⟨w.heap.size, 0, none⟩ = false := by simp
  go_enter Tryz.func67, Tryz.ntmps67
  go_wp2_with (first | (go_at_call 99; refine (tz_as e _ (.int .i64 0) _ hgA htA hfA).mono ?_; rintro e w' ⟨rfl, rfl⟩))
  go_ret
  exact ⟨rfl, rfl⟩
theorem code_spec (e : Int) (nb : Nat) : ASound Tryz.prog 67 [.ifc 153 (.agg [.v (.int .i64 e)])] nb (.ret (.v (.int .i64 e)) []) := by
  refine ⟨by kernel_rfl, fun c us r R W hrun hr hfr hv => ?_⟩
  simp [AM.run] at hrun
  obtain ⟨rfl, _, rfl⟩ := hrun
  obtain ⟨u, us', rfl, ⟨v, rfl, vs, rfl, x, vs', rfl, _, hx, hn⟩, hn2⟩ := hv
  rw [VRl] at hn
  subst hn
  rw [VRt] at hn2
  subst hn2
  rw [VR] at hx
  subst hx
  have hg := (hr.gl 0 _ rfl).1
  refine (code_walk e c.w hg).mono ?_
  rintro ev w' ⟨rfl, hw⟩
  have step : ∀ (w : World) (o : Obj) (b : Nat), b < w.heap.size → (w.alloc o).heap[b]? = w.heap[b]? := fun w o b hb => Below.heap_alloc w o b hb
  have h1 : c.w.heap.size ≤ w'.heap.size := by rw [hw]; simp only [World.size_alloc]; omega
  have h2 : ∀ b, b < c.w.heap.size → w'.heap[b]? = c.w.heap[b]? := by
    intro b hb
    rw [hw]
    rw [step _ _ _ (by simp only [World.size_alloc]; omega), step _ _ _ (by simp only [World.size_alloc]; omega), step _ _ _ (by simp only [World.size_alloc]; omega), step _ _ _ (by simp only [World.size_alloc]; omega), step _ _ _ hb]
  have h3 : w'.output = c.w.output := by rw [hw]; rfl
  have h4 : w'.os = c.w.os := by rw [hw]; rfl
  have h5 : w'.tape = c.w.tape := by rw [hw]; rfl
  exact ⟨_, c.at w', rfl, rfl, rfl, Then.only hr nb h1 h2 h3 h4 h5⟩
end Go.Proofs.YtdenddhdeloceaaGreatDoor
/- Contract: decode. -/
namespace Go.Proofs.YtdenddhdeloceaaGreatDoor
open Go.RowKit
set_option maxRecDepth 100000
theorem imp_rec0 (e : Int) : Imp (.tup [.agg [.v (.int .i64 0), .v (.slice none 0 0), .v (.slice none 0 0)], .v (.int .i64 e)]) (.tup [aRec true rec0, .v (.int .i64 e)]) :=
  Imp.tupL ⟨Imp.aggL ⟨Imp.refl _, Imp.nil true, Imp.nil true, trivial⟩, Imp.refl _, trivial⟩
theorem scRec_err {l : List Int} (h : (scRec l).2 ≠ 0) : (scRec l).1 = rec0 := by
  unfold scRec at h ⊢
  simp only at h ⊢
  split
  · rfl
  · split
    · rfl
    · split
      · rfl
      · split
        · rfl
        · rename_i a b c d
          rw [if_neg a, if_neg b, if_neg c, if_neg d] at h
          exact absurd rfl h
theorem okB_open {l : List Int} (h : okB l) : okB (openB l).1 := by
  unfold openB
  split
  · intro x hx; simp at hx
  · split
    · exact okB_take h _
    · intro x hx; simp at hx
set_option maxHeartbeats 2000000 in
theorem decode_spec (fr : Bool) (l : List Int) (nb : Nat) (hb : okB l) (h : l.length ≤ 140737488355320) : ASound Tryz.prog 38 [fB fr l] nb (.ret (.tup [aRec true (dec l).1, .v (.int .i64 (dec l).2)]) []) := by
  refine ok_38.sound (by simp) ⟨al_fB l, trivial⟩ ?_
  simp only [ac_38, TT, ↓reduceIte, Nat.reduceEqDiff, Nat.reduceAdd, Nat.reduceMul, reduceCtorEq, Nat.reduceLeDiff]
  refine ⟨_, open_spec fr l _ hb h, ?_⟩
  have hob := okB_open hb
  rcases ho : openB l with ⟨b, e⟩
  rw [ho] at hob
  simp only at hob
  simp only [TT, ↓reduceIte, Nat.reduceEqDiff, Nat.reduceAdd, Nat.reduceMul, reduceCtorEq, Nat.reduceLeDiff]
  by_cases he : e = 0
  · subst he
    have hd : dec l = scRec b := by simp [dec, ho]
    rw [hd]
    simp only [TT, ↓reduceIte, Nat.reduceEqDiff, Nat.reduceAdd, Nat.reduceMul, reduceCtorEq, Nat.reduceLeDiff]
    have k := fun id nb h => record_spec true true b id nb h hob
    simp only [scRow, fB] at k
    refine ⟨_, k _ _ (by omega), ?_⟩
    rcases hs : scRec b with ⟨r, e⟩
    by_cases e2 : e = 0
    · subst e2
      simp only [recV_0, errV_0, TT, ↓reduceIte, Nat.reduceEqDiff, Nat.reduceAdd, Nat.reduceMul, reduceCtorEq, Nat.reduceLeDiff]
      exact Ends.data (r := .tup [aRec true r, .v (.int .i64 0)]) (.inr rfl) (by simp [ET, aRec, fI, fL]) ⟨al_aRec _, trivial, trivial⟩
    · simp only [recV_ne (show (r, e).2 ≠ 0 from e2), errV_ne e2, anyR, TT, ↓reduceIte, Nat.reduceEqDiff, Nat.reduceAdd, Nat.reduceMul, reduceCtorEq, Nat.reduceLeDiff]
      refine ⟨_, code_spec e _, ?_⟩
      have hr0 : r = rec0 := by
        have := scRec_err (l := b) (by rw [hs]; exact e2)
        rw [hs] at this; exact this
      rw [hr0]
      simp only [TT, ↓reduceIte, Nat.reduceEqDiff, Nat.reduceAdd, Nat.reduceMul, reduceCtorEq, Nat.reduceLeDiff]
      exact Ends.imp (r0 := .tup [.agg [.v (.int .i64 0), .v (.slice none 0 0), .v (.slice none 0 0)], .v (.int .i64 e)]) (.inr rfl) (by simp [ET]) ⟨⟨trivial, trivial, trivial, trivial⟩, trivial, trivial⟩ (imp_rec0 e)
  · have hd : dec l = (rec0, e) := by simp [dec, ho, he]
    rw [hd]
    simp only [he, not_false_eq_true, TT, ↓reduceIte, Nat.reduceEqDiff, Nat.reduceAdd, Nat.reduceMul, reduceCtorEq, Nat.reduceLeDiff]
    exact Ends.imp (r0 := .tup [.agg [.v (.int .i64 0), .v (.slice none 0 0), .v (.slice none 0 0)], .v (.int .i64 e)]) (.inr rfl) (by simp [ET]) ⟨⟨trivial, trivial, trivial, trivial⟩, trivial, trivial⟩ (imp_rec0 e)
end Go.Proofs.YtdenddhdeloceaaGreatDoor
/- Contracts: the document's reader: take, octet. -/
namespace Go.Proofs.YtdenddhdeloceaaGreatDoor
open Go.RowKit
set_option maxRecDepth 100000
/-- a rest of a list -/
def Suf (B r : List Int) : Prop := B.drop (B.length - r.length) = r
theorem Suf.le {B r : List Int} (h : Suf B r) : r.length ≤ B.length := by
  have := congrArg List.length h
  rw [List.length_drop] at this; omega
theorem Suf.self (B : List Int) : Suf B B := by unfold Suf; simp
theorem Suf.drop {B r : List Int} (h : Suf B r) (n : Nat) : Suf B (r.drop n) := by
  have hl := h.le
  unfold Suf at *
  rw [List.length_drop]
  by_cases hn : n ≤ r.length
  · conv => rhs; rw [← h, List.drop_drop]
    congr 1; omega
  · rw [List.drop_of_length_le (by omega), List.drop_of_length_le (l := r) (by omega)]
theorem Suf.ex {B r r' : List Int} (h : Suf B r) (hx : ∃ n, r' = r.drop n) : Suf B r' := by obtain ⟨n, rfl⟩ := hx; exact h.drop n
abbrev rdRow (y fr : Bool) (B r : List Int) (e : Int) : AObj := .row y 128 [fB fr B, .v (.int .i64 ((B.length - r.length : Nat) : Int)), .v (.int .i64 e)]
theorem rtake_err (y fr : Bool) (B r : List Int) (e n : Int) (id nb : Nat) (hid : id < nb) (he : e ≠ 0) :
    ASound Tryz.prog 79 [.op id 0, .v (.int .i64 n)] nb (rowM id (rdRow y fr B r e) (.ret (fB true []) [(id, some (rdRow y fr B r e))])) := by
  refine ok_79.soundR (by simp) ⟨rfl, trivial, trivial⟩ (by simp) ⟨al_B B, trivial, trivial, trivial⟩ ⟨al_B B, trivial, trivial, trivial⟩ rfl hid ?_
  simp only [ac_79, renL, ren, he, not_false_eq_true, TT, ↓reduceIte, Nat.reduceEqDiff, Nat.reduceAdd, Nat.reduceMul, reduceCtorEq, Nat.reduceLeDiff]
  exact EndsR.imp (r0 := .v (.slice none 0 0)) (.inr rfl) (by simp [ET]) trivial (Imp.nil true) (by simp [ET])
theorem rtake_short (y fr : Bool) (B r : List Int) (n : Nat) (id nb : Nat) (hid : id < nb) (hs : Suf B r) (hB : B.length ≤ 140737488355328) (h : r.length < n) :
    ASound Tryz.prog 79 [.op id 0, .v (.int .i64 n)] nb (rowM id (rdRow y fr B r 0) (.ret (fB true []) [(id, some (rdRow y fr B r 8))])) := by
  refine ok_79.soundR (by simp) ⟨rfl, trivial, trivial⟩ (by simp) ⟨al_B B, trivial, trivial, trivial⟩ ⟨al_B B, trivial, trivial, trivial⟩ rfl hid ?_
  have hl := hs.le
  have w1 : IntKind.i64.wrap ((B.length : Int) - ((B.length - r.length : Nat) : Int)) = (r.length : Int) := by rw [wrap64 (by omega)]; omega
  have e1 : (r.length : Int) < (n : Int) := by omega
  simp only [ac_79, renL, ren, w1, e1, TT, ↓reduceIte, Nat.reduceEqDiff, Nat.reduceAdd, Nat.reduceMul, reduceCtorEq, Nat.reduceLeDiff]
  refine ⟨by rfl, ?_⟩
  exact EndsR.imp (r0 := .v (.slice none 0 0)) (.inr rfl) (by simp [ET]) trivial (Imp.nil true) (by simp [ET])
theorem rtake_ok (y fr : Bool) (B r : List Int) (n : Nat) (id nb : Nat) (hid : id < nb) (hs : Suf B r) (hB : B.length ≤ 140737488355328) (h : n ≤ r.length) :
    ASound Tryz.prog 79 [.op id 0, .v (.int .i64 n)] nb (rowM id (rdRow y fr B r 0) (.ret (fB fr (r.take n)) [(id, some (rdRow y fr B (r.drop n) 0))])) := by
  refine ok_79.soundR (by simp) ⟨rfl, trivial, trivial⟩ (by simp) ⟨al_B B, trivial, trivial, trivial⟩ ⟨al_B B, trivial, trivial, trivial⟩ rfl hid ?_
  have hl := hs.le
  have w1 : IntKind.i64.wrap ((B.length : Int) - ((B.length - r.length : Nat) : Int)) = (r.length : Int) := by rw [wrap64 (by omega)]; omega
  have e1 : ¬ (r.length : Int) < (n : Int) := by omega
  have hd : (r.drop n).length = r.length - n := List.length_drop
  have w2 : IntKind.i64.wrap (((B.length - r.length : Nat) : Int) + (n : Int)) = ((B.length - (r.drop n).length : Nat) : Int) := by rw [wrap64 (by omega), hd]; omega
  have w3 : IntKind.i64.wrap (((B.length - (r.drop n).length : Nat) : Int) - (n : Int)) = ((B.length - r.length : Nat) : Int) := by rw [wrap64 (by omega), hd]; omega
  have c1 : ((0 : Int) ≤ ((B.length - r.length : Nat) : Int) ∧ ((B.length - r.length : Nat) : Int) ≤ ((B.length - (r.drop n).length : Nat) : Int) ∧ ((B.length - (r.drop n).length : Nat) : Int) ≤ (B.length : Int)) = True := eq_true ⟨by omega, by rw [hd]; omega, by omega⟩
  have n1 : (B.length - (r.drop n).length) - (B.length - r.length) = n := by rw [hd]; omega
  have hsd : B.drop (B.length - r.length) = r := hs
  simp only [ac_79, renL, ren, w1, e1, w2, w3, c1, n1, drop_B, take_B, hsd, not_true_eq_false, TT, ↓reduceIte, Nat.reduceEqDiff, Nat.reduceAdd, Nat.reduceMul, reduceCtorEq, Nat.reduceLeDiff]
  refine ⟨by rfl, by rfl, ?_⟩
  exact EndsR.data (r := fB fr (r.take n)) (.inr rfl) (by simp [ET, fB, List.length_take_of_le h]) (al_fB _) (by simp [ET])
theorem roct_err (y fr : Bool) (B r : List Int) (e : Int) (id nb : Nat) (hid : id < nb) (he : e ≠ 0) :
    ASound Tryz.prog 76 [.op id 0] nb (rowM id (rdRow y fr B r e) (.ret (.v (.int .i64 0)) [(id, some (rdRow y fr B r e))])) := by
  refine ok_76.soundR (by simp) ⟨rfl, trivial⟩ (by simp) ⟨al_B B, trivial, trivial, trivial⟩ ⟨al_B B, trivial, trivial, trivial⟩ rfl hid ?_
  have h := fun nb h => rtake_err y fr B r e 1 0 nb h he
  simp only [rdRow, fB] at h
  simp only [ac_76, renL, ren, TT, ↓reduceIte, Nat.reduceEqDiff, Nat.reduceAdd, Nat.reduceMul, reduceCtorEq, Nat.reduceLeDiff]
  refine ⟨_, h _ (by omega), ?_⟩
  simp only [he, not_false_eq_true, TT, ↓reduceIte, Nat.reduceEqDiff, Nat.reduceAdd, Nat.reduceMul, reduceCtorEq, Nat.reduceLeDiff]
  exact EndsR.data (.inr rfl) (by simp [ET]) trivial (by simp [ET])
theorem roct_spec (y fr : Bool) (B r : List Int) (id nb : Nat) (hid : id < nb) (hs : Suf B r) (hB : B.length ≤ 140737488355328) (hb : okB r) :
    ASound Tryz.prog 76 [.op id 0] nb (rowM id (rdRow y fr B r 0) (.ret (.v (.int .i64 (scOct r).1)) [(id, some (rdRow y fr B (scOct r).2.2 (scOct r).2.1))])) := by
  refine ok_76.soundR (by simp) ⟨rfl, trivial⟩ (by simp) ⟨al_B B, trivial, trivial, trivial⟩ ⟨al_B B, trivial, trivial, trivial⟩ rfl hid ?_
  cases r with
  | nil =>
    have h := fun nb h => rtake_short y fr B [] 1 0 nb h hs hB (by simp)
    simp only [rdRow, fB, List.length_nil, Nat.sub_zero] at h
    simp only [ac_76, renL, ren, Nat.sub_zero, TT, ↓reduceIte, Nat.reduceEqDiff, Nat.reduceAdd, Nat.reduceMul, reduceCtorEq, Nat.reduceLeDiff]
    refine ⟨_, h _ (by omega), ?_⟩
    have e8 : ¬ (8 : Int) = 0 := by decide
    simp only [e8, not_false_eq_true, TT, ↓reduceIte, Nat.reduceEqDiff, Nat.reduceAdd, Nat.reduceMul, reduceCtorEq, Nat.reduceLeDiff]
    exact EndsR.data (r := .v (.int .i64 0)) (.inr rfl) (by simp [ET]) trivial (by simp [ET, scOct])
  | cons x r =>
    have hx := hb x (by simp)
    have w1 : IntKind.i64.wrap x = x := wrap64 (by omega)
    have h := fun nb h => rtake_ok y fr B (x :: r) 1 0 nb h hs hB (by simp)
    simp only [rdRow, fB, List.length_cons, List.length_nil, List.drop_succ_cons, List.drop_zero, List.take_succ_cons, List.take_zero, Nat.zero_add] at h
    simp only [ac_76, renL, ren, TT, ↓reduceIte, Nat.reduceEqDiff, Nat.reduceAdd, Nat.reduceMul, reduceCtorEq, Nat.reduceLeDiff]
    refine ⟨_, h _ (by omega), ?_⟩
    have g0 : (eB [x])[Int.toNat 0]? = some (.v (.int .u8 x)) := rfl
    have g1 : ((0 : Int) ≤ 0 ∧ (0 : Int) < ((1 : Nat) : Int)) = True := eq_true ⟨by decide, by decide⟩
    simp only [g0, g1, w1, not_true_eq_false, TT, ↓reduceIte, Nat.reduceEqDiff, Nat.reduceAdd, Nat.reduceMul, reduceCtorEq, Nat.reduceLeDiff]
    exact EndsR.data (r := .v (.int .i64 x)) (.inr rfl) (by simp [ET]) trivial (by simp [ET, scOct])
theorem rcnt_err (y fr : Bool) (B r : List Int) (e : Int) (id nb : Nat) (hid : id < nb) (he : e ≠ 0) :
    ASound Tryz.prog 77 [.op id 0, .v (.int .i64 64)] nb (rowM id (rdRow y fr B r e) (.ret (.v (.int .i64 0)) [(id, some (rdRow y fr B r e))])) := by
  refine ok_77.soundR (by simp) ⟨rfl, trivial, trivial⟩ (by simp) ⟨al_B B, trivial, trivial, trivial⟩ ⟨al_B B, trivial, trivial, trivial⟩ rfl hid ?_
  have h := fun nb h => roct_err y fr B r e 0 nb h he
  simp only [rdRow, fB] at h
  simp only [ac_77, renL, ren, TT, ↓reduceIte, Nat.reduceEqDiff, Nat.reduceAdd, Nat.reduceMul, reduceCtorEq, Nat.reduceLeDiff]
  refine ⟨_, h _ (by omega), ?_⟩
  simp only [he, TT, ↓reduceIte, Nat.reduceEqDiff, Nat.reduceAdd, Nat.reduceMul, reduceCtorEq, Nat.reduceLeDiff]
  exact EndsR.data (.inr rfl) (by simp [ET]) trivial (by simp [ET])
theorem rcnt_spec (y fr : Bool) (B r : List Int) (id nb : Nat) (hid : id < nb) (hs : Suf B r) (hB : B.length ≤ 140737488355328) (hb : okB r) :
    ASound Tryz.prog 77 [.op id 0, .v (.int .i64 64)] nb (rowM id (rdRow y fr B r 0) (.ret (.v (.int .i64 (scCnt r).1)) [(id, some (rdRow y fr B (scCnt r).2.2 (scCnt r).2.1))])) := by
  refine ok_77.soundR (by simp) ⟨rfl, trivial, trivial⟩ (by simp) ⟨al_B B, trivial, trivial, trivial⟩ ⟨al_B B, trivial, trivial, trivial⟩ rfl hid ?_
  have h := fun nb h => roct_spec y fr B r 0 nb h hs hB hb
  simp only [rdRow, fB] at h
  simp only [ac_77, renL, ren, TT, ↓reduceIte, Nat.reduceEqDiff, Nat.reduceAdd, Nat.reduceMul, reduceCtorEq, Nat.reduceLeDiff]
  refine ⟨_, h _ (by omega), ?_⟩
  cases r with
  | nil =>
    have e8 : ¬ (8 : Int) = 0 := by decide
    simp only [scOct, e8, TT, ↓reduceIte, Nat.reduceEqDiff, Nat.reduceAdd, Nat.reduceMul, reduceCtorEq, Nat.reduceLeDiff]
    exact EndsR.data (r := .v (.int .i64 0)) (.inr rfl) (by simp [ET]) trivial (by simp [ET, scCnt, scOct])
  | cons x r =>
    by_cases h6 : 64 < x
    · have hg : scCnt (x :: r) = (x, 3, r) := by simp [scCnt, scOct, h6]
      rw [hg]
      simp only [scOct, h6, TT, ↓reduceIte, Nat.reduceEqDiff, Nat.reduceAdd, Nat.reduceMul, reduceCtorEq, Nat.reduceLeDiff]
      exact EndsR.data (r := .v (.int .i64 x)) (.inr rfl) (by simp [ET]) trivial (by simp [ET])
    · have hg : scCnt (x :: r) = (x, 0, r) := by simp [scCnt, scOct, h6]
      rw [hg]
      simp only [scOct, h6, TT, ↓reduceIte, Nat.reduceEqDiff, Nat.reduceAdd, Nat.reduceMul, reduceCtorEq, Nat.reduceLeDiff]
      exact EndsR.data (r := .v (.int .i64 x)) (.inr rfl) (by simp [ET]) trivial (by simp [ET])
end Go.Proofs.YtdenddhdeloceaaGreatDoor
/- Contracts: the document's reader: a number in groups. -/
namespace Go.Proofs.YtdenddhdeloceaaGreatDoor
open Go.RowKit
set_option maxRecDepth 100000
theorem rgrp_err (y fr : Bool) (B r : List Int) (e : Int) (id nb : Nat) (hid : id < nb) (he : e ≠ 0) :
    ASound Tryz.prog 78 [.op id 0] nb (rowM id (rdRow y fr B r e) (.ret (.v (.int .u64 0)) [(id, some (rdRow y fr B r e))])) := by
  refine ok_78.soundR (by simp) ⟨rfl, trivial⟩ (by simp) ⟨al_B B, trivial, trivial, trivial⟩ ⟨al_B B, trivial, trivial, trivial⟩ rfl hid ?_
  have h := fun nb h => roct_err y fr B r e 0 nb h he
  simp only [rdRow, fB] at h
  simp only [ac_78, renL, ren, TT, ↓reduceIte, Nat.reduceEqDiff, Nat.reduceAdd, Nat.reduceMul, reduceCtorEq, Nat.reduceLeDiff]
  refine AWc.family (fun _ : Unit => (⟨envOf [(0, .op 0 0), (3, .v (.int .u64 0)), (4, .v (.int .i64 0))], heapOf [(0, rdRow y fr B r e)], 1⟩ : ASt)) (fun _ => True) (fun _ => 0) () trivial ?_ ?_
  · refine Weak.calc [(0, 0)] (by decide) ?_ ?_ <;> simp [WT]
  · intro _ _
    have f10 : (0 : Int) < 10 := by decide
    simp only [f10, rdRow, TT, ↓reduceIte, Nat.reduceEqDiff, Nat.reduceAdd, Nat.reduceMul, reduceCtorEq, Nat.reduceLeDiff]
    refine ⟨_, h _ (by omega), ?_⟩
    simp only [he, not_false_eq_true, TT, ↓reduceIte, Nat.reduceEqDiff, Nat.reduceAdd, Nat.reduceMul, reduceCtorEq, Nat.reduceLeDiff]
    exact EndsR.data (.inr rfl) (by simp [ET]) trivial (by simp [ET])
abbrev L_rg (y fr : Bool) (B : List Int) (q : Nat × Nat × List Int) : ASt := ⟨envOf [(0, .op 0 0), (3, .v (.int .u64 q.2.1)), (4, .v (.int .i64 (q.1 : Int)))], heapOf [(0, rdRow y fr B q.2.2 0)], 1⟩
set_option maxHeartbeats 4000000 in
theorem rgrp_spec (y fr : Bool) (B l : List Int) (id nb : Nat) (hid : id < nb) (hS : Suf B l) (hB : B.length ≤ 140737488355328) (hb : okB l) :
    ASound Tryz.prog 78 [.op id 0] nb (rowM id (rdRow y fr B l 0) (.ret (.v (.int .u64 (scGrp 0 0 l).1)) [(id, some (rdRow y fr B (scGrp 0 0 l).2.2 (scGrp 0 0 l).2.1))])) := by
  refine ok_78.soundR (by simp) ⟨rfl, trivial⟩ (by simp) ⟨al_B B, trivial, trivial, trivial⟩ ⟨al_B B, trivial, trivial, trivial⟩ rfl hid ?_
  simp only [ac_78, renL, ren, TT, ↓reduceIte, Nat.reduceEqDiff, Nat.reduceAdd, Nat.reduceMul, reduceCtorEq, Nat.reduceLeDiff]
  refine AWc.family (L_rg y fr B) (fun q => scGrp q.1 q.2.1 q.2.2 = scGrp 0 0 l ∧ q.2.1 < 2 ^ (7 * q.1) ∧ q.1 ≤ 9 ∧ okB q.2.2 ∧ Suf B q.2.2) (fun q => q.2.2.length) (0, 0, l) ⟨rfl, by simp, by simp, hb, hS⟩ ?_ ?_
  · refine Weak.calc [(0, 0)] (by decide) ?_ ?_ <;> simp [WT]
  · rintro ⟨k, a, s⟩ ⟨he, ha, hk, hs, hS⟩
    simp only at he ha hk hs hS
    rw [← he]
    have f10 : (k : Int) < 10 := by omega
    cases s with
    | nil =>
      have h := fun nb h => roct_spec y fr B [] 0 nb h hS hB hs
      simp only [rdRow, scOct, fB, List.length_cons, List.length_nil, Nat.sub_zero] at h
      simp only [L_rg, rdRow, f10, Nat.sub_zero, TT, ↓reduceIte, Nat.reduceEqDiff, Nat.reduceAdd, Nat.reduceMul, reduceCtorEq, Nat.reduceLeDiff]
      refine ⟨_, h _ (by omega), ?_⟩
      have e8 : ¬ (8 : Int) = 0 := by decide
      simp only [e8, not_false_eq_true, TT, ↓reduceIte, Nat.reduceEqDiff, Nat.reduceAdd, Nat.reduceMul, reduceCtorEq, Nat.reduceLeDiff]
      exact EndsR.data (r := .v (.int .u64 0)) (.inr rfl) (by simp [ET]) trivial (by simp [ET, scGrp])
    | cons x r =>
      have hx := hs x (by simp)
      have hr : okB r := fun z hz => hs z (by simp [hz])
      have hSr : Suf B r := hS.drop 1
      have h := fun nb h => roct_spec y fr B (x :: r) 0 nb h hS hB hs
      simp only [rdRow, scOct, fB, List.length_cons, List.length_nil] at h
      have e3 : (2 : Nat) ^ 64 = 18446744073709551616 := by decide
      have hm : (x % 128).toNat ≤ 127 := by omega
      have hp : 0 < 2 ^ (7 * k) := Nat.pow_pos (by decide)
      have sd : ∀ h3 : a + (x % 128).toNat * 2 ^ (7 * k) < 2 ^ 64, (x % 128).toNat * 2 ^ (7 * k) < 2 ^ 64 := fun h3 => by omega
      have w7 : IntKind.i64.wrap ((k : Int) + 1) = ((k + 1 : Nat) : Int) := by rw [wrap64 (by omega)]; omega
      have w8 : IntKind.i64.wrap (7 * (k : Int)) = 7 * (k : Int) := wrap64 (by omega)
      have wu : IntKind.u64.wrap ((x % 128).toNat : Int) = ((x % 128).toNat : Int) := by rw [u64_mod]; omega
      by_cases hbad : (k = 9 ∧ 1 < x) ∨ (0 < k ∧ x = 0)
      · have hg : scGrp k a (x :: r) = (0, 4, r) := by rw [scGrp, if_pos hbad]
        rw [hg]
        by_cases k9 : k = 9
        · have f9 : (k : Int) = 9 := by omega
          by_cases x1 : 1 < x
          · simp only [L_rg, rdRow, f10, TT, ↓reduceIte, Nat.reduceEqDiff, Nat.reduceAdd, Nat.reduceMul, reduceCtorEq, Nat.reduceLeDiff]
            refine ⟨_, h _ (by omega), ?_⟩
            simp only [f9, x1, not_false_eq_true, not_true_eq_false, TT, ↓reduceIte, Nat.reduceEqDiff, Nat.reduceAdd, Nat.reduceMul, reduceCtorEq, Nat.reduceLeDiff]
            exact EndsR.data (r := .v (.int .u64 0)) (.inr rfl) (by simp [ET]) trivial (by simp [ET])
          · have x0 : x = 0 := by omega
            subst x0
            have f0 : ((0 : Int) < 9) := by decide
            simp only [L_rg, rdRow, f10, TT, ↓reduceIte, Nat.reduceEqDiff, Nat.reduceAdd, Nat.reduceMul, reduceCtorEq, Nat.reduceLeDiff]
            refine ⟨_, h _ (by omega), ?_⟩
            simp only [f9, x1, f0, not_false_eq_true, not_true_eq_false, TT, ↓reduceIte, Nat.reduceEqDiff, Nat.reduceAdd, Nat.reduceMul, reduceCtorEq, Nat.reduceLeDiff]
            exact EndsR.data (r := .v (.int .u64 0)) (.inr rfl) (by simp [ET]) trivial (by simp [ET])
        · have f9 : ¬ (k : Int) = 9 := by omega
          have x0 : x = 0 := by omega
          subst x0
          have f0 : ((0 : Int) < (k : Int)) := by omega
          simp only [L_rg, rdRow, f10, TT, ↓reduceIte, Nat.reduceEqDiff, Nat.reduceAdd, Nat.reduceMul, reduceCtorEq, Nat.reduceLeDiff]
          refine ⟨_, h _ (by omega), ?_⟩
          simp only [f9, f0, not_false_eq_true, not_true_eq_false, TT, ↓reduceIte, Nat.reduceEqDiff, Nat.reduceAdd, Nat.reduceMul, reduceCtorEq, Nat.reduceLeDiff]
          exact EndsR.data (r := .v (.int .u64 0)) (.inr rfl) (by simp [ET]) trivial (by simp [ET])
      · have hsum : a + (x % 128).toNat * 2 ^ (7 * k) < 2 ^ 64 := by
          by_cases k9 : k = 9
          · subst k9
            have h3 : (x % 128).toNat * 2 ^ (7 * 9) ≤ 1 * 2 ^ (7 * 9) := Nat.mul_le_mul_right _ (by omega)
            have e1 : (2 : Nat) ^ (7 * 9) = 9223372036854775808 := by decide
            rw [e1] at h3 ha ⊢; omega
          · have h3 : (x % 128).toNat * 2 ^ (7 * k) ≤ 127 * 2 ^ (7 * k) := Nat.mul_le_mul_right _ hm
            have h4 : 2 ^ (7 * k) ≤ 2 ^ 56 := Nat.pow_le_pow_right (by decide) (by omega)
            have e1 : (2 : Nat) ^ 56 = 72057594037927936 := by decide
            rw [e1] at h4; omega
        have ss := sc_shl (m := (x % 128).toNat) (sd hsum) hk
        have so := sc_or ha hsum
        have sa := sc_and hx
        by_cases k9 : k = 9
        · have f9 : (k : Int) = 9 := by omega
          have x1 : ¬ 1 < x := by omega
          have x0 : ¬ x = 0 := by omega
          have f0 : ((0 : Int) < 9) := by decide
          have hlt : x < 128 := by omega
          have hg : scGrp k a (x :: r) = (a + (x % 128).toNat * 2 ^ (7 * k), 0, r) := by rw [scGrp, if_neg hbad, if_pos hlt]
          rw [hg]
          rw [f9] at ss w8
          simp only [L_rg, rdRow, f10, TT, ↓reduceIte, Nat.reduceEqDiff, Nat.reduceAdd, Nat.reduceMul, reduceCtorEq, Nat.reduceLeDiff]
          refine ⟨_, h _ (by omega), ?_⟩
          simp only [f9, x1, x0, f0, hlt, sa, wu, w8, ss, so, not_false_eq_true, not_true_eq_false, TT, ↓reduceIte, Nat.reduceEqDiff, Nat.reduceAdd, Nat.reduceMul, reduceCtorEq, Nat.reduceLeDiff]
          exact EndsR.data (r := .v (.int .u64 (a + (x % 128).toNat * 2 ^ (7 * k) : Nat))) (.inr rfl) (by simp [ET]) trivial (by simp [ET])
        · have f9 : ¬ (k : Int) = 9 := by omega
          by_cases k0 : k = 0
          · have f0 : ¬ ((0 : Int) < (k : Int)) := by omega
            by_cases x0 : x = 0
            · have hlt : x < 128 := by omega
              have hg : scGrp k a (x :: r) = (a + (x % 128).toNat * 2 ^ (7 * k), 0, r) := by rw [scGrp, if_neg hbad, if_pos hlt]
              rw [hg]
              subst x0
              simp only [L_rg, rdRow, f10, TT, ↓reduceIte, Nat.reduceEqDiff, Nat.reduceAdd, Nat.reduceMul, reduceCtorEq, Nat.reduceLeDiff]
              refine ⟨_, h _ (by omega), ?_⟩
              simp only [f9, f0, hlt, sa, wu, w8, ss, so, not_false_eq_true, not_true_eq_false, TT, ↓reduceIte, Nat.reduceEqDiff, Nat.reduceAdd, Nat.reduceMul, reduceCtorEq, Nat.reduceLeDiff]
              exact EndsR.data (r := .v (.int .u64 (a + ((0 : Int) % 128).toNat * 2 ^ (7 * k) : Nat))) (.inr rfl) (by simp [ET]) trivial (by simp [ET])
            · by_cases hlt : x < 128
              · have hg : scGrp k a (x :: r) = (a + (x % 128).toNat * 2 ^ (7 * k), 0, r) := by rw [scGrp, if_neg hbad, if_pos hlt]
                rw [hg]
                simp only [L_rg, rdRow, f10, TT, ↓reduceIte, Nat.reduceEqDiff, Nat.reduceAdd, Nat.reduceMul, reduceCtorEq, Nat.reduceLeDiff]
                refine ⟨_, h _ (by omega), ?_⟩
                simp only [f9, f0, x0, hlt, sa, wu, w8, ss, so, not_false_eq_true, not_true_eq_false, TT, ↓reduceIte, Nat.reduceEqDiff, Nat.reduceAdd, Nat.reduceMul, reduceCtorEq, Nat.reduceLeDiff]
                exact EndsR.data (r := .v (.int .u64 (a + (x % 128).toNat * 2 ^ (7 * k) : Nat))) (.inr rfl) (by simp [ET]) trivial (by simp [ET])
              · have hg : scGrp k a (x :: r) = scGrp (k + 1) (a + (x % 128).toNat * 2 ^ (7 * k)) r := by rw [scGrp, if_neg hbad, if_neg hlt]
                have ha2 : a + (x % 128).toNat * 2 ^ (7 * k) < 2 ^ (7 * (k + 1)) := by
                  have h3 : (x % 128).toNat * 2 ^ (7 * k) ≤ 127 * 2 ^ (7 * k) := Nat.mul_le_mul_right _ hm
                  rw [show 7 * (k + 1) = 7 * k + 7 from by omega, Nat.pow_add]
                  omega
                simp only [L_rg, rdRow, f10, TT, ↓reduceIte, Nat.reduceEqDiff, Nat.reduceAdd, Nat.reduceMul, reduceCtorEq, Nat.reduceLeDiff]
                refine ⟨_, h _ (by omega), ?_⟩
                simp only [f9, f0, x0, hlt, sa, wu, w8, ss, so, w7, not_false_eq_true, not_true_eq_false, TT, ↓reduceIte, Nat.reduceEqDiff, Nat.reduceAdd, Nat.reduceMul, reduceCtorEq, Nat.reduceLeDiff]
                refine famC_next (k + 1, a + (x % 128).toNat * 2 ^ (7 * k), r) (by simp) ⟨?_, ha2, by simp only; omega, hr, hSr⟩ ?_
                · simp only; rw [← hg, he]
                · refine Weak.calc [(0, 0)] (by decide) ?_ ?_ <;> simp [WT]
          · have f0 : ((0 : Int) < (k : Int)) := by omega
            have x0 : ¬ x = 0 := by omega
            by_cases hlt : x < 128
            · have hg : scGrp k a (x :: r) = (a + (x % 128).toNat * 2 ^ (7 * k), 0, r) := by rw [scGrp, if_neg hbad, if_pos hlt]
              rw [hg]
              simp only [L_rg, rdRow, f10, TT, ↓reduceIte, Nat.reduceEqDiff, Nat.reduceAdd, Nat.reduceMul, reduceCtorEq, Nat.reduceLeDiff]
              refine ⟨_, h _ (by omega), ?_⟩
              simp only [f9, f0, x0, hlt, sa, wu, w8, ss, so, not_false_eq_true, not_true_eq_false, TT, ↓reduceIte, Nat.reduceEqDiff, Nat.reduceAdd, Nat.reduceMul, reduceCtorEq, Nat.reduceLeDiff]
              exact EndsR.data (r := .v (.int .u64 (a + (x % 128).toNat * 2 ^ (7 * k) : Nat))) (.inr rfl) (by simp [ET]) trivial (by simp [ET])
            · have hg : scGrp k a (x :: r) = scGrp (k + 1) (a + (x % 128).toNat * 2 ^ (7 * k)) r := by rw [scGrp, if_neg hbad, if_neg hlt]
              have ha2 : a + (x % 128).toNat * 2 ^ (7 * k) < 2 ^ (7 * (k + 1)) := by
                have h3 : (x % 128).toNat * 2 ^ (7 * k) ≤ 127 * 2 ^ (7 * k) := Nat.mul_le_mul_right _ hm
                rw [show 7 * (k + 1) = 7 * k + 7 from by omega, Nat.pow_add]
                omega
              simp only [L_rg, rdRow, f10, TT, ↓reduceIte, Nat.reduceEqDiff, Nat.reduceAdd, Nat.reduceMul, reduceCtorEq, Nat.reduceLeDiff]
              refine ⟨_, h _ (by omega), ?_⟩
              simp only [f9, f0, x0, hlt, sa, wu, w8, ss, so, w7, not_false_eq_true, not_true_eq_false, TT, ↓reduceIte, Nat.reduceEqDiff, Nat.reduceAdd, Nat.reduceMul, reduceCtorEq, Nat.reduceLeDiff]
              refine famC_next (k + 1, a + (x % 128).toNat * 2 ^ (7 * k), r) (by simp) ⟨?_, ha2, by simp only; omega, hr, hSr⟩ ?_
              · simp only; rw [← hg, he]
              · refine Weak.calc [(0, 0)] (by decide) ?_ ?_ <;> simp [WT]
end Go.Proofs.YtdenddhdeloceaaGreatDoor
/- Functions of the program, compiled. -/
namespace Go.Proofs.YtdenddhdeloceaaGreatDoor
set_option maxRecDepth 100000
def ac_40t : AC :=
(.seq (.block 4 (.seq (.reg false [⟨some 100, .mv (.tmp 6), none, [6], []⟩,
    ⟨some 101, .nilc (.tmp 100), none, [100], []⟩,
    ⟨some 102, .foff 2 (.tmp 101), none, [101], []⟩,
    ⟨some 103, .load false 1 (.tmp 102), none, [102], []⟩,
    ⟨some 104, .bin .neq (.tmp 103) (.const (.int .i64 (0))), none, [103], []⟩,
    ⟨some 99, .mv (.tmp 104), none, [104], []⟩] [2, 4, 6, 7, 99])
(.cond (.tmp 99)
(.seq (.reg true [⟨some 105, .build [(.int .i64 (0)), (.slice none 0 0), (.slice none 0 0)] [], none, [], []⟩,
    ⟨some 106, .mv (.tmp 6), none, [6], []⟩,
    ⟨some 107, .nilc (.tmp 106), none, [106], [1]⟩,
    ⟨some 108, .foff 2 (.tmp 107), none, [107], [2, 1]⟩,
    ⟨some 109, .load false 1 (.tmp 108), none, [108], [3, 2, 1]⟩,
    ⟨none, .store 3 (.tmp 2) (.tmp 105), none, [2, 105], [0]⟩,
    ⟨some 3, .mv (.tmp 109), none, [109], [4, 5, 0, 1, 2, 3]⟩] [2, 3])
.ret)
(.seq (.reg false [⟨some 111, .mv (.tmp 6), none, [6], []⟩,
    ⟨some 112, .nilc (.tmp 111), none, [111], []⟩,
    ⟨some 113, .foff 1 (.tmp 112), none, [112], []⟩,
    ⟨some 114, .load false 1 (.tmp 113), none, [113], []⟩,
    ⟨some 115, .mv (.tmp 4), none, [4], []⟩,
    ⟨some 116, .len false (.tmp 115), none, [115], []⟩,
    ⟨some 117, .bin .lss (.tmp 114) (.tmp 116), none, [114, 116], []⟩,
    ⟨some 110, .mv (.tmp 117), none, [117], []⟩] [2, 7, 110])
(.cond (.tmp 110)
(.seq (.reg false [⟨some 118, .build [(.int .i64 (0)), (.slice none 0 0), (.slice none 0 0)] [], none, [], []⟩,
    ⟨none, .store 3 (.tmp 2) (.tmp 118), none, [2, 118], []⟩,
    ⟨some 3, .mv (.const (.int .i64 (23))), none, [], []⟩] [2, 3])
.ret)
.skip)))))
(.seq (.reg false [⟨some 119, .load true 3 (.tmp 7), none, [7], []⟩,
    ⟨none, .store 3 (.tmp 2) (.tmp 119), none, [2, 119], []⟩,
    ⟨some 3, .mv (.const (.int .i64 (0))), none, [], []⟩] [2, 3])
.ret))
def ac_40b : AC :=
(.seq (.reg false [⟨some 60, .mv (.tmp 6), none, [6], []⟩,
    ⟨some 61, .call 77 [(.tmp 60), (.const (.int .i64 (64)))], none, [60], []⟩,
    ⟨some 12, .mv (.tmp 61), none, [61], []⟩] [2, 4, 6, 7, 12])
(.seq (.seq (.reg false [⟨some 13, .mv (.const (.int .i64 (0))), none, [], []⟩] [2, 4, 6, 7, 12, 13])
(.block 2 (.loop (.seq (.seq (.reg false [⟨some 62, .mv (.tmp 13), none, [13], []⟩,
    ⟨some 63, .mv (.tmp 12), none, [12], []⟩,
    ⟨some 64, .bin .lss (.tmp 62) (.tmp 63), none, [62, 63], []⟩,
    ⟨some 65, .mv (.tmp 64), none, [64], []⟩,
    ⟨some 66, .mv (.tmp 6), some (65, true), [6, 65], []⟩,
    ⟨some 67, .nilc (.tmp 66), some (65, true), [66, 65], []⟩,
    ⟨some 68, .foff 2 (.tmp 67), some (65, true), [67, 65], []⟩,
    ⟨some 69, .load false 1 (.tmp 68), some (65, true), [68, 65], []⟩,
    ⟨some 70, .bin .eql (.tmp 69) (.const (.int .i64 (0))), some (65, true), [69, 65], []⟩,
    ⟨some 71, .pick (.tmp 65) (.tmp 70) (.const (.bool false)), none, [65, 70], []⟩] [2, 4, 6, 7, 12, 13, 71])
(.cond (.tmp 71)
.skip
(.exit 2)))
(.seq (.block 3 (.seq (.reg false [⟨some 74, .mv (.tmp 6), none, [6], []⟩,
    ⟨some 75, .call 78 [(.tmp 74)], none, [74], []⟩,
    ⟨some 14, .mv (.tmp 75), none, [75], []⟩] [2, 4, 6, 7, 12, 13, 14])
(.seq (.seq (.reg false [⟨some 76, .mv (.tmp 6), none, [6], []⟩,
    ⟨some 77, .nilc (.tmp 76), none, [76], []⟩,
    ⟨some 78, .foff 2 (.tmp 77), none, [77], []⟩,
    ⟨some 79, .load false 1 (.tmp 78), none, [78], []⟩,
    ⟨some 80, .bin .eql (.tmp 79) (.const (.int .i64 (0))), none, [79], []⟩,
    ⟨some 81, .mv (.tmp 80), none, [80], []⟩,
    ⟨some 82, .mv (.tmp 14), some (81, true), [14, 81], []⟩,
    ⟨some 83, .bin .gtr (.tmp 82) (.const (.int .u64 (4096))), some (81, true), [82, 81], []⟩,
    ⟨some 84, .pick (.tmp 81) (.tmp 83) (.const (.bool false)), none, [81, 83], []⟩] [2, 4, 6, 7, 12, 13, 14, 84])
(.cond (.tmp 84)
(.reg false [⟨some 85, .mv (.tmp 6), none, [6], []⟩,
    ⟨some 86, .nilc (.tmp 85), none, [85], []⟩,
    ⟨some 87, .foff 2 (.tmp 86), none, [86], []⟩,
    ⟨none, .store 1 (.tmp 87) (.const (.int .i64 (5))), none, [87], []⟩] [2, 4, 6, 7, 12, 13, 14])
.skip))
(.reg true [⟨some 88, .foff 2 (.tmp 7), none, [7], []⟩,
    ⟨some 89, .load false 1 (.tmp 88), none, [88], [0]⟩,
    ⟨some 90, .mv (.tmp 6), none, [6], []⟩,
    ⟨some 91, .mv (.tmp 14), none, [14], []⟩,
    ⟨some 92, .bin .and (.tmp 91) (.const (.int .u64 (8191))), none, [91], [3]⟩,
    ⟨some 93, .conv .i64 (.tmp 92), none, [92], [4, 3]⟩,
    ⟨some 94, .call 79 [(.tmp 90), (.tmp 93)], none, [90, 93], [2, 5, 4, 3]⟩,
    ⟨some 95, .call 57 [(.tmp 94)], none, [94], [6, 2, 5, 4, 3]⟩,
    ⟨some 96, .bslice 22 1 1 [(.slice none 0 0)] [(0, 1, (.tmp 95))], none, [95], [7, 6, 2, 5, 4, 3]⟩,
    ⟨some 97, .append 22 1 24 (.tmp 89) (.tmp 96), none, [89, 96], [1, 8, 7, 0, 6, 2, 5, 4, 3]⟩,
    ⟨some 98, .foff 2 (.tmp 7), none, [7], [0, 1, 2, 3, 4, 5, 6, 7, 8, 9]⟩,
    ⟨none, .store 1 (.tmp 98) (.tmp 97), none, [98, 97], [10, 9, 0, 1, 2, 3, 4, 5, 6, 7, 8]⟩] [2, 4, 6, 7, 12, 13]))))
(.reg false [⟨some 72, .mv (.tmp 13), none, [13], []⟩,
    ⟨some 73, .bin .add (.tmp 72) (.const (.int .i64 (1))), none, [72], []⟩,
    ⟨some 13, .mv (.tmp 73), none, [73], []⟩] [2, 4, 6, 7, 12, 13]))))))
(.weak ac_40t)))
def ac_40c : AC :=
(.seq (.reg false [⟨some 2, .new 79 [(.int .i64 (0)), (.slice none 0 0), (.slice none 0 0)], none, [], []⟩,
    ⟨some 3, .mv (.const (.int .i64 (0))), none, [], []⟩] [0, 2])
(.seq (.reg false [⟨some 16, .mv (.tmp 0), none, [0], []⟩,
    ⟨some 17, .call 75 [(.tmp 16)], none, [16], []⟩,
    ⟨some 15, .mv (.tmp 17), none, [17], []⟩,
    ⟨some 18, .ext 0 (.tmp 15), none, [15], []⟩,
    ⟨some 19, .ext 1 (.tmp 15), none, [15], []⟩,
    ⟨some 4, .mv (.tmp 18), none, [18], []⟩,
    ⟨some 5, .mv (.tmp 19), none, [19], []⟩] [2, 4, 5])
(.seq (.seq (.reg false [⟨some 20, .mv (.tmp 5), none, [5], []⟩,
    ⟨some 21, .bin .neq (.tmp 20) (.const (.int .i64 (0))), none, [20], []⟩] [2, 4, 5, 21])
(.cond (.tmp 21)
(.seq (.reg false [⟨some 22, .build [(.int .i64 (0)), (.slice none 0 0), (.slice none 0 0)] [], none, [], []⟩,
    ⟨some 23, .mv (.tmp 5), none, [5], []⟩,
    ⟨none, .store 3 (.tmp 2) (.tmp 22), none, [2, 22], []⟩,
    ⟨some 3, .mv (.tmp 23), none, [23], []⟩] [2, 3])
.ret)
.skip))
(.seq (.reg false [⟨some 24, .mv (.tmp 4), none, [4], []⟩,
    ⟨some 25, .build [(.slice none 0 0), (.int .i64 (0)), (.int .i64 (0))] [(0, 1, (.tmp 24))], none, [24], []⟩,
    ⟨some 26, .box 128 (.tmp 25), none, [25], []⟩,
    ⟨some 6, .mv (.tmp 26), none, [26], []⟩] [2, 4, 6])
(.seq (.reg false [⟨some 27, .mv (.tmp 6), none, [6], []⟩,
    ⟨some 28, .call 76 [(.tmp 27)], none, [27], []⟩,
    ⟨some 29, .build [(.int .i64 (0)), (.slice none 0 0), (.slice none 0 0)] [(0, 1, (.tmp 28))], none, [28], []⟩,
    ⟨some 7, .new 79 [(.int .i64 (0)), (.slice none 0 0), (.slice none 0 0)], none, [], []⟩,
    ⟨none, .store 3 (.tmp 7) (.tmp 29), none, [7, 29], []⟩] [2, 4, 6, 7])
(.seq (.reg false [⟨some 30, .mv (.tmp 6), none, [6], []⟩,
    ⟨some 31, .call 77 [(.tmp 30), (.const (.int .i64 (64)))], none, [30], []⟩,
    ⟨some 8, .mv (.tmp 31), none, [31], []⟩] [2, 4, 6, 7, 8])
(.seq (.seq (.reg false [⟨some 9, .mv (.const (.int .i64 (0))), none, [], []⟩] [2, 4, 6, 7, 8, 9])
(.block 0 (.loop (.seq (.seq (.reg false [⟨some 32, .mv (.tmp 9), none, [9], []⟩,
    ⟨some 33, .mv (.tmp 8), none, [8], []⟩,
    ⟨some 34, .bin .lss (.tmp 32) (.tmp 33), none, [32, 33], []⟩,
    ⟨some 35, .mv (.tmp 34), none, [34], []⟩,
    ⟨some 36, .mv (.tmp 6), some (35, true), [6, 35], []⟩,
    ⟨some 37, .nilc (.tmp 36), some (35, true), [36, 35], []⟩,
    ⟨some 38, .foff 2 (.tmp 37), some (35, true), [37, 35], []⟩,
    ⟨some 39, .load false 1 (.tmp 38), some (35, true), [38, 35], []⟩,
    ⟨some 40, .bin .eql (.tmp 39) (.const (.int .i64 (0))), some (35, true), [39, 35], []⟩,
    ⟨some 41, .pick (.tmp 35) (.tmp 40) (.const (.bool false)), none, [35, 40], []⟩] [2, 4, 6, 7, 8, 9, 41])
(.cond (.tmp 41)
.skip
(.exit 0)))
(.seq (.block 1 (.seq (.reg false [⟨some 44, .mv (.tmp 6), none, [6], []⟩,
    ⟨some 45, .call 78 [(.tmp 44)], none, [44], []⟩,
    ⟨some 10, .mv (.tmp 45), none, [45], []⟩] [2, 4, 6, 7, 8, 9, 10])
(.seq (.reg false [⟨some 46, .mv (.tmp 10), none, [10], []⟩,
    ⟨some 47, .bin .shr (.tmp 46) (.const (.int .u64 (1))), none, [46], []⟩,
    ⟨some 48, .conv .i64 (.tmp 47), none, [47], []⟩,
    ⟨some 11, .mv (.tmp 48), none, [48], []⟩] [2, 4, 6, 7, 8, 9, 10, 11])
(.seq (.seq (.reg false [⟨some 49, .mv (.tmp 10), none, [10], []⟩,
    ⟨some 50, .bin .and (.tmp 49) (.const (.int .u64 (1))), none, [49], []⟩,
    ⟨some 51, .bin .eql (.tmp 50) (.const (.int .u64 (1))), none, [50], []⟩] [2, 4, 6, 7, 8, 9, 11, 51])
(.cond (.tmp 51)
(.reg false [⟨some 52, .mv (.tmp 11), none, [11], []⟩,
    ⟨some 53, .un .xor (.tmp 52), none, [52], []⟩,
    ⟨some 11, .mv (.tmp 53), none, [53], []⟩] [2, 4, 6, 7, 8, 9, 11])
.skip))
(.reg false [⟨some 54, .foff 1 (.tmp 7), none, [7], []⟩,
    ⟨some 55, .load false 1 (.tmp 54), none, [54], []⟩,
    ⟨some 56, .mv (.tmp 11), none, [11], []⟩,
    ⟨some 57, .bslice 3 1 1 [(.int .i64 (0))] [(0, 1, (.tmp 56))], none, [56], []⟩,
    ⟨some 58, .append 3 1 8 (.tmp 55) (.tmp 57), none, [55, 57], []⟩,
    ⟨some 59, .foff 1 (.tmp 7), none, [7], []⟩,
    ⟨none, .store 1 (.tmp 59) (.tmp 58), none, [59, 58], []⟩] [2, 4, 6, 7, 8, 9])))))
(.reg false [⟨some 42, .mv (.tmp 9), none, [9], []⟩,
    ⟨some 43, .bin .add (.tmp 42) (.const (.int .i64 (1))), none, [42], []⟩,
    ⟨some 9, .mv (.tmp 43), none, [43], []⟩] [2, 4, 6, 7, 8, 9]))))))
(.weak ac_40b))))))))
theorem ok_40c : FnOk Tryz.prog 40 120 ac_40c [.cell 2 true 3, .tmp 3] := ⟨Tryz.f40, Tryz.func40, by kernel_rfl, by kernel_rfl, by kernel_rfl, by kernel_rfl, by kernel_rfl⟩
end Go.Proofs.YtdenddhdeloceaaGreatDoor
/- Contracts: the document's Decode: its tail, its texts. -/
namespace Go.Proofs.YtdenddhdeloceaaGreatDoor
open Go.RowKit
set_option maxRecDepth 100000
theorem copied_specF (fr : Bool) (l : List Int) (nb : Nat) (h : l.length ≤ 140737488355328) : ASound Tryz.prog 57 [fB fr l] nb (.ret (fB true l) []) := by
  refine ok_57.sound (by simp) ⟨al_fB l, trivial⟩ ?_
  simp only [ac_57, len_B, h, TT, ↓reduceIte, Nat.reduceEqDiff, Nat.reduceAdd, Nat.reduceMul, reduceCtorEq, Nat.reduceLeDiff]
  refine Ends.weak (Weak.freezeC 400000 rfl (l := [(2, fB true l)]) (h := []) ?_ ?_) (Ends.data (.inr rfl) (by simp [ET, fB]) (al_fB l))
  · simp [WT]
  · simp [WT]
/-- what the tail answers -/
def tailR (k : Int) (ns : List Int) (ts : List (List Int)) (e : Int) (rest : List Int) : Rec × Int := if e ≠ 0 then (rec0, e) else if 0 < rest.length then (rec0, 23) else (⟨k, ns, ts⟩, 0)
abbrev L_rt (b : List Int) (k : Int) (ns : List Int) (ts : List (List Int)) (e : Int) (rest : List Int) : ASt := ⟨envOf [(2, .op 0 0), (4, fB true b), (6, .op 1 0), (7, .op 2 0)],
  heapOf [(0, .row true 79 [.v (.int .i64 0), .v (.slice none 0 0), .v (.slice none 0 0)]), (1, rdRow true true b rest e), (2, .row true 79 [.v (.int .i64 k), .os 3 0 ns.length 1, .os 4 0 ts.length 1]), (3, .row true 3 (eI ns)), (4, .row true 22 (eL true ts))], 5⟩
set_option maxHeartbeats 2000000 in
theorem rdec_tail (b : List Int) (k : Int) (ns : List Int) (ts : List (List Int)) (e : Int) (rest : List Int) (nb : Nat) (hS : Suf b rest) :
    wpC Tryz.prog 120 0 ac_40t (L_rt b k ns ts e rest) (Ends 120 [.cell 2 true 3, .tmp 3] nb (.tup [aRec true (tailR k ns ts e rest).1, .v (.int .i64 (tailR k ns ts e rest).2)]) []) := by
  have hl := hS.le
  by_cases he : e = 0
  · subst he
    by_cases h0 : 0 < rest.length
    · have hr : tailR k ns ts 0 rest = (rec0, 23) := by simp [tailR, h0]
      have f1 : ((b.length - rest.length : Nat) : Int) < (b.length : Int) := by omega
      rw [hr]
      simp only [ac_40t, L_rt, rdRow, f1, not_true_eq_false, TT, ↓reduceIte, Nat.reduceEqDiff, Nat.reduceAdd, Nat.reduceMul, reduceCtorEq, Nat.reduceLeDiff]
      exact Ends.imp (r0 := .tup [.agg [.v (.int .i64 0), .v (.slice none 0 0), .v (.slice none 0 0)], .v (.int .i64 23)]) (.inr rfl) (by simp [ET]) ⟨⟨trivial, trivial, trivial, trivial⟩, trivial, trivial⟩ (imp_rec0 23)
    · have hr : tailR k ns ts 0 rest = (⟨k, ns, ts⟩, 0) := by simp [tailR, h0]
      have f1 : ¬ ((b.length - rest.length : Nat) : Int) < (b.length : Int) := by omega
      rw [hr]
      simp only [ac_40t, L_rt, rdRow, f1, not_true_eq_false, TT, ↓reduceIte, Nat.reduceEqDiff, Nat.reduceAdd, Nat.reduceMul, reduceCtorEq, Nat.reduceLeDiff]
      refine Ends.weak (Weak.freezeC 3 rfl (l := [(2, .op 0 0), (3, .v (.int .i64 0))]) (h := [(0, .row true 79 [.v (.int .i64 k), fI true ns, .os 4 0 ts.length 1]), (4, .row true 22 (eL true ts))]) ?_ ?_) ?_
      · simp [WT]
      · simp [WT]
      refine Ends.weak (Weak.freezeC 4 rfl (l := [(2, .op 0 0), (3, .v (.int .i64 0))]) (h := [(0, .row true 79 [.v (.int .i64 k), fI true ns, fL true ts])]) ?_ ?_) (Ends.data (r := .tup [aRec true ⟨k, ns, ts⟩, .v (.int .i64 0)]) (.inr rfl) (by simp [ET, aRec]) ⟨al_aRec _, trivial, trivial⟩)
      · simp [WT]
      · simp [WT]
  · have hr : tailR k ns ts e rest = (rec0, e) := by simp [tailR, he]
    rw [hr]
    simp only [ac_40t, L_rt, rdRow, he, not_false_eq_true, TT, ↓reduceIte, Nat.reduceEqDiff, Nat.reduceAdd, Nat.reduceMul, reduceCtorEq, Nat.reduceLeDiff]
    refine ⟨by rfl, ?_⟩
    exact Ends.imp (r0 := .tup [.agg [.v (.int .i64 0), .v (.slice none 0 0), .v (.slice none 0 0)], .v (.int .i64 e)]) (.inr rfl) (by simp [ET]) ⟨⟨trivial, trivial, trivial, trivial⟩, trivial, trivial⟩ (imp_rec0 e)
end Go.Proofs.YtdenddhdeloceaaGreatDoor
/- Contracts: the document's Decode: its texts. -/
namespace Go.Proofs.YtdenddhdeloceaaGreatDoor
open Go.RowKit
set_option maxRecDepth 100000
theorem cnt_any {α : Type} (f : List Int → α × Int × List Int) (B r : List Int) (e : Int) (hS : Suf B r) (hB : B.length ≤ 140737488355328) (hb : okB r) : ∃ (N : Nat) (e0 : Int) (r0 : List Int),
    (∀ id nb, id < nb → ASound Tryz.prog 77 [.op id 0, .v (.int .i64 64)] nb (rowM id (rdRow true true B r e) (.ret (.v (.int .i64 (N : Int))) [(id, some (rdRow true true B r0 e0))]))) ∧
    manyI f N (if e ≠ 0 then ([], e, r) else scList f r) 0 [] e0 r0 ∧ Suf B r0 := by
  by_cases he : e = 0
  · subst he
    refine ⟨(scCnt r).1.toNat, (scCnt r).2.1, (scCnt r).2.2, fun id nb hid => ?_, ?_, ?_⟩
    · rw [cnt_nn hb]; exact rcnt_spec true true B r id nb hid hS hB hb
    · rw [if_neg (by simp)]; exact manyI.start f r hb
    · rw [scCnt_rest]; exact hS.drop 1
  · refine ⟨0, e, r, fun id nb hid => rcnt_err true true B r e id nb hid he, ⟨by simp, by omega, hb, .inr ⟨he, by rw [if_pos he]⟩⟩, hS⟩
theorem and_8191 {m : Nat} (h : m ≤ 4096) : IntKind.u64.wrap ((BitVec.ofInt IntKind.u64.bits (m : Int) &&& BitVec.ofInt IntKind.u64.bits 8191).toNat : Int) = (m : Int) := by
  have h1 : (BitVec.ofInt IntKind.u64.bits (m : Int) &&& BitVec.ofInt IntKind.u64.bits 8191).toNat = m := by
    show (BitVec.ofInt 64 (m : Int) &&& BitVec.ofInt 64 8191).toNat = _
    rw [BitVec.toNat_and, ofInt64, ofInt64, show ((8191 : Int) % 18446744073709551616).toNat = 8191 from rfl, show ((m : Int) % 18446744073709551616).toNat = m from by omega]
    have := Nat.and_two_pow_sub_one_eq_mod m 13
    rw [show 2 ^ 13 - 1 = 8191 from rfl, show 2 ^ 13 = 8192 from rfl] at this
    rw [this]; omega
  rw [h1, u64_mod]; omega
abbrev res0 : AObj := .row true 79 [.v (.int .i64 0), .v (.slice none 0 0), .v (.slice none 0 0)]
abbrev L_rb (b : List Int) (k : Int) (ns : List Int) (e : Int) (rest : List Int) : ASt := ⟨envOf [(2, .op 0 0), (4, fB true b), (6, .op 1 0), (7, .op 2 0)],
  heapOf [(0, res0), (1, rdRow true true b rest e), (2, .row true 79 [.v (.int .i64 k), .os 3 0 ns.length 1, .v (.slice none 0 0)]), (3, .row true 3 (eI ns))], 4⟩
abbrev L_rx (b : List Int) (k : Int) (ns : List Int) (N : Nat) (q : Sm (List Int)) : ASt := ⟨envOf [(2, .op 0 0), (4, fB true b), (6, .op 1 0), (7, .op 2 0), (12, .v (.int .i64 N)), (13, .v (.int .i64 q.i))],
  heapOf [(0, res0), (1, rdRow true true b q.rest q.e), (2, .row true 79 [.v (.int .i64 k), .os 3 0 ns.length 1, .os 4 0 q.out.length 1]), (3, .row true 3 (eI ns)), (4, .row true 22 (eL true q.out))], 5⟩
theorem manyI.fin {α : Type} {f : List Int → α × Int × List Int} {N i : Nat} {R : List α × Int × List Int} {out : List α} {e : Int} {rest : List Int} (h : manyI f N R i out e rest) (hx : ¬ i < N ∨ e ≠ 0) : R = (out, e, rest) := by
  rcases h.st with ⟨he, hN, hle, hR⟩ | ⟨h0, hR⟩
  · subst he
    have : i = N := by rcases hx with h1 | h1; omega; exact absurd rfl h1
    subst this
    exact many_end hR
  · exact hR
set_option maxHeartbeats 4000000 in
theorem rdec_b (b : List Int) (k : Int) (ns : List Int) (e : Int) (rest : List Int) (nb : Nat) (hS : Suf b rest) (hB : b.length ≤ 140737488355328) (hb : okB rest) (R : List (List Int) × Int × List Int) (hR : R = if e ≠ 0 then ([], e, rest) else scList scText rest) :
    wpC Tryz.prog 120 0 ac_40b (L_rb b k ns e rest) (Ends 120 [.cell 2 true 3, .tmp 3] nb (.tup [aRec true (tailR k ns R.1 R.2.1 R.2.2).1, .v (.int .i64 (tailR k ns R.1 R.2.1 R.2.2).2)]) []) := by
  obtain ⟨N, e0, r0, hc, hI, hS0⟩ := cnt_any scText b rest e hS hB hb
  rw [← hR] at hI
  simp only [rdRow, fB] at hc
  simp only [ac_40b, L_rb, res0, rdRow, TT, ↓reduceIte, Nat.reduceEqDiff, Nat.reduceAdd, Nat.reduceMul, reduceCtorEq, Nat.reduceLeDiff]
  refine ⟨_, hc _ _ (by omega), ?_⟩
  simp only [TT, ↓reduceIte, Nat.reduceEqDiff, Nat.reduceAdd, Nat.reduceMul, reduceCtorEq, Nat.reduceLeDiff]
  refine AWc.family (L_rx b k ns N) (fun q => manyI scText N R q.i q.out q.e q.rest ∧ Suf b q.rest) (fun q => 64 - q.i) ⟨0, [], e0, r0⟩ ⟨hI, hS0⟩ ?_ ?_
  · refine Weak.trans (Weak.virtC 22 1 (l := [(2, .op 0 0), (4, fB true b), (6, .op 1 0), (7, .op 2 0), (12, .v (.int .i64 N)), (13, .v (.int .i64 0))])
      (h := [(0, res0), (1, rdRow true true b r0 e0), (2, .row true 79 [.v (.int .i64 k), .os 3 0 ns.length 1, .os 400004 0 0 1]), (3, .row true 3 (eI ns))]) ?_ ?_) (Weak.calc [(0, 0), (1, 1), (2, 2), (3, 3), (400004, 4)] (by decide) ?_ ?_)
    all_goals simp [WT, eL]
  · rintro ⟨i, out, e, rest⟩ ⟨hI, hS⟩
    simp only at hI hS
    by_cases hlt : i < N
    · have f1 : (i : Int) < (N : Int) := by omega
      by_cases he : e = 0
      · subst he
        have hb2 := hI.ok
        have hN : N ≤ 64 := by
          rcases hI.st with ⟨_, h, _⟩ | ⟨h0, _⟩
          · exact h
          · exact absurd rfl h0
        have hst := hI.step hlt (scText_rest rest)
        have hl := hI.len
        have w1 : IntKind.i64.wrap ((i : Int) + 1) = ((i + 1 : Nat) : Int) := by rw [wrap64 (by omega)]; omega
        have hSt : Suf b (scText rest).2.2 := hS.ex (scText_rest rest)
        have hg := fun nb h => rgrp_spec true true b rest 1 nb h hS hB hb2
        have hSg : Suf b (scGrp 0 0 rest).2.2 := hS.ex (scGrp_rest rest 0 0)
        rcases hq : scGrp 0 0 rest with ⟨m, eg, r⟩
        rw [hq] at hg hSg
        simp only at hSg
        have hlr := hSg.le
        simp only [rdRow, fB] at hg
        have hcs : ∀ t : List Int, eL true out ++ [AV.fs true (eB t) t.length] = eL true (out ++ [t]) := fun t => by rw [app_L]; rfl
        have hn : ∀ t : List Int, out.length + 1 = (out ++ [t]).length := fun t => by simp
        have hle : out.length + 1 ≤ 65 := by omega
        have hcs0 : eL true out ++ [AV.fs true (eB []) 0] = eL true (out ++ [[]]) := hcs []
        have e0 : ∀ x : Int, x ≠ 0 → ¬ x = 0 := fun _ h => h
        simp only [L_rx, res0, rdRow, f1, TT, ↓reduceIte, Nat.reduceEqDiff, Nat.reduceAdd, Nat.reduceMul, reduceCtorEq, Nat.reduceLeDiff]
        refine ⟨_, hg _ (by omega), ?_⟩
        by_cases he : eg = 0
        · subst he
          by_cases h4 : 4096 < m
          · have f4 : (4096 : Int) < (m : Int) := by omega
            have hT := scText_long hq h4
            rw [hT] at hst hSt
            have ht := fun n nb h => rtake_err true true b r 5 n 1 nb h (by decide)
            simp only [rdRow, fB] at ht
            simp only [f4, TT, ↓reduceIte, Nat.reduceEqDiff, Nat.reduceAdd, Nat.reduceMul, reduceCtorEq, Nat.reduceLeDiff]
            refine ⟨_, ht _ _ (by omega), ?_⟩
            simp only [TT, ↓reduceIte, Nat.reduceEqDiff, Nat.reduceAdd, Nat.reduceMul, reduceCtorEq, Nat.reduceLeDiff]
            refine ⟨_, copied_specF true [] _ (by simp), ?_⟩
            simp only [len_L, hcs0, hn ([]), TT, ↓reduceIte, Nat.reduceEqDiff, Nat.reduceAdd, Nat.reduceMul, reduceCtorEq, Nat.reduceLeDiff]
            rw [if_pos (by rw [← hn]; omega)]
            refine ⟨by rfl, ?_⟩
            refine famC_next ⟨i + 1, out ++ [[]], 5, r⟩ (show 64 - (i + 1) < 64 - i by omega) ⟨hst, hSt⟩ ?_
            refine Weak.calc [(0, 0), (1, 1), (2, 2), (3, 3), (3500005, 4)] (by decide) ?_ ?_ <;> simp [WT, w1]
          · have f4 : ¬ (4096 : Int) < (m : Int) := by omega
            have wm : IntKind.i64.wrap (m : Int) = (m : Int) := wrap64 (by omega)
            by_cases h5 : r.length < m
            · have hT := scText_short hq h4 h5
              rw [hT] at hst hSt
              have ht := fun nb h => rtake_short true true b r m 1 nb h hSg hB h5
              simp only [rdRow, fB] at ht
              simp only [f4, and_8191 (show m ≤ 4096 by omega), wm, TT, ↓reduceIte, Nat.reduceEqDiff, Nat.reduceAdd, Nat.reduceMul, reduceCtorEq, Nat.reduceLeDiff]
              refine ⟨_, ht _ (by omega), ?_⟩
              simp only [TT, ↓reduceIte, Nat.reduceEqDiff, Nat.reduceAdd, Nat.reduceMul, reduceCtorEq, Nat.reduceLeDiff]
              refine ⟨_, copied_specF true [] _ (by simp), ?_⟩
              simp only [len_L, hcs0, hn ([]), TT, ↓reduceIte, Nat.reduceEqDiff, Nat.reduceAdd, Nat.reduceMul, reduceCtorEq, Nat.reduceLeDiff]
              rw [if_pos (by rw [← hn]; omega)]
              refine ⟨by rfl, ?_⟩
              refine famC_next ⟨i + 1, out ++ [[]], 8, r⟩ (show 64 - (i + 1) < 64 - i by omega) ⟨hst, hSt⟩ ?_
              refine Weak.calc [(0, 0), (1, 1), (2, 2), (3, 3), (3100005, 4)] (by decide) ?_ ?_ <;> simp [WT, w1]
            · have hT := scText_ok hq h4 h5
              rw [hT] at hst hSt
              have ht := fun nb h => rtake_ok true true b r m 1 nb h hSg hB (by omega)
              simp only [rdRow, fB] at ht
              simp only [f4, and_8191 (show m ≤ 4096 by omega), wm, TT, ↓reduceIte, Nat.reduceEqDiff, Nat.reduceAdd, Nat.reduceMul, reduceCtorEq, Nat.reduceLeDiff]
              refine ⟨_, ht _ (by omega), ?_⟩
              simp only [TT, ↓reduceIte, Nat.reduceEqDiff, Nat.reduceAdd, Nat.reduceMul, reduceCtorEq, Nat.reduceLeDiff]
              refine ⟨_, copied_specF true (r.take m) _ (by rw [List.length_take]; omega), ?_⟩
              simp only [len_L, hcs (r.take m), hn (r.take m), TT, ↓reduceIte, Nat.reduceEqDiff, Nat.reduceAdd, Nat.reduceMul, reduceCtorEq, Nat.reduceLeDiff]
              rw [if_pos (by rw [← hn]; omega)]
              refine ⟨by rfl, ?_⟩
              refine famC_next ⟨i + 1, out ++ [r.take m], 0, r.drop m⟩ (show 64 - (i + 1) < 64 - i by omega) ⟨hst, hSt⟩ ?_
              refine Weak.calc [(0, 0), (1, 1), (2, 2), (3, 3), (3100005, 4)] (by decide) ?_ ?_ <;> simp [WT, w1]
        · have hT := scText_err hq he
          rw [hT] at hst hSt
          have ht := fun n nb h => rtake_err true true b r eg n 1 nb h he
          simp only [rdRow, fB] at ht
          simp only [he, TT, ↓reduceIte, Nat.reduceEqDiff, Nat.reduceAdd, Nat.reduceMul, reduceCtorEq, Nat.reduceLeDiff]
          refine ⟨_, ht _ _ (by omega), ?_⟩
          simp only [TT, ↓reduceIte, Nat.reduceEqDiff, Nat.reduceAdd, Nat.reduceMul, reduceCtorEq, Nat.reduceLeDiff]
          refine ⟨_, copied_specF true [] _ (by simp), ?_⟩
          simp only [len_L, hcs0, hn ([]), TT, ↓reduceIte, Nat.reduceEqDiff, Nat.reduceAdd, Nat.reduceMul, reduceCtorEq, Nat.reduceLeDiff]
          rw [if_pos (by rw [← hn]; omega)]
          refine ⟨by rfl, ?_⟩
          refine famC_next ⟨i + 1, out ++ [[]], eg, r⟩ (show 64 - (i + 1) < 64 - i by omega) ⟨hst, hSt⟩ ?_
          refine Weak.calc [(0, 0), (1, 1), (2, 2), (3, 3), (3100005, 4)] (by decide) ?_ ?_ <;> simp [WT, w1]
      · have hfin := hI.fin (.inr he)
        rw [hfin]
        simp only [L_rx, res0, rdRow, f1, he, TT, ↓reduceIte, Nat.reduceEqDiff, Nat.reduceAdd, Nat.reduceMul, reduceCtorEq, Nat.reduceLeDiff]
        refine ⟨L_rt b k ns out e rest, ?_, rdec_tail b k ns out e rest nb hS⟩
        refine Weak.calc [(0, 0), (1, 1), (2, 2), (3, 3), (4, 4)] (by decide) ?_ ?_ <;> simp [WT]
    · have f1 : ¬ (i : Int) < (N : Int) := by omega
      have hfin := hI.fin (.inl hlt)
      rw [hfin]
      simp only [L_rx, res0, rdRow, f1, TT, ↓reduceIte, Nat.reduceEqDiff, Nat.reduceAdd, Nat.reduceMul, reduceCtorEq, Nat.reduceLeDiff]
      refine ⟨L_rt b k ns out e rest, ?_, rdec_tail b k ns out e rest nb hS⟩
      refine Weak.calc [(0, 0), (1, 1), (2, 2), (3, 3), (4, 4)] (by decide) ?_ ?_ <;> simp [WT]
end Go.Proofs.YtdenddhdeloceaaGreatDoor
/- Contracts: the document's Decode. -/
namespace Go.Proofs.YtdenddhdeloceaaGreatDoor
open Go.RowKit
set_option maxRecDepth 100000
def rN (b : List Int) : List Int × Int × List Int := if (scOct b).2.1 ≠ 0 then ([], (scOct b).2.1, (scOct b).2.2) else scList scNum (scOct b).2.2
theorem scRec_tail (b : List Int) (R : List (List Int) × Int × List Int) (hR : R = if (rN b).2.1 ≠ 0 then ([], (rN b).2.1, (rN b).2.2) else scList scText (rN b).2.2) :
    tailR (scOct b).1 (rN b).1 R.1 R.2.1 R.2.2 = scRec b := by
  subst hR
  unfold scRec scNums scTexts
  by_cases h1 : (scOct b).2.1 = 0
  · have hN : rN b = scList scNum (scOct b).2.2 := by rw [rN, if_neg (by rw [h1]; simp)]
    rw [hN]
    simp only [if_neg (show ¬ (scOct b).2.1 ≠ 0 by rw [h1]; simp)]
    by_cases h2 : (scList scNum (scOct b).2.2).2.1 = 0
    · simp only [if_neg (show ¬ (scList scNum (scOct b).2.2).2.1 ≠ 0 by rw [h2]; simp)]
      rfl
    · simp only [if_pos (show (scList scNum (scOct b).2.2).2.1 ≠ 0 from h2)]
      rw [tailR, if_pos h2]
  · have hN : rN b = ([], (scOct b).2.1, (scOct b).2.2) := by rw [rN, if_pos h1]
    rw [hN]
    simp only [if_pos (show (scOct b).2.1 ≠ 0 from h1)]
    rw [tailR, if_pos h1]
theorem not_i64 {m : Nat} (h : m < 2 ^ 64) (h1 : m % 2 = 1) : IntKind.i64.wrap ((BitVec.ofInt IntKind.i64.bits (if IntKind.i64.signed = true then -1 else IntKind.i64.max) ^^^ BitVec.ofInt IntKind.i64.bits ((m / 2 : Nat) : Int)).toNat : Int) = unzz m := by
  have e3 : (2 : Nat) ^ 64 = 18446744073709551616 := by decide
  have hb : BitVec.ofInt 64 (if IntKind.i64.signed = true then -1 else IntKind.i64.max) = BitVec.allOnes 64 := by decide
  show IntKind.i64.wrap ((BitVec.ofInt 64 (if IntKind.i64.signed = true then -1 else IntKind.i64.max) ^^^ BitVec.ofInt 64 ((m / 2 : Nat) : Int)).toNat : Int) = _
  rw [hb, BitVec.allOnes_xor, BitVec.toNat_not, ofInt64, IntKind.wrap_i64]
  unfold unzz
  rw [if_neg (by omega)]
  omega
abbrev L_rn (b : List Int) (k : Int) (N : Nat) (q : Sm Int) : ASt := ⟨envOf [(2, .op 0 0), (4, fB true b), (6, .op 1 0), (7, .op 2 0), (8, .v (.int .i64 N)), (9, .v (.int .i64 q.i))],
  heapOf [(0, res0), (1, rdRow true true b q.rest q.e), (2, .row true 79 [.v (.int .i64 k), .os 3 0 q.out.length 1, .v (.slice none 0 0)]), (3, .row true 3 (eI q.out))], 4⟩
set_option maxHeartbeats 4000000 in
theorem rdecode_spec (fr : Bool) (l : List Int) (nb : Nat) (hb : okB l) (h : l.length ≤ 140737488355320) : ASound Tryz.prog 40 [fB fr l] nb (.ret (.tup [aRec true (dec l).1, .v (.int .i64 (dec l).2)]) []) := by
  refine ok_40c.sound (by simp) ⟨al_fB l, trivial⟩ ?_
  simp only [ac_40c, TT, ↓reduceIte, Nat.reduceEqDiff, Nat.reduceAdd, Nat.reduceMul, reduceCtorEq, Nat.reduceLeDiff]
  refine ⟨_, ropen_spec fr l _ hb h, ?_⟩
  have hob := okB_open hb
  have hlen : (openB l).1.length ≤ l.length := by
    unfold openB
    split
    · simp
    · split
      · simp only [List.length_take]; omega
      · simp
  rcases ho : openB l with ⟨b, e⟩
  rw [ho] at hob hlen
  simp only at hob hlen
  simp only [TT, ↓reduceIte, Nat.reduceEqDiff, Nat.reduceAdd, Nat.reduceMul, reduceCtorEq, Nat.reduceLeDiff]
  by_cases he : e = 0
  · subst he
    have hd : dec l = scRec b := by simp [dec, ho]
    rw [hd]
    have hB : b.length ≤ 140737488355328 := by omega
    have k := fun id nb h => roct_spec true true b b id nb h (Suf.self b) hB hob
    have hS1 : Suf b (scOct b).2.2 := by rw [scOct_rest]; exact (Suf.self b).drop 1
    have hb1 : okB (scOct b).2.2 := by rw [scOct_rest]; exact okB_drop hob 1
    obtain ⟨N, e0, r0, hc, hI, hS0⟩ := cnt_any scNum b (scOct b).2.2 (scOct b).2.1 hS1 hB hb1
    have htail := scRec_tail b
    rw [show (if (scOct b).2.1 ≠ 0 then ([], (scOct b).2.1, (scOct b).2.2) else scList scNum (scOct b).2.2) = rN b from rfl] at hI
    generalize scOct b = o at k hc htail
    obtain ⟨kd, ek, r1⟩ := o
    simp only at htail hc
    generalize rN b = R at hI htail
    simp only [rdRow, fB, Nat.sub_self, show ((0 : Nat) : Int) = 0 from rfl] at k hc
    simp only [not_true_eq_false, TT, ↓reduceIte, Nat.reduceEqDiff, Nat.reduceAdd, Nat.reduceMul, reduceCtorEq, Nat.reduceLeDiff]
    refine ⟨_, k _ _ (by omega), ?_⟩
    simp only [TT, ↓reduceIte, Nat.reduceEqDiff, Nat.reduceAdd, Nat.reduceMul, reduceCtorEq, Nat.reduceLeDiff]
    refine ⟨_, hc _ _ (by omega), ?_⟩
    simp only [TT, ↓reduceIte, Nat.reduceEqDiff, Nat.reduceAdd, Nat.reduceMul, reduceCtorEq, Nat.reduceLeDiff]
    refine AWc.family (L_rn b kd N) (fun q => manyI scNum N R q.i q.out q.e q.rest ∧ Suf b q.rest) (fun q => 64 - q.i) ⟨0, [], e0, r0⟩ ⟨hI, hS0⟩ ?_ ?_
    · refine Weak.trans (Weak.virtC 3 1 (l := [(2, .op 0 0), (4, fB true b), (6, .op 1300000 0), (7, .op 1800000 0), (8, .v (.int .i64 N)), (9, .v (.int .i64 0))])
        (h := [(0, res0), (1300000, rdRow true true b r0 e0), (1800000, .row true 79 [.v (.int .i64 kd), .os 2400000 0 0 1, .v (.slice none 0 0)])]) ?_ ?_) (Weak.calc [(0, 0), (1300000, 1), (1800000, 2), (2400000, 3)] (by decide) ?_ ?_)
      all_goals simp [WT, eI]
    · rintro ⟨i, out, e, rest⟩ ⟨hI, hS⟩
      simp only at hI hS
      have hb2 := hI.ok
      by_cases hlt : i < N
      · have f1 : (i : Int) < (N : Int) := by omega
        by_cases he : e = 0
        · subst he
          have hN : N ≤ 64 := by
            rcases hI.st with ⟨_, h, _⟩ | ⟨h0, _⟩
            · exact h
            · exact absurd rfl h0
          have hst := hI.step hlt (scNum_rest rest)
          have hl := hI.len
          have w1 : IntKind.i64.wrap ((i : Int) + 1) = ((i + 1 : Nat) : Int) := by rw [wrap64 (by omega)]; omega
          have hg := fun nb h => rgrp_spec true true b rest 1 nb h hS hB hb2
          have hSg : Suf b (scGrp 0 0 rest).2.2 := hS.ex (scGrp_rest rest 0 0)
          have hm := scGrp_lt rest 0 0 hb2 (by decide) (by decide)
          unfold scNum at hst
          simp only at hst
          generalize scGrp 0 0 rest = q at hg hSg hst hm
          obtain ⟨m, eg, r⟩ := q
          simp only at hst hm hSg
          simp only [rdRow, fB] at hg
          have e3 : (2 : Nat) ^ 64 = 18446744073709551616 := by decide
          have w2 : IntKind.i64.wrap ((m / 2 : Nat) : Int) = ((m / 2 : Nat) : Int) := wrap64 (by omega)
          have hcs : eI out ++ [AV.v (.int .i64 (unzz m))] = eI (out ++ [unzz m]) := by rw [app_I]; rfl
          have hn : out.length + 1 = (out ++ [unzz m]).length := by simp
          have hle : out.length + 1 ≤ 65 := by omega
          simp only [L_rn, res0, rdRow, f1, TT, ↓reduceIte, Nat.reduceEqDiff, Nat.reduceAdd, Nat.reduceMul, reduceCtorEq, Nat.reduceLeDiff]
          refine ⟨_, hg _ (by omega), ?_⟩
          by_cases h2 : m % 2 = 1
          · have f2 : ((m % 2 : Nat) : Int) = 1 := by omega
            simp only [sh1, w2, and_1 hm, f2, not_i64 hm h2, hcs, hn, len_I, TT, ↓reduceIte, Nat.reduceEqDiff, Nat.reduceAdd, Nat.reduceMul, reduceCtorEq, Nat.reduceLeDiff]
            rw [if_pos (by rw [← hn]; omega)]
            refine famC_next ⟨i + 1, out ++ [unzz m], eg, r⟩ (show 64 - (i + 1) < 64 - i by omega) ⟨hst, hSg⟩ ?_
            refine Weak.calc [(0, 0), (1, 1), (2, 2), (2700004, 3)] (by decide) ?_ ?_ <;> simp [WT, w1]
          · have f2 : ¬ ((m % 2 : Nat) : Int) = 1 := by omega
            have hu : unzz m = ((m / 2 : Nat) : Int) := by unfold unzz; rw [if_pos (by omega)]
            rw [hu] at hcs hn hst
            simp only [sh1, w2, and_1 hm, f2, hcs, hn, len_I, TT, ↓reduceIte, Nat.reduceEqDiff, Nat.reduceAdd, Nat.reduceMul, reduceCtorEq, Nat.reduceLeDiff]
            rw [if_pos (by rw [← hn]; omega)]
            refine famC_next ⟨i + 1, out ++ [((m / 2 : Nat) : Int)], eg, r⟩ (show 64 - (i + 1) < 64 - i by omega) ⟨hst, hSg⟩ ?_
            refine Weak.calc [(0, 0), (1, 1), (2, 2), (2400004, 3)] (by decide) ?_ ?_ <;> simp [WT, w1]
        · have hfin := hI.fin (.inr he)
          rw [hfin] at htail
          simp only at htail
          simp only [L_rn, res0, rdRow, f1, he, TT, ↓reduceIte, Nat.reduceEqDiff, Nat.reduceAdd, Nat.reduceMul, reduceCtorEq, Nat.reduceLeDiff]
          rw [← htail _ rfl]
          refine ⟨L_rb b kd out e rest, ?_, rdec_b b kd out e rest nb hS hB hb2 _ rfl⟩
          refine Weak.calc [(0, 0), (1, 1), (2, 2), (3, 3)] (by decide) ?_ ?_ <;> simp [WT]
      · have f1 : ¬ (i : Int) < (N : Int) := by omega
        have hfin := hI.fin (.inl hlt)
        rw [hfin] at htail
        simp only at htail
        simp only [L_rn, res0, rdRow, f1, TT, ↓reduceIte, Nat.reduceEqDiff, Nat.reduceAdd, Nat.reduceMul, reduceCtorEq, Nat.reduceLeDiff]
        rw [← htail _ rfl]
        refine ⟨L_rb b kd out e rest, ?_, rdec_b b kd out e rest nb hS hB hb2 _ rfl⟩
        refine Weak.calc [(0, 0), (1, 1), (2, 2), (3, 3)] (by decide) ?_ ?_ <;> simp [WT]
  · have hd : dec l = (rec0, e) := by simp [dec, ho, he]
    rw [hd]
    simp only [he, not_false_eq_true, TT, ↓reduceIte, Nat.reduceEqDiff, Nat.reduceAdd, Nat.reduceMul, reduceCtorEq, Nat.reduceLeDiff]
    exact Ends.imp (r0 := .tup [.agg [.v (.int .i64 0), .v (.slice none 0 0), .v (.slice none 0 0)], .v (.int .i64 e)]) (.inr rfl) (by simp [ET]) ⟨⟨trivial, trivial, trivial, trivial⟩, trivial, trivial⟩ (imp_rec0 e)
end Go.Proofs.YtdenddhdeloceaaGreatDoor
/- Contracts: bytes.Trim of zeros. -/
namespace Go.Proofs.YtdenddhdeloceaaGreatDoor
open Go.RowKit
set_option maxRecDepth 100000
def trL (l : List Int) : List Int := l.dropWhile fun x => decide (x = 0)
def trR (l : List Int) : List Int := (trL l.reverse).reverse
theorem trL_0 (l : List Int) : trL (0 :: l) = trL l := by simp [trL]
theorem trL_n {x : Int} (l : List Int) (h : x ≠ 0) : trL (x :: l) = x :: l := by simp [trL, h]
theorem trR_0 (l : List Int) : trR (l ++ [0]) = trR l := by simp [trR, trL]
theorem trR_n {x : Int} (l : List Int) (h : x ≠ 0) : trR (l ++ [x]) = l ++ [x] := by simp [trR, trL, h]
theorem trL_len (l : List Int) : (trL l).length ≤ l.length := by
  induction l with
  | nil => simp [trL]
  | cons x l ih =>
    by_cases h : x = 0
    · subst h; rw [trL_0, List.length_cons]; omega
    · rw [trL_n l h]; exact Nat.le_refl _
theorem trL_nil {l : List Int} : (trL l).length = 0 ↔ ∀ x ∈ l, x = 0 := by
  induction l with
  | nil => simp [trL]
  | cons x l ih =>
    by_cases h : x = 0
    · subst h; rw [trL_0, ih]; simp
    · rw [trL_n l h]; simp [h]
theorem trR_nil {l : List Int} : (trR l).length = 0 ↔ ∀ x ∈ l, x = 0 := by
  rw [trR, List.length_reverse, trL_nil]; simp
theorem trL_head {l r : List Int} {x : Int} (h : trL l = x :: r) : x ≠ 0 := by
  induction l with
  | nil => simp [trL] at h
  | cons y l ih =>
    by_cases hy : y = 0
    · subst hy; rw [trL_0] at h; exact ih h
    · rw [trL_n l hy] at h
      simp at h
      rw [← h.1]; exact hy
theorem trim_nil {l : List Int} : (trL (trR l)).length = 0 ↔ ∀ x ∈ l, x = 0 := by
  rw [trL_nil, ← trR_nil (l := l)]
  constructor
  · intro h
    by_cases h0 : (trR l).length = 0
    · exact h0
    · exfalso
      have hne : trR l ≠ [] := fun e => h0 (by rw [e]; rfl)
      have hd : trL l.reverse ≠ [] := fun e => hne (by rw [trR, e]; rfl)
      cases hq : trL l.reverse with
      | nil => exact hd hq
      | cons x r =>
        exact trL_head hq (h x (by rw [trR, hq]; simp))
  · intro h x hx
    rw [List.eq_nil_of_length_eq_zero h] at hx; cases hx
theorem le00 : ((0 : Int) ≤ 0) = True := eq_true (Int.le_refl 0)
abbrev L_tr (fr : Bool) (q : List Int) : ASt := ⟨envOf [(0, fB fr q), (1, .v (.int .u8 0))], heapOf [], 0⟩
theorem trimR_spec (fr : Bool) (l : List Int) (nb : Nat) (hB : l.length ≤ 140737488355328) : ASound Tryz.prog 69 [fB fr l, .v (.int .u8 0)] nb (.ret (fB fr (trR l)) []) := by
  refine ok_69.sound (by simp) ⟨al_fB l, trivial, trivial⟩ ?_
  simp only [ac_69, TT, ↓reduceIte, Nat.reduceEqDiff, Nat.reduceAdd, Nat.reduceMul, reduceCtorEq, Nat.reduceLeDiff]
  refine AWc.family (L_tr fr) (fun q => trR q = trR l ∧ q.length ≤ l.length) (fun q => q.length) l ⟨rfl, Nat.le_refl _⟩ ?_ ?_
  · refine Weak.calc [] (by decide) ?_ ?_ <;> simp [WT]
  · rintro q ⟨hq, hql⟩
    rcases List.eq_nil_or_concat q with h0 | ⟨p, x, h0⟩
    · subst h0
      have e1 : ¬ ((0 : Int) < ((0 : Nat) : Int)) := by decide
      rw [← hq]
      simp only [L_tr, List.length_nil, e1, TT, ↓reduceIte, Nat.reduceEqDiff, Nat.reduceAdd, Nat.reduceMul, reduceCtorEq, Nat.reduceLeDiff]
      exact Ends.data (r := .fs fr (eB []) 0) (.inr rfl) (by simp [ET]) (al_fB (fr := fr) [])
    · rw [List.concat_eq_append] at h0
      subst h0
      have hl : (p ++ [x]).length = p.length + 1 := by simp
      have e1 : ((0 : Int) < ((p.length + 1 : Nat) : Int)) := by omega
      have w1 : IntKind.i64.wrap (((p.length + 1 : Nat) : Int) - 1) = (p.length : Int) := by rw [wrap64 (by omega)]; omega
      have c1 : ((0 : Int) ≤ (p.length : Int) ∧ (p.length : Int) < ((p.length + 1 : Nat) : Int)) = True := eq_true ⟨by omega, by omega⟩
      have c2 : ((0 : Int) ≤ (p.length : Int) ∧ (p.length : Int) ≤ ((p.length + 1 : Nat) : Int)) = True := eq_true ⟨by omega, by omega⟩
      have g1 : (eB (p ++ [x]))[p.length]? = some (.v (.int .u8 x)) := get_B (by simp)
      have t1 : (p ++ [x]).take p.length = p := by simp
      by_cases hx : x = 0
      · subst hx
        simp only [L_tr, hl, e1, w1, c1, c2, Int.toNat_natCast, g1, take_B, t1, Nat.sub_zero, TT, ↓reduceIte, Nat.reduceEqDiff, Nat.reduceAdd, Nat.reduceMul, reduceCtorEq, Nat.reduceLeDiff]
        refine famC_next p (by simp only [List.length_append, List.length_cons, List.length_nil]; omega) ⟨?_, by omega⟩ ?_
        · rw [← hq, trR_0]
        · refine Weak.calc [] (by decide) ?_ ?_ <;> simp [WT]
      · simp only [L_tr, hl, e1, w1, c1, c2, Int.toNat_natCast, g1, hx, take_B, t1, TT, ↓reduceIte, Nat.reduceEqDiff, Nat.reduceAdd, Nat.reduceMul, reduceCtorEq, Nat.reduceLeDiff]
        rw [← hq, trR_n p hx, hl]
        exact Ends.data (r := .fs fr (eB (p ++ [x])) (p.length + 1)) (.inr rfl) (by simp [ET]) (al_B _)
theorem trimL_spec (fr : Bool) (l : List Int) (nb : Nat) (hB : l.length ≤ 140737488355328) : ASound Tryz.prog 68 [fB fr l, .v (.int .u8 0)] nb (.ret (fB fr (trL l)) []) := by
  refine ok_68.sound (by simp) ⟨al_fB l, trivial, trivial⟩ ?_
  simp only [ac_68, TT, ↓reduceIte, Nat.reduceEqDiff, Nat.reduceAdd, Nat.reduceMul, reduceCtorEq, Nat.reduceLeDiff]
  refine AWc.family (L_tr fr) (fun q => trL q = trL l ∧ q.length ≤ l.length) (fun q => q.length) l ⟨rfl, Nat.le_refl _⟩ ?_ ?_
  · refine Weak.calc [] (by decide) ?_ ?_ <;> simp [WT]
  · rintro q ⟨hq, hql⟩
    cases q with
    | nil =>
      have e1 : ¬ ((0 : Int) < ((0 : Nat) : Int)) := by decide
      have e2 : ((0 : Nat) : Int) = 0 := rfl
      rw [← hq]
      simp only [L_tr, List.length_nil, e1, e2, TT, ↓reduceIte, Nat.reduceEqDiff, Nat.reduceAdd, Nat.reduceMul, reduceCtorEq, Nat.reduceLeDiff]
      exact Ends.imp (r0 := .v (.slice none 0 0)) (.inr rfl) (by simp [ET]) trivial (Imp.nil fr)
    | cons x p =>
      have e1 : ((0 : Int) < ((p.length + 1 : Nat) : Int)) := by omega
      have e2 : ¬ ((p.length + 1 : Nat) : Int) = 0 := by omega
      have c1 : ((0 : Int) ≤ 0 ∧ (0 : Int) < ((p.length + 1 : Nat) : Int)) = True := eq_true ⟨by omega, by omega⟩
      have c2 : ((0 : Int) ≤ 1 ∧ (1 : Int) ≤ ((p.length + 1 : Nat) : Int)) = True := eq_true ⟨by omega, by omega⟩
      have g1 : (eB (x :: p))[Int.toNat 0]? = some (.v (.int .u8 x)) := rfl
      have t1 : (eB (x :: p)).drop (Int.toNat 1) = eB p := rfl
      have n1 : p.length + 1 - Int.toNat 1 = p.length := rfl
      by_cases hx : x = 0
      · subst hx
        simp only [L_tr, List.length_cons, e1, le00, c1, c2, g1, t1, n1, tk_B, TT, ↓reduceIte, Nat.reduceEqDiff, Nat.reduceAdd, Nat.reduceMul, reduceCtorEq, Nat.reduceLeDiff]
        refine famC_next p (by simp) ⟨?_, by rw [List.length_cons] at hql; omega⟩ ?_
        · rw [← hq, trL_0]
        · refine Weak.calc [] (by decide) ?_ ?_ <;> simp [WT]
      · rw [← hq, trL_n p hx]
        simp only [L_tr, List.length_cons, e1, e2, le00, c1, c2, g1, t1, n1, hx, tk_B, TT, ↓reduceIte, Nat.reduceEqDiff, Nat.reduceAdd, Nat.reduceMul, reduceCtorEq, Nat.reduceLeDiff]
        exact Ends.data (r := .fs fr (eB (x :: p)) (p.length + 1)) (.inr rfl) (by simp [ET]) (al_B _)
theorem trim_spec (fr : Bool) (l : List Int) (nb : Nat) (hB : l.length ≤ 140737488355328) : ASound Tryz.prog 39 [fB fr l, .v (.string (ByteArray.mk #[0]))] nb (.ret (fB fr (trL (trR l))) []) := by
  refine ok_39.sound (by simp) ⟨al_fB l, trivial, trivial⟩ ?_
  by_cases h0 : l.length = 0
  · have hl : l = [] := List.eq_nil_of_length_eq_zero h0
    subst hl
    have e2 : ((0 : Nat) : Int) = 0 := rfl
    simp only [ac_39, List.length_nil, e2, TT, ↓reduceIte, Nat.reduceEqDiff, Nat.reduceAdd, Nat.reduceMul, reduceCtorEq, Nat.reduceLeDiff]
    exact Ends.imp (r0 := .v (.slice none 0 0)) (.inr rfl) (by simp [ET]) trivial (Imp.nil fr)
  · have e2 : ¬ (l.length : Int) = 0 := by omega
    have s1 : strOp BinOp.eql (ByteArray.mk #[0]) (ByteArray.mk #[]) = some (.bool false) := by kernel_rfl
    have s2 : (ByteArray.mk #[0]).size = 1 := rfl
    have s3 : (ByteArray.mk #[0])[Int.toNat 0]? = some 0 := rfl
    have s4 : ((1 : Nat) : Int) = 1 := rfl
    have s5 : (((0 : UInt8).toNat : Nat) : Int) = 0 := rfl
    have s6 : (0 : Int) < 128 := by decide
    simp only [ac_39, e2, s1, s2, s3, s4, s5, s6, le00, TT, ↓reduceIte, Nat.reduceEqDiff, Nat.reduceAdd, Nat.reduceMul, reduceCtorEq, Nat.reduceLeDiff]
    have hr : (trR l).length ≤ l.length := by
      have := trL_len l.reverse
      rw [trR, List.length_reverse]; rw [List.length_reverse] at this; exact this
    refine ⟨_, trimR_spec fr l _ hB, ?_⟩
    simp only [s3, s5, le00, TT, ↓reduceIte, Nat.reduceEqDiff, Nat.reduceAdd, Nat.reduceMul, reduceCtorEq, Nat.reduceLeDiff]
    refine ⟨_, trimL_spec fr (trR l) _ (by omega), ?_⟩
    simp only [TT, ↓reduceIte, Nat.reduceEqDiff, Nat.reduceAdd, Nat.reduceMul, reduceCtorEq, Nat.reduceLeDiff]
    refine ⟨by rfl, ?_⟩
    exact Ends.data (r := fB fr (trL (trR l))) (.inr rfl) (by simp [ET, fB]) (al_fB _)
end Go.Proofs.YtdenddhdeloceaaGreatDoor
/- Contract: a point read. -/
namespace Go.Proofs.YtdenddhdeloceaaGreatDoor
open Go.RowKit
set_option maxRecDepth 100000
def pt0 : Pt := ⟨0, 0, 0, 0, []⟩
/-- a point out of a record -/
def ofRec : Rec → Option Pt
  | ⟨k, [e, s, v, c], [d]⟩ => if k = 7 then some ⟨e, s, v, c, d⟩ else none
  | _ => none
/-- behind the two octets that tell a length -/
def decP2 (n : Nat) (t : List Int) : Pt × Int :=
  if 510 < n then (pt0, 5) else if (dec (t.take n)).2 ≠ 0 then (pt0, (dec (t.take n)).2) else if (dec (t.take n)).1.kind ≠ 7 then (pt0, 22) else
  match ofRec (dec (t.take n)).1 with
  | none => (pt0, 3)
  | some p => if ptE p ≠ 0 then (pt0, ptE p) else if ∃ x ∈ t.drop n, x ≠ 0 then (pt0, 23) else (p, 0)
def decP : List Int → Pt × Int
  | a :: b :: t => if t.length ≠ 510 then (pt0, 3) else decP2 (256 * a + b).toNat t
  | _ => (pt0, 3)
theorem imp_pt0 (e : Int) : Imp (.tup [.agg [.v (.int .i64 0), .v (.int .i64 0), .v (.int .i64 0), .v (.int .i64 0), .v (.slice none 0 0)], .v (.int .i64 e)]) (.tup [aPt true pt0, .v (.int .i64 e)]) :=
  Imp.tupL ⟨Imp.aggL ⟨Imp.refl _, Imp.refl _, Imp.refl _, Imp.refl _, Imp.nil true, trivial⟩, Imp.refl _, trivial⟩
abbrev pz : AV := .agg [.v (.int .i64 0), .v (.int .i64 0), .v (.int .i64 0), .v (.int .i64 0), .v (.slice none 0 0)]
theorem al_pz {p : Nat → Prop} (e : Int) : Al p (.tup [pz, .v (.int .i64 e)]) := ⟨⟨trivial, trivial, trivial, trivial, trivial, trivial⟩, trivial, trivial⟩
theorem sh8l {a : Int} (h : 0 ≤ a ∧ a < 256) : shVal .shl .i64 a 8 = some (.int .i64 (a * 256)) := by
  simp only [shVal, if_neg (show ¬ ((8 : Int) < 0) by decide)]
  congr 2
  show IntKind.i64.wrap (a * 256) = _
  rw [wrap64 (by omega)]
theorem or_8 {a b : Int} (ha : 0 ≤ a ∧ a < 256) (hb : 0 ≤ b ∧ b < 256) : IntKind.i64.wrap ((BitVec.ofInt IntKind.i64.bits (a * 256) ||| BitVec.ofInt IntKind.i64.bits b).toNat : Int) = 256 * a + b := by
  obtain ⟨x, rfl⟩ := Int.eq_ofNat_of_zero_le ha.1
  obtain ⟨y, rfl⟩ := Int.eq_ofNat_of_zero_le hb.1
  have h1 : (BitVec.ofInt IntKind.i64.bits ((x : Int) * 256) ||| BitVec.ofInt IntKind.i64.bits (y : Int)).toNat = x * 256 + y := by
    show (BitVec.ofInt 64 ((x : Int) * 256) ||| BitVec.ofInt 64 (y : Int)).toNat = _
    rw [BitVec.toNat_or, ofInt64, ofInt64, show (((x : Int) * 256) % 18446744073709551616).toNat = x * 2 ^ 8 from by omega, show ((y : Int) % 18446744073709551616).toNat = y from by omega]
    rw [← Nat.shiftLeft_eq, ← Nat.shiftLeft_add_eq_or_of_lt (show y < 2 ^ 8 by omega), Nat.shiftLeft_eq]
  rw [h1, wrap64 (by omega)]; omega
theorem ofRec_none {k : Int} {ns : List Int} {ts : List (List Int)} (h : ns.length ≠ 4 ∨ ts.length ≠ 1) : ofRec ⟨k, ns, ts⟩ = none := by
  unfold ofRec
  split
  · rename_i heq
    injection heq with h1 h2 h3
    subst h2; subst h3
    simp at h
  · rfl
theorem len4 {α : Type} {l : List α} (h : l.length = 4) : ∃ a b c d, l = [a, b, c, d] := by
  match l, h with
  | [a, b, c, d], _ => exact ⟨a, b, c, d, rfl⟩
theorem len1 {α : Type} {l : List α} (h : l.length = 1) : ∃ a, l = [a] := by
  match l, h with
  | [a], _ => exact ⟨a, rfl⟩
theorem le01 : ((0 : Int) ≤ 1) = True := eq_true (by decide)
theorem le02 : ((0 : Int) ≤ 2) = True := eq_true (by decide)
theorem decP_len {l : List Int} (h : l.length ≠ 512) : decP l = (pt0, 3) := by
  match l with
  | [] => rfl
  | [_] => rfl
  | a :: b :: t => rw [decP, if_pos (by simp at h; omega)]
set_option maxHeartbeats 4000000 in
theorem pdecode_spec (fr : Bool) (l : List Int) (nb : Nat) (hb : okB l) (hB : l.length ≤ 140737488355320) : ASound Tryz.prog 12 [fB fr l] nb (.ret (.tup [aPt true (decP l).1, .v (.int .i64 (decP l).2)]) []) := by
  refine ok_12.sound (by simp) ⟨al_fB l, trivial⟩ ?_
  by_cases h512 : l.length = 512
  · have e1 : ((l.length : Int) = 512) = True := eq_true (by omega)
    match l, h512 with
    | a :: b :: t, h512 =>
      have ht : t.length = 510 := by simp at h512; omega
      have ha := hb a (by simp)
      have hbb := hb b (by simp)
      have hbt : okB t := fun x hx => hb x (by simp [hx])
      have hd : decP (a :: b :: t) = decP2 (256 * a + b).toNat t := by rw [decP, if_neg (by rw [ht]; simp)]
      rw [hd]
      have wa : IntKind.i64.wrap a = a := wrap64 (by omega)
      have wb : IntKind.i64.wrap b = b := wrap64 (by omega)
      have w2 : IntKind.i64.wrap (2 + (256 * a + b)) = 2 + (256 * a + b) := wrap64 (by omega)
      obtain ⟨n, hn⟩ := Int.eq_ofNat_of_zero_le (show 0 ≤ 256 * a + b by omega)
      have or8 := or_8 ha hbb
      rw [hn] at or8 w2 ⊢
      rw [Int.toNat_natCast]
      have g0 : (eB (a :: b :: t))[Int.toNat 0]? = some (.v (.int .u8 a)) := rfl
      have g1 : (eB (a :: b :: t))[Int.toNat 1]? = some (.v (.int .u8 b)) := rfl
      have k0 : ((0 : Int) < ((a :: b :: t).length : Int)) = True := eq_true (by omega)
      have k1 : ((1 : Int) < ((a :: b :: t).length : Int)) = True := eq_true (by omega)
      have d2 : (eB (a :: b :: t)).drop (Int.toNat 2) = eB t := rfl
      have hlen : (a :: b :: t).length = 512 := h512
      have dn : (a :: b :: t).drop (n + 2) = t.drop n := rfl
      generalize hl : (a :: b :: t) = l at g0 g1 k0 k1 e1 d2 hlen dn
      by_cases h5 : 510 < n
      · have f5 : (512 : Int) < 2 + (n : Int) := by omega
        rw [decP2, if_pos h5]
        simp only [ac_12, e1, g0, g1, k0, k1, wa, wb, sh8l ha, or8, w2, le00, le01, f5, not_true_eq_false, TT, ↓reduceIte, Nat.reduceEqDiff, Nat.reduceAdd, Nat.reduceMul, reduceCtorEq, Nat.reduceLeDiff]
        refine ⟨by rfl, ?_⟩
        exact Ends.imp (r0 := .tup [pz, .v (.int .i64 5)]) (.inr rfl) (by simp [ET]) (al_pz 5) (imp_pt0 5)
      · have f5 : ¬ (512 : Int) < 2 + (n : Int) := by omega
        have cS : ((2 : Int) ≤ 2 + (n : Int) ∧ 2 + (n : Int) ≤ (l.length : Int)) = True := eq_true ⟨by omega, by omega⟩
        have cN : (2 + (n : Int)).toNat - Int.toNat 2 = n := by omega
        have hT : (t.take n).length = n := List.length_take_of_le (by omega)
        rw [decP2, if_neg h5]
        simp only [ac_12, e1, g0, g1, k0, k1, wa, wb, sh8l ha, or8, w2, le00, le01, le02, f5, d2, cS, cN, take_B, not_true_eq_false, TT, ↓reduceIte, Nat.reduceEqDiff, Nat.reduceAdd, Nat.reduceMul, reduceCtorEq, Nat.reduceLeDiff]
        refine ⟨by rfl, ?_⟩
        have hdec := decode_spec fr (t.take n) 
        rw [fB, hT] at hdec
        refine ⟨_, hdec _ (okB_take hbt n) (by omega), ?_⟩
        rcases hq : dec (t.take n) with ⟨r, e⟩
        simp only
        by_cases he : e = 0
        · subst he
          obtain ⟨k, ns, ts⟩ := r
          rw [if_neg (by simp)]
          simp only
          by_cases hk : k = 7
          · subst hk
            rw [if_neg (by simp)]
            by_cases hns : ns.length = 4
            · have fn : ((ns.length : Int) = 4) = True := eq_true (by omega)
              by_cases hts : ts.length = 1
              · have ft : ((ts.length : Int) = 1) = True := eq_true (by omega)
                obtain ⟨n0, n1, n2, n3, rfl⟩ := len4 hns
                obtain ⟨d, rfl⟩ := len1 hts
                have m4 : ([n0, n1, n2, n3] : List Int).length = 4 := rfl
                have m1 : ([d] : List (List Int)).length = 1 := rfl
                have z0 : (eI [n0, n1, n2, n3])[Int.toNat 0]? = some (.v (.int .i64 n0)) := rfl
                have z1 : (eI [n0, n1, n2, n3])[Int.toNat 1]? = some (.v (.int .i64 n1)) := rfl
                have z2 : (eI [n0, n1, n2, n3])[Int.toNat 2]? = some (.v (.int .i64 n2)) := rfl
                have z3 : (eI [n0, n1, n2, n3])[Int.toNat 3]? = some (.v (.int .i64 n3)) := rfl
                have zd : (eL true [d])[Int.toNat 0]? = some (.fs true (eB d) d.length) := rfl
                have y0 : ((0 : Int) < ((4 : Nat) : Int)) = True := eq_true (by decide)
                have y1 : ((1 : Int) < ((4 : Nat) : Int)) = True := eq_true (by decide)
                have y2 : ((2 : Int) < ((4 : Nat) : Int)) = True := eq_true (by decide)
                have y3 : ((3 : Int) < ((4 : Nat) : Int)) = True := eq_true (by decide)
                have yd : ((0 : Int) < ((1 : Nat) : Int)) = True := eq_true (by decide)
                have x3 : ((0 : Int) ≤ 3) = True := eq_true (by decide)
                have v4 : (((4 : Nat) : Int) = 4) = True := eq_true rfl
                have v1 : (((1 : Nat) : Int) = 1) = True := eq_true rfl
                have ho : ofRec ⟨7, [n0, n1, n2, n3], [d]⟩ = some ⟨n0, n1, n2, n3, d⟩ := rfl
                rw [ho]
                simp only
                have hpc := pcheck_spec true ⟨n0, n1, n2, n3, d⟩
                simp only [aPt, fB] at hpc
                simp only [m4, m1, z0, z1, z2, z3, zd, y0, y1, y2, y3, yd, x3, v4, v1, le00, le01, le02, not_true_eq_false, TT, ↓reduceIte, Nat.reduceEqDiff, Nat.reduceAdd, Nat.reduceMul, reduceCtorEq, Nat.reduceLeDiff]
                refine ⟨by rfl, ?_⟩
                refine ⟨_, hpc _, ?_⟩
                generalize hE : ptE ⟨n0, n1, n2, n3, d⟩ = E
                by_cases hE0 : E = 0
                · subst hE0
                  rw [if_neg (by simp)]
                  have cT : ((0 : Int) ≤ 2 + (n : Int) ∧ 2 + (n : Int) ≤ (l.length : Int)) = True := eq_true ⟨by omega, by omega⟩
                  have tN : (2 + (n : Int)).toNat = n + 2 := by omega
                  have hD : (t.drop n).length = l.length - (n + 2) := by rw [List.length_drop]; omega
                  have hDl : (t.drop n).length ≤ 140737488355328 := by rw [List.length_drop]; omega
                  have htr := trim_spec fr (t.drop n)
                  rw [fB, hD] at htr
                  have htk : List.take (l.length - (n + 2)) (eB (t.drop n)) = eB (t.drop n) := List.take_of_length_le (by rw [len_B, hD]; exact Nat.le_refl _)
                  simp only [cT, tN, drop_B, dn, htk, not_true_eq_false, TT, ↓reduceIte, Nat.reduceEqDiff, Nat.reduceAdd, Nat.reduceMul, reduceCtorEq, Nat.reduceLeDiff]
                  refine ⟨_, htr _ (by omega), ?_⟩
                  by_cases hz : ∃ x ∈ t.drop n, x ≠ 0
                  · have hp : (0 : Int) < ((trL (trR (t.drop n))).length : Int) := by
                      have : (trL (trR (t.drop n))).length ≠ 0 := fun h0 => by
                        obtain ⟨x, hx, hx0⟩ := hz
                        exact hx0 (trim_nil.1 h0 x hx)
                      omega
                    rw [if_pos hz]
                    simp only [hp, TT, ↓reduceIte, Nat.reduceEqDiff, Nat.reduceAdd, Nat.reduceMul, reduceCtorEq, Nat.reduceLeDiff]
                    exact Ends.imp (r0 := .tup [pz, .v (.int .i64 23)]) (.inr rfl) (by simp [ET]) (al_pz 23) (imp_pt0 23)
                  · have hp : ¬ (0 : Int) < ((trL (trR (t.drop n))).length : Int) := by
                      have : (trL (trR (t.drop n))).length = 0 := trim_nil.2 fun x hx => Classical.byContradiction fun hx0 => hz ⟨x, hx, hx0⟩
                      omega
                    rw [if_neg hz]
                    simp only [hp, TT, ↓reduceIte, Nat.reduceEqDiff, Nat.reduceAdd, Nat.reduceMul, reduceCtorEq, Nat.reduceLeDiff]
                    exact Ends.data (r := .tup [aPt true ⟨n0, n1, n2, n3, d⟩, .v (.int .i64 0)]) (.inr rfl) (by simp [ET, aPt, fB]) ⟨al_aPt _, trivial, trivial⟩
                · rw [if_pos hE0]
                  simp only [hE0, not_false_eq_true, TT, ↓reduceIte, Nat.reduceEqDiff, Nat.reduceAdd, Nat.reduceMul, reduceCtorEq, Nat.reduceLeDiff]
                  exact Ends.imp (r0 := .tup [pz, .v (.int .i64 E)]) (.inr rfl) (by simp [ET]) (al_pz E) (imp_pt0 E)
              · have ft : ¬ (ts.length : Int) = 1 := by omega
                rw [ofRec_none (.inr hts)]
                simp only [fn, ft, not_true_eq_false, not_false_eq_true, TT, ↓reduceIte, Nat.reduceEqDiff, Nat.reduceAdd, Nat.reduceMul, reduceCtorEq, Nat.reduceLeDiff]
                exact Ends.imp (r0 := .tup [pz, .v (.int .i64 3)]) (.inr rfl) (by simp [ET]) (al_pz 3) (imp_pt0 3)
            · have fn : ¬ (ns.length : Int) = 4 := by omega
              rw [ofRec_none (.inl hns)]
              simp only [fn, not_true_eq_false, not_false_eq_true, TT, ↓reduceIte, Nat.reduceEqDiff, Nat.reduceAdd, Nat.reduceMul, reduceCtorEq, Nat.reduceLeDiff]
              exact Ends.imp (r0 := .tup [pz, .v (.int .i64 3)]) (.inr rfl) (by simp [ET]) (al_pz 3) (imp_pt0 3)
          · rw [if_pos hk]
            simp only [hk, not_true_eq_false, not_false_eq_true, TT, ↓reduceIte, Nat.reduceEqDiff, Nat.reduceAdd, Nat.reduceMul, reduceCtorEq, Nat.reduceLeDiff]
            exact Ends.imp (r0 := .tup [pz, .v (.int .i64 22)]) (.inr rfl) (by simp [ET]) (al_pz 22) (imp_pt0 22)
        · rw [if_pos he]
          simp only [he, not_false_eq_true, TT, ↓reduceIte, Nat.reduceEqDiff, Nat.reduceAdd, Nat.reduceMul, reduceCtorEq, Nat.reduceLeDiff]
          exact Ends.imp (r0 := .tup [pz, .v (.int .i64 e)]) (.inr rfl) (by simp [ET]) (al_pz e) (imp_pt0 e)
  · have e1 : ¬ (l.length : Int) = 512 := by omega
    rw [decP_len h512]
    simp only [ac_12, e1, not_false_eq_true, TT, ↓reduceIte, Nat.reduceEqDiff, Nat.reduceAdd, Nat.reduceMul, reduceCtorEq, Nat.reduceLeDiff]
    exact Ends.imp (r0 := .tup [pz, .v (.int .i64 3)]) (.inr rfl) (by simp [ET]) (al_pz 3) (imp_pt0 3)
end Go.Proofs.YtdenddhdeloceaaGreatDoor
/- Contract: a point read, by the document. -/
namespace Go.Proofs.YtdenddhdeloceaaGreatDoor
open Go.RowKit
set_option maxRecDepth 100000
abbrev L_pd (fr : Bool) (l : List Int) (p : Pt) (n : Nat) (j : Nat) : ASt := ⟨envOf [(0, fB fr l), (2, .op 0 0), (7, .op 1 0), (9, .v (.int .i64 ((n + 2 + j : Nat) : Int)))],
  heapOf [(0, .row true 24 [.v (.int .i64 0), .v (.int .i64 0), .v (.int .i64 0), .v (.int .i64 0), .v (.slice none 0 0)]), (1, .row true 24 (rowP true p))], 2⟩
set_option maxHeartbeats 4000000 in
theorem rpdecode_spec (fr : Bool) (l : List Int) (nb : Nat) (hb : okB l) (hB : l.length ≤ 140737488355320) : ASound Tryz.prog 13 [fB fr l] nb (.ret (.tup [aPt true (decP l).1, .v (.int .i64 (decP l).2)]) []) := by
  refine ok_13.sound (by simp) ⟨al_fB l, trivial⟩ ?_
  by_cases h512 : l.length = 512
  · have e1 : ((l.length : Int) = 512) = True := eq_true (by omega)
    match l, h512 with
    | a :: b :: t, h512 =>
      have ht : t.length = 510 := by simp at h512; omega
      have ha := hb a (by simp)
      have hbb := hb b (by simp)
      have hbt : okB t := fun x hx => hb x (by simp [hx])
      have hd : decP (a :: b :: t) = decP2 (256 * a + b).toNat t := by rw [decP, if_neg (by rw [ht]; simp)]
      rw [hd]
      have wa : IntKind.i64.wrap a = a := wrap64 (by omega)
      have wb : IntKind.i64.wrap b = b := wrap64 (by omega)
      have w2 : IntKind.i64.wrap (2 + (256 * a + b)) = 2 + (256 * a + b) := wrap64 (by omega)
      obtain ⟨n, hn⟩ := Int.eq_ofNat_of_zero_le (show 0 ≤ 256 * a + b by omega)
      have or8 := or_8 ha hbb
      rw [hn] at or8 w2 ⊢
      rw [Int.toNat_natCast]
      have g0 : (eB (a :: b :: t))[Int.toNat 0]? = some (.v (.int .u8 a)) := rfl
      have g1 : (eB (a :: b :: t))[Int.toNat 1]? = some (.v (.int .u8 b)) := rfl
      have k0 : ((0 : Int) < ((a :: b :: t).length : Int)) = True := eq_true (by omega)
      have k1 : ((1 : Int) < ((a :: b :: t).length : Int)) = True := eq_true (by omega)
      have d2 : (eB (a :: b :: t)).drop (Int.toNat 2) = eB t := rfl
      have hlen : (a :: b :: t).length = 512 := h512
      have dn : (a :: b :: t).drop (n + 2) = t.drop n := rfl
      generalize hl : (a :: b :: t) = l at g0 g1 k0 k1 e1 d2 hlen dn
      by_cases h5 : 510 < n
      · have f5 : (510 : Int) < (n : Int) := by omega
        rw [decP2, if_pos h5]
        simp only [ac_13, e1, g0, g1, k0, k1, wa, wb, sh8l ha, or8, w2, le00, le01, f5, not_true_eq_false, TT, ↓reduceIte, Nat.reduceEqDiff, Nat.reduceAdd, Nat.reduceMul, reduceCtorEq, Nat.reduceLeDiff]
        refine ⟨by rfl, ?_⟩
        exact Ends.imp (r0 := .tup [pz, .v (.int .i64 5)]) (.inr rfl) (by simp [ET]) (al_pz 5) (imp_pt0 5)
      · have f5 : ¬ (510 : Int) < (n : Int) := by omega
        have cS : ((2 : Int) ≤ 2 + (n : Int) ∧ 2 + (n : Int) ≤ (l.length : Int)) = True := eq_true ⟨by omega, by omega⟩
        have cN : (2 + (n : Int)).toNat - Int.toNat 2 = n := by omega
        have hT : (t.take n).length = n := List.length_take_of_le (by omega)
        rw [decP2, if_neg h5]
        simp only [ac_13, e1, g0, g1, k0, k1, wa, wb, sh8l ha, or8, w2, le00, le01, le02, f5, d2, cS, cN, take_B, not_true_eq_false, TT, ↓reduceIte, Nat.reduceEqDiff, Nat.reduceAdd, Nat.reduceMul, reduceCtorEq, Nat.reduceLeDiff]
        refine ⟨by rfl, ?_⟩
        have hdec := rdecode_spec fr (t.take n) 
        rw [fB, hT] at hdec
        refine ⟨_, hdec _ (okB_take hbt n) (by omega), ?_⟩
        rcases hq : dec (t.take n) with ⟨r, e⟩
        simp only
        by_cases he : e = 0
        · subst he
          obtain ⟨k, ns, ts⟩ := r
          rw [if_neg (by simp)]
          simp only
          by_cases hk : k = 7
          · subst hk
            rw [if_neg (by simp)]
            by_cases hns : ns.length = 4
            · have fn : ((ns.length : Int) = 4) = True := eq_true (by omega)
              by_cases hts : ts.length = 1
              · have ft : ((ts.length : Int) = 1) = True := eq_true (by omega)
                obtain ⟨n0, n1, n2, n3, rfl⟩ := len4 hns
                obtain ⟨d, rfl⟩ := len1 hts
                have m4 : ([n0, n1, n2, n3] : List Int).length = 4 := rfl
                have m1 : ([d] : List (List Int)).length = 1 := rfl
                have z0 : (eI [n0, n1, n2, n3])[Int.toNat 0]? = some (.v (.int .i64 n0)) := rfl
                have z1 : (eI [n0, n1, n2, n3])[Int.toNat 1]? = some (.v (.int .i64 n1)) := rfl
                have z2 : (eI [n0, n1, n2, n3])[Int.toNat 2]? = some (.v (.int .i64 n2)) := rfl
                have z3 : (eI [n0, n1, n2, n3])[Int.toNat 3]? = some (.v (.int .i64 n3)) := rfl
                have zd : (eL true [d])[Int.toNat 0]? = some (.fs true (eB d) d.length) := rfl
                have y0 : ((0 : Int) < ((4 : Nat) : Int)) = True := eq_true (by decide)
                have y1 : ((1 : Int) < ((4 : Nat) : Int)) = True := eq_true (by decide)
                have y2 : ((2 : Int) < ((4 : Nat) : Int)) = True := eq_true (by decide)
                have y3 : ((3 : Int) < ((4 : Nat) : Int)) = True := eq_true (by decide)
                have yd : ((0 : Int) < ((1 : Nat) : Int)) = True := eq_true (by decide)
                have x3 : ((0 : Int) ≤ 3) = True := eq_true (by decide)
                have v4 : (((4 : Nat) : Int) = 4) = True := eq_true rfl
                have v1 : (((1 : Nat) : Int) = 1) = True := eq_true rfl
                have ho : ofRec ⟨7, [n0, n1, n2, n3], [d]⟩ = some ⟨n0, n1, n2, n3, d⟩ := rfl
                rw [ho]
                simp only
                have hpc := rpcheck_spec true ⟨n0, n1, n2, n3, d⟩
                simp only [aPt, fB] at hpc
                simp only [m4, m1, z0, z1, z2, z3, zd, y0, y1, y2, y3, yd, x3, v4, v1, le00, le01, le02, not_true_eq_false, TT, ↓reduceIte, Nat.reduceEqDiff, Nat.reduceAdd, Nat.reduceMul, reduceCtorEq, Nat.reduceLeDiff]
                refine ⟨by rfl, ?_⟩
                refine ⟨_, hpc _, ?_⟩
                generalize hE : ptE ⟨n0, n1, n2, n3, d⟩ = E
                by_cases hE0 : E = 0
                · subst hE0
                  rw [if_neg (by simp)]
                  have w20 : IntKind.i64.wrap (2 + (n : Int)) = ((n + 2 : Nat) : Int) := by rw [wrap64 (by omega)]; omega
                  simp only [w20, not_true_eq_false, TT, ↓reduceIte, Nat.reduceEqDiff, Nat.reduceAdd, Nat.reduceMul, reduceCtorEq, Nat.reduceLeDiff]
                  refine AWc.family (L_pd fr l ⟨n0, n1, n2, n3, d⟩ n) (fun j => j ≤ 510 - n ∧ ∀ x ∈ (t.drop n).take j, x = 0) (fun j => 510 - n - j) 0 ⟨Nat.zero_le _, by simp⟩ ?_ ?_
                  · refine Weak.calc [(0, 0), (6800000, 1)] (by decide) ?_ ?_ <;> simp [WT]
                  · rintro j ⟨hj, ha⟩
                    by_cases hlt : j < 510 - n
                    · obtain ⟨x, hx, _, _⟩ := lt_at (l := t.drop n) (k := j) (by rw [List.length_drop]; omega)
                      have fj : ((n + 2 + j : Nat) : Int) < 512 := by omega
                      have gx : (eB l)[n + 2 + j]? = some (.v (.int .u8 x)) := get_B (by rw [← dn, List.getElem?_drop] at hx; exact hx)
                      have cj : ((0 : Int) ≤ ((n + 2 + j : Nat) : Int) ∧ ((n + 2 + j : Nat) : Int) < (l.length : Int)) = True := eq_true ⟨by omega, by omega⟩
                      have wj : IntKind.i64.wrap (((n + 2 + j : Nat) : Int) + 1) = ((n + 2 + (j + 1) : Nat) : Int) := by rw [wrap64 (by omega)]; omega
                      by_cases hx0 : x = 0
                      · subst hx0
                        simp only [L_pd, fj, gx, cj, wj, Int.toNat_natCast, not_true_eq_false, TT, ↓reduceIte, Nat.reduceEqDiff, Nat.reduceAdd, Nat.reduceMul, reduceCtorEq, Nat.reduceLeDiff]
                        refine famC_next (j + 1) (by omega) ⟨by omega, take_all ha hx rfl⟩ ?_
                        refine Weak.calc [(0, 0), (1, 1)] (by decide) ?_ ?_ <;> simp [WT]
                      · rw [if_pos ⟨x, List.mem_of_getElem? hx, hx0⟩]
                        simp only [L_pd, fj, gx, cj, hx0, Int.toNat_natCast, not_false_eq_true, TT, ↓reduceIte, Nat.reduceEqDiff, Nat.reduceAdd, Nat.reduceMul, reduceCtorEq, Nat.reduceLeDiff]
                        exact Ends.imp (r0 := .tup [pz, .v (.int .i64 23)]) (.inr rfl) (by simp [ET]) (al_pz 23) (imp_pt0 23)
                    · have fj : ¬ ((n + 2 + j : Nat) : Int) < 512 := by omega
                      rw [List.take_of_length_le (by rw [List.length_drop]; omega)] at ha
                      rw [if_neg (by rintro ⟨x, hx, hx0⟩; exact hx0 (ha x hx))]
                      simp only [L_pd, fj, TT, ↓reduceIte, Nat.reduceEqDiff, Nat.reduceAdd, Nat.reduceMul, reduceCtorEq, Nat.reduceLeDiff]
                      exact Ends.data (r := .tup [aPt true ⟨n0, n1, n2, n3, d⟩, .v (.int .i64 0)]) (.inr rfl) (by simp [ET, aPt, fB]) ⟨al_aPt _, trivial, trivial⟩
                · rw [if_pos hE0]
                  simp only [hE0, not_false_eq_true, TT, ↓reduceIte, Nat.reduceEqDiff, Nat.reduceAdd, Nat.reduceMul, reduceCtorEq, Nat.reduceLeDiff]
                  exact Ends.imp (r0 := .tup [pz, .v (.int .i64 E)]) (.inr rfl) (by simp [ET]) (al_pz E) (imp_pt0 E)
              · have ft : ¬ (ts.length : Int) = 1 := by omega
                rw [ofRec_none (.inr hts)]
                simp only [fn, ft, not_true_eq_false, not_false_eq_true, TT, ↓reduceIte, Nat.reduceEqDiff, Nat.reduceAdd, Nat.reduceMul, reduceCtorEq, Nat.reduceLeDiff]
                exact Ends.imp (r0 := .tup [pz, .v (.int .i64 3)]) (.inr rfl) (by simp [ET]) (al_pz 3) (imp_pt0 3)
            · have fn : ¬ (ns.length : Int) = 4 := by omega
              rw [ofRec_none (.inl hns)]
              simp only [fn, not_true_eq_false, not_false_eq_true, TT, ↓reduceIte, Nat.reduceEqDiff, Nat.reduceAdd, Nat.reduceMul, reduceCtorEq, Nat.reduceLeDiff]
              exact Ends.imp (r0 := .tup [pz, .v (.int .i64 3)]) (.inr rfl) (by simp [ET]) (al_pz 3) (imp_pt0 3)
          · rw [if_pos hk]
            simp only [hk, not_true_eq_false, not_false_eq_true, TT, ↓reduceIte, Nat.reduceEqDiff, Nat.reduceAdd, Nat.reduceMul, reduceCtorEq, Nat.reduceLeDiff]
            exact Ends.imp (r0 := .tup [pz, .v (.int .i64 22)]) (.inr rfl) (by simp [ET]) (al_pz 22) (imp_pt0 22)
        · rw [if_pos he]
          simp only [he, not_false_eq_true, TT, ↓reduceIte, Nat.reduceEqDiff, Nat.reduceAdd, Nat.reduceMul, reduceCtorEq, Nat.reduceLeDiff]
          exact Ends.imp (r0 := .tup [pz, .v (.int .i64 e)]) (.inr rfl) (by simp [ET]) (al_pz e) (imp_pt0 e)
  · have e1 : ¬ (l.length : Int) = 512 := by omega
    rw [decP_len h512]
    simp only [ac_13, e1, not_false_eq_true, TT, ↓reduceIte, Nat.reduceEqDiff, Nat.reduceAdd, Nat.reduceMul, reduceCtorEq, Nat.reduceLeDiff]
    exact Ends.imp (r0 := .tup [pz, .v (.int .i64 3)]) (.inr rfl) (by simp [ET]) (al_pz 3) (imp_pt0 3)
end Go.Proofs.YtdenddhdeloceaaGreatDoor
/- Plain: what is written is read back. -/
namespace Go.Proofs.YtdenddhdeloceaaGreatDoor
open Go.RowKit
theorem scGrp_gp : ∀ (k m acc : Nat) (r : List Int), m * 128 ^ k < 18446744073709551616 → (0 < k → 0 < m) → k ≤ 9 → scGrp k acc (gp m ++ r) = (acc + m * 128 ^ k, 0, r) := by
  have key : ∀ (f k m acc : Nat) (r : List Int), m ≤ f → m * 128 ^ k < 18446744073709551616 → (0 < k → 0 < m) → k ≤ 9 → scGrp k acc (gp m ++ r) = (acc + m * 128 ^ k, 0, r) := by
    intro f
    induction f with
    | zero =>
      intro k m acc r hm h1 h2 h3
      obtain rfl : m = 0 := by omega
      have hk : ¬ 0 < k := fun h => by have := h2 h; omega
      obtain rfl : k = 0 := by omega
      rw [gp_small (by decide)]
      show scGrp 0 acc ((0 : Int) :: r) = _
      rw [scGrp, if_neg (by omega), if_pos (by omega)]
      simp
    | succ f ih =>
      intro k m acc r hm h1 h2 h3
      by_cases hs : m < 128
      · rw [gp_small hs]
        show scGrp k acc ((m : Int) :: r) = _
        have c1 : ¬ ((k = 9 ∧ (1 : Int) < (m : Int)) ∨ (0 < k ∧ (m : Int) = 0)) := by
          rintro (⟨rfl, h⟩ | ⟨h, h'⟩)
          · have : 2 ≤ m := by omega
            have : 2 * 128 ^ 9 ≤ m * 128 ^ 9 := Nat.mul_le_mul_right _ this
            have : (2 * 128 ^ 9 : Nat) = 18446744073709551616 := by decide
            omega
          · have := h2 h; omega
        rw [scGrp, if_neg c1, if_pos (by omega), pow7]
        rw [show ((m : Int) % 128).toNat = m from by omega]
      · rw [gp_big hs]
        have hk9 : k ≠ 9 := by
          rintro rfl
          have : 128 * 128 ^ 9 ≤ m * 128 ^ 9 := Nat.mul_le_mul_right _ (by omega)
          have : (128 * 128 ^ 9 : Nat) = 1180591620717411303424 := by decide
          omega
        rw [List.cons_append, scGrp, if_neg (by omega), if_neg (by omega), pow7]
        have hmd : m / 128 * 128 ^ (k + 1) ≤ m * 128 ^ k := by
          rw [Nat.pow_succ, Nat.mul_comm (128 ^ k) 128, ← Nat.mul_assoc]
          exact Nat.mul_le_mul_right _ (Nat.div_mul_le_self m 128)
        rw [ih (k + 1) (m / 128) _ r (by omega) (by omega) (by omega) (by omega)]
        have e1 : (((m % 128 + 128 : Nat) : Int) % 128).toNat = m % 128 := by omega
        rw [e1]
        congr 1
        rw [Nat.pow_succ, Nat.mul_comm (128 ^ k) 128, ← Nat.mul_assoc, Nat.add_assoc, ← Nat.add_mul]
        congr 2
        omega
  exact fun k m acc r h1 h2 h3 => key m k m acc r (Nat.le_refl _) h1 h2 h3
theorem unzz_zz (n : Int) : unzz (zz n) = n := by
  unfold unzz zz
  by_cases h : 0 ≤ n
  · rw [if_pos h, if_pos (by omega)]; omega
  · rw [if_neg h, if_neg (by omega)]; omega
theorem scGrp_0 {m : Nat} (h : m < 18446744073709551616) (r : List Int) : scGrp 0 0 (gp m ++ r) = (m, 0, r) := by
  rw [scGrp_gp 0 m 0 r (by simpa using h) (by omega) (by omega)]; simp
theorem scNum_gp {n : Int} (h : i64ok n) (r : List Int) : scNum (gp (zz n) ++ r) = (n, 0, r) := by
  unfold scNum; rw [scGrp_0 (zz_lt h)]; simp only [unzz_zz]
theorem scText_enc {t : List Int} (h : t.length ≤ 4096) (r : List Int) : scText (encT t ++ r) = (t, 0, r) := by
  unfold scText encT
  rw [List.append_assoc, scGrp_0 (by omega)]
  simp only
  rw [if_neg (by simp), if_neg (by omega), if_neg (by simp), List.take_left, List.drop_left]
theorem scMany_all {α : Type} {f : List Int → α × Int × List Int} {e : α → List Int} : ∀ (l : List α) (r : List Int), (∀ a ∈ l, ∀ r, f (e a ++ r) = (a, 0, r)) → scMany f l.length (l.flatMap e ++ r) = (l, 0, r)
  | [], r, _ => rfl
  | a :: l, r, h => by
    rw [List.length_cons, List.flatMap_cons, List.append_assoc, scMany, h a (by simp) _, if_neg (by simp)]
    simp only
    rw [scMany_all l r fun b hb => h b (by simp [hb])]
theorem scList_all {α : Type} {f : List Int → α × Int × List Int} {e : α → List Int} (l : List α) (r : List Int) (hl : l.length ≤ 64) (h : ∀ a ∈ l, ∀ r, f (e a ++ r) = (a, 0, r)) : scList f ((l.length : Int) :: (l.flatMap e ++ r)) = (l, 0, r) := by
  unfold scList scCnt scOct
  simp only
  rw [if_neg (by simp; omega), Int.toNat_natCast, scMany_all l r h]
theorem scRec_enc {r : Rec} (h : okR r) (hn : ∀ n ∈ r.nums, i64ok n) : scRec (encR r) = (r, 0) := by
  have hm := h.many
  unfold scRec encR
  simp only [List.cons_append, List.nil_append, scOct, ne_eq, not_true_eq_false, if_false]
  have h1 := scList_all (f := scNum) (e := fun n => gp (zz n)) r.nums ((r.texts.length : Int) :: r.texts.flatMap encT) (by omega) (fun n hn' r => scNum_gp (hn n hn') r)
  have h2 := scList_all (f := scText) (e := encT) r.texts [] (by omega) (fun t ht r => scText_enc (by have := h.short t ht; omega) r)
  rw [List.append_nil] at h2
  unfold scNums scTexts
  simp [h1, h2]
theorem low4_len (c : BitVec 32) : (low4 c).length = 4 := rfl
theorem open_seal (l : List Int) : openB (sealB l) = (l, 0) := by
  unfold openB sealB
  rw [List.length_append, low4_len, if_neg (by omega), show l.length + 4 - 4 = l.length from by omega, List.drop_left, List.take_left, if_pos rfl]
theorem dec_enc {r : Rec} (h : okR r) (hn : ∀ n ∈ r.nums, i64ok n) : dec (sealB (encR r)) = (r, 0) := by
  unfold dec
  rw [open_seal, if_neg (by simp)]
  exact scRec_enc h hn
theorem okR_P {p : Pt} (h : okP p) : okR (recP p) := (okR_iff _).1 (recE_P h)
/-- the sealed record of a point -/
def sealP (p : Pt) : List Int := sealB (encR (recP p))
theorem encP_eq {p : Pt} (h : okP p) : ∃ t : List Int, (encP p).1 = (((sealP p).length / 256 : Nat) : Int) :: (((sealP p).length % 256 : Nat) : Int) :: (sealP p ++ t) ∧ (sealP p ++ t).length = 510 ∧ (∀ x ∈ t, x = 0) ∧ (sealP p).length ≤ 457 := by
  have hl := sealP_le h
  refine ⟨List.replicate (512 - (bodyP p).length) 0, ?_, ?_, ?_, hl⟩
  · rw [encP, if_pos ((okP_iff p).2 h)]
    show pad 512 (bodyP p) = _
    unfold pad bodyP joinT
    unfold sealP
    simp only [List.cons_append, List.nil_append]
    rw [Nat.mod_eq_of_lt (a := (sealB (encR (recP p))).length / 256) (by omega)]
  · have := bodyP_le h
    have h2 : (bodyP p).length = (sealP p).length + 2 := by unfold bodyP joinT sealP; simp
    rw [List.length_append, List.length_replicate]; omega
  · intro x hx; exact List.eq_of_mem_replicate hx
theorem decP_seal {p : Pt} (h : okP p) {a b : Int} {t : List Int} (ha : (256 * a + b).toNat = (sealP p).length) (hl : (sealP p ++ t).length = 510) (hz : ∀ x ∈ t, x = 0) : decP (a :: b :: (sealP p ++ t)) = (p, 0) := by
  rw [decP, if_neg (by omega), ha]
  unfold decP2
  have h2 := sealP_le h
  rw [if_neg (by unfold sealP; omega), List.take_left, List.drop_left]
  have hd : dec (sealP p) = (recP p, 0) := dec_enc (okR_P h) (nums64 h)
  rw [hd]
  simp only [ne_eq, not_true_eq_false, if_false]
  rw [if_neg (show ¬ ((recP p).kind = 7 → False) from fun h => h rfl)]
  have ho : ofRec (recP p) = some p := rfl
  rw [ho]
  simp only
  rw [if_neg (fun h9 => h9 ((okP_iff p).2 h)), if_neg]
  rintro ⟨x, hx, h9⟩
  exact h9 (hz x hx)
/-- a point is read back -/
theorem decP_encP {p : Pt} (h : okP p) : decP (encP p).1 = (p, 0) := by
  obtain ⟨t, e1, e2, e3, e4⟩ := encP_eq h
  rw [e1]
  exact decP_seal h (by omega) e2 e3
end Go.Proofs.YtdenddhdeloceaaGreatDoor
