import Derived.Test.YtkgaiaapkcgdkaaGreatPYB
import Derived.Test.YtkgaiaapkcgdkaaGreatChecked
section
set_option linter.unusedVariables false
set_option linter.unusedSimpArgs false
namespace Go.Proofs
open Go Go.Ab
def Tryz.ac3 : ACode := ((ACode.region false [⟨some 1, .box 11 (.t 0), none, []⟩, ⟨some 2, .mv (.c (.bool false)), none, []⟩]).seq (((ACode.region false [⟨some 11, .fieldAddr 6 (.t 1), none, []⟩, ⟨some 12, .fieldAddr 2 (.t 11), none, []⟩, ⟨some 13, .load 1 false (.t 12), none, []⟩, ⟨some 14, .len (.t 13), none, []⟩, ⟨some 15, .bin .gtr (.t 14) (.c (.int .i64 (6))), none, []⟩, ⟨some 16, .mv (.t 15), none, []⟩, ⟨some 17, .fieldAddr 9 (.t 1), some (16, false), []⟩, ⟨some 18, .load 1 false (.t 17), some (16, false), []⟩, ⟨some 19, .len (.t 18), some (16, false), []⟩, ⟨some 20, .bin .gtr (.t 19) (.c (.int .i64 (12))), some (16, false), []⟩, ⟨some 21, .pick (.t 16) (.c (.bool true)) (.t 20), none, []⟩, ⟨some 22, .mv (.t 21), none, []⟩, ⟨some 23, .fieldAddr 9 (.t 1), some (22, false), []⟩, ⟨some 24, .load 1 false (.t 23), some (22, false), []⟩, ⟨some 25, .call 4 [.t 24], some (22, false), []⟩, ⟨some 26, .un .not (.t 25), some (22, false), []⟩, ⟨some 27, .pick (.t 22) (.c (.bool true)) (.t 26), none, []⟩]).seq (ACode.cond (.t 27) ((ACode.region false [⟨some 28, .call 5 [], none, []⟩, ⟨some 2, .mv (.t 28), none, []⟩]).seq ACode.ret) ACode.skip)).seq ((ACode.region false [⟨some 30, .fieldAddr 6 (.t 1), none, []⟩, ⟨some 31, .load 3 true (.t 30), none, []⟩, ⟨some 32, .fieldAddr 9 (.t 1), none, []⟩, ⟨some 33, .load 1 false (.t 32), none, []⟩, ⟨some 34, .call 6 [.t 31, .t 33], none, []⟩, ⟨some 29, .mv (.t 34), none, []⟩, ⟨some 35, .extract (.t 29) 0, none, []⟩, ⟨some 36, .extract (.t 29) 1, none, []⟩, ⟨some 3, .mv (.t 35), none, []⟩, ⟨some 4, .mv (.t 36), none, []⟩]).seq ((ACode.region false [⟨some 38, .fieldAddr 6 (.t 1), none, []⟩, ⟨some 39, .load 3 true (.t 38), none, []⟩, ⟨some 40, .fieldAddr 9 (.t 1), none, []⟩, ⟨some 41, .load 1 false (.t 40), none, []⟩, ⟨some 42, .call 7 [.t 39, .t 41], none, []⟩, ⟨some 37, .mv (.t 42), none, []⟩, ⟨some 43, .extract (.t 37) 0, none, []⟩, ⟨some 44, .extract (.t 37) 1, none, []⟩, ⟨some 5, .mv (.t 43), none, []⟩, ⟨some 6, .mv (.t 44), none, []⟩]).seq ((ACode.region false [⟨some 46, .fieldAddr 0 (.t 1), none, []⟩, ⟨some 47, .load 6 true (.t 46), none, []⟩, ⟨some 48, .fieldAddr 6 (.t 1), none, []⟩, ⟨some 49, .load 3 true (.t 48), none, []⟩, ⟨some 50, .fieldAddr 9 (.t 1), none, []⟩, ⟨some 51, .load 1 false (.t 50), none, []⟩, ⟨some 52, .fieldAddr 10 (.t 1), none, []⟩, ⟨some 53, .load 1 false (.t 52), none, []⟩, ⟨some 54, .call 8 [.t 47, .t 49, .t 51, .t 53], none, []⟩, ⟨some 45, .mv (.t 54), none, []⟩, ⟨some 55, .extract (.t 45) 0, none, []⟩, ⟨some 56, .extract (.t 45) 1, none, []⟩, ⟨some 7, .alloc [.string ⟨⟨[]⟩⟩, .string ⟨⟨[]⟩⟩, .int .i64 (0), .int .i64 (0), .int .i64 (0), .string ⟨⟨[]⟩⟩], none, []⟩, ⟨none, .store 6 (.t 7) (.t 55), none, []⟩, ⟨some 8, .mv (.t 56), none, []⟩]).seq ((ACode.region false [⟨some 58, .fieldAddr 0 (.t 1), none, []⟩, ⟨some 59, .load 6 true (.t 58), none, []⟩, ⟨some 60, .fieldAddr 6 (.t 1), none, []⟩, ⟨some 61, .load 3 true (.t 60), none, []⟩, ⟨some 62, .fieldAddr 9 (.t 1), none, []⟩, ⟨some 63, .load 1 false (.t 62), none, []⟩, ⟨some 64, .fieldAddr 10 (.t 1), none, []⟩, ⟨some 65, .load 1 false (.t 64), none, []⟩, ⟨some 66, .call 9 [.t 59, .t 61, .t 63, .t 65], none, []⟩, ⟨some 57, .mv (.t 66), none, []⟩, ⟨some 67, .extract (.t 57) 0, none, []⟩, ⟨some 68, .extract (.t 57) 1, none, []⟩, ⟨some 9, .alloc [.string ⟨⟨[]⟩⟩, .string ⟨⟨[]⟩⟩, .int .i64 (0), .int .i64 (0), .int .i64 (0), .string ⟨⟨[]⟩⟩], none, []⟩, ⟨none, .store 6 (.t 9) (.t 67), none, []⟩, ⟨some 10, .mv (.t 68), none, []⟩]).seq ((ACode.region false [⟨some 69, .mv (.t 3), none, []⟩, ⟨some 70, .mv (.t 5), none, []⟩, ⟨some 71, .call 10 [.t 69, .t 70], none, []⟩, ⟨some 72, .mv (.t 71), none, []⟩, ⟨some 73, .mv (.t 4), some (72, true), []⟩, ⟨some 74, .mv (.t 6), some (72, true), []⟩, ⟨some 75, .bin .eql (.t 73) (.t 74), some (72, true), []⟩, ⟨some 76, .pick (.t 72) (.t 75) (.c (.bool false)), none, []⟩, ⟨some 77, .mv (.t 76), none, []⟩, ⟨some 78, .load 6 true (.t 7), some (77, true), []⟩, ⟨some 79, .load 6 true (.t 9), some (77, true), []⟩, ⟨some 80, .eqAgg false [2, 2, 0, 0, 0, 2] (.t 78) (.t 79), some (77, true), []⟩, ⟨some 81, .pick (.t 77) (.t 80) (.c (.bool false)), none, []⟩, ⟨some 82, .mv (.t 81), none, []⟩, ⟨some 83, .mv (.t 8), some (82, true), []⟩, ⟨some 84, .mv (.t 10), some (82, true), []⟩, ⟨some 85, .eqB false (.t 83) (.t 84), some (82, true), []⟩, ⟨some 86, .pick (.t 82) (.t 85) (.c (.bool false)), none, []⟩, ⟨some 87, .mv (.t 86), none, []⟩, ⟨some 88, .call 5 [], some (87, true), []⟩, ⟨some 89, .pick (.t 87) (.t 88) (.c (.bool false)), none, []⟩, ⟨some 2, .mv (.t 89), none, []⟩]).seq ACode.ret)))))))
theorem Tryz.F3 : FnFacts Tryz.prog 3 Tryz.f3 Tryz.ac3 90 [.tmp 2] := ⟨Tryz.func3, by kernel_rfl, by kernel_rfl, by kernel_rfl, by kernel_rfl, by kernel_rfl, by kernel_rfl, by kernel_rfl⟩
def Tryz.ac4 : ACode := ((ACode.region false [⟨some 2, .mv (.c (.bool false)), none, []⟩]).seq (((ACode.region false [⟨some 3, .mv (.c (.int .i64 (0))), none, []⟩]).seq (ACode.block 0 (((ACode.region false [⟨some 5, .mv (.t 3), none, []⟩, ⟨some 6, .mv (.t 0), none, []⟩, ⟨some 7, .len (.t 6), none, []⟩, ⟨some 8, .bin .lss (.t 5) (.t 7), none, []⟩]).seq (ACode.cond (.t 8) ACode.skip (ACode.exit 0))).seq ((ACode.block 1 (((ACode.region false [⟨some 11, .mv (.t 0), none, []⟩, ⟨some 12, .mv (.t 3), none, []⟩, ⟨some 13, .idxAddr 18 (.t 11) (.t 12), none, []⟩, ⟨some 14, .fieldAddr 6 (.t 13), none, []⟩, ⟨some 15, .fieldAddr 0 (.t 14), none, []⟩, ⟨some 16, .load 1 false (.t 15), none, []⟩, ⟨some 17, .len (.t 16), none, []⟩, ⟨some 18, .bin .gtr (.t 17) (.c (.int .i64 (40))), none, []⟩, ⟨some 19, .mv (.t 18), none, []⟩, ⟨some 20, .mv (.t 0), some (19, false), []⟩, ⟨some 21, .mv (.t 3), some (19, false), []⟩, ⟨some 22, .idxAddr 18 (.t 20) (.t 21), some (19, false), []⟩, ⟨some 23, .fieldAddr 6 (.t 22), some (19, false), []⟩, ⟨some 24, .fieldAddr 1 (.t 23), some (19, false), []⟩, ⟨some 25, .load 1 false (.t 24), some (19, false), []⟩, ⟨some 26, .len (.t 25), some (19, false), []⟩, ⟨some 27, .bin .gtr (.t 26) (.c (.int .i64 (8))), some (19, false), []⟩, ⟨some 28, .pick (.t 19) (.c (.bool true)) (.t 27), none, []⟩]).seq (ACode.cond (.t 28) ((ACode.region false [⟨some 2, .mv (.c (.bool false)), none, []⟩]).seq ACode.ret) ACode.skip)).seq ((ACode.region false [⟨some 4, .mv (.c (.int .i64 (0))), none, []⟩]).seq (ACode.block 2 (((ACode.region false [⟨some 29, .mv (.t 4), none, []⟩, ⟨some 30, .mv (.t 0), none, []⟩, ⟨some 31, .mv (.t 3), none, []⟩, ⟨some 32, .idxAddr 18 (.t 30) (.t 31), none, []⟩, ⟨some 33, .fieldAddr 6 (.t 32), none, []⟩, ⟨some 34, .fieldAddr 1 (.t 33), none, []⟩, ⟨some 35, .load 1 false (.t 34), none, []⟩, ⟨some 36, .len (.t 35), none, []⟩, ⟨some 37, .bin .lss (.t 29) (.t 36), none, []⟩]).seq (ACode.cond (.t 37) ACode.skip (ACode.exit 2))).seq ((ACode.block 3 ((ACode.region false [⟨some 40, .mv (.t 0), none, []⟩, ⟨some 41, .mv (.t 3), none, []⟩, ⟨some 42, .idxAddr 18 (.t 40) (.t 41), none, []⟩, ⟨some 43, .fieldAddr 6 (.t 42), none, []⟩, ⟨some 44, .fieldAddr 1 (.t 43), none, []⟩, ⟨some 45, .load 1 false (.t 44), none, []⟩, ⟨some 46, .mv (.t 4), none, []⟩, ⟨some 47, .idxAddr 1 (.t 45) (.t 46), none, []⟩, ⟨some 48, .load 1 false (.t 47), none, []⟩, ⟨some 49, .len (.t 48), none, []⟩, ⟨some 50, .bin .gtr (.t 49) (.c (.int .i64 (40))), none, []⟩]).seq (ACode.cond (.t 50) ((ACode.region false [⟨some 2, .mv (.c (.bool false)), none, []⟩]).seq ACode.ret) ACode.skip))).seq (ACode.region false [⟨some 38, .mv (.t 4), none, []⟩, ⟨some 39, .bin .add (.t 38) (.c (.int .i64 (1))), none, []⟩, ⟨some 4, .mv (.t 39), none, []⟩]))).loop)))).seq (ACode.region false [⟨some 9, .mv (.t 3), none, []⟩, ⟨some 10, .bin .add (.t 9) (.c (.int .i64 (1))), none, []⟩, ⟨some 3, .mv (.t 10), none, []⟩]))).loop)).seq ((ACode.region false [⟨some 2, .mv (.c (.bool true)), none, []⟩]).seq ACode.ret)))
theorem Tryz.F4 : FnFacts Tryz.prog 4 Tryz.f4 Tryz.ac4 51 [.tmp 2] := ⟨Tryz.func4, by kernel_rfl, by kernel_rfl, by kernel_rfl, by kernel_rfl, by kernel_rfl, by kernel_rfl, by kernel_rfl⟩
def Tryz.ac5 : ACode := ((ACode.region false [⟨some 0, .mv (.c (.bool false)), none, []⟩]).seq ((ACode.region false [⟨some 7, .call 12 [.c (.int .i64 (20)), .c (.int .i64 (0)), .c (.int .i64 (40)), .c (.int .i64 (30))], none, []⟩, ⟨some 8, .buildSlice 54 4 [.t 7], none, []⟩, ⟨some 9, .call 11 [.c (.int .i64 (100)), .c (.int .i64 (50)), .t 8, .c (.int .i64 (0))], none, []⟩, ⟨some 1, .mv (.t 9), none, []⟩]).seq ((ACode.region false [⟨some 11, .call 12 [.c (.int .i64 (20)), .c (.int .i64 (0)), .c (.int .i64 (40)), .c (.int .i64 (30))], none, []⟩, ⟨some 12, .buildSlice 54 4 [.t 11], none, []⟩, ⟨some 13, .call 13 [.c (.int .i64 (100)), .c (.int .i64 (50)), .t 12, .c (.int .i64 (0))], none, []⟩, ⟨some 10, .mv (.t 13), none, []⟩, ⟨some 14, .extract (.t 10) 0, none, []⟩, ⟨some 15, .extract (.t 10) 1, none, []⟩, ⟨some 2, .alloc [.int .i64 (0), .int .i64 (0), .int .i64 (0), .int .i64 (0)], none, []⟩, ⟨none, .store 4 (.t 2) (.t 14), none, []⟩, ⟨some 3, .mv (.t 15), none, []⟩]).seq ((ACode.region false [⟨some 16, .build [.int .i64 (0), .int .i64 (0)] [], none, []⟩, ⟨some 17, .build [.int .i64 (0), .int .i64 (0)] [(0, 1, .c (.int .i64 (20)))], none, []⟩, ⟨some 18, .build [.int .i64 (0), .int .i64 (0)] [(0, 1, .c (.int .i64 (20))), (1, 1, .c (.int .i64 (30)))], none, []⟩, ⟨some 19, .build [.int .i64 (0), .int .i64 (0)] [(1, 1, .c (.int .i64 (30)))], none, []⟩, ⟨some 20, .buildSlice 52 2 [.t 16, .t 17, .t 18, .t 19], none, []⟩, ⟨some 21, .build [.slice none 0 0, .slice none 0 0] [(0, 1, .t 20)], none, []⟩, ⟨some 22, .build [.string ⟨⟨[]⟩⟩, .int .i64 (0), .int .i64 (0), .string ⟨⟨[]⟩⟩, .string ⟨⟨[]⟩⟩, .int .i64 (0), .slice none 0 0, .slice none 0 0, .string ⟨⟨[]⟩⟩, .int .i64 (0), .int .i64 (0), .int .i64 (0), .int .i64 (0), .int .i64 (0), .int .i64 (0), .int .i64 (0), .int .i64 (0), .int .i64 (0)] [(0, 1, .c (.string ⟨⟨[(80 : UInt8)]⟩⟩)), (2, 1, .c (.int .i64 (1))), (6, 2, .t 21)], none, []⟩, ⟨some 4, .alloc [.string ⟨⟨[]⟩⟩, .int .i64 (0), .int .i64 (0), .string ⟨⟨[]⟩⟩, .string ⟨⟨[]⟩⟩, .int .i64 (0), .slice none 0 0, .slice none 0 0, .string ⟨⟨[]⟩⟩, .int .i64 (0), .int .i64 (0), .int .i64 (0), .int .i64 (0), .int .i64 (0), .int .i64 (0), .int .i64 (0), .int .i64 (0), .int .i64 (0)], none, []⟩, ⟨none, .store 18 (.t 4) (.t 22), none, []⟩]).seq ((ACode.region false [⟨some 24, .build [.string ⟨⟨[]⟩⟩, .string ⟨⟨[]⟩⟩, .int .i64 (0), .int .i64 (0), .int .i64 (0), .string ⟨⟨[]⟩⟩] [(0, 1, .c (.string ⟨⟨[(88 : UInt8), (49 : UInt8)]⟩⟩)), (1, 1, .c (.string ⟨⟨[(65 : UInt8)]⟩⟩)), (2, 1, .c (.int .i64 (9))), (3, 1, .c (.int .i64 (100))), (4, 1, .c (.int .i64 (50))), (5, 1, .c (.string ⟨⟨[(72 : UInt8)]⟩⟩))], none, []⟩, ⟨some 25, .build [.int .i64 (0), .int .i64 (0)] [(0, 1, .c (.int .i64 (20)))], none, []⟩, ⟨some 26, .build [.string ⟨⟨[]⟩⟩, .int .i64 (0), .int .i64 (0), .int .i64 (0), .bool false] [(0, 1, .c (.string ⟨⟨[(80 : UInt8)]⟩⟩)), (1, 2, .t 25)], none, []⟩, ⟨some 27, .buildSlice 59 5 [.t 26], none, []⟩, ⟨some 28, .build [.string ⟨⟨[]⟩⟩, .int .i64 (0), .slice none 0 0] [(0, 1, .c (.string ⟨⟨[(88 : UInt8), (49 : UInt8)]⟩⟩)), (2, 1, .t 27)], none, []⟩, ⟨some 29, .load 18 true (.t 4), none, []⟩, ⟨some 30, .buildSlice 49 18 [.t 29], none, []⟩, ⟨some 31, .call 8 [.t 24, .t 28, .t 30, .c (.int .i64 (40))], none, []⟩, ⟨some 23, .mv (.t 31), none, []⟩, ⟨some 32, .extract (.t 23) 0, none, []⟩, ⟨some 33, .extract (.t 23) 1, none, []⟩, ⟨some 5, .alloc [.string ⟨⟨[]⟩⟩, .string ⟨⟨[]⟩⟩, .int .i64 (0), .int .i64 (0), .int .i64 (0), .string ⟨⟨[]⟩⟩], none, []⟩, ⟨none, .store 6 (.t 5) (.t 32), none, []⟩, ⟨some 6, .mv (.t 33), none, []⟩]).seq ((ACode.region true [⟨some 34, .mv (.t 1), none, []⟩, ⟨some 35, .call 12 [.c (.int .i64 (0)), .c (.int .i64 (0)), .c (.int .i64 (20)), .c (.int .i64 (50))], none, []⟩, ⟨some 36, .call 12 [.c (.int .i64 (40)), .c (.int .i64 (0)), .c (.int .i64 (100)), .c (.int .i64 (50))], none, [1]⟩, ⟨some 37, .call 12 [.c (.int .i64 (0)), .c (.int .i64 (30)), .c (.int .i64 (100)), .c (.int .i64 (50))], none, [2]⟩, ⟨some 38, .buildSlice 54 4 [.t 35, .t 36, .t 37], none, [1, 2, 3]⟩, ⟨some 39, .call 10 [.t 34, .t 38], none, [0, 4, 3]⟩, ⟨some 40, .mv (.t 39), none, [5, 5]⟩, ⟨some 41, .mv (.t 3), some (40, true), [6]⟩, ⟨some 42, .pick (.t 40) (.t 41) (.c (.bool false)), none, [6, 7]⟩, ⟨some 43, .mv (.t 42), none, [8, 6]⟩, ⟨some 44, .load 4 true (.t 2), some (43, true), [9]⟩, ⟨some 45, .call 12 [.c (.int .i64 (40)), .c (.int .i64 (0)), .c (.int .i64 (100)), .c (.int .i64 (50))], some (43, true), [9, 9]⟩, ⟨some 46, .eqAgg false [0, 0, 0, 0] (.t 44) (.t 45), some (43, true), [10, 11, 9]⟩, ⟨some 47, .pick (.t 43) (.t 46) (.c (.bool false)), none, [9, 12]⟩, ⟨some 48, .mv (.t 47), none, [13, 11]⟩, ⟨some 49, .mv (.t 6), some (48, true), [14]⟩, ⟨some 50, .pick (.t 48) (.t 49) (.c (.bool false)), none, [14, 15]⟩, ⟨some 51, .mv (.t 50), none, [16, 14]⟩, ⟨some 52, .load 6 true (.t 5), some (51, true), [17]⟩, ⟨some 53, .build [.string ⟨⟨[]⟩⟩, .string ⟨⟨[]⟩⟩, .int .i64 (0), .int .i64 (0), .int .i64 (0), .string ⟨⟨[]⟩⟩] [(0, 1, .c (.string ⟨⟨[(88 : UInt8), (49 : UInt8), (114 : UInt8)]⟩⟩)), (1, 1, .c (.string ⟨⟨[(65 : UInt8)]⟩⟩)), (2, 1, .c (.int .i64 (9))), (3, 1, .c (.int .i64 (60))), (4, 1, .c (.int .i64 (50))), (5, 1, .c (.string ⟨⟨[(72 : UInt8)]⟩⟩))], some (51, true), [17]⟩, ⟨some 54, .eqAgg false [2, 2, 0, 0, 0, 2] (.t 52) (.t 53), some (51, true), [18, 19, 17]⟩, ⟨some 55, .pick (.t 51) (.t 54) (.c (.bool false)), none, [17, 20]⟩, ⟨some 0, .mv (.t 55), none, [21, 17, 0, 1, 2, 3, 4, 5, 6, 7, 8, 9, 10, 11, 12, 13, 14, 15, 16, 17, 18, 19, 20, 21]⟩]).seq ACode.ret))))))
theorem Tryz.F5 : FnFacts Tryz.prog 5 Tryz.f5 Tryz.ac5 56 [.tmp 0] := ⟨Tryz.func5, by kernel_rfl, by kernel_rfl, by kernel_rfl, by kernel_rfl, by kernel_rfl, by kernel_rfl, by kernel_rfl⟩
def Tryz.ac6 : ACode := ((ACode.region false [⟨some 2, .box 3 (.t 0), none, []⟩, ⟨some 4, .mv (.c (.slice none 0 0)), none, []⟩, ⟨some 5, .mv (.c (.int .i64 (0))), none, []⟩]).seq ((ACode.region false [⟨some 10, .load 3 true (.t 2), none, []⟩, ⟨some 11, .mv (.t 1), none, []⟩, ⟨some 12, .call 14 [.t 10, .t 11], none, []⟩, ⟨some 9, .mv (.t 12), none, []⟩, ⟨some 13, .extract (.t 9) 0, none, []⟩, ⟨some 14, .extract (.t 9) 1, none, []⟩, ⟨some 6, .mv (.t 13), none, []⟩, ⟨some 5, .mv (.t 14), none, []⟩]).seq (((ACode.region false [⟨some 15, .mv (.t 5), none, []⟩, ⟨some 16, .bin .neq (.t 15) (.c (.int .i64 (0))), none, []⟩]).seq (ACode.cond (.t 16) ((ACode.region false [⟨some 17, .mv (.t 5), none, []⟩, ⟨some 4, .mv (.c (.slice none 0 0)), none, []⟩, ⟨some 5, .mv (.t 17), none, []⟩]).seq ACode.ret) ACode.skip)).seq (((ACode.region false [⟨some 18, .mv (.t 6), none, []⟩, ⟨some 19, .len (.t 18), none, []⟩, ⟨some 20, .mv (.c (.int .i64 (0))), none, []⟩]).seq (ACode.block 0 ((ACode.region false [⟨some 21, .bin .lss (.t 20) (.t 19), none, []⟩]).seq ((ACode.cond (.t 21) ACode.skip (ACode.exit 0)).seq ((ACode.block 1 ((ACode.region false [⟨some 22, .idxAddr 2 (.t 18) (.t 20), none, []⟩, ⟨some 23, .load 2 true (.t 22), none, []⟩, ⟨some 8, .alloc [.slice none 0 0, .slice none 0 0], none, []⟩, ⟨none, .store 2 (.t 8) (.t 23), none, []⟩]).seq (ACode.region false [⟨some 24, .mv (.t 4), none, []⟩, ⟨some 25, .load 2 true (.t 8), none, []⟩, ⟨some 26, .call 15 [.t 25], none, []⟩, ⟨some 27, .buildSlice 54 4 [.t 26], none, []⟩, ⟨some 28, .append 54 4 32 (.t 24) (.t 27), none, []⟩, ⟨some 4, .mv (.t 28), none, []⟩]))).seq (ACode.region false [⟨some 29, .bin .add (.t 20) (.c (.int .i64 (1))), none, []⟩, ⟨some 20, .mv (.t 29), none, []⟩])))).loop)).seq ((ACode.region false [⟨some 30, .mv (.t 4), none, []⟩, ⟨some 4, .mv (.t 30), none, []⟩, ⟨some 5, .mv (.c (.int .i64 (0))), none, []⟩]).seq ACode.ret)))))
theorem Tryz.F6 : FnFacts Tryz.prog 6 Tryz.f6 Tryz.ac6 31 [.tmp 4, .tmp 5] := ⟨Tryz.func6, by kernel_rfl, by kernel_rfl, by kernel_rfl, by kernel_rfl, by kernel_rfl, by kernel_rfl, by kernel_rfl⟩
def Tryz.ac7 : ACode := ((ACode.region false [⟨some 2, .box 3 (.t 0), none, []⟩, ⟨some 4, .mv (.c (.slice none 0 0)), none, []⟩, ⟨some 5, .mv (.c (.int .i64 (0))), none, []⟩]).seq ((ACode.region false [⟨some 11, .load 3 true (.t 2), none, []⟩, ⟨some 12, .mv (.t 1), none, []⟩, ⟨some 13, .call 16 [.t 11, .t 12], none, []⟩, ⟨some 10, .mv (.t 13), none, []⟩, ⟨some 14, .extract (.t 10) 0, none, []⟩, ⟨some 15, .extract (.t 10) 1, none, []⟩, ⟨some 6, .mv (.t 14), none, []⟩, ⟨some 7, .mv (.t 15), none, []⟩]).seq (((ACode.region false [⟨some 16, .mv (.t 7), none, []⟩, ⟨some 17, .bin .neq (.t 16) (.c (.int .i64 (0))), none, []⟩]).seq (ACode.cond (.t 17) ((ACode.region false [⟨some 18, .mv (.t 7), none, []⟩, ⟨some 4, .mv (.c (.slice none 0 0)), none, []⟩, ⟨some 5, .mv (.t 18), none, []⟩]).seq ACode.ret) ACode.skip)).seq ((ACode.region false [⟨some 8, .mv (.c (.slice none 0 0)), none, []⟩]).seq (((ACode.region false [⟨some 9, .mv (.c (.int .i64 (0))), none, []⟩]).seq (ACode.block 0 (((ACode.region false [⟨some 19, .mv (.t 9), none, []⟩, ⟨some 20, .mv (.t 6), none, []⟩, ⟨some 21, .len (.t 20), none, []⟩, ⟨some 22, .bin .lss (.t 19) (.t 21), none, []⟩]).seq (ACode.cond (.t 22) ACode.skip (ACode.exit 0))).seq ((ACode.block 1 (ACode.region false [⟨some 25, .mv (.t 8), none, []⟩, ⟨some 26, .mv (.t 6), none, []⟩, ⟨some 27, .mv (.t 9), none, []⟩, ⟨some 28, .idxAddr 2 (.t 26) (.t 27), none, []⟩, ⟨some 29, .load 2 true (.t 28), none, []⟩, ⟨some 30, .call 17 [.t 29], none, []⟩, ⟨some 31, .buildSlice 54 4 [.t 30], none, []⟩, ⟨some 32, .append 54 4 32 (.t 25) (.t 31), none, []⟩, ⟨some 8, .mv (.t 32), none, []⟩])).seq (ACode.region false [⟨some 23, .mv (.t 9), none, []⟩, ⟨some 24, .bin .add (.t 23) (.c (.int .i64 (1))), none, []⟩, ⟨some 9, .mv (.t 24), none, []⟩]))).loop)).seq ((ACode.region false [⟨some 33, .mv (.t 8), none, []⟩, ⟨some 4, .mv (.t 33), none, []⟩, ⟨some 5, .mv (.c (.int .i64 (0))), none, []⟩]).seq ACode.ret))))))
theorem Tryz.F7 : FnFacts Tryz.prog 7 Tryz.f7 Tryz.ac7 34 [.tmp 4, .tmp 5] := ⟨Tryz.func7, by kernel_rfl, by kernel_rfl, by kernel_rfl, by kernel_rfl, by kernel_rfl, by kernel_rfl, by kernel_rfl⟩
def Tryz.ac8 : ACode := ((ACode.region false [⟨some 4, .box 6 (.t 0), none, []⟩, ⟨some 5, .box 3 (.t 1), none, []⟩, ⟨some 8, .alloc [.string ⟨⟨[]⟩⟩, .string ⟨⟨[]⟩⟩, .int .i64 (0), .int .i64 (0), .int .i64 (0), .string ⟨⟨[]⟩⟩], none, []⟩, ⟨some 9, .mv (.c (.bool false)), none, []⟩]).seq ((ACode.region false [⟨some 16, .load 3 true (.t 5), none, []⟩, ⟨some 17, .mv (.t 2), none, []⟩, ⟨some 18, .call 6 [.t 16, .t 17], none, []⟩, ⟨some 15, .mv (.t 18), none, []⟩, ⟨some 19, .extract (.t 15) 0, none, []⟩, ⟨some 20, .extract (.t 15) 1, none, []⟩, ⟨some 10, .mv (.t 19), none, []⟩, ⟨some 11, .mv (.t 20), none, []⟩]).seq (((ACode.region false [⟨some 21, .mv (.t 11), none, []⟩, ⟨some 22, .bin .neq (.t 21) (.c (.int .i64 (0))), none, []⟩]).seq (ACode.cond (.t 22) ((ACode.region false [⟨some 23, .load 6 true (.t 8), none, []⟩, ⟨none, .store 6 (.t 8) (.t 23), none, []⟩, ⟨some 9, .mv (.c (.bool false)), none, []⟩]).seq ACode.ret) ACode.skip)).seq ((ACode.region false [⟨some 25, .fieldAddr 3 (.t 4), none, []⟩, ⟨some 26, .load 1 false (.t 25), none, []⟩, ⟨some 27, .fieldAddr 4 (.t 4), none, []⟩, ⟨some 28, .load 1 false (.t 27), none, []⟩, ⟨some 29, .mv (.t 10), none, []⟩, ⟨some 30, .fieldAddr 1 (.t 5), none, []⟩, ⟨some 31, .load 1 false (.t 30), none, []⟩, ⟨some 32, .call 13 [.t 26, .t 28, .t 29, .t 31], none, []⟩, ⟨some 24, .mv (.t 32), none, []⟩, ⟨some 33, .extract (.t 24) 0, none, []⟩, ⟨some 34, .extract (.t 24) 1, none, []⟩, ⟨some 12, .alloc [.int .i64 (0), .int .i64 (0), .int .i64 (0), .int .i64 (0)], none, []⟩, ⟨none, .store 4 (.t 12) (.t 33), none, []⟩, ⟨some 9, .mv (.t 34), none, []⟩]).seq ((ACode.region true [⟨some 35, .fieldAddr 2 (.t 12), none, []⟩, ⟨some 36, .fieldAddr 0 (.t 35), none, [0]⟩, ⟨some 37, .load 1 false (.t 36), none, [1]⟩, ⟨some 38, .fieldAddr 0 (.t 12), none, []⟩, ⟨some 39, .fieldAddr 0 (.t 38), none, [3]⟩, ⟨some 40, .load 1 false (.t 39), none, [4]⟩, ⟨some 41, .bin .sub (.t 37) (.t 40), none, [2, 5]⟩, ⟨some 42, .fieldAddr 2 (.t 12), none, []⟩, ⟨some 43, .fieldAddr 1 (.t 42), none, [7]⟩, ⟨some 44, .load 1 false (.t 43), none, [8]⟩, ⟨some 45, .fieldAddr 0 (.t 12), none, []⟩, ⟨some 46, .fieldAddr 1 (.t 45), none, [10]⟩, ⟨some 47, .load 1 false (.t 46), none, [11]⟩, ⟨some 48, .bin .sub (.t 44) (.t 47), none, [9, 12]⟩, ⟨some 13, .mv (.t 41), none, [6, 0, 1, 2, 3, 4, 5, 6]⟩, ⟨some 14, .mv (.t 48), none, [13, 14, 0, 1, 2, 3, 4, 5, 6, 7, 8, 9, 10, 11, 12, 13, 14]⟩]).seq (((ACode.region false [⟨some 49, .mv (.t 9), none, []⟩, ⟨some 50, .un .not (.t 49), none, []⟩, ⟨some 51, .mv (.t 50), none, []⟩, ⟨some 52, .mv (.t 13), some (51, false), []⟩, ⟨some 53, .mv (.t 14), some (51, false), []⟩, ⟨some 54, .minmax false (.t 52) (.t 53), some (51, false), []⟩, ⟨some 55, .mv (.t 3), some (51, false), []⟩, ⟨some 56, .bin .lss (.t 54) (.t 55), some (51, false), []⟩, ⟨some 57, .pick (.t 51) (.c (.bool true)) (.t 56), none, []⟩]).seq (ACode.cond (.t 57) ((ACode.region false [⟨some 58, .load 6 true (.t 8), none, []⟩, ⟨none, .store 6 (.t 8) (.t 58), none, []⟩, ⟨some 9, .mv (.c (.bool false)), none, []⟩]).seq ACode.ret) ACode.skip)).seq ((ACode.region false [⟨some 59, .load 6 true (.t 4), none, []⟩, ⟨none, .store 6 (.t 8) (.t 59), none, []⟩]).seq ((ACode.region false [⟨some 60, .fieldAddr 0 (.t 8), none, []⟩, ⟨some 61, .load 1 false (.t 60), none, []⟩, ⟨some 62, .bin .add (.t 61) (.c (.string ⟨⟨[(114 : UInt8)]⟩⟩)), none, []⟩, ⟨some 63, .fieldAddr 0 (.t 8), none, []⟩, ⟨none, .store 1 (.t 63) (.t 62), none, []⟩]).seq ((ACode.region false [⟨some 64, .mv (.t 13), none, []⟩, ⟨some 65, .mv (.t 14), none, []⟩, ⟨some 66, .minmax true (.t 64) (.t 65), none, []⟩, ⟨some 67, .mv (.t 13), none, []⟩, ⟨some 68, .mv (.t 14), none, []⟩, ⟨some 69, .minmax false (.t 67) (.t 68), none, []⟩, ⟨some 70, .fieldAddr 3 (.t 8), none, []⟩, ⟨none, .store 1 (.t 70) (.t 66), none, []⟩, ⟨some 71, .fieldAddr 4 (.t 8), none, []⟩, ⟨none, .store 1 (.t 71) (.t 69), none, []⟩]).seq ((ACode.region false [⟨some 72, .load 6 true (.t 8), none, []⟩, ⟨none, .store 6 (.t 8) (.t 72), none, []⟩, ⟨some 9, .mv (.c (.bool true)), none, []⟩]).seq ACode.ret))))))))))
theorem Tryz.F8 : FnFacts Tryz.prog 8 Tryz.f8 Tryz.ac8 73 [.cell 8 23, .tmp 9] := ⟨Tryz.func8, by kernel_rfl, by kernel_rfl, by kernel_rfl, by kernel_rfl, by kernel_rfl, by kernel_rfl, by kernel_rfl⟩
def Tryz.ac9 : ACode := ((ACode.region false [⟨some 4, .box 6 (.t 0), none, []⟩, ⟨some 5, .box 3 (.t 1), none, []⟩, ⟨some 8, .alloc [.string ⟨⟨[]⟩⟩, .string ⟨⟨[]⟩⟩, .int .i64 (0), .int .i64 (0), .int .i64 (0), .string ⟨⟨[]⟩⟩], none, []⟩, ⟨some 9, .mv (.c (.bool false)), none, []⟩]).seq ((ACode.region false [⟨some 17, .load 3 true (.t 5), none, []⟩, ⟨some 18, .mv (.t 2), none, []⟩, ⟨some 19, .call 7 [.t 17, .t 18], none, []⟩, ⟨some 16, .mv (.t 19), none, []⟩, ⟨some 20, .extract (.t 16) 0, none, []⟩, ⟨some 21, .extract (.t 16) 1, none, []⟩, ⟨some 10, .mv (.t 20), none, []⟩, ⟨some 11, .mv (.t 21), none, []⟩]).seq (((ACode.region false [⟨some 22, .mv (.t 11), none, []⟩, ⟨some 23, .bin .neq (.t 22) (.c (.int .i64 (0))), none, []⟩]).seq (ACode.cond (.t 23) ((ACode.region false [⟨some 24, .build [.string ⟨⟨[]⟩⟩, .string ⟨⟨[]⟩⟩, .int .i64 (0), .int .i64 (0), .int .i64 (0), .string ⟨⟨[]⟩⟩] [], none, []⟩, ⟨none, .store 6 (.t 8) (.t 24), none, []⟩, ⟨some 9, .mv (.c (.bool false)), none, []⟩]).seq ACode.ret) ACode.skip)).seq ((ACode.region false [⟨some 26, .fieldAddr 3 (.t 4), none, []⟩, ⟨some 27, .load 1 false (.t 26), none, []⟩, ⟨some 28, .fieldAddr 4 (.t 4), none, []⟩, ⟨some 29, .load 1 false (.t 28), none, []⟩, ⟨some 30, .mv (.t 10), none, []⟩, ⟨some 31, .fieldAddr 1 (.t 5), none, []⟩, ⟨some 32, .load 1 false (.t 31), none, []⟩, ⟨some 33, .call 18 [.t 27, .t 29, .t 30, .t 32], none, []⟩, ⟨some 25, .mv (.t 33), none, []⟩, ⟨some 34, .extract (.t 25) 0, none, []⟩, ⟨some 35, .extract (.t 25) 1, none, []⟩, ⟨some 12, .alloc [.int .i64 (0), .int .i64 (0), .int .i64 (0), .int .i64 (0)], none, []⟩, ⟨none, .store 4 (.t 12) (.t 34), none, []⟩, ⟨some 13, .mv (.t 35), none, []⟩]).seq ((ACode.region true [⟨some 36, .fieldAddr 2 (.t 12), none, []⟩, ⟨some 37, .fieldAddr 0 (.t 36), none, [0]⟩, ⟨some 38, .load 1 false (.t 37), none, [1]⟩, ⟨some 39, .fieldAddr 0 (.t 12), none, []⟩, ⟨some 40, .fieldAddr 0 (.t 39), none, [3]⟩, ⟨some 41, .load 1 false (.t 40), none, [4]⟩, ⟨some 42, .bin .sub (.t 38) (.t 41), none, [2, 5]⟩, ⟨some 43, .fieldAddr 2 (.t 12), none, []⟩, ⟨some 44, .fieldAddr 1 (.t 43), none, [7]⟩, ⟨some 45, .load 1 false (.t 44), none, [8]⟩, ⟨some 46, .fieldAddr 0 (.t 12), none, []⟩, ⟨some 47, .fieldAddr 1 (.t 46), none, [10]⟩, ⟨some 48, .load 1 false (.t 47), none, [11]⟩, ⟨some 49, .bin .sub (.t 45) (.t 48), none, [9, 12]⟩, ⟨some 14, .mv (.t 42), none, [6, 0, 1, 2, 3, 4, 5, 6]⟩, ⟨some 15, .mv (.t 49), none, [13, 14, 0, 1, 2, 3, 4, 5, 6, 7, 8, 9, 10, 11, 12, 13, 14]⟩]).seq (((ACode.region false [⟨some 50, .mv (.t 13), none, []⟩, ⟨some 51, .un .not (.t 50), none, []⟩, ⟨some 52, .mv (.t 51), none, []⟩, ⟨some 53, .mv (.t 14), some (52, false), []⟩, ⟨some 54, .mv (.t 3), some (52, false), []⟩, ⟨some 55, .bin .lss (.t 53) (.t 54), some (52, false), []⟩, ⟨some 56, .pick (.t 52) (.c (.bool true)) (.t 55), none, []⟩, ⟨some 57, .mv (.t 56), none, []⟩, ⟨some 58, .mv (.t 15), some (57, false), []⟩, ⟨some 59, .mv (.t 3), some (57, false), []⟩, ⟨some 60, .bin .lss (.t 58) (.t 59), some (57, false), []⟩, ⟨some 61, .pick (.t 57) (.c (.bool true)) (.t 60), none, []⟩]).seq (ACode.cond (.t 61) ((ACode.region false [⟨some 62, .build [.string ⟨⟨[]⟩⟩, .string ⟨⟨[]⟩⟩, .int .i64 (0), .int .i64 (0), .int .i64 (0), .string ⟨⟨[]⟩⟩] [], none, []⟩, ⟨none, .store 6 (.t 8) (.t 62), none, []⟩, ⟨some 9, .mv (.c (.bool false)), none, []⟩]).seq ACode.ret) ACode.skip)).seq ((ACode.region false [⟨some 63, .fieldAddr 0 (.t 4), none, []⟩, ⟨some 64, .load 1 false (.t 63), none, []⟩, ⟨some 65, .bin .add (.t 64) (.c (.string ⟨⟨[(114 : UInt8)]⟩⟩)), none, []⟩, ⟨some 66, .fieldAddr 1 (.t 4), none, []⟩, ⟨some 67, .load 1 false (.t 66), none, []⟩, ⟨some 68, .fieldAddr 2 (.t 4), none, []⟩, ⟨some 69, .load 1 false (.t 68), none, []⟩, ⟨some 70, .mv (.t 14), none, []⟩, ⟨some 71, .mv (.t 15), none, []⟩, ⟨some 72, .minmax true (.t 70) (.t 71), none, []⟩, ⟨some 73, .mv (.t 14), none, []⟩, ⟨some 74, .mv (.t 15), none, []⟩, ⟨some 75, .minmax false (.t 73) (.t 74), none, []⟩, ⟨some 76, .fieldAddr 5 (.t 4), none, []⟩, ⟨some 77, .load 1 false (.t 76), none, []⟩, ⟨some 78, .build [.string ⟨⟨[]⟩⟩, .string ⟨⟨[]⟩⟩, .int .i64 (0), .int .i64 (0), .int .i64 (0), .string ⟨⟨[]⟩⟩] [(0, 1, .t 65), (1, 1, .t 67), (2, 1, .t 69), (3, 1, .t 72), (4, 1, .t 75), (5, 1, .t 77)], none, []⟩, ⟨none, .store 6 (.t 8) (.t 78), none, []⟩, ⟨some 9, .mv (.c (.bool true)), none, []⟩]).seq ACode.ret)))))))
theorem Tryz.F9 : FnFacts Tryz.prog 9 Tryz.f9 Tryz.ac9 79 [.cell 8 23, .tmp 9] := ⟨Tryz.func9, by kernel_rfl, by kernel_rfl, by kernel_rfl, by kernel_rfl, by kernel_rfl, by kernel_rfl, by kernel_rfl⟩
def Tryz.ac10 : ACode := ((ACode.region false [⟨some 4, .mv (.c (.bool false)), none, []⟩]).seq (((ACode.region false [⟨some 6, .mv (.t 0), none, []⟩, ⟨some 7, .len (.t 6), none, []⟩, ⟨some 8, .mv (.t 1), none, []⟩, ⟨some 9, .len (.t 8), none, []⟩, ⟨some 10, .bin .neq (.t 7) (.t 9), none, []⟩]).seq (ACode.cond (.t 10) ((ACode.region false [⟨some 4, .mv (.c (.bool false)), none, []⟩]).seq ACode.ret) ACode.skip)).seq (((ACode.region false [⟨some 5, .mv (.c (.int .i64 (0))), none, []⟩]).seq (ACode.block 0 (((ACode.region false [⟨some 11, .mv (.t 5), none, []⟩, ⟨some 12, .mv (.t 0), none, []⟩, ⟨some 13, .len (.t 12), none, []⟩, ⟨some 14, .bin .lss (.t 11) (.t 13), none, []⟩]).seq (ACode.cond (.t 14) ACode.skip (ACode.exit 0))).seq ((ACode.block 1 ((ACode.region true [⟨some 17, .mv (.t 0), none, []⟩, ⟨some 18, .mv (.t 5), none, []⟩, ⟨some 19, .idxAddr 4 (.t 17) (.t 18), none, [0, 1]⟩, ⟨some 20, .load 4 true (.t 19), none, [2]⟩, ⟨some 21, .mv (.t 1), none, []⟩, ⟨some 22, .mv (.t 5), none, []⟩, ⟨some 23, .idxAddr 4 (.t 21) (.t 22), none, [4, 5]⟩, ⟨some 24, .load 4 true (.t 23), none, [6]⟩, ⟨some 25, .eqAgg true [0, 0, 0, 0] (.t 20) (.t 24), none, [3, 7]⟩]).seq (ACode.cond (.t 25) ((ACode.region false [⟨some 4, .mv (.c (.bool false)), none, []⟩]).seq ACode.ret) ACode.skip))).seq (ACode.region false [⟨some 15, .mv (.t 5), none, []⟩, ⟨some 16, .bin .add (.t 15) (.c (.int .i64 (1))), none, []⟩, ⟨some 5, .mv (.t 16), none, []⟩]))).loop)).seq ((ACode.region false [⟨some 4, .mv (.c (.bool true)), none, []⟩]).seq ACode.ret))))
theorem Tryz.F10 : FnFacts Tryz.prog 10 Tryz.f10 Tryz.ac10 26 [.tmp 4] := ⟨Tryz.func10, by kernel_rfl, by kernel_rfl, by kernel_rfl, by kernel_rfl, by kernel_rfl, by kernel_rfl, by kernel_rfl⟩
def Tryz.ac11 : ACode := ((ACode.region false [⟨some 8, .mv (.c (.slice none 0 0)), none, []⟩]).seq (((ACode.region false [⟨some 19, .mv (.t 0), none, []⟩, ⟨some 20, .mv (.t 1), none, []⟩, ⟨some 21, .mv (.t 2), none, []⟩, ⟨some 22, .mv (.t 3), none, []⟩, ⟨some 23, .call 19 [.t 19, .t 20, .t 21, .t 22], none, []⟩, ⟨some 24, .un .not (.t 23), none, []⟩]).seq (ACode.cond (.t 24) ((ACode.region false [⟨some 8, .mv (.c (.slice none 0 0)), none, []⟩]).seq ACode.ret) ACode.skip)).seq ((ACode.region false [⟨some 25, .mv (.t 0), none, []⟩, ⟨some 26, .mv (.t 1), none, []⟩, ⟨some 27, .mv (.t 2), none, []⟩, ⟨some 28, .mv (.t 3), none, []⟩, ⟨some 29, .call 20 [.t 25, .t 26, .t 27, .t 28], none, []⟩, ⟨some 9, .alloc [.int .i64 (0), .int .i64 (0), .slice none 0 0], none, []⟩, ⟨none, .store 3 (.t 9) (.t 29), none, []⟩]).seq ((ACode.region false [⟨some 30, .load 3 true (.t 9), none, []⟩, ⟨some 31, .call 21 [.t 30], none, []⟩, ⟨some 10, .mv (.t 31), none, []⟩]).seq (((ACode.region false [⟨some 32, .mv (.t 10), none, []⟩, ⟨some 33, .len (.t 32), none, []⟩, ⟨some 34, .mv (.c (.int .i64 (0))), none, []⟩]).seq (ACode.block 0 ((ACode.region false [⟨some 35, .bin .lss (.t 34) (.t 33), none, []⟩]).seq ((ACode.cond (.t 35) ACode.skip (ACode.exit 0)).seq ((ACode.block 1 ((ACode.region false [⟨some 36, .mv (.t 34), none, []⟩, ⟨some 37, .idxAddr 1 (.t 32) (.t 34), none, []⟩, ⟨some 38, .load 1 false (.t 37), none, []⟩, ⟨some 11, .mv (.t 36), none, []⟩, ⟨some 12, .mv (.t 38), none, []⟩]).seq ((ACode.region false [⟨some 39, .mv (.t 10), none, []⟩, ⟨some 40, .mv (.t 11), none, []⟩, ⟨some 41, .bin .add (.t 40) (.c (.int .i64 (1))), none, []⟩, ⟨some 42, .slice 1 (.t 39) (some (.t 41)) none, none, []⟩, ⟨some 43, .len (.t 42), none, []⟩, ⟨some 44, .mv (.c (.int .i64 (0))), none, []⟩]).seq (ACode.block 2 ((ACode.region false [⟨some 45, .bin .lss (.t 44) (.t 43), none, []⟩]).seq ((ACode.cond (.t 45) ACode.skip (ACode.exit 2)).seq ((ACode.block 3 ((ACode.region false [⟨some 46, .idxAddr 1 (.t 42) (.t 44), none, []⟩, ⟨some 47, .load 1 false (.t 46), none, []⟩, ⟨some 14, .mv (.t 47), none, []⟩]).seq ((ACode.region false [⟨some 48, .load 3 true (.t 9), none, []⟩, ⟨some 49, .mv (.t 12), none, []⟩, ⟨some 50, .mv (.t 14), none, []⟩, ⟨some 51, .call 22 [.t 48, .t 49, .t 50], none, []⟩, ⟨some 52, .len (.t 51), none, []⟩, ⟨some 53, .mv (.c (.int .i64 (0))), none, []⟩]).seq (ACode.block 4 ((ACode.region false [⟨some 54, .bin .lss (.t 53) (.t 52), none, []⟩]).seq ((ACode.cond (.t 54) ACode.skip (ACode.exit 4)).seq ((ACode.block 5 ((ACode.region false [⟨some 55, .idxAddr 4 (.t 51) (.t 53), none, []⟩, ⟨some 56, .load 4 true (.t 55), none, []⟩, ⟨some 16, .alloc [.int .i64 (0), .int .i64 (0), .int .i64 (0), .int .i64 (0)], none, []⟩, ⟨none, .store 4 (.t 16) (.t 56), none, []⟩]).seq ((ACode.region true [⟨some 57, .load 4 true (.t 16), none, []⟩, ⟨some 58, .load 4 true (.t 16), none, []⟩, ⟨some 17, .alloc [.int .i64 (0), .int .i64 (0), .int .i64 (0), .int .i64 (0)], none, []⟩, ⟨some 18, .alloc [.int .i64 (0), .int .i64 (0), .int .i64 (0), .int .i64 (0)], none, []⟩, ⟨none, .store 4 (.t 17) (.t 57), none, [2, 0, 0, 2, 3]⟩, ⟨none, .store 4 (.t 18) (.t 58), none, [3, 1, 4, 0, 1, 2, 3, 4]⟩]).seq ((ACode.region false [⟨some 59, .fieldAddr 0 (.t 17), none, []⟩, ⟨some 60, .fieldAddr 0 (.t 59), none, []⟩, ⟨some 61, .load 1 false (.t 60), none, []⟩, ⟨some 62, .bin .sub (.t 61) (.c (.int .i64 (1))), none, []⟩, ⟨some 63, .fieldAddr 0 (.t 17), none, []⟩, ⟨some 64, .fieldAddr 0 (.t 63), none, []⟩, ⟨none, .store 1 (.t 64) (.t 62), none, []⟩]).seq ((ACode.region false [⟨some 65, .fieldAddr 2 (.t 18), none, []⟩, ⟨some 66, .fieldAddr 0 (.t 65), none, []⟩, ⟨some 67, .load 1 false (.t 66), none, []⟩, ⟨some 68, .bin .add (.t 67) (.c (.int .i64 (1))), none, []⟩, ⟨some 69, .fieldAddr 2 (.t 18), none, []⟩, ⟨some 70, .fieldAddr 0 (.t 69), none, []⟩, ⟨none, .store 1 (.t 70) (.t 68), none, []⟩]).seq ((ACode.region false [⟨some 71, .load 3 true (.t 9), none, []⟩, ⟨some 72, .load 4 true (.t 17), none, []⟩, ⟨some 73, .call 23 [.t 71, .t 72], none, []⟩, ⟨some 74, .un .not (.t 73), none, []⟩, ⟨some 75, .mv (.t 74), none, []⟩, ⟨some 76, .load 3 true (.t 9), some (75, true), []⟩, ⟨some 77, .load 4 true (.t 18), some (75, true), []⟩, ⟨some 78, .call 23 [.t 76, .t 77], some (75, true), []⟩, ⟨some 79, .un .not (.t 78), some (75, true), []⟩, ⟨some 80, .pick (.t 75) (.t 79) (.c (.bool false)), none, []⟩]).seq (ACode.cond (.t 80) (ACode.region false [⟨some 81, .mv (.t 8), none, []⟩, ⟨some 82, .load 4 true (.t 16), none, []⟩, ⟨some 83, .buildSlice 54 4 [.t 82], none, []⟩, ⟨some 84, .append 54 4 32 (.t 81) (.t 83), none, []⟩, ⟨some 8, .mv (.t 84), none, []⟩]) ACode.skip))))))).seq (ACode.region false [⟨some 85, .bin .add (.t 53) (.c (.int .i64 (1))), none, []⟩, ⟨some 53, .mv (.t 85), none, []⟩])))).loop)))).seq (ACode.region false [⟨some 86, .bin .add (.t 44) (.c (.int .i64 (1))), none, []⟩, ⟨some 44, .mv (.t 86), none, []⟩])))).loop)))).seq (ACode.region false [⟨some 87, .bin .add (.t 34) (.c (.int .i64 (1))), none, []⟩, ⟨some 34, .mv (.t 87), none, []⟩])))).loop)).seq ((ACode.region false [⟨some 88, .mv (.t 8), none, []⟩, ⟨some 89, .call 24 [.t 88, .f 25], none, []⟩]).seq ((ACode.region false [⟨some 90, .mv (.t 8), none, []⟩, ⟨some 8, .mv (.t 90), none, []⟩]).seq ACode.ret)))))))
theorem Tryz.F11 : FnFacts Tryz.prog 11 Tryz.f11 Tryz.ac11 91 [.tmp 8] := ⟨Tryz.func11, by kernel_rfl, by kernel_rfl, by kernel_rfl, by kernel_rfl, by kernel_rfl, by kernel_rfl, by kernel_rfl⟩
def Tryz.ac12 : ACode := ((ACode.region false [⟨some 8, .alloc [.int .i64 (0), .int .i64 (0), .int .i64 (0), .int .i64 (0)], none, []⟩]).seq ((ACode.region false [⟨some 9, .mv (.t 0), none, []⟩, ⟨some 10, .mv (.t 1), none, []⟩, ⟨some 11, .build [.int .i64 (0), .int .i64 (0)] [(0, 1, .t 9), (1, 1, .t 10)], none, []⟩, ⟨some 12, .mv (.t 2), none, []⟩, ⟨some 13, .mv (.t 3), none, []⟩, ⟨some 14, .build [.int .i64 (0), .int .i64 (0)] [(0, 1, .t 12), (1, 1, .t 13)], none, []⟩, ⟨some 15, .build [.int .i64 (0), .int .i64 (0), .int .i64 (0), .int .i64 (0)] [(0, 2, .t 11), (2, 2, .t 14)], none, []⟩, ⟨none, .store 4 (.t 8) (.t 15), none, []⟩]).seq ACode.ret))
theorem Tryz.F12 : FnFacts Tryz.prog 12 Tryz.f12 Tryz.ac12 16 [.cell 8 54] := ⟨Tryz.func12, by kernel_rfl, by kernel_rfl, by kernel_rfl, by kernel_rfl, by kernel_rfl, by kernel_rfl, by kernel_rfl⟩
def Tryz.ac13 : ACode := ((ACode.region false [⟨some 8, .alloc [.int .i64 (0), .int .i64 (0), .int .i64 (0), .int .i64 (0)], none, []⟩, ⟨some 9, .mv (.c (.bool false)), none, []⟩]).seq ((ACode.region false [⟨some 11, .mv (.t 0), none, []⟩, ⟨some 12, .mv (.t 1), none, []⟩, ⟨some 13, .mv (.t 2), none, []⟩, ⟨some 14, .mv (.t 3), none, []⟩, ⟨some 15, .call 11 [.t 11, .t 12, .t 13, .t 14], none, []⟩, ⟨some 10, .mv (.t 15), none, []⟩]).seq (((ACode.region false [⟨some 16, .mv (.t 10), none, []⟩, ⟨some 17, .len (.t 16), none, []⟩, ⟨some 18, .bin .eql (.t 17) (.c (.int .i64 (0))), none, []⟩]).seq (ACode.cond (.t 18) ((ACode.region false [⟨some 19, .load 4 true (.t 8), none, []⟩, ⟨none, .store 4 (.t 8) (.t 19), none, []⟩, ⟨some 9, .mv (.c (.bool false)), none, []⟩]).seq ACode.ret) ACode.skip)).seq ((ACode.region false [⟨some 20, .mv (.t 10), none, []⟩, ⟨some 21, .call 27 [.t 20, .f 28], none, []⟩, ⟨none, .store 4 (.t 8) (.t 21), none, []⟩, ⟨some 9, .mv (.c (.bool true)), none, []⟩]).seq ACode.ret))))
theorem Tryz.F13 : FnFacts Tryz.prog 13 Tryz.f13 Tryz.ac13 22 [.cell 8 54, .tmp 9] := ⟨Tryz.func13, by kernel_rfl, by kernel_rfl, by kernel_rfl, by kernel_rfl, by kernel_rfl, by kernel_rfl, by kernel_rfl⟩
def Tryz.ac14 : ACode := ((ACode.region false [⟨some 2, .box 3 (.t 0), none, []⟩, ⟨some 4, .mv (.c (.slice none 0 0)), none, []⟩, ⟨some 5, .mv (.c (.int .i64 (0))), none, []⟩]).seq (((ACode.region false [⟨some 10, .fieldAddr 2 (.t 2), none, []⟩, ⟨some 11, .load 1 false (.t 10), none, []⟩, ⟨some 12, .len (.t 11), none, []⟩, ⟨some 13, .mv (.c (.int .i64 (0))), none, []⟩]).seq (ACode.block 0 ((ACode.region false [⟨some 14, .bin .lss (.t 13) (.t 12), none, []⟩]).seq ((ACode.cond (.t 14) ACode.skip (ACode.exit 0)).seq ((ACode.block 1 ((ACode.region false [⟨some 15, .idxAddr 5 (.t 11) (.t 13), none, []⟩, ⟨some 16, .load 5 true (.t 15), none, []⟩, ⟨some 7, .alloc [.string ⟨⟨[]⟩⟩, .int .i64 (0), .int .i64 (0), .int .i64 (0), .bool false], none, []⟩, ⟨none, .store 5 (.t 7) (.t 16), none, []⟩]).seq ((ACode.region false [⟨some 18, .mv (.t 1), none, []⟩, ⟨some 19, .fieldAddr 0 (.t 7), none, []⟩, ⟨some 20, .load 1 false (.t 19), none, []⟩, ⟨some 21, .call 30 [.t 18, .t 20], none, []⟩, ⟨some 17, .mv (.t 21), none, []⟩, ⟨some 22, .extract (.t 17) 0, none, []⟩, ⟨some 23, .extract (.t 17) 1, none, []⟩, ⟨some 8, .alloc [.string ⟨⟨[]⟩⟩, .int .i64 (0), .int .i64 (0), .string ⟨⟨[]⟩⟩, .string ⟨⟨[]⟩⟩, .int .i64 (0), .slice none 0 0, .slice none 0 0, .string ⟨⟨[]⟩⟩, .int .i64 (0), .int .i64 (0), .int .i64 (0), .int .i64 (0), .int .i64 (0), .int .i64 (0), .int .i64 (0), .int .i64 (0), .int .i64 (0)], none, []⟩, ⟨none, .store 18 (.t 8) (.t 22), none, []⟩, ⟨some 9, .mv (.t 23), none, []⟩]).seq (((ACode.region false [⟨some 24, .mv (.t 9), none, []⟩, ⟨some 25, .un .not (.t 24), none, []⟩]).seq (ACode.cond (.t 25) ((ACode.region false [⟨some 4, .mv (.c (.slice none 0 0)), none, []⟩, ⟨some 5, .mv (.c (.int .i64 (8))), none, []⟩]).seq ACode.ret) ACode.skip)).seq (((ACode.region false [⟨some 26, .load 5 true (.t 7), none, []⟩, ⟨some 27, .call 31 [.t 26], none, []⟩, ⟨some 28, .un .not (.t 27), none, []⟩]).seq (ACode.cond (.t 28) ((ACode.region false [⟨some 4, .mv (.c (.slice none 0 0)), none, []⟩, ⟨some 5, .mv (.c (.int .i64 (9))), none, []⟩]).seq ACode.ret) ACode.skip)).seq (ACode.region false [⟨some 29, .mv (.t 4), none, []⟩, ⟨some 30, .fieldAddr 6 (.t 8), none, []⟩, ⟨some 31, .load 2 true (.t 30), none, []⟩, ⟨some 32, .load 5 true (.t 7), none, []⟩, ⟨some 33, .call 32 [.t 31, .t 32], none, []⟩, ⟨some 34, .buildSlice 43 2 [.t 33], none, []⟩, ⟨some 35, .append 43 2 48 (.t 29) (.t 34), none, []⟩, ⟨some 4, .mv (.t 35), none, []⟩])))))).seq (ACode.region false [⟨some 36, .bin .add (.t 13) (.c (.int .i64 (1))), none, []⟩, ⟨some 13, .mv (.t 36), none, []⟩])))).loop)).seq ((ACode.region false [⟨some 37, .mv (.t 4), none, []⟩, ⟨some 4, .mv (.t 37), none, []⟩, ⟨some 5, .mv (.c (.int .i64 (0))), none, []⟩]).seq ACode.ret)))
theorem Tryz.F14 : FnFacts Tryz.prog 14 Tryz.f14 Tryz.ac14 38 [.tmp 4, .tmp 5] := ⟨Tryz.func14, by kernel_rfl, by kernel_rfl, by kernel_rfl, by kernel_rfl, by kernel_rfl, by kernel_rfl, by kernel_rfl⟩
def Tryz.ac15 : ACode := ((ACode.region false [⟨some 1, .box 2 (.t 0), none, []⟩, ⟨some 2, .alloc [.int .i64 (0), .int .i64 (0), .int .i64 (0), .int .i64 (0)], none, []⟩]).seq ((ACode.region false [⟨some 3, .fieldAddr 0 (.t 1), none, []⟩, ⟨some 4, .load 1 false (.t 3), none, []⟩, ⟨some 5, .call 33 [.t 4], none, []⟩, ⟨none, .store 4 (.t 2) (.t 5), none, []⟩]).seq ACode.ret))
theorem Tryz.F15 : FnFacts Tryz.prog 15 Tryz.f15 Tryz.ac15 6 [.cell 2 54] := ⟨Tryz.func15, by kernel_rfl, by kernel_rfl, by kernel_rfl, by kernel_rfl, by kernel_rfl, by kernel_rfl, by kernel_rfl⟩
def Tryz.ac16 : ACode := ((ACode.region false [⟨some 2, .box 3 (.t 0), none, []⟩, ⟨some 4, .mv (.c (.slice none 0 0)), none, []⟩, ⟨some 5, .mv (.c (.int .i64 (0))), none, []⟩]).seq ((ACode.region false [⟨some 6, .mv (.c (.slice none 0 0)), none, []⟩]).seq (((ACode.region false [⟨some 7, .mv (.c (.int .i64 (0))), none, []⟩]).seq (ACode.block 0 (((ACode.region false [⟨some 9, .mv (.t 7), none, []⟩, ⟨some 10, .fieldAddr 2 (.t 2), none, []⟩, ⟨some 11, .load 1 false (.t 10), none, []⟩, ⟨some 12, .len (.t 11), none, []⟩, ⟨some 13, .bin .lss (.t 9) (.t 12), none, []⟩]).seq (ACode.cond (.t 13) ACode.skip (ACode.exit 0))).seq ((ACode.block 1 ((ACode.region false [⟨some 16, .mv (.t 1), none, []⟩, ⟨some 17, .fieldAddr 2 (.t 2), none, []⟩, ⟨some 18, .load 1 false (.t 17), none, []⟩, ⟨some 19, .mv (.t 7), none, []⟩, ⟨some 20, .idxAddr 5 (.t 18) (.t 19), none, []⟩, ⟨some 21, .fieldAddr 0 (.t 20), none, []⟩, ⟨some 22, .load 1 false (.t 21), none, []⟩, ⟨some 23, .call 34 [.t 16, .t 22], none, []⟩, ⟨some 8, .mv (.t 23), none, []⟩]).seq (((ACode.region false [⟨some 24, .mv (.t 8), none, []⟩, ⟨some 25, .bin .lss (.t 24) (.c (.int .i64 (0))), none, []⟩]).seq (ACode.cond (.t 25) ((ACode.region false [⟨some 4, .mv (.c (.slice none 0 0)), none, []⟩, ⟨some 5, .mv (.c (.int .i64 (8))), none, []⟩]).seq ACode.ret) ACode.skip)).seq (((ACode.region false [⟨some 26, .fieldAddr 2 (.t 2), none, []⟩, ⟨some 27, .load 1 false (.t 26), none, []⟩, ⟨some 28, .mv (.t 7), none, []⟩, ⟨some 29, .idxAddr 5 (.t 27) (.t 28), none, []⟩, ⟨some 30, .load 5 true (.t 29), none, []⟩, ⟨some 31, .call 35 [.t 30], none, []⟩, ⟨some 32, .un .not (.t 31), none, []⟩]).seq (ACode.cond (.t 32) ((ACode.region false [⟨some 4, .mv (.c (.slice none 0 0)), none, []⟩, ⟨some 5, .mv (.c (.int .i64 (9))), none, []⟩]).seq ACode.ret) ACode.skip)).seq (ACode.region true [⟨some 33, .mv (.t 6), none, []⟩, ⟨some 34, .mv (.t 1), none, []⟩, ⟨some 35, .mv (.t 8), none, []⟩, ⟨some 36, .idxAddr 18 (.t 34) (.t 35), none, [1, 2]⟩, ⟨some 37, .fieldAddr 6 (.t 36), none, [3]⟩, ⟨some 38, .load 2 true (.t 37), none, [4]⟩, ⟨some 39, .fieldAddr 2 (.t 2), none, []⟩, ⟨some 40, .load 1 false (.t 39), none, [6]⟩, ⟨some 41, .mv (.t 7), none, []⟩, ⟨some 42, .idxAddr 5 (.t 40) (.t 41), none, [7, 8]⟩, ⟨some 43, .load 5 true (.t 42), none, [9]⟩, ⟨some 44, .call 36 [.t 38, .t 43], none, [5, 10]⟩, ⟨some 45, .buildSlice 43 2 [.t 44], none, [11]⟩, ⟨some 46, .append 43 2 48 (.t 33) (.t 45), none, [0, 12, 11]⟩, ⟨some 6, .mv (.t 46), none, [13, 13, 0, 1, 2, 3, 4, 5, 6, 7, 8, 9, 10, 11, 12, 13]⟩]))))).seq (ACode.region false [⟨some 14, .mv (.t 7), none, []⟩, ⟨some 15, .bin .add (.t 14) (.c (.int .i64 (1))), none, []⟩, ⟨some 7, .mv (.t 15), none, []⟩]))).loop)).seq ((ACode.region false [⟨some 47, .mv (.t 6), none, []⟩, ⟨some 4, .mv (.t 47), none, []⟩, ⟨some 5, .mv (.c (.int .i64 (0))), none, []⟩]).seq ACode.ret))))
theorem Tryz.F16 : FnFacts Tryz.prog 16 Tryz.f16 Tryz.ac16 48 [.tmp 4, .tmp 5] := ⟨Tryz.func16, by kernel_rfl, by kernel_rfl, by kernel_rfl, by kernel_rfl, by kernel_rfl, by kernel_rfl, by kernel_rfl⟩
def Tryz.ac17 : ACode := ((ACode.region false [⟨some 1, .box 2 (.t 0), none, []⟩, ⟨some 2, .alloc [.int .i64 (0), .int .i64 (0), .int .i64 (0), .int .i64 (0)], none, []⟩]).seq ((ACode.region false [⟨some 6, .build [.int .i64 (0), .int .i64 (0), .int .i64 (0), .int .i64 (0)] [], none, []⟩, ⟨some 3, .alloc [.int .i64 (0), .int .i64 (0), .int .i64 (0), .int .i64 (0)], none, []⟩, ⟨none, .store 4 (.t 3) (.t 6), none, []⟩]).seq (((ACode.region false [⟨some 4, .mv (.c (.int .i64 (0))), none, []⟩]).seq (ACode.block 0 (((ACode.region false [⟨some 7, .mv (.t 4), none, []⟩, ⟨some 8, .fieldAddr 0 (.t 1), none, []⟩, ⟨some 9, .load 1 false (.t 8), none, []⟩, ⟨some 10, .len (.t 9), none, []⟩, ⟨some 11, .bin .lss (.t 7) (.t 10), none, []⟩]).seq (ACode.cond (.t 11) ACode.skip (ACode.exit 0))).seq ((ACode.block 1 ((ACode.region false [⟨some 14, .fieldAddr 0 (.t 1), none, []⟩, ⟨some 15, .load 1 false (.t 14), none, []⟩, ⟨some 16, .mv (.t 4), none, []⟩, ⟨some 17, .idxAddr 2 (.t 15) (.t 16), none, []⟩, ⟨some 18, .load 2 true (.t 17), none, []⟩, ⟨some 5, .alloc [.int .i64 (0), .int .i64 (0)], none, []⟩, ⟨none, .store 2 (.t 5) (.t 18), none, []⟩]).seq (((ACode.region false [⟨some 19, .mv (.t 4), none, []⟩, ⟨some 20, .bin .eql (.t 19) (.c (.int .i64 (0))), none, []⟩]).seq (ACode.cond (.t 20) (ACode.region false [⟨some 21, .load 2 true (.t 5), none, []⟩, ⟨some 22, .load 2 true (.t 5), none, []⟩, ⟨some 23, .build [.int .i64 (0), .int .i64 (0), .int .i64 (0), .int .i64 (0)] [(0, 2, .t 21), (2, 2, .t 22)], none, []⟩, ⟨none, .store 4 (.t 3) (.t 23), none, []⟩]) ACode.skip)).seq ((ACode.region false [⟨some 24, .fieldAddr 0 (.t 3), none, []⟩, ⟨some 25, .fieldAddr 0 (.t 24), none, []⟩, ⟨some 26, .load 1 false (.t 25), none, []⟩, ⟨some 27, .fieldAddr 0 (.t 5), none, []⟩, ⟨some 28, .load 1 false (.t 27), none, []⟩, ⟨some 29, .minmax false (.t 26) (.t 28), none, []⟩, ⟨some 30, .fieldAddr 0 (.t 3), none, []⟩, ⟨some 31, .fieldAddr 1 (.t 30), none, []⟩, ⟨some 32, .load 1 false (.t 31), none, []⟩, ⟨some 33, .fieldAddr 1 (.t 5), none, []⟩, ⟨some 34, .load 1 false (.t 33), none, []⟩, ⟨some 35, .minmax false (.t 32) (.t 34), none, []⟩, ⟨some 36, .build [.int .i64 (0), .int .i64 (0)] [(0, 1, .t 29), (1, 1, .t 35)], none, []⟩, ⟨some 37, .fieldAddr 0 (.t 3), none, []⟩, ⟨none, .store 2 (.t 37) (.t 36), none, []⟩]).seq (ACode.region false [⟨some 38, .fieldAddr 2 (.t 3), none, []⟩, ⟨some 39, .fieldAddr 0 (.t 38), none, []⟩, ⟨some 40, .load 1 false (.t 39), none, []⟩, ⟨some 41, .fieldAddr 0 (.t 5), none, []⟩, ⟨some 42, .load 1 false (.t 41), none, []⟩, ⟨some 43, .minmax true (.t 40) (.t 42), none, []⟩, ⟨some 44, .fieldAddr 2 (.t 3), none, []⟩, ⟨some 45, .fieldAddr 1 (.t 44), none, []⟩, ⟨some 46, .load 1 false (.t 45), none, []⟩, ⟨some 47, .fieldAddr 1 (.t 5), none, []⟩, ⟨some 48, .load 1 false (.t 47), none, []⟩, ⟨some 49, .minmax true (.t 46) (.t 48), none, []⟩, ⟨some 50, .build [.int .i64 (0), .int .i64 (0)] [(0, 1, .t 43), (1, 1, .t 49)], none, []⟩, ⟨some 51, .fieldAddr 2 (.t 3), none, []⟩, ⟨none, .store 2 (.t 51) (.t 50), none, []⟩]))))).seq (ACode.region false [⟨some 12, .mv (.t 4), none, []⟩, ⟨some 13, .bin .add (.t 12) (.c (.int .i64 (1))), none, []⟩, ⟨some 4, .mv (.t 13), none, []⟩]))).loop)).seq ((ACode.region false [⟨some 52, .load 4 true (.t 3), none, []⟩, ⟨none, .store 4 (.t 2) (.t 52), none, []⟩]).seq ACode.ret))))
theorem Tryz.F17 : FnFacts Tryz.prog 17 Tryz.f17 Tryz.ac17 53 [.cell 2 54] := ⟨Tryz.func17, by kernel_rfl, by kernel_rfl, by kernel_rfl, by kernel_rfl, by kernel_rfl, by kernel_rfl, by kernel_rfl⟩
def Tryz.ac18 : ACode := ((ACode.region false [⟨some 8, .alloc [.int .i64 (0), .int .i64 (0), .int .i64 (0), .int .i64 (0)], none, []⟩, ⟨some 9, .mv (.c (.bool false)), none, []⟩]).seq ((ACode.region false [⟨some 13, .mv (.t 0), none, []⟩, ⟨some 14, .mv (.t 1), none, []⟩, ⟨some 15, .mv (.t 2), none, []⟩, ⟨some 16, .mv (.t 3), none, []⟩, ⟨some 17, .call 37 [.t 13, .t 14, .t 15, .t 16], none, []⟩, ⟨some 10, .mv (.t 17), none, []⟩]).seq (((ACode.region false [⟨some 18, .mv (.t 10), none, []⟩, ⟨some 19, .len (.t 18), none, []⟩, ⟨some 20, .bin .eql (.t 19) (.c (.int .i64 (0))), none, []⟩]).seq (ACode.cond (.t 20) ((ACode.region false [⟨some 21, .build [.int .i64 (0), .int .i64 (0), .int .i64 (0), .int .i64 (0)] [], none, []⟩, ⟨none, .store 4 (.t 8) (.t 21), none, []⟩, ⟨some 9, .mv (.c (.bool false)), none, []⟩]).seq ACode.ret) ACode.skip)).seq ((ACode.region false [⟨some 22, .mv (.t 10), none, []⟩, ⟨some 23, .idxAddr 4 (.t 22) (.c (.int .i64 (0))), none, []⟩, ⟨some 24, .load 4 true (.t 23), none, []⟩, ⟨some 11, .alloc [.int .i64 (0), .int .i64 (0), .int .i64 (0), .int .i64 (0)], none, []⟩, ⟨none, .store 4 (.t 11) (.t 24), none, []⟩]).seq (((ACode.region false [⟨some 12, .mv (.c (.int .i64 (0))), none, []⟩]).seq (ACode.block 0 (((ACode.region false [⟨some 25, .mv (.t 12), none, []⟩, ⟨some 26, .mv (.t 10), none, []⟩, ⟨some 27, .len (.t 26), none, []⟩, ⟨some 28, .bin .lss (.t 25) (.t 27), none, []⟩]).seq (ACode.cond (.t 28) ACode.skip (ACode.exit 0))).seq ((ACode.block 1 ((ACode.region true [⟨some 31, .mv (.t 10), none, []⟩, ⟨some 32, .mv (.t 12), none, []⟩, ⟨some 33, .idxAddr 4 (.t 31) (.t 32), none, [0, 1]⟩, ⟨some 34, .load 4 true (.t 33), none, [2]⟩, ⟨some 35, .load 4 true (.t 11), none, []⟩, ⟨some 36, .call 38 [.t 34, .t 35], none, [3, 4]⟩]).seq (ACode.cond (.t 36) (ACode.region false [⟨some 37, .mv (.t 10), none, []⟩, ⟨some 38, .mv (.t 12), none, []⟩, ⟨some 39, .idxAddr 4 (.t 37) (.t 38), none, []⟩, ⟨some 40, .load 4 true (.t 39), none, []⟩, ⟨none, .store 4 (.t 11) (.t 40), none, []⟩]) ACode.skip))).seq (ACode.region false [⟨some 29, .mv (.t 12), none, []⟩, ⟨some 30, .bin .add (.t 29) (.c (.int .i64 (1))), none, []⟩, ⟨some 12, .mv (.t 30), none, []⟩]))).loop)).seq ((ACode.region false [⟨some 41, .load 4 true (.t 11), none, []⟩, ⟨none, .store 4 (.t 8) (.t 41), none, []⟩, ⟨some 9, .mv (.c (.bool true)), none, []⟩]).seq ACode.ret))))))
theorem Tryz.F18 : FnFacts Tryz.prog 18 Tryz.f18 Tryz.ac18 42 [.cell 8 54, .tmp 9] := ⟨Tryz.func18, by kernel_rfl, by kernel_rfl, by kernel_rfl, by kernel_rfl, by kernel_rfl, by kernel_rfl, by kernel_rfl⟩
def Tryz.ac19 : ACode := ((ACode.region false [⟨some 8, .mv (.c (.bool false)), none, []⟩]).seq (((ACode.region false [⟨some 11, .mv (.t 0), none, []⟩, ⟨some 12, .call 39 [.t 11, .c (.int .i64 (1)), .c (.int .i64 (32768))], none, []⟩, ⟨some 13, .un .not (.t 12), none, []⟩, ⟨some 14, .mv (.t 13), none, []⟩, ⟨some 15, .mv (.t 1), some (14, false), []⟩, ⟨some 16, .call 39 [.t 15, .c (.int .i64 (1)), .c (.int .i64 (32768))], some (14, false), []⟩, ⟨some 17, .un .not (.t 16), some (14, false), []⟩, ⟨some 18, .pick (.t 14) (.c (.bool true)) (.t 17), none, []⟩, ⟨some 19, .mv (.t 18), none, []⟩, ⟨some 20, .mv (.t 3), some (19, false), []⟩, ⟨some 21, .call 39 [.t 20, .c (.int .i64 (0)), .c (.int .i64 (500))], some (19, false), []⟩, ⟨some 22, .un .not (.t 21), some (19, false), []⟩, ⟨some 23, .pick (.t 19) (.c (.bool true)) (.t 22), none, []⟩, ⟨some 24, .mv (.t 23), none, []⟩, ⟨some 25, .mv (.t 2), some (24, false), []⟩, ⟨some 26, .len (.t 25), some (24, false), []⟩, ⟨some 27, .bin .gtr (.t 26) (.c (.int .i64 (32))), some (24, false), []⟩, ⟨some 28, .pick (.t 24) (.c (.bool true)) (.t 27), none, []⟩]).seq (ACode.cond (.t 28) ((ACode.region false [⟨some 8, .mv (.c (.bool false)), none, []⟩]).seq ACode.ret) ACode.skip)).seq (((ACode.region false [⟨some 29, .mv (.t 2), none, []⟩, ⟨some 30, .len (.t 29), none, []⟩, ⟨some 31, .mv (.c (.int .i64 (0))), none, []⟩]).seq (ACode.block 0 ((ACode.region false [⟨some 32, .bin .lss (.t 31) (.t 30), none, []⟩]).seq ((ACode.cond (.t 32) ACode.skip (ACode.exit 0)).seq ((ACode.block 1 ((ACode.region false [⟨some 33, .idxAddr 4 (.t 29) (.t 31), none, []⟩, ⟨some 34, .load 4 true (.t 33), none, []⟩, ⟨some 10, .alloc [.int .i64 (0), .int .i64 (0), .int .i64 (0), .int .i64 (0)], none, []⟩, ⟨none, .store 4 (.t 10) (.t 34), none, []⟩]).seq ((ACode.region false [⟨some 35, .fieldAddr 0 (.t 10), none, []⟩, ⟨some 36, .fieldAddr 0 (.t 35), none, []⟩, ⟨some 37, .load 1 false (.t 36), none, []⟩, ⟨some 38, .bin .lss (.t 37) (.c (.int .i64 (Int.negSucc 32767))), none, []⟩, ⟨some 39, .mv (.t 38), none, []⟩, ⟨some 40, .fieldAddr 0 (.t 10), some (39, false), []⟩, ⟨some 41, .fieldAddr 1 (.t 40), some (39, false), []⟩, ⟨some 42, .load 1 false (.t 41), some (39, false), []⟩, ⟨some 43, .bin .lss (.t 42) (.c (.int .i64 (Int.negSucc 32767))), some (39, false), []⟩, ⟨some 44, .pick (.t 39) (.c (.bool true)) (.t 43), none, []⟩, ⟨some 45, .mv (.t 44), none, []⟩, ⟨some 46, .fieldAddr 2 (.t 10), some (45, false), []⟩, ⟨some 47, .fieldAddr 0 (.t 46), some (45, false), []⟩, ⟨some 48, .load 1 false (.t 47), some (45, false), []⟩, ⟨some 49, .bin .gtr (.t 48) (.c (.int .i64 (32768))), some (45, false), []⟩, ⟨some 50, .pick (.t 45) (.c (.bool true)) (.t 49), none, []⟩, ⟨some 51, .mv (.t 50), none, []⟩, ⟨some 52, .fieldAddr 2 (.t 10), some (51, false), []⟩, ⟨some 53, .fieldAddr 1 (.t 52), some (51, false), []⟩, ⟨some 54, .load 1 false (.t 53), some (51, false), []⟩, ⟨some 55, .bin .gtr (.t 54) (.c (.int .i64 (32768))), some (51, false), []⟩, ⟨some 56, .pick (.t 51) (.c (.bool true)) (.t 55), none, []⟩, ⟨some 57, .mv (.t 56), none, []⟩, ⟨some 58, .fieldAddr 0 (.t 10), some (57, false), []⟩, ⟨some 59, .fieldAddr 0 (.t 58), some (57, false), []⟩, ⟨some 60, .load 1 false (.t 59), some (57, false), []⟩, ⟨some 61, .fieldAddr 2 (.t 10), some (57, false), []⟩, ⟨some 62, .fieldAddr 0 (.t 61), some (57, false), []⟩, ⟨some 63, .load 1 false (.t 62), some (57, false), []⟩, ⟨some 64, .bin .gtr (.t 60) (.t 63), some (57, false), []⟩, ⟨some 65, .pick (.t 57) (.c (.bool true)) (.t 64), none, []⟩, ⟨some 66, .mv (.t 65), none, []⟩, ⟨some 67, .fieldAddr 0 (.t 10), some (66, false), []⟩, ⟨some 68, .fieldAddr 1 (.t 67), some (66, false), []⟩, ⟨some 69, .load 1 false (.t 68), some (66, false), []⟩, ⟨some 70, .fieldAddr 2 (.t 10), some (66, false), []⟩, ⟨some 71, .fieldAddr 1 (.t 70), some (66, false), []⟩, ⟨some 72, .load 1 false (.t 71), some (66, false), []⟩, ⟨some 73, .bin .gtr (.t 69) (.t 72), some (66, false), []⟩, ⟨some 74, .pick (.t 66) (.c (.bool true)) (.t 73), none, []⟩]).seq (ACode.cond (.t 74) ((ACode.region false [⟨some 8, .mv (.c (.bool false)), none, []⟩]).seq ACode.ret) ACode.skip)))).seq (ACode.region false [⟨some 75, .bin .add (.t 31) (.c (.int .i64 (1))), none, []⟩, ⟨some 31, .mv (.t 75), none, []⟩])))).loop)).seq ((ACode.region false [⟨some 8, .mv (.c (.bool true)), none, []⟩]).seq ACode.ret))))
theorem Tryz.F19 : FnFacts Tryz.prog 19 Tryz.f19 Tryz.ac19 76 [.tmp 8] := ⟨Tryz.func19, by kernel_rfl, by kernel_rfl, by kernel_rfl, by kernel_rfl, by kernel_rfl, by kernel_rfl, by kernel_rfl⟩
def Tryz.ac20 : ACode := ((ACode.region false [⟨some 8, .alloc [.int .i64 (0), .int .i64 (0), .slice none 0 0], none, []⟩]).seq ((ACode.region false [⟨some 12, .mv (.t 0), none, []⟩, ⟨some 13, .mv (.t 1), none, []⟩, ⟨some 14, .build [.int .i64 (0), .int .i64 (0), .slice none 0 0] [(0, 1, .t 12), (1, 1, .t 13)], none, []⟩, ⟨some 9, .alloc [.int .i64 (0), .int .i64 (0), .slice none 0 0], none, []⟩, ⟨none, .store 3 (.t 9) (.t 14), none, []⟩]).seq (((ACode.region false [⟨some 15, .mv (.t 2), none, []⟩, ⟨some 16, .len (.t 15), none, []⟩, ⟨some 17, .mv (.c (.int .i64 (0))), none, []⟩]).seq (ACode.block 0 ((ACode.region false [⟨some 18, .bin .lss (.t 17) (.t 16), none, []⟩]).seq ((ACode.cond (.t 18) ACode.skip (ACode.exit 0)).seq ((ACode.block 1 ((ACode.region false [⟨some 19, .idxAddr 4 (.t 15) (.t 17), none, []⟩, ⟨some 20, .load 4 true (.t 19), none, []⟩, ⟨some 11, .alloc [.int .i64 (0), .int .i64 (0), .int .i64 (0), .int .i64 (0)], none, []⟩, ⟨none, .store 4 (.t 11) (.t 20), none, []⟩]).seq ((ACode.region false [⟨some 21, .fieldAddr 0 (.t 11), none, []⟩, ⟨some 22, .fieldAddr 0 (.t 21), none, []⟩, ⟨some 23, .load 1 false (.t 22), none, []⟩, ⟨some 24, .mv (.t 3), none, []⟩, ⟨some 25, .bin .sub (.t 23) (.t 24), none, []⟩, ⟨some 26, .fieldAddr 0 (.t 11), none, []⟩, ⟨some 27, .fieldAddr 1 (.t 26), none, []⟩, ⟨some 28, .load 1 false (.t 27), none, []⟩, ⟨some 29, .mv (.t 3), none, []⟩, ⟨some 30, .bin .sub (.t 28) (.t 29), none, []⟩, ⟨some 31, .fieldAddr 2 (.t 11), none, []⟩, ⟨some 32, .fieldAddr 0 (.t 31), none, []⟩, ⟨some 33, .load 1 false (.t 32), none, []⟩, ⟨some 34, .mv (.t 3), none, []⟩, ⟨some 35, .bin .add (.t 33) (.t 34), none, []⟩, ⟨some 36, .fieldAddr 2 (.t 11), none, []⟩, ⟨some 37, .fieldAddr 1 (.t 36), none, []⟩, ⟨some 38, .load 1 false (.t 37), none, []⟩, ⟨some 39, .mv (.t 3), none, []⟩, ⟨some 40, .bin .add (.t 38) (.t 39), none, []⟩, ⟨some 41, .fieldAddr 0 (.t 11), none, []⟩, ⟨some 42, .fieldAddr 0 (.t 41), none, []⟩, ⟨none, .store 1 (.t 42) (.t 25), none, []⟩, ⟨some 43, .fieldAddr 0 (.t 11), none, []⟩, ⟨some 44, .fieldAddr 1 (.t 43), none, []⟩, ⟨none, .store 1 (.t 44) (.t 30), none, []⟩, ⟨some 45, .fieldAddr 2 (.t 11), none, []⟩, ⟨some 46, .fieldAddr 0 (.t 45), none, []⟩, ⟨none, .store 1 (.t 46) (.t 35), none, []⟩, ⟨some 47, .fieldAddr 2 (.t 11), none, []⟩, ⟨some 48, .fieldAddr 1 (.t 47), none, []⟩, ⟨none, .store 1 (.t 48) (.t 40), none, []⟩]).seq ((ACode.region false [⟨some 49, .fieldAddr 0 (.t 11), none, []⟩, ⟨some 50, .fieldAddr 0 (.t 49), none, []⟩, ⟨some 51, .load 1 false (.t 50), none, []⟩, ⟨some 52, .fieldAddr 2 (.t 11), none, []⟩, ⟨some 53, .fieldAddr 0 (.t 52), none, []⟩, ⟨some 54, .load 1 false (.t 53), none, []⟩, ⟨some 55, .bin .lss (.t 51) (.t 54), none, []⟩, ⟨some 56, .mv (.t 55), none, []⟩, ⟨some 57, .fieldAddr 0 (.t 11), some (56, true), []⟩, ⟨some 58, .fieldAddr 1 (.t 57), some (56, true), []⟩, ⟨some 59, .load 1 false (.t 58), some (56, true), []⟩, ⟨some 60, .fieldAddr 2 (.t 11), some (56, true), []⟩, ⟨some 61, .fieldAddr 1 (.t 60), some (56, true), []⟩, ⟨some 62, .load 1 false (.t 61), some (56, true), []⟩, ⟨some 63, .bin .lss (.t 59) (.t 62), some (56, true), []⟩, ⟨some 64, .pick (.t 56) (.t 63) (.c (.bool false)), none, []⟩]).seq (ACode.cond (.t 64) (ACode.region false [⟨some 65, .fieldAddr 2 (.t 9), none, []⟩, ⟨some 66, .load 1 false (.t 65), none, []⟩, ⟨some 67, .load 4 true (.t 11), none, []⟩, ⟨some 68, .buildSlice 54 4 [.t 67], none, []⟩, ⟨some 69, .append 54 4 32 (.t 66) (.t 68), none, []⟩, ⟨some 70, .fieldAddr 2 (.t 9), none, []⟩, ⟨none, .store 1 (.t 70) (.t 69), none, []⟩]) ACode.skip))))).seq (ACode.region false [⟨some 71, .bin .add (.t 17) (.c (.int .i64 (1))), none, []⟩, ⟨some 17, .mv (.t 71), none, []⟩])))).loop)).seq ((ACode.region false [⟨some 72, .load 3 true (.t 9), none, []⟩, ⟨none, .store 3 (.t 8) (.t 72), none, []⟩]).seq ACode.ret))))
theorem Tryz.F20 : FnFacts Tryz.prog 20 Tryz.f20 Tryz.ac20 73 [.cell 8 66] := ⟨Tryz.func20, by kernel_rfl, by kernel_rfl, by kernel_rfl, by kernel_rfl, by kernel_rfl, by kernel_rfl, by kernel_rfl⟩
def Tryz.ac21 : ACode := ((ACode.region false [⟨some 1, .box 3 (.t 0), none, []⟩, ⟨some 2, .mv (.c (.slice none 0 0)), none, []⟩]).seq ((ACode.region false [⟨some 8, .fieldAddr 0 (.t 1), none, []⟩, ⟨some 9, .load 1 false (.t 8), none, []⟩, ⟨some 10, .buildSlice 3 1 [.c (.int .i64 (0)), .t 9], none, []⟩, ⟨some 3, .mv (.t 10), none, []⟩]).seq (((ACode.region false [⟨some 11, .fieldAddr 2 (.t 1), none, []⟩, ⟨some 12, .load 1 false (.t 11), none, []⟩, ⟨some 13, .len (.t 12), none, []⟩, ⟨some 14, .mv (.c (.int .i64 (0))), none, []⟩]).seq (ACode.block 0 ((ACode.region false [⟨some 15, .bin .lss (.t 14) (.t 13), none, []⟩]).seq ((ACode.cond (.t 15) ACode.skip (ACode.exit 0)).seq ((ACode.block 1 ((ACode.region false [⟨some 16, .idxAddr 4 (.t 12) (.t 14), none, []⟩, ⟨some 17, .load 4 true (.t 16), none, []⟩, ⟨some 5, .alloc [.int .i64 (0), .int .i64 (0), .int .i64 (0), .int .i64 (0)], none, []⟩, ⟨none, .store 4 (.t 5) (.t 17), none, []⟩]).seq ((ACode.region false [⟨some 18, .fieldAddr 0 (.t 5), none, []⟩, ⟨some 19, .fieldAddr 0 (.t 18), none, []⟩, ⟨some 20, .load 1 false (.t 19), none, []⟩, ⟨some 21, .fieldAddr 2 (.t 5), none, []⟩, ⟨some 22, .fieldAddr 0 (.t 21), none, []⟩, ⟨some 23, .load 1 false (.t 22), none, []⟩, ⟨some 24, .build [.int .i64 (0), .int .i64 (0)] [(0, 1, .t 20), (1, 1, .t 23)], none, []⟩, ⟨some 25, .mv (.c (.int .i64 (0))), none, []⟩]).seq (ACode.block 2 ((ACode.region false [⟨some 26, .bin .lss (.t 25) (.c (.int .i64 (2))), none, []⟩]).seq ((ACode.cond (.t 26) ACode.skip (ACode.exit 2)).seq ((ACode.block 3 ((ACode.region false [⟨some 27, .idxArr 2 1 false (.t 24) (.t 25), none, []⟩, ⟨some 7, .mv (.t 27), none, []⟩]).seq ((ACode.region false [⟨some 28, .mv (.t 7), none, []⟩, ⟨some 29, .fieldAddr 0 (.t 1), none, []⟩, ⟨some 30, .load 1 false (.t 29), none, []⟩, ⟨some 31, .call 39 [.t 28, .c (.int .i64 (0)), .t 30], none, []⟩]).seq (ACode.cond (.t 31) (ACode.region false [⟨some 32, .mv (.t 3), none, []⟩, ⟨some 33, .mv (.t 7), none, []⟩, ⟨some 34, .buildSlice 3 1 [.t 33], none, []⟩, ⟨some 35, .append 3 1 8 (.t 32) (.t 34), none, []⟩, ⟨some 3, .mv (.t 35), none, []⟩]) ACode.skip)))).seq (ACode.region false [⟨some 36, .bin .add (.t 25) (.c (.int .i64 (1))), none, []⟩, ⟨some 25, .mv (.t 36), none, []⟩])))).loop)))).seq (ACode.region false [⟨some 37, .bin .add (.t 14) (.c (.int .i64 (1))), none, []⟩, ⟨some 14, .mv (.t 37), none, []⟩])))).loop)).seq ((ACode.region false [⟨some 38, .mv (.t 3), none, []⟩, ⟨some 39, .call 40 [.t 38], none, []⟩]).seq ((ACode.region false [⟨some 40, .mv (.t 3), none, []⟩, ⟨some 41, .call 41 [.t 40], none, []⟩, ⟨some 2, .mv (.t 41), none, []⟩]).seq ACode.ret)))))
theorem Tryz.F21 : FnFacts Tryz.prog 21 Tryz.f21 Tryz.ac21 42 [.tmp 2] := ⟨Tryz.func21, by kernel_rfl, by kernel_rfl, by kernel_rfl, by kernel_rfl, by kernel_rfl, by kernel_rfl, by kernel_rfl⟩
def Tryz.ac22 : ACode := ((ACode.region false [⟨some 3, .box 3 (.t 0), none, []⟩, ⟨some 6, .mv (.c (.slice none 0 0)), none, []⟩]).seq ((ACode.region false [⟨some 15, .fieldAddr 1 (.t 3), none, []⟩, ⟨some 16, .load 1 false (.t 15), none, []⟩, ⟨some 17, .fieldAddr 1 (.t 3), none, []⟩, ⟨some 18, .load 1 false (.t 17), none, []⟩, ⟨some 19, .bin .add (.t 18) (.c (.int .i64 (1))), none, []⟩, ⟨some 20, .build [.int .i64 (0), .int .i64 (0)] [(0, 1, .t 16), (1, 1, .t 19)], none, []⟩, ⟨some 21, .buildSlice 89 2 [.t 20], none, []⟩, ⟨some 7, .mv (.t 21), none, []⟩]).seq (((ACode.region false [⟨some 22, .fieldAddr 2 (.t 3), none, []⟩, ⟨some 23, .load 1 false (.t 22), none, []⟩, ⟨some 24, .len (.t 23), none, []⟩, ⟨some 25, .mv (.c (.int .i64 (0))), none, []⟩]).seq (ACode.block 0 ((ACode.region false [⟨some 26, .bin .lss (.t 25) (.t 24), none, []⟩]).seq ((ACode.cond (.t 26) ACode.skip (ACode.exit 0)).seq ((ACode.block 1 ((ACode.region false [⟨some 27, .idxAddr 4 (.t 23) (.t 25), none, []⟩, ⟨some 28, .load 4 true (.t 27), none, []⟩, ⟨some 9, .alloc [.int .i64 (0), .int .i64 (0), .int .i64 (0), .int .i64 (0)], none, []⟩, ⟨none, .store 4 (.t 9) (.t 28), none, []⟩]).seq ((ACode.region false [⟨some 29, .fieldAddr 0 (.t 9), none, []⟩, ⟨some 30, .fieldAddr 0 (.t 29), none, []⟩, ⟨some 31, .load 1 false (.t 30), none, []⟩, ⟨some 32, .mv (.t 2), none, []⟩, ⟨some 33, .bin .lss (.t 31) (.t 32), none, []⟩, ⟨some 34, .mv (.t 33), none, []⟩, ⟨some 35, .mv (.t 1), some (34, true), []⟩, ⟨some 36, .fieldAddr 2 (.t 9), some (34, true), []⟩, ⟨some 37, .fieldAddr 0 (.t 36), some (34, true), []⟩, ⟨some 38, .load 1 false (.t 37), some (34, true), []⟩, ⟨some 39, .bin .lss (.t 35) (.t 38), some (34, true), []⟩, ⟨some 40, .pick (.t 34) (.t 39) (.c (.bool false)), none, []⟩]).seq (ACode.cond (.t 40) (ACode.region false [⟨some 41, .mv (.t 7), none, []⟩, ⟨some 42, .fieldAddr 0 (.t 9), none, []⟩, ⟨some 43, .fieldAddr 1 (.t 42), none, []⟩, ⟨some 44, .load 1 false (.t 43), none, []⟩, ⟨some 45, .fieldAddr 2 (.t 9), none, []⟩, ⟨some 46, .fieldAddr 1 (.t 45), none, []⟩, ⟨some 47, .load 1 false (.t 46), none, []⟩, ⟨some 48, .build [.int .i64 (0), .int .i64 (0)] [(0, 1, .t 44), (1, 1, .t 47)], none, []⟩, ⟨some 49, .buildSlice 89 2 [.t 48], none, []⟩, ⟨some 50, .append 89 2 16 (.t 41) (.t 49), none, []⟩, ⟨some 7, .mv (.t 50), none, []⟩]) ACode.skip)))).seq (ACode.region false [⟨some 51, .bin .add (.t 25) (.c (.int .i64 (1))), none, []⟩, ⟨some 25, .mv (.t 51), none, []⟩])))).loop)).seq ((ACode.region false [⟨some 52, .mv (.t 7), none, []⟩, ⟨some 53, .call 42 [.t 52, .f 43], none, []⟩]).seq ((ACode.region false [⟨some 10, .mv (.c (.slice none 0 0)), none, []⟩]).seq ((ACode.region false [⟨some 11, .mv (.c (.int .i64 (0))), none, []⟩]).seq (((ACode.region false [⟨some 54, .mv (.t 7), none, []⟩, ⟨some 55, .len (.t 54), none, []⟩, ⟨some 56, .mv (.c (.int .i64 (0))), none, []⟩]).seq (ACode.block 2 ((ACode.region false [⟨some 57, .bin .lss (.t 56) (.t 55), none, []⟩]).seq ((ACode.cond (.t 57) ACode.skip (ACode.exit 2)).seq ((ACode.block 3 ((ACode.region false [⟨some 58, .idxAddr 2 (.t 54) (.t 56), none, []⟩, ⟨some 59, .load 2 true (.t 58), none, []⟩, ⟨some 13, .alloc [.int .i64 (0), .int .i64 (0)], none, []⟩, ⟨none, .store 2 (.t 13) (.t 59), none, []⟩]).seq (((ACode.region false [⟨some 60, .fieldAddr 0 (.t 13), none, []⟩, ⟨some 61, .load 1 false (.t 60), none, []⟩, ⟨some 62, .fieldAddr 1 (.t 3), none, []⟩, ⟨some 63, .load 1 false (.t 62), none, []⟩, ⟨some 64, .minmax false (.t 61) (.t 63), none, []⟩, ⟨some 14, .mv (.t 64), none, []⟩]).seq ((ACode.region false [⟨some 65, .mv (.t 11), none, []⟩, ⟨some 66, .mv (.t 14), none, []⟩, ⟨some 67, .bin .lss (.t 65) (.t 66), none, []⟩]).seq (ACode.cond (.t 67) (ACode.region false [⟨some 68, .mv (.t 10), none, []⟩, ⟨some 69, .mv (.t 1), none, []⟩, ⟨some 70, .mv (.t 11), none, []⟩, ⟨some 71, .build [.int .i64 (0), .int .i64 (0)] [(0, 1, .t 69), (1, 1, .t 70)], none, []⟩, ⟨some 72, .mv (.t 2), none, []⟩, ⟨some 73, .mv (.t 14), none, []⟩, ⟨some 74, .build [.int .i64 (0), .int .i64 (0)] [(0, 1, .t 72), (1, 1, .t 73)], none, []⟩, ⟨some 75, .build [.int .i64 (0), .int .i64 (0), .int .i64 (0), .int .i64 (0)] [(0, 2, .t 71), (2, 2, .t 74)], none, []⟩, ⟨some 76, .buildSlice 54 4 [.t 75], none, []⟩, ⟨some 77, .append 54 4 32 (.t 68) (.t 76), none, []⟩, ⟨some 10, .mv (.t 77), none, []⟩]) ACode.skip))).seq (ACode.region false [⟨some 78, .mv (.t 11), none, []⟩, ⟨some 79, .fieldAddr 1 (.t 13), none, []⟩, ⟨some 80, .load 1 false (.t 79), none, []⟩, ⟨some 81, .minmax true (.t 78) (.t 80), none, []⟩, ⟨some 11, .mv (.t 81), none, []⟩])))).seq (ACode.region false [⟨some 82, .bin .add (.t 56) (.c (.int .i64 (1))), none, []⟩, ⟨some 56, .mv (.t 82), none, []⟩])))).loop)).seq ((ACode.region false [⟨some 83, .mv (.t 10), none, []⟩, ⟨some 6, .mv (.t 83), none, []⟩]).seq ACode.ret))))))))
theorem Tryz.F22 : FnFacts Tryz.prog 22 Tryz.f22 Tryz.ac22 84 [.tmp 6] := ⟨Tryz.func22, by kernel_rfl, by kernel_rfl, by kernel_rfl, by kernel_rfl, by kernel_rfl, by kernel_rfl, by kernel_rfl⟩
def Tryz.ac23 : ACode := ((ACode.region false [⟨some 2, .box 3 (.t 0), none, []⟩, ⟨some 3, .box 4 (.t 1), none, []⟩, ⟨some 4, .mv (.c (.bool false)), none, []⟩]).seq ((ACode.region false [⟨some 5, .fieldAddr 0 (.t 3), none, []⟩, ⟨some 6, .fieldAddr 0 (.t 5), none, []⟩, ⟨some 7, .load 1 false (.t 6), none, []⟩, ⟨some 8, .bin .geq (.t 7) (.c (.int .i64 (0))), none, []⟩, ⟨some 9, .mv (.t 8), none, []⟩, ⟨some 10, .fieldAddr 2 (.t 3), some (9, true), []⟩, ⟨some 11, .fieldAddr 0 (.t 10), some (9, true), []⟩, ⟨some 12, .load 1 false (.t 11), some (9, true), []⟩, ⟨some 13, .fieldAddr 0 (.t 2), some (9, true), []⟩, ⟨some 14, .load 1 false (.t 13), some (9, true), []⟩, ⟨some 15, .bin .leq (.t 12) (.t 14), some (9, true), []⟩, ⟨some 16, .pick (.t 9) (.t 15) (.c (.bool false)), none, []⟩, ⟨some 17, .mv (.t 16), none, []⟩, ⟨some 18, .fieldAddr 2 (.t 2), some (17, true), []⟩, ⟨some 19, .load 1 false (.t 18), some (17, true), []⟩, ⟨some 20, .mkfn 45 [.t 3], some (17, true), []⟩, ⟨some 21, .call 44 [.t 19, .t 20], some (17, true), []⟩, ⟨some 22, .un .not (.t 21), some (17, true), []⟩, ⟨some 23, .pick (.t 17) (.t 22) (.c (.bool false)), none, []⟩, ⟨some 4, .mv (.t 23), none, []⟩]).seq ACode.ret))
theorem Tryz.F23 : FnFacts Tryz.prog 23 Tryz.f23 Tryz.ac23 24 [.tmp 4] := ⟨Tryz.func23, by kernel_rfl, by kernel_rfl, by kernel_rfl, by kernel_rfl, by kernel_rfl, by kernel_rfl, by kernel_rfl⟩
def Tryz.ac26 : ACode := ((ACode.region false [⟨some 2, .mv (.c (.int .i64 (0))), none, []⟩]).seq ((ACode.region false [⟨some 3, .mv (.c (.int .i64 (0))), none, []⟩]).seq (((ACode.region false [⟨some 6, .mv (.t 0), none, []⟩, ⟨some 7, .len (.t 6), none, []⟩, ⟨some 8, .mv (.c (.int .i64 (0))), none, []⟩]).seq (ACode.block 0 ((ACode.region false [⟨some 9, .bin .lss (.t 8) (.t 7), none, []⟩]).seq ((ACode.cond (.t 9) ACode.skip (ACode.exit 0)).seq ((ACode.block 1 ((ACode.region false [⟨some 10, .idxAddr 1 (.t 6) (.t 8), none, []⟩, ⟨some 11, .load 1 false (.t 10), none, []⟩, ⟨some 5, .mv (.t 11), none, []⟩]).seq ((ACode.region false [⟨some 12, .mv (.t 5), none, []⟩, ⟨some 13, .mv (.t 3), none, []⟩, ⟨some 14, .bin .neq (.t 12) (.t 13), none, []⟩]).seq (ACode.cond (.t 14) ((ACode.region false [⟨some 15, .mv (.t 5), none, []⟩, ⟨some 2, .mv (.t 15), none, []⟩]).seq ACode.ret) ACode.skip)))).seq (ACode.region false [⟨some 16, .bin .add (.t 8) (.c (.int .i64 (1))), none, []⟩, ⟨some 8, .mv (.t 16), none, []⟩])))).loop)).seq ((ACode.region false [⟨some 17, .mv (.t 3), none, []⟩, ⟨some 2, .mv (.t 17), none, []⟩]).seq ACode.ret))))
theorem Tryz.F26 : FnFacts Tryz.prog 26 Tryz.f26 Tryz.ac26 18 [.tmp 2] := ⟨Tryz.func26, by kernel_rfl, by kernel_rfl, by kernel_rfl, by kernel_rfl, by kernel_rfl, by kernel_rfl, by kernel_rfl⟩
def Tryz.ac27 : ACode := ((ACode.region false [⟨some 4, .alloc [.int .i64 (0), .int .i64 (0), .int .i64 (0), .int .i64 (0)], none, []⟩]).seq (((ACode.region false [⟨some 7, .mv (.t 0), none, []⟩, ⟨some 8, .len (.t 7), none, []⟩, ⟨some 9, .bin .lss (.t 8) (.c (.int .i64 (1))), none, []⟩]).seq (ACode.cond (.t 9) (ACode.region false [⟨some 10, .bad, none, []⟩, ⟨none, .bad, none, []⟩]) ACode.skip)).seq ((ACode.region false [⟨some 11, .mv (.t 0), none, []⟩, ⟨some 12, .idxAddr 4 (.t 11) (.c (.int .i64 (0))), none, []⟩, ⟨some 13, .load 4 true (.t 12), none, []⟩, ⟨some 5, .alloc [.int .i64 (0), .int .i64 (0), .int .i64 (0), .int .i64 (0)], none, []⟩, ⟨none, .store 4 (.t 5) (.t 13), none, []⟩]).seq (((ACode.region false [⟨some 6, .mv (.c (.int .i64 (1))), none, []⟩]).seq (ACode.block 0 (((ACode.region false [⟨some 14, .mv (.t 6), none, []⟩, ⟨some 15, .mv (.t 0), none, []⟩, ⟨some 16, .len (.t 15), none, []⟩, ⟨some 17, .bin .lss (.t 14) (.t 16), none, []⟩]).seq (ACode.cond (.t 17) ACode.skip (ACode.exit 0))).seq ((ACode.block 1 ((ACode.region true [⟨some 20, .mv (.t 1), none, []⟩, ⟨some 21, .mv (.t 0), none, []⟩, ⟨some 22, .mv (.t 6), none, []⟩, ⟨some 23, .idxAddr 4 (.t 21) (.t 22), none, [1, 2]⟩, ⟨some 24, .load 4 true (.t 23), none, [3]⟩, ⟨some 25, .load 4 true (.t 5), none, []⟩, ⟨some 26, .callv (.t 20) [.t 24, .t 25], none, [0, 4, 5]⟩, ⟨some 27, .bin .lss (.t 26) (.c (.int .i64 (0))), none, [6]⟩]).seq (ACode.cond (.t 27) (ACode.region false [⟨some 28, .mv (.t 0), none, []⟩, ⟨some 29, .mv (.t 6), none, []⟩, ⟨some 30, .idxAddr 4 (.t 28) (.t 29), none, []⟩, ⟨some 31, .load 4 true (.t 30), none, []⟩, ⟨none, .store 4 (.t 5) (.t 31), none, []⟩]) ACode.skip))).seq (ACode.region false [⟨some 18, .mv (.t 6), none, []⟩, ⟨some 19, .bin .add (.t 18) (.c (.int .i64 (1))), none, []⟩, ⟨some 6, .mv (.t 19), none, []⟩]))).loop)).seq ((ACode.region false [⟨some 32, .load 4 true (.t 5), none, []⟩, ⟨none, .store 4 (.t 4) (.t 32), none, []⟩]).seq ACode.ret)))))
theorem Tryz.F27 : FnFacts Tryz.prog 27 Tryz.f27 Tryz.ac27 33 [.cell 4 54] := ⟨Tryz.func27, by kernel_rfl, by kernel_rfl, by kernel_rfl, by kernel_rfl, by kernel_rfl, by kernel_rfl, by kernel_rfl⟩
def Tryz.ac28 : ACode := ((ACode.region false [⟨some 2, .box 4 (.t 0), none, []⟩, ⟨some 3, .box 4 (.t 1), none, []⟩, ⟨some 4, .mv (.c (.int .i64 (0))), none, []⟩]).seq ((ACode.region true [⟨some 5, .load 4 true (.t 3), none, []⟩, ⟨some 6, .call 29 [.t 5], none, [0]⟩, ⟨some 7, .load 4 true (.t 2), none, []⟩, ⟨some 8, .call 29 [.t 7], none, [2, 1]⟩, ⟨some 9, .bin .sub (.t 6) (.t 8), none, [1, 3]⟩, ⟨some 10, .fieldAddr 0 (.t 2), none, []⟩, ⟨some 11, .fieldAddr 1 (.t 10), none, [5]⟩, ⟨some 12, .load 1 false (.t 11), none, [6]⟩, ⟨some 13, .fieldAddr 0 (.t 3), none, []⟩, ⟨some 14, .fieldAddr 1 (.t 13), none, [8]⟩, ⟨some 15, .load 1 false (.t 14), none, [9]⟩, ⟨some 16, .bin .sub (.t 12) (.t 15), none, [7, 10]⟩, ⟨some 17, .fieldAddr 0 (.t 2), none, []⟩, ⟨some 18, .fieldAddr 0 (.t 17), none, [12]⟩, ⟨some 19, .load 1 false (.t 18), none, [13]⟩, ⟨some 20, .fieldAddr 0 (.t 3), none, []⟩, ⟨some 21, .fieldAddr 0 (.t 20), none, [15]⟩, ⟨some 22, .load 1 false (.t 21), none, [16]⟩, ⟨some 23, .bin .sub (.t 19) (.t 22), none, [14, 17]⟩, ⟨some 24, .fieldAddr 2 (.t 3), none, []⟩, ⟨some 25, .fieldAddr 0 (.t 24), none, [19]⟩, ⟨some 26, .load 1 false (.t 25), none, [20]⟩, ⟨some 27, .fieldAddr 2 (.t 2), none, []⟩, ⟨some 28, .fieldAddr 0 (.t 27), none, [22]⟩, ⟨some 29, .load 1 false (.t 28), none, [23]⟩, ⟨some 30, .bin .sub (.t 26) (.t 29), none, [21, 24]⟩, ⟨some 31, .buildSlice 3 1 [.t 9, .t 16, .t 23, .t 30], none, [4, 11, 18, 25]⟩, ⟨some 32, .call 26 [.t 31], none, [26, 3]⟩, ⟨some 4, .mv (.t 32), none, [27, 27, 0, 1, 2, 3, 4, 5, 6, 7, 8, 9, 10, 11, 12, 13, 14, 15, 16, 17, 18, 19, 20, 21, 22, 23, 24, 25, 26, 27]⟩]).seq ACode.ret))
theorem Tryz.F28 : FnFacts Tryz.prog 28 Tryz.f28 Tryz.ac28 33 [.tmp 4] := ⟨Tryz.func28, by kernel_rfl, by kernel_rfl, by kernel_rfl, by kernel_rfl, by kernel_rfl, by kernel_rfl, by kernel_rfl⟩
def Tryz.ac29 : ACode := ((ACode.region false [⟨some 1, .box 4 (.t 0), none, []⟩, ⟨some 2, .mv (.c (.int .i64 (0))), none, []⟩]).seq ((ACode.region false [⟨some 3, .fieldAddr 2 (.t 1), none, []⟩, ⟨some 4, .fieldAddr 0 (.t 3), none, []⟩, ⟨some 5, .load 1 false (.t 4), none, []⟩, ⟨some 6, .fieldAddr 0 (.t 1), none, []⟩, ⟨some 7, .fieldAddr 0 (.t 6), none, []⟩, ⟨some 8, .load 1 false (.t 7), none, []⟩, ⟨some 9, .bin .sub (.t 5) (.t 8), none, []⟩, ⟨some 10, .fieldAddr 2 (.t 1), none, []⟩, ⟨some 11, .fieldAddr 1 (.t 10), none, []⟩, ⟨some 12, .load 1 false (.t 11), none, []⟩, ⟨some 13, .fieldAddr 0 (.t 1), none, []⟩, ⟨some 14, .fieldAddr 1 (.t 13), none, []⟩, ⟨some 15, .load 1 false (.t 14), none, []⟩, ⟨some 16, .bin .sub (.t 12) (.t 15), none, []⟩, ⟨some 17, .bin .mul (.t 9) (.t 16), none, []⟩, ⟨some 2, .mv (.t 17), none, []⟩]).seq ACode.ret))
theorem Tryz.F29 : FnFacts Tryz.prog 29 Tryz.f29 Tryz.ac29 18 [.tmp 2] := ⟨Tryz.func29, by kernel_rfl, by kernel_rfl, by kernel_rfl, by kernel_rfl, by kernel_rfl, by kernel_rfl, by kernel_rfl⟩
def Tryz.ac30 : ACode := ((ACode.region false [⟨some 3, .box 1 (.t 1), none, []⟩, ⟨some 4, .alloc [.string ⟨⟨[]⟩⟩, .int .i64 (0), .int .i64 (0), .string ⟨⟨[]⟩⟩, .string ⟨⟨[]⟩⟩, .int .i64 (0), .slice none 0 0, .slice none 0 0, .string ⟨⟨[]⟩⟩, .int .i64 (0), .int .i64 (0), .int .i64 (0), .int .i64 (0), .int .i64 (0), .int .i64 (0), .int .i64 (0), .int .i64 (0), .int .i64 (0)], none, []⟩, ⟨some 5, .mv (.c (.bool false)), none, []⟩]).seq ((ACode.region false [⟨some 7, .mv (.t 0), none, []⟩, ⟨some 8, .mkfn 50 [.t 3], none, []⟩, ⟨some 9, .call 49 [.t 7, .t 8], none, []⟩, ⟨some 6, .mv (.t 9), none, []⟩]).seq (((ACode.region false [⟨some 10, .mv (.t 6), none, []⟩, ⟨some 11, .bin .lss (.t 10) (.c (.int .i64 (0))), none, []⟩]).seq (ACode.cond (.t 11) ((ACode.region false [⟨some 12, .build [.string ⟨⟨[]⟩⟩, .int .i64 (0), .int .i64 (0), .string ⟨⟨[]⟩⟩, .string ⟨⟨[]⟩⟩, .int .i64 (0), .slice none 0 0, .slice none 0 0, .string ⟨⟨[]⟩⟩, .int .i64 (0), .int .i64 (0), .int .i64 (0), .int .i64 (0), .int .i64 (0), .int .i64 (0), .int .i64 (0), .int .i64 (0), .int .i64 (0)] [], none, []⟩, ⟨none, .store 18 (.t 4) (.t 12), none, []⟩, ⟨some 5, .mv (.c (.bool false)), none, []⟩]).seq ACode.ret) ACode.skip)).seq ((ACode.region false [⟨some 13, .mv (.t 0), none, []⟩, ⟨some 14, .mv (.t 6), none, []⟩, ⟨some 15, .idxAddr 18 (.t 13) (.t 14), none, []⟩, ⟨some 16, .load 18 true (.t 15), none, []⟩, ⟨none, .store 18 (.t 4) (.t 16), none, []⟩, ⟨some 5, .mv (.c (.bool true)), none, []⟩]).seq ACode.ret))))
theorem Tryz.F30 : FnFacts Tryz.prog 30 Tryz.f30 Tryz.ac30 17 [.cell 4 49, .tmp 5] := ⟨Tryz.func30, by kernel_rfl, by kernel_rfl, by kernel_rfl, by kernel_rfl, by kernel_rfl, by kernel_rfl, by kernel_rfl⟩
def Tryz.ac31 : ACode := ((ACode.region false [⟨some 1, .box 5 (.t 0), none, []⟩, ⟨some 2, .mv (.c (.bool false)), none, []⟩]).seq ((ACode.region false [⟨some 3, .mv (.f 51), none, []⟩]).seq ((ACode.region false [⟨some 4, .fieldAddr 3 (.t 1), none, []⟩, ⟨some 5, .load 1 false (.t 4), none, []⟩, ⟨some 6, .bin .geq (.t 5) (.c (.int .i64 (0))), none, []⟩, ⟨some 7, .mv (.t 6), none, []⟩, ⟨some 8, .fieldAddr 3 (.t 1), some (7, true), []⟩, ⟨some 9, .load 1 false (.t 8), some (7, true), []⟩, ⟨some 10, .bin .leq (.t 9) (.c (.int .i64 (3))), some (7, true), []⟩, ⟨some 11, .pick (.t 7) (.t 10) (.c (.bool false)), none, []⟩, ⟨some 12, .mv (.t 11), none, []⟩, ⟨some 13, .mv (.t 3), some (12, true), []⟩, ⟨some 14, .fieldAddr 1 (.t 1), some (12, true), []⟩, ⟨some 15, .fieldAddr 0 (.t 14), some (12, true), []⟩, ⟨some 16, .load 1 false (.t 15), some (12, true), []⟩, ⟨some 17, .callv (.t 13) [.t 16], some (12, true), []⟩, ⟨some 18, .pick (.t 12) (.t 17) (.c (.bool false)), none, []⟩, ⟨some 19, .mv (.t 18), none, []⟩, ⟨some 20, .mv (.t 3), some (19, true), []⟩, ⟨some 21, .fieldAddr 1 (.t 1), some (19, true), []⟩, ⟨some 22, .fieldAddr 1 (.t 21), some (19, true), []⟩, ⟨some 23, .load 1 false (.t 22), some (19, true), []⟩, ⟨some 24, .callv (.t 20) [.t 23], some (19, true), []⟩, ⟨some 25, .pick (.t 19) (.t 24) (.c (.bool false)), none, []⟩, ⟨some 2, .mv (.t 25), none, []⟩]).seq ACode.ret)))
theorem Tryz.F31 : FnFacts Tryz.prog 31 Tryz.f31 Tryz.ac31 26 [.tmp 2] := ⟨Tryz.func31, by kernel_rfl, by kernel_rfl, by kernel_rfl, by kernel_rfl, by kernel_rfl, by kernel_rfl, by kernel_rfl⟩
def Tryz.ac32 : ACode := ((ACode.region false [⟨some 2, .box 2 (.t 0), none, []⟩, ⟨some 3, .box 5 (.t 1), none, []⟩, ⟨some 4, .alloc [.slice none 0 0, .slice none 0 0], none, []⟩]).seq (((ACode.region false [⟨some 11, .fieldAddr 3 (.t 3), none, []⟩, ⟨some 12, .load 1 false (.t 11), none, []⟩, ⟨some 13, .bin .lss (.t 12) (.c (.int .i64 (0))), none, []⟩, ⟨some 14, .mv (.t 13), none, []⟩, ⟨some 15, .fieldAddr 3 (.t 3), some (14, false), []⟩, ⟨some 16, .load 1 false (.t 15), some (14, false), []⟩, ⟨some 17, .bin .gtr (.t 16) (.c (.int .i64 (3))), some (14, false), []⟩, ⟨some 18, .pick (.t 14) (.c (.bool true)) (.t 17), none, []⟩, ⟨some 19, .mv (.t 18), none, []⟩, ⟨some 20, .fieldAddr 1 (.t 3), some (19, false), []⟩, ⟨some 21, .load 2 true (.t 20), some (19, false), []⟩, ⟨some 22, .call 52 [.t 21], some (19, false), []⟩, ⟨some 23, .pick (.t 19) (.c (.bool true)) (.t 22), none, []⟩]).seq (ACode.cond (.t 23) ((ACode.region false [⟨some 24, .build [.slice none 0 0, .slice none 0 0] [], none, []⟩, ⟨none, .store 2 (.t 4) (.t 24), none, []⟩]).seq ACode.ret) ACode.skip)).seq (((ACode.region false [⟨some 25, .load 2 true (.t 2), none, []⟩, ⟨some 26, .call 53 [.t 25], none, []⟩, ⟨some 27, .len (.t 26), none, []⟩, ⟨some 28, .mv (.c (.int .i64 (0))), none, []⟩]).seq (ACode.block 0 ((ACode.region false [⟨some 29, .bin .lss (.t 28) (.t 27), none, []⟩]).seq ((ACode.cond (.t 29) ACode.skip (ACode.exit 0)).seq ((ACode.block 1 ((ACode.region false [⟨some 30, .idxAddr 1 (.t 26) (.t 28), none, []⟩, ⟨some 31, .load 1 false (.t 30), none, []⟩, ⟨some 6, .mv (.t 31), none, []⟩]).seq ((ACode.region false [⟨some 32, .mv (.t 6), none, []⟩, ⟨some 33, .call 54 [.t 32, .f 52], none, []⟩]).seq (ACode.cond (.t 33) ((ACode.region false [⟨some 34, .build [.slice none 0 0, .slice none 0 0] [], none, []⟩, ⟨none, .store 2 (.t 4) (.t 34), none, []⟩]).seq ACode.ret) ACode.skip)))).seq (ACode.region false [⟨some 35, .bin .add (.t 28) (.c (.int .i64 (1))), none, []⟩, ⟨some 28, .mv (.t 35), none, []⟩])))).loop)).seq ((ACode.region false [⟨some 36, .mkfn 55 [.t 3], none, []⟩, ⟨some 7, .mv (.t 36), none, []⟩]).seq ((ACode.region false [⟨some 37, .mv (.t 7), none, []⟩, ⟨some 38, .fieldAddr 0 (.t 2), none, []⟩, ⟨some 39, .load 1 false (.t 38), none, []⟩, ⟨some 40, .callv (.t 37) [.t 39], none, []⟩, ⟨some 41, .build [.slice none 0 0, .slice none 0 0] [(0, 1, .t 40)], none, []⟩, ⟨some 8, .alloc [.slice none 0 0, .slice none 0 0], none, []⟩, ⟨none, .store 2 (.t 8) (.t 41), none, []⟩]).seq (((ACode.region false [⟨some 42, .fieldAddr 1 (.t 2), none, []⟩, ⟨some 43, .load 1 false (.t 42), none, []⟩, ⟨some 44, .len (.t 43), none, []⟩, ⟨some 45, .mv (.c (.int .i64 (0))), none, []⟩]).seq (ACode.block 2 ((ACode.region false [⟨some 46, .bin .lss (.t 45) (.t 44), none, []⟩]).seq ((ACode.cond (.t 46) ACode.skip (ACode.exit 2)).seq ((ACode.block 3 ((ACode.region false [⟨some 47, .idxAddr 1 (.t 43) (.t 45), none, []⟩, ⟨some 48, .load 1 false (.t 47), none, []⟩, ⟨some 10, .mv (.t 48), none, []⟩]).seq (ACode.region true [⟨some 49, .fieldAddr 1 (.t 8), none, []⟩, ⟨some 50, .load 1 false (.t 49), none, [0]⟩, ⟨some 51, .mv (.t 7), none, []⟩, ⟨some 52, .mv (.t 10), none, []⟩, ⟨some 53, .callv (.t 51) [.t 52], none, [2, 3]⟩, ⟨some 54, .buildSlice 40 1 [.t 53], none, [4]⟩, ⟨some 55, .append 40 1 24 (.t 50) (.t 54), none, [1, 5, 4]⟩, ⟨some 56, .fieldAddr 1 (.t 8), none, [0, 1, 2, 3, 4, 5, 6]⟩, ⟨none, .store 1 (.t 56) (.t 55), none, [7, 6, 6, 0, 1, 2, 3, 4, 5, 6]⟩]))).seq (ACode.region false [⟨some 57, .bin .add (.t 45) (.c (.int .i64 (1))), none, []⟩, ⟨some 45, .mv (.t 57), none, []⟩])))).loop)).seq ((ACode.region false [⟨some 58, .load 2 true (.t 8), none, []⟩, ⟨none, .store 2 (.t 4) (.t 58), none, []⟩]).seq ACode.ret)))))))
theorem Tryz.F32 : FnFacts Tryz.prog 32 Tryz.f32 Tryz.ac32 59 [.cell 4 43] := ⟨Tryz.func32, by kernel_rfl, by kernel_rfl, by kernel_rfl, by kernel_rfl, by kernel_rfl, by kernel_rfl, by kernel_rfl⟩
def Tryz.ac33 : ACode := ((ACode.region false [⟨some 2, .alloc [.int .i64 (0), .int .i64 (0), .int .i64 (0), .int .i64 (0)], none, []⟩]).seq (((ACode.region false [⟨some 7, .mv (.t 0), none, []⟩, ⟨some 8, .len (.t 7), none, []⟩, ⟨some 9, .bin .eql (.t 8) (.c (.int .i64 (0))), none, []⟩]).seq (ACode.cond (.t 9) ((ACode.region false [⟨some 10, .load 4 true (.t 2), none, []⟩, ⟨none, .store 4 (.t 2) (.t 10), none, []⟩]).seq ACode.ret) ACode.skip)).seq ((ACode.region false [⟨some 3, .mv (.c (.slice none 0 0)), none, []⟩, ⟨some 4, .mv (.c (.slice none 0 0)), none, []⟩]).seq (((ACode.region false [⟨some 11, .mv (.t 0), none, []⟩, ⟨some 12, .len (.t 11), none, []⟩, ⟨some 13, .mv (.c (.int .i64 (0))), none, []⟩]).seq (ACode.block 0 ((ACode.region false [⟨some 14, .bin .lss (.t 13) (.t 12), none, []⟩]).seq ((ACode.cond (.t 14) ACode.skip (ACode.exit 0)).seq ((ACode.block 1 ((ACode.region false [⟨some 15, .idxAddr 2 (.t 11) (.t 13), none, []⟩, ⟨some 16, .load 2 true (.t 15), none, []⟩, ⟨some 6, .alloc [.int .i64 (0), .int .i64 (0)], none, []⟩, ⟨none, .store 2 (.t 6) (.t 16), none, []⟩]).seq (ACode.region true [⟨some 17, .mv (.t 3), none, []⟩, ⟨some 18, .fieldAddr 0 (.t 6), none, []⟩, ⟨some 19, .load 1 false (.t 18), none, [1]⟩, ⟨some 20, .buildSlice 3 1 [.t 19], none, [2]⟩, ⟨some 21, .append 3 1 8 (.t 17) (.t 20), none, [0, 3]⟩, ⟨some 22, .mv (.t 4), none, []⟩, ⟨some 23, .fieldAddr 1 (.t 6), none, []⟩, ⟨some 24, .load 1 false (.t 23), none, [6]⟩, ⟨some 25, .buildSlice 3 1 [.t 24], none, [7]⟩, ⟨some 26, .append 3 1 8 (.t 22) (.t 25), none, [5, 8, 4]⟩, ⟨some 3, .mv (.t 21), none, [4, 9, 0, 1, 2, 3, 4]⟩, ⟨some 4, .mv (.t 26), none, [9, 10, 0, 1, 2, 3, 4, 5, 6, 7, 8, 9, 10]⟩]))).seq (ACode.region false [⟨some 27, .bin .add (.t 13) (.c (.int .i64 (1))), none, []⟩, ⟨some 13, .mv (.t 27), none, []⟩])))).loop)).seq ((ACode.region false [⟨some 29, .mv (.t 3), none, []⟩, ⟨some 30, .idxAddr 1 (.t 29) (.c (.int .i64 (0))), none, []⟩, ⟨some 31, .load 1 false (.t 30), none, []⟩, ⟨some 32, .mv (.t 3), none, []⟩, ⟨some 33, .call 57 [.t 31, .t 32], none, []⟩, ⟨some 28, .mv (.t 33), none, []⟩, ⟨some 34, .extract (.t 28) 0, none, []⟩, ⟨some 35, .extract (.t 28) 1, none, []⟩, ⟨some 36, .fieldAddr 0 (.t 2), none, []⟩, ⟨some 37, .fieldAddr 0 (.t 36), none, []⟩, ⟨none, .store 1 (.t 37) (.t 34), none, []⟩, ⟨some 38, .fieldAddr 2 (.t 2), none, []⟩, ⟨some 39, .fieldAddr 0 (.t 38), none, []⟩, ⟨none, .store 1 (.t 39) (.t 35), none, []⟩]).seq ((ACode.region false [⟨some 41, .mv (.t 4), none, []⟩, ⟨some 42, .idxAddr 1 (.t 41) (.c (.int .i64 (0))), none, []⟩, ⟨some 43, .load 1 false (.t 42), none, []⟩, ⟨some 44, .mv (.t 4), none, []⟩, ⟨some 45, .call 57 [.t 43, .t 44], none, []⟩, ⟨some 40, .mv (.t 45), none, []⟩, ⟨some 46, .extract (.t 40) 0, none, []⟩, ⟨some 47, .extract (.t 40) 1, none, []⟩, ⟨some 48, .fieldAddr 0 (.t 2), none, []⟩, ⟨some 49, .fieldAddr 1 (.t 48), none, []⟩, ⟨none, .store 1 (.t 49) (.t 46), none, []⟩, ⟨some 50, .fieldAddr 2 (.t 2), none, []⟩, ⟨some 51, .fieldAddr 1 (.t 50), none, []⟩, ⟨none, .store 1 (.t 51) (.t 47), none, []⟩]).seq ((ACode.region false [⟨some 52, .load 4 true (.t 2), none, []⟩, ⟨none, .store 4 (.t 2) (.t 52), none, []⟩]).seq ACode.ret)))))))
theorem Tryz.F33 : FnFacts Tryz.prog 33 Tryz.f33 Tryz.ac33 53 [.cell 2 54] := ⟨Tryz.func33, by kernel_rfl, by kernel_rfl, by kernel_rfl, by kernel_rfl, by kernel_rfl, by kernel_rfl, by kernel_rfl⟩
def Tryz.ac34 : ACode := ((ACode.region false [⟨some 4, .mv (.c (.int .i64 (0))), none, []⟩]).seq (((ACode.region false [⟨some 5, .mv (.c (.int .i64 (0))), none, []⟩]).seq (ACode.block 0 (((ACode.region false [⟨some 6, .mv (.t 5), none, []⟩, ⟨some 7, .mv (.t 0), none, []⟩, ⟨some 8, .len (.t 7), none, []⟩, ⟨some 9, .bin .lss (.t 6) (.t 8), none, []⟩]).seq (ACode.cond (.t 9) ACode.skip (ACode.exit 0))).seq ((ACode.block 1 ((ACode.region false [⟨some 12, .mv (.t 0), none, []⟩, ⟨some 13, .mv (.t 5), none, []⟩, ⟨some 14, .idxAddr 18 (.t 12) (.t 13), none, []⟩, ⟨some 15, .fieldAddr 0 (.t 14), none, []⟩, ⟨some 16, .load 1 false (.t 15), none, []⟩, ⟨some 17, .mv (.t 1), none, []⟩, ⟨some 18, .bin .eql (.t 16) (.t 17), none, []⟩]).seq (ACode.cond (.t 18) ((ACode.region false [⟨some 19, .mv (.t 5), none, []⟩, ⟨some 4, .mv (.t 19), none, []⟩]).seq ACode.ret) ACode.skip))).seq (ACode.region false [⟨some 10, .mv (.t 5), none, []⟩, ⟨some 11, .bin .add (.t 10) (.c (.int .i64 (1))), none, []⟩, ⟨some 5, .mv (.t 11), none, []⟩]))).loop)).seq ((ACode.region false [⟨some 4, .mv (.c (.int .i64 (Int.negSucc 0))), none, []⟩]).seq ACode.ret)))
theorem Tryz.F34 : FnFacts Tryz.prog 34 Tryz.f34 Tryz.ac34 20 [.tmp 4] := ⟨Tryz.func34, by kernel_rfl, by kernel_rfl, by kernel_rfl, by kernel_rfl, by kernel_rfl, by kernel_rfl, by kernel_rfl⟩
def Tryz.ac35 : ACode := ((ACode.region false [⟨some 1, .box 5 (.t 0), none, []⟩, ⟨some 2, .mv (.c (.bool false)), none, []⟩]).seq ((ACode.region false [⟨some 3, .fieldAddr 3 (.t 1), none, []⟩, ⟨some 4, .load 1 false (.t 3), none, []⟩, ⟨some 5, .bin .geq (.t 4) (.c (.int .i64 (0))), none, []⟩, ⟨some 6, .mv (.t 5), none, []⟩, ⟨some 7, .fieldAddr 3 (.t 1), some (6, true), []⟩, ⟨some 8, .load 1 false (.t 7), some (6, true), []⟩, ⟨some 9, .bin .leq (.t 8) (.c (.int .i64 (3))), some (6, true), []⟩, ⟨some 10, .pick (.t 6) (.t 9) (.c (.bool false)), none, []⟩, ⟨some 11, .mv (.t 10), none, []⟩, ⟨some 12, .fieldAddr 1 (.t 1), some (11, true), []⟩, ⟨some 13, .fieldAddr 0 (.t 12), some (11, true), []⟩, ⟨some 14, .load 1 false (.t 13), some (11, true), []⟩, ⟨some 15, .call 58 [.t 14], some (11, true), []⟩, ⟨some 16, .pick (.t 11) (.t 15) (.c (.bool false)), none, []⟩, ⟨some 17, .mv (.t 16), none, []⟩, ⟨some 18, .fieldAddr 1 (.t 1), some (17, true), []⟩, ⟨some 19, .fieldAddr 1 (.t 18), some (17, true), []⟩, ⟨some 20, .load 1 false (.t 19), some (17, true), []⟩, ⟨some 21, .call 58 [.t 20], some (17, true), []⟩, ⟨some 22, .pick (.t 17) (.t 21) (.c (.bool false)), none, []⟩, ⟨some 2, .mv (.t 22), none, []⟩]).seq ACode.ret))
theorem Tryz.F35 : FnFacts Tryz.prog 35 Tryz.f35 Tryz.ac35 23 [.tmp 2] := ⟨Tryz.func35, by kernel_rfl, by kernel_rfl, by kernel_rfl, by kernel_rfl, by kernel_rfl, by kernel_rfl, by kernel_rfl⟩
def Tryz.ac36 : ACode := ((ACode.region false [⟨some 2, .box 2 (.t 0), none, []⟩, ⟨some 3, .box 5 (.t 1), none, []⟩, ⟨some 4, .alloc [.slice none 0 0, .slice none 0 0], none, []⟩]).seq ((ACode.region false [⟨some 11, .load 2 true (.t 2), none, []⟩, ⟨some 12, .call 59 [.t 11], none, []⟩, ⟨some 5, .mv (.t 12), none, []⟩]).seq ((ACode.region false [⟨some 13, .fieldAddr 3 (.t 3), none, []⟩, ⟨some 14, .load 1 false (.t 13), none, []⟩, ⟨some 15, .bin .lss (.t 14) (.c (.int .i64 (0))), none, []⟩, ⟨some 16, .mv (.t 15), none, []⟩, ⟨some 17, .fieldAddr 3 (.t 3), some (16, false), []⟩, ⟨some 18, .load 1 false (.t 17), some (16, false), []⟩, ⟨some 19, .bin .gtr (.t 18) (.c (.int .i64 (3))), some (16, false), []⟩, ⟨some 20, .pick (.t 16) (.c (.bool true)) (.t 19), none, []⟩, ⟨some 21, .mv (.t 20), none, []⟩, ⟨some 22, .fieldAddr 1 (.t 3), some (21, false), []⟩, ⟨some 23, .load 2 true (.t 22), some (21, false), []⟩, ⟨some 24, .call 60 [.t 23], some (21, false), []⟩, ⟨some 25, .pick (.t 21) (.c (.bool true)) (.t 24), none, []⟩, ⟨some 6, .mv (.t 25), none, []⟩]).seq (((ACode.region false [⟨some 7, .mv (.c (.int .i64 (0))), none, []⟩]).seq (ACode.block 0 (((ACode.region false [⟨some 26, .mv (.t 7), none, []⟩, ⟨some 27, .mv (.t 5), none, []⟩, ⟨some 28, .len (.t 27), none, []⟩, ⟨some 29, .bin .lss (.t 26) (.t 28), none, []⟩]).seq (ACode.cond (.t 29) ACode.skip (ACode.exit 0))).seq ((ACode.block 1 ((ACode.region false [⟨some 8, .mv (.c (.int .i64 (0))), none, []⟩]).seq (ACode.block 2 (((ACode.region false [⟨some 32, .mv (.t 8), none, []⟩, ⟨some 33, .mv (.t 5), none, []⟩, ⟨some 34, .mv (.t 7), none, []⟩, ⟨some 35, .idxAddr 1 (.t 33) (.t 34), none, []⟩, ⟨some 36, .load 1 false (.t 35), none, []⟩, ⟨some 37, .len (.t 36), none, []⟩, ⟨some 38, .bin .lss (.t 32) (.t 37), none, []⟩]).seq (ACode.cond (.t 38) ACode.skip (ACode.exit 2))).seq ((ACode.block 3 (ACode.region false [⟨some 41, .mv (.t 6), none, []⟩, ⟨some 42, .mv (.t 41), none, []⟩, ⟨some 43, .mv (.t 5), some (42, false), []⟩, ⟨some 44, .mv (.t 7), some (42, false), []⟩, ⟨some 45, .idxAddr 1 (.t 43) (.t 44), some (42, false), []⟩, ⟨some 46, .load 1 false (.t 45), some (42, false), []⟩, ⟨some 47, .mv (.t 8), some (42, false), []⟩, ⟨some 48, .idxAddr 2 (.t 46) (.t 47), some (42, false), []⟩, ⟨some 49, .load 2 true (.t 48), some (42, false), []⟩, ⟨some 50, .call 60 [.t 49], some (42, false), []⟩, ⟨some 51, .pick (.t 42) (.c (.bool true)) (.t 50), none, []⟩, ⟨some 6, .mv (.t 51), none, []⟩])).seq (ACode.region false [⟨some 39, .mv (.t 8), none, []⟩, ⟨some 40, .bin .add (.t 39) (.c (.int .i64 (1))), none, []⟩, ⟨some 8, .mv (.t 40), none, []⟩]))).loop))).seq (ACode.region false [⟨some 30, .mv (.t 7), none, []⟩, ⟨some 31, .bin .add (.t 30) (.c (.int .i64 (1))), none, []⟩, ⟨some 7, .mv (.t 31), none, []⟩]))).loop)).seq (((ACode.region false [⟨some 52, .mv (.t 6), none, []⟩]).seq (ACode.cond (.t 52) ((ACode.region false [⟨some 53, .build [.slice none 0 0, .slice none 0 0] [], none, []⟩, ⟨none, .store 2 (.t 4) (.t 53), none, []⟩]).seq ACode.ret) ACode.skip)).seq ((ACode.region false [⟨some 54, .fieldAddr 0 (.t 2), none, []⟩, ⟨some 55, .load 1 false (.t 54), none, []⟩, ⟨some 56, .load 5 true (.t 3), none, []⟩, ⟨some 57, .call 61 [.t 55, .t 56], none, []⟩, ⟨some 58, .build [.slice none 0 0, .slice none 0 0] [(0, 1, .t 57)], none, []⟩, ⟨some 9, .alloc [.slice none 0 0, .slice none 0 0], none, []⟩, ⟨none, .store 2 (.t 9) (.t 58), none, []⟩]).seq (((ACode.region false [⟨some 10, .mv (.c (.int .i64 (0))), none, []⟩]).seq (ACode.block 4 (((ACode.region false [⟨some 59, .mv (.t 10), none, []⟩, ⟨some 60, .fieldAddr 1 (.t 2), none, []⟩, ⟨some 61, .load 1 false (.t 60), none, []⟩, ⟨some 62, .len (.t 61), none, []⟩, ⟨some 63, .bin .lss (.t 59) (.t 62), none, []⟩]).seq (ACode.cond (.t 63) ACode.skip (ACode.exit 4))).seq ((ACode.block 5 (ACode.region true [⟨some 66, .fieldAddr 1 (.t 9), none, []⟩, ⟨some 67, .load 1 false (.t 66), none, [0]⟩, ⟨some 68, .fieldAddr 1 (.t 2), none, []⟩, ⟨some 69, .load 1 false (.t 68), none, [2]⟩, ⟨some 70, .mv (.t 10), none, []⟩, ⟨some 71, .idxAddr 1 (.t 69) (.t 70), none, [3, 4]⟩, ⟨some 72, .load 1 false (.t 71), none, [5]⟩, ⟨some 73, .load 5 true (.t 3), none, []⟩, ⟨some 74, .call 61 [.t 72, .t 73], none, [6, 7]⟩, ⟨some 75, .buildSlice 40 1 [.t 74], none, [8]⟩, ⟨some 76, .append 40 1 24 (.t 67) (.t 75), none, [1, 9, 8]⟩, ⟨some 77, .fieldAddr 1 (.t 9), none, [0, 1, 2, 3, 4, 5, 6, 7, 8, 9, 10]⟩, ⟨none, .store 1 (.t 77) (.t 76), none, [11, 10, 10, 0, 1, 2, 3, 4, 5, 6, 7, 8, 9, 10]⟩])).seq (ACode.region false [⟨some 64, .mv (.t 10), none, []⟩, ⟨some 65, .bin .add (.t 64) (.c (.int .i64 (1))), none, []⟩, ⟨some 10, .mv (.t 65), none, []⟩]))).loop)).seq ((ACode.region false [⟨some 78, .load 2 true (.t 9), none, []⟩, ⟨none, .store 2 (.t 4) (.t 78), none, []⟩]).seq ACode.ret))))))))
theorem Tryz.F36 : FnFacts Tryz.prog 36 Tryz.f36 Tryz.ac36 79 [.cell 4 43] := ⟨Tryz.func36, by kernel_rfl, by kernel_rfl, by kernel_rfl, by kernel_rfl, by kernel_rfl, by kernel_rfl, by kernel_rfl⟩
def Tryz.ac37 : ACode := ((ACode.region false [⟨some 8, .mv (.c (.slice none 0 0)), none, []⟩]).seq (((ACode.region false [⟨some 18, .mv (.t 0), none, []⟩, ⟨some 19, .mv (.t 1), none, []⟩, ⟨some 20, .mv (.t 2), none, []⟩, ⟨some 21, .mv (.t 3), none, []⟩, ⟨some 22, .call 62 [.t 18, .t 19, .t 20, .t 21], none, []⟩, ⟨some 23, .un .not (.t 22), none, []⟩]).seq (ACode.cond (.t 23) ((ACode.region false [⟨some 8, .mv (.c (.slice none 0 0)), none, []⟩]).seq ACode.ret) ACode.skip)).seq ((ACode.region false [⟨some 24, .mv (.t 0), none, []⟩, ⟨some 25, .buildSlice 3 1 [.c (.int .i64 (0)), .t 24], none, []⟩, ⟨some 26, .mv (.t 1), none, []⟩, ⟨some 27, .buildSlice 3 1 [.c (.int .i64 (0)), .t 26], none, []⟩, ⟨some 9, .mv (.t 25), none, []⟩, ⟨some 10, .mv (.t 27), none, []⟩]).seq (((ACode.region false [⟨some 11, .mv (.c (.int .i64 (0))), none, []⟩]).seq (ACode.block 0 (((ACode.region false [⟨some 28, .mv (.t 11), none, []⟩, ⟨some 29, .mv (.t 2), none, []⟩, ⟨some 30, .len (.t 29), none, []⟩, ⟨some 31, .bin .lss (.t 28) (.t 30), none, []⟩]).seq (ACode.cond (.t 31) ACode.skip (ACode.exit 0))).seq ((ACode.block 1 ((ACode.region true [⟨some 34, .mv (.t 9), none, []⟩, ⟨some 35, .mv (.t 2), none, []⟩, ⟨some 36, .mv (.t 11), none, []⟩, ⟨some 37, .idxAddr 4 (.t 35) (.t 36), none, [1, 2]⟩, ⟨some 38, .fieldAddr 0 (.t 37), none, [3]⟩, ⟨some 39, .fieldAddr 0 (.t 38), none, [4]⟩, ⟨some 40, .load 1 false (.t 39), none, [5]⟩, ⟨some 41, .mv (.t 3), none, []⟩, ⟨some 42, .bin .sub (.t 40) (.t 41), none, [6, 7]⟩, ⟨some 43, .mv (.t 0), none, []⟩, ⟨some 44, .call 63 [.t 34, .t 42, .t 43], none, [0, 8, 9]⟩, ⟨some 45, .mv (.t 2), none, []⟩, ⟨some 46, .mv (.t 11), none, []⟩, ⟨some 47, .idxAddr 4 (.t 45) (.t 46), none, [11, 12]⟩, ⟨some 48, .fieldAddr 2 (.t 47), none, [13]⟩, ⟨some 49, .fieldAddr 0 (.t 48), none, [14]⟩, ⟨some 50, .load 1 false (.t 49), none, [15]⟩, ⟨some 51, .mv (.t 3), none, []⟩, ⟨some 52, .bin .add (.t 50) (.t 51), none, [16, 17]⟩, ⟨some 53, .mv (.t 0), none, []⟩, ⟨some 54, .call 63 [.t 44, .t 52, .t 53], none, [10, 18, 19, 10]⟩, ⟨some 9, .mv (.t 54), none, [20, 20, 0, 1, 2, 3, 4, 5, 6, 7, 8, 9, 10, 11, 12, 13, 14, 15, 16, 17, 18, 19, 20]⟩]).seq (ACode.region true [⟨some 55, .mv (.t 10), none, []⟩, ⟨some 56, .mv (.t 2), none, []⟩, ⟨some 57, .mv (.t 11), none, []⟩, ⟨some 58, .idxAddr 4 (.t 56) (.t 57), none, [1, 2]⟩, ⟨some 59, .fieldAddr 0 (.t 58), none, [3]⟩, ⟨some 60, .fieldAddr 1 (.t 59), none, [4]⟩, ⟨some 61, .load 1 false (.t 60), none, [5]⟩, ⟨some 62, .mv (.t 3), none, []⟩, ⟨some 63, .bin .sub (.t 61) (.t 62), none, [6, 7]⟩, ⟨some 64, .mv (.t 1), none, []⟩, ⟨some 65, .call 63 [.t 55, .t 63, .t 64], none, [0, 8, 9]⟩, ⟨some 66, .mv (.t 2), none, []⟩, ⟨some 67, .mv (.t 11), none, []⟩, ⟨some 68, .idxAddr 4 (.t 66) (.t 67), none, [11, 12]⟩, ⟨some 69, .fieldAddr 2 (.t 68), none, [13]⟩, ⟨some 70, .fieldAddr 1 (.t 69), none, [14]⟩, ⟨some 71, .load 1 false (.t 70), none, [15]⟩, ⟨some 72, .mv (.t 3), none, []⟩, ⟨some 73, .bin .add (.t 71) (.t 72), none, [16, 17]⟩, ⟨some 74, .mv (.t 1), none, []⟩, ⟨some 75, .call 63 [.t 65, .t 73, .t 74], none, [10, 18, 19, 10]⟩, ⟨some 10, .mv (.t 75), none, [20, 20, 0, 1, 2, 3, 4, 5, 6, 7, 8, 9, 10, 11, 12, 13, 14, 15, 16, 17, 18, 19, 20]⟩]))).seq (ACode.region false [⟨some 32, .mv (.t 11), none, []⟩, ⟨some 33, .bin .add (.t 32) (.c (.int .i64 (1))), none, []⟩, ⟨some 11, .mv (.t 33), none, []⟩]))).loop)).seq ((ACode.region false [⟨some 12, .mv (.c (.slice none 0 0)), none, []⟩]).seq (((ACode.region false [⟨some 13, .mv (.c (.int .i64 (0))), none, []⟩]).seq (ACode.block 2 (((ACode.region false [⟨some 76, .mv (.t 13), none, []⟩, ⟨some 77, .mv (.t 10), none, []⟩, ⟨some 78, .len (.t 77), none, []⟩, ⟨some 79, .bin .lss (.t 76) (.t 78), none, []⟩]).seq (ACode.cond (.t 79) ACode.skip (ACode.exit 2))).seq ((ACode.block 3 ((ACode.region false [⟨some 14, .mv (.c (.int .i64 (0))), none, []⟩]).seq (ACode.block 4 (((ACode.region false [⟨some 82, .mv (.t 14), none, []⟩, ⟨some 83, .mv (.t 9), none, []⟩, ⟨some 84, .len (.t 83), none, []⟩, ⟨some 85, .bin .lss (.t 82) (.t 84), none, []⟩]).seq (ACode.cond (.t 85) ACode.skip (ACode.exit 4))).seq ((ACode.block 5 ((ACode.region false [⟨some 88, .mv (.t 13), none, []⟩, ⟨some 89, .bin .add (.t 88) (.c (.int .i64 (1))), none, []⟩, ⟨some 15, .mv (.t 89), none, []⟩]).seq (ACode.block 6 (((ACode.region false [⟨some 90, .mv (.t 15), none, []⟩, ⟨some 91, .mv (.t 10), none, []⟩, ⟨some 92, .len (.t 91), none, []⟩, ⟨some 93, .bin .lss (.t 90) (.t 92), none, []⟩]).seq (ACode.cond (.t 93) ACode.skip (ACode.exit 6))).seq ((ACode.block 7 ((ACode.region false [⟨some 96, .mv (.t 14), none, []⟩, ⟨some 97, .bin .add (.t 96) (.c (.int .i64 (1))), none, []⟩, ⟨some 16, .mv (.t 97), none, []⟩]).seq (ACode.block 8 (((ACode.region false [⟨some 98, .mv (.t 16), none, []⟩, ⟨some 99, .mv (.t 9), none, []⟩, ⟨some 100, .len (.t 99), none, []⟩, ⟨some 101, .bin .lss (.t 98) (.t 100), none, []⟩]).seq (ACode.cond (.t 101) ACode.skip (ACode.exit 8))).seq ((ACode.block 9 ((ACode.region true [⟨some 104, .mv (.t 9), none, []⟩, ⟨some 105, .mv (.t 14), none, []⟩, ⟨some 106, .idxAddr 1 (.t 104) (.t 105), none, [0, 1]⟩, ⟨some 107, .load 1 false (.t 106), none, [2]⟩, ⟨some 108, .mv (.t 10), none, []⟩, ⟨some 109, .mv (.t 13), none, []⟩, ⟨some 110, .idxAddr 1 (.t 108) (.t 109), none, [4, 5]⟩, ⟨some 111, .load 1 false (.t 110), none, [6]⟩, ⟨some 112, .build [.int .i64 (0), .int .i64 (0)] [(0, 1, .t 107), (1, 1, .t 111)], none, [3, 7]⟩, ⟨some 113, .mv (.t 9), none, []⟩, ⟨some 114, .mv (.t 16), none, []⟩, ⟨some 115, .idxAddr 1 (.t 113) (.t 114), none, [9, 10]⟩, ⟨some 116, .load 1 false (.t 115), none, [11]⟩, ⟨some 117, .mv (.t 10), none, []⟩, ⟨some 118, .mv (.t 15), none, []⟩, ⟨some 119, .idxAddr 1 (.t 117) (.t 118), none, [13, 14]⟩, ⟨some 120, .load 1 false (.t 119), none, [15]⟩, ⟨some 121, .build [.int .i64 (0), .int .i64 (0)] [(0, 1, .t 116), (1, 1, .t 120)], none, [12, 16]⟩, ⟨some 122, .build [.int .i64 (0), .int .i64 (0), .int .i64 (0), .int .i64 (0)] [(0, 2, .t 112), (2, 2, .t 121)], none, [8, 17]⟩, ⟨some 17, .alloc [.int .i64 (0), .int .i64 (0), .int .i64 (0), .int .i64 (0)], none, []⟩, ⟨none, .store 4 (.t 17) (.t 122), none, [19, 18, 0, 1, 2, 3, 4, 5, 6, 7, 8, 9, 10, 11, 12, 13, 14, 15, 16, 17, 18, 19]⟩]).seq ((ACode.region false [⟨some 123, .mv (.t 0), none, []⟩, ⟨some 124, .mv (.t 1), none, []⟩, ⟨some 125, .mv (.t 2), none, []⟩, ⟨some 126, .mv (.t 3), none, []⟩, ⟨some 127, .load 4 true (.t 17), none, []⟩, ⟨some 128, .call 64 [.t 123, .t 124, .t 125, .t 126, .t 127], none, []⟩, ⟨some 129, .mv (.t 128), none, []⟩, ⟨some 130, .mv (.t 0), some (129, true), []⟩, ⟨some 131, .mv (.t 1), some (129, true), []⟩, ⟨some 132, .mv (.t 2), some (129, true), []⟩, ⟨some 133, .mv (.t 3), some (129, true), []⟩, ⟨some 134, .load 4 true (.t 17), some (129, true), []⟩, ⟨some 135, .call 65 [.t 130, .t 131, .t 132, .t 133, .t 134], some (129, true), []⟩, ⟨some 136, .un .not (.t 135), some (129, true), []⟩, ⟨some 137, .pick (.t 129) (.t 136) (.c (.bool false)), none, []⟩]).seq (ACode.cond (.t 137) (ACode.region false [⟨some 138, .mv (.t 12), none, []⟩, ⟨some 139, .load 4 true (.t 17), none, []⟩, ⟨some 140, .buildSlice 54 4 [.t 139], none, []⟩, ⟨some 141, .append 54 4 32 (.t 138) (.t 140), none, []⟩, ⟨some 12, .mv (.t 141), none, []⟩]) ACode.skip)))).seq (ACode.region false [⟨some 102, .mv (.t 16), none, []⟩, ⟨some 103, .bin .add (.t 102) (.c (.int .i64 (1))), none, []⟩, ⟨some 16, .mv (.t 103), none, []⟩]))).loop))).seq (ACode.region false [⟨some 94, .mv (.t 15), none, []⟩, ⟨some 95, .bin .add (.t 94) (.c (.int .i64 (1))), none, []⟩, ⟨some 15, .mv (.t 95), none, []⟩]))).loop))).seq (ACode.region false [⟨some 86, .mv (.t 14), none, []⟩, ⟨some 87, .bin .add (.t 86) (.c (.int .i64 (1))), none, []⟩, ⟨some 14, .mv (.t 87), none, []⟩]))).loop))).seq (ACode.region false [⟨some 80, .mv (.t 13), none, []⟩, ⟨some 81, .bin .add (.t 80) (.c (.int .i64 (1))), none, []⟩, ⟨some 13, .mv (.t 81), none, []⟩]))).loop)).seq ((ACode.region false [⟨some 142, .mv (.t 12), none, []⟩, ⟨some 8, .mv (.t 142), none, []⟩]).seq ACode.ret)))))))
theorem Tryz.F37 : FnFacts Tryz.prog 37 Tryz.f37 Tryz.ac37 143 [.tmp 8] := ⟨Tryz.func37, by kernel_rfl, by kernel_rfl, by kernel_rfl, by kernel_rfl, by kernel_rfl, by kernel_rfl, by kernel_rfl⟩
def Tryz.ac38 : ACode := ((ACode.region false [⟨some 2, .box 4 (.t 0), none, []⟩, ⟨some 3, .box 4 (.t 1), none, []⟩, ⟨some 4, .mv (.c (.bool false)), none, []⟩]).seq (((ACode.region true [⟨some 5, .load 4 true (.t 2), none, []⟩, ⟨some 6, .call 66 [.t 5], none, [0]⟩, ⟨some 7, .load 4 true (.t 3), none, []⟩, ⟨some 8, .call 66 [.t 7], none, [2, 1]⟩, ⟨some 9, .bin .neq (.t 6) (.t 8), none, [1, 3]⟩]).seq (ACode.cond (.t 9) ((ACode.region true [⟨some 10, .load 4 true (.t 2), none, []⟩, ⟨some 11, .call 66 [.t 10], none, [0]⟩, ⟨some 12, .load 4 true (.t 3), none, []⟩, ⟨some 13, .call 66 [.t 12], none, [2, 1]⟩, ⟨some 14, .bin .gtr (.t 11) (.t 13), none, [1, 3]⟩, ⟨some 4, .mv (.t 14), none, [4, 3, 0, 1, 2, 3, 4]⟩]).seq ACode.ret) ACode.skip)).seq (((ACode.region false [⟨some 15, .fieldAddr 0 (.t 2), none, []⟩, ⟨some 16, .fieldAddr 1 (.t 15), none, []⟩, ⟨some 17, .load 1 false (.t 16), none, []⟩, ⟨some 18, .fieldAddr 0 (.t 3), none, []⟩, ⟨some 19, .fieldAddr 1 (.t 18), none, []⟩, ⟨some 20, .load 1 false (.t 19), none, []⟩, ⟨some 21, .bin .neq (.t 17) (.t 20), none, []⟩]).seq (ACode.cond (.t 21) ((ACode.region false [⟨some 22, .fieldAddr 0 (.t 2), none, []⟩, ⟨some 23, .fieldAddr 1 (.t 22), none, []⟩, ⟨some 24, .load 1 false (.t 23), none, []⟩, ⟨some 25, .fieldAddr 0 (.t 3), none, []⟩, ⟨some 26, .fieldAddr 1 (.t 25), none, []⟩, ⟨some 27, .load 1 false (.t 26), none, []⟩, ⟨some 28, .bin .lss (.t 24) (.t 27), none, []⟩, ⟨some 4, .mv (.t 28), none, []⟩]).seq ACode.ret) ACode.skip)).seq (((ACode.region false [⟨some 29, .fieldAddr 0 (.t 2), none, []⟩, ⟨some 30, .fieldAddr 0 (.t 29), none, []⟩, ⟨some 31, .load 1 false (.t 30), none, []⟩, ⟨some 32, .fieldAddr 0 (.t 3), none, []⟩, ⟨some 33, .fieldAddr 0 (.t 32), none, []⟩, ⟨some 34, .load 1 false (.t 33), none, []⟩, ⟨some 35, .bin .neq (.t 31) (.t 34), none, []⟩]).seq (ACode.cond (.t 35) ((ACode.region false [⟨some 36, .fieldAddr 0 (.t 2), none, []⟩, ⟨some 37, .fieldAddr 0 (.t 36), none, []⟩, ⟨some 38, .load 1 false (.t 37), none, []⟩, ⟨some 39, .fieldAddr 0 (.t 3), none, []⟩, ⟨some 40, .fieldAddr 0 (.t 39), none, []⟩, ⟨some 41, .load 1 false (.t 40), none, []⟩, ⟨some 42, .bin .lss (.t 38) (.t 41), none, []⟩, ⟨some 4, .mv (.t 42), none, []⟩]).seq ACode.ret) ACode.skip)).seq ((ACode.region false [⟨some 43, .fieldAddr 2 (.t 2), none, []⟩, ⟨some 44, .fieldAddr 0 (.t 43), none, []⟩, ⟨some 45, .load 1 false (.t 44), none, []⟩, ⟨some 46, .fieldAddr 2 (.t 3), none, []⟩, ⟨some 47, .fieldAddr 0 (.t 46), none, []⟩, ⟨some 48, .load 1 false (.t 47), none, []⟩, ⟨some 49, .bin .gtr (.t 45) (.t 48), none, []⟩, ⟨some 4, .mv (.t 49), none, []⟩]).seq ACode.ret)))))
theorem Tryz.F38 : FnFacts Tryz.prog 38 Tryz.f38 Tryz.ac38 50 [.tmp 4] := ⟨Tryz.func38, by kernel_rfl, by kernel_rfl, by kernel_rfl, by kernel_rfl, by kernel_rfl, by kernel_rfl, by kernel_rfl⟩
def Tryz.ac39 : ACode := ((ACode.region false [⟨some 6, .mv (.c (.bool false)), none, []⟩]).seq ((ACode.region false [⟨some 7, .mv (.t 1), none, []⟩, ⟨some 8, .mv (.t 0), none, []⟩, ⟨some 9, .bin .leq (.t 7) (.t 8), none, []⟩, ⟨some 10, .mv (.t 9), none, []⟩, ⟨some 11, .mv (.t 0), some (10, true), []⟩, ⟨some 12, .mv (.t 2), some (10, true), []⟩, ⟨some 13, .bin .leq (.t 11) (.t 12), some (10, true), []⟩, ⟨some 14, .pick (.t 10) (.t 13) (.c (.bool false)), none, []⟩, ⟨some 6, .mv (.t 14), none, []⟩]).seq ACode.ret))
theorem Tryz.F39 : FnFacts Tryz.prog 39 Tryz.f39 Tryz.ac39 15 [.tmp 6] := ⟨Tryz.func39, by kernel_rfl, by kernel_rfl, by kernel_rfl, by kernel_rfl, by kernel_rfl, by kernel_rfl, by kernel_rfl⟩
def Tryz.ac44 : ACode := ((ACode.region false [⟨some 4, .mv (.c (.bool false)), none, []⟩]).seq ((ACode.region false [⟨some 5, .mv (.t 0), none, []⟩, ⟨some 6, .mv (.t 1), none, []⟩, ⟨some 7, .call 69 [.t 5, .t 6], none, []⟩, ⟨some 8, .bin .geq (.t 7) (.c (.int .i64 (0))), none, []⟩, ⟨some 4, .mv (.t 8), none, []⟩]).seq ACode.ret))
theorem Tryz.F44 : FnFacts Tryz.prog 44 Tryz.f44 Tryz.ac44 9 [.tmp 4] := ⟨Tryz.func44, by kernel_rfl, by kernel_rfl, by kernel_rfl, by kernel_rfl, by kernel_rfl, by kernel_rfl, by kernel_rfl⟩
def Tryz.ac45 : ACode := ((ACode.region false [⟨some 2, .box 4 (.t 0), none, []⟩, ⟨some 3, .mv (.c (.bool false)), none, []⟩]).seq ((ACode.region false [⟨some 4, .load 4 true (.t 1), none, []⟩, ⟨some 5, .load 4 true (.t 2), none, []⟩, ⟨some 6, .call 46 [.t 4, .t 5], none, []⟩, ⟨some 3, .mv (.t 6), none, []⟩]).seq ACode.ret))
theorem Tryz.F45 : FnFacts Tryz.prog 45 Tryz.f45 Tryz.ac45 7 [.tmp 3] := ⟨Tryz.func45, by kernel_rfl, by kernel_rfl, by kernel_rfl, by kernel_rfl, by kernel_rfl, by kernel_rfl, by kernel_rfl⟩
def Tryz.ac46 : ACode := ((ACode.region false [⟨some 2, .box 4 (.t 0), none, []⟩, ⟨some 3, .box 4 (.t 1), none, []⟩, ⟨some 4, .mv (.c (.bool false)), none, []⟩]).seq ((ACode.region false [⟨some 5, .fieldAddr 0 (.t 2), none, []⟩, ⟨some 6, .fieldAddr 0 (.t 5), none, []⟩, ⟨some 7, .load 1 false (.t 6), none, []⟩, ⟨some 8, .fieldAddr 2 (.t 3), none, []⟩, ⟨some 9, .fieldAddr 0 (.t 8), none, []⟩, ⟨some 10, .load 1 false (.t 9), none, []⟩, ⟨some 11, .bin .lss (.t 7) (.t 10), none, []⟩, ⟨some 12, .mv (.t 11), none, []⟩, ⟨some 13, .fieldAddr 0 (.t 3), some (12, true), []⟩, ⟨some 14, .fieldAddr 0 (.t 13), some (12, true), []⟩, ⟨some 15, .load 1 false (.t 14), some (12, true), []⟩, ⟨some 16, .fieldAddr 2 (.t 2), some (12, true), []⟩, ⟨some 17, .fieldAddr 0 (.t 16), some (12, true), []⟩, ⟨some 18, .load 1 false (.t 17), some (12, true), []⟩, ⟨some 19, .bin .lss (.t 15) (.t 18), some (12, true), []⟩, ⟨some 20, .pick (.t 12) (.t 19) (.c (.bool false)), none, []⟩, ⟨some 21, .mv (.t 20), none, []⟩, ⟨some 22, .fieldAddr 0 (.t 2), some (21, true), []⟩, ⟨some 23, .fieldAddr 1 (.t 22), some (21, true), []⟩, ⟨some 24, .load 1 false (.t 23), some (21, true), []⟩, ⟨some 25, .fieldAddr 2 (.t 3), some (21, true), []⟩, ⟨some 26, .fieldAddr 1 (.t 25), some (21, true), []⟩, ⟨some 27, .load 1 false (.t 26), some (21, true), []⟩, ⟨some 28, .bin .lss (.t 24) (.t 27), some (21, true), []⟩, ⟨some 29, .pick (.t 21) (.t 28) (.c (.bool false)), none, []⟩, ⟨some 30, .mv (.t 29), none, []⟩, ⟨some 31, .fieldAddr 0 (.t 3), some (30, true), []⟩, ⟨some 32, .fieldAddr 1 (.t 31), some (30, true), []⟩, ⟨some 33, .load 1 false (.t 32), some (30, true), []⟩, ⟨some 34, .fieldAddr 2 (.t 2), some (30, true), []⟩, ⟨some 35, .fieldAddr 1 (.t 34), some (30, true), []⟩, ⟨some 36, .load 1 false (.t 35), some (30, true), []⟩, ⟨some 37, .bin .lss (.t 33) (.t 36), some (30, true), []⟩, ⟨some 38, .pick (.t 30) (.t 37) (.c (.bool false)), none, []⟩, ⟨some 4, .mv (.t 38), none, []⟩]).seq ACode.ret))
theorem Tryz.F46 : FnFacts Tryz.prog 46 Tryz.f46 Tryz.ac46 39 [.tmp 4] := ⟨Tryz.func46, by kernel_rfl, by kernel_rfl, by kernel_rfl, by kernel_rfl, by kernel_rfl, by kernel_rfl, by kernel_rfl⟩
def Tryz.ac49 : ACode := ((ACode.region false [⟨some 4, .mv (.c (.int .i64 (0))), none, []⟩]).seq (((ACode.region false [⟨some 6, .mv (.t 0), none, []⟩, ⟨some 7, .len (.t 6), none, []⟩, ⟨some 8, .mv (.c (.int .i64 (0))), none, []⟩]).seq (ACode.block 0 ((ACode.region false [⟨some 9, .bin .lss (.t 8) (.t 7), none, []⟩]).seq ((ACode.cond (.t 9) ACode.skip (ACode.exit 0)).seq ((ACode.block 1 ((ACode.region false [⟨some 10, .mv (.t 8), none, []⟩, ⟨some 5, .mv (.t 10), none, []⟩]).seq ((ACode.region false [⟨some 11, .mv (.t 1), none, []⟩, ⟨some 12, .mv (.t 0), none, []⟩, ⟨some 13, .mv (.t 5), none, []⟩, ⟨some 14, .idxAddr 18 (.t 12) (.t 13), none, []⟩, ⟨some 15, .load 18 true (.t 14), none, []⟩, ⟨some 16, .callv (.t 11) [.t 15], none, []⟩]).seq (ACode.cond (.t 16) ((ACode.region false [⟨some 17, .mv (.t 5), none, []⟩, ⟨some 4, .mv (.t 17), none, []⟩]).seq ACode.ret) ACode.skip)))).seq (ACode.region false [⟨some 18, .bin .add (.t 8) (.c (.int .i64 (1))), none, []⟩, ⟨some 8, .mv (.t 18), none, []⟩])))).loop)).seq ((ACode.region false [⟨some 4, .mv (.c (.int .i64 (Int.negSucc 0))), none, []⟩]).seq ACode.ret)))
theorem Tryz.F49 : FnFacts Tryz.prog 49 Tryz.f49 Tryz.ac49 19 [.tmp 4] := ⟨Tryz.func49, by kernel_rfl, by kernel_rfl, by kernel_rfl, by kernel_rfl, by kernel_rfl, by kernel_rfl, by kernel_rfl⟩
def Tryz.ac50 : ACode := ((ACode.region false [⟨some 2, .box 18 (.t 0), none, []⟩, ⟨some 3, .mv (.c (.bool false)), none, []⟩]).seq ((ACode.region false [⟨some 4, .fieldAddr 0 (.t 2), none, []⟩, ⟨some 5, .load 1 false (.t 4), none, []⟩, ⟨some 6, .load 1 false (.t 1), none, []⟩, ⟨some 7, .bin .eql (.t 5) (.t 6), none, []⟩, ⟨some 3, .mv (.t 7), none, []⟩]).seq ACode.ret))
theorem Tryz.F50 : FnFacts Tryz.prog 50 Tryz.f50 Tryz.ac50 8 [.tmp 3] := ⟨Tryz.func50, by kernel_rfl, by kernel_rfl, by kernel_rfl, by kernel_rfl, by kernel_rfl, by kernel_rfl, by kernel_rfl⟩
def Tryz.ac51 : ACode := ((ACode.region false [⟨some 2, .mv (.c (.bool false)), none, []⟩]).seq ((ACode.region false [⟨some 3, .mv (.t 0), none, []⟩, ⟨some 4, .bin .geq (.t 3) (.c (.int .i64 (Int.negSucc 32767))), none, []⟩, ⟨some 5, .mv (.t 4), none, []⟩, ⟨some 6, .mv (.t 0), some (5, true), []⟩, ⟨some 7, .bin .leq (.t 6) (.c (.int .i64 (32768))), some (5, true), []⟩, ⟨some 8, .pick (.t 5) (.t 7) (.c (.bool false)), none, []⟩, ⟨some 2, .mv (.t 8), none, []⟩]).seq ACode.ret))
theorem Tryz.F51 : FnFacts Tryz.prog 51 Tryz.f51 Tryz.ac51 9 [.tmp 2] := ⟨Tryz.func51, by kernel_rfl, by kernel_rfl, by kernel_rfl, by kernel_rfl, by kernel_rfl, by kernel_rfl, by kernel_rfl⟩
def Tryz.ac52 : ACode := ((ACode.region false [⟨some 1, .box 2 (.t 0), none, []⟩, ⟨some 2, .mv (.c (.bool false)), none, []⟩]).seq ((ACode.region false [⟨some 3, .fieldAddr 0 (.t 1), none, []⟩, ⟨some 4, .load 1 false (.t 3), none, []⟩, ⟨some 5, .bin .lss (.t 4) (.c (.int .i64 (Int.negSucc 1099511627775))), none, []⟩, ⟨some 6, .mv (.t 5), none, []⟩, ⟨some 7, .fieldAddr 0 (.t 1), some (6, false), []⟩, ⟨some 8, .load 1 false (.t 7), some (6, false), []⟩, ⟨some 9, .bin .gtr (.t 8) (.c (.int .i64 (1099511627776))), some (6, false), []⟩, ⟨some 10, .pick (.t 6) (.c (.bool true)) (.t 9), none, []⟩, ⟨some 11, .mv (.t 10), none, []⟩, ⟨some 12, .fieldAddr 1 (.t 1), some (11, false), []⟩, ⟨some 13, .load 1 false (.t 12), some (11, false), []⟩, ⟨some 14, .bin .lss (.t 13) (.c (.int .i64 (Int.negSucc 1099511627775))), some (11, false), []⟩, ⟨some 15, .pick (.t 11) (.c (.bool true)) (.t 14), none, []⟩, ⟨some 16, .mv (.t 15), none, []⟩, ⟨some 17, .fieldAddr 1 (.t 1), some (16, false), []⟩, ⟨some 18, .load 1 false (.t 17), some (16, false), []⟩, ⟨some 19, .bin .gtr (.t 18) (.c (.int .i64 (1099511627776))), some (16, false), []⟩, ⟨some 20, .pick (.t 16) (.c (.bool true)) (.t 19), none, []⟩, ⟨some 2, .mv (.t 20), none, []⟩]).seq ACode.ret))
theorem Tryz.F52 : FnFacts Tryz.prog 52 Tryz.f52 Tryz.ac52 21 [.tmp 2] := ⟨Tryz.func52, by kernel_rfl, by kernel_rfl, by kernel_rfl, by kernel_rfl, by kernel_rfl, by kernel_rfl, by kernel_rfl⟩
def Tryz.ac53 : ACode := ((ACode.region false [⟨some 1, .box 2 (.t 0), none, []⟩, ⟨some 2, .mv (.c (.slice none 0 0)), none, []⟩]).seq ((ACode.region false [⟨some 3, .fieldAddr 0 (.t 1), none, []⟩, ⟨some 4, .load 1 false (.t 3), none, []⟩, ⟨some 5, .buildSlice 40 1 [.t 4], none, []⟩, ⟨some 6, .fieldAddr 1 (.t 1), none, []⟩, ⟨some 7, .load 1 false (.t 6), none, []⟩, ⟨some 8, .append 40 1 24 (.t 5) (.t 7), none, []⟩, ⟨some 2, .mv (.t 8), none, []⟩]).seq ACode.ret))
theorem Tryz.F53 : FnFacts Tryz.prog 53 Tryz.f53 Tryz.ac53 9 [.tmp 2] := ⟨Tryz.func53, by kernel_rfl, by kernel_rfl, by kernel_rfl, by kernel_rfl, by kernel_rfl, by kernel_rfl, by kernel_rfl⟩
def Tryz.ac54 : ACode := ((ACode.region false [⟨some 4, .mv (.c (.bool false)), none, []⟩]).seq ((ACode.region false [⟨some 5, .mv (.t 0), none, []⟩, ⟨some 6, .mv (.t 1), none, []⟩, ⟨some 7, .call 80 [.t 5, .t 6], none, []⟩, ⟨some 8, .bin .geq (.t 7) (.c (.int .i64 (0))), none, []⟩, ⟨some 4, .mv (.t 8), none, []⟩]).seq ACode.ret))
theorem Tryz.F54 : FnFacts Tryz.prog 54 Tryz.f54 Tryz.ac54 9 [.tmp 4] := ⟨Tryz.func54, by kernel_rfl, by kernel_rfl, by kernel_rfl, by kernel_rfl, by kernel_rfl, by kernel_rfl, by kernel_rfl⟩
def Tryz.ac55 : ACode := ((ACode.region false [⟨some 3, .mv (.c (.slice none 0 0)), none, []⟩]).seq ((ACode.region false [⟨some 4, .mv (.c (.slice none 0 0)), none, []⟩]).seq (((ACode.region false [⟨some 7, .mv (.t 0), none, []⟩, ⟨some 8, .len (.t 7), none, []⟩, ⟨some 9, .mv (.c (.int .i64 (0))), none, []⟩]).seq (ACode.block 0 ((ACode.region false [⟨some 10, .bin .lss (.t 9) (.t 8), none, []⟩]).seq ((ACode.cond (.t 10) ACode.skip (ACode.exit 0)).seq ((ACode.block 1 ((ACode.region false [⟨some 11, .idxAddr 2 (.t 7) (.t 9), none, []⟩, ⟨some 12, .load 2 true (.t 11), none, []⟩, ⟨some 6, .alloc [.int .i64 (0), .int .i64 (0)], none, []⟩, ⟨none, .store 2 (.t 6) (.t 12), none, []⟩]).seq (((ACode.region false [⟨some 13, .fieldAddr 4 (.t 1), none, []⟩, ⟨some 14, .load 1 false (.t 13), none, []⟩]).seq (ACode.cond (.t 14) (ACode.region false [⟨some 15, .fieldAddr 0 (.t 6), none, []⟩, ⟨some 16, .load 1 false (.t 15), none, []⟩, ⟨some 17, .un .neg (.t 16), none, []⟩, ⟨some 18, .fieldAddr 0 (.t 6), none, []⟩, ⟨none, .store 1 (.t 18) (.t 17), none, []⟩]) ACode.skip)).seq (((ACode.region false [⟨some 19, .fieldAddr 3 (.t 1), none, []⟩, ⟨some 20, .load 1 false (.t 19), none, []⟩, ⟨some 21, .mv (.c (.int .i64 (0))), none, []⟩]).seq (ACode.block 2 ((ACode.region false [⟨some 22, .bin .lss (.t 21) (.t 20), none, []⟩]).seq ((ACode.cond (.t 22) ACode.skip (ACode.exit 2)).seq ((ACode.block 3 (ACode.region false [⟨some 23, .fieldAddr 1 (.t 6), none, []⟩, ⟨some 24, .load 1 false (.t 23), none, []⟩, ⟨some 25, .un .neg (.t 24), none, []⟩, ⟨some 26, .fieldAddr 0 (.t 6), none, []⟩, ⟨some 27, .load 1 false (.t 26), none, []⟩, ⟨some 28, .build [.int .i64 (0), .int .i64 (0)] [(0, 1, .t 25), (1, 1, .t 27)], none, []⟩, ⟨none, .store 2 (.t 6) (.t 28), none, []⟩])).seq (ACode.region false [⟨some 29, .bin .add (.t 21) (.c (.int .i64 (1))), none, []⟩, ⟨some 21, .mv (.t 29), none, []⟩])))).loop)).seq (ACode.region false [⟨some 30, .mv (.t 4), none, []⟩, ⟨some 31, .fieldAddr 0 (.t 6), none, []⟩, ⟨some 32, .load 1 false (.t 31), none, []⟩, ⟨some 33, .fieldAddr 1 (.t 1), none, []⟩, ⟨some 34, .fieldAddr 0 (.t 33), none, []⟩, ⟨some 35, .load 1 false (.t 34), none, []⟩, ⟨some 36, .bin .add (.t 32) (.t 35), none, []⟩, ⟨some 37, .fieldAddr 1 (.t 6), none, []⟩, ⟨some 38, .load 1 false (.t 37), none, []⟩, ⟨some 39, .fieldAddr 1 (.t 1), none, []⟩, ⟨some 40, .fieldAddr 1 (.t 39), none, []⟩, ⟨some 41, .load 1 false (.t 40), none, []⟩, ⟨some 42, .bin .add (.t 38) (.t 41), none, []⟩, ⟨some 43, .build [.int .i64 (0), .int .i64 (0)] [(0, 1, .t 36), (1, 1, .t 42)], none, []⟩, ⟨some 44, .buildSlice 52 2 [.t 43], none, []⟩, ⟨some 45, .append 52 2 16 (.t 30) (.t 44), none, []⟩, ⟨some 4, .mv (.t 45), none, []⟩]))))).seq (ACode.region false [⟨some 46, .bin .add (.t 9) (.c (.int .i64 (1))), none, []⟩, ⟨some 9, .mv (.t 46), none, []⟩])))).loop)).seq (((ACode.region false [⟨some 47, .fieldAddr 4 (.t 1), none, []⟩, ⟨some 48, .load 1 false (.t 47), none, []⟩]).seq (ACode.cond (.t 48) (ACode.region false [⟨some 49, .mv (.t 4), none, []⟩, ⟨some 50, .call 56 [.t 49], none, []⟩]) ACode.skip)).seq ((ACode.region false [⟨some 51, .mv (.t 4), none, []⟩, ⟨some 3, .mv (.t 51), none, []⟩]).seq ACode.ret)))))
theorem Tryz.F55 : FnFacts Tryz.prog 55 Tryz.f55 Tryz.ac55 52 [.tmp 3] := ⟨Tryz.func55, by kernel_rfl, by kernel_rfl, by kernel_rfl, by kernel_rfl, by kernel_rfl, by kernel_rfl, by kernel_rfl⟩
def Tryz.ac56 : ACode := ((ACode.region false [⟨some 4, .mv (.t 0), none, []⟩, ⟨some 5, .len (.t 4), none, []⟩, ⟨some 6, .bin .sub (.t 5) (.c (.int .i64 (1))), none, []⟩, ⟨some 2, .mv (.c (.int .i64 (0))), none, []⟩, ⟨some 3, .mv (.t 6), none, []⟩]).seq (ACode.block 0 (((ACode.region false [⟨some 7, .mv (.t 2), none, []⟩, ⟨some 8, .mv (.t 3), none, []⟩, ⟨some 9, .bin .lss (.t 7) (.t 8), none, []⟩]).seq (ACode.cond (.t 9) ACode.skip (ACode.exit 0))).seq ((ACode.block 1 (ACode.region true [⟨some 14, .mv (.t 0), none, []⟩, ⟨some 15, .mv (.t 2), none, []⟩, ⟨some 16, .mv (.t 0), none, []⟩, ⟨some 17, .mv (.t 3), none, []⟩, ⟨some 18, .mv (.t 0), none, []⟩, ⟨some 19, .mv (.t 3), none, []⟩, ⟨some 20, .idxAddr 2 (.t 18) (.t 19), none, [4, 5]⟩, ⟨some 21, .load 2 true (.t 20), none, [6]⟩, ⟨some 22, .mv (.t 0), none, []⟩, ⟨some 23, .mv (.t 2), none, []⟩, ⟨some 24, .idxAddr 2 (.t 22) (.t 23), none, [8, 9]⟩, ⟨some 25, .load 2 true (.t 24), none, [10]⟩, ⟨some 26, .idxAddr 2 (.t 14) (.t 15), none, [0, 1, 0, 1, 4, 5, 6, 7, 11]⟩, ⟨none, .store 2 (.t 26) (.t 21), none, [12, 7, 0, 1, 4, 5, 6, 7, 11]⟩, ⟨some 27, .idxAddr 2 (.t 16) (.t 17), none, [2, 3, 0, 1, 2, 3, 4, 5, 6, 7, 8, 9, 10, 11, 12, 13]⟩, ⟨none, .store 2 (.t 27) (.t 25), none, [14, 11, 13, 0, 1, 2, 3, 4, 5, 6, 7, 8, 9, 10, 11, 12, 13]⟩])).seq (ACode.region false [⟨some 10, .mv (.t 2), none, []⟩, ⟨some 11, .bin .add (.t 10) (.c (.int .i64 (1))), none, []⟩, ⟨some 12, .mv (.t 3), none, []⟩, ⟨some 13, .bin .sub (.t 12) (.c (.int .i64 (1))), none, []⟩, ⟨some 2, .mv (.t 11), none, []⟩, ⟨some 3, .mv (.t 13), none, []⟩]))).loop))
theorem Tryz.F56 : FnFacts Tryz.prog 56 Tryz.f56 Tryz.ac56 28 [] := ⟨Tryz.func56, by kernel_rfl, by kernel_rfl, by kernel_rfl, by kernel_rfl, by kernel_rfl, by kernel_rfl, by kernel_rfl⟩
def Tryz.ac57 : ACode := ((ACode.region false [⟨some 4, .mv (.c (.int .i64 (0))), none, []⟩, ⟨some 5, .mv (.c (.int .i64 (0))), none, []⟩]).seq ((ACode.region false [⟨some 8, .mv (.t 0), none, []⟩, ⟨some 9, .mv (.t 0), none, []⟩, ⟨some 4, .mv (.t 8), none, []⟩, ⟨some 5, .mv (.t 9), none, []⟩]).seq (((ACode.region false [⟨some 10, .mv (.t 1), none, []⟩, ⟨some 11, .len (.t 10), none, []⟩, ⟨some 12, .mv (.c (.int .i64 (0))), none, []⟩]).seq (ACode.block 0 ((ACode.region false [⟨some 13, .bin .lss (.t 12) (.t 11), none, []⟩]).seq ((ACode.cond (.t 13) ACode.skip (ACode.exit 0)).seq ((ACode.block 1 ((ACode.region false [⟨some 14, .idxAddr 1 (.t 10) (.t 12), none, []⟩, ⟨some 15, .load 1 false (.t 14), none, []⟩, ⟨some 7, .mv (.t 15), none, []⟩]).seq (ACode.region false [⟨some 16, .mv (.t 4), none, []⟩, ⟨some 17, .mv (.t 7), none, []⟩, ⟨some 18, .minmax false (.t 16) (.t 17), none, []⟩, ⟨some 19, .mv (.t 5), none, []⟩, ⟨some 20, .mv (.t 7), none, []⟩, ⟨some 21, .minmax true (.t 19) (.t 20), none, []⟩, ⟨some 4, .mv (.t 18), none, []⟩, ⟨some 5, .mv (.t 21), none, []⟩]))).seq (ACode.region false [⟨some 22, .bin .add (.t 12) (.c (.int .i64 (1))), none, []⟩, ⟨some 12, .mv (.t 22), none, []⟩])))).loop)).seq ((ACode.region false [⟨some 23, .mv (.t 4), none, []⟩, ⟨some 24, .mv (.t 5), none, []⟩, ⟨some 4, .mv (.t 23), none, []⟩, ⟨some 5, .mv (.t 24), none, []⟩]).seq ACode.ret))))
theorem Tryz.F57 : FnFacts Tryz.prog 57 Tryz.f57 Tryz.ac57 25 [.tmp 4, .tmp 5] := ⟨Tryz.func57, by kernel_rfl, by kernel_rfl, by kernel_rfl, by kernel_rfl, by kernel_rfl, by kernel_rfl, by kernel_rfl⟩
def Tryz.ac58 : ACode := ((ACode.region false [⟨some 2, .mv (.c (.bool false)), none, []⟩]).seq ((ACode.region false [⟨some 3, .mv (.t 0), none, []⟩, ⟨some 4, .bin .geq (.t 3) (.c (.int .i64 (Int.negSucc 32767))), none, []⟩, ⟨some 5, .mv (.t 4), none, []⟩, ⟨some 6, .mv (.t 0), some (5, true), []⟩, ⟨some 7, .bin .leq (.t 6) (.c (.int .i64 (32768))), some (5, true), []⟩, ⟨some 8, .pick (.t 5) (.t 7) (.c (.bool false)), none, []⟩, ⟨some 2, .mv (.t 8), none, []⟩]).seq ACode.ret))
theorem Tryz.F58 : FnFacts Tryz.prog 58 Tryz.f58 Tryz.ac58 9 [.tmp 2] := ⟨Tryz.func58, by kernel_rfl, by kernel_rfl, by kernel_rfl, by kernel_rfl, by kernel_rfl, by kernel_rfl, by kernel_rfl⟩
def Tryz.ac59 : ACode := ((ACode.region false [⟨some 1, .box 2 (.t 0), none, []⟩, ⟨some 2, .mv (.c (.slice none 0 0)), none, []⟩]).seq ((ACode.region false [⟨some 3, .fieldAddr 0 (.t 1), none, []⟩, ⟨some 4, .load 1 false (.t 3), none, []⟩, ⟨some 5, .buildSlice 40 1 [.t 4], none, []⟩, ⟨some 6, .fieldAddr 1 (.t 1), none, []⟩, ⟨some 7, .load 1 false (.t 6), none, []⟩, ⟨some 8, .append 40 1 24 (.t 5) (.t 7), none, []⟩, ⟨some 2, .mv (.t 8), none, []⟩]).seq ACode.ret))
theorem Tryz.F59 : FnFacts Tryz.prog 59 Tryz.f59 Tryz.ac59 9 [.tmp 2] := ⟨Tryz.func59, by kernel_rfl, by kernel_rfl, by kernel_rfl, by kernel_rfl, by kernel_rfl, by kernel_rfl, by kernel_rfl⟩
def Tryz.ac60 : ACode := ((ACode.region false [⟨some 1, .box 2 (.t 0), none, []⟩, ⟨some 2, .mv (.c (.bool false)), none, []⟩]).seq ((ACode.region false [⟨some 3, .fieldAddr 0 (.t 1), none, []⟩, ⟨some 4, .load 1 false (.t 3), none, []⟩, ⟨some 5, .bin .lss (.t 4) (.c (.int .i64 (Int.negSucc 1099511627775))), none, []⟩, ⟨some 6, .mv (.t 5), none, []⟩, ⟨some 7, .fieldAddr 0 (.t 1), some (6, false), []⟩, ⟨some 8, .load 1 false (.t 7), some (6, false), []⟩, ⟨some 9, .bin .gtr (.t 8) (.c (.int .i64 (1099511627776))), some (6, false), []⟩, ⟨some 10, .pick (.t 6) (.c (.bool true)) (.t 9), none, []⟩, ⟨some 11, .mv (.t 10), none, []⟩, ⟨some 12, .fieldAddr 1 (.t 1), some (11, false), []⟩, ⟨some 13, .load 1 false (.t 12), some (11, false), []⟩, ⟨some 14, .bin .lss (.t 13) (.c (.int .i64 (Int.negSucc 1099511627775))), some (11, false), []⟩, ⟨some 15, .pick (.t 11) (.c (.bool true)) (.t 14), none, []⟩, ⟨some 16, .mv (.t 15), none, []⟩, ⟨some 17, .fieldAddr 1 (.t 1), some (16, false), []⟩, ⟨some 18, .load 1 false (.t 17), some (16, false), []⟩, ⟨some 19, .bin .gtr (.t 18) (.c (.int .i64 (1099511627776))), some (16, false), []⟩, ⟨some 20, .pick (.t 16) (.c (.bool true)) (.t 19), none, []⟩, ⟨some 2, .mv (.t 20), none, []⟩]).seq ACode.ret))
theorem Tryz.F60 : FnFacts Tryz.prog 60 Tryz.f60 Tryz.ac60 21 [.tmp 2] := ⟨Tryz.func60, by kernel_rfl, by kernel_rfl, by kernel_rfl, by kernel_rfl, by kernel_rfl, by kernel_rfl, by kernel_rfl⟩
def Tryz.ac61 : ACode := ((ACode.region false [⟨some 3, .box 5 (.t 1), none, []⟩, ⟨some 4, .mv (.c (.slice none 0 0)), none, []⟩]).seq ((ACode.region false [⟨some 5, .mv (.c (.slice none 0 0)), none, []⟩]).seq (((ACode.region false [⟨some 6, .mv (.c (.int .i64 (0))), none, []⟩]).seq (ACode.block 0 (((ACode.region false [⟨some 8, .mv (.t 6), none, []⟩, ⟨some 9, .mv (.t 0), none, []⟩, ⟨some 10, .len (.t 9), none, []⟩, ⟨some 11, .bin .lss (.t 8) (.t 10), none, []⟩]).seq (ACode.cond (.t 11) ACode.skip (ACode.exit 0))).seq ((ACode.block 1 ((ACode.region false [⟨some 14, .mv (.t 6), none, []⟩, ⟨some 7, .mv (.t 14), none, []⟩]).seq (((ACode.region false [⟨some 15, .fieldAddr 4 (.t 3), none, []⟩, ⟨some 16, .load 1 false (.t 15), none, []⟩]).seq (ACode.cond (.t 16) (ACode.region false [⟨some 17, .mv (.t 0), none, []⟩, ⟨some 18, .len (.t 17), none, []⟩, ⟨some 19, .bin .sub (.t 18) (.c (.int .i64 (1))), none, []⟩, ⟨some 20, .mv (.t 6), none, []⟩, ⟨some 21, .bin .sub (.t 19) (.t 20), none, []⟩, ⟨some 7, .mv (.t 21), none, []⟩]) ACode.skip)).seq (ACode.region true [⟨some 22, .mv (.t 5), none, []⟩, ⟨some 23, .mv (.t 0), none, []⟩, ⟨some 24, .mv (.t 7), none, []⟩, ⟨some 25, .idxAddr 2 (.t 23) (.t 24), none, [1, 2]⟩, ⟨some 26, .load 2 true (.t 25), none, [3]⟩, ⟨some 27, .load 5 true (.t 3), none, []⟩, ⟨some 28, .call 81 [.t 26, .t 27], none, [4, 5]⟩, ⟨some 29, .buildSlice 52 2 [.t 28], none, [6]⟩, ⟨some 30, .append 52 2 16 (.t 22) (.t 29), none, [0, 7, 6]⟩, ⟨some 5, .mv (.t 30), none, [8, 8, 0, 1, 2, 3, 4, 5, 6, 7, 8]⟩])))).seq (ACode.region false [⟨some 12, .mv (.t 6), none, []⟩, ⟨some 13, .bin .add (.t 12) (.c (.int .i64 (1))), none, []⟩, ⟨some 6, .mv (.t 13), none, []⟩]))).loop)).seq ((ACode.region false [⟨some 31, .mv (.t 5), none, []⟩, ⟨some 4, .mv (.t 31), none, []⟩]).seq ACode.ret))))
theorem Tryz.F61 : FnFacts Tryz.prog 61 Tryz.f61 Tryz.ac61 32 [.tmp 4] := ⟨Tryz.func61, by kernel_rfl, by kernel_rfl, by kernel_rfl, by kernel_rfl, by kernel_rfl, by kernel_rfl, by kernel_rfl⟩
def Tryz.ac62 : ACode := ((ACode.region false [⟨some 8, .mv (.c (.bool false)), none, []⟩]).seq (((ACode.region false [⟨some 11, .mv (.t 0), none, []⟩, ⟨some 12, .call 82 [.t 11, .c (.int .i64 (1))], none, []⟩, ⟨some 13, .un .not (.t 12), none, []⟩, ⟨some 14, .mv (.t 13), none, []⟩, ⟨some 15, .mv (.t 1), some (14, false), []⟩, ⟨some 16, .call 82 [.t 15, .c (.int .i64 (1))], some (14, false), []⟩, ⟨some 17, .un .not (.t 16), some (14, false), []⟩, ⟨some 18, .pick (.t 14) (.c (.bool true)) (.t 17), none, []⟩, ⟨some 19, .mv (.t 18), none, []⟩, ⟨some 20, .mv (.t 3), some (19, false), []⟩, ⟨some 21, .bin .lss (.t 20) (.c (.int .i64 (0))), some (19, false), []⟩, ⟨some 22, .pick (.t 19) (.c (.bool true)) (.t 21), none, []⟩, ⟨some 23, .mv (.t 22), none, []⟩, ⟨some 24, .mv (.t 3), some (23, false), []⟩, ⟨some 25, .bin .gtr (.t 24) (.c (.int .i64 (500))), some (23, false), []⟩, ⟨some 26, .pick (.t 23) (.c (.bool true)) (.t 25), none, []⟩, ⟨some 27, .mv (.t 26), none, []⟩, ⟨some 28, .mv (.t 2), some (27, false), []⟩, ⟨some 29, .len (.t 28), some (27, false), []⟩, ⟨some 30, .bin .gtr (.t 29) (.c (.int .i64 (32))), some (27, false), []⟩, ⟨some 31, .pick (.t 27) (.c (.bool true)) (.t 30), none, []⟩]).seq (ACode.cond (.t 31) ((ACode.region false [⟨some 8, .mv (.c (.bool false)), none, []⟩]).seq ACode.ret) ACode.skip)).seq (((ACode.region false [⟨some 9, .mv (.c (.int .i64 (0))), none, []⟩]).seq (ACode.block 0 (((ACode.region false [⟨some 32, .mv (.t 9), none, []⟩, ⟨some 33, .mv (.t 2), none, []⟩, ⟨some 34, .len (.t 33), none, []⟩, ⟨some 35, .bin .lss (.t 32) (.t 34), none, []⟩]).seq (ACode.cond (.t 35) ACode.skip (ACode.exit 0))).seq ((ACode.block 1 ((ACode.region false [⟨some 38, .mv (.t 2), none, []⟩, ⟨some 39, .mv (.t 9), none, []⟩, ⟨some 40, .idxAddr 4 (.t 38) (.t 39), none, []⟩, ⟨some 41, .load 4 true (.t 40), none, []⟩, ⟨some 10, .alloc [.int .i64 (0), .int .i64 (0), .int .i64 (0), .int .i64 (0)], none, []⟩, ⟨none, .store 4 (.t 10) (.t 41), none, []⟩]).seq ((ACode.region false [⟨some 42, .fieldAddr 0 (.t 10), none, []⟩, ⟨some 43, .fieldAddr 0 (.t 42), none, []⟩, ⟨some 44, .load 1 false (.t 43), none, []⟩, ⟨some 45, .fieldAddr 2 (.t 10), none, []⟩, ⟨some 46, .fieldAddr 0 (.t 45), none, []⟩, ⟨some 47, .load 1 false (.t 46), none, []⟩, ⟨some 48, .bin .gtr (.t 44) (.t 47), none, []⟩, ⟨some 49, .mv (.t 48), none, []⟩, ⟨some 50, .fieldAddr 0 (.t 10), some (49, false), []⟩, ⟨some 51, .fieldAddr 1 (.t 50), some (49, false), []⟩, ⟨some 52, .load 1 false (.t 51), some (49, false), []⟩, ⟨some 53, .fieldAddr 2 (.t 10), some (49, false), []⟩, ⟨some 54, .fieldAddr 1 (.t 53), some (49, false), []⟩, ⟨some 55, .load 1 false (.t 54), some (49, false), []⟩, ⟨some 56, .bin .gtr (.t 52) (.t 55), some (49, false), []⟩, ⟨some 57, .pick (.t 49) (.c (.bool true)) (.t 56), none, []⟩, ⟨some 58, .mv (.t 57), none, []⟩, ⟨some 59, .fieldAddr 0 (.t 10), some (58, false), []⟩, ⟨some 60, .fieldAddr 0 (.t 59), some (58, false), []⟩, ⟨some 61, .load 1 false (.t 60), some (58, false), []⟩, ⟨some 62, .call 82 [.t 61, .c (.int .i64 (Int.negSucc 32767))], some (58, false), []⟩, ⟨some 63, .un .not (.t 62), some (58, false), []⟩, ⟨some 64, .pick (.t 58) (.c (.bool true)) (.t 63), none, []⟩, ⟨some 65, .mv (.t 64), none, []⟩, ⟨some 66, .fieldAddr 0 (.t 10), some (65, false), []⟩, ⟨some 67, .fieldAddr 1 (.t 66), some (65, false), []⟩, ⟨some 68, .load 1 false (.t 67), some (65, false), []⟩, ⟨some 69, .call 82 [.t 68, .c (.int .i64 (Int.negSucc 32767))], some (65, false), []⟩, ⟨some 70, .un .not (.t 69), some (65, false), []⟩, ⟨some 71, .pick (.t 65) (.c (.bool true)) (.t 70), none, []⟩, ⟨some 72, .mv (.t 71), none, []⟩, ⟨some 73, .fieldAddr 2 (.t 10), some (72, false), []⟩, ⟨some 74, .fieldAddr 0 (.t 73), some (72, false), []⟩, ⟨some 75, .load 1 false (.t 74), some (72, false), []⟩, ⟨some 76, .call 82 [.t 75, .c (.int .i64 (Int.negSucc 32767))], some (72, false), []⟩, ⟨some 77, .un .not (.t 76), some (72, false), []⟩, ⟨some 78, .pick (.t 72) (.c (.bool true)) (.t 77), none, []⟩, ⟨some 79, .mv (.t 78), none, []⟩, ⟨some 80, .fieldAddr 2 (.t 10), some (79, false), []⟩, ⟨some 81, .fieldAddr 1 (.t 80), some (79, false), []⟩, ⟨some 82, .load 1 false (.t 81), some (79, false), []⟩, ⟨some 83, .call 82 [.t 82, .c (.int .i64 (Int.negSucc 32767))], some (79, false), []⟩, ⟨some 84, .un .not (.t 83), some (79, false), []⟩, ⟨some 85, .pick (.t 79) (.c (.bool true)) (.t 84), none, []⟩]).seq (ACode.cond (.t 85) ((ACode.region false [⟨some 8, .mv (.c (.bool false)), none, []⟩]).seq ACode.ret) ACode.skip)))).seq (ACode.region false [⟨some 36, .mv (.t 9), none, []⟩, ⟨some 37, .bin .add (.t 36) (.c (.int .i64 (1))), none, []⟩, ⟨some 9, .mv (.t 37), none, []⟩]))).loop)).seq ((ACode.region false [⟨some 8, .mv (.c (.bool true)), none, []⟩]).seq ACode.ret))))
theorem Tryz.F62 : FnFacts Tryz.prog 62 Tryz.f62 Tryz.ac62 86 [.tmp 8] := ⟨Tryz.func62, by kernel_rfl, by kernel_rfl, by kernel_rfl, by kernel_rfl, by kernel_rfl, by kernel_rfl, by kernel_rfl⟩
def Tryz.ac63 : ACode := ((ACode.region false [⟨some 6, .mv (.c (.slice none 0 0)), none, []⟩]).seq (((ACode.region false [⟨some 9, .mv (.t 1), none, []⟩, ⟨some 10, .bin .lss (.t 9) (.c (.int .i64 (0))), none, []⟩, ⟨some 11, .mv (.t 10), none, []⟩, ⟨some 12, .mv (.t 1), some (11, false), []⟩, ⟨some 13, .mv (.t 2), some (11, false), []⟩, ⟨some 14, .bin .gtr (.t 12) (.t 13), some (11, false), []⟩, ⟨some 15, .pick (.t 11) (.c (.bool true)) (.t 14), none, []⟩]).seq (ACode.cond (.t 15) ((ACode.region false [⟨some 16, .mv (.t 0), none, []⟩, ⟨some 6, .mv (.t 16), none, []⟩]).seq ACode.ret) ACode.skip)).seq ((ACode.region false [⟨some 7, .mv (.c (.slice none 0 0)), none, []⟩]).seq (((ACode.region false [⟨some 8, .mv (.c (.int .i64 (0))), none, []⟩]).seq (ACode.block 0 (((ACode.region false [⟨some 17, .mv (.t 8), none, []⟩, ⟨some 18, .mv (.t 0), none, []⟩, ⟨some 19, .len (.t 18), none, []⟩, ⟨some 20, .bin .lss (.t 17) (.t 19), none, []⟩]).seq (ACode.cond (.t 20) ACode.skip (ACode.exit 0))).seq ((ACode.block 1 (((ACode.region false [⟨some 23, .mv (.t 0), none, []⟩, ⟨some 24, .mv (.t 8), none, []⟩, ⟨some 25, .idxAddr 1 (.t 23) (.t 24), none, []⟩, ⟨some 26, .load 1 false (.t 25), none, []⟩, ⟨some 27, .mv (.t 1), none, []⟩, ⟨some 28, .bin .eql (.t 26) (.t 27), none, []⟩]).seq (ACode.cond (.t 28) ((ACode.region false [⟨some 29, .mv (.t 0), none, []⟩, ⟨some 6, .mv (.t 29), none, []⟩]).seq ACode.ret) ACode.skip)).seq (((ACode.region false [⟨some 30, .mv (.t 1), none, []⟩, ⟨some 31, .mv (.t 0), none, []⟩, ⟨some 32, .mv (.t 8), none, []⟩, ⟨some 33, .idxAddr 1 (.t 31) (.t 32), none, []⟩, ⟨some 34, .load 1 false (.t 33), none, []⟩, ⟨some 35, .bin .lss (.t 30) (.t 34), none, []⟩, ⟨some 36, .mv (.t 35), none, []⟩, ⟨some 37, .mv (.t 8), some (36, true), []⟩, ⟨some 38, .bin .eql (.t 37) (.c (.int .i64 (0))), some (36, true), []⟩, ⟨some 39, .mv (.t 38), some (36, true), []⟩, ⟨some 40, .mv (.t 0), some (39, false), []⟩, ⟨some 41, .mv (.t 8), some (39, false), []⟩, ⟨some 42, .bin .sub (.t 41) (.c (.int .i64 (1))), some (39, false), []⟩, ⟨some 43, .idxAddr 1 (.t 40) (.t 42), some (39, false), []⟩, ⟨some 44, .load 1 false (.t 43), some (39, false), []⟩, ⟨some 45, .mv (.t 1), some (39, false), []⟩, ⟨some 46, .bin .lss (.t 44) (.t 45), some (39, false), []⟩, ⟨some 47, .pick (.t 39) (.c (.bool true)) (.t 46), some (36, true), []⟩, ⟨some 48, .pick (.t 36) (.t 47) (.c (.bool false)), none, []⟩]).seq (ACode.cond (.t 48) (ACode.region false [⟨some 49, .mv (.t 7), none, []⟩, ⟨some 50, .mv (.t 1), none, []⟩, ⟨some 51, .buildSlice 3 1 [.t 50], none, []⟩, ⟨some 52, .append 3 1 8 (.t 49) (.t 51), none, []⟩, ⟨some 7, .mv (.t 52), none, []⟩]) ACode.skip)).seq (ACode.region false [⟨some 53, .mv (.t 7), none, []⟩, ⟨some 54, .mv (.t 0), none, []⟩, ⟨some 55, .mv (.t 8), none, []⟩, ⟨some 56, .idxAddr 1 (.t 54) (.t 55), none, []⟩, ⟨some 57, .load 1 false (.t 56), none, []⟩, ⟨some 58, .buildSlice 3 1 [.t 57], none, []⟩, ⟨some 59, .append 3 1 8 (.t 53) (.t 58), none, []⟩, ⟨some 7, .mv (.t 59), none, []⟩])))).seq (ACode.region false [⟨some 21, .mv (.t 8), none, []⟩, ⟨some 22, .bin .add (.t 21) (.c (.int .i64 (1))), none, []⟩, ⟨some 8, .mv (.t 22), none, []⟩]))).loop)).seq (((ACode.region false [⟨some 60, .mv (.t 0), none, []⟩, ⟨some 61, .len (.t 60), none, []⟩, ⟨some 62, .bin .eql (.t 61) (.c (.int .i64 (0))), none, []⟩, ⟨some 63, .mv (.t 62), none, []⟩, ⟨some 64, .mv (.t 0), some (63, false), []⟩, ⟨some 65, .mv (.t 0), some (63, false), []⟩, ⟨some 66, .len (.t 65), some (63, false), []⟩, ⟨some 67, .bin .sub (.t 66) (.c (.int .i64 (1))), some (63, false), []⟩, ⟨some 68, .idxAddr 1 (.t 64) (.t 67), some (63, false), []⟩, ⟨some 69, .load 1 false (.t 68), some (63, false), []⟩, ⟨some 70, .mv (.t 1), some (63, false), []⟩, ⟨some 71, .bin .lss (.t 69) (.t 70), some (63, false), []⟩, ⟨some 72, .pick (.t 63) (.c (.bool true)) (.t 71), none, []⟩]).seq (ACode.cond (.t 72) (ACode.region false [⟨some 73, .mv (.t 7), none, []⟩, ⟨some 74, .mv (.t 1), none, []⟩, ⟨some 75, .buildSlice 3 1 [.t 74], none, []⟩, ⟨some 76, .append 3 1 8 (.t 73) (.t 75), none, []⟩, ⟨some 7, .mv (.t 76), none, []⟩]) ACode.skip)).seq ((ACode.region false [⟨some 77, .mv (.t 7), none, []⟩, ⟨some 6, .mv (.t 77), none, []⟩]).seq ACode.ret))))))
theorem Tryz.F63 : FnFacts Tryz.prog 63 Tryz.f63 Tryz.ac63 78 [.tmp 6] := ⟨Tryz.func63, by kernel_rfl, by kernel_rfl, by kernel_rfl, by kernel_rfl, by kernel_rfl, by kernel_rfl, by kernel_rfl⟩
def Tryz.ac64 : ACode := ((ACode.region false [⟨some 9, .box 4 (.t 4), none, []⟩, ⟨some 10, .mv (.c (.bool false)), none, []⟩]).seq (((ACode.region false [⟨some 17, .fieldAddr 0 (.t 9), none, []⟩, ⟨some 18, .fieldAddr 0 (.t 17), none, []⟩, ⟨some 19, .load 1 false (.t 18), none, []⟩, ⟨some 20, .fieldAddr 2 (.t 9), none, []⟩, ⟨some 21, .fieldAddr 0 (.t 20), none, []⟩, ⟨some 22, .load 1 false (.t 21), none, []⟩, ⟨some 23, .bin .geq (.t 19) (.t 22), none, []⟩, ⟨some 24, .mv (.t 23), none, []⟩, ⟨some 25, .fieldAddr 0 (.t 9), some (24, false), []⟩, ⟨some 26, .fieldAddr 1 (.t 25), some (24, false), []⟩, ⟨some 27, .load 1 false (.t 26), some (24, false), []⟩, ⟨some 28, .fieldAddr 2 (.t 9), some (24, false), []⟩, ⟨some 29, .fieldAddr 1 (.t 28), some (24, false), []⟩, ⟨some 30, .load 1 false (.t 29), some (24, false), []⟩, ⟨some 31, .bin .geq (.t 27) (.t 30), some (24, false), []⟩, ⟨some 32, .pick (.t 24) (.c (.bool true)) (.t 31), none, []⟩, ⟨some 33, .mv (.t 32), none, []⟩, ⟨some 34, .fieldAddr 0 (.t 9), some (33, false), []⟩, ⟨some 35, .fieldAddr 0 (.t 34), some (33, false), []⟩, ⟨some 36, .load 1 false (.t 35), some (33, false), []⟩, ⟨some 37, .bin .lss (.t 36) (.c (.int .i64 (0))), some (33, false), []⟩, ⟨some 38, .pick (.t 33) (.c (.bool true)) (.t 37), none, []⟩, ⟨some 39, .mv (.t 38), none, []⟩, ⟨some 40, .fieldAddr 0 (.t 9), some (39, false), []⟩, ⟨some 41, .fieldAddr 1 (.t 40), some (39, false), []⟩, ⟨some 42, .load 1 false (.t 41), some (39, false), []⟩, ⟨some 43, .bin .lss (.t 42) (.c (.int .i64 (0))), some (39, false), []⟩, ⟨some 44, .pick (.t 39) (.c (.bool true)) (.t 43), none, []⟩, ⟨some 45, .mv (.t 44), none, []⟩, ⟨some 46, .fieldAddr 2 (.t 9), some (45, false), []⟩, ⟨some 47, .fieldAddr 0 (.t 46), some (45, false), []⟩, ⟨some 48, .load 1 false (.t 47), some (45, false), []⟩, ⟨some 49, .mv (.t 0), some (45, false), []⟩, ⟨some 50, .bin .gtr (.t 48) (.t 49), some (45, false), []⟩, ⟨some 51, .pick (.t 45) (.c (.bool true)) (.t 50), none, []⟩, ⟨some 52, .mv (.t 51), none, []⟩, ⟨some 53, .fieldAddr 2 (.t 9), some (52, false), []⟩, ⟨some 54, .fieldAddr 1 (.t 53), some (52, false), []⟩, ⟨some 55, .load 1 false (.t 54), some (52, false), []⟩, ⟨some 56, .mv (.t 1), some (52, false), []⟩, ⟨some 57, .bin .gtr (.t 55) (.t 56), some (52, false), []⟩, ⟨some 58, .pick (.t 52) (.c (.bool true)) (.t 57), none, []⟩]).seq (ACode.cond (.t 58) ((ACode.region false [⟨some 10, .mv (.c (.bool false)), none, []⟩]).seq ACode.ret) ACode.skip)).seq (((ACode.region false [⟨some 11, .mv (.c (.int .i64 (0))), none, []⟩]).seq (ACode.block 0 (((ACode.region false [⟨some 59, .mv (.t 11), none, []⟩, ⟨some 60, .mv (.t 2), none, []⟩, ⟨some 61, .len (.t 60), none, []⟩, ⟨some 62, .bin .lss (.t 59) (.t 61), none, []⟩]).seq (ACode.cond (.t 62) ACode.skip (ACode.exit 0))).seq ((ACode.block 1 ((ACode.region false [⟨some 65, .mv (.t 2), none, []⟩, ⟨some 66, .mv (.t 11), none, []⟩, ⟨some 67, .idxAddr 4 (.t 65) (.t 66), none, []⟩, ⟨some 68, .load 4 true (.t 67), none, []⟩, ⟨some 12, .alloc [.int .i64 (0), .int .i64 (0), .int .i64 (0), .int .i64 (0)], none, []⟩, ⟨none, .store 4 (.t 12) (.t 68), none, []⟩]).seq ((ACode.region true [⟨some 69, .fieldAddr 0 (.t 9), none, []⟩, ⟨some 70, .fieldAddr 0 (.t 69), none, [0]⟩, ⟨some 71, .load 1 false (.t 70), none, [1]⟩, ⟨some 72, .fieldAddr 0 (.t 12), none, []⟩, ⟨some 73, .fieldAddr 0 (.t 72), none, [3]⟩, ⟨some 74, .load 1 false (.t 73), none, [4]⟩, ⟨some 75, .mv (.t 3), none, []⟩, ⟨some 76, .bin .sub (.t 74) (.t 75), none, [5, 6]⟩, ⟨some 77, .minmax true (.t 71) (.t 76), none, [2, 7]⟩, ⟨some 78, .fieldAddr 2 (.t 9), none, []⟩, ⟨some 79, .fieldAddr 0 (.t 78), none, [9]⟩, ⟨some 80, .load 1 false (.t 79), none, [10]⟩, ⟨some 81, .fieldAddr 2 (.t 12), none, []⟩, ⟨some 82, .fieldAddr 0 (.t 81), none, [12]⟩, ⟨some 83, .load 1 false (.t 82), none, [13]⟩, ⟨some 84, .mv (.t 3), none, []⟩, ⟨some 85, .bin .add (.t 83) (.t 84), none, [14, 15]⟩, ⟨some 86, .minmax false (.t 80) (.t 85), none, [11, 16]⟩, ⟨some 13, .mv (.t 77), none, [8, 0, 1, 2, 3, 4, 5, 6, 7, 8]⟩, ⟨some 14, .mv (.t 86), none, [17, 18, 0, 1, 2, 3, 4, 5, 6, 7, 8, 9, 10, 11, 12, 13, 14, 15, 16, 17, 18]⟩]).seq ((ACode.region true [⟨some 87, .fieldAddr 0 (.t 9), none, []⟩, ⟨some 88, .fieldAddr 1 (.t 87), none, [0]⟩, ⟨some 89, .load 1 false (.t 88), none, [1]⟩, ⟨some 90, .fieldAddr 0 (.t 12), none, []⟩, ⟨some 91, .fieldAddr 1 (.t 90), none, [3]⟩, ⟨some 92, .load 1 false (.t 91), none, [4]⟩, ⟨some 93, .mv (.t 3), none, []⟩, ⟨some 94, .bin .sub (.t 92) (.t 93), none, [5, 6]⟩, ⟨some 95, .minmax true (.t 89) (.t 94), none, [2, 7]⟩, ⟨some 96, .fieldAddr 2 (.t 9), none, []⟩, ⟨some 97, .fieldAddr 1 (.t 96), none, [9]⟩, ⟨some 98, .load 1 false (.t 97), none, [10]⟩, ⟨some 99, .fieldAddr 2 (.t 12), none, []⟩, ⟨some 100, .fieldAddr 1 (.t 99), none, [12]⟩, ⟨some 101, .load 1 false (.t 100), none, [13]⟩, ⟨some 102, .mv (.t 3), none, []⟩, ⟨some 103, .bin .add (.t 101) (.t 102), none, [14, 15]⟩, ⟨some 104, .minmax false (.t 98) (.t 103), none, [11, 16]⟩, ⟨some 15, .mv (.t 95), none, [8, 0, 1, 2, 3, 4, 5, 6, 7, 8]⟩, ⟨some 16, .mv (.t 104), none, [17, 18, 0, 1, 2, 3, 4, 5, 6, 7, 8, 9, 10, 11, 12, 13, 14, 15, 16, 17, 18]⟩]).seq ((ACode.region false [⟨some 105, .mv (.t 13), none, []⟩, ⟨some 106, .mv (.t 14), none, []⟩, ⟨some 107, .bin .lss (.t 105) (.t 106), none, []⟩, ⟨some 108, .mv (.t 107), none, []⟩, ⟨some 109, .mv (.t 15), some (108, true), []⟩, ⟨some 110, .mv (.t 16), some (108, true), []⟩, ⟨some 111, .bin .lss (.t 109) (.t 110), some (108, true), []⟩, ⟨some 112, .pick (.t 108) (.t 111) (.c (.bool false)), none, []⟩]).seq (ACode.cond (.t 112) ((ACode.region false [⟨some 10, .mv (.c (.bool false)), none, []⟩]).seq ACode.ret) ACode.skip)))))).seq (ACode.region false [⟨some 63, .mv (.t 11), none, []⟩, ⟨some 64, .bin .add (.t 63) (.c (.int .i64 (1))), none, []⟩, ⟨some 11, .mv (.t 64), none, []⟩]))).loop)).seq ((ACode.region false [⟨some 10, .mv (.c (.bool true)), none, []⟩]).seq ACode.ret))))
theorem Tryz.F64 : FnFacts Tryz.prog 64 Tryz.f64 Tryz.ac64 113 [.tmp 10] := ⟨Tryz.func64, by kernel_rfl, by kernel_rfl, by kernel_rfl, by kernel_rfl, by kernel_rfl, by kernel_rfl, by kernel_rfl⟩
def Tryz.ac65 : ACode := ((ACode.region false [⟨some 9, .box 4 (.t 4), none, []⟩, ⟨some 10, .mv (.c (.bool false)), none, []⟩]).seq ((ACode.region true [⟨some 15, .load 4 true (.t 9), none, []⟩, ⟨some 16, .load 4 true (.t 9), none, []⟩, ⟨some 17, .load 4 true (.t 9), none, []⟩, ⟨some 18, .load 4 true (.t 9), none, []⟩, ⟨some 11, .alloc [.int .i64 (0), .int .i64 (0), .int .i64 (0), .int .i64 (0)], none, []⟩, ⟨some 12, .alloc [.int .i64 (0), .int .i64 (0), .int .i64 (0), .int .i64 (0)], none, []⟩, ⟨some 13, .alloc [.int .i64 (0), .int .i64 (0), .int .i64 (0), .int .i64 (0)], none, []⟩, ⟨some 14, .alloc [.int .i64 (0), .int .i64 (0), .int .i64 (0), .int .i64 (0)], none, []⟩, ⟨none, .store 4 (.t 11) (.t 15), none, [4, 0, 0, 4, 5, 6, 7]⟩, ⟨none, .store 4 (.t 12) (.t 16), none, [5, 1, 8, 0, 1, 4, 5, 6, 7, 8]⟩, ⟨none, .store 4 (.t 13) (.t 17), none, [6, 2, 9, 0, 1, 2, 4, 5, 6, 7, 8, 9]⟩, ⟨none, .store 4 (.t 14) (.t 18), none, [7, 3, 10, 0, 1, 2, 3, 4, 5, 6, 7, 8, 9, 10]⟩]).seq ((ACode.region false [⟨some 19, .fieldAddr 0 (.t 11), none, []⟩, ⟨some 20, .fieldAddr 0 (.t 19), none, []⟩, ⟨some 21, .load 1 false (.t 20), none, []⟩, ⟨some 22, .bin .sub (.t 21) (.c (.int .i64 (1))), none, []⟩, ⟨some 23, .fieldAddr 0 (.t 11), none, []⟩, ⟨some 24, .fieldAddr 0 (.t 23), none, []⟩, ⟨none, .store 1 (.t 24) (.t 22), none, []⟩]).seq ((ACode.region false [⟨some 25, .fieldAddr 0 (.t 12), none, []⟩, ⟨some 26, .fieldAddr 1 (.t 25), none, []⟩, ⟨some 27, .load 1 false (.t 26), none, []⟩, ⟨some 28, .bin .sub (.t 27) (.c (.int .i64 (1))), none, []⟩, ⟨some 29, .fieldAddr 0 (.t 12), none, []⟩, ⟨some 30, .fieldAddr 1 (.t 29), none, []⟩, ⟨none, .store 1 (.t 30) (.t 28), none, []⟩]).seq ((ACode.region false [⟨some 31, .fieldAddr 2 (.t 13), none, []⟩, ⟨some 32, .fieldAddr 0 (.t 31), none, []⟩, ⟨some 33, .load 1 false (.t 32), none, []⟩, ⟨some 34, .bin .add (.t 33) (.c (.int .i64 (1))), none, []⟩, ⟨some 35, .fieldAddr 2 (.t 13), none, []⟩, ⟨some 36, .fieldAddr 0 (.t 35), none, []⟩, ⟨none, .store 1 (.t 36) (.t 34), none, []⟩]).seq ((ACode.region false [⟨some 37, .fieldAddr 2 (.t 14), none, []⟩, ⟨some 38, .fieldAddr 1 (.t 37), none, []⟩, ⟨some 39, .load 1 false (.t 38), none, []⟩, ⟨some 40, .bin .add (.t 39) (.c (.int .i64 (1))), none, []⟩, ⟨some 41, .fieldAddr 2 (.t 14), none, []⟩, ⟨some 42, .fieldAddr 1 (.t 41), none, []⟩, ⟨none, .store 1 (.t 42) (.t 40), none, []⟩]).seq ((ACode.region false [⟨some 43, .mv (.t 0), none, []⟩, ⟨some 44, .mv (.t 1), none, []⟩, ⟨some 45, .mv (.t 2), none, []⟩, ⟨some 46, .mv (.t 3), none, []⟩, ⟨some 47, .load 4 true (.t 11), none, []⟩, ⟨some 48, .call 64 [.t 43, .t 44, .t 45, .t 46, .t 47], none, []⟩, ⟨some 49, .mv (.t 48), none, []⟩, ⟨some 50, .mv (.t 0), some (49, false), []⟩, ⟨some 51, .mv (.t 1), some (49, false), []⟩, ⟨some 52, .mv (.t 2), some (49, false), []⟩, ⟨some 53, .mv (.t 3), some (49, false), []⟩, ⟨some 54, .load 4 true (.t 12), some (49, false), []⟩, ⟨some 55, .call 64 [.t 50, .t 51, .t 52, .t 53, .t 54], some (49, false), []⟩, ⟨some 56, .pick (.t 49) (.c (.bool true)) (.t 55), none, []⟩, ⟨some 57, .mv (.t 56), none, []⟩, ⟨some 58, .mv (.t 0), some (57, false), []⟩, ⟨some 59, .mv (.t 1), some (57, false), []⟩, ⟨some 60, .mv (.t 2), some (57, false), []⟩, ⟨some 61, .mv (.t 3), some (57, false), []⟩, ⟨some 62, .load 4 true (.t 13), some (57, false), []⟩, ⟨some 63, .call 64 [.t 58, .t 59, .t 60, .t 61, .t 62], some (57, false), []⟩, ⟨some 64, .pick (.t 57) (.c (.bool true)) (.t 63), none, []⟩, ⟨some 65, .mv (.t 64), none, []⟩, ⟨some 66, .mv (.t 0), some (65, false), []⟩, ⟨some 67, .mv (.t 1), some (65, false), []⟩, ⟨some 68, .mv (.t 2), some (65, false), []⟩, ⟨some 69, .mv (.t 3), some (65, false), []⟩, ⟨some 70, .load 4 true (.t 14), some (65, false), []⟩, ⟨some 71, .call 64 [.t 66, .t 67, .t 68, .t 69, .t 70], some (65, false), []⟩, ⟨some 72, .pick (.t 65) (.c (.bool true)) (.t 71), none, []⟩, ⟨some 10, .mv (.t 72), none, []⟩]).seq ACode.ret)))))))
theorem Tryz.F65 : FnFacts Tryz.prog 65 Tryz.f65 Tryz.ac65 73 [.tmp 10] := ⟨Tryz.func65, by kernel_rfl, by kernel_rfl, by kernel_rfl, by kernel_rfl, by kernel_rfl, by kernel_rfl, by kernel_rfl⟩
def Tryz.ac66 : ACode := ((ACode.region false [⟨some 1, .box 4 (.t 0), none, []⟩, ⟨some 2, .mv (.c (.int .i64 (0))), none, []⟩]).seq ((ACode.region false [⟨some 3, .fieldAddr 2 (.t 1), none, []⟩, ⟨some 4, .fieldAddr 0 (.t 3), none, []⟩, ⟨some 5, .load 1 false (.t 4), none, []⟩, ⟨some 6, .fieldAddr 0 (.t 1), none, []⟩, ⟨some 7, .fieldAddr 0 (.t 6), none, []⟩, ⟨some 8, .load 1 false (.t 7), none, []⟩, ⟨some 9, .bin .sub (.t 5) (.t 8), none, []⟩, ⟨some 10, .fieldAddr 2 (.t 1), none, []⟩, ⟨some 11, .fieldAddr 1 (.t 10), none, []⟩, ⟨some 12, .load 1 false (.t 11), none, []⟩, ⟨some 13, .fieldAddr 0 (.t 1), none, []⟩, ⟨some 14, .fieldAddr 1 (.t 13), none, []⟩, ⟨some 15, .load 1 false (.t 14), none, []⟩, ⟨some 16, .bin .sub (.t 12) (.t 15), none, []⟩, ⟨some 17, .bin .mul (.t 9) (.t 16), none, []⟩, ⟨some 2, .mv (.t 17), none, []⟩]).seq ACode.ret))
theorem Tryz.F66 : FnFacts Tryz.prog 66 Tryz.f66 Tryz.ac66 18 [.tmp 2] := ⟨Tryz.func66, by kernel_rfl, by kernel_rfl, by kernel_rfl, by kernel_rfl, by kernel_rfl, by kernel_rfl, by kernel_rfl⟩
def Tryz.ac69 : ACode := ((ACode.region false [⟨some 4, .mv (.c (.int .i64 (0))), none, []⟩]).seq (((ACode.region false [⟨some 6, .mv (.t 0), none, []⟩, ⟨some 7, .len (.t 6), none, []⟩, ⟨some 8, .mv (.c (.int .i64 (0))), none, []⟩]).seq (ACode.block 0 ((ACode.region false [⟨some 9, .bin .lss (.t 8) (.t 7), none, []⟩]).seq ((ACode.cond (.t 9) ACode.skip (ACode.exit 0)).seq ((ACode.block 1 ((ACode.region false [⟨some 10, .mv (.t 8), none, []⟩, ⟨some 5, .mv (.t 10), none, []⟩]).seq ((ACode.region false [⟨some 11, .mv (.t 1), none, []⟩, ⟨some 12, .mv (.t 0), none, []⟩, ⟨some 13, .mv (.t 5), none, []⟩, ⟨some 14, .idxAddr 4 (.t 12) (.t 13), none, []⟩, ⟨some 15, .load 4 true (.t 14), none, []⟩, ⟨some 16, .callv (.t 11) [.t 15], none, []⟩]).seq (ACode.cond (.t 16) ((ACode.region false [⟨some 17, .mv (.t 5), none, []⟩, ⟨some 4, .mv (.t 17), none, []⟩]).seq ACode.ret) ACode.skip)))).seq (ACode.region false [⟨some 18, .bin .add (.t 8) (.c (.int .i64 (1))), none, []⟩, ⟨some 8, .mv (.t 18), none, []⟩])))).loop)).seq ((ACode.region false [⟨some 4, .mv (.c (.int .i64 (Int.negSucc 0))), none, []⟩]).seq ACode.ret)))
theorem Tryz.F69 : FnFacts Tryz.prog 69 Tryz.f69 Tryz.ac69 19 [.tmp 4] := ⟨Tryz.func69, by kernel_rfl, by kernel_rfl, by kernel_rfl, by kernel_rfl, by kernel_rfl, by kernel_rfl, by kernel_rfl⟩
def Tryz.ac80 : ACode := ((ACode.region false [⟨some 4, .mv (.c (.int .i64 (0))), none, []⟩]).seq (((ACode.region false [⟨some 6, .mv (.t 0), none, []⟩, ⟨some 7, .len (.t 6), none, []⟩, ⟨some 8, .mv (.c (.int .i64 (0))), none, []⟩]).seq (ACode.block 0 ((ACode.region false [⟨some 9, .bin .lss (.t 8) (.t 7), none, []⟩]).seq ((ACode.cond (.t 9) ACode.skip (ACode.exit 0)).seq ((ACode.block 1 ((ACode.region false [⟨some 10, .mv (.t 8), none, []⟩, ⟨some 5, .mv (.t 10), none, []⟩]).seq ((ACode.region false [⟨some 11, .mv (.t 1), none, []⟩, ⟨some 12, .mv (.t 0), none, []⟩, ⟨some 13, .mv (.t 5), none, []⟩, ⟨some 14, .idxAddr 2 (.t 12) (.t 13), none, []⟩, ⟨some 15, .load 2 true (.t 14), none, []⟩, ⟨some 16, .callv (.t 11) [.t 15], none, []⟩]).seq (ACode.cond (.t 16) ((ACode.region false [⟨some 17, .mv (.t 5), none, []⟩, ⟨some 4, .mv (.t 17), none, []⟩]).seq ACode.ret) ACode.skip)))).seq (ACode.region false [⟨some 18, .bin .add (.t 8) (.c (.int .i64 (1))), none, []⟩, ⟨some 8, .mv (.t 18), none, []⟩])))).loop)).seq ((ACode.region false [⟨some 4, .mv (.c (.int .i64 (Int.negSucc 0))), none, []⟩]).seq ACode.ret)))
theorem Tryz.F80 : FnFacts Tryz.prog 80 Tryz.f80 Tryz.ac80 19 [.tmp 4] := ⟨Tryz.func80, by kernel_rfl, by kernel_rfl, by kernel_rfl, by kernel_rfl, by kernel_rfl, by kernel_rfl, by kernel_rfl⟩
def Tryz.ac81 : ACode := ((ACode.region false [⟨some 2, .box 2 (.t 0), none, []⟩, ⟨some 3, .box 5 (.t 1), none, []⟩, ⟨some 4, .alloc [.int .i64 (0), .int .i64 (0)], none, []⟩]).seq (((ACode.region false [⟨some 6, .fieldAddr 4 (.t 3), none, []⟩, ⟨some 7, .load 1 false (.t 6), none, []⟩]).seq (ACode.cond (.t 7) (ACode.region false [⟨some 8, .fieldAddr 0 (.t 2), none, []⟩, ⟨some 9, .load 1 false (.t 8), none, []⟩, ⟨some 10, .un .neg (.t 9), none, []⟩, ⟨some 11, .fieldAddr 0 (.t 2), none, []⟩, ⟨none, .store 1 (.t 11) (.t 10), none, []⟩]) ACode.skip)).seq (((ACode.region false [⟨some 5, .mv (.c (.int .i64 (0))), none, []⟩]).seq (ACode.block 0 (((ACode.region false [⟨some 12, .mv (.t 5), none, []⟩, ⟨some 13, .fieldAddr 3 (.t 3), none, []⟩, ⟨some 14, .load 1 false (.t 13), none, []⟩, ⟨some 15, .bin .lss (.t 12) (.t 14), none, []⟩]).seq (ACode.cond (.t 15) ACode.skip (ACode.exit 0))).seq ((ACode.block 1 (ACode.region false [⟨some 18, .fieldAddr 1 (.t 2), none, []⟩, ⟨some 19, .load 1 false (.t 18), none, []⟩, ⟨some 20, .un .neg (.t 19), none, []⟩, ⟨some 21, .fieldAddr 0 (.t 2), none, []⟩, ⟨some 22, .load 1 false (.t 21), none, []⟩, ⟨some 23, .build [.int .i64 (0), .int .i64 (0)] [(0, 1, .t 20), (1, 1, .t 22)], none, []⟩, ⟨none, .store 2 (.t 2) (.t 23), none, []⟩])).seq (ACode.region false [⟨some 16, .mv (.t 5), none, []⟩, ⟨some 17, .bin .add (.t 16) (.c (.int .i64 (1))), none, []⟩, ⟨some 5, .mv (.t 17), none, []⟩]))).loop)).seq ((ACode.region false [⟨some 24, .fieldAddr 0 (.t 2), none, []⟩, ⟨some 25, .load 1 false (.t 24), none, []⟩, ⟨some 26, .fieldAddr 1 (.t 3), none, []⟩, ⟨some 27, .fieldAddr 0 (.t 26), none, []⟩, ⟨some 28, .load 1 false (.t 27), none, []⟩, ⟨some 29, .bin .add (.t 25) (.t 28), none, []⟩, ⟨some 30, .fieldAddr 1 (.t 2), none, []⟩, ⟨some 31, .load 1 false (.t 30), none, []⟩, ⟨some 32, .fieldAddr 1 (.t 3), none, []⟩, ⟨some 33, .fieldAddr 1 (.t 32), none, []⟩, ⟨some 34, .load 1 false (.t 33), none, []⟩, ⟨some 35, .bin .add (.t 31) (.t 34), none, []⟩, ⟨some 36, .build [.int .i64 (0), .int .i64 (0)] [(0, 1, .t 29), (1, 1, .t 35)], none, []⟩, ⟨none, .store 2 (.t 4) (.t 36), none, []⟩]).seq ACode.ret))))
theorem Tryz.F81 : FnFacts Tryz.prog 81 Tryz.f81 Tryz.ac81 37 [.cell 4 52] := ⟨Tryz.func81, by kernel_rfl, by kernel_rfl, by kernel_rfl, by kernel_rfl, by kernel_rfl, by kernel_rfl, by kernel_rfl⟩
def Tryz.ac82 : ACode := ((ACode.region false [⟨some 4, .mv (.c (.bool false)), none, []⟩]).seq ((ACode.region false [⟨some 5, .mv (.t 0), none, []⟩, ⟨some 6, .mv (.t 1), none, []⟩, ⟨some 7, .bin .geq (.t 5) (.t 6), none, []⟩, ⟨some 8, .mv (.t 7), none, []⟩, ⟨some 9, .mv (.t 0), some (8, true), []⟩, ⟨some 10, .bin .leq (.t 9) (.c (.int .i64 (32768))), some (8, true), []⟩, ⟨some 11, .pick (.t 8) (.t 10) (.c (.bool false)), none, []⟩, ⟨some 4, .mv (.t 11), none, []⟩]).seq ACode.ret))
theorem Tryz.F82 : FnFacts Tryz.prog 82 Tryz.f82 Tryz.ac82 12 [.tmp 4] := ⟨Tryz.func82, by kernel_rfl, by kernel_rfl, by kernel_rfl, by kernel_rfl, by kernel_rfl, by kernel_rfl, by kernel_rfl⟩
end Go.Proofs
end
section
set_option linter.unusedVariables false
set_option linter.unusedSimpArgs false
namespace Go.Ab

@[go_sem] theorem range_s (nm : Nat) (s : ByteArray) : effRange nm (.v (.string s)) = ⟨True, .bp nm 0, [(nm, some (.iter s 0))], []⟩ := rfl
def nextO (b : Nat) : Option Blk → Eff
  | some (.iter s pos) => ⟨True, nextV s pos, [(b, some (.iter s (nextPos s pos)))], [b]⟩
  | _ => .fail
@[go_sem] theorem next_bp (h : Nat → Option Blk) (b : Nat) : effNext h (.bp b 0) = nextO b (h b) := by
  simp only [effNext]; unfold nextO; cases h b with
  | none => rfl
  | some y => cases y <;> rfl
@[go_sem] theorem nextO_iter (b : Nat) (s : ByteArray) (pos : Nat) : nextO b (some (.iter s pos)) = ⟨True, nextV s pos, [(b, some (.iter s (nextPos s pos)))], [b]⟩ := rfl
theorem callP_nil {P : Program} {f : FuncId} {S : AState} {nm : Nat} {lv : List AV} {K : AV → Prop} {r : AV} (h : Pure P f lv r) (hk : K r) : CallP P f S nm lv [] K := ⟨r, h, by simp, .inl rfl, hk⟩
theorem callP_dry {P : Program} {f : FuncId} {S : AState} {nm : Nat} {lv : List AV} {names : List Nat} {K : AV → Prop} {r : AV} (h : Pure P f lv r) (hn : nm ∉ names) (hd : Dry r) (hk : K r) : CallP P f S nm lv names K := ⟨r, h, hn, .inr hd, hk⟩
@[go_sem] theorem flat_v (x : Value) : (AV.v x).flat = true := rfl
@[go_sem] theorem flat_nils : AV.nils.flat = true := rfl
@[go_sem] theorem flat_sl (es : List (List AV)) : (AV.sl es).flat = true := rfl
@[go_sem] theorem flat_rp (es : List AV) : (AV.rp es).flat = true := rfl
@[go_sem] theorem all_cons {α : Type} (p : α → Prop) (x : α) (l : List α) : (∀ c ∈ x :: l, p c) = (p x ∧ ∀ c ∈ l, p c) := by simp
@[go_sem] theorem all_nil {α : Type} (p : α → Prop) : (∀ c ∈ ([] : List α), p c) = True := by simp

attribute [go_sem] Bool.true_and Bool.and_true Bool.false_and Bool.and_false Bool.true_or Bool.or_true Bool.false_or Bool.or_false List.flatMap_cons List.flatMap_nil

theorem Lower.ownE {h : Nat → Option Blk} {b : Nat} {es es' : List (List AV)} {sz : Nat} {e : TypeId} (hb : h b = some (.row es sz e)) (he : es = es') : Lower h (.own b) (.sl es') := by subst he; exact .own hb
theorem Lower.nilE {h : Nat → Option Blk} {es : List (List AV)} (he : es = []) : Lower h .nils (.sl es) := by subst he; exact .nil0
theorem Lower.slE' {h : Nat → Option Blk} {es es' : List (List AV)} (he : es = es') : Lower h (.sl es) (.sl es') := by subst he; exact .same _ rfl
theorem Lower.str {h : Nat → Option Blk} {s s' : ByteArray} (he : s = s') : Lower h (.v (.string s)) (.v (.string s')) := by subst he; exact .same _ rfl
inductive All2 (R : AV → AV → Prop) : List AV → List AV → Prop
  | nil : All2 R [] []
  | cons {x y xs ys} : R x y → All2 R xs ys → All2 R (x :: xs) (y :: ys)
theorem lowerAll_agg {h : Nat → Option Blk} {cs cs' : List AV} (p : All2 (Lower h) cs cs') : cs.length = cs'.length ∧ ∀ j, j < cs.length → Lower h (av cs j) (av cs' j) := by
  induction p with
  | nil => exact ⟨rfl, fun j hj => by simp at hj⟩
  | cons h1 _ ih =>
    refine ⟨by simp [ih.1], fun j hj => ?_⟩
    cases j with
    | zero => exact h1
    | succ j => exact ih.2 j (by simpa using hj)
theorem Lower.aggF {h : Nat → Option Blk} {cs cs' : List AV} (p : All2 (Lower h) cs cs') : Lower h (.agg cs) (.agg cs') := .agg (lowerAll_agg p).1 (lowerAll_agg p).2
theorem Lower.tupF {h : Nat → Option Blk} {cs cs' : List AV} (p : All2 (Lower h) cs cs') : Lower h (.tup cs) (.tup cs') := .tup (lowerAll_agg p).1 (lowerAll_agg p).2

/-- A value that is there only if 'b'. -/
def opt (b : Bool) (x : AV) : AV := if b then x else .tup []
@[go_sem] theorem opt_t (x : AV) : opt true x = x := rfl
@[go_sem] theorem opt_f (x : AV) : opt false x = .tup [] := rfl
@[go_sem] theorem pick_and (c p : Bool) : effPick (.v (.bool c)) (opt c (.v (.bool p))) (.v (.bool false)) = ⟨True, .v (.bool (c && p)), [], []⟩ := by cases c <;> rfl
@[go_sem] theorem pick_or (c p : Bool) : effPick (.v (.bool c)) (.v (.bool true)) (opt (!c) (.v (.bool p))) = ⟨True, .v (.bool (c || p)), [], []⟩ := by cases c <;> rfl
/-- Is it wanted? -/
def wantB (want b : Bool) : Bool := if want then b else !b
@[go_sem] theorem wantB_t (b : Bool) : wantB true b = b := rfl
@[go_sem] theorem wantB_f (b : Bool) : wantB false b = !b := rfl
def gB (want : Bool) : AV → Option Bool
  | .v (.bool b) => some (wantB want b)
  | .tup [] => some false
  | _ => none
theorem gB_v (want b : Bool) : gB want (.v (.bool b)) = some (wantB want b) := rfl
theorem gB_opt (want c b : Bool) : gB want (opt c (.v (.bool b))) = some (c && wantB want b) := by cases c <;> rfl
theorem gB_u (want : Bool) : gB want (.tup []) = some false := rfl
attribute [go_sem] gB_v gB_opt gB_u

theorem Awp.sreg {P : Program} {n bs nx nx' : Nat} {S : AState} {Q : AExit → Nat → AState → Prop} {l : List AOper} {y : ACode} (hn : nx + l.length = nx') (hk : aops P l nx S fun S' => Awp P n bs y nx' S' Q) : Awp P n bs (.seq (.region false l) y) nx S Q := by
  subst hn; exact Awp.seq_region hk
theorem Awp.sdraw {P : Program} {n bs nx nx' : Nat} {S : AState} {Q : AExit → Nat → AState → Prop} {l : List AOper} {y : ACode} (hn : nx + l.length = nx') (hk : aopsL P l nx S [] fun S' es => drawOk (l.map (·.deps)) es = true ∧ Awp P n bs y nx' S' Q) : Awp P n bs (.seq (.region true l) y) nx S Q := by
  subst hn; exact Awp.seq_draw hk
theorem Awp.reg {P : Program} {n bs nx nx' : Nat} {S : AState} {Q : AExit → Nat → AState → Prop} {l : List AOper} (hn : nx + l.length = nx') (hk : aops P l nx S fun S' => Q .normal nx' S') : Awp P n bs (.region false l) nx S Q := by
  subst hn; exact Awp.region hk

theorem BView.boxF {hd : Nat → Option Blk} {ρ : Nat → Nat} {nx : Nat} {cs : List AV} (h : cs.all AV.flat = true) : BView hd ρ nx (.box cs) (.box cs) := .box rfl fun j hj => .low (.same _ (List.all_eq_true.1 h _ (av_mem hj)))
theorem BView.rowE {hd : Nat → Option Blk} {ρ : Nat → Nat} {nx : Nat} {es es' : List (List AV)} {sz : Nat} {e : TypeId} (h : es = es') : BView hd ρ nx (.row es sz e) (.row es' sz e) := by subst h; exact .row _ _ _
@[go_sem] theorem str_empty (s : ByteArray) : (s.toList == ByteArray.toList ⟨⟨[]⟩⟩) = (s.size == 0) := by
  have h0 : ByteArray.toList ⟨⟨[]⟩⟩ = [] := by rw [ByteArray.toList_eq]
  have h1 : s.toList.length = s.size := by rw [ByteArray.toList_eq]; rfl
  rw [h0]
  cases h : s.toList with
  | nil => rw [h] at h1; simp at h1; simp [← h1]
  | cons a l => rw [h] at h1; simp at h1; simp [← h1]

theorem op_callC_of {P : Program} {o : AOper} {r : List AOper} {nm : Nat} {S : AState} {K : AState → Prop} (h : aopsC P o r nm S K) : aops P (o :: r) nm S K := h
section steps
variable {P : Program} {d : Option Nat} {op : AOp} {deps : List Nat} {r : List AOper} {nm : Nat} {t : Nat → AV} {h : Nat → Option Blk} {K : AState → Prop} {p : Prop} {v : AV} {rd : List Nat}
theorem st_u {u : Upd} (he : op.eff P nm ⟨t, h⟩ default = ⟨p, v, u, rd⟩) (hc : op.isCall = false) (hp : p) (hk : aops P r (nm + 1) ⟨putT t d v, updL h u⟩ K) : aops P (⟨d, op, none, deps⟩ :: r) nm ⟨t, h⟩ K := by
  cases hch : op.choosy
  · rw [aops_op, hch, bcase_f, he]
    exact ⟨hp, hk⟩
  · exact aops_call (P := P) default hch (by rw [he]; exact hp) (by rw [he]; exact hk)
/-- A slice literal whose row nobody writes. -/
theorem st_full {e : TypeId} {sz : Nat} {ps : List AOpd} {es : List (List AV)} (hr : rowE ⟨t, h⟩ sz ps = (p, es)) (hn : ps ≠ []) (hp : p) (hk : aops P r (nm + 1) ⟨putT t d (.slf es sz e), h⟩ K) : aops P (⟨d, .buildSlice e sz ps, none, deps⟩ :: r) nm ⟨t, h⟩ K := by
  refine aops_call (P := P) ⟨.nils, [], []⟩ rfl ?_ ?_
  · simp only [AOp.eff, pickB, hr]
    exact ⟨hn, hp⟩
  · simp only [AOp.eff, pickB, hr]
    exact hk
theorem st_a {u : Upd} {h' : Nat → Option Blk} (he : op.eff P nm ⟨t, h⟩ default = ⟨p, v, u, rd⟩) (hc : op.isCall = false) (hu : updL h u = h') (hp : p) (hk : aops P r (nm + 1) ⟨putT t d v, h'⟩ K) : aops P (⟨d, op, none, deps⟩ :: r) nm ⟨t, h⟩ K := by
  subst hu; exact st_u he hc hp hk
theorem st_nil {S : AState} (hk : K S) : aops P [] nm S K := hk
theorem st_g {q : Nat} {want b : Bool} (hv : t q = .v (.bool b)) (h1 : b = want → aops P (⟨d, op, none, deps⟩ :: r) nm ⟨t, h⟩ K) (h2 : b = (!want) → aops P r (nm + 1) ⟨putT t d (.tup []), h⟩ K) : aops P (⟨d, op, some (q, want), deps⟩ :: r) nm ⟨t, h⟩ K := by
  rw [aops_g]; show gval (t q) _ _ _; rw [hv]; exact ⟨h1, h2⟩
theorem st_m {q : Nat} {want b : Bool} (hg : gB want (t q) = some b) (he : b = true → op.eff P nm ⟨t, h⟩ default = ⟨p, v, [], rd⟩) (hc : op.isCall = false) (hp : b = true → p) (hk : aops P r (nm + 1) ⟨putT t d (opt b v), h⟩ K) : aops P (⟨d, op, some (q, want), deps⟩ :: r) nm ⟨t, h⟩ K := by
  rw [aops_g]
  show gval (t q) _ _ _
  cases hx : t q with
  | v x =>
    rw [hx] at hg
    cases x with
    | bool c =>
      simp only [gB, Option.some.injEq] at hg
      subst hg
      refine ⟨fun e => ?_, fun e => ?_⟩
      · have hb : wantB want c = true := by subst e; cases c <;> rfl
        rw [hb] at hk
        exact st_u (he hb) hc (hp hb) hk
      · have hb : wantB want c = false := by subst e; cases want <;> rfl
        rw [hb] at hk
        exact hk
    | _ => cases hg
  | tup l =>
    rw [hx] at hg
    cases l with
    | nil =>
      simp only [gB, Option.some.injEq] at hg
      subst hg
      exact hk
    | cons a l => cases hg
  | _ => rw [hx] at hg; cases hg
theorem st_c {f : FuncId} {vs lv : List AV} {x : AV} (hc : callee ⟨t, h⟩ op = some (f, vs)) (hl : lows ⟨t, h⟩ vs = lv) (hn : hls ⟨t, h⟩ vs = []) (hp : Pure P f lv x) (hk : aops P r (nm + 1) ⟨putT t d x, h⟩ K) : aops P (⟨d, op, none, deps⟩ :: r) nm ⟨t, h⟩ K :=
  aops_low hc (by rw [hl, hn]; exact callP_nil hp hk)
theorem st_mc {q : Nat} {want b : Bool} {f : FuncId} {vs lv : List AV} {x : AV} (hop : op.isCall = true) (hg : gB want (t q) = some b) (hc : b = true → callee ⟨t, h⟩ op = some (f, vs)) (hl : b = true → lows ⟨t, h⟩ vs = lv) (hn : b = true → hls ⟨t, h⟩ vs = []) (hp : b = true → Pure P f lv x) (hk : aops P r (nm + 1) ⟨putT t d (opt b x), h⟩ K) : aops P (⟨d, op, some (q, want), deps⟩ :: r) nm ⟨t, h⟩ K := by
  rw [aops_g]
  show gval (t q) _ _ _
  cases hx : t q with
  | v x =>
    rw [hx] at hg
    cases x with
    | bool c =>
      simp only [gB, Option.some.injEq] at hg
      subst hg
      refine ⟨fun e => ?_, fun e => ?_⟩
      · have hb : wantB want c = true := by subst e; cases c <;> rfl
        rw [hb] at hk
        exact st_c (hc hb) (hl hb) (hn hb) (hp hb) hk
      · have hb : wantB want c = false := by subst e; cases want <;> rfl
        rw [hb] at hk
        exact hk
    | _ => cases hg
  | tup l =>
    rw [hx] at hg
    cases l with
    | nil =>
      simp only [gB, Option.some.injEq] at hg
      subst hg
      exact hk
    | cons a l => cases hg
  | _ => rw [hx] at hg; cases hg
theorem st_cc {f : FuncId} {vs : List AV} {x : AV} {hl : List (Nat × Blk)} {u : Upd} {h' : Nat → Option Blk} (hc : callee ⟨t, h⟩ op = some (f, vs)) (hcc : CallC P f vs hl nm x u) (hh : ∀ p ∈ hl, h p.1 = some p.2) (hu : ∀ p ∈ u, p.1 = nm ∨ p.1 ∈ hl.map (·.1)) (hm : nm ∉ hl.map (·.1)) (hw : updL h u = h') (hk : aops P r (nm + 1) ⟨putT t d x, h'⟩ K) : aops P (⟨d, op, none, deps⟩ :: r) nm ⟨t, h⟩ K := by
  subst hw
  obtain ⟨e1, e2⟩ := eff_callee (P := P) (nm := nm) (an := ⟨x, u, hl⟩) hc
  exact op_callC_of (aops_call ⟨x, u, hl⟩ (choosy_of_call e2) (by rw [e1]; exact ⟨hh, hu, hm, hcc⟩) (by rw [e1]; exact hk))
theorem st_cd {f : FuncId} {vs lv : List AV} {ns : List (Nat × Blk)} {x : AV} (hc : callee ⟨t, h⟩ op = some (f, vs)) (hl : lows ⟨t, h⟩ vs = lv) (hn : hls ⟨t, h⟩ vs = ns) (hp : Pure P f lv x) (hd : Dry x) (hm : nm ∉ ns.map (·.1)) (hk : aops P r (nm + 1) ⟨putT t d x, h⟩ K) : aops P (⟨d, op, none, deps⟩ :: r) nm ⟨t, h⟩ K :=
  aops_low hc (by rw [hl, hn]; exact callP_dry hp hm hd hk)
variable {KL : AState → List Ent → Prop} {es : List Ent}
theorem sl_u {u : Upd} (he : op.eff P nm ⟨t, h⟩ default = ⟨p, v, u, rd⟩) (hc : op.isCall = false) (hp : p) (hk : aopsL P r (nm + 1) ⟨putT t d v, updL h u⟩ (es ++ [⟨op.temps, rd, d, u.map (·.1)⟩]) KL) : aopsL P (⟨d, op, none, deps⟩ :: r) nm ⟨t, h⟩ es KL := by
  cases hch : op.choosy
  · rw [aopsL_op, hch, bcase_f, he]
    exact ⟨hp, hk⟩
  · exact aopsL_call (P := P) default hch (by rw [he]; exact hp) (by rw [he]; exact hk)
theorem sl_a {u : Upd} {h' : Nat → Option Blk} {l : List Nat} (he : op.eff P nm ⟨t, h⟩ default = ⟨p, v, u, rd⟩) (hc : op.isCall = false) (hu : updL h u = h') (hl : u.map (·.1) = l) (hp : p) (hk : aopsL P r (nm + 1) ⟨putT t d v, h'⟩ (es ++ [⟨op.temps, rd, d, l⟩]) KL) : aopsL P (⟨d, op, none, deps⟩ :: r) nm ⟨t, h⟩ es KL := by
  subst hu; subst hl; exact sl_u he hc hp hk
theorem sl_nil {S : AState} (hk : KL S es) : aopsL P [] nm S es KL := hk
theorem sl_g {q : Nat} {want b : Bool} (hb : op.isCall = false) (hv : t q = .v (.bool b)) {u : Upd} (he : b = want → op.eff P nm ⟨t, h⟩ default = ⟨p, v, u, rd⟩) (hp : b = want → p) (h1 : b = want → aopsL P r (nm + 1) ⟨putT t d v, updL h u⟩ (es ++ [⟨q :: op.temps, rd, d, u.map (·.1)⟩]) KL) (h2 : b = (!want) → aopsL P r (nm + 1) ⟨putT t d (.tup []), h⟩ (es ++ [⟨[q], [], d, []⟩]) KL) : aopsL P (⟨d, op, some (q, want), deps⟩ :: r) nm ⟨t, h⟩ es KL := by
  cases hch : op.choosy
  · rw [aopsL_g, hch, bcase_f]; show gval (t q) _ _ _; rw [hv]
    exact ⟨fun e => by rw [he e]; exact ⟨hp e, h1 e⟩, h2⟩
  · refine aopsL_callg (P := P) hch ?_
    show gval (t q) _ _ _
    rw [hv]
    exact ⟨fun e => ⟨default, by rw [he e]; exact hp e, by rw [he e]; exact h1 e⟩, h2⟩
theorem sl_gy {q : Nat} {want : Bool} (hb : op.isCall = false) (hv : t q = .v (.bool want)) {u : Upd} (he : op.eff P nm ⟨t, h⟩ default = ⟨p, v, u, rd⟩) (hp : p) (h1 : aopsL P r (nm + 1) ⟨putT t d v, updL h u⟩ (es ++ [⟨q :: op.temps, rd, d, u.map (·.1)⟩]) KL) : aopsL P (⟨d, op, some (q, want), deps⟩ :: r) nm ⟨t, h⟩ es KL :=
  sl_g hb hv (fun _ => he) (fun _ => hp) (fun _ => h1) (fun e => by cases want <;> cases e)
theorem sl_ga {q : Nat} {want : Bool} {h' : Nat → Option Blk} {l : List Nat} (hb : op.isCall = false) (hv : t q = .v (.bool want)) {u : Upd} (he : op.eff P nm ⟨t, h⟩ default = ⟨p, v, u, rd⟩) (hu : updL h u = h') (hl : u.map (·.1) = l) (hp : p) (h1 : aopsL P r (nm + 1) ⟨putT t d v, h'⟩ (es ++ [⟨q :: op.temps, rd, d, l⟩]) KL) : aopsL P (⟨d, op, some (q, want), deps⟩ :: r) nm ⟨t, h⟩ es KL := by
  subst hu; subst hl; exact sl_gy hb hv he hp h1
theorem sl_c {f : FuncId} {vs lv : List AV} {x : AV} {ns : List (Nat × Blk)} (hc : callee ⟨t, h⟩ op = some (f, vs)) (hl : lows ⟨t, h⟩ vs = lv) (hn : hls ⟨t, h⟩ vs = ns) (hp : Pure P f lv x) (hd : ns = [] ∨ Dry x) (hm : nm ∉ ns.map (·.1)) (hk : aopsL P r (nm + 1) ⟨putT t d x, h⟩ (es ++ [⟨op.temps, ns.map (·.1), d, []⟩]) KL) : aopsL P (⟨d, op, none, deps⟩ :: r) nm ⟨t, h⟩ es KL :=
  aopsL_low hc (by rw [hl, hn]; exact ⟨x, hp, hm, hd.imp (fun e => by rw [e]; rfl) id, hk⟩)
theorem sl_cg {q : Nat} {want : Bool} {f : FuncId} {vs lv : List AV} {x : AV} {ns : List (Nat × Blk)} (hop : op.isCall = true) (hv : t q = .v (.bool want)) (hc : callee ⟨t, h⟩ op = some (f, vs)) (hl : lows ⟨t, h⟩ vs = lv) (hn : hls ⟨t, h⟩ vs = ns) (hp : Pure P f lv x) (hd : ns = [] ∨ Dry x) (hm : nm ∉ ns.map (·.1)) (hk : aopsL P r (nm + 1) ⟨putT t d x, h⟩ (es ++ [⟨q :: op.temps, ns.map (·.1), d, []⟩]) KL) : aopsL P (⟨d, op, some (q, want), deps⟩ :: r) nm ⟨t, h⟩ es KL :=
  aopsL_lowG hop hv (fun _ => ⟨f, vs, hc, by rw [hl, hn]; exact ⟨x, hp, hm, hd.imp (fun e => by rw [e]; rfl) id, hk⟩⟩) (fun e => by cases want <;> cases e)
end steps
end Go.Ab
end
section
set_option linter.unusedVariables false
set_option linter.unusedSimpArgs false
attribute [go_sem] Nat.reduceAdd Nat.reduceEqDiff Nat.reduceMul Nat.reduceLeDiff Nat.reduceLT Nat.reduceSub reduceIte reduceCtorEq Nat.reduceBEq Nat.reduceBNe Int.reduceToNat Int.reduceLT Int.reduceLE Int.reduceEq Int.reduceNe Int.reduceBEq Int.reduceBNe Int.reduceAdd Int.reduceSub Int.reduceNeg decide_true decide_false Bool.not_true Bool.not_false
namespace Go.Ab
@[go_sem] theorem eqAgg_a (neg : Bool) (ks : List Nat) (x y : List AV) : effEqAgg neg ks (.agg x) (.agg y) = ⟨(eqCells ks x y).1, .v (.bool (neg ^^ (eqCells ks x y).2)), [], []⟩ := rfl
@[go_sem] theorem eqCells_nil : eqCells [] [] [] = (True, true) := rfl
@[go_sem] theorem eqCells_cons (k : Nat) (ks : List Nat) (a b : AV) (x y : List AV) : eqCells (k :: ks) (a :: x) (b :: y) = ((eqCell k a b).1 ∧ (eqCells ks x y).1, (eqCell k a b).2 && (eqCells ks x y).2) := rfl
@[go_sem] theorem eqCell_i (k k' : IntKind) (a b : Int) : eqCell 0 (.v (.int k a)) (.v (.int k' b)) = (k = k', a == b) := rfl
@[go_sem] theorem eqCell_b (a b : Bool) : eqCell 1 (.v (.bool a)) (.v (.bool b)) = (True, a == b) := rfl
@[go_sem] theorem eqCell_s (a b : ByteArray) : eqCell 2 (.v (.string a)) (.v (.string b)) = (True, a.toList == b.toList) := rfl
@[go_sem] theorem idxPtr_bp (len sz b o : Nat) (k : IntKind) (n : Int) : effIdxPtr len sz (.v (.int k n)) (.bp b o) = ⟨0 ≤ n ∧ n < len, .bp b (o + n.toNat * sz), [], []⟩ := rfl
@[go_sem] theorem idxPtr_rp (len sz : Nat) (cs : List AV) (k : IntKind) (n : Int) : effIdxPtr len sz (.v (.int k n)) (.rp cs) = ⟨0 ≤ n ∧ n < len ∧ n.toNat * sz < cs.length, .rp (cs.drop (n.toNat * sz)), [], []⟩ := rfl
end Go.Ab
example : (if 2 + 3 = 5 then 1 else 2) = 1 := by simp only [go_sem]
end
section
set_option linter.unusedVariables false
set_option linter.unusedSimpArgs false
namespace Go.Proofs
open Go Go.Ab
set_option maxHeartbeats 1000000
set_option maxRecDepth 100000
attribute [local irreducible] Awp aops aopsL Go.Ab.Pure PureOwn
def ints (l : List Int) : List (List AV) := l.map fun n => [.v (.int .i64 n)]
theorem ints_len (l : List Int) : (ints l).length = l.length := by simp [ints]
attribute [go_sem] ints_len
@[go_sem] theorem ints_at (l : List Int) (i : Nat) (h : i < l.length) : (ints l).getD i [] = [.v (.int .i64 (l.getD i 0))] := by
  simp [ints, List.getD_eq_getElem?_getD, h]
@[go_sem] theorem neg1 : Int.negSucc 0 = -1 := rfl
end Go.Proofs
end
section
set_option linter.unusedVariables false
set_option linter.unusedSimpArgs false
namespace Go.Ab

def bitsOf (acc : List Nat) : List Nat → Nat
  | [] => 0
  | j :: r => 2 ^ j ||| acc.getD j 0 ||| bitsOf acc r
def masks : List (List Nat) → List Nat → List Nat
  | [], acc => acc
  | d :: r, acc => masks r (acc ++ [bitsOf acc d])
def chk (e : Ent) (m : Nat) : List Ent → Nat → Bool
  | [], _ => true
  | x :: r, j => (m.testBit j || freeE x e) && chk e m r (j + 1)
def chkAll : List Ent → List Ent → List Nat → Bool
  | _, [], _ => true
  | pre, e :: r, m :: ms => chk e m pre 0 && chkAll (pre ++ [e]) r ms
  | _, _ :: _, [] => false
def drawOk' (deps : List (List Nat)) (es : List Ent) : Bool := depsLow deps 0 && chkAll [] es (masks deps [])

theorem bitsOf_spec {acc : List Nat} {accL : List (List Nat)} (h : ∀ i j, (acc.getD i 0).testBit j = true → j ∈ accL.getD i []) : ∀ (d : List Nat) (j : Nat), (bitsOf acc d).testBit j = true → j ∈ d ++ d.flatMap fun k => accL.getD k []
  | [], j, hj => by simp [bitsOf] at hj
  | k :: r, j, hj => by
    simp only [bitsOf, Nat.testBit_or, Bool.or_eq_true] at hj
    simp only [List.mem_append, List.mem_cons, List.flatMap_cons]
    rcases hj with (hj | hj) | hj
    · rw [Nat.testBit_two_pow] at hj
      exact .inl (.inl (by simpa using (of_decide_eq_true hj).symm))
    · exact .inr (.inl (h k j hj))
    · rcases List.mem_append.1 (bitsOf_spec h r j hj) with h1 | h1
      · exact .inl (.inr h1)
      · exact .inr (.inr h1)

theorem masks_spec : ∀ (deps : List (List Nat)) (acc : List Nat) (accL : List (List Nat)), acc.length = accL.length → (∀ i j, (acc.getD i 0).testBit j = true → j ∈ accL.getD i []) →
    ∀ i j, ((masks deps acc).getD i 0).testBit j = true → j ∈ (befs deps accL).getD i []
  | [], _, _, _, h => h
  | d :: r, acc, accL, hl, h => by
    refine masks_spec r _ _ (by simp [hl]) fun i j hj => ?_
    simp only [List.getD_eq_getElem?_getD] at hj ⊢
    by_cases hi : i < acc.length
    · rw [List.getElem?_append_left hi] at hj
      rw [List.getElem?_append_left (by omega)]
      have := h i j (by simpa [List.getD_eq_getElem?_getD] using hj)
      simpa [List.getD_eq_getElem?_getD] using this
    · by_cases e : i = acc.length
      · subst e
        simp only [List.getElem?_append_right (Nat.le_refl _), Nat.sub_self, List.getElem?_cons_zero, Option.getD_some] at hj
        rw [hl, List.getElem?_append_right (Nat.le_refl _)]
        simp only [Nat.sub_self, List.getElem?_cons_zero, Option.getD_some]
        have := bitsOf_spec h d j hj
        simpa [List.getD_eq_getElem?_getD] using this
      · rw [List.getElem?_eq_none (by simp; omega)] at hj
        simp at hj

theorem chk_spec {e : Ent} {m : Nat} : ∀ (pre : List Ent) (o : Nat), chk e m pre o = true → ∀ j, j < pre.length → (m.testBit (o + j) || freeE (pre.getD j default) e) = true
  | x :: r, o, h, j, hj => by
    simp only [chk, Bool.and_eq_true] at h
    match j with
    | 0 => exact h.1
    | j + 1 =>
      have := chk_spec r (o + 1) h.2 j (by simpa using hj)
      rwa [show o + 1 + j = o + (j + 1) by omega] at this

theorem chkAll_spec : ∀ (es pre : List Ent) (ms : List Nat), chkAll pre es ms = true → ∀ i, i < es.length → ∀ j, j < pre.length + i →
    ((ms.getD i 0).testBit j || freeE ((pre ++ es).getD j default) (es.getD i default)) = true
  | e :: r, pre, m :: ms, h, i, hi, j, hj => by
    simp only [chkAll, Bool.and_eq_true] at h
    match i with
    | 0 =>
      have := chk_spec pre 0 h.1 j (by omega)
      rw [Nat.zero_add] at this
      have e1 : (pre ++ e :: r).getD j default = pre.getD j default := by
        simp only [List.getD_eq_getElem?_getD]; rw [List.getElem?_append_left (by omega)]
      rw [e1]
      exact this
    | i + 1 =>
      have := chkAll_spec r (pre ++ [e]) ms h.2 i (by simpa using hi) j (by simp; omega)
      rw [List.append_assoc] at this
      exact this
  | _ :: _, _, [], h, _, _, _, _ => by simp [chkAll] at h

theorem drawOk_of {deps : List (List Nat)} {es : List Ent} (h : drawOk' deps es = true) : drawOk deps es = true := by
  simp only [drawOk', Bool.and_eq_true] at h
  simp only [drawOk, Bool.and_eq_true, List.all_eq_true, List.mem_range]
  refine ⟨h.1, fun i hi j hj => ?_⟩
  have h1 := chkAll_spec es [] _ h.2 i hi j (by simpa using hj)
  rw [List.nil_append] at h1
  rcases Bool.or_eq_true_iff.1 h1 with h2 | h2
  · have := masks_spec deps [] [] rfl (fun i j h => by simp at h) i j h2
    rw [Bool.or_eq_true]
    exact .inl (by simpa using this)
  · rw [Bool.or_eq_true]; exact .inr h2
end Go.Ab
end
section
set_option linter.unusedVariables false
set_option linter.unusedSimpArgs false
namespace Go.Ab

inductive CView (ns : List Nat) (ρ : Nat → Nat) : AV → AV → Prop
  | low {x y} (h : Lower (fun _ => none) x y) : CView ns ρ x y
  | agg {cs cs'} (hl : cs.length = cs'.length) (hr : ∀ j, j < cs.length → CView ns ρ (av cs j) (av cs' j)) : CView ns ρ (.agg cs) (.agg cs')
  | tup {cs cs'} (hl : cs.length = cs'.length) (hr : ∀ j, j < cs.length → CView ns ρ (av cs j) (av cs' j)) : CView ns ρ (.tup cs) (.tup cs')
  | fn {f cs cs'} (hl : cs.length = cs'.length) (hr : ∀ j, j < cs.length → CView ns ρ (av cs j) (av cs' j)) : CView ns ρ (.fn f cs) (.fn f cs')
  | own {b n} (hb : ρ n = b) (hn : n ∈ ns) : CView ns ρ (.own b) (.own n)
  | pre {b n k} (hb : ρ n = b) (hn : n ∈ ns) : CView ns ρ (.pre b k) (.pre n k)
  | bp {b n o} (hb : ρ n = b) (hn : n ∈ ns) : CView ns ρ (.bp b o) (.bp n o)
  | ep {b n sz i o} (hb : ρ n = b) (hn : n ∈ ns) : CView ns ρ (.ep b sz i o) (.ep n sz i o)
  | mapv {b n} (hb : ρ n = b) (hn : n ∈ ns) : CView ns ρ (.mapv b) (.mapv n)

inductive CBView (ns : List Nat) (ρ : Nat → Nat) : Blk → Blk → Prop
  | box {cs cs'} (hl : cs.length = cs'.length) (hr : ∀ j, j < cs.length → CView ns ρ (av cs j) (av cs' j)) : CBView ns ρ (.box cs) (.box cs')
  | row {es es' sz e} (h : es = es') : CBView ns ρ (.row es sz e) (.row es' sz e)
  | iter (s pos) : CBView ns ρ (.iter s pos) (.iter s pos)
  | map {ks vs ks' vs'} (h : ks = ks') (h' : vs = vs') : CBView ns ρ (.map ks vs) (.map ks' vs')

theorem CView.sound {st st' : Nat → Prop} {β β' : Nat → Value} {w : World} {ns : List Nat} {ρ : Nat → Nat} (hst : ∀ g, st g → st' g) (hn : ∀ n, n ∈ ns → β' n = β (ρ n)) {x y : AV}
    (p : CView ns ρ x y) : ∀ {c}, SimV st β w x c → SimV st' β' w y c := by
  induction p with
  | low h => exact fun s => .pure (h.sound (β := β) (st := st) (fun n b hb => by simp at hb) hst (fun n b g hb => by simp at hb) s)
  | agg hlen hr ih =>
    intro c s
    obtain ⟨xs, rfl, h1, h2, h3⟩ := s.agg_inv
    exact .agg _ xs (by omega) h2 fun j hj => ih j (by omega) (h3 j (by omega))
  | tup hlen hr ih =>
    intro c s
    obtain ⟨xs, rfl, h1, h3⟩ := s.tup_inv
    exact .tup _ xs (by omega) fun j hj => ih j (by omega) (h3 j (by omega))
  | fn hlen hr ih =>
    intro c s
    obtain ⟨xs, rfl, h1, h3⟩ := s.fn_inv
    exact .fn _ _ xs (by omega) fun j hj => ih j (by omega) (h3 j (by omega))
  | @own b n hbn hm =>
    intro c s
    obtain ⟨h1, a, m, cap, rfl⟩ := s.own_inv
    exact .own n (by rw [hn n hm, hbn]; exact h1.symm)
  | @pre b n k hbn hm =>
    intro c s
    obtain ⟨a, m, cap, cap', h1, rfl, h2, h3⟩ := s.pre_inv
    exact .pre n k (by rw [hn n hm, hbn]; exact h1) h2 h3
  | @bp b n o hbn hm =>
    intro c s
    obtain ⟨g, h1, rfl⟩ := s.bp_inv
    exact .bp n o (by rw [hn n hm, hbn]; exact h1)
  | @ep b n sz i o hbn hm =>
    intro c s
    obtain ⟨g, m, cap, h1, rfl⟩ := s.ep_inv
    exact .ep n sz i o (by rw [hn n hm, hbn]; exact h1)
  | @mapv b n hbn hm =>
    intro c s
    obtain ⟨g, h1, rfl⟩ := s.mapv_inv
    exact .mapv n (by rw [hn n hm, hbn]; exact h1)

theorem CBView.sound {st st' : Nat → Prop} {β β' : Nat → Value} {w : World} {ns : List Nat} {ρ : Nat → Nat} (hst : ∀ g, st g → st' g) (hn : ∀ n, n ∈ ns → β' n = β (ρ n)) {x y : Blk}
    (p : CBView ns ρ x y) {c : Value} (s : BlkRep st β w x c) : BlkRep st' β' w y c := by
  cases p with
  | box hl hv =>
    obtain ⟨g, ty, xs, f1, f2, f3, f4, f5⟩ := s
    exact ⟨g, ty, xs, f1, f2, by omega, f4, fun j hj => (hv j (by omega)).sound hst hn (f5 j (by omega))⟩
  | row e =>
    subst e
    obtain ⟨xs, f1, f2, f3, f4, f5⟩ := s
    exact ⟨xs, f1, f2, f3, f4, fun i j hi hj => (f5 i j hi hj).mono fun g hg => ⟨hst g hg, rfl⟩⟩
  | iter q p => exact s
  | map e e' =>
    subst e; subst e'
    obtain ⟨g, f, f1, f2, f3, f4⟩ := s
    exact ⟨g, f, f1, f2, f3, fun i hi => (f4 i hi).mono fun g hg => ⟨hst g hg, rfl⟩⟩

def rn (nm m k : Nat) : Nat := if k = nm then m else k

theorem updL_none {α : Type} {f : Nat → Option α} : ∀ {u : List (Nat × Option α)} {k : Nat} {b : α}, updL f u k = some b → (∃ b', f k = some b') ∨ k ∈ u.map (·.1)
  | [], _, b, h => .inl ⟨b, h⟩
  | (i, x) :: u, k, b, h => by
    rcases updL_none (u := u) h with ⟨b', hb⟩ | h'
    · by_cases e : k = i
      · exact .inr (by simp [e])
      · simp only [upd, if_neg e] at hb; exact .inl ⟨b', hb⟩
    · exact .inr (by simp [h'])

theorem BlkRep.ne {st : Nat → Prop} {β : Nat → Value} {w : World} {b : Blk} {c : Value} (h : BlkRep st β w b c) : c ≠ undef := by
  cases b with
  | box cs => obtain ⟨g, ty, xs, rfl, _⟩ := h; simp [undef]
  | row es sz e =>
    obtain ⟨xs, _, _, hr, _⟩ := h
    rcases hr with ⟨a, rfl, _⟩ | ⟨g', cap, rfl, _⟩ <;> simp [undef]
  | iter s pos => obtain ⟨g, rfl, _⟩ := h; simp [undef]
  | rowX es sz e =>
    obtain ⟨xs, _, _, hr, _⟩ := h
    rcases hr with ⟨a, rfl, _⟩ | ⟨g', cap, rfl, _⟩ <;> simp [undef]
  | map ks vs => obtain ⟨g, f, rfl, _⟩ := h; simp [undef]

variable {P : Program} {f : FuncId} {fn : Func} {ac : ACode} {n : Nat} {rs : List ResultVar} {args : List AV}

theorem fn_cc (F : FnFacts P f fn ac n rs) (hn : args.length ≤ n) {hl : List (Nat × Blk)} {ups : Upd} {nm bs : Nat} {r : AV} (hlb : ∀ p ∈ hl, p.1 < bs) (hnm : nm ∉ hl.map (·.1))
    (hu : ∀ p ∈ ups, p.1 = nm ∨ p.1 ∈ hl.map (·.1)) (hall : ∀ p ∈ hl, p.1 ∈ ups.map (·.1)) (hbx : ∀ p ∈ hl, CBView (hl.map (·.1)) id p.2 p.2) (ha : ∀ j, j < args.length → CView (hl.map (·.1)) id (av args j) (av args j))
    (h : Awp P n bs ac bs ⟨fun t => av args t, listH hl⟩ fun e _ S => (e = .normal ∨ e = .ret) ∧ resSide P S rs ∧ ∃ m, bs ≤ m ∧
      CView (nm :: hl.map (·.1)) (rn nm m) (resV (resVals P S rs)) r ∧ ∀ k b', updL (listH hl) ups k = some b' → ∃ blk, S.h (rn nm m k) = some blk ∧ CBView (nm :: hl.map (·.1)) (rn nm m) blk b') :
    CallC P f args hl nm r ups := by
  obtain ⟨code, hbody, hcomp⟩ := F.code
  refine ⟨F.callable, fun prov β w cs hβ hb hinj hv => ?_⟩
  refine calls_of_wp F.at_ hbody ?_
  rw [F.nt]
  have hmem : ∀ k b, listH hl k = some b → k ∈ hl.map (·.1) := fun k b hk => List.mem_map.2 ⟨_, listH_mem hk, rfl⟩
  have hmem' : ∀ k, k ∈ hl.map (·.1) → k < bs := fun k hk => by obtain ⟨p, hp, rfl⟩ := List.mem_map.1 hk; exact hlb p hp
  have hdef : ∀ k, k ∈ hl.map (·.1) → β k ≠ undef := fun k hk => by
    have : ∃ b, listH hl k = some b := by
      clear hb hinj hv h ha hbx hall hu hnm hlb hmem hmem'
      induction hl with
      | nil => simp at hk
      | cons p hl ih =>
        simp only [listH]
        by_cases e : k = p.1
        · exact ⟨p.2, by rw [if_pos e]⟩
        · rw [if_neg e]; exact ih (by simpa [e] using hk)
    obtain ⟨b, hkb⟩ := this
    exact (hb k b hkb).ne
  let β0 : Nat → Value := fun k => if k ∈ hl.map (·.1) then β k else undef
  have β0_at : ∀ k, k ∈ hl.map (·.1) → β0 k = β k := fun k hk => if_pos hk
  let E : Entry := { w0 := w, β0 := β0, prov := prov, may := fun g => ∃ k b, listH hl k = some b ∧ blkOf (β k) = some g, n := n }
  have hfit : E.fits bs := ⟨fun k hk => if_neg fun h' => by have := hmem' k h'; omega, fun h0 g ⟨k, b, hk, _⟩ => by have := hmem' k (hmem k b hk); omega⟩
  have hst0 : ∀ g, stb prov w β (listH hl) g → E.st w β0 (listH hl) g := fun g ⟨h1, h2, h3⟩ => ⟨h1, .inl h2, fun k b hk => by rw [β0_at k (hmem k b hk)]; exact h3 k b hk⟩
  have s0 : Sim E (fun k => bs ≤ k) ⟨fun t => av args t, listH hl⟩ β0 { tmps := cs.toArray ++ Array.replicate (n - cs.toArray.size) undef, defers := [] } w := by
    refine ⟨fun t => ?_, ?_, rfl, fun k b hk => ?_, fun k m b b' g hk hm hg hg' => ?_, fun k hk => hfit.1 k hk, fun k b g hk hg => .inl ⟨k, b, hk, ?_⟩, rfl, rfl, rfl, Nat.le_refl _, fun _ _ _ => rfl, fun _ _ => rfl⟩
    · by_cases ht : t < args.length
      · have h1 := hv.2 t ht
        have e : (cs.toArray ++ Array.replicate (n - cs.toArray.size) undef).getD t undef = cv cs t := by
          have hl : t < cs.length := by rw [← hv.1]; exact ht
          rw [Array.getD_eq_getD_getElem?, Array.getElem?_append_left (by simpa using hl)]
          simp [cv, List.getD_eq_getElem?_getD]
        show SimV _ _ _ _ ((cs.toArray ++ Array.replicate (n - cs.toArray.size) undef).getD t undef)
        rw [e]
        exact (ha t ht).sound hst0 (fun k hk => β0_at k hk) h1
      · have : av args t = .any := by simp [av, List.getD_eq_getElem?_getD, Nat.le_of_not_lt ht]
        show SimV _ _ _ (av args t) _
        rw [this]
        exact .pure (.any _)
    · have := hv.1
      simp
      show _ = n
      omega
    · have h1 := hb k b hk
      rw [β0_at k (hmem k b hk)]
      exact (hbx _ (listH_mem hk)).sound hst0 (fun k hk => β0_at k hk) h1
    · change blkOf (β0 k) = some g at hg
      change blkOf (β0 m) = some g at hg'
      rw [β0_at k (hmem k b hk)] at hg
      rw [β0_at m (hmem m b' hm)] at hg'
      exact hinj k m b b' g hk hm hg hg'
    · rw [β0_at k (hmem k b hk)] at hg; exact hg
  refine h code hcomp F.ok F.mixed E _ _ w rfl hfit s0 _ fun e nx S βs a w' ⟨he, hs, m, hm, hrv, hbs⟩ s => ?_
  obtain ⟨c, hc, hv'⟩ := results_run (f := fn) s (by rw [F.rseq]; exact F.res) (by rw [F.rseq]; exact hs)
  rw [F.rseq] at hv'
  let β2 : Nat → Value := fun k => if k = nm then βs m else β k
  have hag : ∀ k, k ∈ nm :: hl.map (·.1) → β2 k = βs (rn nm m k) := by
    intro k hk
    by_cases e : k = nm
    · simp only [β2, rn, if_pos e]
    · have hk' : k ∈ hl.map (·.1) := by simpa [e] using hk
      simp only [β2, rn, if_neg e]
      have := s.grow k (by show β0 k ≠ undef; rw [β0_at k hk']; exact hdef k hk')
      rw [this]
      exact (β0_at k hk').symm
  have hdom : ∀ k b, updL (listH hl) ups k = some b → k ∈ nm :: hl.map (·.1) := by
    intro k b hk
    rcases updL_none hk with ⟨b', hb'⟩ | h'
    · exact List.mem_cons.2 (.inr (hmem k b' hb'))
    · obtain ⟨p, hp, rfl⟩ := List.mem_map.1 h'
      rcases hu p hp with e | e
      · exact List.mem_cons.2 (.inl e)
      · exact List.mem_cons.2 (.inr e)
  have hst2 : ∀ g, E.st w' βs S.h g → stb (fun g => prov g ∨ w.heap.size ≤ g) w' β2 (updL (listH hl) ups) g := by
    intro g ⟨h1, h2, h3⟩
    refine ⟨h1, h2, fun k b hk => ?_⟩
    obtain ⟨blk, hblk, _⟩ := hbs k b hk
    rw [hag k (hdom k b hk)]
    exact h3 _ _ hblk
  have fin : a.defers = [] ∧ ∃ v, (results fn a.tmps).run P w' = .ok v w' ∧ ∃ c β', Ending.returned v = .returned c ∧ w'.os = w.os ∧ w'.tape = w.tape ∧ w'.output = w.output ∧ w.heap.size ≤ w'.heap.size ∧ Grows β β' ∧ (∀ n, n ≠ nm → β' n = β n) ∧
      (∀ g, g < w.heap.size → (∀ n b, listH hl n = some b → n ∈ ups.map (·.1) → blkOf (β n) ≠ some g) → w'.heap[g]? = w.heap[g]?) ∧
      SimV (stb (fun g => prov g ∨ w.heap.size ≤ g) w' β' (updL (listH hl) ups)) β' w' r c ∧
      (∀ n b, updL (listH hl) ups n = some b → n ∈ ups.map (·.1) → BlkRep (stb (fun g => prov g ∨ w.heap.size ≤ g) w' β' (updL (listH hl) ups)) β' w' b (β' n) ∧
        ∀ g, blkOf (β' n) = some g → w.heap.size ≤ g ∨ ∃ m b', listH hl m = some b' ∧ m ∈ ups.map (·.1) ∧ blkOf (β m) = some g) ∧
      Inj β' (updL (listH hl) ups) := by
    refine ⟨s.df, c, hc, c, β2, rfl, s.os, s.tape, s.out, s.size, fun k hk => ?_, fun k hk => if_neg hk, fun g hg hno => s.keep g hg fun ⟨k, b, hk, hg'⟩ => ?_, hrv.sound hst2 hag hv', fun k b hk hku => ?_, fun k k' b b' g hk hk' hg hg' => ?_⟩
    · by_cases e : k = nm
      · subst e; exact absurd hβ hk
      · simp only [β2, if_neg e]
    · obtain ⟨p, hp, e⟩ := List.mem_map.1 (hmem k b hk)
      exact hno k b hk (e ▸ hall p hp) hg'
    · obtain ⟨blk, hblk, hv2⟩ := hbs k b hk
      rw [hag k (hdom k b hk)]
      refine ⟨hv2.sound hst2 hag (s.bl _ _ hblk), fun g hg => ?_⟩
      rcases s.mine _ _ g hblk hg with ⟨k', b', h1, h2⟩ | h1
      · obtain ⟨p, hp, e⟩ := List.mem_map.1 (hmem k' b' h1)
        exact .inr ⟨k', b', h1, e ▸ hall p hp, h2⟩
      · exact .inl h1
    · obtain ⟨blk, hblk, _⟩ := hbs k b hk
      obtain ⟨blk', hblk', _⟩ := hbs k' b' hk'
      rw [hag k (hdom k b hk)] at hg
      rw [hag k' (hdom k' b' hk')] at hg'
      have e := s.inj _ _ _ _ g hblk hblk' hg hg'
      have h1 := hdom k b hk
      have h2 := hdom k' b' hk'
      simp only [rn] at e
      by_cases e1 : k = nm <;> by_cases e2 : k' = nm
      · rw [e1, e2]
      · rw [if_pos e1, if_neg e2] at e
        have := hmem' k' (by simpa [e2] using h2)
        omega
      · rw [if_neg e1, if_pos e2] at e
        have := hmem' k (by simpa [e1] using h1)
        omega
      · rw [if_neg e1, if_neg e2] at e; exact e
  rcases he with rfl | rfl <;> exact fin
end Go.Ab
end
section
set_option linter.unusedVariables false
set_option linter.unusedSimpArgs false
namespace Go.Ab
open Go.RowKit

end Go.Ab
end
section
set_option linter.unusedVariables false
set_option linter.unusedSimpArgs false
namespace Go.Ab
open Go
end Go.Ab
end
section
set_option linter.unusedVariables false
set_option linter.unusedSimpArgs false
namespace Go.Ab
open Go.RowKit
theorem lk_out {α : Type} {d : α} : ∀ {l : List (Nat × α)} {n : Nat}, n ∉ l.map (·.1) → lk d l n = d
  | [], _, _ => rfl
  | (k, x) :: l, n, h => by
    simp only [List.map_cons, List.mem_cons, not_or] at h
    simp only [lk]
    rw [if_neg h.1]
    exact lk_out h.2
theorem Ghost.mkB {bs nx nx' : Nat} {S : AState} {ts : List (Nat × AV)} {hs : List (Nat × Blk)} (ns : List (Nat × Nat)) (hnb : (ns.all fun p => decide (bs ≤ p.1)) = true) (hbx : bs ≤ nx')
    (hinj : (hs.all fun p => hs.all fun q => ren ns p.1 != ren ns q.1 || p.1 == q.1) = true)
    (hV : AllV S (deadH S []) (ren ns) nx' ts) (hB : AllB S (deadH S []) (ren ns) nx' hs) : Ghost bs nx S nx' (mkS ts hs) := by
  refine Ghost.view (ren ns) (deadH S []) (fun n hn => ⟨lk_out fun h => ?_, by omega⟩) (fun b blk hb => by simp [deadH] at hb) (allV_spec hV) (allB_spec hB) (fun n m b b' hb hb' he => ?_)
  · obtain ⟨p, hp, rfl⟩ := List.mem_map.1 h
    have := List.all_eq_true.1 hnb p hp
    simp only [decide_eq_true_eq] at this
    omega
  · have h1 := List.all_eq_true.1 hinj _ (listH_mem hb)
    have h2 := List.all_eq_true.1 h1 _ (listH_mem hb')
    simp only [Bool.or_eq_true, bne_iff_ne, ne_eq, beq_iff_eq] at h2
    rcases h2 with h2 | h2
    · exact absurd he h2
    · exact h2
end Go.Ab
end
section
set_option linter.unusedVariables false
set_option linter.unusedSimpArgs false
namespace Go.Ab
open Go.RowKit
section
variable {P : Program} {d : Option Nat} {op : AOp} {deps : List Nat} {r : List AOper} {nm : Nat} {t : Nat → AV} {h : Nat → Option Blk} {es : List Ent} {KL : AState → List Ent → Prop}
end
end Go.Ab
end
section
set_option linter.unusedVariables false
set_option linter.unusedSimpArgs false
namespace Go.Ab
open Go.RowKit
open Go
def PureTwo (P : Program) (f : FuncId) (args : List AV) (es : List (List AV)) (sz : Nat) (ty : TypeId) (y : Value) : Prop :=
  Callable P f ∧ ∀ (ok : Nat → Prop) (w : World) (cs : List Value), PArgs ok w args cs →
    Calls P f cs.toArray w fun e w' => ∃ c, e = .returned (.tuple #[c, y]) ∧ Keeps w w' ∧ (∃ a n cap, c = .slice a n cap) ∧ (∃ xs, RowFits (fun g => g < w'.heap.size ∧ (ok g ∨ w.heap.size ≤ g) ∧ blkOf c ≠ some g) w' es sz ty c xs) ∧ ∀ g, blkOf c = some g → w.heap.size ≤ g
section use
variable {P : Program} {f : FuncId} {args args' : List AV} {hl : List (Nat × Blk)} {nm : Nat}
end use
section fns
variable {P : Program} {f : FuncId} {fn : Func} {ac : ACode} {n : Nat} {rs : List ResultVar} {args : List AV}
end fns
end Go.Ab
end
section
set_option linter.unusedVariables false
set_option linter.unusedSimpArgs false
namespace Go.Proofs
open Go Go.Ab
set_option maxHeartbeats 4000000
set_option maxRecDepth 100000
def idxF {α : Type} (p : α → Bool) (l : List α) : Int := if l.findIdx p < l.length then (l.findIdx p : Int) else -1
theorem idxF_in {α : Type} {p : α → Bool} {l : List α} {d : α} {i : Nat} (h : i < l.length) (hp : p (l.getD i d) = true) (hj : ∀ j, j < i → p (l.getD j d) = false) : idxF p l = i := by
  have e : l.findIdx p = i := by
    rw [List.findIdx_eq h]
    refine ⟨by simpa [List.getD_eq_getElem?_getD, h] using hp, fun j hji => ?_⟩
    have := hj j hji
    have hjl : j < l.length := by omega
    simpa [List.getD_eq_getElem?_getD, hjl] using this
  unfold idxF
  rw [e, if_pos h]
theorem idxF_out {α : Type} {p : α → Bool} {l : List α} {d : α} {i : Nat} (h : l.length ≤ i) (hj : ∀ j, j < i → p (l.getD j d) = false) : idxF p l = -1 := by
  have e : l.findIdx p = l.length := by
    rw [List.findIdx_eq_length]
    intro x hx
    obtain ⟨j, hjl, rfl⟩ := List.getElem_of_mem hx
    have := hj j (by omega)
    simpa [List.getD_eq_getElem?_getD, hjl] using this
  unfold idxF
  rw [e, if_neg (by omega)]
theorem idxF_any {α : Type} (p : α → Bool) (l : List α) : decide (0 ≤ idxF p l) = l.any p := by
  unfold idxF
  by_cases h : l.findIdx p < l.length
  · rw [if_pos h]
    have h2 := List.findIdx_getElem (w := h)
    have h3 : l.any p = true := List.any_eq_true.2 ⟨_, List.getElem_mem h, h2⟩
    rw [h3, decide_eq_true_eq]
    omega
  · rw [if_neg h]
    have h3 : l.any p = false := by
      rw [Bool.eq_false_iff]
      intro h4
      obtain ⟨x, hx, hpx⟩ := List.any_eq_true.1 h4
      exact h (List.findIdx_lt_length_of_exists ⟨x, hx, hpx⟩)
    rw [h3]; rfl
theorem any_end {α : Type} {p : α → Bool} {l : List α} {d : α} {i : Nat} (h : l.length ≤ i) (hj : ∀ j, j < i → p (l.getD j d) = false) : l.any p = false := by
  rw [Bool.eq_false_iff]
  intro h2
  obtain ⟨x, hx, hpx⟩ := List.any_eq_true.1 h2
  obtain ⟨j, hjl, rfl⟩ := List.getElem_of_mem hx
  have := hj j (by omega)
  rw [List.getD_eq_getElem?_getD, List.getElem?_eq_getElem hjl, Option.getD_some, hpx] at this
  cases this
theorem any_in {α : Type} {p : α → Bool} {l : List α} {d : α} {i : Nat} (h : i < l.length) (hp : p (l.getD i d) = true) : l.any p = true := by
  refine List.any_eq_true.2 ⟨l[i], List.getElem_mem h, ?_⟩
  simpa [List.getD_eq_getElem?_getD, h] using hp
theorem ints_snoc (l : List Int) (s : Int) : ints l ++ [[.v (.int .i64 s)]] = ints (l ++ [s]) := by simp [ints]
theorem take_snoc {α : Type} (l : List α) (d : α) (i : Nat) (h : i < l.length) : l.take (i + 1) = l.take i ++ [l.getD i d] := by
  rw [List.take_add_one, List.getElem?_eq_getElem h]
  simp [List.getD_eq_getElem?_getD, h]
theorem ltSucc {P : Nat → Prop} {i : Nat} (h : ∀ j, j < i → P j) (hi : P i) : ∀ j, j < i + 1 → P j := fun j hj => by
  by_cases k : j < i
  · exact h j k
  · obtain rfl : j = i := by omega
    exact hi
def Hid (p : Prop) : Prop := p
theorem getD_get {α : Type} (l : List α) (d : α) (i : Nat) (h : i < l.length) : l.getD i d = l[i] := by
  simp [List.getD_eq_getElem?_getD, h]
end Go.Proofs
end
section
set_option linter.unusedVariables false
set_option linter.unusedSimpArgs false
namespace Go.Ab
/-- A piece of a code. -/
def ACode.sub : List Nat → ACode → ACode
  | 0 :: p, .seq a _ => a.sub p
  | _ :: p, .seq _ b => b.sub p
  | 0 :: p, .cond _ a _ => a.sub p
  | _ :: p, .cond _ _ b => b.sub p
  | _ :: p, .block _ c => c.sub p
  | _ :: p, .loop c => c.sub p
  | _ :: p, .scope c => c.sub p
  | _, c => c
end Go.Ab
end
section
set_option linter.unusedVariables false
set_option linter.unusedSimpArgs false
namespace Go.Proofs
structure Rc where
  a : Int
  b : Int
  c : Int
  d : Int
structure Sp where
  a : Int
  b : Int
theorem rc_ext {x y : Rc} (h1 : x.a = y.a) (h2 : x.b = y.b) (h3 : x.c = y.c) (h4 : x.d = y.d) : x = y := by
  cases x; cases y; simp_all
def zeroRc : Rc := ⟨0, 0, 0, 0⟩
def zeroSp : Sp := ⟨0, 0⟩
def meetB (r t : Rc) : Bool := ((decide (r.a < t.c) && decide (t.a < r.c)) && decide (r.b < t.d)) && decide (t.b < r.d)
def hitR (g : Int) (x t : Rc) : Bool := decide (max x.a (t.a - g) < min x.c (t.c + g)) && decide (max x.b (t.b - g) < min x.d (t.d + g))
def offP (len wid : Int) (x : Rc) : Bool := ((((decide (x.c ≤ x.a) || decide (x.d ≤ x.b)) || decide (x.a < 0)) || decide (x.b < 0)) || decide (len < x.c)) || decide (wid < x.d)
def freeR (len wid : Int) (l : List Rc) (g : Int) (x : Rc) : Bool := !offP len wid x && !l.any (hitR g x)
def growsR (len wid : Int) (l : List Rc) (g : Int) (x : Rc) : Bool :=
  ((freeR len wid l g ⟨x.a - 1, x.b, x.c, x.d⟩ || freeR len wid l g ⟨x.a, x.b - 1, x.c, x.d⟩) || freeR len wid l g ⟨x.a, x.b, x.c + 1, x.d⟩) || freeR len wid l g ⟨x.a, x.b, x.c, x.d + 1⟩
def enl (g : Int) (r : Rc) : Rc := ⟨r.a - g, r.b - g, r.c + g, r.d + g⟩
def solid (r : Rc) : Bool := decide (r.a < r.c) && decide (r.b < r.d)
def tkE (g : Int) (l : List Rc) : List Rc := (l.map (enl g)).filter solid
def freeC (len : Int) (tk : List Rc) (r : Rc) : Bool := decide (0 ≤ r.a) && decide (r.c ≤ len) && !tk.any (meetB r)
def maxB (len wid : Int) (l : List Rc) (g : Int) (x : Rc) : Bool := freeR len wid l g x && !growsR len wid l g x
structure InP (len wid : Int) (x : Rc) : Prop where
  ac : x.a < x.c
  bd : x.b < x.d
  a0 : 0 ≤ x.a
  b0 : 0 ≤ x.b
  cl : x.c ≤ len
  dw : x.d ≤ wid
theorem off_iff (len wid : Int) (x : Rc) : offP len wid x = false ↔ InP len wid x := by
  unfold offP
  simp only [Bool.or_eq_false_iff, decide_eq_false_iff_not]
  constructor
  · intro h; constructor <;> omega
  · intro h; have := h.ac; have := h.bd; have := h.a0; have := h.b0; have := h.cl; have := h.dw; omega
theorem meet_iff (r t : Rc) : meetB r t = true ↔ r.a < t.c ∧ t.a < r.c ∧ r.b < t.d ∧ t.b < r.d := by
  unfold meetB
  simp only [Bool.and_eq_true, decide_eq_true_eq, and_assoc]
theorem hit_iff (g : Int) (x t : Rc) (h1 : x.a < x.c) (h2 : x.b < x.d) : hitR g x t = true ↔ solid (enl g t) = true ∧ meetB x (enl g t) = true := by
  rw [meet_iff]
  unfold hitR solid enl
  simp only [Bool.and_eq_true, decide_eq_true_eq]
  omega
theorem any_hit (g : Int) (x : Rc) (l : List Rc) (h1 : x.a < x.c) (h2 : x.b < x.d) : l.any (hitR g x) = (tkE g l).any (meetB x) := by
  rw [Bool.eq_iff_iff, List.any_eq_true, List.any_eq_true]
  unfold tkE
  constructor
  · rintro ⟨t, ht, h⟩
    have := (hit_iff g x t h1 h2).1 h
    exact ⟨enl g t, List.mem_filter.2 ⟨List.mem_map.2 ⟨t, ht, rfl⟩, this.1⟩, this.2⟩
  · rintro ⟨u, hu, h⟩
    obtain ⟨hm, hs⟩ := List.mem_filter.1 hu
    obtain ⟨t, ht, rfl⟩ := List.mem_map.1 hm
    exact ⟨t, ht, (hit_iff g x t h1 h2).2 ⟨hs, h⟩⟩
theorem free_iff (len wid : Int) (l : List Rc) (g : Int) (x : Rc) : freeR len wid l g x = true ↔ InP len wid x ∧ ∀ t ∈ tkE g l, meetB x t = false := by
  unfold freeR
  rw [Bool.and_eq_true, Bool.not_eq_true', Bool.not_eq_true', off_iff]
  constructor
  · rintro ⟨h, k⟩
    rw [any_hit g x l h.ac h.bd, List.any_eq_false] at k
    exact ⟨h, fun t ht => by simpa using k t ht⟩
  · rintro ⟨h, k⟩
    refine ⟨h, ?_⟩
    rw [any_hit g x l h.ac h.bd, List.any_eq_false]
    intro t ht
    rw [k t ht]; decide
theorem grow_no (len wid : Int) (l : List Rc) (g : Int) (x : Rc) : growsR len wid l g x = false ↔ freeR len wid l g ⟨x.a - 1, x.b, x.c, x.d⟩ = false ∧ freeR len wid l g ⟨x.a, x.b - 1, x.c, x.d⟩ = false ∧ freeR len wid l g ⟨x.a, x.b, x.c + 1, x.d⟩ = false ∧ freeR len wid l g ⟨x.a, x.b, x.c, x.d + 1⟩ = false := by
  unfold growsR
  simp only [Bool.or_eq_false_iff, and_assoc]
theorem max_iff (len wid : Int) (l : List Rc) (g : Int) (x : Rc) : maxB len wid l g x = true ↔ freeR len wid l g x = true ∧ freeR len wid l g ⟨x.a - 1, x.b, x.c, x.d⟩ = false ∧ freeR len wid l g ⟨x.a, x.b - 1, x.c, x.d⟩ = false ∧ freeR len wid l g ⟨x.a, x.b, x.c + 1, x.d⟩ = false ∧ freeR len wid l g ⟨x.a, x.b, x.c, x.d + 1⟩ = false := by
  unfold maxB
  rw [Bool.and_eq_true, Bool.not_eq_true', grow_no]
def withinB (r t : Rc) : Bool := ((decide (t.a ≤ r.a) && decide (t.b ≤ r.b)) && decide (r.c ≤ t.c)) && decide (r.d ≤ t.d)
/-! the free parts of a strip -/
def colR (wid f u : Int) : Int → List Sp → List Rc
  | _, [] => []
  | y, s :: m => (if y < min s.a wid then [⟨f, y, u, min s.a wid⟩] else []) ++ colR wid f u (max y s.b) m
theorem colR_len (wid f u : Int) : ∀ (m : List Sp) (y : Int), (colR wid f u y m).length ≤ m.length
  | [], y => by simp [colR]
  | s :: m, y => by
    have := colR_len wid f u m (max y s.b)
    unfold colR
    split <;> simp <;> omega
theorem colR_mem (wid f u : Int) : ∀ (m : List Sp) (y : Int), m.Pairwise (fun p q => p.a ≤ q.a) → (∀ s ∈ m, s.a < s.b) → ∀ r : Rc, r ∈ colR wid f u y m ↔
    (r.a = f ∧ r.c = u) ∧ y ≤ r.b ∧ r.b < r.d ∧ r.d ≤ wid ∧ (∀ s ∈ m, ¬ (s.a < r.d ∧ r.b < s.b)) ∧ (r.b = y ∨ ∃ s ∈ m, s.b = r.b) ∧ (∃ s ∈ m, r.d = min s.a wid)
  | [], y, _, _, r => by simp [colR]
  | s :: m, y, hp, hs, r => by
    have hs0 := hs s (by simp)
    have hs' : ∀ s ∈ m, s.a < s.b := fun t ht => hs t (by simp [ht])
    have hp0 : ∀ t ∈ m, s.a ≤ t.a := fun t ht => List.rel_of_pairwise_cons hp ht
    have ih := colR_mem wid f u m (max y s.b) hp.of_cons hs' r
    unfold colR
    rw [List.mem_append, ih]
    clear ih
    constructor
    · rintro (h | ⟨h1, h2, h3, h4, h5, h6, t7, ht7, h7⟩)
      · split at h
        · rename_i hlt
          rw [List.mem_singleton] at h
          have ha : r.a = f := by rw [h]
          have hb : r.b = y := by rw [h]
          have hc : r.c = u := by rw [h]
          have hd : r.d = min s.a wid := by rw [h]
          clear h
          refine ⟨⟨ha, hc⟩, by omega, by omega, by omega, fun t ht => ?_, .inl hb, s, by simp, hd⟩
          rcases List.mem_cons.1 ht with ht | ht
          · rw [ht]; omega
          · have := hp0 t ht
            omega
        · cases h
      · have g2 : y ≤ r.b := by clear h6; omega
        refine ⟨h1, g2, h3, h4, fun t ht => ?_, ?_, ?_⟩
        · rcases List.mem_cons.1 ht with rfl | ht
          · clear h6; omega
          · exact h5 t ht
        · rcases h6 with h6 | ⟨t, ht, h6⟩
          · by_cases k : s.b ≤ y
            · exact .inl (by omega)
            · exact .inr ⟨s, by simp, by omega⟩
          · exact .inr ⟨t, by simp [ht], h6⟩
        · exact ⟨t7, by simp [ht7], h7⟩
    · rintro ⟨h1, h2, h3, h4, h5, h6, t, ht, h7⟩
      have h50 := h5 s (by simp)
      by_cases k : s.b ≤ r.b
      · refine .inr ⟨h1, by omega, h3, h4, fun q hq => h5 q (by simp [hq]), ?_, ?_⟩
        · rcases h6 with h6 | ⟨q, hq, h6⟩
          · exact .inl (by omega)
          · rcases List.mem_cons.1 hq with rfl | hq
            · exact .inl (by omega)
            · exact .inr ⟨q, hq, h6⟩
        · rcases List.mem_cons.1 ht with rfl | ht
          · omega
          · exact ⟨t, ht, h7⟩
      · have hd : r.d = min s.a wid := by
          rcases List.mem_cons.1 ht with rfl | ht
          · exact h7
          · have := hp0 t ht
            omega
        have hb : r.b = y := by
          rcases h6 with h6 | ⟨q, hq, h6⟩
          · exact h6
          · have := hs q hq
            rcases List.mem_cons.1 hq with rfl | hq
            · omega
            · have := hp0 q hq
              omega
        refine .inl ?_
        rw [if_pos (by omega), List.mem_singleton]
        exact rc_ext h1.1 hb h1.2 hd
theorem colR_asc (wid f u : Int) : ∀ (m : List Sp) (y : Int), m.Pairwise (fun p q => p.a ≤ q.a) → (∀ s ∈ m, s.a < s.b) → (colR wid f u y m).Pairwise fun p q => p.b < q.b
  | [], y, _, _ => by simp [colR]
  | s :: m, y, hp, hs => by
    have hs0 := hs s (by simp)
    have hs' : ∀ s ∈ m, s.a < s.b := fun t ht => hs t (by simp [ht])
    have ih := colR_asc wid f u m (max y s.b) hp.of_cons hs'
    unfold colR
    split
    · rename_i hlt
      rw [List.singleton_append, List.pairwise_cons]
      refine ⟨fun r hr => ?_, ih⟩
      have := ((colR_mem wid f u m (max y s.b) hp.of_cons hs' r).1 hr).2.1
      simp only []
      omega
    · simpa using ih
theorem asc_ext_of {α : Type} {r : α → α → Prop} (hi : ∀ x, ¬ r x x) (ht : ∀ x y z, r x y → r y z → r x z) : ∀ {l m : List α}, l.Pairwise r → m.Pairwise r → (∀ x, x ∈ l ↔ x ∈ m) → l = m
  | [], [], _, _, _ => rfl
  | [], y :: m, _, _, h => by simpa using (h y).2 (by simp)
  | x :: l, [], _, _, h => by simpa using (h x).1 (by simp)
  | x :: l, y :: m, hl, hm, h => by
    have e : x = y := by
      have h1 := (h x).1 (by simp)
      have h2 := (h y).2 (by simp)
      rcases List.mem_cons.1 h1 with h1 | h1
      · exact h1
      · rcases List.mem_cons.1 h2 with h2 | h2
        · exact h2.symm
        · exact absurd (ht _ _ _ (List.rel_of_pairwise_cons hl h2) (List.rel_of_pairwise_cons hm h1)) (hi x)
    subst e
    congr 1
    refine asc_ext_of hi ht hl.of_cons hm.of_cons fun z => ?_
    have hz := h z
    simp only [List.mem_cons] at hz
    constructor
    · intro hzl
      rcases hz.1 (.inr hzl) with rfl | k
      · exact absurd (List.rel_of_pairwise_cons hl hzl) (hi z)
      · exact k
    · intro hzm
      rcases hz.2 (.inr hzm) with rfl | k
      · exact absurd (List.rel_of_pairwise_cons hm hzm) (hi z)
      · exact k
def besB (f u : Int) (t : Rc) : Bool := decide (t.a < u) && decide (f < t.c)
def besE (wid f u : Int) (tk : List Rc) : List Sp := ⟨wid, wid + 1⟩ :: (tk.filter (besB f u)).map fun t => ⟨t.b, t.d⟩
def insA (s : Sp) : List Sp → List Sp
  | [] => [s]
  | t :: l => if s.a ≤ t.a then s :: t :: l else t :: insA s l
theorem insA_mem (s x : Sp) : ∀ l, x ∈ insA s l ↔ x = s ∨ x ∈ l
  | [] => by simp [insA]
  | t :: l => by
    unfold insA
    split
    · simp
    · rw [List.mem_cons, insA_mem s x l, List.mem_cons]
      constructor
      · rintro (h | h | h) <;> simp [h]
      · rintro (h | h | h) <;> simp [h]
theorem insA_len (s : Sp) : ∀ l, (insA s l).length = l.length + 1
  | [] => rfl
  | t :: l => by unfold insA; split <;> simp [insA_len s l]
theorem insA_asc (s : Sp) : ∀ l : List Sp, l.Pairwise (fun p q => p.a ≤ q.a) → (insA s l).Pairwise fun p q => p.a ≤ q.a
  | [], _ => by simp [insA]
  | t :: l, h => by
    unfold insA
    split
    · rename_i hle
      rw [List.pairwise_cons]
      refine ⟨fun q hq => ?_, h⟩
      rcases List.mem_cons.1 hq with rfl | hq
      · exact hle
      · have := List.rel_of_pairwise_cons h hq
        omega
    · rw [List.pairwise_cons]
      refine ⟨fun q hq => ?_, insA_asc s l h.of_cons⟩
      rcases (insA_mem s q l).1 hq with rfl | hq
      · omega
      · exact List.rel_of_pairwise_cons h hq
def sortA : List Sp → List Sp
  | [] => []
  | s :: l => insA s (sortA l)
theorem sortA_mem (x : Sp) : ∀ l, x ∈ sortA l ↔ x ∈ l
  | [] => Iff.rfl
  | s :: l => by unfold sortA; rw [insA_mem, sortA_mem x l, List.mem_cons]
theorem sortA_len : ∀ l, (sortA l).length = l.length
  | [] => rfl
  | s :: l => by unfold sortA; rw [insA_len, sortA_len l]; rfl
theorem sortA_asc : ∀ l, (sortA l).Pairwise fun p q => p.a ≤ q.a
  | [] => List.Pairwise.nil
  | s :: l => insA_asc s _ (sortA_asc l)
def colE (wid f u : Int) (tk : List Rc) : List Rc := colR wid f u 0 (sortA (besE wid f u tk))
def Solid (tk : List Rc) : Prop := ∀ t ∈ tk, t.a < t.c ∧ t.b < t.d
theorem tkE_solid (g : Int) (l : List Rc) : Solid (tkE g l) := by
  intro t ht
  have := (List.mem_filter.1 ht).2
  unfold solid at this
  simpa using this
theorem bes_mem (wid f u : Int) (tk : List Rc) (s : Sp) : s ∈ besE wid f u tk ↔ s = ⟨wid, wid + 1⟩ ∨ ∃ t ∈ tk, (t.a < u ∧ f < t.c) ∧ s = ⟨t.b, t.d⟩ := by
  unfold besE
  rw [List.mem_cons, List.mem_map]
  constructor
  · rintro (h | ⟨t, ht, rfl⟩)
    · exact .inl h
    · obtain ⟨h1, h2⟩ := List.mem_filter.1 ht
      unfold besB at h2
      rw [Bool.and_eq_true, decide_eq_true_eq, decide_eq_true_eq] at h2
      exact .inr ⟨t, h1, h2, rfl⟩
  · rintro (h | ⟨t, ht, h2, rfl⟩)
    · exact .inl h
    · refine .inr ⟨t, List.mem_filter.2 ⟨ht, ?_⟩, rfl⟩
      unfold besB
      rw [Bool.and_eq_true, decide_eq_true_eq, decide_eq_true_eq]
      exact h2
theorem bes_ok {wid f u : Int} {tk : List Rc} (hS : Solid tk) : ∀ s ∈ besE wid f u tk, s.a < s.b := by
  intro s hs
  rcases (bes_mem wid f u tk s).1 hs with rfl | ⟨t, ht, _, rfl⟩
  · simp only []; omega
  · exact (hS t ht).2
/-- Any order by beginning gives the same free parts. -/
theorem col_same {wid f u : Int} {tk : List Rc} (hS : Solid tk) {m : List Sp} (hm : ∀ s, s ∈ m ↔ s ∈ besE wid f u tk) (hp : m.Pairwise fun p q => p.a ≤ q.a) : colR wid f u 0 m = colE wid f u tk := by
  have h1 : ∀ s ∈ m, s.a < s.b := fun s hs => bes_ok hS s ((hm s).1 hs)
  have h2 : ∀ s ∈ sortA (besE wid f u tk), s.a < s.b := fun s hs => bes_ok hS s ((sortA_mem s _).1 hs)
  refine asc_ext_of (r := fun p q : Rc => p.b < q.b) (fun x => by omega) (fun x y z => by omega) (colR_asc wid f u m 0 hp h1) (colR_asc wid f u _ 0 (sortA_asc _) h2) fun r => ?_
  show _ ↔ r ∈ colR wid f u 0 (sortA (besE wid f u tk))
  rw [colR_mem wid f u m 0 hp h1 r, colR_mem wid f u _ 0 (sortA_asc _) h2 r]
  simp only [hm, sortA_mem]
theorem col_mem {wid f u : Int} {tk : List Rc} (hS : Solid tk) (r : Rc) : r ∈ colE wid f u tk ↔ (r.a = f ∧ r.c = u) ∧ 0 ≤ r.b ∧ r.b < r.d ∧ r.d ≤ wid ∧
    (∀ t ∈ tk, t.a < u ∧ f < t.c → ¬ (t.b < r.d ∧ r.b < t.d)) ∧ (r.b = 0 ∨ ∃ t ∈ tk, (t.a < u ∧ f < t.c) ∧ t.d = r.b) ∧ (r.d = wid ∨ ∃ t ∈ tk, (t.a < u ∧ f < t.c) ∧ r.d = t.b) := by
  have h2 : ∀ s ∈ sortA (besE wid f u tk), s.a < s.b := fun s hs => bes_ok hS s ((sortA_mem s _).1 hs)
  unfold colE
  rw [colR_mem wid f u _ 0 (sortA_asc _) h2 r]
  simp only [sortA_mem, bes_mem]
  constructor
  · rintro ⟨h1, h2, h3, h4, h5, h6, h7⟩
    refine ⟨h1, h2, h3, h4, fun t ht hk => ?_, ?_, ?_⟩
    · exact h5 ⟨t.b, t.d⟩ (.inr ⟨t, ht, hk, rfl⟩)
    · rcases h6 with h6 | ⟨s, hs | ⟨t, ht, hk, hs⟩, h6⟩
      · exact .inl h6
      · subst hs; simp only [] at h6; omega
      · subst hs; exact .inr ⟨t, ht, hk, h6⟩
    · obtain ⟨s, hs | ⟨t, ht, hk, hs⟩, h7⟩ := h7
      · subst hs; simp only [] at h7; exact .inl (by omega)
      · subst hs; simp only [] at h7
        by_cases k : t.b ≤ wid
        · exact .inr ⟨t, ht, hk, by omega⟩
        · exact .inl (by omega)
  · rintro ⟨h1, h2, h3, h4, h5, h6, h7⟩
    refine ⟨h1, h2, h3, h4, fun s hs => ?_, ?_, ?_⟩
    · rcases hs with rfl | ⟨t, ht, hk, rfl⟩
      · simp only []; omega
      · exact h5 t ht hk
    · rcases h6 with h6 | ⟨t, ht, hk, h6⟩
      · exact .inl h6
      · exact .inr ⟨⟨t.b, t.d⟩, .inr ⟨t, ht, hk, rfl⟩, h6⟩
    · rcases h7 with h7 | ⟨t, ht, hk, h7⟩
      · exact ⟨⟨wid, wid + 1⟩, .inl rfl, by simp only []; omega⟩
      · exact ⟨⟨t.b, t.d⟩, .inr ⟨t, ht, hk, rfl⟩, by simp only []; omega⟩
theorem col_asc {wid f u : Int} {tk : List Rc} (hS : Solid tk) : (colE wid f u tk).Pairwise fun p q => p.b < q.b :=
  colR_asc wid f u _ 0 (sortA_asc _) fun s hs => bes_ok hS s ((sortA_mem s _).1 hs)
theorem col_len (wid f u : Int) (tk : List Rc) : (colE wid f u tk).length ≤ tk.length + 1 := by
  unfold colE
  refine Nat.le_trans (colR_len _ _ _ _ _) ?_
  rw [sortA_len]
  unfold besE
  rw [List.length_cons, List.length_map]
  have := List.length_filter_le (besB f u) tk
  omega
end Go.Proofs
end
section
set_option linter.unusedVariables false
set_option linter.unusedSimpArgs false
namespace Go.Proofs
/-! a number put into ascending numbers -/
def cndQ (n : Int) (l : List Int) (i : Nat) : Bool := decide (n < l.getD i 0) && (decide (i = 0) || decide (l.getD (i - 1) 0 < n))
def outQ (n : Int) (l : List Int) : Nat → List Int
  | 0 => []
  | i + 1 => (if cndQ n l i = true then outQ n l i ++ [n] else outQ n l i) ++ [l.getD i 0]
theorem outQ_len (n : Int) (l : List Int) : ∀ i, (outQ n l i).length ≤ 2 * i
  | 0 => by simp [outQ]
  | i + 1 => by
    have := outQ_len n l i
    unfold outQ
    split <;> simp <;> omega
def lastQ (n : Int) (l : List Int) : Bool := decide (l.length = 0) || decide (l.getD (l.length - 1) 0 < n)
def putE (l : List Int) (n most : Int) : List Int :=
  if (decide (n < 0) || decide (most < n)) = true then l else if l.any (· == n) = true then l else if lastQ n l = true then outQ n l l.length ++ [n] else outQ n l l.length
theorem getD_in {α : Type} (l : List α) (d : α) (i : Nat) (h : i < l.length) : l.getD i d ∈ l := by
  rw [List.getD_eq_getElem?_getD, List.getElem?_eq_getElem h, Option.getD_some]
  exact List.getElem_mem h
theorem in_getD {α : Type} (l : List α) (d x : α) (h : x ∈ l) : ∃ i, i < l.length ∧ l.getD i d = x := by
  obtain ⟨i, hi, rfl⟩ := List.getElem_of_mem h
  exact ⟨i, hi, by simp [List.getD_eq_getElem?_getD, hi]⟩
theorem asc_at {l : List Int} (h : l.Pairwise (· < ·)) {i j : Nat} (hij : i < j) (hj : j < l.length) : l.getD i 0 < l.getD j 0 := by
  have := List.pairwise_iff_getElem.1 h i j (by omega) hj hij
  simpa [List.getD_eq_getElem?_getD, hj, show i < l.length by omega] using this
theorem asc_at_inv {l : List Int} (h : l.Pairwise (· < ·)) {i j : Nat} (hi : i < l.length) (hj : j < l.length) (k : l.getD i 0 < l.getD j 0) : i < j := by
  rcases Nat.lt_trichotomy i j with h1 | h1 | h1
  · exact h1
  · subst h1; omega
  · have := asc_at h h1 hi; omega
theorem take_snocQ {α : Type} (l : List α) (d : α) (i : Nat) (h : i < l.length) : l.take (i + 1) = l.take i ++ [l.getD i d] := by
  rw [List.take_add_one, List.getElem?_eq_getElem h]
  simp [List.getD_eq_getElem?_getD, h]
/-- The place of a number that is not there. -/
theorem place_ex (l : List Int) (n : Int) (hl : l.Pairwise (· < ·)) (hn : n ∉ l) : ∃ k, k ≤ l.length ∧ (∀ j, j < k → l.getD j 0 < n) ∧ ∀ j, k ≤ j → j < l.length → n < l.getD j 0 := by
  induction l with
  | nil => exact ⟨0, by simp, fun j hj => by omega, fun j _ hj => by simp at hj⟩
  | cons x l ih =>
    obtain ⟨k, h1, h2, h3⟩ := ih hl.of_cons (fun h => hn (by simp [h]))
    have hx : x ≠ n := fun h => hn (by simp [h])
    by_cases hxn : x < n
    · refine ⟨k + 1, by simp; omega, fun j hj => ?_, fun j hkj hj => ?_⟩
      · cases j with
        | zero => simpa using hxn
        | succ j => simpa using h2 j (by omega)
      · cases j with
        | zero => omega
        | succ j => simpa using h3 j (by omega) (by simpa using hj)
    · refine ⟨0, by omega, fun j hj => by omega, fun j _ hj => ?_⟩
      cases j with
      | zero => simp; omega
      | succ j =>
        have hjl : j < l.length := by simpa using hj
        have := List.rel_of_pairwise_cons hl (getD_in l 0 j hjl)
        simp only [List.getD_cons_succ]
        omega
theorem outQ_eq (n : Int) (l : List Int) (k : Nat) (h1 : k ≤ l.length) (h2 : ∀ j, j < k → l.getD j 0 < n) (h3 : ∀ j, k ≤ j → j < l.length → n < l.getD j 0) : ∀ i, i ≤ l.length →
    outQ n l i = if i ≤ k then l.take i else l.take k ++ n :: (l.drop k).take (i - k)
  | 0, _ => by simp [outQ]
  | i + 1, hi => by
    have ih := outQ_eq n l k h1 h2 h3 i (by omega)
    have hc : cndQ n l i = decide (i = k) := by
      unfold cndQ
      rw [Bool.eq_iff_iff, Bool.and_eq_true, Bool.or_eq_true, decide_eq_true_eq, decide_eq_true_eq, decide_eq_true_eq, decide_eq_true_eq]
      constructor
      · rintro ⟨a, b⟩
        rcases Nat.lt_trichotomy i k with h | h | h
        · have := h2 i h; omega
        · exact h
        · rcases b with b | b
          · omega
          · have := h3 (i - 1) (by omega) (by omega); omega
      · rintro rfl
        refine ⟨h3 i (Nat.le_refl _) (by omega), ?_⟩
        by_cases h0 : i = 0
        · exact .inl h0
        · exact .inr (h2 (i - 1) (by omega))
    rw [outQ, hc, ih]
    rcases Nat.lt_trichotomy i k with h | h | h
    · rw [decide_eq_false (by omega), if_neg (by decide), if_pos (by omega), if_pos (by omega), take_snocQ l 0 i (by omega)]
    · subst h
      rw [decide_eq_true rfl, if_pos rfl, if_pos (Nat.le_refl _), if_neg (by omega), show i + 1 - i = 0 + 1 by omega, take_snocQ (l.drop i) 0 0 (by rw [List.length_drop]; omega)]
      simp [List.getD_eq_getElem?_getD]
    · rw [decide_eq_false (by omega), if_neg (by decide), if_neg (by omega), if_neg (by omega), show i + 1 - k = (i - k) + 1 by omega, take_snocQ (l.drop k) 0 (i - k) (by rw [List.length_drop]; omega)]
      have e : (l.drop k).getD (i - k) 0 = l.getD i 0 := by
        rw [List.getD_eq_getElem?_getD, List.getElem?_drop, List.getD_eq_getElem?_getD, show k + (i - k) = i by omega]
      rw [e]
      simp
theorem put_eqQ (n most : Int) (l : List Int) (hl : l.Pairwise (· < ·)) (h0 : 0 ≤ n) (hm : n ≤ most) (hn : n ∉ l) : ∃ k, k ≤ l.length ∧ (∀ j, j < k → l.getD j 0 < n) ∧ (∀ j, k ≤ j → j < l.length → n < l.getD j 0) ∧ putE l n most = l.take k ++ n :: l.drop k := by
  obtain ⟨k, h1, h2, h3⟩ := place_ex l n hl hn
  refine ⟨k, h1, h2, h3, ?_⟩
  have hq := outQ_eq n l k h1 h2 h3 l.length (Nat.le_refl _)
  have hlast : lastQ n l = decide (k = l.length) := by
    unfold lastQ
    rw [Bool.eq_iff_iff, Bool.or_eq_true, decide_eq_true_eq, decide_eq_true_eq, decide_eq_true_eq]
    constructor
    · rintro (h | h)
      · omega
      · by_cases hk : k = l.length
        · exact hk
        · have := h3 (l.length - 1) (by omega) (by omega); omega
    · rintro rfl
      by_cases h : l.length = 0
      · exact .inl h
      · exact .inr (h2 (l.length - 1) (by omega))
  have hany : l.any (· == n) = false := by
    rw [List.any_eq_false]
    intro x hx he
    have : x = n := by simpa using he
    subst this
    exact hn hx
  unfold putE
  rw [if_neg (by simp; omega), hany, if_neg (by decide), hlast, hq]
  by_cases hk : k = l.length
  · subst hk
    rw [decide_eq_true rfl, if_pos rfl, if_pos (Nat.le_refl _)]
    simp
  · rw [decide_eq_false hk, if_neg (by decide), if_neg (by omega)]
    rw [List.take_of_length_le (l := l.drop k) (by rw [List.length_drop]; exact Nat.le_refl _)]
theorem put_mem (n most x : Int) (l : List Int) (hl : l.Pairwise (· < ·)) : x ∈ putE l n most ↔ x ∈ l ∨ (x = n ∧ 0 ≤ n ∧ n ≤ most) := by
  by_cases hr : 0 ≤ n ∧ n ≤ most
  · by_cases hn : n ∈ l
    · have hany : l.any (· == n) = true := List.any_eq_true.2 ⟨n, hn, by simp⟩
      unfold putE
      rw [if_neg (by simp; omega), hany, if_pos rfl]
      constructor
      · exact .inl
      · rintro (h | ⟨rfl, _⟩)
        · exact h
        · exact hn
    · obtain ⟨k, _, _, _, e⟩ := put_eqQ n most l hl hr.1 hr.2 hn
      rw [e, List.mem_append, List.mem_cons]
      have : x ∈ l ↔ x ∈ l.take k ∨ x ∈ l.drop k := by rw [← List.mem_append, List.take_append_drop]
      rw [this]
      constructor
      · rintro (h | h | h)
        · exact .inl (.inl h)
        · exact .inr ⟨h, hr⟩
        · exact .inl (.inr h)
      · rintro ((h | h) | ⟨h, _⟩)
        · exact .inl h
        · exact .inr (.inr h)
        · exact .inr (.inl h)
  · unfold putE
    rw [if_pos (by simp; omega)]
    constructor
    · exact .inl
    · rintro (h | ⟨_, h⟩)
      · exact h
      · exact absurd h hr
theorem put_asc (n most : Int) (l : List Int) (hl : l.Pairwise (· < ·)) : (putE l n most).Pairwise (· < ·) := by
  by_cases hr : 0 ≤ n ∧ n ≤ most
  · by_cases hn : n ∈ l
    · have hany : l.any (· == n) = true := List.any_eq_true.2 ⟨n, hn, by simp⟩
      unfold putE
      rw [if_neg (by simp; omega), hany, if_pos rfl]
      exact hl
    · obtain ⟨k, hk, h2, h3, e⟩ := put_eqQ n most l hl hr.1 hr.2 hn
      have g1 : ∀ x ∈ l.take k, x < n := fun x hx => by
        obtain ⟨i, hi, rfl⟩ := List.getElem_of_mem hx
        rw [List.length_take] at hi
        have := h2 i (by omega)
        rw [List.getElem_take]
        simpa [List.getD_eq_getElem?_getD, show i < l.length by omega] using this
      have g2 : ∀ x ∈ l.drop k, n < x := fun x hx => by
        obtain ⟨i, hi, rfl⟩ := List.getElem_of_mem hx
        rw [List.length_drop] at hi
        have := h3 (k + i) (by omega) (by omega)
        rw [List.getElem_drop]
        simpa [List.getD_eq_getElem?_getD, show k + i < l.length by omega] using this
      rw [e, List.pairwise_append]
      refine ⟨hl.sublist (List.take_sublist _ _), ?_, ?_⟩
      · rw [List.pairwise_cons]
        exact ⟨g2, hl.sublist (List.drop_sublist _ _)⟩
      · intro x hx y hy
        rcases List.mem_cons.1 hy with rfl | hy
        · exact g1 x hx
        · exact Int.lt_trans (g1 x hx) (g2 y hy)
  · unfold putE
    rw [if_pos (by simp; omega)]
    exact hl
theorem put_lenQ (n most : Int) (l : List Int) (hl : l.Pairwise (· < ·)) : (putE l n most).length ≤ l.length + 1 := by
  by_cases hr : 0 ≤ n ∧ n ≤ most
  · by_cases hn : n ∈ l
    · have hany : l.any (· == n) = true := List.any_eq_true.2 ⟨n, hn, by simp⟩
      unfold putE
      rw [if_neg (by simp; omega), hany, if_pos rfl]
      omega
    · obtain ⟨k, hk, _, _, e⟩ := put_eqQ n most l hl hr.1 hr.2 hn
      rw [e]
      simp
      omega
  · unfold putE
    rw [if_pos (by simp; omega)]
    omega
def stX (g len : Int) (s : List Int) (t : Rc) : List Int := putE (putE s (t.a - g) len) (t.c + g) len
def stY (g wid : Int) (s : List Int) (t : Rc) : List Int := putE (putE s (t.b - g) wid) (t.d + g) wid
def xsE (len g : Int) (l : List Rc) : List Int := l.foldl (stX g len) [0, len]
def ysE (wid g : Int) (l : List Rc) : List Int := l.foldl (stY g wid) [0, wid]
theorem fold_spec (st : List Int → Rc → List Int) (p q : Rc → Int) (most : Int) (hst : ∀ s t, st s t = putE (putE s (p t) most) (q t) most) : ∀ (l : List Rc) (s : List Int), s.Pairwise (· < ·) →
    (l.foldl st s).Pairwise (· < ·) ∧ (l.foldl st s).length ≤ s.length + 2 * l.length ∧ ∀ x, x ∈ l.foldl st s ↔ x ∈ s ∨ ∃ t ∈ l, (x = p t ∨ x = q t) ∧ 0 ≤ x ∧ x ≤ most
  | [], s, h => ⟨h, by simp, fun x => by simp⟩
  | t :: l, s, h => by
    have h1 := put_asc (p t) most s h
    have h2 := put_asc (q t) most _ h1
    have l1 := put_lenQ (p t) most s h
    have l2 := put_lenQ (q t) most _ h1
    have ih := fold_spec st p q most hst l (st s t) (by rw [hst]; exact h2)
    rw [List.foldl_cons]
    refine ⟨ih.1, ?_, fun x => ?_⟩
    · have := ih.2.1
      rw [hst] at this ⊢
      simp only [List.length_cons]
      omega
    · rw [ih.2.2 x, hst, put_mem _ _ _ _ h1, put_mem _ _ _ _ h]
      constructor
      · rintro (((h | ⟨h, k⟩) | ⟨h, k⟩) | ⟨u, hu, k⟩)
        · exact .inl h
        · exact .inr ⟨t, by simp, .inl h, by omega⟩
        · exact .inr ⟨t, by simp, .inr h, by omega⟩
        · exact .inr ⟨u, by simp [hu], k⟩
      · rintro (h | ⟨u, hu, k, k2⟩)
        · exact .inl (.inl (.inl h))
        · rcases List.mem_cons.1 hu with rfl | hu
          · rcases k with k | k
            · exact .inl (.inl (.inr ⟨k, by omega⟩))
            · exact .inl (.inr ⟨k, by omega⟩)
          · exact .inr ⟨u, hu, k, k2⟩
theorem xs_spec (len g : Int) (l : List Rc) (h : 0 < len) : (xsE len g l).Pairwise (· < ·) ∧ (xsE len g l).length ≤ 2 + 2 * l.length ∧ ∀ x, x ∈ xsE len g l ↔ x ∈ [0, len] ∨ ∃ t ∈ l, (x = t.a - g ∨ x = t.c + g) ∧ 0 ≤ x ∧ x ≤ len :=
  fold_spec (stX g len) (fun t => t.a - g) (fun t => t.c + g) len (fun _ _ => rfl) l [0, len] (by simp; exact h)
theorem ys_spec (wid g : Int) (l : List Rc) (h : 0 < wid) : (ysE wid g l).Pairwise (· < ·) ∧ (ysE wid g l).length ≤ 2 + 2 * l.length ∧ ∀ x, x ∈ ysE wid g l ↔ x ∈ [0, wid] ∨ ∃ t ∈ l, (x = t.b - g ∨ x = t.d + g) ∧ 0 ≤ x ∧ x ≤ wid :=
  fold_spec (stY g wid) (fun t => t.b - g) (fun t => t.d + g) wid (fun _ _ => rfl) l [0, wid] (by simp; exact h)
/-! the specification's four loops -/
section
variable (P : Rc → Bool) (xs ys : List Int)
def rcAt (a b c d : Nat) : Rc := ⟨xs.getD b 0, ys.getD a 0, xs.getD d 0, ys.getD c 0⟩
def r4 (a b c : Nat) : Nat → List Rc
  | 0 => []
  | n + 1 => r4 a b c n ++ if (decide (b < n) && P (rcAt xs ys a b c n)) = true then [rcAt xs ys a b c n] else []
def r3 (a b : Nat) : Nat → List Rc
  | 0 => []
  | n + 1 => r3 a b n ++ if a < n then r4 P xs ys a b n xs.length else []
def r2 (a : Nat) : Nat → List Rc
  | 0 => []
  | n + 1 => r2 a n ++ r3 P xs ys a n ys.length
def r1 : Nat → List Rc
  | 0 => []
  | n + 1 => r1 n ++ r2 P xs ys n xs.length
theorem r4_zero (a b c : Nat) : ∀ n, n ≤ b + 1 → r4 P xs ys a b c n = []
  | 0, _ => rfl
  | n + 1, h => by rw [r4, r4_zero a b c n (by omega), decide_eq_false (by omega)]; rfl
theorem r3_zero (a b : Nat) : ∀ n, n ≤ a + 1 → r3 P xs ys a b n = []
  | 0, _ => rfl
  | n + 1, h => by rw [r3, r3_zero a b n (by omega), if_neg (by omega)]; rfl
theorem r4_len (a b c : Nat) : ∀ n, (r4 P xs ys a b c n).length ≤ n
  | 0 => Nat.le_refl _
  | n + 1 => by
    have := r4_len a b c n
    unfold r4
    split <;> simp <;> omega
theorem r3_len (a b : Nat) : ∀ n, (r3 P xs ys a b n).length ≤ n * xs.length
  | 0 => by simp [r3]
  | n + 1 => by
    have h1 := r3_len a b n
    have h2 := r4_len P xs ys a b n xs.length
    rw [Nat.add_mul, Nat.one_mul]
    unfold r3
    split <;> simp <;> omega
theorem r2_len (a : Nat) : ∀ n, (r2 P xs ys a n).length ≤ n * (ys.length * xs.length)
  | 0 => by simp [r2]
  | n + 1 => by
    have h1 := r2_len a n
    have h2 := r3_len P xs ys a n ys.length
    rw [Nat.add_mul, Nat.one_mul, r2, List.length_append]
    omega
theorem r1_len : ∀ n, (r1 P xs ys n).length ≤ n * (xs.length * (ys.length * xs.length))
  | 0 => by simp [r1]
  | n + 1 => by
    have h1 := r1_len n
    have h2 := r2_len P xs ys n xs.length
    rw [Nat.add_mul, Nat.one_mul, r1, List.length_append]
    omega
theorem r4_mem (a b c : Nat) (r : Rc) : ∀ n, r ∈ r4 P xs ys a b c n ↔ ∃ d, b < d ∧ d < n ∧ r = rcAt xs ys a b c d ∧ P r = true
  | 0 => by simp [r4]
  | n + 1 => by
    rw [r4, List.mem_append, r4_mem a b c r n]
    constructor
    · rintro (⟨d, h1, h2, h3⟩ | h)
      · exact ⟨d, h1, by omega, h3⟩
      · split at h
        · rename_i hc
          rw [List.mem_singleton] at h
          rw [Bool.and_eq_true, decide_eq_true_eq] at hc
          exact ⟨n, hc.1, by omega, h, by rw [h]; exact hc.2⟩
        · cases h
    · rintro ⟨d, h1, h2, h3, h4⟩
      by_cases hd : d < n
      · exact .inl ⟨d, h1, hd, h3, h4⟩
      · obtain rfl : d = n := by omega
        refine .inr ?_
        rw [← h3, h4, decide_eq_true h1]
        simp
theorem r3_mem (a b : Nat) (r : Rc) : ∀ n, r ∈ r3 P xs ys a b n ↔ ∃ c d, (a < c ∧ c < n) ∧ (b < d ∧ d < xs.length) ∧ r = rcAt xs ys a b c d ∧ P r = true
  | 0 => by simp [r3]
  | n + 1 => by
    rw [r3, List.mem_append, r3_mem a b r n]
    constructor
    · rintro (⟨c, d, h1, h2, h3⟩ | h)
      · exact ⟨c, d, by omega, h2, h3⟩
      · split at h
        · obtain ⟨d, h1, h2, h3, h4⟩ := (r4_mem P xs ys a b n r _).1 h
          exact ⟨n, d, by omega, ⟨h1, h2⟩, h3, h4⟩
        · cases h
    · rintro ⟨c, d, h1, h2, h3, h4⟩
      by_cases hd : c < n
      · exact .inl ⟨c, d, by omega, h2, h3, h4⟩
      · obtain rfl : c = n := by omega
        refine .inr ?_
        rw [if_pos h1.1]
        exact (r4_mem P xs ys a b c r _).2 ⟨d, h2.1, h2.2, h3, h4⟩
theorem r2_mem (a : Nat) (r : Rc) : ∀ n, r ∈ r2 P xs ys a n ↔ ∃ b c d, b < n ∧ (a < c ∧ c < ys.length) ∧ (b < d ∧ d < xs.length) ∧ r = rcAt xs ys a b c d ∧ P r = true
  | 0 => by simp [r2]
  | n + 1 => by
    rw [r2, List.mem_append, r2_mem a r n, r3_mem]
    constructor
    · rintro (⟨b, c, d, h1, h2⟩ | ⟨c, d, h2⟩)
      · exact ⟨b, c, d, by omega, h2⟩
      · exact ⟨n, c, d, by omega, h2⟩
    · rintro ⟨b, c, d, h1, h2⟩
      by_cases hd : b < n
      · exact .inl ⟨b, c, d, hd, h2⟩
      · obtain rfl : b = n := by omega
        exact .inr ⟨c, d, h2⟩
theorem r1_mem (r : Rc) : ∀ n, r ∈ r1 P xs ys n ↔ ∃ a b c d, a < n ∧ b < xs.length ∧ (a < c ∧ c < ys.length) ∧ (b < d ∧ d < xs.length) ∧ r = rcAt xs ys a b c d ∧ P r = true
  | 0 => by simp [r1]
  | n + 1 => by
    rw [r1, List.mem_append, r1_mem r n, r2_mem]
    constructor
    · rintro (⟨a, b, c, d, h1, h2⟩ | ⟨b, c, d, h2⟩)
      · exact ⟨a, b, c, d, by omega, h2⟩
      · exact ⟨n, b, c, d, by omega, h2⟩
    · rintro ⟨a, b, c, d, h1, h2⟩
      by_cases hd : a < n
      · exact .inl ⟨a, b, c, d, hd, h2⟩
      · obtain rfl : a = n := by omega
        exact .inr ⟨b, c, d, h2⟩
end
def rcLt (x y : Rc) : Prop := x.b < y.b ∨ (x.b = y.b ∧ (x.a < y.a ∨ (x.a = y.a ∧ (x.d < y.d ∨ (x.d = y.d ∧ x.c < y.c)))))
theorem rcLt_irrefl (x : Rc) : ¬ rcLt x x := by unfold rcLt; omega
theorem rcLt_trans (x y z : Rc) (h : rcLt x y) (k : rcLt y z) : rcLt x z := by unfold rcLt at *; omega
section
variable (P : Rc → Bool) {xs ys : List Int} (hx : xs.Pairwise (· < ·)) (hy : ys.Pairwise (· < ·))
include hx in
theorem r4_asc (a b c : Nat) : ∀ n, n ≤ xs.length → (r4 P xs ys a b c n).Pairwise rcLt
  | 0, _ => by simp [r4]
  | n + 1, hn => by
    rw [r4, List.pairwise_append]
    refine ⟨r4_asc a b c n (by omega), by split <;> simp, fun p hp q hq => ?_⟩
    obtain ⟨d, h1, h2, h3, h4⟩ := (r4_mem P xs ys a b c p n).1 hp
    split at hq
    · rw [List.mem_singleton] at hq
      have := asc_at hx h2 hn
      rw [h3, hq]
      unfold rcLt rcAt
      simp only [true_and]
      omega
    · cases hq
include hx hy in
theorem r3_asc (a b : Nat) : ∀ n, n ≤ ys.length → (r3 P xs ys a b n).Pairwise rcLt
  | 0, _ => by simp [r3]
  | n + 1, hn => by
    rw [r3, List.pairwise_append]
    refine ⟨r3_asc a b n (by omega), ?_, fun p hp q hq => ?_⟩
    · split
      · exact r4_asc P hx a b n _ (Nat.le_refl _)
      · exact List.Pairwise.nil
    obtain ⟨c, d, h1, h2, h3, h4⟩ := (r3_mem P xs ys a b p n).1 hp
    split at hq
    · obtain ⟨d', k1, k2, k3, k4⟩ := (r4_mem P xs ys a b n q _).1 hq
      have := asc_at hy h1.2 hn
      rw [h3, k3]
      unfold rcLt rcAt
      simp only [true_and]
      omega
    · cases hq
include hx hy in
theorem r2_asc (a : Nat) : ∀ n, n ≤ xs.length → (r2 P xs ys a n).Pairwise rcLt
  | 0, _ => by simp [r2]
  | n + 1, hn => by
    rw [r2, List.pairwise_append]
    refine ⟨r2_asc a n (by omega), r3_asc P hx hy a n _ (Nat.le_refl _), fun p hp q hq => ?_⟩
    obtain ⟨b, c, d, h1, h2, h2', h3, h4⟩ := (r2_mem P xs ys a p n).1 hp
    obtain ⟨c', d', k1, k2, k3, k4⟩ := (r3_mem P xs ys a n q _).1 hq
    have := asc_at hx h1 hn
    rw [h3, k3]
    unfold rcLt rcAt
    simp only [true_and]
    omega
include hx hy in
theorem r1_asc : ∀ n, n ≤ ys.length → (r1 P xs ys n).Pairwise rcLt
  | 0, _ => by simp [r1]
  | n + 1, hn => by
    rw [r1, List.pairwise_append]
    refine ⟨r1_asc n (by omega), r2_asc P hx hy n _ (Nat.le_refl _), fun p hp q hq => ?_⟩
    obtain ⟨a, b, c, d, h1, h2, h2', h2'', h3, h4⟩ := (r1_mem P xs ys p n).1 hp
    obtain ⟨b', c', d', k1, k1', k2, k3, k4⟩ := (r2_mem P xs ys n q _).1 hq
    have := asc_at hy h1 hn
    rw [h3, k3]
    unfold rcLt rcAt
    simp only []
    omega
end
def maxL (len wid : Int) (l : List Rc) (g : Int) : List Rc := r1 (maxB len wid l g) (xsE len g l) (ysE wid g l) (ysE wid g l).length
theorem maxL_asc (len wid : Int) (l : List Rc) (g : Int) (h1 : 0 < len) (h2 : 0 < wid) : (maxL len wid l g).Pairwise rcLt :=
  r1_asc _ (xs_spec len g l h1).1 (ys_spec wid g l h2).1 _ (Nat.le_refl _)
/-- A side that cannot move is that of the plate or of a taken rectangle. -/
theorem max_sides {len wid : Int} {l : List Rc} {g : Int} {x : Rc} (hx : maxB len wid l g x = true) :
    (x.a = 0 ∨ ∃ t ∈ tkE g l, t.c = x.a ∧ (t.b < x.d ∧ x.b < t.d)) ∧ (x.b = 0 ∨ ∃ t ∈ tkE g l, t.d = x.b ∧ (t.a < x.c ∧ x.a < t.c)) ∧ (x.c = len ∨ ∃ t ∈ tkE g l, t.a = x.c ∧ (t.b < x.d ∧ x.b < t.d)) ∧ (x.d = wid ∨ ∃ t ∈ tkE g l, t.b = x.d ∧ (t.a < x.c ∧ x.a < t.c)) := by
  rw [max_iff] at hx
  obtain ⟨h0, h1, h2, h3, h4⟩ := hx
  obtain ⟨hp, hf⟩ := (free_iff _ _ _ _ _).1 h0
  have := hp.ac; have := hp.bd; have := hp.a0; have := hp.b0; have := hp.cl; have := hp.dw
  have blk : ∀ z : Rc, freeR len wid l g z = false → InP len wid z → ∃ t ∈ tkE g l, meetB z t = true := by
    intro z hz hpz
    by_cases k : ∃ t ∈ tkE g l, meetB z t = true
    · exact k
    · exfalso
      rw [Bool.eq_false_iff] at hz
      apply hz
      rw [free_iff]
      refine ⟨hpz, fun t ht => ?_⟩
      rw [Bool.eq_false_iff]
      exact fun hm => k ⟨t, ht, hm⟩
  refine ⟨?_, ?_, ?_, ?_⟩
  · by_cases k : x.a = 0
    · exact .inl k
    · obtain ⟨t, ht, hm⟩ := blk _ h1 ⟨by simp; omega, by simp; omega, by simp; omega, by simp; omega, by simp; omega, by simp; omega⟩
      have hn := hf t ht
      rw [Bool.eq_false_iff, Ne, meet_iff] at hn
      rw [meet_iff] at hm
      exact .inr ⟨t, ht, by simp at hm; omega, by simp at hm; omega⟩
  · by_cases k : x.b = 0
    · exact .inl k
    · obtain ⟨t, ht, hm⟩ := blk _ h2 ⟨by simp; omega, by simp; omega, by simp; omega, by simp; omega, by simp; omega, by simp; omega⟩
      have hn := hf t ht
      rw [Bool.eq_false_iff, Ne, meet_iff] at hn
      rw [meet_iff] at hm
      exact .inr ⟨t, ht, by simp at hm; omega, by simp at hm; omega⟩
  · by_cases k : x.c = len
    · exact .inl k
    · obtain ⟨t, ht, hm⟩ := blk _ h3 ⟨by simp; omega, by simp; omega, by simp; omega, by simp; omega, by simp; omega, by simp; omega⟩
      have hn := hf t ht
      rw [Bool.eq_false_iff, Ne, meet_iff] at hn
      rw [meet_iff] at hm
      exact .inr ⟨t, ht, by simp at hm; omega, by simp at hm; omega⟩
  · by_cases k : x.d = wid
    · exact .inl k
    · obtain ⟨t, ht, hm⟩ := blk _ h4 ⟨by simp; omega, by simp; omega, by simp; omega, by simp; omega, by simp; omega, by simp; omega⟩
      have hn := hf t ht
      rw [Bool.eq_false_iff, Ne, meet_iff] at hn
      rw [meet_iff] at hm
      exact .inr ⟨t, ht, by simp at hm; omega, by simp at hm; omega⟩
theorem tk_mem {g : Int} {l : List Rc} {t : Rc} (h : t ∈ tkE g l) : ∃ q ∈ l, t = enl g q := by
  obtain ⟨hm, _⟩ := List.mem_filter.1 h
  obtain ⟨q, hq, rfl⟩ := List.mem_map.1 hm
  exact ⟨q, hq, rfl⟩
theorem maxL_mem (len wid : Int) (l : List Rc) (g : Int) (h1 : 0 < len) (h2 : 0 < wid) (r : Rc) : r ∈ maxL len wid l g ↔ maxB len wid l g r = true := by
  unfold maxL
  rw [r1_mem]
  constructor
  · rintro ⟨_, _, _, _, _, _, _, _, _, h⟩
    exact h
  · intro h
    have hp := ((free_iff _ _ _ _ _).1 ((max_iff _ _ _ _ _).1 h).1).1
    have := hp.ac; have := hp.bd; have := hp.a0; have := hp.b0; have := hp.cl; have := hp.dw
    obtain ⟨ka, kb, kc, kd⟩ := max_sides h
    have X := xs_spec len g l h1
    have Y := ys_spec wid g l h2
    have ma : r.a ∈ xsE len g l := by
      rw [X.2.2]
      rcases ka with k | ⟨t, ht, k, _⟩
      · exact .inl (by simp [k])
      · obtain ⟨q, hq, rfl⟩ := tk_mem ht
        exact .inr ⟨q, hq, .inr k.symm, by omega⟩
    have mc : r.c ∈ xsE len g l := by
      rw [X.2.2]
      rcases kc with k | ⟨t, ht, k, _⟩
      · exact .inl (by simp [k])
      · obtain ⟨q, hq, rfl⟩ := tk_mem ht
        exact .inr ⟨q, hq, .inl k.symm, by omega⟩
    have mb : r.b ∈ ysE wid g l := by
      rw [Y.2.2]
      rcases kb with k | ⟨t, ht, k, _⟩
      · exact .inl (by simp [k])
      · obtain ⟨q, hq, rfl⟩ := tk_mem ht
        exact .inr ⟨q, hq, .inr k.symm, by omega⟩
    have md : r.d ∈ ysE wid g l := by
      rw [Y.2.2]
      rcases kd with k | ⟨t, ht, k, _⟩
      · exact .inl (by simp [k])
      · obtain ⟨q, hq, rfl⟩ := tk_mem ht
        exact .inr ⟨q, hq, .inl k.symm, by omega⟩
    obtain ⟨ib, hib, eb⟩ := in_getD _ 0 _ ma
    obtain ⟨id, hid, ed⟩ := in_getD _ 0 _ mc
    obtain ⟨ia, hia, ea⟩ := in_getD _ 0 _ mb
    obtain ⟨ic, hic, ec⟩ := in_getD _ 0 _ md
    exact ⟨ia, ib, ic, id, hia, hib, ⟨asc_at_inv Y.1 hia hic (by omega), hic⟩, ⟨asc_at_inv X.1 hib hid (by omega), hid⟩, rc_ext eb.symm ea.symm ed.symm ec.symm, h⟩
end Go.Proofs
end
section
set_option linter.unusedVariables false
set_option linter.unusedSimpArgs false
namespace Go.Proofs
def wideB (len : Int) (tk : List Rc) (r : Rc) : Bool := !freeC len tk ⟨r.a - 1, r.b, r.c, r.d⟩ && !freeC len tk ⟨r.a, r.b, r.c + 1, r.d⟩
section
variable (C : Int → Int → List Rc) (Q : Rc → Bool) (S : List Int)
def own2 (i : Nat) : Nat → List Rc
  | 0 => []
  | k + 1 => own2 i k ++ (C (S.getD i 0) (S.getD (i + 1 + k) 0)).filter Q
def own1 : Nat → List Rc
  | 0 => []
  | n + 1 => own1 n ++ own2 C Q S n (S.length - (n + 1))
theorem own2_len {m : Nat} (hC : ∀ f u, (C f u).length ≤ m) (i : Nat) : ∀ k, (own2 C Q S i k).length ≤ k * m
  | 0 => by simp [own2]
  | k + 1 => by
    have h1 := own2_len hC i k
    have h2 := hC (S.getD i 0) (S.getD (i + 1 + k) 0)
    have h3 := List.length_filter_le Q (C (S.getD i 0) (S.getD (i + 1 + k) 0))
    rw [Nat.add_mul, Nat.one_mul, own2, List.length_append]
    omega
theorem own1_len {m : Nat} (hC : ∀ f u, (C f u).length ≤ m) : ∀ n, (own1 C Q S n).length ≤ n * (S.length * m)
  | 0 => by simp [own1]
  | n + 1 => by
    have h1 := own1_len hC n
    have h2 := own2_len C Q S hC n (S.length - (n + 1))
    have h3 : (S.length - (n + 1)) * m ≤ S.length * m := Nat.mul_le_mul_right m (by omega)
    rw [Nat.add_mul, Nat.one_mul, own1, List.length_append]
    omega
def tri : Nat → Nat
  | 0 => 0
  | n + 1 => tri n + (13 - n) * 7
theorem own2_mem (i : Nat) (r : Rc) : ∀ k, r ∈ own2 C Q S i k ↔ ∃ j, j < k ∧ r ∈ C (S.getD i 0) (S.getD (i + 1 + j) 0) ∧ Q r = true
  | 0 => by simp [own2]
  | k + 1 => by
    rw [own2, List.mem_append, own2_mem i r k, List.mem_filter]
    constructor
    · rintro (⟨j, h1, h2⟩ | h)
      · exact ⟨j, by omega, h2⟩
      · exact ⟨k, by omega, h⟩
    · rintro ⟨j, h1, h2⟩
      by_cases hj : j < k
      · exact .inl ⟨j, hj, h2⟩
      · obtain rfl : j = k := by omega
        exact .inr h2
theorem own1_mem (r : Rc) : ∀ n, r ∈ own1 C Q S n ↔ ∃ i j, i < n ∧ (i < j ∧ j < S.length) ∧ r ∈ C (S.getD i 0) (S.getD j 0) ∧ Q r = true
  | 0 => by simp [own1]
  | n + 1 => by
    rw [own1, List.mem_append, own1_mem r n, own2_mem]
    constructor
    · rintro (⟨i, j, h1, h2⟩ | ⟨j, h1, h2⟩)
      · exact ⟨i, j, by omega, h2⟩
      · exact ⟨n, n + 1 + j, by omega, by omega, h2⟩
    · rintro ⟨i, j, h1, h2, h3⟩
      by_cases hi : i < n
      · exact .inl ⟨i, j, hi, h2, h3⟩
      · obtain rfl : i = n := by omega
        refine .inr ⟨j - (i + 1), by omega, ?_⟩
        rw [show i + 1 + (j - (i + 1)) = j by omega]
        exact h3
end
def ownLt (x y : Rc) : Prop := x.a < y.a ∨ (x.a = y.a ∧ (x.c < y.c ∨ (x.c = y.c ∧ x.b < y.b)))
section
variable (C : Int → Int → List Rc) (Q : Rc → Bool) {S : List Int} (hS : S.Pairwise (· < ·)) (hC : ∀ f u, (C f u).Pairwise fun p q => p.b < q.b) (hC2 : ∀ f u, ∀ r ∈ C f u, r.a = f ∧ r.c = u)
include hS hC hC2 in
theorem own2_asc (i : Nat) : ∀ k, i + k < S.length → (own2 C Q S i k).Pairwise ownLt
  | 0, _ => by simp [own2]
  | k + 1, hk => by
    rw [own2, List.pairwise_append]
    refine ⟨own2_asc i k (by omega), ?_, fun p hp q hq => ?_⟩
    · refine List.Pairwise.sublist List.filter_sublist ?_
      refine List.Pairwise.imp_of_mem ?_ (hC (S.getD i 0) (S.getD (i + 1 + k) 0))
      intro p q hp hq h
      have h1 := hC2 _ _ p hp
      have h2 := hC2 _ _ q hq
      unfold ownLt
      omega
    · obtain ⟨j, h1, h2, _⟩ := (own2_mem C Q S i p k).1 hp
      have h3 := hC2 _ _ p h2
      have h4 := hC2 _ _ q (List.mem_filter.1 hq).1
      have := asc_at hS (show i + 1 + j < i + 1 + k by omega) (by omega)
      unfold ownLt
      omega
include hS hC hC2 in
theorem own1_asc : ∀ n, n ≤ S.length → (own1 C Q S n).Pairwise ownLt
  | 0, _ => by simp [own1]
  | n + 1, hn => by
    rw [own1, List.pairwise_append]
    refine ⟨own1_asc n (by omega), own2_asc C Q hS hC hC2 n _ (by omega), fun p hp q hq => ?_⟩
    obtain ⟨i, j, h1, h2, h3, _⟩ := (own1_mem C Q S p n).1 hp
    obtain ⟨j', k1, k2, _⟩ := (own2_mem C Q S n q _).1 hq
    have e1 := hC2 _ _ p h3
    have e2 := hC2 _ _ q k2
    have := asc_at hS h1 hn
    unfold ownLt
    omega
end
structure SideS (len : Int) (tk : List Rc) (S : List Int) : Prop where
  asc : S.Pairwise (· < ·)
  mem : ∀ x, x ∈ S ↔ x = 0 ∨ x = len ∨ ∃ t ∈ tk, (x = t.a ∨ x = t.c) ∧ 0 ≤ x ∧ x ≤ len
theorem side_in {len : Int} {tk : List Rc} {S : List Int} (hS : SideS len tk S) (h0 : 0 < len) {x : Int} (hx : x ∈ S) : 0 ≤ x ∧ x ≤ len := by
  rcases (hS.mem x).1 hx with h | h | ⟨_, _, _, h⟩
  · omega
  · omega
  · exact h
theorem freeC_iff (len : Int) (tk : List Rc) (r : Rc) : freeC len tk r = true ↔ 0 ≤ r.a ∧ r.c ≤ len ∧ ∀ t ∈ tk, meetB r t = false := by
  unfold freeC
  rw [Bool.and_eq_true, Bool.and_eq_true, decide_eq_true_eq, decide_eq_true_eq, Bool.not_eq_true', List.any_eq_false, and_assoc]
  constructor
  · rintro ⟨a, b, c⟩; exact ⟨a, b, fun t ht => by simpa using c t ht⟩
  · rintro ⟨a, b, c⟩; exact ⟨a, b, fun t ht => by rw [c t ht]; decide⟩
/-- Within the plate's height both notions of freedom agree. -/
theorem freeC_eq (len wid : Int) (l : List Rc) (g : Int) (r : Rc) (h1 : r.a < r.c) (h2 : r.b < r.d) (h3 : 0 ≤ r.b) (h4 : r.d ≤ wid) : freeC len (tkE g l) r = freeR len wid l g r := by
  rw [Bool.eq_iff_iff, freeC_iff, free_iff]
  constructor
  · rintro ⟨a, b, c⟩; exact ⟨⟨h1, h2, a, h3, b, h4⟩, c⟩
  · rintro ⟨a, b⟩; exact ⟨a.a0, a.cl, b⟩
theorem wide_max {len wid : Int} {l : List Rc} {g : Int} {S : List Int} (h0 : 0 < len) (hS : SideS len (tkE g l) S) (r : Rc) :
    r ∈ own1 (fun f u => colE wid f u (tkE g l)) (wideB len (tkE g l)) S S.length ↔ maxB len wid l g r = true := by
  have hso := tkE_solid g l
  rw [own1_mem]
  constructor
  · rintro ⟨i, j, hi, hij, hc, hq⟩
    have hc := (col_mem hso r).1 hc
    obtain ⟨⟨ha, hcc⟩, h1, h2, h3, h4, h5, h6⟩ := hc
    have hlt := asc_at hS.asc hij.1 hij.2
    have ia := side_in hS h0 (getD_in S 0 i hi)
    have ic := side_in hS h0 (getD_in S 0 j hij.2)
    rw [← ha] at hlt ia h4 h5 h6
    rw [← hcc] at hlt ic h4 h5 h6
    have hf : freeR len wid l g r = true := by
      rw [free_iff]
      refine ⟨⟨hlt, h2, ia.1, h1, ic.2, h3⟩, fun t ht => ?_⟩
      rw [Bool.eq_false_iff]
      intro hm
      rw [meet_iff] at hm
      exact h4 t ht ⟨hm.2.1, hm.1⟩ ⟨hm.2.2.2, hm.2.2.1⟩
    unfold wideB at hq
    rw [Bool.and_eq_true, Bool.not_eq_true', Bool.not_eq_true'] at hq
    rw [freeC_eq len wid l g _ (by simp; omega) (by simp; omega) (by simp; omega) (by simp; omega), freeC_eq len wid l g _ (by simp; omega) (by simp; omega) (by simp; omega) (by simp; omega)] at hq
    rw [max_iff]
    refine ⟨hf, hq.1, ?_, hq.2, ?_⟩
    · rw [Bool.eq_false_iff]
      intro k
      obtain ⟨kp, k⟩ := (free_iff _ _ _ _ _).1 k
      have kb := kp.b0
      simp only [] at kb
      rcases h5 with h5 | ⟨t, ht, h5, h7⟩
      · omega
      · have k := k t ht
        rw [Bool.eq_false_iff, Ne, meet_iff] at k
        have := (hso t ht).2
        have h4 := h4 t ht h5
        simp only [] at k
        omega
    · rw [Bool.eq_false_iff]
      intro k
      obtain ⟨kp, k⟩ := (free_iff _ _ _ _ _).1 k
      have kb := kp.dw
      simp only [] at kb
      rcases h6 with h6 | ⟨t, ht, h6, h7⟩
      · omega
      · have k := k t ht
        rw [Bool.eq_false_iff, Ne, meet_iff] at k
        have := (hso t ht).2
        have h4 := h4 t ht h6
        simp only [] at k
        omega
  · intro h
    obtain ⟨ka, kb, kc, kd⟩ := max_sides h
    obtain ⟨hf, n1, _, n3, _⟩ := (max_iff _ _ _ _ _).1 h
    obtain ⟨hp, hm⟩ := (free_iff _ _ _ _ _).1 hf
    have p1 := hp.ac; have p2 := hp.bd; have p3 := hp.a0; have p4 := hp.b0; have p5 := hp.cl; have p6 := hp.dw
    have ma : r.a ∈ S := by
      rw [hS.mem]
      rcases ka with k | ⟨t, ht, k, _⟩
      · exact .inl k
      · exact .inr (.inr ⟨t, ht, .inr k.symm, by omega⟩)
    have mc : r.c ∈ S := by
      rw [hS.mem]
      rcases kc with k | ⟨t, ht, k, _⟩
      · exact .inr (.inl k)
      · exact .inr (.inr ⟨t, ht, .inl k.symm, by omega⟩)
    obtain ⟨i, hi, ea⟩ := in_getD _ 0 _ ma
    obtain ⟨j, hj, ec⟩ := in_getD _ 0 _ mc
    refine ⟨i, j, hi, ⟨asc_at_inv hS.asc hi hj (by omega), hj⟩, ?_, ?_⟩
    · show r ∈ colE wid _ _ _
      rw [col_mem hso, ea, ec]
      refine ⟨⟨rfl, rfl⟩, p4, p2, p6, fun t ht hk hn => ?_, ?_, ?_⟩
      · have := hm t ht
        rw [Bool.eq_false_iff, Ne, meet_iff] at this
        omega
      · rcases kb with k | ⟨t, ht, k, k2⟩
        · exact .inl k
        · exact .inr ⟨t, ht, k2, k⟩
      · rcases kd with k | ⟨t, ht, k, k2⟩
        · exact .inl k
        · exact .inr ⟨t, ht, k2, k.symm⟩
    · unfold wideB
      rw [Bool.and_eq_true, Bool.not_eq_true', Bool.not_eq_true']
      rw [freeC_eq len wid l g _ (by simp; omega) (by simp; omega) (by simp; omega) (by simp; omega), freeC_eq len wid l g _ (by simp; omega) (by simp; omega) (by simp; omega) (by simp; omega)]
      exact ⟨n1, n3⟩
def ownE (len wid : Int) (l : List Rc) (g : Int) (S : List Int) : List Rc := own1 (fun f u => colE wid f u (tkE g l)) (wideB len (tkE g l)) S S.length
theorem ownE_asc {len wid : Int} {l : List Rc} {g : Int} {S : List Int} (hS : SideS len (tkE g l) S) : (ownE len wid l g S).Pairwise ownLt :=
  own1_asc _ _ hS.asc (fun _ _ => col_asc (tkE_solid g l)) (fun f u r hr => ((col_mem (tkE_solid g l) r).1 hr).1) _ (Nat.le_refl _)
theorem own_ne {x y : Rc} (h : ownLt x y) : x ≠ y := by
  rintro rfl
  unfold ownLt at h
  omega
theorem rcLt_tri (x y : Rc) : rcLt x y ∨ x = y ∨ rcLt y x := by
  by_cases h1 : x.a = y.a
  · by_cases h2 : x.b = y.b
    · by_cases h3 : x.c = y.c
      · by_cases h4 : x.d = y.d
        · exact .inr (.inl (rc_ext h1 h2 h3 h4))
        · unfold rcLt; omega
      · unfold rcLt; omega
    · unfold rcLt; omega
  · unfold rcLt; omega
/-- The sorted list of the search by columns is that of the specification. -/
theorem sorted_max {len wid : Int} {l : List Rc} {g : Int} {S : List Int} {m : List Rc} (h0 : 0 < len) (h1 : 0 < wid) (hS : SideS len (tkE g l) S) (hp : m.Perm (ownE len wid l g S)) (hm : m.Pairwise fun x y => ¬ rcLt y x) : m = maxL len wid l g := by
  have hn : m.Pairwise (· ≠ ·) := hp.symm.pairwise ((ownE_asc hS).imp own_ne) (fun h => h.symm)
  have ha : m.Pairwise rcLt := by
    refine (hn.and hm).imp fun {x y} h => ?_
    rcases rcLt_tri x y with k | k | k
    · exact k
    · exact absurd k h.1
    · exact absurd k h.2
  refine asc_ext_of rcLt_irrefl rcLt_trans ha (maxL_asc len wid l g h0 h1) fun x => ?_
  rw [hp.mem_iff, maxL_mem len wid l g h0 h1]
  exact wide_max h0 hS x
theorem tkE_lenQ (g : Int) (l : List Rc) : (tkE g l).length ≤ l.length := by
  unfold tkE
  exact Nat.le_trans (List.length_filter_le _ _) (by simp)
/-! the greatest one -/
def areaZ (r : Rc) : Int := (r.c - r.a) * (r.d - r.b)
def betterB (x y : Rc) : Bool :=
  if areaZ x != areaZ y then decide (areaZ y < areaZ x) else if x.b != y.b then decide (x.b < y.b) else if x.a != y.a then decide (x.a < y.a) else decide (y.c < x.c)
theorem better_self (x : Rc) : betterB x x = false := by unfold betterB; simp
theorem better_no {x y : Rc} (h : betterB x y = false) : areaZ x ≤ areaZ y := by
  unfold betterB at h
  by_cases k : areaZ x = areaZ y
  · omega
  · rw [if_pos (by simpa using k)] at h
    have := of_decide_eq_false h
    omega
theorem better_yes {x y : Rc} (h : betterB x y = true) : areaZ y ≤ areaZ x := by
  unfold betterB at h
  by_cases k : areaZ x = areaZ y
  · omega
  · rw [if_pos (by simpa using k)] at h
    have := of_decide_eq_true h
    omega
def stepB (x y : Rc) : Rc := if betterB y x = true then y else x
def bestE (l : List Rc) : Rc := l.foldl stepB (l.getD 0 zeroRc)
theorem fold_best : ∀ (l : List Rc) (x : Rc), areaZ x ≤ areaZ (l.foldl stepB x) ∧ (∀ r ∈ l, areaZ r ≤ areaZ (l.foldl stepB x)) ∧ (l.foldl stepB x = x ∨ l.foldl stepB x ∈ l)
  | [], x => by simp
  | y :: l, x => by
    obtain ⟨h1, h2, h3⟩ := fold_best l (stepB x y)
    rw [List.foldl_cons]
    have k : areaZ x ≤ areaZ (stepB x y) ∧ areaZ y ≤ areaZ (stepB x y) ∧ (stepB x y = x ∨ stepB x y = y) := by
      unfold stepB
      cases hb : betterB y x
      · have := better_no hb
        rw [if_neg (by decide)]
        exact ⟨Int.le_refl _, this, .inl rfl⟩
      · have := better_yes hb
        rw [if_pos rfl]
        exact ⟨this, Int.le_refl _, .inr rfl⟩
    refine ⟨Int.le_trans k.1 h1, fun r hr => ?_, ?_⟩
    · rcases List.mem_cons.1 hr with rfl | hr
      · exact Int.le_trans k.2.1 h1
      · exact h2 r hr
    · rcases h3 with h3 | h3
      · rcases k.2.2 with e | e
        · exact .inl (h3.trans e)
        · exact .inr (by rw [h3, e]; simp)
      · exact .inr (by simp [h3])
theorem best_mem {l : List Rc} (h : l ≠ []) : bestE l ∈ l := by
  unfold bestE
  rcases (fold_best l (l.getD 0 zeroRc)).2.2 with e | e
  · rw [e]
    exact getD_in l zeroRc 0 (List.length_pos_iff.2 h)
  · exact e
theorem best_take (l : List Rc) (h : l ≠ []) : l.take 1 = [l.getD 0 zeroRc] ∧ (l.take 1).foldl stepB (l.getD 0 zeroRc) = l.getD 0 zeroRc := by
  cases l with
  | nil => exact absurd rfl h
  | cons x l => simp [stepB, better_self]
theorem max_free {len wid : Int} {l : List Rc} {g : Int} {x : Rc} (h : maxB len wid l g x = true) : freeR len wid l g x = true := ((max_iff _ _ _ _ _).1 h).1
end Go.Proofs
end
