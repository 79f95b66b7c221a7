import Derived.Test.YtadpljebgkfeoaaGreatDoorPYB
import Derived.Test.YtadpljebgkfeoaaGreatDoorChecked
import Derived.Shelf.Small.Bits
import Derived.Shelf.Strconv.Itoa0
import Derived.Shelf.Strings.Search1
import Derived.Shelf.Strings.Search2
import Derived.Shelf.Strings.Search3
import Derived.Shelf.Strings.Count
import Derived.Shelf.LaysM
import Derived.Shelf.Strings.Shaped
import Derived.Shelf.Sort.Plain
import Derived.Shelf.Strings.Split
import Derived.Shelf.Strings.SplitShaped
import Derived.Shelf.Unicode.DecodeSlow
import Derived.Ground.Names2Prog
import Derived.Shelf.Slices.CompactI
import Derived.Shelf.Slices.SearchI
import Derived.Shelf.Slices.Cells
import Derived.Shelf.Slices.In.SortNone
import Derived.Test.YtadpljebgkfeoaaGreatDoorProg
import Derived.Shelf.SlSortCmp.NoneTotal
import Derived.Shelf.SlicesG.Cmp
import Derived.Shelf.SlicesE.Clone
import Derived.Shelf.Spec.SlicesGrow
import Derived.Ground.SlsfProg
import Derived.Ground.SlgcProg
import Derived.Ground.SlgnProg
import Derived.Ground.Names8Prog
import Derived.Sort.OwnSortedInts
section
set_option linter.unusedVariables false
set_option linter.unusedSimpArgs false
namespace Go.Proofs
open Go Go.Ab
def Tryz.ac49 : ACode := ((ACode.region false [⟨some 2, .mv (.c (.bool false)), none, []⟩]).seq (((ACode.region false [⟨some 7, .mv (.t 0), none, []⟩, ⟨some 8, .bin .eql (.t 7) (.c (.string ⟨⟨[]⟩⟩)), none, []⟩, ⟨some 9, .mv (.t 8), none, []⟩, ⟨some 10, .mv (.t 0), some (9, false), []⟩, ⟨some 11, .lenStr (.t 10), some (9, false), []⟩, ⟨some 12, .bin .gtr (.t 11) (.c (.int .i64 (16))), some (9, false), []⟩, ⟨some 13, .pick (.t 9) (.c (.bool true)) (.t 12), none, []⟩]).seq (ACode.cond (.t 13) ((ACode.region false [⟨some 2, .mv (.c (.bool false)), none, []⟩]).seq ACode.ret) ACode.skip)).seq (((ACode.region false [⟨some 14, .mv (.t 0), none, []⟩, ⟨some 15, .range (.t 14), none, []⟩]).seq (ACode.block 0 ((ACode.region false [⟨some 16, .next (.t 15), none, []⟩, ⟨some 17, .extract (.t 16) 0, none, []⟩]).seq ((ACode.cond (.t 17) ACode.skip (ACode.exit 0)).seq (ACode.block 1 ((ACode.region false [⟨some 18, .extract (.t 16) 1, none, []⟩, ⟨some 19, .extract (.t 16) 2, none, []⟩, ⟨some 3, .mv (.t 18), none, []⟩, ⟨some 4, .mv (.t 19), none, []⟩]).seq ((ACode.region false [⟨some 20, .mv (.t 4), none, []⟩, ⟨some 21, .bin .geq (.t 20) (.c (.int .i32 (65))), none, []⟩, ⟨some 22, .mv (.t 21), none, []⟩, ⟨some 23, .mv (.t 4), some (22, true), []⟩, ⟨some 24, .bin .leq (.t 23) (.c (.int .i32 (90))), some (22, true), []⟩, ⟨some 25, .pick (.t 22) (.t 24) (.c (.bool false)), none, []⟩, ⟨some 26, .mv (.t 25), none, []⟩, ⟨some 27, .mv (.t 4), some (26, false), []⟩, ⟨some 28, .bin .geq (.t 27) (.c (.int .i32 (97))), some (26, false), []⟩, ⟨some 29, .mv (.t 28), some (26, false), []⟩, ⟨some 30, .mv (.t 4), some (29, true), []⟩, ⟨some 31, .bin .leq (.t 30) (.c (.int .i32 (122))), some (29, true), []⟩, ⟨some 32, .pick (.t 29) (.t 31) (.c (.bool false)), some (26, false), []⟩, ⟨some 33, .pick (.t 26) (.c (.bool true)) (.t 32), none, []⟩, ⟨some 5, .mv (.t 33), none, []⟩]).seq ((ACode.region false [⟨some 34, .mv (.t 4), none, []⟩, ⟨some 35, .bin .geq (.t 34) (.c (.int .i32 (48))), none, []⟩, ⟨some 36, .mv (.t 35), none, []⟩, ⟨some 37, .mv (.t 4), some (36, true), []⟩, ⟨some 38, .bin .leq (.t 37) (.c (.int .i32 (57))), some (36, true), []⟩, ⟨some 39, .pick (.t 36) (.t 38) (.c (.bool false)), none, []⟩, ⟨some 40, .mv (.t 39), none, []⟩, ⟨some 41, .mv (.t 4), some (40, false), []⟩, ⟨some 42, .bin .eql (.t 41) (.c (.int .i32 (95))), some (40, false), []⟩, ⟨some 43, .pick (.t 40) (.c (.bool true)) (.t 42), none, []⟩, ⟨some 44, .mv (.t 43), none, []⟩, ⟨some 45, .mv (.t 4), some (44, false), []⟩, ⟨some 46, .bin .eql (.t 45) (.c (.int .i32 (45))), some (44, false), []⟩, ⟨some 47, .pick (.t 44) (.c (.bool true)) (.t 46), none, []⟩, ⟨some 6, .mv (.t 47), none, []⟩]).seq ((ACode.region false [⟨some 48, .mv (.t 5), none, []⟩, ⟨some 49, .un .not (.t 48), none, []⟩, ⟨some 50, .mv (.t 49), none, []⟩, ⟨some 51, .mv (.t 3), some (50, true), []⟩, ⟨some 52, .bin .eql (.t 51) (.c (.int .i64 (0))), some (50, true), []⟩, ⟨some 53, .mv (.t 52), some (50, true), []⟩, ⟨some 54, .mv (.t 6), some (53, false), []⟩, ⟨some 55, .un .not (.t 54), some (53, false), []⟩, ⟨some 56, .pick (.t 53) (.c (.bool true)) (.t 55), some (50, true), []⟩, ⟨some 57, .pick (.t 50) (.t 56) (.c (.bool false)), none, []⟩]).seq (ACode.cond (.t 57) ((ACode.region false [⟨some 2, .mv (.c (.bool false)), none, []⟩]).seq ACode.ret) ACode.skip)))))))).loop)).seq ((ACode.region false [⟨some 2, .mv (.c (.bool true)), none, []⟩]).seq ACode.ret))))
theorem Tryz.F49 : FnFacts Tryz.prog 49 Tryz.f49 Tryz.ac49 58 [.tmp 2] := ⟨Tryz.func49, by kernel_rfl, by kernel_rfl, by kernel_rfl, by kernel_rfl, by kernel_rfl, by kernel_rfl, by kernel_rfl⟩
def Tryz.ac50 : ACode := ((ACode.region false [⟨some 2, .mv (.c (.bool false)), none, []⟩]).seq ((ACode.region false [⟨some 3, .mv (.t 0), none, []⟩, ⟨some 4, .bin .geq (.t 3) (.c (.int .i64 (1))), none, []⟩, ⟨some 5, .mv (.t 4), none, []⟩, ⟨some 6, .mv (.t 0), some (5, true), []⟩, ⟨some 7, .bin .leq (.t 6) (.c (.int .i64 (524288))), some (5, true), []⟩, ⟨some 8, .pick (.t 5) (.t 7) (.c (.bool false)), none, []⟩, ⟨some 2, .mv (.t 8), none, []⟩]).seq ACode.ret))
theorem Tryz.F50 : FnFacts Tryz.prog 50 Tryz.f50 Tryz.ac50 9 [.tmp 2] := ⟨Tryz.func50, by kernel_rfl, by kernel_rfl, by kernel_rfl, by kernel_rfl, by kernel_rfl, by kernel_rfl, by kernel_rfl⟩
def Tryz.ac51 : ACode := ((ACode.region false [⟨some 3, .box 1 (.t 1), none, []⟩, ⟨some 4, .alloc [.string ⟨⟨[]⟩⟩, .int .i64 (0), .int .i64 (0)], none, []⟩, ⟨some 5, .mv (.c (.bool false)), none, []⟩]).seq ((ACode.region false [⟨some 7, .mv (.t 0), none, []⟩, ⟨some 8, .mkfn 68 [.t 3], none, []⟩, ⟨some 9, .call 67 [.t 7, .t 8], none, []⟩, ⟨some 6, .mv (.t 9), none, []⟩]).seq (((ACode.region false [⟨some 10, .mv (.t 6), none, []⟩, ⟨some 11, .bin .lss (.t 10) (.c (.int .i64 (0))), none, []⟩]).seq (ACode.cond (.t 11) ((ACode.region false [⟨some 12, .build [.string ⟨⟨[]⟩⟩, .int .i64 (0), .int .i64 (0)] [], none, []⟩, ⟨none, .store 3 (.t 4) (.t 12), none, []⟩, ⟨some 5, .mv (.c (.bool false)), none, []⟩]).seq ACode.ret) ACode.skip)).seq ((ACode.region false [⟨some 13, .mv (.t 0), none, []⟩, ⟨some 14, .mv (.t 6), none, []⟩, ⟨some 15, .idxAddr 3 (.t 13) (.t 14), none, []⟩, ⟨some 16, .load 3 true (.t 15), none, []⟩, ⟨none, .store 3 (.t 4) (.t 16), none, []⟩, ⟨some 5, .mv (.c (.bool true)), none, []⟩]).seq ACode.ret))))
theorem Tryz.F51 : FnFacts Tryz.prog 51 Tryz.f51 Tryz.ac51 17 [.cell 4 53, .tmp 5] := ⟨Tryz.func51, by kernel_rfl, by kernel_rfl, by kernel_rfl, by kernel_rfl, by kernel_rfl, by kernel_rfl, by kernel_rfl⟩
def Tryz.ac52 : ACode := ((ACode.region false [⟨some 5, .box 8 (.t 2), none, []⟩, ⟨some 6, .mv (.c (.int .i64 (0))), none, []⟩]).seq ((ACode.region false [⟨some 10, .mv (.t 0), none, []⟩, ⟨some 11, .fieldAddr 1 (.t 5), none, []⟩, ⟨some 12, .load 1 false (.t 11), none, []⟩, ⟨some 13, .call 51 [.t 10, .t 12], none, []⟩, ⟨some 9, .mv (.t 13), none, []⟩, ⟨some 14, .extract (.t 9) 0, none, []⟩, ⟨some 15, .extract (.t 9) 1, none, []⟩, ⟨some 7, .alloc [.string ⟨⟨[]⟩⟩, .int .i64 (0), .int .i64 (0)], none, []⟩, ⟨none, .store 3 (.t 7) (.t 14), none, []⟩, ⟨some 8, .mv (.t 15), none, []⟩]).seq ((ACode.block 0 ((ACode.region false [⟨some 17, .fieldAddr 0 (.t 5), none, []⟩, ⟨some 18, .load 1 false (.t 17), none, []⟩, ⟨some 19, .call 40 [.t 18], none, []⟩, ⟨some 20, .un .not (.t 19), none, []⟩, ⟨some 16, .mv (.t 20), none, []⟩]).seq (ACode.cond (.t 16) ((ACode.region false [⟨some 6, .mv (.c (.int .i64 (6))), none, []⟩]).seq ACode.ret) ((ACode.region false [⟨some 22, .mv (.t 8), none, []⟩, ⟨some 23, .un .not (.t 22), none, []⟩, ⟨some 21, .mv (.t 23), none, []⟩]).seq (ACode.cond (.t 21) ((ACode.region false [⟨some 6, .mv (.c (.int .i64 (8))), none, []⟩]).seq ACode.ret) ((ACode.region false [⟨some 25, .fieldAddr 4 (.t 5), none, []⟩, ⟨some 26, .load 1 false (.t 25), none, []⟩, ⟨some 27, .call 50 [.t 26], none, []⟩, ⟨some 28, .un .not (.t 27), none, []⟩, ⟨some 29, .mv (.t 28), none, []⟩, ⟨some 30, .fieldAddr 5 (.t 5), some (29, false), []⟩, ⟨some 31, .load 1 false (.t 30), some (29, false), []⟩, ⟨some 32, .call 50 [.t 31], some (29, false), []⟩, ⟨some 33, .un .not (.t 32), some (29, false), []⟩, ⟨some 34, .pick (.t 29) (.c (.bool true)) (.t 33), none, []⟩, ⟨some 35, .mv (.t 34), none, []⟩, ⟨some 36, .fieldAddr 6 (.t 5), some (35, false), []⟩, ⟨some 37, .fieldAddr 0 (.t 36), some (35, false), []⟩, ⟨some 38, .load 1 false (.t 37), some (35, false), []⟩, ⟨some 39, .bin .lss (.t 38) (.c (.int .i64 (0))), some (35, false), []⟩, ⟨some 40, .pick (.t 35) (.c (.bool true)) (.t 39), none, []⟩, ⟨some 41, .mv (.t 40), none, []⟩, ⟨some 42, .fieldAddr 6 (.t 5), some (41, false), []⟩, ⟨some 43, .fieldAddr 0 (.t 42), some (41, false), []⟩, ⟨some 44, .load 1 false (.t 43), some (41, false), []⟩, ⟨some 45, .fieldAddr 6 (.t 5), some (41, false), []⟩, ⟨some 46, .fieldAddr 1 (.t 45), some (41, false), []⟩, ⟨some 47, .load 1 false (.t 46), some (41, false), []⟩, ⟨some 48, .bin .geq (.t 44) (.t 47), some (41, false), []⟩, ⟨some 49, .pick (.t 41) (.c (.bool true)) (.t 48), none, []⟩, ⟨some 50, .mv (.t 49), none, []⟩, ⟨some 51, .fieldAddr 6 (.t 5), some (50, false), []⟩, ⟨some 52, .fieldAddr 1 (.t 51), some (50, false), []⟩, ⟨some 53, .load 1 false (.t 52), some (50, false), []⟩, ⟨some 54, .bin .gtr (.t 53) (.c (.int .i64 (1048576))), some (50, false), []⟩, ⟨some 55, .pick (.t 50) (.c (.bool true)) (.t 54), none, []⟩, ⟨some 24, .mv (.t 55), none, []⟩]).seq (ACode.cond (.t 24) ((ACode.region false [⟨some 6, .mv (.c (.int .i64 (9))), none, []⟩]).seq ACode.ret) ((ACode.region false [⟨some 57, .fieldAddr 2 (.t 5), none, []⟩, ⟨some 58, .fieldAddr 0 (.t 57), none, []⟩, ⟨some 59, .load 1 false (.t 58), none, []⟩, ⟨some 60, .bin .lss (.t 59) (.c (.int .i64 (0))), none, []⟩, ⟨some 61, .mv (.t 60), none, []⟩, ⟨some 62, .fieldAddr 2 (.t 5), some (61, false), []⟩, ⟨some 63, .fieldAddr 1 (.t 62), some (61, false), []⟩, ⟨some 64, .load 1 false (.t 63), some (61, false), []⟩, ⟨some 65, .bin .lss (.t 64) (.c (.int .i64 (0))), some (61, false), []⟩, ⟨some 66, .pick (.t 61) (.c (.bool true)) (.t 65), none, []⟩, ⟨some 67, .mv (.t 66), none, []⟩, ⟨some 68, .fieldAddr 2 (.t 5), some (67, false), []⟩, ⟨some 69, .fieldAddr 0 (.t 68), some (67, false), []⟩, ⟨some 70, .load 1 false (.t 69), some (67, false), []⟩, ⟨some 71, .fieldAddr 1 (.t 7), some (67, false), []⟩, ⟨some 72, .load 1 false (.t 71), some (67, false), []⟩, ⟨some 73, .fieldAddr 4 (.t 5), some (67, false), []⟩, ⟨some 74, .load 1 false (.t 73), some (67, false), []⟩, ⟨some 75, .bin .sub (.t 72) (.t 74), some (67, false), []⟩, ⟨some 76, .bin .gtr (.t 70) (.t 75), some (67, false), []⟩, ⟨some 77, .pick (.t 67) (.c (.bool true)) (.t 76), none, []⟩, ⟨some 78, .mv (.t 77), none, []⟩, ⟨some 79, .fieldAddr 2 (.t 5), some (78, false), []⟩, ⟨some 80, .fieldAddr 1 (.t 79), some (78, false), []⟩, ⟨some 81, .load 1 false (.t 80), some (78, false), []⟩, ⟨some 82, .fieldAddr 2 (.t 7), some (78, false), []⟩, ⟨some 83, .load 1 false (.t 82), some (78, false), []⟩, ⟨some 84, .fieldAddr 5 (.t 5), some (78, false), []⟩, ⟨some 85, .load 1 false (.t 84), some (78, false), []⟩, ⟨some 86, .bin .sub (.t 83) (.t 85), some (78, false), []⟩, ⟨some 87, .bin .gtr (.t 81) (.t 86), some (78, false), []⟩, ⟨some 88, .pick (.t 78) (.c (.bool true)) (.t 87), none, []⟩, ⟨some 56, .mv (.t 88), none, []⟩]).seq (ACode.cond (.t 56) ((ACode.region false [⟨some 6, .mv (.c (.int .i64 (18))), none, []⟩]).seq ACode.ret) ((ACode.region false [⟨some 90, .mv (.t 1), none, []⟩, ⟨some 91, .mkfn 70 [.t 5], none, []⟩, ⟨some 92, .call 69 [.t 90, .t 91], none, []⟩, ⟨some 89, .mv (.t 92), none, []⟩]).seq (ACode.cond (.t 89) ((ACode.region false [⟨some 6, .mv (.c (.int .i64 (19))), none, []⟩]).seq ACode.ret) ACode.skip))))))))))).seq ((ACode.region false [⟨some 6, .mv (.c (.int .i64 (0))), none, []⟩]).seq ACode.ret))))
theorem Tryz.F52 : FnFacts Tryz.prog 52 Tryz.f52 Tryz.ac52 93 [.tmp 6] := ⟨Tryz.func52, by kernel_rfl, by kernel_rfl, by kernel_rfl, by kernel_rfl, by kernel_rfl, by kernel_rfl, by kernel_rfl⟩
def Tryz.ac57 : ACode := ((ACode.region false [⟨some 3, .box 1 (.t 0), none, []⟩, ⟨some 4, .box 1 (.t 1), none, []⟩, ⟨some 5, .box 1 (.t 2), none, []⟩, ⟨some 6, .mv (.c (.slice none 0 0)), none, []⟩]).seq ((ACode.region true [⟨some 15, .load 1 false (.t 3), none, []⟩, ⟨some 16, .call 86 [.t 15], none, [0]⟩, ⟨some 17, .load 1 false (.t 4), none, []⟩, ⟨some 18, .call 86 [.t 17], none, [2, 1]⟩, ⟨none, .store 1 (.t 3) (.t 16), none, [1, 3, 0, 1]⟩, ⟨none, .store 1 (.t 4) (.t 18), none, [3, 4, 0, 1, 2, 3, 4]⟩]).seq ((ACode.region false [⟨some 7, .mv (.c (.slice none 0 0)), none, []⟩]).seq (((ACode.region false [⟨some 19, .load 1 false (.t 3), none, []⟩, ⟨some 20, .load 1 false (.t 4), none, []⟩, ⟨some 21, .buildSlice 35 1 [.t 19, .t 20], none, []⟩, ⟨some 22, .call 87 [.t 21], none, []⟩, ⟨some 23, .len (.t 22), none, []⟩, ⟨some 24, .mv (.c (.int .i64 (0))), none, []⟩]).seq (ACode.block 0 ((ACode.region false [⟨some 25, .bin .lss (.t 24) (.t 23), none, []⟩]).seq ((ACode.cond (.t 25) ACode.skip (ACode.exit 0)).seq ((ACode.block 1 ((ACode.region false [⟨some 26, .idxAddr 2 (.t 22) (.t 24), none, []⟩, ⟨some 27, .load 2 true (.t 26), none, []⟩, ⟨some 9, .alloc [.int .i64 (0), .int .i64 (0)], none, []⟩, ⟨none, .store 2 (.t 9) (.t 27), none, []⟩]).seq (ACode.region false [⟨some 28, .mv (.t 7), none, []⟩, ⟨some 29, .fieldAddr 0 (.t 9), none, []⟩, ⟨some 30, .load 1 false (.t 29), none, []⟩, ⟨some 31, .fieldAddr 1 (.t 9), none, []⟩, ⟨some 32, .load 1 false (.t 31), none, []⟩, ⟨some 33, .buildSlice 3 1 [.t 30, .t 32], none, []⟩, ⟨some 34, .append 3 1 8 (.t 28) (.t 33), none, []⟩, ⟨some 7, .mv (.t 34), none, []⟩]))).seq (ACode.region false [⟨some 35, .bin .add (.t 24) (.c (.int .i64 (1))), none, []⟩, ⟨some 24, .mv (.t 35), none, []⟩])))).loop)).seq ((ACode.region false [⟨some 36, .mv (.t 7), none, []⟩, ⟨some 37, .call 33 [.t 36], none, []⟩]).seq ((ACode.region false [⟨some 38, .mv (.t 7), none, []⟩, ⟨some 39, .call 34 [.t 38], none, []⟩, ⟨some 7, .mv (.t 39), none, []⟩]).seq ((ACode.region false [⟨some 10, .alloc [.slice none 0 0], none, []⟩]).seq ((ACode.region false [⟨some 11, .alloc [.int .i64 (0)], none, []⟩, ⟨some 12, .alloc [.int .i64 (0)], none, []⟩, ⟨none, .store 1 (.t 11) (.c (.int .i64 (0))), none, []⟩, ⟨none, .store 1 (.t 12) (.c (.int .i64 (0))), none, []⟩]).seq ((ACode.region false [⟨some 40, .mkfn 88 [.t 11, .t 3, .t 12, .t 4, .t 5, .t 10], none, []⟩, ⟨some 13, .mv (.t 40), none, []⟩]).seq (((ACode.region false [⟨some 14, .mv (.c (.int .i64 (1))), none, []⟩]).seq (ACode.block 2 (((ACode.region false [⟨some 41, .mv (.t 14), none, []⟩, ⟨some 42, .mv (.t 7), none, []⟩, ⟨some 43, .len (.t 42), none, []⟩, ⟨some 44, .bin .lss (.t 41) (.t 43), none, []⟩]).seq (ACode.cond (.t 44) ACode.skip (ACode.exit 2))).seq ((ACode.block 3 (ACode.region true [⟨some 47, .mv (.t 13), none, []⟩, ⟨some 48, .mv (.t 7), none, []⟩, ⟨some 49, .mv (.t 14), none, []⟩, ⟨some 50, .bin .sub (.t 49) (.c (.int .i64 (1))), none, [2]⟩, ⟨some 51, .idxAddr 1 (.t 48) (.t 50), none, [1, 3]⟩, ⟨some 52, .load 1 false (.t 51), none, [4]⟩, ⟨some 53, .mv (.t 7), none, []⟩, ⟨some 54, .mv (.t 14), none, []⟩, ⟨some 55, .idxAddr 1 (.t 53) (.t 54), none, [6, 7]⟩, ⟨some 56, .load 1 false (.t 55), none, [8]⟩, ⟨some 57, .callv (.t 47) [.t 52, .t 56], none, [0, 5, 9]⟩])).seq (ACode.region false [⟨some 45, .mv (.t 14), none, []⟩, ⟨some 46, .bin .add (.t 45) (.c (.int .i64 (1))), none, []⟩, ⟨some 14, .mv (.t 46), none, []⟩]))).loop)).seq ((ACode.region false [⟨some 58, .load 1 false (.t 10), none, []⟩, ⟨some 59, .call 86 [.t 58], none, []⟩, ⟨some 6, .mv (.t 59), none, []⟩]).seq ACode.ret)))))))))))
theorem Tryz.F57 : FnFacts Tryz.prog 57 Tryz.f57 Tryz.ac57 60 [.tmp 6] := ⟨Tryz.func57, by kernel_rfl, by kernel_rfl, by kernel_rfl, by kernel_rfl, by kernel_rfl, by kernel_rfl, by kernel_rfl⟩
def Tryz.ac58 : ACode := ((ACode.region false [⟨some 4, .mv (.c (.bool false)), none, []⟩]).seq ((ACode.region false [⟨some 5, .mv (.t 0), none, []⟩, ⟨some 6, .mv (.t 5), none, []⟩, ⟨some 7, .mv (.t 1), some (6, true), []⟩, ⟨some 8, .un .not (.t 7), some (6, true), []⟩, ⟨some 9, .pick (.t 6) (.t 8) (.c (.bool false)), none, []⟩, ⟨some 4, .mv (.t 9), none, []⟩]).seq ACode.ret))
theorem Tryz.F58 : FnFacts Tryz.prog 58 Tryz.f58 Tryz.ac58 10 [.tmp 4] := ⟨Tryz.func58, by kernel_rfl, by kernel_rfl, by kernel_rfl, by kernel_rfl, by kernel_rfl, by kernel_rfl, by kernel_rfl⟩
def Tryz.ac59 : ACode := ((ACode.region false [⟨some 4, .mv (.c (.bool false)), none, []⟩]).seq ((ACode.region false [⟨some 5, .mv (.t 0), none, []⟩, ⟨some 6, .mv (.t 5), none, []⟩, ⟨some 7, .mv (.t 1), some (6, true), []⟩, ⟨some 8, .pick (.t 6) (.t 7) (.c (.bool false)), none, []⟩, ⟨some 4, .mv (.t 8), none, []⟩]).seq ACode.ret))
theorem Tryz.F59 : FnFacts Tryz.prog 59 Tryz.f59 Tryz.ac59 9 [.tmp 4] := ⟨Tryz.func59, by kernel_rfl, by kernel_rfl, by kernel_rfl, by kernel_rfl, by kernel_rfl, by kernel_rfl, by kernel_rfl⟩
def Tryz.ac60 : ACode := ((ACode.region false [⟨some 2, .mv (.c (.slice none 0 0)), none, []⟩]).seq ((ACode.region false [⟨some 3, .mv (.c (.slice none 0 0)), none, []⟩]).seq (((ACode.region false [⟨some 4, .mv (.c (.int .i64 (0))), none, []⟩]).seq (ACode.block 0 (((ACode.region false [⟨some 10, .mv (.t 4), none, []⟩, ⟨some 11, .mv (.t 0), none, []⟩, ⟨some 12, .len (.t 11), none, []⟩, ⟨some 13, .bin .lss (.t 10) (.t 12), none, []⟩]).seq (ACode.cond (.t 13) ACode.skip (ACode.exit 0))).seq ((ACode.block 1 (((ACode.region true [⟨some 16, .mv (.t 0), none, []⟩, ⟨some 17, .mv (.t 4), none, []⟩, ⟨some 18, .idxAddr 2 (.t 16) (.t 17), none, [0, 1]⟩, ⟨some 19, .fieldAddr 0 (.t 18), none, [2]⟩, ⟨some 20, .load 1 false (.t 19), none, [3]⟩, ⟨some 21, .mv (.t 0), none, []⟩, ⟨some 22, .mv (.t 4), none, []⟩, ⟨some 23, .idxAddr 2 (.t 21) (.t 22), none, [5, 6]⟩, ⟨some 24, .fieldAddr 1 (.t 23), none, [7]⟩, ⟨some 25, .load 1 false (.t 24), none, [8]⟩, ⟨some 26, .bin .geq (.t 20) (.t 25), none, [4, 9]⟩]).seq (ACode.cond (.t 26) (ACode.exit 1) ACode.skip)).seq ((ACode.region false [⟨some 5, .mv (.c (.int .i64 (0))), none, []⟩]).seq ((ACode.block 2 (((ACode.region true [⟨some 27, .mv (.t 5), none, []⟩, ⟨some 28, .mv (.t 3), none, []⟩, ⟨some 29, .len (.t 28), none, [1]⟩, ⟨some 30, .bin .lss (.t 27) (.t 29), none, [0, 2]⟩, ⟨some 31, .mv (.t 30), none, [3]⟩, ⟨some 32, .mv (.t 3), some (31, true), [4]⟩, ⟨some 33, .mv (.t 5), some (31, true), [4]⟩, ⟨some 34, .idxAddr 2 (.t 32) (.t 33), some (31, true), [5, 6, 4]⟩, ⟨some 35, .fieldAddr 0 (.t 34), some (31, true), [7, 4]⟩, ⟨some 36, .load 1 false (.t 35), some (31, true), [8, 4]⟩, ⟨some 37, .mv (.t 0), some (31, true), [4]⟩, ⟨some 38, .mv (.t 4), some (31, true), [4]⟩, ⟨some 39, .idxAddr 2 (.t 37) (.t 38), some (31, true), [10, 11, 4]⟩, ⟨some 40, .fieldAddr 0 (.t 39), some (31, true), [12, 4]⟩, ⟨some 41, .load 1 false (.t 40), some (31, true), [13, 4]⟩, ⟨some 42, .bin .lss (.t 36) (.t 41), some (31, true), [9, 14, 4]⟩, ⟨some 43, .pick (.t 31) (.t 42) (.c (.bool false)), none, [4, 15]⟩]).seq (ACode.cond (.t 43) ACode.skip (ACode.exit 2))).seq (ACode.block 3 (ACode.region false [⟨some 44, .mv (.t 5), none, []⟩, ⟨some 45, .bin .add (.t 44) (.c (.int .i64 (1))), none, []⟩, ⟨some 5, .mv (.t 45), none, []⟩]))).loop).seq ((ACode.region false [⟨some 46, .mv (.t 3), none, []⟩, ⟨some 47, .mv (.t 0), none, []⟩, ⟨some 48, .mv (.t 4), none, []⟩, ⟨some 49, .idxAddr 2 (.t 47) (.t 48), none, []⟩, ⟨some 50, .load 2 true (.t 49), none, []⟩, ⟨some 51, .buildSlice 30 2 [.t 50], none, []⟩, ⟨some 52, .append 30 2 16 (.t 46) (.t 51), none, []⟩, ⟨some 3, .mv (.t 52), none, []⟩]).seq (((ACode.region false [⟨some 53, .mv (.t 3), none, []⟩, ⟨some 54, .len (.t 53), none, []⟩, ⟨some 55, .bin .sub (.t 54) (.c (.int .i64 (1))), none, []⟩, ⟨some 6, .mv (.t 55), none, []⟩]).seq (ACode.block 4 (((ACode.region false [⟨some 56, .mv (.t 6), none, []⟩, ⟨some 57, .mv (.t 5), none, []⟩, ⟨some 58, .bin .gtr (.t 56) (.t 57), none, []⟩]).seq (ACode.cond (.t 58) ACode.skip (ACode.exit 4))).seq ((ACode.block 5 (ACode.region false [⟨some 61, .mv (.t 3), none, []⟩, ⟨some 62, .mv (.t 6), none, []⟩, ⟨some 63, .mv (.t 3), none, []⟩, ⟨some 64, .mv (.t 6), none, []⟩, ⟨some 65, .bin .sub (.t 64) (.c (.int .i64 (1))), none, []⟩, ⟨some 66, .idxAddr 2 (.t 63) (.t 65), none, []⟩, ⟨some 67, .load 2 true (.t 66), none, []⟩, ⟨some 68, .idxAddr 2 (.t 61) (.t 62), none, []⟩, ⟨none, .store 2 (.t 68) (.t 67), none, []⟩])).seq (ACode.region false [⟨some 59, .mv (.t 6), none, []⟩, ⟨some 60, .bin .sub (.t 59) (.c (.int .i64 (1))), none, []⟩, ⟨some 6, .mv (.t 60), none, []⟩]))).loop)).seq (ACode.region false [⟨some 69, .mv (.t 3), none, []⟩, ⟨some 70, .mv (.t 5), none, []⟩, ⟨some 71, .mv (.t 0), none, []⟩, ⟨some 72, .mv (.t 4), none, []⟩, ⟨some 73, .idxAddr 2 (.t 71) (.t 72), none, []⟩, ⟨some 74, .load 2 true (.t 73), none, []⟩, ⟨some 75, .idxAddr 2 (.t 69) (.t 70), none, []⟩, ⟨none, .store 2 (.t 75) (.t 74), none, []⟩]))))))).seq (ACode.region false [⟨some 14, .mv (.t 4), none, []⟩, ⟨some 15, .bin .add (.t 14) (.c (.int .i64 (1))), none, []⟩, ⟨some 4, .mv (.t 15), none, []⟩]))).loop)).seq ((ACode.region false [⟨some 7, .mv (.c (.slice none 0 0)), none, []⟩]).seq (((ACode.region false [⟨some 8, .mv (.c (.int .i64 (0))), none, []⟩]).seq (ACode.block 6 (((ACode.region false [⟨some 76, .mv (.t 8), none, []⟩, ⟨some 77, .mv (.t 3), none, []⟩, ⟨some 78, .len (.t 77), none, []⟩, ⟨some 79, .bin .lss (.t 76) (.t 78), none, []⟩]).seq (ACode.cond (.t 79) ACode.skip (ACode.exit 6))).seq ((ACode.block 7 ((ACode.region false [⟨some 82, .mv (.t 7), none, []⟩, ⟨some 83, .len (.t 82), none, []⟩, ⟨some 84, .bin .sub (.t 83) (.c (.int .i64 (1))), none, []⟩, ⟨some 9, .mv (.t 84), none, []⟩]).seq ((ACode.region true [⟨some 85, .mv (.t 9), none, []⟩, ⟨some 86, .bin .geq (.t 85) (.c (.int .i64 (0))), none, [0]⟩, ⟨some 87, .mv (.t 86), none, [1]⟩, ⟨some 88, .mv (.t 3), some (87, true), [2]⟩, ⟨some 89, .mv (.t 8), some (87, true), [2]⟩, ⟨some 90, .idxAddr 2 (.t 88) (.t 89), some (87, true), [3, 4, 2]⟩, ⟨some 91, .fieldAddr 0 (.t 90), some (87, true), [5, 2]⟩, ⟨some 92, .load 1 false (.t 91), some (87, true), [6, 2]⟩, ⟨some 93, .mv (.t 7), some (87, true), [2]⟩, ⟨some 94, .mv (.t 9), some (87, true), [2]⟩, ⟨some 95, .idxAddr 2 (.t 93) (.t 94), some (87, true), [8, 9, 2]⟩, ⟨some 96, .fieldAddr 1 (.t 95), some (87, true), [10, 2]⟩, ⟨some 97, .load 1 false (.t 96), some (87, true), [11, 2]⟩, ⟨some 98, .bin .leq (.t 92) (.t 97), some (87, true), [7, 12, 2]⟩, ⟨some 99, .pick (.t 87) (.t 98) (.c (.bool false)), none, [2, 13]⟩]).seq (ACode.cond (.t 99) (ACode.region true [⟨some 100, .mv (.t 7), none, []⟩, ⟨some 101, .mv (.t 9), none, []⟩, ⟨some 102, .mv (.t 7), none, []⟩, ⟨some 103, .mv (.t 9), none, []⟩, ⟨some 104, .idxAddr 2 (.t 102) (.t 103), none, [2, 3]⟩, ⟨some 105, .fieldAddr 1 (.t 104), none, [4]⟩, ⟨some 106, .load 1 false (.t 105), none, [5]⟩, ⟨some 107, .mv (.t 3), none, []⟩, ⟨some 108, .mv (.t 8), none, []⟩, ⟨some 109, .idxAddr 2 (.t 107) (.t 108), none, [7, 8]⟩, ⟨some 110, .fieldAddr 1 (.t 109), none, [9]⟩, ⟨some 111, .load 1 false (.t 110), none, [10]⟩, ⟨some 112, .minmax true (.t 106) (.t 111), none, [6, 11]⟩, ⟨some 113, .idxAddr 2 (.t 100) (.t 101), none, [0, 1, 0, 1, 2, 3, 4, 5, 6, 7, 8, 9, 10, 11, 12]⟩, ⟨some 114, .fieldAddr 1 (.t 113), none, [13, 0, 1, 2, 3, 4, 5, 6, 7, 8, 9, 10, 11, 12]⟩, ⟨none, .store 1 (.t 114) (.t 112), none, [14, 12, 0, 1, 2, 3, 4, 5, 6, 7, 8, 9, 10, 11, 12]⟩]) (ACode.region false [⟨some 115, .mv (.t 7), none, []⟩, ⟨some 116, .mv (.t 3), none, []⟩, ⟨some 117, .mv (.t 8), none, []⟩, ⟨some 118, .idxAddr 2 (.t 116) (.t 117), none, []⟩, ⟨some 119, .load 2 true (.t 118), none, []⟩, ⟨some 120, .buildSlice 30 2 [.t 119], none, []⟩, ⟨some 121, .append 30 2 16 (.t 115) (.t 120), none, []⟩, ⟨some 7, .mv (.t 121), none, []⟩]))))).seq (ACode.region false [⟨some 80, .mv (.t 8), none, []⟩, ⟨some 81, .bin .add (.t 80) (.c (.int .i64 (1))), none, []⟩, ⟨some 8, .mv (.t 81), none, []⟩]))).loop)).seq ((ACode.region false [⟨some 122, .mv (.t 7), none, []⟩, ⟨some 2, .mv (.t 122), none, []⟩]).seq ACode.ret))))))
theorem Tryz.F60 : FnFacts Tryz.prog 60 Tryz.f60 Tryz.ac60 123 [.tmp 2] := ⟨Tryz.func60, by kernel_rfl, by kernel_rfl, by kernel_rfl, by kernel_rfl, by kernel_rfl, by kernel_rfl, by kernel_rfl⟩
def Tryz.ac61 : ACode := ((ACode.region false [⟨some 2, .mv (.c (.bool false)), none, []⟩]).seq ((ACode.region false [⟨some 6, .mv (.t 0), none, []⟩, ⟨some 7, .len (.t 6), none, []⟩, ⟨some 8, .bin .sub (.t 7) (.c (.int .i64 (1))), none, []⟩, ⟨some 3, .mv (.t 8), none, []⟩]).seq (((ACode.region false [⟨some 9, .mv (.t 0), none, []⟩, ⟨some 10, .len (.t 9), none, []⟩, ⟨some 11, .mv (.c (.int .i64 (0))), none, []⟩]).seq (ACode.block 0 ((ACode.region false [⟨some 12, .bin .lss (.t 11) (.t 10), none, []⟩]).seq ((ACode.cond (.t 12) ACode.skip (ACode.exit 0)).seq ((ACode.block 1 ((ACode.region false [⟨some 13, .idxAddr 1 (.t 9) (.t 11), none, []⟩, ⟨some 14, .load 1 false (.t 13), none, []⟩, ⟨some 5, .mv (.t 14), none, []⟩]).seq (((ACode.region false [⟨some 15, .mv (.t 5), none, []⟩, ⟨some 16, .call 49 [.t 15], none, []⟩, ⟨some 17, .un .not (.t 16), none, []⟩]).seq (ACode.cond (.t 17) ((ACode.region false [⟨some 2, .mv (.c (.bool false)), none, []⟩]).seq ACode.ret) ACode.skip)).seq (ACode.region false [⟨some 18, .mv (.t 3), none, []⟩, ⟨some 19, .mv (.t 5), none, []⟩, ⟨some 20, .lenStr (.t 19), none, []⟩, ⟨some 21, .bin .add (.t 18) (.t 20), none, []⟩, ⟨some 3, .mv (.t 21), none, []⟩])))).seq (ACode.region false [⟨some 22, .bin .add (.t 11) (.c (.int .i64 (1))), none, []⟩, ⟨some 11, .mv (.t 22), none, []⟩])))).loop)).seq ((ACode.region false [⟨some 23, .mv (.t 0), none, []⟩, ⟨some 24, .len (.t 23), none, []⟩, ⟨some 25, .bin .geq (.t 24) (.c (.int .i64 (1))), none, []⟩, ⟨some 26, .mv (.t 25), none, []⟩, ⟨some 27, .mv (.t 0), some (26, true), []⟩, ⟨some 28, .len (.t 27), some (26, true), []⟩, ⟨some 29, .bin .leq (.t 28) (.c (.int .i64 (8))), some (26, true), []⟩, ⟨some 30, .pick (.t 26) (.t 29) (.c (.bool false)), none, []⟩, ⟨some 31, .mv (.t 30), none, []⟩, ⟨some 32, .mv (.t 3), some (31, true), []⟩, ⟨some 33, .bin .leq (.t 32) (.c (.int .i64 (64))), some (31, true), []⟩, ⟨some 34, .pick (.t 31) (.t 33) (.c (.bool false)), none, []⟩, ⟨some 2, .mv (.t 34), none, []⟩]).seq ACode.ret))))
theorem Tryz.F61 : FnFacts Tryz.prog 61 Tryz.f61 Tryz.ac61 35 [.tmp 2] := ⟨Tryz.func61, by kernel_rfl, by kernel_rfl, by kernel_rfl, by kernel_rfl, by kernel_rfl, by kernel_rfl, by kernel_rfl⟩
def Tryz.ac62 : ACode := ((ACode.region false [⟨some 4, .mv (.c (.slice none 0 0)), none, []⟩]).seq ((ACode.region false [⟨some 5, .mv (.t 0), none, []⟩, ⟨some 6, .mv (.t 1), none, []⟩, ⟨some 7, .call 89 [.t 5, .t 6, .c (.int .i64 (0)), .c (.int .i64 (Int.negSucc 0))], none, []⟩, ⟨some 4, .mv (.t 7), none, []⟩]).seq ACode.ret))
theorem Tryz.F62 : FnFacts Tryz.prog 62 Tryz.f62 Tryz.ac62 8 [.tmp 4] := ⟨Tryz.func62, by kernel_rfl, by kernel_rfl, by kernel_rfl, by kernel_rfl, by kernel_rfl, by kernel_rfl, by kernel_rfl⟩
def Tryz.ac63 : ACode := ((ACode.region false [⟨some 2, .box 8 (.t 0), none, []⟩, ⟨some 3, .mv (.c (.bool false)), none, []⟩]).seq ((ACode.region false [⟨some 4, .load 8 true (.t 1), none, []⟩, ⟨some 5, .load 8 true (.t 2), none, []⟩, ⟨some 6, .call 64 [.t 4, .t 5], none, []⟩, ⟨some 3, .mv (.t 6), none, []⟩]).seq ACode.ret))
theorem Tryz.F63 : FnFacts Tryz.prog 63 Tryz.f63 Tryz.ac63 7 [.tmp 3] := ⟨Tryz.func63, by kernel_rfl, by kernel_rfl, by kernel_rfl, by kernel_rfl, by kernel_rfl, by kernel_rfl, by kernel_rfl⟩
def Tryz.ac64 : ACode := ((ACode.region false [⟨some 2, .box 8 (.t 0), none, []⟩, ⟨some 3, .box 8 (.t 1), none, []⟩, ⟨some 4, .mv (.c (.bool false)), none, []⟩]).seq ((ACode.region false [⟨some 5, .fieldAddr 6 (.t 2), none, []⟩, ⟨some 6, .fieldAddr 0 (.t 5), none, []⟩, ⟨some 7, .load 1 false (.t 6), none, []⟩, ⟨some 8, .fieldAddr 6 (.t 3), none, []⟩, ⟨some 9, .fieldAddr 1 (.t 8), none, []⟩, ⟨some 10, .load 1 false (.t 9), none, []⟩, ⟨some 11, .bin .lss (.t 7) (.t 10), none, []⟩, ⟨some 12, .mv (.t 11), none, []⟩, ⟨some 13, .fieldAddr 6 (.t 3), some (12, true), []⟩, ⟨some 14, .fieldAddr 0 (.t 13), some (12, true), []⟩, ⟨some 15, .load 1 false (.t 14), some (12, true), []⟩, ⟨some 16, .fieldAddr 6 (.t 2), some (12, true), []⟩, ⟨some 17, .fieldAddr 1 (.t 16), some (12, true), []⟩, ⟨some 18, .load 1 false (.t 17), some (12, true), []⟩, ⟨some 19, .bin .lss (.t 15) (.t 18), some (12, true), []⟩, ⟨some 20, .pick (.t 12) (.t 19) (.c (.bool false)), none, []⟩, ⟨some 21, .mv (.t 20), none, []⟩, ⟨some 22, .fieldAddr 2 (.t 2), some (21, true), []⟩, ⟨some 23, .fieldAddr 0 (.t 22), some (21, true), []⟩, ⟨some 24, .load 1 false (.t 23), some (21, true), []⟩, ⟨some 25, .fieldAddr 2 (.t 3), some (21, true), []⟩, ⟨some 26, .fieldAddr 0 (.t 25), some (21, true), []⟩, ⟨some 27, .load 1 false (.t 26), some (21, true), []⟩, ⟨some 28, .fieldAddr 4 (.t 3), some (21, true), []⟩, ⟨some 29, .load 1 false (.t 28), some (21, true), []⟩, ⟨some 30, .bin .add (.t 27) (.t 29), some (21, true), []⟩, ⟨some 31, .bin .lss (.t 24) (.t 30), some (21, true), []⟩, ⟨some 32, .pick (.t 21) (.t 31) (.c (.bool false)), none, []⟩, ⟨some 33, .mv (.t 32), none, []⟩, ⟨some 34, .fieldAddr 2 (.t 3), some (33, true), []⟩, ⟨some 35, .fieldAddr 0 (.t 34), some (33, true), []⟩, ⟨some 36, .load 1 false (.t 35), some (33, true), []⟩, ⟨some 37, .fieldAddr 2 (.t 2), some (33, true), []⟩, ⟨some 38, .fieldAddr 0 (.t 37), some (33, true), []⟩, ⟨some 39, .load 1 false (.t 38), some (33, true), []⟩, ⟨some 40, .fieldAddr 4 (.t 2), some (33, true), []⟩, ⟨some 41, .load 1 false (.t 40), some (33, true), []⟩, ⟨some 42, .bin .add (.t 39) (.t 41), some (33, true), []⟩, ⟨some 43, .bin .lss (.t 36) (.t 42), some (33, true), []⟩, ⟨some 44, .pick (.t 33) (.t 43) (.c (.bool false)), none, []⟩, ⟨some 45, .mv (.t 44), none, []⟩, ⟨some 46, .fieldAddr 2 (.t 2), some (45, true), []⟩, ⟨some 47, .fieldAddr 1 (.t 46), some (45, true), []⟩, ⟨some 48, .load 1 false (.t 47), some (45, true), []⟩, ⟨some 49, .fieldAddr 2 (.t 3), some (45, true), []⟩, ⟨some 50, .fieldAddr 1 (.t 49), some (45, true), []⟩, ⟨some 51, .load 1 false (.t 50), some (45, true), []⟩, ⟨some 52, .fieldAddr 5 (.t 3), some (45, true), []⟩, ⟨some 53, .load 1 false (.t 52), some (45, true), []⟩, ⟨some 54, .bin .add (.t 51) (.t 53), some (45, true), []⟩, ⟨some 55, .bin .lss (.t 48) (.t 54), some (45, true), []⟩, ⟨some 56, .pick (.t 45) (.t 55) (.c (.bool false)), none, []⟩, ⟨some 57, .mv (.t 56), none, []⟩, ⟨some 58, .fieldAddr 2 (.t 3), some (57, true), []⟩, ⟨some 59, .fieldAddr 1 (.t 58), some (57, true), []⟩, ⟨some 60, .load 1 false (.t 59), some (57, true), []⟩, ⟨some 61, .fieldAddr 2 (.t 2), some (57, true), []⟩, ⟨some 62, .fieldAddr 1 (.t 61), some (57, true), []⟩, ⟨some 63, .load 1 false (.t 62), some (57, true), []⟩, ⟨some 64, .fieldAddr 5 (.t 2), some (57, true), []⟩, ⟨some 65, .load 1 false (.t 64), some (57, true), []⟩, ⟨some 66, .bin .add (.t 63) (.t 65), some (57, true), []⟩, ⟨some 67, .bin .lss (.t 60) (.t 66), some (57, true), []⟩, ⟨some 68, .pick (.t 57) (.t 67) (.c (.bool false)), none, []⟩, ⟨some 4, .mv (.t 68), none, []⟩]).seq ACode.ret))
theorem Tryz.F64 : FnFacts Tryz.prog 64 Tryz.f64 Tryz.ac64 69 [.tmp 4] := ⟨Tryz.func64, by kernel_rfl, by kernel_rfl, by kernel_rfl, by kernel_rfl, by kernel_rfl, by kernel_rfl, by kernel_rfl⟩
def Tryz.ac67 : ACode := ((ACode.region false [⟨some 4, .mv (.c (.int .i64 (0))), none, []⟩]).seq (((ACode.region false [⟨some 6, .mv (.t 0), none, []⟩, ⟨some 7, .len (.t 6), none, []⟩, ⟨some 8, .mv (.c (.int .i64 (0))), none, []⟩]).seq (ACode.block 0 ((ACode.region false [⟨some 9, .bin .lss (.t 8) (.t 7), none, []⟩]).seq ((ACode.cond (.t 9) ACode.skip (ACode.exit 0)).seq ((ACode.block 1 ((ACode.region false [⟨some 10, .mv (.t 8), none, []⟩, ⟨some 5, .mv (.t 10), none, []⟩]).seq ((ACode.region false [⟨some 11, .mv (.t 1), none, []⟩, ⟨some 12, .mv (.t 0), none, []⟩, ⟨some 13, .mv (.t 5), none, []⟩, ⟨some 14, .idxAddr 3 (.t 12) (.t 13), none, []⟩, ⟨some 15, .load 3 true (.t 14), none, []⟩, ⟨some 16, .callv (.t 11) [.t 15], none, []⟩]).seq (ACode.cond (.t 16) ((ACode.region false [⟨some 17, .mv (.t 5), none, []⟩, ⟨some 4, .mv (.t 17), none, []⟩]).seq ACode.ret) ACode.skip)))).seq (ACode.region false [⟨some 18, .bin .add (.t 8) (.c (.int .i64 (1))), none, []⟩, ⟨some 8, .mv (.t 18), none, []⟩])))).loop)).seq ((ACode.region false [⟨some 4, .mv (.c (.int .i64 (Int.negSucc 0))), none, []⟩]).seq ACode.ret)))
theorem Tryz.F67 : FnFacts Tryz.prog 67 Tryz.f67 Tryz.ac67 19 [.tmp 4] := ⟨Tryz.func67, by kernel_rfl, by kernel_rfl, by kernel_rfl, by kernel_rfl, by kernel_rfl, by kernel_rfl, by kernel_rfl⟩
def Tryz.ac68 : ACode := ((ACode.region false [⟨some 2, .box 3 (.t 0), none, []⟩, ⟨some 3, .mv (.c (.bool false)), none, []⟩]).seq ((ACode.region false [⟨some 4, .fieldAddr 0 (.t 2), none, []⟩, ⟨some 5, .load 1 false (.t 4), none, []⟩, ⟨some 6, .load 1 false (.t 1), none, []⟩, ⟨some 7, .bin .eql (.t 5) (.t 6), none, []⟩, ⟨some 3, .mv (.t 7), none, []⟩]).seq ACode.ret))
theorem Tryz.F68 : FnFacts Tryz.prog 68 Tryz.f68 Tryz.ac68 8 [.tmp 3] := ⟨Tryz.func68, by kernel_rfl, by kernel_rfl, by kernel_rfl, by kernel_rfl, by kernel_rfl, by kernel_rfl, by kernel_rfl⟩
def Tryz.ac69 : ACode := ((ACode.region false [⟨some 4, .mv (.c (.bool false)), none, []⟩]).seq ((ACode.region false [⟨some 5, .mv (.t 0), none, []⟩, ⟨some 6, .mv (.t 1), none, []⟩, ⟨some 7, .call 92 [.t 5, .t 6], none, []⟩, ⟨some 8, .bin .geq (.t 7) (.c (.int .i64 (0))), none, []⟩, ⟨some 4, .mv (.t 8), none, []⟩]).seq ACode.ret))
theorem Tryz.F69 : FnFacts Tryz.prog 69 Tryz.f69 Tryz.ac69 9 [.tmp 4] := ⟨Tryz.func69, by kernel_rfl, by kernel_rfl, by kernel_rfl, by kernel_rfl, by kernel_rfl, by kernel_rfl, by kernel_rfl⟩
def Tryz.ac70 : ACode := ((ACode.region false [⟨some 2, .box 8 (.t 0), none, []⟩, ⟨some 3, .mv (.c (.bool false)), none, []⟩]).seq ((ACode.region false [⟨some 4, .load 8 true (.t 1), none, []⟩, ⟨some 5, .load 8 true (.t 2), none, []⟩, ⟨some 6, .call 71 [.t 4, .t 5], none, []⟩, ⟨some 3, .mv (.t 6), none, []⟩]).seq ACode.ret))
theorem Tryz.F70 : FnFacts Tryz.prog 70 Tryz.f70 Tryz.ac70 7 [.tmp 3] := ⟨Tryz.func70, by kernel_rfl, by kernel_rfl, by kernel_rfl, by kernel_rfl, by kernel_rfl, by kernel_rfl, by kernel_rfl⟩
def Tryz.ac71 : ACode := ((ACode.region false [⟨some 2, .box 8 (.t 0), none, []⟩, ⟨some 3, .box 8 (.t 1), none, []⟩, ⟨some 4, .mv (.c (.bool false)), none, []⟩]).seq ((ACode.region false [⟨some 5, .fieldAddr 1 (.t 2), none, []⟩, ⟨some 6, .load 1 false (.t 5), none, []⟩, ⟨some 7, .fieldAddr 1 (.t 3), none, []⟩, ⟨some 8, .load 1 false (.t 7), none, []⟩, ⟨some 9, .bin .eql (.t 6) (.t 8), none, []⟩, ⟨some 10, .mv (.t 9), none, []⟩, ⟨some 11, .fieldAddr 6 (.t 2), some (10, true), []⟩, ⟨some 12, .fieldAddr 0 (.t 11), some (10, true), []⟩, ⟨some 13, .load 1 false (.t 12), some (10, true), []⟩, ⟨some 14, .fieldAddr 6 (.t 3), some (10, true), []⟩, ⟨some 15, .fieldAddr 1 (.t 14), some (10, true), []⟩, ⟨some 16, .load 1 false (.t 15), some (10, true), []⟩, ⟨some 17, .bin .lss (.t 13) (.t 16), some (10, true), []⟩, ⟨some 18, .pick (.t 10) (.t 17) (.c (.bool false)), none, []⟩, ⟨some 19, .mv (.t 18), none, []⟩, ⟨some 20, .fieldAddr 6 (.t 3), some (19, true), []⟩, ⟨some 21, .fieldAddr 0 (.t 20), some (19, true), []⟩, ⟨some 22, .load 1 false (.t 21), some (19, true), []⟩, ⟨some 23, .fieldAddr 6 (.t 2), some (19, true), []⟩, ⟨some 24, .fieldAddr 1 (.t 23), some (19, true), []⟩, ⟨some 25, .load 1 false (.t 24), some (19, true), []⟩, ⟨some 26, .bin .lss (.t 22) (.t 25), some (19, true), []⟩, ⟨some 27, .pick (.t 19) (.t 26) (.c (.bool false)), none, []⟩, ⟨some 28, .mv (.t 27), none, []⟩, ⟨some 29, .fieldAddr 2 (.t 2), some (28, true), []⟩, ⟨some 30, .fieldAddr 0 (.t 29), some (28, true), []⟩, ⟨some 31, .load 1 false (.t 30), some (28, true), []⟩, ⟨some 32, .fieldAddr 4 (.t 2), some (28, true), []⟩, ⟨some 33, .load 1 false (.t 32), some (28, true), []⟩, ⟨some 34, .fieldAddr 2 (.t 3), some (28, true), []⟩, ⟨some 35, .fieldAddr 0 (.t 34), some (28, true), []⟩, ⟨some 36, .load 1 false (.t 35), some (28, true), []⟩, ⟨some 37, .fieldAddr 4 (.t 3), some (28, true), []⟩, ⟨some 38, .load 1 false (.t 37), some (28, true), []⟩, ⟨some 39, .call 93 [.t 31, .t 33, .t 36, .t 38], some (28, true), []⟩, ⟨some 40, .pick (.t 28) (.t 39) (.c (.bool false)), none, []⟩, ⟨some 41, .mv (.t 40), none, []⟩, ⟨some 42, .fieldAddr 2 (.t 2), some (41, true), []⟩, ⟨some 43, .fieldAddr 1 (.t 42), some (41, true), []⟩, ⟨some 44, .load 1 false (.t 43), some (41, true), []⟩, ⟨some 45, .fieldAddr 5 (.t 2), some (41, true), []⟩, ⟨some 46, .load 1 false (.t 45), some (41, true), []⟩, ⟨some 47, .fieldAddr 2 (.t 3), some (41, true), []⟩, ⟨some 48, .fieldAddr 1 (.t 47), some (41, true), []⟩, ⟨some 49, .load 1 false (.t 48), some (41, true), []⟩, ⟨some 50, .fieldAddr 5 (.t 3), some (41, true), []⟩, ⟨some 51, .load 1 false (.t 50), some (41, true), []⟩, ⟨some 52, .call 93 [.t 44, .t 46, .t 49, .t 51], some (41, true), []⟩, ⟨some 53, .pick (.t 41) (.t 52) (.c (.bool false)), none, []⟩, ⟨some 4, .mv (.t 53), none, []⟩]).seq ACode.ret))
theorem Tryz.F71 : FnFacts Tryz.prog 71 Tryz.f71 Tryz.ac71 54 [.tmp 4] := ⟨Tryz.func71, by kernel_rfl, by kernel_rfl, by kernel_rfl, by kernel_rfl, by kernel_rfl, by kernel_rfl, by kernel_rfl⟩
def Tryz.ac86 : ACode := ((ACode.region false [⟨some 2, .mv (.c (.slice none 0 0)), none, []⟩]).seq ((ACode.region false [⟨some 8, .mv (.t 0), none, []⟩, ⟨some 9, .call 101 [.t 8], none, []⟩, ⟨some 10, .call 100 [.t 9, .f 102], none, []⟩, ⟨some 3, .mv (.t 10), none, []⟩]).seq ((ACode.region false [⟨some 11, .mv (.t 3), none, []⟩, ⟨some 12, .call 103 [.t 11, .f 104], none, []⟩]).seq ((ACode.region false [⟨some 4, .mv (.c (.slice none 0 0)), none, []⟩]).seq (((ACode.region false [⟨some 13, .mv (.t 3), none, []⟩, ⟨some 14, .len (.t 13), none, []⟩, ⟨some 15, .mv (.c (.int .i64 (0))), none, []⟩]).seq (ACode.block 0 ((ACode.region false [⟨some 16, .bin .lss (.t 15) (.t 14), none, []⟩]).seq ((ACode.cond (.t 16) ACode.skip (ACode.exit 0)).seq ((ACode.block 1 ((ACode.region false [⟨some 17, .idxAddr 2 (.t 13) (.t 15), none, []⟩, ⟨some 18, .load 2 true (.t 17), none, []⟩, ⟨some 6, .alloc [.int .i64 (0), .int .i64 (0)], none, []⟩, ⟨none, .store 2 (.t 6) (.t 18), none, []⟩]).seq ((ACode.region false [⟨some 19, .mv (.t 4), none, []⟩, ⟨some 20, .len (.t 19), none, []⟩, ⟨some 7, .mv (.t 20), none, []⟩]).seq ((ACode.region true [⟨some 21, .mv (.t 7), none, []⟩, ⟨some 22, .bin .gtr (.t 21) (.c (.int .i64 (0))), none, [0]⟩, ⟨some 23, .mv (.t 22), none, [1]⟩, ⟨some 24, .fieldAddr 0 (.t 6), some (23, true), [2]⟩, ⟨some 25, .load 1 false (.t 24), some (23, true), [3, 2]⟩, ⟨some 26, .mv (.t 4), some (23, true), [2]⟩, ⟨some 27, .mv (.t 7), some (23, true), [2]⟩, ⟨some 28, .bin .sub (.t 27) (.c (.int .i64 (1))), some (23, true), [6, 2]⟩, ⟨some 29, .idxAddr 2 (.t 26) (.t 28), some (23, true), [5, 7, 2]⟩, ⟨some 30, .fieldAddr 1 (.t 29), some (23, true), [8, 2]⟩, ⟨some 31, .load 1 false (.t 30), some (23, true), [9, 2]⟩, ⟨some 32, .bin .leq (.t 25) (.t 31), some (23, true), [4, 10, 2]⟩, ⟨some 33, .pick (.t 23) (.t 32) (.c (.bool false)), none, [2, 11]⟩]).seq (ACode.cond (.t 33) (ACode.region true [⟨some 34, .mv (.t 4), none, []⟩, ⟨some 35, .mv (.t 7), none, []⟩, ⟨some 36, .bin .sub (.t 35) (.c (.int .i64 (1))), none, [1]⟩, ⟨some 37, .mv (.t 4), none, []⟩, ⟨some 38, .mv (.t 7), none, []⟩, ⟨some 39, .bin .sub (.t 38) (.c (.int .i64 (1))), none, [4]⟩, ⟨some 40, .idxAddr 2 (.t 37) (.t 39), none, [3, 5]⟩, ⟨some 41, .fieldAddr 1 (.t 40), none, [6]⟩, ⟨some 42, .load 1 false (.t 41), none, [7]⟩, ⟨some 43, .fieldAddr 1 (.t 6), none, []⟩, ⟨some 44, .load 1 false (.t 43), none, [9]⟩, ⟨some 45, .minmax true (.t 42) (.t 44), none, [8, 10]⟩, ⟨some 46, .idxAddr 2 (.t 34) (.t 36), none, [0, 2, 0, 1, 2, 3, 4, 5, 6, 7, 8, 9, 10, 11]⟩, ⟨some 47, .fieldAddr 1 (.t 46), none, [12, 0, 1, 2, 3, 4, 5, 6, 7, 8, 9, 10, 11]⟩, ⟨none, .store 1 (.t 47) (.t 45), none, [13, 11, 0, 1, 2, 3, 4, 5, 6, 7, 8, 9, 10, 11]⟩]) (ACode.region false [⟨some 48, .mv (.t 4), none, []⟩, ⟨some 49, .load 2 true (.t 6), none, []⟩, ⟨some 50, .buildSlice 30 2 [.t 49], none, []⟩, ⟨some 51, .append 30 2 16 (.t 48) (.t 50), none, []⟩, ⟨some 4, .mv (.t 51), none, []⟩])))))).seq (ACode.region false [⟨some 52, .bin .add (.t 15) (.c (.int .i64 (1))), none, []⟩, ⟨some 15, .mv (.t 52), none, []⟩])))).loop)).seq ((ACode.region false [⟨some 53, .mv (.t 4), none, []⟩, ⟨some 2, .mv (.t 53), none, []⟩]).seq ACode.ret))))))
theorem Tryz.F86 : FnFacts Tryz.prog 86 Tryz.f86 Tryz.ac86 54 [.tmp 2] := ⟨Tryz.func86, by kernel_rfl, by kernel_rfl, by kernel_rfl, by kernel_rfl, by kernel_rfl, by kernel_rfl, by kernel_rfl⟩
def Tryz.ac87 : ACode := ((ACode.region false [⟨some 2, .mv (.c (.slice none 0 0)), none, []⟩]).seq ((ACode.region false [⟨some 3, .mv (.c (.int .i64 (0))), none, []⟩]).seq (((ACode.region false [⟨some 9, .mv (.t 0), none, []⟩, ⟨some 10, .len (.t 9), none, []⟩, ⟨some 11, .mv (.c (.int .i64 (0))), none, []⟩]).seq (ACode.block 0 ((ACode.region false [⟨some 12, .bin .lss (.t 11) (.t 10), none, []⟩]).seq ((ACode.cond (.t 12) ACode.skip (ACode.exit 0)).seq ((ACode.block 1 ((ACode.region false [⟨some 13, .idxAddr 1 (.t 9) (.t 11), none, []⟩, ⟨some 14, .load 1 false (.t 13), none, []⟩, ⟨some 5, .mv (.t 14), none, []⟩]).seq ((ACode.region false [⟨some 15, .mv (.t 3), none, []⟩, ⟨some 16, .mv (.t 5), none, []⟩, ⟨some 17, .len (.t 16), none, []⟩, ⟨some 18, .bin .add (.t 15) (.t 17), none, []⟩, ⟨some 3, .mv (.t 18), none, []⟩]).seq ((ACode.region false [⟨some 19, .mv (.t 3), none, []⟩, ⟨some 20, .bin .lss (.t 19) (.c (.int .i64 (0))), none, []⟩]).seq (ACode.cond (.t 20) (ACode.region false [⟨some 21, .bad, none, []⟩, ⟨none, .bad, none, []⟩]) ACode.skip))))).seq (ACode.region false [⟨some 22, .bin .add (.t 11) (.c (.int .i64 (1))), none, []⟩, ⟨some 11, .mv (.t 22), none, []⟩])))).loop)).seq ((ACode.region false [⟨some 23, .mv (.t 3), none, []⟩, ⟨some 24, .call 106 [.c (.slice none 0 0), .t 23], none, []⟩, ⟨some 6, .mv (.t 24), none, []⟩]).seq (((ACode.region false [⟨some 25, .mv (.t 0), none, []⟩, ⟨some 26, .len (.t 25), none, []⟩, ⟨some 27, .mv (.c (.int .i64 (0))), none, []⟩]).seq (ACode.block 2 ((ACode.region false [⟨some 28, .bin .lss (.t 27) (.t 26), none, []⟩]).seq ((ACode.cond (.t 28) ACode.skip (ACode.exit 2)).seq ((ACode.block 3 ((ACode.region false [⟨some 29, .idxAddr 1 (.t 25) (.t 27), none, []⟩, ⟨some 30, .load 1 false (.t 29), none, []⟩, ⟨some 8, .mv (.t 30), none, []⟩]).seq (ACode.region false [⟨some 31, .mv (.t 6), none, []⟩, ⟨some 32, .mv (.t 8), none, []⟩, ⟨some 33, .append 30 2 16 (.t 31) (.t 32), none, []⟩, ⟨some 6, .mv (.t 33), none, []⟩]))).seq (ACode.region false [⟨some 34, .bin .add (.t 27) (.c (.int .i64 (1))), none, []⟩, ⟨some 27, .mv (.t 34), none, []⟩])))).loop)).seq ((ACode.region false [⟨some 35, .mv (.t 6), none, []⟩, ⟨some 2, .mv (.t 35), none, []⟩]).seq ACode.ret))))))
theorem Tryz.F87 : FnFacts Tryz.prog 87 Tryz.f87 Tryz.ac87 36 [.tmp 2] := ⟨Tryz.func87, by kernel_rfl, by kernel_rfl, by kernel_rfl, by kernel_rfl, by kernel_rfl, by kernel_rfl, by kernel_rfl⟩
def Tryz.ac88 : ACode := ((ACode.block 0 (((ACode.region false [⟨some 10, .load 1 false (.t 2), none, []⟩, ⟨some 11, .load 1 false (.t 3), none, []⟩, ⟨some 12, .len (.t 11), none, []⟩, ⟨some 13, .bin .lss (.t 10) (.t 12), none, []⟩, ⟨some 14, .mv (.t 13), none, []⟩, ⟨some 15, .load 1 false (.t 3), some (14, true), []⟩, ⟨some 16, .load 1 false (.t 2), some (14, true), []⟩, ⟨some 17, .idxAddr 2 (.t 15) (.t 16), some (14, true), []⟩, ⟨some 18, .fieldAddr 1 (.t 17), some (14, true), []⟩, ⟨some 19, .load 1 false (.t 18), some (14, true), []⟩, ⟨some 20, .mv (.t 0), some (14, true), []⟩, ⟨some 21, .bin .leq (.t 19) (.t 20), some (14, true), []⟩, ⟨some 22, .pick (.t 14) (.t 21) (.c (.bool false)), none, []⟩]).seq (ACode.cond (.t 22) ACode.skip (ACode.exit 0))).seq (ACode.block 1 (ACode.region false [⟨some 23, .load 1 false (.t 2), none, []⟩, ⟨some 24, .bin .add (.t 23) (.c (.int .i64 (1))), none, []⟩, ⟨none, .store 1 (.t 2) (.t 24), none, []⟩]))).loop).seq ((ACode.block 2 (((ACode.region false [⟨some 25, .load 1 false (.t 4), none, []⟩, ⟨some 26, .load 1 false (.t 5), none, []⟩, ⟨some 27, .len (.t 26), none, []⟩, ⟨some 28, .bin .lss (.t 25) (.t 27), none, []⟩, ⟨some 29, .mv (.t 28), none, []⟩, ⟨some 30, .load 1 false (.t 5), some (29, true), []⟩, ⟨some 31, .load 1 false (.t 4), some (29, true), []⟩, ⟨some 32, .idxAddr 2 (.t 30) (.t 31), some (29, true), []⟩, ⟨some 33, .fieldAddr 1 (.t 32), some (29, true), []⟩, ⟨some 34, .load 1 false (.t 33), some (29, true), []⟩, ⟨some 35, .mv (.t 0), some (29, true), []⟩, ⟨some 36, .bin .leq (.t 34) (.t 35), some (29, true), []⟩, ⟨some 37, .pick (.t 29) (.t 36) (.c (.bool false)), none, []⟩]).seq (ACode.cond (.t 37) ACode.skip (ACode.exit 2))).seq (ACode.block 3 (ACode.region false [⟨some 38, .load 1 false (.t 4), none, []⟩, ⟨some 39, .bin .add (.t 38) (.c (.int .i64 (1))), none, []⟩, ⟨none, .store 1 (.t 4) (.t 39), none, []⟩]))).loop).seq ((ACode.region true [⟨some 40, .load 1 false (.t 6), none, []⟩, ⟨some 41, .load 1 false (.t 2), none, []⟩, ⟨some 42, .load 1 false (.t 3), none, []⟩, ⟨some 43, .len (.t 42), none, [2]⟩, ⟨some 44, .bin .lss (.t 41) (.t 43), none, [1, 3]⟩, ⟨some 45, .mv (.t 44), none, [4]⟩, ⟨some 46, .load 1 false (.t 3), some (45, true), [5]⟩, ⟨some 47, .load 1 false (.t 2), some (45, true), [5]⟩, ⟨some 48, .idxAddr 2 (.t 46) (.t 47), some (45, true), [6, 7, 5]⟩, ⟨some 49, .fieldAddr 0 (.t 48), some (45, true), [8, 5]⟩, ⟨some 50, .load 1 false (.t 49), some (45, true), [9, 5]⟩, ⟨some 51, .mv (.t 0), some (45, true), [5]⟩, ⟨some 52, .bin .leq (.t 50) (.t 51), some (45, true), [10, 11, 5]⟩, ⟨some 53, .pick (.t 45) (.t 52) (.c (.bool false)), none, [5, 12]⟩, ⟨some 54, .load 1 false (.t 4), none, []⟩, ⟨some 55, .load 1 false (.t 5), none, []⟩, ⟨some 56, .len (.t 55), none, [15]⟩, ⟨some 57, .bin .lss (.t 54) (.t 56), none, [14, 16]⟩, ⟨some 58, .mv (.t 57), none, [17, 5]⟩, ⟨some 59, .load 1 false (.t 5), some (58, true), [18]⟩, ⟨some 60, .load 1 false (.t 4), some (58, true), [18]⟩, ⟨some 61, .idxAddr 2 (.t 59) (.t 60), some (58, true), [19, 20, 18]⟩, ⟨some 62, .fieldAddr 0 (.t 61), some (58, true), [21, 18]⟩, ⟨some 63, .load 1 false (.t 62), some (58, true), [22, 18]⟩, ⟨some 64, .mv (.t 0), some (58, true), [18]⟩, ⟨some 65, .bin .leq (.t 63) (.t 64), some (58, true), [23, 24, 18]⟩, ⟨some 66, .pick (.t 58) (.t 65) (.c (.bool false)), none, [18, 25]⟩, ⟨some 67, .callv (.t 40) [.t 53, .t 66], none, [0, 13, 26, 18]⟩]).seq (ACode.cond (.t 67) (ACode.region false [⟨some 68, .load 1 false (.t 7), none, []⟩, ⟨some 69, .mv (.t 0), none, []⟩, ⟨some 70, .mv (.t 1), none, []⟩, ⟨some 71, .build [.int .i64 (0), .int .i64 (0)] [(0, 1, .t 69), (1, 1, .t 70)], none, []⟩, ⟨some 72, .buildSlice 30 2 [.t 71], none, []⟩, ⟨some 73, .append 30 2 16 (.t 68) (.t 72), none, []⟩, ⟨none, .store 1 (.t 7) (.t 73), none, []⟩]) ACode.skip))))
theorem Tryz.F88 : FnFacts Tryz.prog 88 Tryz.f88 Tryz.ac88 74 [] := ⟨Tryz.func88, by kernel_rfl, by kernel_rfl, by kernel_rfl, by kernel_rfl, by kernel_rfl, by kernel_rfl, by kernel_rfl⟩
def Tryz.ac89 : ACode := ((ACode.region false [⟨some 8, .mv (.c (.slice none 0 0)), none, []⟩]).seq (((ACode.region false [⟨some 12, .mv (.t 3), none, []⟩, ⟨some 13, .bin .eql (.t 12) (.c (.int .i64 (0))), none, []⟩]).seq (ACode.cond (.t 13) ((ACode.region false [⟨some 8, .mv (.c (.slice none 0 0)), none, []⟩]).seq ACode.ret) ACode.skip)).seq (((ACode.region false [⟨some 14, .mv (.t 1), none, []⟩, ⟨some 15, .bin .eql (.t 14) (.c (.string ⟨⟨[]⟩⟩)), none, []⟩]).seq (ACode.cond (.t 15) ((ACode.region false [⟨some 16, .mv (.t 0), none, []⟩, ⟨some 17, .mv (.t 3), none, []⟩, ⟨some 18, .call 107 [.t 16, .t 17], none, []⟩, ⟨some 8, .mv (.t 18), none, []⟩]).seq ACode.ret) ACode.skip)).seq (((ACode.region false [⟨some 19, .mv (.t 3), none, []⟩, ⟨some 20, .bin .lss (.t 19) (.c (.int .i64 (0))), none, []⟩]).seq (ACode.cond (.t 20) (ACode.region false [⟨some 21, .mv (.t 0), none, []⟩, ⟨some 22, .mv (.t 1), none, []⟩, ⟨some 23, .call 108 [.t 21, .t 22], none, []⟩, ⟨some 24, .bin .add (.t 23) (.c (.int .i64 (1))), none, []⟩, ⟨some 3, .mv (.t 24), none, []⟩]) ACode.skip)).seq ((ACode.region false [⟨some 25, .mv (.t 3), none, []⟩, ⟨some 26, .mv (.t 0), none, []⟩, ⟨some 27, .lenStr (.t 26), none, []⟩, ⟨some 28, .bin .add (.t 27) (.c (.int .i64 (1))), none, []⟩, ⟨some 29, .minmax false (.t 25) (.t 28), none, []⟩, ⟨some 3, .mv (.t 29), none, []⟩]).seq ((ACode.region false [⟨some 30, .mv (.t 3), none, []⟩, ⟨some 31, .make 9 1 16 [.string ⟨⟨[]⟩⟩] (.t 30), none, []⟩, ⟨some 9, .mv (.t 31), none, []⟩]).seq ((ACode.region false [⟨some 32, .mv (.t 3), none, []⟩, ⟨some 33, .bin .sub (.t 32) (.c (.int .i64 (1))), none, []⟩, ⟨some 3, .mv (.t 33), none, []⟩]).seq ((ACode.region false [⟨some 10, .mv (.c (.int .i64 (0))), none, []⟩]).seq ((ACode.block 0 (((ACode.region false [⟨some 34, .mv (.t 10), none, []⟩, ⟨some 35, .mv (.t 3), none, []⟩, ⟨some 36, .bin .lss (.t 34) (.t 35), none, []⟩]).seq (ACode.cond (.t 36) ACode.skip (ACode.exit 0))).seq (ACode.block 1 ((ACode.region false [⟨some 37, .mv (.t 0), none, []⟩, ⟨some 38, .mv (.t 1), none, []⟩, ⟨some 39, .call 109 [.t 37, .t 38], none, []⟩, ⟨some 11, .mv (.t 39), none, []⟩]).seq (((ACode.region false [⟨some 40, .mv (.t 11), none, []⟩, ⟨some 41, .bin .lss (.t 40) (.c (.int .i64 (0))), none, []⟩]).seq (ACode.cond (.t 41) (ACode.exit 0) ACode.skip)).seq ((ACode.region false [⟨some 42, .mv (.t 9), none, []⟩, ⟨some 43, .mv (.t 10), none, []⟩, ⟨some 44, .mv (.t 0), none, []⟩, ⟨some 45, .mv (.t 11), none, []⟩, ⟨some 46, .mv (.t 2), none, []⟩, ⟨some 47, .bin .add (.t 45) (.t 46), none, []⟩, ⟨some 48, .sliceStr (.t 44) none (some (.t 47)), none, []⟩, ⟨some 49, .idxAddr 1 (.t 42) (.t 43), none, []⟩, ⟨none, .store 1 (.t 49) (.t 48), none, []⟩]).seq ((ACode.region false [⟨some 50, .mv (.t 0), none, []⟩, ⟨some 51, .mv (.t 11), none, []⟩, ⟨some 52, .mv (.t 1), none, []⟩, ⟨some 53, .lenStr (.t 52), none, []⟩, ⟨some 54, .bin .add (.t 51) (.t 53), none, []⟩, ⟨some 55, .sliceStr (.t 50) (some (.t 54)) none, none, []⟩, ⟨some 0, .mv (.t 55), none, []⟩]).seq (ACode.region false [⟨some 56, .mv (.t 10), none, []⟩, ⟨some 57, .bin .add (.t 56) (.c (.int .i64 (1))), none, []⟩, ⟨some 10, .mv (.t 57), none, []⟩]))))))).loop).seq ((ACode.region false [⟨some 58, .mv (.t 9), none, []⟩, ⟨some 59, .mv (.t 10), none, []⟩, ⟨some 60, .mv (.t 0), none, []⟩, ⟨some 61, .idxAddr 1 (.t 58) (.t 59), none, []⟩, ⟨none, .store 1 (.t 61) (.t 60), none, []⟩]).seq ((ACode.region false [⟨some 62, .mv (.t 9), none, []⟩, ⟨some 63, .mv (.t 10), none, []⟩, ⟨some 64, .bin .add (.t 63) (.c (.int .i64 (1))), none, []⟩, ⟨some 65, .slice 1 (.t 62) none (some (.t 64)), none, []⟩, ⟨some 8, .mv (.t 65), none, []⟩]).seq ACode.ret)))))))))))
theorem Tryz.F89 : FnFacts Tryz.prog 89 Tryz.f89 Tryz.ac89 66 [.tmp 8] := ⟨Tryz.func89, by kernel_rfl, by kernel_rfl, by kernel_rfl, by kernel_rfl, by kernel_rfl, by kernel_rfl, by kernel_rfl⟩
def Tryz.ac92 : ACode := ((ACode.region false [⟨some 4, .mv (.c (.int .i64 (0))), none, []⟩]).seq (((ACode.region false [⟨some 6, .mv (.t 0), none, []⟩, ⟨some 7, .len (.t 6), none, []⟩, ⟨some 8, .mv (.c (.int .i64 (0))), none, []⟩]).seq (ACode.block 0 ((ACode.region false [⟨some 9, .bin .lss (.t 8) (.t 7), none, []⟩]).seq ((ACode.cond (.t 9) ACode.skip (ACode.exit 0)).seq ((ACode.block 1 ((ACode.region false [⟨some 10, .mv (.t 8), none, []⟩, ⟨some 5, .mv (.t 10), none, []⟩]).seq ((ACode.region false [⟨some 11, .mv (.t 1), none, []⟩, ⟨some 12, .mv (.t 0), none, []⟩, ⟨some 13, .mv (.t 5), none, []⟩, ⟨some 14, .idxAddr 8 (.t 12) (.t 13), none, []⟩, ⟨some 15, .load 8 true (.t 14), none, []⟩, ⟨some 16, .callv (.t 11) [.t 15], none, []⟩]).seq (ACode.cond (.t 16) ((ACode.region false [⟨some 17, .mv (.t 5), none, []⟩, ⟨some 4, .mv (.t 17), none, []⟩]).seq ACode.ret) ACode.skip)))).seq (ACode.region false [⟨some 18, .bin .add (.t 8) (.c (.int .i64 (1))), none, []⟩, ⟨some 8, .mv (.t 18), none, []⟩])))).loop)).seq ((ACode.region false [⟨some 4, .mv (.c (.int .i64 (Int.negSucc 0))), none, []⟩]).seq ACode.ret)))
theorem Tryz.F92 : FnFacts Tryz.prog 92 Tryz.f92 Tryz.ac92 19 [.tmp 4] := ⟨Tryz.func92, by kernel_rfl, by kernel_rfl, by kernel_rfl, by kernel_rfl, by kernel_rfl, by kernel_rfl, by kernel_rfl⟩
def Tryz.ac93 : ACode := ((ACode.region false [⟨some 8, .mv (.c (.bool false)), none, []⟩]).seq ((ACode.region false [⟨some 9, .mv (.t 0), none, []⟩, ⟨some 10, .mv (.t 2), none, []⟩, ⟨some 11, .mv (.t 3), none, []⟩, ⟨some 12, .bin .add (.t 10) (.t 11), none, []⟩, ⟨some 13, .bin .lss (.t 9) (.t 12), none, []⟩, ⟨some 14, .mv (.t 13), none, []⟩, ⟨some 15, .mv (.t 2), some (14, true), []⟩, ⟨some 16, .mv (.t 0), some (14, true), []⟩, ⟨some 17, .mv (.t 1), some (14, true), []⟩, ⟨some 18, .bin .add (.t 16) (.t 17), some (14, true), []⟩, ⟨some 19, .bin .lss (.t 15) (.t 18), some (14, true), []⟩, ⟨some 20, .pick (.t 14) (.t 19) (.c (.bool false)), none, []⟩, ⟨some 8, .mv (.t 20), none, []⟩]).seq ACode.ret))
theorem Tryz.F93 : FnFacts Tryz.prog 93 Tryz.f93 Tryz.ac93 21 [.tmp 8] := ⟨Tryz.func93, by kernel_rfl, by kernel_rfl, by kernel_rfl, by kernel_rfl, by kernel_rfl, by kernel_rfl, by kernel_rfl⟩
def Tryz.ac100 : ACode := ((ACode.region false [⟨some 4, .mv (.c (.slice none 0 0)), none, []⟩]).seq ((ACode.region false [⟨some 8, .mv (.t 0), none, []⟩, ⟨some 9, .mv (.t 1), none, []⟩, ⟨some 10, .call 111 [.t 8, .t 9], none, []⟩, ⟨some 5, .mv (.t 10), none, []⟩]).seq (((ACode.region false [⟨some 11, .mv (.t 5), none, []⟩, ⟨some 12, .bin .eql (.t 11) (.c (.int .i64 (Int.negSucc 0))), none, []⟩]).seq (ACode.cond (.t 12) ((ACode.region false [⟨some 13, .mv (.t 0), none, []⟩, ⟨some 4, .mv (.t 13), none, []⟩]).seq ACode.ret) ACode.skip)).seq (((ACode.region false [⟨some 14, .mv (.t 5), none, []⟩, ⟨some 15, .bin .add (.t 14) (.c (.int .i64 (1))), none, []⟩, ⟨some 6, .mv (.t 15), none, []⟩]).seq (ACode.block 0 (((ACode.region false [⟨some 16, .mv (.t 6), none, []⟩, ⟨some 17, .mv (.t 0), none, []⟩, ⟨some 18, .len (.t 17), none, []⟩, ⟨some 19, .bin .lss (.t 16) (.t 18), none, []⟩]).seq (ACode.cond (.t 19) ACode.skip (ACode.exit 0))).seq ((ACode.block 1 ((ACode.region false [⟨some 22, .mv (.t 0), none, []⟩, ⟨some 23, .mv (.t 6), none, []⟩, ⟨some 24, .idxAddr 2 (.t 22) (.t 23), none, []⟩, ⟨some 25, .load 2 true (.t 24), none, []⟩, ⟨some 7, .alloc [.int .i64 (0), .int .i64 (0)], none, []⟩, ⟨none, .store 2 (.t 7) (.t 25), none, []⟩]).seq ((ACode.region false [⟨some 26, .mv (.t 1), none, []⟩, ⟨some 27, .load 2 true (.t 7), none, []⟩, ⟨some 28, .callv (.t 26) [.t 27], none, []⟩, ⟨some 29, .un .not (.t 28), none, []⟩]).seq (ACode.cond (.t 29) ((ACode.region false [⟨some 30, .mv (.t 0), none, []⟩, ⟨some 31, .mv (.t 5), none, []⟩, ⟨some 32, .load 2 true (.t 7), none, []⟩, ⟨some 33, .idxAddr 2 (.t 30) (.t 31), none, []⟩, ⟨none, .store 2 (.t 33) (.t 32), none, []⟩]).seq (ACode.region false [⟨some 34, .mv (.t 5), none, []⟩, ⟨some 35, .bin .add (.t 34) (.c (.int .i64 (1))), none, []⟩, ⟨some 5, .mv (.t 35), none, []⟩])) ACode.skip)))).seq (ACode.region false [⟨some 20, .mv (.t 6), none, []⟩, ⟨some 21, .bin .add (.t 20) (.c (.int .i64 (1))), none, []⟩, ⟨some 6, .mv (.t 21), none, []⟩]))).loop)).seq ((ACode.region false [⟨some 36, .mv (.t 0), none, []⟩, ⟨some 37, .mv (.t 5), none, []⟩, ⟨some 38, .slice 2 (.t 36) (some (.t 37)) none, none, []⟩, ⟨none, .clear 2 [.int .i64 (0), .int .i64 (0)] (.t 38), none, []⟩]).seq ((ACode.region false [⟨some 39, .mv (.t 0), none, []⟩, ⟨some 40, .mv (.t 5), none, []⟩, ⟨some 41, .slice 2 (.t 39) none (some (.t 40)), none, []⟩, ⟨some 4, .mv (.t 41), none, []⟩]).seq ACode.ret))))))
theorem Tryz.F100 : FnFacts Tryz.prog 100 Tryz.f100 Tryz.ac100 42 [.tmp 4] := ⟨Tryz.func100, by kernel_rfl, by kernel_rfl, by kernel_rfl, by kernel_rfl, by kernel_rfl, by kernel_rfl, by kernel_rfl⟩
def Tryz.ac102 : ACode := ((ACode.region false [⟨some 1, .box 2 (.t 0), none, []⟩, ⟨some 2, .mv (.c (.bool false)), none, []⟩]).seq ((ACode.region false [⟨some 3, .fieldAddr 0 (.t 1), none, []⟩, ⟨some 4, .load 1 false (.t 3), none, []⟩, ⟨some 5, .fieldAddr 1 (.t 1), none, []⟩, ⟨some 6, .load 1 false (.t 5), none, []⟩, ⟨some 7, .bin .geq (.t 4) (.t 6), none, []⟩, ⟨some 2, .mv (.t 7), none, []⟩]).seq ACode.ret))
theorem Tryz.F102 : FnFacts Tryz.prog 102 Tryz.f102 Tryz.ac102 8 [.tmp 2] := ⟨Tryz.func102, by kernel_rfl, by kernel_rfl, by kernel_rfl, by kernel_rfl, by kernel_rfl, by kernel_rfl, by kernel_rfl⟩
def Tryz.ac111 : ACode := ((ACode.region false [⟨some 4, .mv (.c (.int .i64 (0))), none, []⟩]).seq (((ACode.region false [⟨some 6, .mv (.t 0), none, []⟩, ⟨some 7, .len (.t 6), none, []⟩, ⟨some 8, .mv (.c (.int .i64 (0))), none, []⟩]).seq (ACode.block 0 ((ACode.region false [⟨some 9, .bin .lss (.t 8) (.t 7), none, []⟩]).seq ((ACode.cond (.t 9) ACode.skip (ACode.exit 0)).seq ((ACode.block 1 ((ACode.region false [⟨some 10, .mv (.t 8), none, []⟩, ⟨some 5, .mv (.t 10), none, []⟩]).seq ((ACode.region false [⟨some 11, .mv (.t 1), none, []⟩, ⟨some 12, .mv (.t 0), none, []⟩, ⟨some 13, .mv (.t 5), none, []⟩, ⟨some 14, .idxAddr 2 (.t 12) (.t 13), none, []⟩, ⟨some 15, .load 2 true (.t 14), none, []⟩, ⟨some 16, .callv (.t 11) [.t 15], none, []⟩]).seq (ACode.cond (.t 16) ((ACode.region false [⟨some 17, .mv (.t 5), none, []⟩, ⟨some 4, .mv (.t 17), none, []⟩]).seq ACode.ret) ACode.skip)))).seq (ACode.region false [⟨some 18, .bin .add (.t 8) (.c (.int .i64 (1))), none, []⟩, ⟨some 8, .mv (.t 18), none, []⟩])))).loop)).seq ((ACode.region false [⟨some 4, .mv (.c (.int .i64 (Int.negSucc 0))), none, []⟩]).seq ACode.ret)))
theorem Tryz.F111 : FnFacts Tryz.prog 111 Tryz.f111 Tryz.ac111 19 [.tmp 4] := ⟨Tryz.func111, by kernel_rfl, by kernel_rfl, by kernel_rfl, by kernel_rfl, by kernel_rfl, by kernel_rfl, by kernel_rfl⟩
end Go.Proofs
end
section
set_option linter.unusedVariables false
set_option linter.unusedSimpArgs false
namespace Go.Proofs
open Go Go.Ab
def Tryz.ac4 : ACode := ((ACode.region false [⟨some 5, .box 2 (.t 2), none, []⟩, ⟨some 6, .mv (.c (.bool false)), none, []⟩]).seq (((ACode.region false [⟨some 7, .mv (.t 0), none, []⟩, ⟨some 8, .call 10 [.c (.slice none 0 0), .t 7, .c (.int .i64 (60))], none, []⟩, ⟨some 9, .un .not (.t 8), none, []⟩, ⟨some 10, .mv (.t 9), none, []⟩, ⟨some 11, .mv (.t 1), some (10, false), []⟩, ⟨some 12, .lenStr (.t 11), some (10, false), []⟩, ⟨some 13, .bin .gtr (.t 12) (.c (.int .i64 (100))), some (10, false), []⟩, ⟨some 14, .pick (.t 10) (.c (.bool true)) (.t 13), none, []⟩]).seq (ACode.cond (.t 14) ((ACode.region false [⟨some 15, .call 11 [], none, []⟩, ⟨some 6, .mv (.t 15), none, []⟩]).seq ACode.ret) ACode.skip)).seq ((ACode.region true [⟨some 16, .mv (.t 0), none, []⟩, ⟨some 17, .mv (.t 1), none, []⟩, ⟨some 18, .call 15 [.t 16, .t 17], none, [0, 1]⟩, ⟨some 19, .mv (.t 0), none, []⟩, ⟨some 20, .mv (.t 1), none, []⟩, ⟨some 21, .call 16 [.t 19, .t 20], none, [3, 4, 2]⟩, ⟨some 22, .call 14 [.t 18, .t 21], none, [2, 5, 5]⟩, ⟨some 23, .mv (.t 22), none, [6, 6]⟩, ⟨some 24, .mv (.t 0), some (23, true), [7]⟩, ⟨some 25, .mv (.t 1), some (23, true), [7]⟩, ⟨some 26, .load 2 true (.t 5), some (23, true), [7]⟩, ⟨some 27, .call 18 [.t 24, .t 25, .t 26], some (23, true), [8, 9, 10, 7, 7]⟩, ⟨some 28, .mv (.t 0), some (23, true), [7]⟩, ⟨some 29, .mv (.t 1), some (23, true), [7]⟩, ⟨some 30, .load 2 true (.t 5), some (23, true), [7]⟩, ⟨some 31, .call 19 [.t 28, .t 29, .t 30], some (23, true), [12, 13, 14, 11, 7]⟩, ⟨some 32, .call 17 [.t 27, .t 31], some (23, true), [11, 15, 15, 7]⟩, ⟨some 33, .pick (.t 23) (.t 32) (.c (.bool false)), none, [7, 16]⟩, ⟨some 34, .mv (.t 33), none, [17, 16]⟩, ⟨some 35, .call 11 [], some (34, true), [18, 18]⟩, ⟨some 36, .pick (.t 34) (.t 35) (.c (.bool false)), none, [18, 19]⟩, ⟨some 6, .mv (.t 36), none, [20, 19, 0, 1, 2, 3, 4, 5, 6, 7, 8, 9, 10, 11, 12, 13, 14, 15, 16, 17, 18, 19, 20]⟩]).seq ACode.ret)))
theorem Tryz.F4 : FnFacts Tryz.prog 4 Tryz.f4 Tryz.ac4 37 [.tmp 6] := ⟨Tryz.func4, by kernel_rfl, by kernel_rfl, by kernel_rfl, by kernel_rfl, by kernel_rfl, by kernel_rfl, by kernel_rfl⟩
def Tryz.ac10 : ACode := ((ACode.region false [⟨some 6, .mv (.c (.bool false)), none, []⟩]).seq (((ACode.region false [⟨some 9, .mv (.t 0), none, []⟩, ⟨some 10, .len (.t 9), none, []⟩, ⟨some 11, .bin .gtr (.t 10) (.c (.int .i64 (9))), none, []⟩, ⟨some 12, .mv (.t 11), none, []⟩, ⟨some 13, .mv (.t 1), some (12, false), []⟩, ⟨some 14, .len (.t 13), some (12, false), []⟩, ⟨some 15, .mv (.t 2), some (12, false), []⟩, ⟨some 16, .bin .gtr (.t 14) (.t 15), some (12, false), []⟩, ⟨some 17, .pick (.t 12) (.c (.bool true)) (.t 16), none, []⟩]).seq (ACode.cond (.t 17) ((ACode.region false [⟨some 6, .mv (.c (.bool false)), none, []⟩]).seq ACode.ret) ACode.skip)).seq (((ACode.region false [⟨some 7, .mv (.c (.int .i64 (0))), none, []⟩]).seq (ACode.block 0 (((ACode.region false [⟨some 18, .mv (.t 7), none, []⟩, ⟨some 19, .mv (.t 0), none, []⟩, ⟨some 20, .len (.t 19), none, []⟩, ⟨some 21, .bin .lss (.t 18) (.t 20), none, []⟩]).seq (ACode.cond (.t 21) ACode.skip (ACode.exit 0))).seq ((ACode.block 1 ((ACode.region false [⟨some 24, .mv (.t 0), none, []⟩, ⟨some 25, .mv (.t 7), none, []⟩, ⟨some 26, .idxAddr 3 (.t 24) (.t 25), none, []⟩, ⟨some 27, .fieldAddr 0 (.t 26), none, []⟩, ⟨some 28, .load 1 false (.t 27), none, []⟩, ⟨some 29, .lenStr (.t 28), none, []⟩, ⟨some 30, .bin .gtr (.t 29) (.c (.int .i64 (100))), none, []⟩]).seq (ACode.cond (.t 30) ((ACode.region false [⟨some 6, .mv (.c (.bool false)), none, []⟩]).seq ACode.ret) ACode.skip))).seq (ACode.region false [⟨some 22, .mv (.t 7), none, []⟩, ⟨some 23, .bin .add (.t 22) (.c (.int .i64 (1))), none, []⟩, ⟨some 7, .mv (.t 23), none, []⟩]))).loop)).seq (((ACode.region false [⟨some 8, .mv (.c (.int .i64 (0))), none, []⟩]).seq (ACode.block 2 (((ACode.region false [⟨some 31, .mv (.t 8), none, []⟩, ⟨some 32, .mv (.t 1), none, []⟩, ⟨some 33, .len (.t 32), none, []⟩, ⟨some 34, .bin .lss (.t 31) (.t 33), none, []⟩]).seq (ACode.cond (.t 34) ACode.skip (ACode.exit 2))).seq ((ACode.block 3 ((ACode.region false [⟨some 37, .mv (.t 1), none, []⟩, ⟨some 38, .mv (.t 8), none, []⟩, ⟨some 39, .idxAddr 8 (.t 37) (.t 38), none, []⟩, ⟨some 40, .fieldAddr 0 (.t 39), none, []⟩, ⟨some 41, .load 1 false (.t 40), none, []⟩, ⟨some 42, .lenStr (.t 41), none, []⟩, ⟨some 43, .bin .gtr (.t 42) (.c (.int .i64 (100))), none, []⟩, ⟨some 44, .mv (.t 43), none, []⟩, ⟨some 45, .mv (.t 1), some (44, false), []⟩, ⟨some 46, .mv (.t 8), some (44, false), []⟩, ⟨some 47, .idxAddr 8 (.t 45) (.t 46), some (44, false), []⟩, ⟨some 48, .fieldAddr 1 (.t 47), some (44, false), []⟩, ⟨some 49, .load 1 false (.t 48), some (44, false), []⟩, ⟨some 50, .lenStr (.t 49), some (44, false), []⟩, ⟨some 51, .bin .gtr (.t 50) (.c (.int .i64 (100))), some (44, false), []⟩, ⟨some 52, .pick (.t 44) (.c (.bool true)) (.t 51), none, []⟩]).seq (ACode.cond (.t 52) ((ACode.region false [⟨some 6, .mv (.c (.bool false)), none, []⟩]).seq ACode.ret) ACode.skip))).seq (ACode.region false [⟨some 35, .mv (.t 8), none, []⟩, ⟨some 36, .bin .add (.t 35) (.c (.int .i64 (1))), none, []⟩, ⟨some 8, .mv (.t 36), none, []⟩]))).loop)).seq ((ACode.region false [⟨some 6, .mv (.c (.bool true)), none, []⟩]).seq ACode.ret)))))
theorem Tryz.F10 : FnFacts Tryz.prog 10 Tryz.f10 Tryz.ac10 53 [.tmp 6] := ⟨Tryz.func10, by kernel_rfl, by kernel_rfl, by kernel_rfl, by kernel_rfl, by kernel_rfl, by kernel_rfl, by kernel_rfl⟩
def Tryz.ac11 : ACode := ((ACode.region false [⟨some 0, .mv (.c (.bool false)), none, []⟩]).seq ((ACode.region false [⟨some 12, .build [.string ⟨⟨[]⟩⟩, .int .i64 (0), .int .i64 (0)] [(0, 1, .c (.string ⟨⟨[(68 : UInt8)]⟩⟩)), (1, 1, .c (.int .i64 (300))), (2, 1, .c (.int .i64 (50)))], none, []⟩, ⟨some 13, .buildSlice 53 3 [.t 12], none, []⟩, ⟨some 1, .mv (.t 13), none, []⟩]).seq ((ACode.region false [⟨some 14, .build [.int .i64 (0), .int .i64 (0)] [(0, 1, .c (.int .i64 (0))), (1, 1, .c (.int .i64 (100)))], none, []⟩, ⟨some 15, .build [.string ⟨⟨[]⟩⟩, .string ⟨⟨[]⟩⟩, .int .i64 (0), .int .i64 (0), .int .i64 (0), .int .i64 (0), .int .i64 (0), .int .i64 (0)] [(0, 1, .c (.string ⟨⟨[(72 : UInt8), (49 : UInt8)]⟩⟩)), (1, 1, .c (.string ⟨⟨[(68 : UInt8)]⟩⟩)), (4, 1, .c (.int .i64 (200))), (5, 1, .c (.int .i64 (30))), (6, 2, .t 14)], none, []⟩, ⟨some 16, .buildSlice 43 8 [.t 15], none, []⟩, ⟨some 2, .mv (.t 16), none, []⟩]).seq ((ACode.region false [⟨some 17, .build [.int .i64 (0), .int .i64 (0)] [(0, 1, .c (.int .i64 (20)))], none, []⟩, ⟨some 18, .build [.string ⟨⟨[]⟩⟩, .string ⟨⟨[]⟩⟩, .int .i64 (0), .int .i64 (0), .int .i64 (0), .int .i64 (0), .int .i64 (0), .int .i64 (0)] [(0, 1, .c (.string ⟨⟨[(72 : UInt8), (50 : UInt8)]⟩⟩)), (4, 1, .c (.int .i64 (100))), (5, 1, .c (.int .i64 (30))), (6, 2, .t 17)], none, []⟩, ⟨some 3, .alloc [.string ⟨⟨[]⟩⟩, .string ⟨⟨[]⟩⟩, .int .i64 (0), .int .i64 (0), .int .i64 (0), .int .i64 (0), .int .i64 (0), .int .i64 (0)], none, []⟩, ⟨none, .store 8 (.t 3) (.t 18), none, []⟩]).seq ((ACode.region false [⟨some 20, .mv (.t 1), none, []⟩, ⟨some 21, .mv (.t 2), none, []⟩, ⟨some 22, .load 8 true (.t 3), none, []⟩, ⟨some 23, .call 20 [.t 20, .t 21, .t 22, .c (.int .i64 (60))], none, []⟩, ⟨some 19, .mv (.t 23), none, []⟩, ⟨some 24, .extract (.t 19) 0, none, []⟩, ⟨some 25, .extract (.t 19) 1, none, []⟩, ⟨some 4, .alloc [.string ⟨⟨[]⟩⟩, .string ⟨⟨[]⟩⟩, .int .i64 (0), .int .i64 (0), .int .i64 (0), .int .i64 (0), .int .i64 (0), .int .i64 (0)], none, []⟩, ⟨none, .store 8 (.t 4) (.t 24), none, []⟩, ⟨some 5, .mv (.t 25), none, []⟩]).seq ((ACode.region false [⟨some 27, .mv (.t 1), none, []⟩, ⟨some 28, .mv (.t 2), none, []⟩, ⟨some 29, .load 8 true (.t 3), none, []⟩, ⟨some 30, .call 20 [.t 27, .t 28, .t 29, .c (.int .i64 (90))], none, []⟩, ⟨some 26, .mv (.t 30), none, []⟩, ⟨some 31, .extract (.t 26) 0, none, []⟩, ⟨some 32, .extract (.t 26) 1, none, []⟩, ⟨some 6, .alloc [.string ⟨⟨[]⟩⟩, .string ⟨⟨[]⟩⟩, .int .i64 (0), .int .i64 (0), .int .i64 (0), .int .i64 (0), .int .i64 (0), .int .i64 (0)], none, []⟩, ⟨none, .store 8 (.t 6) (.t 31), none, []⟩, ⟨some 7, .mv (.t 32), none, []⟩]).seq (((ACode.region false [⟨some 33, .mv (.t 5), none, []⟩, ⟨some 34, .bin .neq (.t 33) (.c (.int .i64 (0))), none, []⟩, ⟨some 35, .mv (.t 34), none, []⟩, ⟨some 36, .mv (.t 7), some (35, false), []⟩, ⟨some 37, .bin .neq (.t 36) (.c (.int .i64 (0))), some (35, false), []⟩, ⟨some 38, .pick (.t 35) (.c (.bool true)) (.t 37), none, []⟩, ⟨some 39, .mv (.t 38), none, []⟩, ⟨some 40, .load 8 true (.t 4), some (39, false), []⟩, ⟨some 41, .build [.int .i64 (0), .int .i64 (0)] [(0, 1, .c (.int .i64 (200)))], some (39, false), []⟩, ⟨some 42, .build [.int .i64 (0), .int .i64 (0)] [(0, 1, .c (.int .i64 (20))), (1, 1, .c (.int .i64 (100)))], some (39, false), []⟩, ⟨some 43, .build [.string ⟨⟨[]⟩⟩, .string ⟨⟨[]⟩⟩, .int .i64 (0), .int .i64 (0), .int .i64 (0), .int .i64 (0), .int .i64 (0), .int .i64 (0)] [(0, 1, .c (.string ⟨⟨[(72 : UInt8), (50 : UInt8)]⟩⟩)), (1, 1, .c (.string ⟨⟨[(68 : UInt8)]⟩⟩)), (2, 2, .t 41), (4, 1, .c (.int .i64 (100))), (5, 1, .c (.int .i64 (30))), (6, 2, .t 42)], some (39, false), []⟩, ⟨some 44, .eqAgg true [2, 2, 0, 0, 0, 0, 0, 0] (.t 40) (.t 43), some (39, false), []⟩, ⟨some 45, .pick (.t 39) (.c (.bool true)) (.t 44), none, []⟩, ⟨some 46, .mv (.t 45), none, []⟩, ⟨some 47, .fieldAddr 2 (.t 6), some (46, false), []⟩, ⟨some 48, .load 2 true (.t 47), some (46, false), []⟩, ⟨some 49, .build [.int .i64 (0), .int .i64 (0)] [], some (46, false), []⟩, ⟨some 50, .eqAgg true [0, 0] (.t 48) (.t 49), some (46, false), []⟩, ⟨some 51, .pick (.t 46) (.c (.bool true)) (.t 50), none, []⟩, ⟨some 52, .mv (.t 51), none, []⟩, ⟨some 53, .fieldAddr 6 (.t 6), some (52, false), []⟩, ⟨some 54, .load 2 true (.t 53), some (52, false), []⟩, ⟨some 55, .build [.int .i64 (0), .int .i64 (0)] [(0, 1, .c (.int .i64 (100))), (1, 1, .c (.int .i64 (190)))], some (52, false), []⟩, ⟨some 56, .eqAgg true [0, 0] (.t 54) (.t 55), some (52, false), []⟩, ⟨some 57, .pick (.t 52) (.c (.bool true)) (.t 56), none, []⟩]).seq (ACode.cond (.t 57) ((ACode.region false [⟨some 0, .mv (.c (.bool false)), none, []⟩]).seq ACode.ret) ACode.skip)).seq ((ACode.region false [⟨some 58, .mv (.t 2), none, []⟩, ⟨some 59, .load 8 true (.t 4), none, []⟩, ⟨some 60, .buildSlice 43 8 [.t 59], none, []⟩, ⟨some 61, .append 43 8 80 (.t 58) (.t 60), none, []⟩, ⟨some 8, .mv (.t 61), none, []⟩]).seq ((ACode.region false [⟨some 63, .mv (.t 1), none, []⟩, ⟨some 64, .mv (.t 8), none, []⟩, ⟨some 65, .call 22 [.t 63, .t 64, .c (.string ⟨⟨[(72 : UInt8), (49 : UInt8)]⟩⟩), .c (.int .i64 (10))], none, []⟩, ⟨some 62, .mv (.t 65), none, []⟩, ⟨some 66, .extract (.t 62) 0, none, []⟩, ⟨some 67, .extract (.t 62) 1, none, []⟩, ⟨some 9, .mv (.t 66), none, []⟩, ⟨some 10, .mv (.t 67), none, []⟩]).seq ((ACode.region false [⟨some 68, .load 8 true (.t 4), none, []⟩, ⟨some 11, .alloc [.string ⟨⟨[]⟩⟩, .string ⟨⟨[]⟩⟩, .int .i64 (0), .int .i64 (0), .int .i64 (0), .int .i64 (0), .int .i64 (0), .int .i64 (0)], none, []⟩, ⟨none, .store 8 (.t 11) (.t 68), none, []⟩]).seq ((ACode.region false [⟨some 69, .fieldAddr 6 (.t 11), none, []⟩, ⟨some 70, .fieldAddr 1 (.t 69), none, []⟩, ⟨none, .store 1 (.t 70) (.c (.int .i64 (80))), none, []⟩]).seq ((ACode.region false [⟨some 71, .mv (.t 10), none, []⟩, ⟨some 72, .bin .eql (.t 71) (.c (.int .i64 (0))), none, []⟩, ⟨some 73, .mv (.t 72), none, []⟩, ⟨some 74, .mv (.t 9), some (73, true), []⟩, ⟨some 75, .len (.t 74), some (73, true), []⟩, ⟨some 76, .bin .eql (.t 75) (.c (.int .i64 (2))), some (73, true), []⟩, ⟨some 77, .pick (.t 73) (.t 76) (.c (.bool false)), none, []⟩, ⟨some 78, .mv (.t 77), none, []⟩, ⟨some 79, .mv (.t 9), some (78, true), []⟩, ⟨some 80, .idxAddr 8 (.t 79) (.c (.int .i64 (0))), some (78, true), []⟩, ⟨some 81, .fieldAddr 6 (.t 80), some (78, true), []⟩, ⟨some 82, .fieldAddr 1 (.t 81), some (78, true), []⟩, ⟨some 83, .load 1 false (.t 82), some (78, true), []⟩, ⟨some 84, .bin .eql (.t 83) (.c (.int .i64 (110))), some (78, true), []⟩, ⟨some 85, .pick (.t 78) (.t 84) (.c (.bool false)), none, []⟩, ⟨some 86, .mv (.t 85), none, []⟩, ⟨some 87, .mv (.t 9), some (86, true), []⟩, ⟨some 88, .idxAddr 8 (.t 87) (.c (.int .i64 (1))), some (86, true), []⟩, ⟨some 89, .fieldAddr 6 (.t 88), some (86, true), []⟩, ⟨some 90, .fieldAddr 1 (.t 89), some (86, true), []⟩, ⟨some 91, .load 1 false (.t 90), some (86, true), []⟩, ⟨some 92, .bin .eql (.t 91) (.c (.int .i64 (110))), some (86, true), []⟩, ⟨some 93, .pick (.t 86) (.t 92) (.c (.bool false)), none, []⟩, ⟨some 94, .mv (.t 93), none, []⟩, ⟨some 95, .mv (.t 1), some (94, true), []⟩, ⟨some 96, .mv (.t 2), some (94, true), []⟩, ⟨some 97, .load 8 true (.t 11), some (94, true), []⟩, ⟨some 98, .buildSlice 43 8 [.t 97], some (94, true), []⟩, ⟨some 99, .append 43 8 80 (.t 96) (.t 98), some (94, true), []⟩, ⟨some 100, .call 12 [.t 95, .t 99], some (94, true), []⟩, ⟨some 101, .bin .eql (.t 100) (.c (.int .i64 (14))), some (94, true), []⟩, ⟨some 102, .pick (.t 94) (.t 101) (.c (.bool false)), none, []⟩, ⟨some 103, .mv (.t 102), none, []⟩, ⟨some 104, .mv (.t 8), some (103, true), []⟩, ⟨some 105, .call 15 [.t 104, .c (.string ⟨⟨[(68 : UInt8)]⟩⟩)], some (103, true), []⟩, ⟨some 106, .buildSlice 3 1 [.c (.int .i64 (100))], some (103, true), []⟩, ⟨some 107, .call 14 [.t 105, .t 106], some (103, true), []⟩, ⟨some 108, .pick (.t 103) (.t 107) (.c (.bool false)), none, []⟩, ⟨some 109, .mv (.t 108), none, []⟩, ⟨some 110, .mv (.t 8), some (109, true), []⟩, ⟨some 111, .load 8 true (.t 6), some (109, true), []⟩, ⟨some 112, .buildSlice 43 8 [.t 111], some (109, true), []⟩, ⟨some 113, .append 43 8 80 (.t 110) (.t 112), some (109, true), []⟩, ⟨some 114, .build [.int .i64 (0), .int .i64 (0)] [(0, 1, .c (.int .i64 (10))), (1, 1, .c (.int .i64 (120)))], some (109, true), []⟩, ⟨some 115, .call 18 [.t 113, .c (.string ⟨⟨[(68 : UInt8)]⟩⟩), .t 114], some (109, true), []⟩, ⟨some 116, .build [.int .i64 (0), .int .i64 (0)] [(0, 1, .c (.int .i64 (10))), (1, 1, .c (.int .i64 (100)))], some (109, true), []⟩, ⟨some 117, .build [.int .i64 (0), .int .i64 (0)] [(0, 1, .c (.int .i64 (101))), (1, 1, .c (.int .i64 (120)))], some (109, true), []⟩, ⟨some 118, .buildSlice 30 2 [.t 116, .t 117], some (109, true), []⟩, ⟨some 119, .call 17 [.t 115, .t 118], some (109, true), []⟩, ⟨some 120, .pick (.t 109) (.t 119) (.c (.bool false)), none, []⟩, ⟨some 0, .mv (.t 120), none, []⟩]).seq ACode.ret))))))))))))
theorem Tryz.F11 : FnFacts Tryz.prog 11 Tryz.f11 Tryz.ac11 121 [.tmp 0] := ⟨Tryz.func11, by kernel_rfl, by kernel_rfl, by kernel_rfl, by kernel_rfl, by kernel_rfl, by kernel_rfl, by kernel_rfl⟩
def Tryz.ac12 : ACode := ((ACode.region false [⟨some 4, .mv (.c (.int .i64 (0))), none, []⟩]).seq (((ACode.region false [⟨some 12, .mv (.t 0), none, []⟩, ⟨some 13, .mv (.t 1), none, []⟩, ⟨some 14, .call 27 [.t 13], none, []⟩, ⟨some 15, .call 26 [.t 12, .t 14], none, []⟩, ⟨some 5, .mv (.t 15), none, []⟩]).seq ((ACode.region false [⟨some 16, .mv (.t 5), none, []⟩, ⟨some 17, .bin .neq (.t 16) (.c (.int .i64 (0))), none, []⟩]).seq (ACode.cond (.t 17) ((ACode.region false [⟨some 18, .mv (.t 5), none, []⟩, ⟨some 4, .mv (.t 18), none, []⟩]).seq ACode.ret) ACode.skip))).seq (((ACode.region false [⟨some 19, .mv (.t 1), none, []⟩, ⟨some 20, .len (.t 19), none, []⟩, ⟨some 21, .mv (.c (.int .i64 (0))), none, []⟩]).seq (ACode.block 0 ((ACode.region false [⟨some 22, .bin .lss (.t 21) (.t 20), none, []⟩]).seq ((ACode.cond (.t 22) ACode.skip (ACode.exit 0)).seq ((ACode.block 1 ((ACode.region false [⟨some 23, .mv (.t 21), none, []⟩, ⟨some 24, .idxAddr 8 (.t 19) (.t 21), none, []⟩, ⟨some 25, .load 8 true (.t 24), none, []⟩, ⟨some 7, .alloc [.string ⟨⟨[]⟩⟩, .string ⟨⟨[]⟩⟩, .int .i64 (0), .int .i64 (0), .int .i64 (0), .int .i64 (0), .int .i64 (0), .int .i64 (0)], none, []⟩, ⟨some 6, .mv (.t 23), none, []⟩, ⟨none, .store 8 (.t 7) (.t 25), none, []⟩]).seq ((ACode.region false [⟨some 26, .mv (.t 1), none, []⟩, ⟨some 27, .mv (.t 6), none, []⟩, ⟨some 28, .slice 8 (.t 26) none (some (.t 27)), none, []⟩, ⟨some 29, .mkfn 29 [.t 7], none, []⟩, ⟨some 30, .call 28 [.t 28, .t 29], none, []⟩]).seq (ACode.cond (.t 30) ((ACode.region false [⟨some 4, .mv (.c (.int .i64 (7))), none, []⟩]).seq ACode.ret) ACode.skip)))).seq (ACode.region false [⟨some 31, .bin .add (.t 21) (.c (.int .i64 (1))), none, []⟩, ⟨some 21, .mv (.t 31), none, []⟩])))).loop)).seq (((ACode.region false [⟨some 32, .mv (.t 1), none, []⟩, ⟨some 33, .len (.t 32), none, []⟩, ⟨some 34, .mv (.c (.int .i64 (0))), none, []⟩]).seq (ACode.block 2 ((ACode.region false [⟨some 35, .bin .lss (.t 34) (.t 33), none, []⟩]).seq ((ACode.cond (.t 35) ACode.skip (ACode.exit 2)).seq ((ACode.block 3 ((ACode.region false [⟨some 36, .idxAddr 8 (.t 32) (.t 34), none, []⟩, ⟨some 37, .load 8 true (.t 36), none, []⟩, ⟨some 9, .alloc [.string ⟨⟨[]⟩⟩, .string ⟨⟨[]⟩⟩, .int .i64 (0), .int .i64 (0), .int .i64 (0), .int .i64 (0), .int .i64 (0), .int .i64 (0)], none, []⟩, ⟨none, .store 8 (.t 9) (.t 37), none, []⟩]).seq ((ACode.region false [⟨some 38, .mv (.t 1), none, []⟩, ⟨some 39, .len (.t 38), none, []⟩, ⟨some 40, .mv (.c (.int .i64 (0))), none, []⟩]).seq (ACode.block 4 ((ACode.region false [⟨some 41, .bin .lss (.t 40) (.t 39), none, []⟩]).seq ((ACode.cond (.t 41) ACode.skip (ACode.exit 4)).seq ((ACode.block 5 ((ACode.region false [⟨some 42, .idxAddr 8 (.t 38) (.t 40), none, []⟩, ⟨some 43, .load 8 true (.t 42), none, []⟩, ⟨some 11, .alloc [.string ⟨⟨[]⟩⟩, .string ⟨⟨[]⟩⟩, .int .i64 (0), .int .i64 (0), .int .i64 (0), .int .i64 (0), .int .i64 (0), .int .i64 (0)], none, []⟩, ⟨none, .store 8 (.t 11) (.t 43), none, []⟩]).seq ((ACode.region false [⟨some 44, .fieldAddr 1 (.t 11), none, []⟩, ⟨some 45, .load 1 false (.t 44), none, []⟩, ⟨some 46, .fieldAddr 1 (.t 9), none, []⟩, ⟨some 47, .load 1 false (.t 46), none, []⟩, ⟨some 48, .bin .eql (.t 45) (.t 47), none, []⟩, ⟨some 49, .mv (.t 48), none, []⟩, ⟨some 50, .fieldAddr 6 (.t 11), some (49, true), []⟩, ⟨some 51, .fieldAddr 1 (.t 50), some (49, true), []⟩, ⟨some 52, .load 1 false (.t 51), some (49, true), []⟩, ⟨some 53, .fieldAddr 6 (.t 9), some (49, true), []⟩, ⟨some 54, .fieldAddr 0 (.t 53), some (49, true), []⟩, ⟨some 55, .load 1 false (.t 54), some (49, true), []⟩, ⟨some 56, .bin .gtr (.t 52) (.t 55), some (49, true), []⟩, ⟨some 57, .pick (.t 49) (.t 56) (.c (.bool false)), none, []⟩, ⟨some 58, .mv (.t 57), none, []⟩, ⟨some 59, .fieldAddr 6 (.t 11), some (58, true), []⟩, ⟨some 60, .fieldAddr 1 (.t 59), some (58, true), []⟩, ⟨some 61, .load 1 false (.t 60), some (58, true), []⟩, ⟨some 62, .fieldAddr 6 (.t 9), some (58, true), []⟩, ⟨some 63, .fieldAddr 1 (.t 62), some (58, true), []⟩, ⟨some 64, .load 1 false (.t 63), some (58, true), []⟩, ⟨some 65, .bin .lss (.t 61) (.t 64), some (58, true), []⟩, ⟨some 66, .pick (.t 58) (.t 65) (.c (.bool false)), none, []⟩]).seq (ACode.cond (.t 66) ((ACode.region false [⟨some 4, .mv (.c (.int .i64 (14))), none, []⟩]).seq ACode.ret) ACode.skip)))).seq (ACode.region false [⟨some 67, .bin .add (.t 40) (.c (.int .i64 (1))), none, []⟩, ⟨some 40, .mv (.t 67), none, []⟩])))).loop)))).seq (ACode.region false [⟨some 68, .bin .add (.t 34) (.c (.int .i64 (1))), none, []⟩, ⟨some 34, .mv (.t 68), none, []⟩])))).loop)).seq ((ACode.region false [⟨some 4, .mv (.c (.int .i64 (0))), none, []⟩]).seq ACode.ret)))))
theorem Tryz.F12 : FnFacts Tryz.prog 12 Tryz.f12 Tryz.ac12 69 [.tmp 4] := ⟨Tryz.func12, by kernel_rfl, by kernel_rfl, by kernel_rfl, by kernel_rfl, by kernel_rfl, by kernel_rfl, by kernel_rfl⟩
def Tryz.ac14 : ACode := ((ACode.region false [⟨some 4, .mv (.c (.bool false)), none, []⟩]).seq (((ACode.region false [⟨some 6, .mv (.t 0), none, []⟩, ⟨some 7, .len (.t 6), none, []⟩, ⟨some 8, .mv (.t 1), none, []⟩, ⟨some 9, .len (.t 8), none, []⟩, ⟨some 10, .bin .neq (.t 7) (.t 9), none, []⟩]).seq (ACode.cond (.t 10) ((ACode.region false [⟨some 4, .mv (.c (.bool false)), none, []⟩]).seq ACode.ret) ACode.skip)).seq (((ACode.region false [⟨some 5, .mv (.c (.int .i64 (0))), none, []⟩]).seq (ACode.block 0 (((ACode.region false [⟨some 11, .mv (.t 5), none, []⟩, ⟨some 12, .mv (.t 0), none, []⟩, ⟨some 13, .len (.t 12), none, []⟩, ⟨some 14, .bin .lss (.t 11) (.t 13), none, []⟩]).seq (ACode.cond (.t 14) ACode.skip (ACode.exit 0))).seq ((ACode.block 1 ((ACode.region true [⟨some 17, .mv (.t 0), none, []⟩, ⟨some 18, .mv (.t 5), none, []⟩, ⟨some 19, .idxAddr 1 (.t 17) (.t 18), none, [0, 1]⟩, ⟨some 20, .load 1 false (.t 19), none, [2]⟩, ⟨some 21, .mv (.t 1), none, []⟩, ⟨some 22, .mv (.t 5), none, []⟩, ⟨some 23, .idxAddr 1 (.t 21) (.t 22), none, [4, 5]⟩, ⟨some 24, .load 1 false (.t 23), none, [6]⟩, ⟨some 25, .bin .neq (.t 20) (.t 24), none, [3, 7]⟩]).seq (ACode.cond (.t 25) ((ACode.region false [⟨some 4, .mv (.c (.bool false)), none, []⟩]).seq ACode.ret) ACode.skip))).seq (ACode.region false [⟨some 15, .mv (.t 5), none, []⟩, ⟨some 16, .bin .add (.t 15) (.c (.int .i64 (1))), none, []⟩, ⟨some 5, .mv (.t 16), none, []⟩]))).loop)).seq ((ACode.region false [⟨some 4, .mv (.c (.bool true)), none, []⟩]).seq ACode.ret))))
theorem Tryz.F14 : FnFacts Tryz.prog 14 Tryz.f14 Tryz.ac14 26 [.tmp 4] := ⟨Tryz.func14, by kernel_rfl, by kernel_rfl, by kernel_rfl, by kernel_rfl, by kernel_rfl, by kernel_rfl, by kernel_rfl⟩
def Tryz.ac15 : ACode := ((ACode.region false [⟨some 4, .mv (.c (.slice none 0 0)), none, []⟩]).seq ((ACode.region false [⟨some 5, .mv (.c (.slice none 0 0)), none, []⟩]).seq (((ACode.region false [⟨some 8, .mv (.t 0), none, []⟩, ⟨some 9, .len (.t 8), none, []⟩, ⟨some 10, .mv (.c (.int .i64 (0))), none, []⟩]).seq (ACode.block 0 ((ACode.region false [⟨some 11, .bin .lss (.t 10) (.t 9), none, []⟩]).seq ((ACode.cond (.t 11) ACode.skip (ACode.exit 0)).seq ((ACode.block 1 ((ACode.region false [⟨some 12, .idxAddr 8 (.t 8) (.t 10), none, []⟩, ⟨some 13, .load 8 true (.t 12), none, []⟩, ⟨some 7, .alloc [.string ⟨⟨[]⟩⟩, .string ⟨⟨[]⟩⟩, .int .i64 (0), .int .i64 (0), .int .i64 (0), .int .i64 (0), .int .i64 (0), .int .i64 (0)], none, []⟩, ⟨none, .store 8 (.t 7) (.t 13), none, []⟩]).seq ((ACode.region false [⟨some 14, .fieldAddr 1 (.t 7), none, []⟩, ⟨some 15, .load 1 false (.t 14), none, []⟩, ⟨some 16, .mv (.t 1), none, []⟩, ⟨some 17, .bin .eql (.t 15) (.t 16), none, []⟩]).seq (ACode.cond (.t 17) (ACode.region false [⟨some 18, .mv (.t 5), none, []⟩, ⟨some 19, .fieldAddr 6 (.t 7), none, []⟩, ⟨some 20, .fieldAddr 1 (.t 19), none, []⟩, ⟨some 21, .load 1 false (.t 20), none, []⟩, ⟨some 22, .buildSlice 3 1 [.t 21], none, []⟩, ⟨some 23, .append 3 1 8 (.t 18) (.t 22), none, []⟩, ⟨some 5, .mv (.t 23), none, []⟩]) ACode.skip)))).seq (ACode.region false [⟨some 24, .bin .add (.t 10) (.c (.int .i64 (1))), none, []⟩, ⟨some 10, .mv (.t 24), none, []⟩])))).loop)).seq ((ACode.region false [⟨some 25, .mv (.t 5), none, []⟩, ⟨some 26, .call 33 [.t 25], none, []⟩]).seq ((ACode.region false [⟨some 27, .mv (.t 5), none, []⟩, ⟨some 28, .call 34 [.t 27], none, []⟩, ⟨some 4, .mv (.t 28), none, []⟩]).seq ACode.ret)))))
theorem Tryz.F15 : FnFacts Tryz.prog 15 Tryz.f15 Tryz.ac15 29 [.tmp 4] := ⟨Tryz.func15, by kernel_rfl, by kernel_rfl, by kernel_rfl, by kernel_rfl, by kernel_rfl, by kernel_rfl, by kernel_rfl⟩
def Tryz.ac16 : ACode := ((ACode.region false [⟨some 4, .mv (.c (.slice none 0 0)), none, []⟩]).seq ((ACode.region false [⟨some 5, .mv (.c (.slice none 0 0)), none, []⟩]).seq (((ACode.region false [⟨some 6, .mv (.c (.int .i64 (0))), none, []⟩]).seq (ACode.block 0 (((ACode.region false [⟨some 7, .mv (.t 6), none, []⟩, ⟨some 8, .mv (.t 0), none, []⟩, ⟨some 9, .len (.t 8), none, []⟩, ⟨some 10, .bin .lss (.t 7) (.t 9), none, []⟩]).seq (ACode.cond (.t 10) ACode.skip (ACode.exit 0))).seq ((ACode.block 1 ((ACode.region false [⟨some 13, .mv (.t 0), none, []⟩, ⟨some 14, .mv (.t 6), none, []⟩, ⟨some 15, .idxAddr 8 (.t 13) (.t 14), none, []⟩, ⟨some 16, .fieldAddr 1 (.t 15), none, []⟩, ⟨some 17, .load 1 false (.t 16), none, []⟩, ⟨some 18, .mv (.t 1), none, []⟩, ⟨some 19, .bin .eql (.t 17) (.t 18), none, []⟩]).seq (ACode.cond (.t 19) (ACode.region false [⟨some 20, .mv (.t 5), none, []⟩, ⟨some 21, .mv (.t 0), none, []⟩, ⟨some 22, .mv (.t 6), none, []⟩, ⟨some 23, .idxAddr 8 (.t 21) (.t 22), none, []⟩, ⟨some 24, .fieldAddr 6 (.t 23), none, []⟩, ⟨some 25, .fieldAddr 1 (.t 24), none, []⟩, ⟨some 26, .load 1 false (.t 25), none, []⟩, ⟨some 27, .call 35 [.t 20, .t 26], none, []⟩, ⟨some 5, .mv (.t 27), none, []⟩]) ACode.skip))).seq (ACode.region false [⟨some 11, .mv (.t 6), none, []⟩, ⟨some 12, .bin .add (.t 11) (.c (.int .i64 (1))), none, []⟩, ⟨some 6, .mv (.t 12), none, []⟩]))).loop)).seq ((ACode.region false [⟨some 28, .mv (.t 5), none, []⟩, ⟨some 4, .mv (.t 28), none, []⟩]).seq ACode.ret))))
theorem Tryz.F16 : FnFacts Tryz.prog 16 Tryz.f16 Tryz.ac16 29 [.tmp 4] := ⟨Tryz.func16, by kernel_rfl, by kernel_rfl, by kernel_rfl, by kernel_rfl, by kernel_rfl, by kernel_rfl, by kernel_rfl⟩
def Tryz.ac17 : ACode := ((ACode.region false [⟨some 4, .mv (.c (.bool false)), none, []⟩]).seq (((ACode.region false [⟨some 6, .mv (.t 0), none, []⟩, ⟨some 7, .len (.t 6), none, []⟩, ⟨some 8, .mv (.t 1), none, []⟩, ⟨some 9, .len (.t 8), none, []⟩, ⟨some 10, .bin .neq (.t 7) (.t 9), none, []⟩]).seq (ACode.cond (.t 10) ((ACode.region false [⟨some 4, .mv (.c (.bool false)), none, []⟩]).seq ACode.ret) ACode.skip)).seq (((ACode.region false [⟨some 5, .mv (.c (.int .i64 (0))), none, []⟩]).seq (ACode.block 0 (((ACode.region false [⟨some 11, .mv (.t 5), none, []⟩, ⟨some 12, .mv (.t 0), none, []⟩, ⟨some 13, .len (.t 12), none, []⟩, ⟨some 14, .bin .lss (.t 11) (.t 13), none, []⟩]).seq (ACode.cond (.t 14) ACode.skip (ACode.exit 0))).seq ((ACode.block 1 ((ACode.region true [⟨some 17, .mv (.t 0), none, []⟩, ⟨some 18, .mv (.t 5), none, []⟩, ⟨some 19, .idxAddr 2 (.t 17) (.t 18), none, [0, 1]⟩, ⟨some 20, .load 2 true (.t 19), none, [2]⟩, ⟨some 21, .mv (.t 1), none, []⟩, ⟨some 22, .mv (.t 5), none, []⟩, ⟨some 23, .idxAddr 2 (.t 21) (.t 22), none, [4, 5]⟩, ⟨some 24, .load 2 true (.t 23), none, [6]⟩, ⟨some 25, .eqAgg true [0, 0] (.t 20) (.t 24), none, [3, 7]⟩]).seq (ACode.cond (.t 25) ((ACode.region false [⟨some 4, .mv (.c (.bool false)), none, []⟩]).seq ACode.ret) ACode.skip))).seq (ACode.region false [⟨some 15, .mv (.t 5), none, []⟩, ⟨some 16, .bin .add (.t 15) (.c (.int .i64 (1))), none, []⟩, ⟨some 5, .mv (.t 16), none, []⟩]))).loop)).seq ((ACode.region false [⟨some 4, .mv (.c (.bool true)), none, []⟩]).seq ACode.ret))))
theorem Tryz.F17 : FnFacts Tryz.prog 17 Tryz.f17 Tryz.ac17 26 [.tmp 4] := ⟨Tryz.func17, by kernel_rfl, by kernel_rfl, by kernel_rfl, by kernel_rfl, by kernel_rfl, by kernel_rfl, by kernel_rfl⟩
def Tryz.ac18 : ACode := ((ACode.region false [⟨some 5, .box 2 (.t 2), none, []⟩, ⟨some 6, .mv (.c (.slice none 0 0)), none, []⟩]).seq ((ACode.region false [⟨some 7, .mv (.c (.slice none 0 0)), none, []⟩, ⟨some 8, .mv (.c (.slice none 0 0)), none, []⟩]).seq (((ACode.region false [⟨some 13, .mv (.t 0), none, []⟩, ⟨some 14, .len (.t 13), none, []⟩, ⟨some 15, .mv (.c (.int .i64 (0))), none, []⟩]).seq (ACode.block 0 ((ACode.region false [⟨some 16, .bin .lss (.t 15) (.t 14), none, []⟩]).seq ((ACode.cond (.t 16) ACode.skip (ACode.exit 0)).seq ((ACode.block 1 ((ACode.region false [⟨some 17, .idxAddr 8 (.t 13) (.t 15), none, []⟩, ⟨some 18, .load 8 true (.t 17), none, []⟩, ⟨some 10, .alloc [.string ⟨⟨[]⟩⟩, .string ⟨⟨[]⟩⟩, .int .i64 (0), .int .i64 (0), .int .i64 (0), .int .i64 (0), .int .i64 (0), .int .i64 (0)], none, []⟩, ⟨none, .store 8 (.t 10) (.t 18), none, []⟩]).seq ((ACode.region false [⟨some 19, .fieldAddr 1 (.t 10), none, []⟩, ⟨some 20, .load 1 false (.t 19), none, []⟩, ⟨some 21, .mv (.t 1), none, []⟩, ⟨some 22, .bin .eql (.t 20) (.t 21), none, []⟩]).seq (ACode.cond (.t 22) (ACode.region false [⟨some 23, .mv (.t 7), none, []⟩, ⟨some 24, .fieldAddr 6 (.t 10), none, []⟩, ⟨some 25, .load 2 true (.t 24), none, []⟩, ⟨some 26, .buildSlice 30 2 [.t 25], none, []⟩, ⟨some 27, .append 30 2 16 (.t 23) (.t 26), none, []⟩, ⟨some 7, .mv (.t 27), none, []⟩]) ACode.skip)))).seq (ACode.region false [⟨some 28, .bin .add (.t 15) (.c (.int .i64 (1))), none, []⟩, ⟨some 15, .mv (.t 28), none, []⟩])))).loop)).seq (((ACode.region false [⟨some 29, .mv (.t 0), none, []⟩, ⟨some 30, .mv (.t 1), none, []⟩, ⟨some 31, .call 15 [.t 29, .t 30], none, []⟩, ⟨some 32, .len (.t 31), none, []⟩, ⟨some 33, .mv (.c (.int .i64 (0))), none, []⟩]).seq (ACode.block 2 ((ACode.region false [⟨some 34, .bin .lss (.t 33) (.t 32), none, []⟩]).seq ((ACode.cond (.t 34) ACode.skip (ACode.exit 2)).seq ((ACode.block 3 ((ACode.region false [⟨some 35, .idxAddr 1 (.t 31) (.t 33), none, []⟩, ⟨some 36, .load 1 false (.t 35), none, []⟩, ⟨some 12, .mv (.t 36), none, []⟩]).seq ((ACode.region false [⟨some 37, .mv (.t 12), none, []⟩, ⟨some 38, .bin .lss (.t 37) (.c (.int .i64 (9223372036854775807))), none, []⟩]).seq (ACode.cond (.t 38) (ACode.region false [⟨some 39, .mv (.t 8), none, []⟩, ⟨some 40, .mv (.t 12), none, []⟩, ⟨some 41, .mv (.t 12), none, []⟩, ⟨some 42, .bin .add (.t 41) (.c (.int .i64 (1))), none, []⟩, ⟨some 43, .build [.int .i64 (0), .int .i64 (0)] [(0, 1, .t 40), (1, 1, .t 42)], none, []⟩, ⟨some 44, .buildSlice 30 2 [.t 43], none, []⟩, ⟨some 45, .append 30 2 16 (.t 39) (.t 44), none, []⟩, ⟨some 8, .mv (.t 45), none, []⟩]) ACode.skip)))).seq (ACode.region false [⟨some 46, .bin .add (.t 33) (.c (.int .i64 (1))), none, []⟩, ⟨some 33, .mv (.t 46), none, []⟩])))).loop)).seq ((ACode.region false [⟨some 47, .mv (.t 7), none, []⟩, ⟨some 48, .load 2 true (.t 5), none, []⟩, ⟨some 49, .buildSlice 30 2 [.t 48], none, []⟩, ⟨some 50, .call 37 [.t 47, .t 49], none, []⟩, ⟨some 51, .mv (.t 8), none, []⟩, ⟨some 52, .call 36 [.t 50, .t 51], none, []⟩, ⟨some 6, .mv (.t 52), none, []⟩]).seq ACode.ret)))))
theorem Tryz.F18 : FnFacts Tryz.prog 18 Tryz.f18 Tryz.ac18 53 [.tmp 6] := ⟨Tryz.func18, by kernel_rfl, by kernel_rfl, by kernel_rfl, by kernel_rfl, by kernel_rfl, by kernel_rfl, by kernel_rfl⟩
def Tryz.ac19 : ACode := ((ACode.region false [⟨some 5, .box 2 (.t 2), none, []⟩, ⟨some 6, .mv (.c (.slice none 0 0)), none, []⟩]).seq ((ACode.region false [⟨some 7, .mv (.c (.slice none 0 0)), none, []⟩, ⟨some 8, .mv (.c (.slice none 0 0)), none, []⟩]).seq (((ACode.region false [⟨some 9, .mv (.c (.int .i64 (0))), none, []⟩]).seq (ACode.block 0 (((ACode.region false [⟨some 10, .mv (.t 9), none, []⟩, ⟨some 11, .mv (.t 0), none, []⟩, ⟨some 12, .len (.t 11), none, []⟩, ⟨some 13, .bin .lss (.t 10) (.t 12), none, []⟩]).seq (ACode.cond (.t 13) ACode.skip (ACode.exit 0))).seq ((ACode.block 1 ((ACode.region false [⟨some 16, .mv (.t 0), none, []⟩, ⟨some 17, .mv (.t 9), none, []⟩, ⟨some 18, .idxAddr 8 (.t 16) (.t 17), none, []⟩, ⟨some 19, .fieldAddr 1 (.t 18), none, []⟩, ⟨some 20, .load 1 false (.t 19), none, []⟩, ⟨some 21, .mv (.t 1), none, []⟩, ⟨some 22, .bin .eql (.t 20) (.t 21), none, []⟩]).seq (ACode.cond (.t 22) ((ACode.region false [⟨some 23, .mv (.t 7), none, []⟩, ⟨some 24, .mv (.t 0), none, []⟩, ⟨some 25, .mv (.t 9), none, []⟩, ⟨some 26, .idxAddr 8 (.t 24) (.t 25), none, []⟩, ⟨some 27, .fieldAddr 6 (.t 26), none, []⟩, ⟨some 28, .load 2 true (.t 27), none, []⟩, ⟨some 29, .buildSlice 30 2 [.t 28], none, []⟩, ⟨some 30, .append 30 2 16 (.t 23) (.t 29), none, []⟩, ⟨some 7, .mv (.t 30), none, []⟩]).seq ((ACode.region false [⟨some 31, .mv (.t 0), none, []⟩, ⟨some 32, .mv (.t 9), none, []⟩, ⟨some 33, .idxAddr 8 (.t 31) (.t 32), none, []⟩, ⟨some 34, .fieldAddr 6 (.t 33), none, []⟩, ⟨some 35, .fieldAddr 1 (.t 34), none, []⟩, ⟨some 36, .load 1 false (.t 35), none, []⟩, ⟨some 37, .bin .lss (.t 36) (.c (.int .i64 (9223372036854775807))), none, []⟩]).seq (ACode.cond (.t 37) (ACode.region true [⟨some 38, .mv (.t 8), none, []⟩, ⟨some 39, .mv (.t 0), none, []⟩, ⟨some 40, .mv (.t 9), none, []⟩, ⟨some 41, .idxAddr 8 (.t 39) (.t 40), none, [1, 2]⟩, ⟨some 42, .fieldAddr 6 (.t 41), none, [3]⟩, ⟨some 43, .fieldAddr 1 (.t 42), none, [4]⟩, ⟨some 44, .load 1 false (.t 43), none, [5]⟩, ⟨some 45, .mv (.t 0), none, []⟩, ⟨some 46, .mv (.t 9), none, []⟩, ⟨some 47, .idxAddr 8 (.t 45) (.t 46), none, [7, 8]⟩, ⟨some 48, .fieldAddr 6 (.t 47), none, [9]⟩, ⟨some 49, .fieldAddr 1 (.t 48), none, [10]⟩, ⟨some 50, .load 1 false (.t 49), none, [11]⟩, ⟨some 51, .bin .add (.t 50) (.c (.int .i64 (1))), none, [12]⟩, ⟨some 52, .build [.int .i64 (0), .int .i64 (0)] [(0, 1, .t 44), (1, 1, .t 51)], none, [6, 13]⟩, ⟨some 53, .buildSlice 30 2 [.t 52], none, [14]⟩, ⟨some 54, .append 30 2 16 (.t 38) (.t 53), none, [0, 15]⟩, ⟨some 8, .mv (.t 54), none, [16, 16, 0, 1, 2, 3, 4, 5, 6, 7, 8, 9, 10, 11, 12, 13, 14, 15, 16]⟩]) ACode.skip))) ACode.skip))).seq (ACode.region false [⟨some 14, .mv (.t 9), none, []⟩, ⟨some 15, .bin .add (.t 14) (.c (.int .i64 (1))), none, []⟩, ⟨some 9, .mv (.t 15), none, []⟩]))).loop)).seq ((ACode.region false [⟨some 55, .mv (.t 7), none, []⟩, ⟨some 56, .load 2 true (.t 5), none, []⟩, ⟨some 57, .buildSlice 30 2 [.t 56], none, []⟩, ⟨some 58, .call 39 [.t 55, .t 57], none, []⟩, ⟨some 59, .mv (.t 8), none, []⟩, ⟨some 60, .call 38 [.t 58, .t 59], none, []⟩, ⟨some 6, .mv (.t 60), none, []⟩]).seq ACode.ret))))
theorem Tryz.F19 : FnFacts Tryz.prog 19 Tryz.f19 Tryz.ac19 61 [.tmp 6] := ⟨Tryz.func19, by kernel_rfl, by kernel_rfl, by kernel_rfl, by kernel_rfl, by kernel_rfl, by kernel_rfl, by kernel_rfl⟩
def Tryz.ac20 : ACode := ((ACode.region false [⟨some 6, .box 8 (.t 2), none, []⟩, ⟨some 8, .alloc [.string ⟨⟨[]⟩⟩, .string ⟨⟨[]⟩⟩, .int .i64 (0), .int .i64 (0), .int .i64 (0), .int .i64 (0), .int .i64 (0), .int .i64 (0)], none, []⟩, ⟨some 9, .mv (.c (.int .i64 (0))), none, []⟩]).seq (((ACode.region false [⟨some 20, .mv (.t 0), none, []⟩, ⟨some 21, .mv (.t 1), none, []⟩, ⟨some 22, .call 12 [.t 20, .t 21], none, []⟩, ⟨some 10, .mv (.t 22), none, []⟩]).seq ((ACode.region false [⟨some 23, .mv (.t 10), none, []⟩, ⟨some 24, .bin .neq (.t 23) (.c (.int .i64 (0))), none, []⟩]).seq (ACode.cond (.t 24) ((ACode.region false [⟨some 25, .build [.string ⟨⟨[]⟩⟩, .string ⟨⟨[]⟩⟩, .int .i64 (0), .int .i64 (0), .int .i64 (0), .int .i64 (0), .int .i64 (0), .int .i64 (0)] [], none, []⟩, ⟨some 26, .mv (.t 10), none, []⟩, ⟨none, .store 8 (.t 8) (.t 25), none, []⟩, ⟨some 9, .mv (.t 26), none, []⟩]).seq ACode.ret) ACode.skip))).seq ((ACode.block 0 ((ACode.region false [⟨some 28, .fieldAddr 0 (.t 6), none, []⟩, ⟨some 29, .load 1 false (.t 28), none, []⟩, ⟨some 30, .call 40 [.t 29], none, []⟩, ⟨some 31, .un .not (.t 30), none, []⟩, ⟨some 27, .mv (.t 31), none, []⟩]).seq (ACode.cond (.t 27) ((ACode.region false [⟨some 32, .build [.string ⟨⟨[]⟩⟩, .string ⟨⟨[]⟩⟩, .int .i64 (0), .int .i64 (0), .int .i64 (0), .int .i64 (0), .int .i64 (0), .int .i64 (0)] [], none, []⟩, ⟨none, .store 8 (.t 8) (.t 32), none, []⟩, ⟨some 9, .mv (.c (.int .i64 (6))), none, []⟩]).seq ACode.ret) ((ACode.region false [⟨some 34, .mv (.t 1), none, []⟩, ⟨some 35, .mkfn 41 [.t 6], none, []⟩, ⟨some 36, .call 28 [.t 34, .t 35], none, []⟩, ⟨some 33, .mv (.t 36), none, []⟩]).seq (ACode.cond (.t 33) ((ACode.region false [⟨some 37, .build [.string ⟨⟨[]⟩⟩, .string ⟨⟨[]⟩⟩, .int .i64 (0), .int .i64 (0), .int .i64 (0), .int .i64 (0), .int .i64 (0), .int .i64 (0)] [], none, []⟩, ⟨none, .store 8 (.t 8) (.t 37), none, []⟩, ⟨some 9, .mv (.c (.int .i64 (7))), none, []⟩]).seq ACode.ret) ((ACode.region false [⟨some 39, .fieldAddr 4 (.t 6), none, []⟩, ⟨some 40, .load 1 false (.t 39), none, []⟩, ⟨some 41, .call 42 [.t 40, .c (.int .i64 (1)), .c (.int .i64 (524288))], none, []⟩, ⟨some 42, .un .not (.t 41), none, []⟩, ⟨some 43, .mv (.t 42), none, []⟩, ⟨some 44, .fieldAddr 5 (.t 6), some (43, false), []⟩, ⟨some 45, .load 1 false (.t 44), some (43, false), []⟩, ⟨some 46, .call 42 [.t 45, .c (.int .i64 (1)), .c (.int .i64 (524288))], some (43, false), []⟩, ⟨some 47, .un .not (.t 46), some (43, false), []⟩, ⟨some 48, .pick (.t 43) (.c (.bool true)) (.t 47), none, []⟩, ⟨some 49, .mv (.t 48), none, []⟩, ⟨some 50, .mv (.t 3), some (49, false), []⟩, ⟨some 51, .call 42 [.t 50, .c (.int .i64 (1)), .c (.int .i64 (1048576))], some (49, false), []⟩, ⟨some 52, .un .not (.t 51), some (49, false), []⟩, ⟨some 53, .pick (.t 49) (.c (.bool true)) (.t 52), none, []⟩, ⟨some 54, .mv (.t 53), none, []⟩, ⟨some 55, .fieldAddr 6 (.t 6), some (54, false), []⟩, ⟨some 56, .fieldAddr 0 (.t 55), some (54, false), []⟩, ⟨some 57, .load 1 false (.t 56), some (54, false), []⟩, ⟨some 58, .call 42 [.t 57, .c (.int .i64 (0)), .c (.int .i64 (1048576))], some (54, false), []⟩, ⟨some 59, .un .not (.t 58), some (54, false), []⟩, ⟨some 60, .pick (.t 54) (.c (.bool true)) (.t 59), none, []⟩, ⟨some 38, .mv (.t 60), none, []⟩]).seq (ACode.cond (.t 38) ((ACode.region false [⟨some 61, .build [.string ⟨⟨[]⟩⟩, .string ⟨⟨[]⟩⟩, .int .i64 (0), .int .i64 (0), .int .i64 (0), .int .i64 (0), .int .i64 (0), .int .i64 (0)] [], none, []⟩, ⟨none, .store 8 (.t 8) (.t 61), none, []⟩, ⟨some 9, .mv (.c (.int .i64 (9))), none, []⟩]).seq ACode.ret) ((ACode.region false [⟨some 63, .mv (.t 1), none, []⟩, ⟨some 64, .len (.t 63), none, []⟩, ⟨some 65, .bin .geq (.t 64) (.c (.int .i64 (128))), none, []⟩, ⟨some 62, .mv (.t 65), none, []⟩]).seq (ACode.cond (.t 62) ((ACode.region false [⟨some 66, .build [.string ⟨⟨[]⟩⟩, .string ⟨⟨[]⟩⟩, .int .i64 (0), .int .i64 (0), .int .i64 (0), .int .i64 (0), .int .i64 (0), .int .i64 (0)] [], none, []⟩, ⟨none, .store 8 (.t 8) (.t 66), none, []⟩, ⟨some 9, .mv (.c (.int .i64 (12))), none, []⟩]).seq ACode.ret) ACode.skip))))))))).seq (((ACode.region false [⟨some 67, .mv (.t 1), none, []⟩, ⟨some 68, .fieldAddr 6 (.t 6), none, []⟩, ⟨some 69, .fieldAddr 0 (.t 68), none, []⟩, ⟨some 70, .load 1 false (.t 69), none, []⟩, ⟨some 71, .call 43 [.t 67, .t 70], none, []⟩, ⟨some 72, .len (.t 71), none, []⟩, ⟨some 73, .mv (.c (.int .i64 (0))), none, []⟩]).seq (ACode.block 1 ((ACode.region false [⟨some 74, .bin .lss (.t 73) (.t 72), none, []⟩]).seq ((ACode.cond (.t 74) ACode.skip (ACode.exit 1)).seq ((ACode.block 2 ((ACode.region false [⟨some 75, .idxAddr 1 (.t 71) (.t 73), none, []⟩, ⟨some 76, .load 1 false (.t 75), none, []⟩, ⟨some 12, .mv (.t 76), none, []⟩]).seq ((ACode.region false [⟨some 77, .mv (.t 0), none, []⟩, ⟨some 78, .len (.t 77), none, []⟩, ⟨some 79, .mv (.c (.int .i64 (0))), none, []⟩]).seq (ACode.block 3 ((ACode.region false [⟨some 80, .bin .lss (.t 79) (.t 78), none, []⟩]).seq ((ACode.cond (.t 80) ACode.skip (ACode.exit 3)).seq ((ACode.block 4 ((ACode.region false [⟨some 81, .idxAddr 3 (.t 77) (.t 79), none, []⟩, ⟨some 82, .load 3 true (.t 81), none, []⟩, ⟨some 14, .alloc [.string ⟨⟨[]⟩⟩, .int .i64 (0), .int .i64 (0)], none, []⟩, ⟨none, .store 3 (.t 14) (.t 82), none, []⟩]).seq ((ACode.region false [⟨some 83, .mv (.t 1), none, []⟩, ⟨some 84, .mv (.t 12), none, []⟩, ⟨some 85, .mv (.t 3), none, []⟩, ⟨some 86, .bin .add (.t 84) (.t 85), none, []⟩, ⟨some 87, .call 43 [.t 83, .t 86], none, []⟩, ⟨some 88, .len (.t 87), none, []⟩, ⟨some 89, .mv (.c (.int .i64 (0))), none, []⟩]).seq (ACode.block 5 ((ACode.region false [⟨some 90, .bin .lss (.t 89) (.t 88), none, []⟩]).seq ((ACode.cond (.t 90) ACode.skip (ACode.exit 5)).seq ((ACode.block 6 ((ACode.region false [⟨some 91, .idxAddr 1 (.t 87) (.t 89), none, []⟩, ⟨some 92, .load 1 false (.t 91), none, []⟩, ⟨some 16, .mv (.t 92), none, []⟩]).seq ((ACode.region false [⟨some 93, .fieldAddr 0 (.t 6), none, []⟩, ⟨some 94, .load 1 false (.t 93), none, []⟩, ⟨some 95, .fieldAddr 0 (.t 14), none, []⟩, ⟨some 96, .load 1 false (.t 95), none, []⟩, ⟨some 97, .fieldAddr 4 (.t 6), none, []⟩, ⟨some 98, .load 1 false (.t 97), none, []⟩, ⟨some 99, .fieldAddr 5 (.t 6), none, []⟩, ⟨some 100, .load 1 false (.t 99), none, []⟩, ⟨some 101, .mv (.t 12), none, []⟩, ⟨some 102, .mv (.t 16), none, []⟩, ⟨some 103, .build [.int .i64 (0), .int .i64 (0)] [(0, 1, .t 101), (1, 1, .t 102)], none, []⟩, ⟨some 104, .build [.string ⟨⟨[]⟩⟩, .string ⟨⟨[]⟩⟩, .int .i64 (0), .int .i64 (0), .int .i64 (0), .int .i64 (0), .int .i64 (0), .int .i64 (0)] [(0, 1, .t 94), (1, 1, .t 96), (4, 1, .t 98), (5, 1, .t 100), (6, 2, .t 103)], none, []⟩, ⟨some 17, .alloc [.string ⟨⟨[]⟩⟩, .string ⟨⟨[]⟩⟩, .int .i64 (0), .int .i64 (0), .int .i64 (0), .int .i64 (0), .int .i64 (0), .int .i64 (0)], none, []⟩, ⟨none, .store 8 (.t 17) (.t 104), none, []⟩]).seq (((ACode.region false [⟨some 105, .mv (.t 16), none, []⟩, ⟨some 106, .bin .gtr (.t 105) (.c (.int .i64 (1048576))), none, []⟩]).seq (ACode.cond (.t 106) (ACode.exit 6) ACode.skip)).seq ((ACode.region false [⟨some 108, .load 3 true (.t 14), none, []⟩, ⟨some 109, .mv (.t 1), none, []⟩, ⟨some 110, .load 8 true (.t 17), none, []⟩, ⟨some 111, .call 44 [.t 108, .t 109, .t 110], none, []⟩, ⟨some 107, .mv (.t 111), none, []⟩, ⟨some 112, .extract (.t 107) 0, none, []⟩, ⟨some 113, .extract (.t 107) 1, none, []⟩, ⟨some 18, .alloc [.string ⟨⟨[]⟩⟩, .string ⟨⟨[]⟩⟩, .int .i64 (0), .int .i64 (0), .int .i64 (0), .int .i64 (0), .int .i64 (0), .int .i64 (0)], none, []⟩, ⟨none, .store 8 (.t 18) (.t 112), none, []⟩, ⟨some 19, .mv (.t 113), none, []⟩]).seq ((ACode.region false [⟨some 114, .mv (.t 19), none, []⟩]).seq (ACode.cond (.t 114) ((ACode.region false [⟨some 115, .load 8 true (.t 18), none, []⟩, ⟨none, .store 8 (.t 8) (.t 115), none, []⟩, ⟨some 9, .mv (.c (.int .i64 (0))), none, []⟩]).seq ACode.ret) ACode.skip))))))).seq (ACode.region false [⟨some 116, .bin .add (.t 89) (.c (.int .i64 (1))), none, []⟩, ⟨some 89, .mv (.t 116), none, []⟩])))).loop)))).seq (ACode.region false [⟨some 117, .bin .add (.t 79) (.c (.int .i64 (1))), none, []⟩, ⟨some 79, .mv (.t 117), none, []⟩])))).loop)))).seq (ACode.region false [⟨some 118, .bin .add (.t 73) (.c (.int .i64 (1))), none, []⟩, ⟨some 73, .mv (.t 118), none, []⟩])))).loop)).seq ((ACode.region false [⟨some 119, .build [.string ⟨⟨[]⟩⟩, .string ⟨⟨[]⟩⟩, .int .i64 (0), .int .i64 (0), .int .i64 (0), .int .i64 (0), .int .i64 (0), .int .i64 (0)] [], none, []⟩, ⟨none, .store 8 (.t 8) (.t 119), none, []⟩, ⟨some 9, .mv (.c (.int .i64 (18))), none, []⟩]).seq ACode.ret)))))
theorem Tryz.F20 : FnFacts Tryz.prog 20 Tryz.f20 Tryz.ac20 120 [.cell 8 43, .tmp 9] := ⟨Tryz.func20, by kernel_rfl, by kernel_rfl, by kernel_rfl, by kernel_rfl, by kernel_rfl, by kernel_rfl, by kernel_rfl⟩
def Tryz.ac22 : ACode := ((ACode.region false [⟨some 6, .box 1 (.t 2), none, []⟩, ⟨some 8, .mv (.c (.slice none 0 0)), none, []⟩, ⟨some 9, .mv (.c (.int .i64 (0))), none, []⟩]).seq (((ACode.region false [⟨some 15, .mv (.t 0), none, []⟩, ⟨some 16, .mv (.t 1), none, []⟩, ⟨some 17, .call 12 [.t 15, .t 16], none, []⟩, ⟨some 10, .mv (.t 17), none, []⟩]).seq ((ACode.region false [⟨some 18, .mv (.t 10), none, []⟩, ⟨some 19, .bin .neq (.t 18) (.c (.int .i64 (0))), none, []⟩]).seq (ACode.cond (.t 19) ((ACode.region false [⟨some 20, .mv (.t 10), none, []⟩, ⟨some 8, .mv (.c (.slice none 0 0)), none, []⟩, ⟨some 9, .mv (.t 20), none, []⟩]).seq ACode.ret) ACode.skip))).seq ((ACode.region false [⟨some 21, .mv (.t 1), none, []⟩, ⟨some 22, .mkfn 48 [.t 6], none, []⟩, ⟨some 23, .call 47 [.t 21, .t 22], none, []⟩, ⟨some 11, .mv (.t 23), none, []⟩]).seq (((ACode.region false [⟨some 24, .mv (.t 11), none, []⟩, ⟨some 25, .bin .lss (.t 24) (.c (.int .i64 (0))), none, []⟩]).seq (ACode.cond (.t 25) ((ACode.region false [⟨some 8, .mv (.c (.slice none 0 0)), none, []⟩, ⟨some 9, .mv (.c (.int .i64 (8))), none, []⟩]).seq ACode.ret) ACode.skip)).seq (((ACode.region false [⟨some 26, .mv (.t 3), none, []⟩, ⟨some 27, .call 42 [.t 26, .c (.int .i64 (0)), .c (.int .i64 (1048576))], none, []⟩, ⟨some 28, .un .not (.t 27), none, []⟩]).seq (ACode.cond (.t 28) ((ACode.region false [⟨some 8, .mv (.c (.slice none 0 0)), none, []⟩, ⟨some 9, .mv (.c (.int .i64 (9))), none, []⟩]).seq ACode.ret) ACode.skip)).seq ((ACode.region false [⟨some 29, .mv (.t 1), none, []⟩, ⟨some 30, .len (.t 29), none, []⟩, ⟨some 31, .make 43 8 80 [.string ⟨⟨[]⟩⟩, .string ⟨⟨[]⟩⟩, .int .i64 (0), .int .i64 (0), .int .i64 (0), .int .i64 (0), .int .i64 (0), .int .i64 (0)] (.t 30), none, []⟩, ⟨some 12, .mv (.t 31), none, []⟩]).seq ((ACode.region false [⟨some 32, .mv (.t 12), none, []⟩, ⟨some 33, .mv (.t 1), none, []⟩, ⟨some 34, .copy 8 (.t 32) (.t 33), none, []⟩]).seq (((ACode.region false [⟨some 35, .mv (.t 1), none, []⟩, ⟨some 36, .len (.t 35), none, []⟩, ⟨some 37, .mv (.c (.int .i64 (0))), none, []⟩]).seq (ACode.block 0 ((ACode.region false [⟨some 38, .bin .lss (.t 37) (.t 36), none, []⟩]).seq ((ACode.cond (.t 38) ACode.skip (ACode.exit 0)).seq ((ACode.block 1 ((ACode.region false [⟨some 39, .mv (.t 37), none, []⟩, ⟨some 40, .idxAddr 8 (.t 35) (.t 37), none, []⟩, ⟨some 41, .load 8 true (.t 40), none, []⟩, ⟨some 14, .alloc [.string ⟨⟨[]⟩⟩, .string ⟨⟨[]⟩⟩, .int .i64 (0), .int .i64 (0), .int .i64 (0), .int .i64 (0), .int .i64 (0), .int .i64 (0)], none, []⟩, ⟨some 13, .mv (.t 39), none, []⟩, ⟨none, .store 8 (.t 14) (.t 41), none, []⟩]).seq ((ACode.region true [⟨some 42, .fieldAddr 1 (.t 14), none, []⟩, ⟨some 43, .load 1 false (.t 42), none, [0]⟩, ⟨some 44, .mv (.t 1), none, []⟩, ⟨some 45, .mv (.t 11), none, []⟩, ⟨some 46, .idxAddr 8 (.t 44) (.t 45), none, [2, 3]⟩, ⟨some 47, .fieldAddr 1 (.t 46), none, [4]⟩, ⟨some 48, .load 1 false (.t 47), none, [5]⟩, ⟨some 49, .bin .eql (.t 43) (.t 48), none, [1, 6]⟩, ⟨some 50, .mv (.t 49), none, [7]⟩, ⟨some 51, .fieldAddr 6 (.t 14), some (50, true), [8]⟩, ⟨some 52, .fieldAddr 1 (.t 51), some (50, true), [9, 8]⟩, ⟨some 53, .load 1 false (.t 52), some (50, true), [10, 8]⟩, ⟨some 54, .mv (.t 1), some (50, true), [8]⟩, ⟨some 55, .mv (.t 11), some (50, true), [8]⟩, ⟨some 56, .idxAddr 8 (.t 54) (.t 55), some (50, true), [12, 13, 8]⟩, ⟨some 57, .fieldAddr 6 (.t 56), some (50, true), [14, 8]⟩, ⟨some 58, .fieldAddr 1 (.t 57), some (50, true), [15, 8]⟩, ⟨some 59, .load 1 false (.t 58), some (50, true), [16, 8]⟩, ⟨some 60, .bin .eql (.t 53) (.t 59), some (50, true), [11, 17, 8]⟩, ⟨some 61, .pick (.t 50) (.t 60) (.c (.bool false)), none, [8, 18]⟩]).seq (ACode.cond (.t 61) (ACode.region false [⟨some 62, .mv (.t 12), none, []⟩, ⟨some 63, .mv (.t 13), none, []⟩, ⟨some 64, .idxAddr 8 (.t 62) (.t 63), none, []⟩, ⟨some 65, .fieldAddr 6 (.t 64), none, []⟩, ⟨some 66, .fieldAddr 1 (.t 65), none, []⟩, ⟨some 67, .load 1 false (.t 66), none, []⟩, ⟨some 68, .mv (.t 3), none, []⟩, ⟨some 69, .bin .add (.t 67) (.t 68), none, []⟩, ⟨some 70, .idxAddr 8 (.t 62) (.t 63), none, []⟩, ⟨some 71, .fieldAddr 6 (.t 70), none, []⟩, ⟨some 72, .fieldAddr 1 (.t 71), none, []⟩, ⟨none, .store 1 (.t 72) (.t 69), none, []⟩]) ACode.skip)))).seq (ACode.region false [⟨some 73, .bin .add (.t 37) (.c (.int .i64 (1))), none, []⟩, ⟨some 37, .mv (.t 73), none, []⟩])))).loop)).seq (((ACode.region false [⟨some 74, .mv (.t 0), none, []⟩, ⟨some 75, .mv (.t 12), none, []⟩, ⟨some 76, .call 12 [.t 74, .t 75], none, []⟩, ⟨some 77, .bin .neq (.t 76) (.c (.int .i64 (0))), none, []⟩]).seq (ACode.cond (.t 77) ((ACode.region false [⟨some 8, .mv (.c (.slice none 0 0)), none, []⟩, ⟨some 9, .mv (.c (.int .i64 (19))), none, []⟩]).seq ACode.ret) ACode.skip)).seq ((ACode.region false [⟨some 78, .mv (.t 12), none, []⟩, ⟨some 8, .mv (.t 78), none, []⟩, ⟨some 9, .mv (.c (.int .i64 (0))), none, []⟩]).seq ACode.ret))))))))))
theorem Tryz.F22 : FnFacts Tryz.prog 22 Tryz.f22 Tryz.ac22 79 [.tmp 8, .tmp 9] := ⟨Tryz.func22, by kernel_rfl, by kernel_rfl, by kernel_rfl, by kernel_rfl, by kernel_rfl, by kernel_rfl, by kernel_rfl⟩
def Tryz.ac26 : ACode := ((ACode.region false [⟨some 4, .mv (.c (.int .i64 (0))), none, []⟩]).seq (((ACode.region false [⟨some 12, .mv (.t 0), none, []⟩, ⟨some 13, .len (.t 12), none, []⟩, ⟨some 14, .bin .gtr (.t 13) (.c (.int .i64 (8))), none, []⟩, ⟨some 15, .mv (.t 14), none, []⟩, ⟨some 16, .mv (.t 1), some (15, false), []⟩, ⟨some 17, .len (.t 16), some (15, false), []⟩, ⟨some 18, .bin .gtr (.t 17) (.c (.int .i64 (128))), some (15, false), []⟩, ⟨some 19, .pick (.t 15) (.c (.bool true)) (.t 18), none, []⟩]).seq (ACode.cond (.t 19) ((ACode.region false [⟨some 4, .mv (.c (.int .i64 (4))), none, []⟩]).seq ACode.ret) ACode.skip)).seq (((ACode.region false [⟨some 20, .mv (.t 0), none, []⟩, ⟨some 21, .len (.t 20), none, []⟩, ⟨some 22, .mv (.c (.int .i64 (0))), none, []⟩]).seq (ACode.block 0 ((ACode.region false [⟨some 23, .bin .lss (.t 22) (.t 21), none, []⟩]).seq ((ACode.cond (.t 23) ACode.skip (ACode.exit 0)).seq ((ACode.block 1 ((ACode.region false [⟨some 24, .mv (.t 22), none, []⟩, ⟨some 25, .idxAddr 3 (.t 20) (.t 22), none, []⟩, ⟨some 26, .load 3 true (.t 25), none, []⟩, ⟨some 6, .alloc [.string ⟨⟨[]⟩⟩, .int .i64 (0), .int .i64 (0)], none, []⟩, ⟨some 5, .mv (.t 24), none, []⟩, ⟨none, .store 3 (.t 6) (.t 26), none, []⟩]).seq (((ACode.region false [⟨some 27, .fieldAddr 0 (.t 6), none, []⟩, ⟨some 28, .load 1 false (.t 27), none, []⟩, ⟨some 29, .call 49 [.t 28], none, []⟩, ⟨some 30, .un .not (.t 29), none, []⟩]).seq (ACode.cond (.t 30) ((ACode.region false [⟨some 4, .mv (.c (.int .i64 (6))), none, []⟩]).seq ACode.ret) ACode.skip)).seq (((ACode.region false [⟨some 31, .fieldAddr 1 (.t 6), none, []⟩, ⟨some 32, .load 1 false (.t 31), none, []⟩, ⟨some 33, .call 50 [.t 32], none, []⟩, ⟨some 34, .un .not (.t 33), none, []⟩, ⟨some 35, .mv (.t 34), none, []⟩, ⟨some 36, .fieldAddr 2 (.t 6), some (35, false), []⟩, ⟨some 37, .load 1 false (.t 36), some (35, false), []⟩, ⟨some 38, .call 50 [.t 37], some (35, false), []⟩, ⟨some 39, .un .not (.t 38), some (35, false), []⟩, ⟨some 40, .pick (.t 35) (.c (.bool true)) (.t 39), none, []⟩]).seq (ACode.cond (.t 40) ((ACode.region false [⟨some 4, .mv (.c (.int .i64 (9))), none, []⟩]).seq ACode.ret) ACode.skip)).seq ((ACode.region true [⟨some 42, .mv (.t 0), none, []⟩, ⟨some 43, .mv (.t 5), none, []⟩, ⟨some 44, .slice 3 (.t 42) none (some (.t 43)), none, [0, 1]⟩, ⟨some 45, .fieldAddr 0 (.t 6), none, []⟩, ⟨some 46, .load 1 false (.t 45), none, [3]⟩, ⟨some 47, .call 51 [.t 44, .t 46], none, [2, 4]⟩, ⟨some 41, .mv (.t 47), none, [5]⟩, ⟨some 48, .extract (.t 41) 0, none, [6]⟩, ⟨some 49, .extract (.t 41) 1, none, [6]⟩, ⟨some 7, .alloc [.string ⟨⟨[]⟩⟩, .int .i64 (0), .int .i64 (0)], none, []⟩, ⟨none, .store 3 (.t 7) (.t 48), none, [9, 7, 5, 0, 1, 2, 3, 4, 5, 6, 7, 9]⟩, ⟨some 8, .mv (.t 49), none, [8, 10, 0, 1, 2, 3, 4, 5, 6, 7, 8, 9, 10]⟩]).seq ((ACode.region false [⟨some 50, .mv (.t 8), none, []⟩]).seq (ACode.cond (.t 50) ((ACode.region false [⟨some 4, .mv (.c (.int .i64 (7))), none, []⟩]).seq ACode.ret) ACode.skip))))))).seq (ACode.region false [⟨some 51, .bin .add (.t 22) (.c (.int .i64 (1))), none, []⟩, ⟨some 22, .mv (.t 51), none, []⟩])))).loop)).seq (((ACode.region false [⟨some 52, .mv (.t 1), none, []⟩, ⟨some 53, .len (.t 52), none, []⟩, ⟨some 54, .mv (.c (.int .i64 (0))), none, []⟩]).seq (ACode.block 2 ((ACode.region false [⟨some 55, .bin .lss (.t 54) (.t 53), none, []⟩]).seq ((ACode.cond (.t 55) ACode.skip (ACode.exit 2)).seq ((ACode.block 3 ((ACode.region false [⟨some 56, .mv (.t 54), none, []⟩, ⟨some 57, .idxAddr 8 (.t 52) (.t 54), none, []⟩, ⟨some 58, .load 8 true (.t 57), none, []⟩, ⟨some 10, .alloc [.string ⟨⟨[]⟩⟩, .string ⟨⟨[]⟩⟩, .int .i64 (0), .int .i64 (0), .int .i64 (0), .int .i64 (0), .int .i64 (0), .int .i64 (0)], none, []⟩, ⟨some 9, .mv (.t 56), none, []⟩, ⟨none, .store 8 (.t 10) (.t 58), none, []⟩]).seq ((ACode.region true [⟨some 59, .mv (.t 0), none, []⟩, ⟨some 60, .mv (.t 1), none, []⟩, ⟨some 61, .mv (.t 9), none, []⟩, ⟨some 62, .slice 8 (.t 60) none (some (.t 61)), none, [1, 2]⟩, ⟨some 63, .load 8 true (.t 10), none, []⟩, ⟨some 64, .call 52 [.t 59, .t 62, .t 63], none, [0, 3, 4]⟩, ⟨some 11, .mv (.t 64), none, [5, 5, 0, 1, 2, 3, 4, 5]⟩]).seq ((ACode.region false [⟨some 65, .mv (.t 11), none, []⟩, ⟨some 66, .bin .neq (.t 65) (.c (.int .i64 (0))), none, []⟩]).seq (ACode.cond (.t 66) ((ACode.region false [⟨some 67, .mv (.t 11), none, []⟩, ⟨some 4, .mv (.t 67), none, []⟩]).seq ACode.ret) ACode.skip))))).seq (ACode.region false [⟨some 68, .bin .add (.t 54) (.c (.int .i64 (1))), none, []⟩, ⟨some 54, .mv (.t 68), none, []⟩])))).loop)).seq ((ACode.region false [⟨some 4, .mv (.c (.int .i64 (0))), none, []⟩]).seq ACode.ret)))))
theorem Tryz.F26 : FnFacts Tryz.prog 26 Tryz.f26 Tryz.ac26 69 [.tmp 4] := ⟨Tryz.func26, by kernel_rfl, by kernel_rfl, by kernel_rfl, by kernel_rfl, by kernel_rfl, by kernel_rfl, by kernel_rfl⟩
def Tryz.ac27 : ACode := ((ACode.region false [⟨some 2, .mv (.c (.slice none 0 0)), none, []⟩]).seq ((ACode.region false [⟨some 3, .mv (.c (.slice none 0 0)), none, []⟩]).seq (((ACode.region false [⟨some 6, .mv (.t 0), none, []⟩, ⟨some 7, .len (.t 6), none, []⟩, ⟨some 8, .mv (.c (.int .i64 (0))), none, []⟩]).seq (ACode.block 0 ((ACode.region false [⟨some 9, .bin .lss (.t 8) (.t 7), none, []⟩]).seq ((ACode.cond (.t 9) ACode.skip (ACode.exit 0)).seq ((ACode.block 1 ((ACode.region false [⟨some 10, .idxAddr 8 (.t 6) (.t 8), none, []⟩, ⟨some 11, .load 8 true (.t 10), none, []⟩, ⟨some 5, .alloc [.string ⟨⟨[]⟩⟩, .string ⟨⟨[]⟩⟩, .int .i64 (0), .int .i64 (0), .int .i64 (0), .int .i64 (0), .int .i64 (0), .int .i64 (0)], none, []⟩, ⟨none, .store 8 (.t 5) (.t 11), none, []⟩]).seq (ACode.region false [⟨some 12, .mv (.t 3), none, []⟩, ⟨some 13, .fieldAddr 0 (.t 5), none, []⟩, ⟨some 14, .load 1 false (.t 13), none, []⟩, ⟨some 15, .fieldAddr 1 (.t 5), none, []⟩, ⟨some 16, .load 1 false (.t 15), none, []⟩, ⟨some 17, .fieldAddr 2 (.t 5), none, []⟩, ⟨some 18, .load 2 true (.t 17), none, []⟩, ⟨some 19, .fieldAddr 4 (.t 5), none, []⟩, ⟨some 20, .load 1 false (.t 19), none, []⟩, ⟨some 21, .fieldAddr 5 (.t 5), none, []⟩, ⟨some 22, .load 1 false (.t 21), none, []⟩, ⟨some 23, .fieldAddr 6 (.t 5), none, []⟩, ⟨some 24, .load 2 true (.t 23), none, []⟩, ⟨some 25, .build [.string ⟨⟨[]⟩⟩, .string ⟨⟨[]⟩⟩, .int .i64 (0), .int .i64 (0), .int .i64 (0), .int .i64 (0), .int .i64 (0), .int .i64 (0)] [(0, 1, .t 14), (1, 1, .t 16), (2, 2, .t 18), (4, 1, .t 20), (5, 1, .t 22), (6, 2, .t 24)], none, []⟩, ⟨some 26, .buildSlice 78 8 [.t 25], none, []⟩, ⟨some 27, .append 78 8 80 (.t 12) (.t 26), none, []⟩, ⟨some 3, .mv (.t 27), none, []⟩]))).seq (ACode.region false [⟨some 28, .bin .add (.t 8) (.c (.int .i64 (1))), none, []⟩, ⟨some 8, .mv (.t 28), none, []⟩])))).loop)).seq ((ACode.region false [⟨some 29, .mv (.t 3), none, []⟩, ⟨some 2, .mv (.t 29), none, []⟩]).seq ACode.ret))))
theorem Tryz.F27 : FnFacts Tryz.prog 27 Tryz.f27 Tryz.ac27 30 [.tmp 2] := ⟨Tryz.func27, by kernel_rfl, by kernel_rfl, by kernel_rfl, by kernel_rfl, by kernel_rfl, by kernel_rfl, by kernel_rfl⟩
def Tryz.ac28 : ACode := ((ACode.region false [⟨some 4, .mv (.c (.bool false)), none, []⟩]).seq ((ACode.region false [⟨some 5, .mv (.t 0), none, []⟩, ⟨some 6, .mv (.t 1), none, []⟩, ⟨some 7, .call 47 [.t 5, .t 6], none, []⟩, ⟨some 8, .bin .geq (.t 7) (.c (.int .i64 (0))), none, []⟩, ⟨some 4, .mv (.t 8), none, []⟩]).seq ACode.ret))
theorem Tryz.F28 : FnFacts Tryz.prog 28 Tryz.f28 Tryz.ac28 9 [.tmp 4] := ⟨Tryz.func28, by kernel_rfl, by kernel_rfl, by kernel_rfl, by kernel_rfl, by kernel_rfl, by kernel_rfl, by kernel_rfl⟩
def Tryz.ac29 : ACode := ((ACode.region false [⟨some 2, .box 8 (.t 0), none, []⟩, ⟨some 3, .mv (.c (.bool false)), none, []⟩]).seq ((ACode.region false [⟨some 4, .fieldAddr 0 (.t 2), none, []⟩, ⟨some 5, .load 1 false (.t 4), none, []⟩, ⟨some 6, .fieldAddr 0 (.t 1), none, []⟩, ⟨some 7, .load 1 false (.t 6), none, []⟩, ⟨some 8, .bin .eql (.t 5) (.t 7), none, []⟩, ⟨some 3, .mv (.t 8), none, []⟩]).seq ACode.ret))
theorem Tryz.F29 : FnFacts Tryz.prog 29 Tryz.f29 Tryz.ac29 9 [.tmp 3] := ⟨Tryz.func29, by kernel_rfl, by kernel_rfl, by kernel_rfl, by kernel_rfl, by kernel_rfl, by kernel_rfl, by kernel_rfl⟩
def Tryz.ac35 : ACode := ((ACode.region false [⟨some 4, .mv (.c (.slice none 0 0)), none, []⟩]).seq ((ACode.region false [⟨some 5, .mv (.c (.slice none 0 0)), none, []⟩]).seq ((ACode.region false [⟨some 6, .mv (.c (.bool false)), none, []⟩]).seq (((ACode.region false [⟨some 7, .mv (.c (.int .i64 (0))), none, []⟩]).seq (ACode.block 0 (((ACode.region false [⟨some 8, .mv (.t 7), none, []⟩, ⟨some 9, .mv (.t 0), none, []⟩, ⟨some 10, .len (.t 9), none, []⟩, ⟨some 11, .bin .lss (.t 8) (.t 10), none, []⟩]).seq (ACode.cond (.t 11) ACode.skip (ACode.exit 0))).seq ((ACode.block 1 (((ACode.region false [⟨some 14, .mv (.t 6), none, []⟩, ⟨some 15, .un .not (.t 14), none, []⟩, ⟨some 16, .mv (.t 15), none, []⟩, ⟨some 17, .mv (.t 1), some (16, true), []⟩, ⟨some 18, .mv (.t 0), some (16, true), []⟩, ⟨some 19, .mv (.t 7), some (16, true), []⟩, ⟨some 20, .idxAddr 1 (.t 18) (.t 19), some (16, true), []⟩, ⟨some 21, .load 1 false (.t 20), some (16, true), []⟩, ⟨some 22, .bin .leq (.t 17) (.t 21), some (16, true), []⟩, ⟨some 23, .pick (.t 16) (.t 22) (.c (.bool false)), none, []⟩]).seq (ACode.cond (.t 23) ((ACode.region false [⟨some 6, .mv (.c (.bool true)), none, []⟩]).seq ((ACode.region false [⟨some 24, .mv (.t 1), none, []⟩, ⟨some 25, .mv (.t 0), none, []⟩, ⟨some 26, .mv (.t 7), none, []⟩, ⟨some 27, .idxAddr 1 (.t 25) (.t 26), none, []⟩, ⟨some 28, .load 1 false (.t 27), none, []⟩, ⟨some 29, .bin .lss (.t 24) (.t 28), none, []⟩]).seq (ACode.cond (.t 29) (ACode.region false [⟨some 30, .mv (.t 5), none, []⟩, ⟨some 31, .mv (.t 1), none, []⟩, ⟨some 32, .buildSlice 3 1 [.t 31], none, []⟩, ⟨some 33, .append 3 1 8 (.t 30) (.t 32), none, []⟩, ⟨some 5, .mv (.t 33), none, []⟩]) ACode.skip))) ACode.skip)).seq (ACode.region false [⟨some 34, .mv (.t 5), none, []⟩, ⟨some 35, .mv (.t 0), none, []⟩, ⟨some 36, .mv (.t 7), none, []⟩, ⟨some 37, .idxAddr 1 (.t 35) (.t 36), none, []⟩, ⟨some 38, .load 1 false (.t 37), none, []⟩, ⟨some 39, .buildSlice 3 1 [.t 38], none, []⟩, ⟨some 40, .append 3 1 8 (.t 34) (.t 39), none, []⟩, ⟨some 5, .mv (.t 40), none, []⟩]))).seq (ACode.region false [⟨some 12, .mv (.t 7), none, []⟩, ⟨some 13, .bin .add (.t 12) (.c (.int .i64 (1))), none, []⟩, ⟨some 7, .mv (.t 13), none, []⟩]))).loop)).seq (((ACode.region false [⟨some 41, .mv (.t 6), none, []⟩, ⟨some 42, .un .not (.t 41), none, []⟩]).seq (ACode.cond (.t 42) (ACode.region false [⟨some 43, .mv (.t 5), none, []⟩, ⟨some 44, .mv (.t 1), none, []⟩, ⟨some 45, .buildSlice 3 1 [.t 44], none, []⟩, ⟨some 46, .append 3 1 8 (.t 43) (.t 45), none, []⟩, ⟨some 5, .mv (.t 46), none, []⟩]) ACode.skip)).seq ((ACode.region false [⟨some 47, .mv (.t 5), none, []⟩, ⟨some 4, .mv (.t 47), none, []⟩]).seq ACode.ret))))))
theorem Tryz.F35 : FnFacts Tryz.prog 35 Tryz.f35 Tryz.ac35 48 [.tmp 4] := ⟨Tryz.func35, by kernel_rfl, by kernel_rfl, by kernel_rfl, by kernel_rfl, by kernel_rfl, by kernel_rfl, by kernel_rfl⟩
def Tryz.ac36 : ACode := ((ACode.region false [⟨some 4, .mv (.c (.slice none 0 0)), none, []⟩]).seq ((ACode.region false [⟨some 5, .mv (.t 0), none, []⟩, ⟨some 6, .mv (.t 1), none, []⟩, ⟨some 7, .call 57 [.t 5, .t 6, .f 58], none, []⟩, ⟨some 4, .mv (.t 7), none, []⟩]).seq ACode.ret))
theorem Tryz.F36 : FnFacts Tryz.prog 36 Tryz.f36 Tryz.ac36 8 [.tmp 4] := ⟨Tryz.func36, by kernel_rfl, by kernel_rfl, by kernel_rfl, by kernel_rfl, by kernel_rfl, by kernel_rfl, by kernel_rfl⟩
def Tryz.ac37 : ACode := ((ACode.region false [⟨some 4, .mv (.c (.slice none 0 0)), none, []⟩]).seq ((ACode.region false [⟨some 5, .mv (.t 0), none, []⟩, ⟨some 6, .mv (.t 1), none, []⟩, ⟨some 7, .call 57 [.t 5, .t 6, .f 59], none, []⟩, ⟨some 4, .mv (.t 7), none, []⟩]).seq ACode.ret))
theorem Tryz.F37 : FnFacts Tryz.prog 37 Tryz.f37 Tryz.ac37 8 [.tmp 4] := ⟨Tryz.func37, by kernel_rfl, by kernel_rfl, by kernel_rfl, by kernel_rfl, by kernel_rfl, by kernel_rfl, by kernel_rfl⟩
def Tryz.ac38 : ACode := ((ACode.region false [⟨some 4, .mv (.c (.slice none 0 0)), none, []⟩]).seq ((ACode.region false [⟨some 9, .mv (.t 0), none, []⟩, ⟨some 10, .call 60 [.t 9], none, []⟩, ⟨some 5, .mv (.t 10), none, []⟩]).seq (((ACode.region false [⟨some 6, .mv (.c (.int .i64 (0))), none, []⟩]).seq (ACode.block 0 (((ACode.region false [⟨some 11, .mv (.t 6), none, []⟩, ⟨some 12, .mv (.t 1), none, []⟩, ⟨some 13, .len (.t 12), none, []⟩, ⟨some 14, .bin .lss (.t 11) (.t 13), none, []⟩]).seq (ACode.cond (.t 14) ACode.skip (ACode.exit 0))).seq ((ACode.block 1 (((ACode.region true [⟨some 17, .mv (.t 1), none, []⟩, ⟨some 18, .mv (.t 6), none, []⟩, ⟨some 19, .idxAddr 2 (.t 17) (.t 18), none, [0, 1]⟩, ⟨some 20, .fieldAddr 0 (.t 19), none, [2]⟩, ⟨some 21, .load 1 false (.t 20), none, [3]⟩, ⟨some 22, .mv (.t 1), none, []⟩, ⟨some 23, .mv (.t 6), none, []⟩, ⟨some 24, .idxAddr 2 (.t 22) (.t 23), none, [5, 6]⟩, ⟨some 25, .fieldAddr 1 (.t 24), none, [7]⟩, ⟨some 26, .load 1 false (.t 25), none, [8]⟩, ⟨some 27, .bin .geq (.t 21) (.t 26), none, [4, 9]⟩]).seq (ACode.cond (.t 27) (ACode.exit 1) ACode.skip)).seq ((ACode.region false [⟨some 7, .mv (.c (.slice none 0 0)), none, []⟩]).seq (((ACode.region false [⟨some 8, .mv (.c (.int .i64 (0))), none, []⟩]).seq (ACode.block 2 (((ACode.region false [⟨some 28, .mv (.t 8), none, []⟩, ⟨some 29, .mv (.t 5), none, []⟩, ⟨some 30, .len (.t 29), none, []⟩, ⟨some 31, .bin .lss (.t 28) (.t 30), none, []⟩]).seq (ACode.cond (.t 31) ACode.skip (ACode.exit 2))).seq ((ACode.block 3 ((ACode.region true [⟨some 34, .mv (.t 7), none, []⟩, ⟨some 35, .mv (.t 5), none, []⟩, ⟨some 36, .mv (.t 8), none, []⟩, ⟨some 37, .idxAddr 2 (.t 35) (.t 36), none, [1, 2]⟩, ⟨some 38, .fieldAddr 0 (.t 37), none, [3]⟩, ⟨some 39, .load 1 false (.t 38), none, [4]⟩, ⟨some 40, .mv (.t 5), none, []⟩, ⟨some 41, .mv (.t 8), none, []⟩, ⟨some 42, .idxAddr 2 (.t 40) (.t 41), none, [6, 7]⟩, ⟨some 43, .fieldAddr 1 (.t 42), none, [8]⟩, ⟨some 44, .load 1 false (.t 43), none, [9]⟩, ⟨some 45, .mv (.t 1), none, []⟩, ⟨some 46, .mv (.t 6), none, []⟩, ⟨some 47, .idxAddr 2 (.t 45) (.t 46), none, [11, 12]⟩, ⟨some 48, .fieldAddr 0 (.t 47), none, [13]⟩, ⟨some 49, .load 1 false (.t 48), none, [14]⟩, ⟨some 50, .minmax false (.t 44) (.t 49), none, [10, 15]⟩, ⟨some 51, .build [.int .i64 (0), .int .i64 (0)] [(0, 1, .t 39), (1, 1, .t 50)], none, [5, 16]⟩, ⟨some 52, .buildSlice 30 2 [.t 51], none, [17]⟩, ⟨some 53, .append 30 2 16 (.t 34) (.t 52), none, [0, 18]⟩, ⟨some 7, .mv (.t 53), none, [19, 19, 0, 1, 2, 3, 4, 5, 6, 7, 8, 9, 10, 11, 12, 13, 14, 15, 16, 17, 18, 19]⟩]).seq (ACode.region true [⟨some 54, .mv (.t 7), none, []⟩, ⟨some 55, .mv (.t 5), none, []⟩, ⟨some 56, .mv (.t 8), none, []⟩, ⟨some 57, .idxAddr 2 (.t 55) (.t 56), none, [1, 2]⟩, ⟨some 58, .fieldAddr 0 (.t 57), none, [3]⟩, ⟨some 59, .load 1 false (.t 58), none, [4]⟩, ⟨some 60, .mv (.t 1), none, []⟩, ⟨some 61, .mv (.t 6), none, []⟩, ⟨some 62, .idxAddr 2 (.t 60) (.t 61), none, [6, 7]⟩, ⟨some 63, .fieldAddr 1 (.t 62), none, [8]⟩, ⟨some 64, .load 1 false (.t 63), none, [9]⟩, ⟨some 65, .minmax true (.t 59) (.t 64), none, [5, 10]⟩, ⟨some 66, .mv (.t 5), none, []⟩, ⟨some 67, .mv (.t 8), none, []⟩, ⟨some 68, .idxAddr 2 (.t 66) (.t 67), none, [12, 13]⟩, ⟨some 69, .fieldAddr 1 (.t 68), none, [14]⟩, ⟨some 70, .load 1 false (.t 69), none, [15]⟩, ⟨some 71, .build [.int .i64 (0), .int .i64 (0)] [(0, 1, .t 65), (1, 1, .t 70)], none, [11, 16]⟩, ⟨some 72, .buildSlice 30 2 [.t 71], none, [17]⟩, ⟨some 73, .append 30 2 16 (.t 54) (.t 72), none, [0, 18]⟩, ⟨some 7, .mv (.t 73), none, [19, 19, 0, 1, 2, 3, 4, 5, 6, 7, 8, 9, 10, 11, 12, 13, 14, 15, 16, 17, 18, 19]⟩]))).seq (ACode.region false [⟨some 32, .mv (.t 8), none, []⟩, ⟨some 33, .bin .add (.t 32) (.c (.int .i64 (1))), none, []⟩, ⟨some 8, .mv (.t 33), none, []⟩]))).loop)).seq (ACode.region false [⟨some 74, .mv (.t 7), none, []⟩, ⟨some 75, .call 60 [.t 74], none, []⟩, ⟨some 5, .mv (.t 75), none, []⟩]))))).seq (ACode.region false [⟨some 15, .mv (.t 6), none, []⟩, ⟨some 16, .bin .add (.t 15) (.c (.int .i64 (1))), none, []⟩, ⟨some 6, .mv (.t 16), none, []⟩]))).loop)).seq ((ACode.region false [⟨some 76, .mv (.t 5), none, []⟩, ⟨some 4, .mv (.t 76), none, []⟩]).seq ACode.ret))))
theorem Tryz.F38 : FnFacts Tryz.prog 38 Tryz.f38 Tryz.ac38 77 [.tmp 4] := ⟨Tryz.func38, by kernel_rfl, by kernel_rfl, by kernel_rfl, by kernel_rfl, by kernel_rfl, by kernel_rfl, by kernel_rfl⟩
def Tryz.ac39 : ACode := ((ACode.region false [⟨some 4, .mv (.c (.slice none 0 0)), none, []⟩]).seq ((ACode.region false [⟨some 5, .mv (.c (.slice none 0 0)), none, []⟩]).seq (((ACode.region false [⟨some 6, .mv (.c (.int .i64 (0))), none, []⟩]).seq (ACode.block 0 (((ACode.region false [⟨some 8, .mv (.t 6), none, []⟩, ⟨some 9, .mv (.t 0), none, []⟩, ⟨some 10, .len (.t 9), none, []⟩, ⟨some 11, .bin .lss (.t 8) (.t 10), none, []⟩]).seq (ACode.cond (.t 11) ACode.skip (ACode.exit 0))).seq ((ACode.block 1 ((ACode.region false [⟨some 7, .mv (.c (.int .i64 (0))), none, []⟩]).seq (ACode.block 2 (((ACode.region false [⟨some 14, .mv (.t 7), none, []⟩, ⟨some 15, .mv (.t 1), none, []⟩, ⟨some 16, .len (.t 15), none, []⟩, ⟨some 17, .bin .lss (.t 14) (.t 16), none, []⟩]).seq (ACode.cond (.t 17) ACode.skip (ACode.exit 2))).seq ((ACode.block 3 (ACode.region true [⟨some 20, .mv (.t 5), none, []⟩, ⟨some 21, .mv (.t 0), none, []⟩, ⟨some 22, .mv (.t 6), none, []⟩, ⟨some 23, .idxAddr 2 (.t 21) (.t 22), none, [1, 2]⟩, ⟨some 24, .fieldAddr 0 (.t 23), none, [3]⟩, ⟨some 25, .load 1 false (.t 24), none, [4]⟩, ⟨some 26, .mv (.t 1), none, []⟩, ⟨some 27, .mv (.t 7), none, []⟩, ⟨some 28, .idxAddr 2 (.t 26) (.t 27), none, [6, 7]⟩, ⟨some 29, .fieldAddr 0 (.t 28), none, [8]⟩, ⟨some 30, .load 1 false (.t 29), none, [9]⟩, ⟨some 31, .minmax true (.t 25) (.t 30), none, [5, 10]⟩, ⟨some 32, .mv (.t 0), none, []⟩, ⟨some 33, .mv (.t 6), none, []⟩, ⟨some 34, .idxAddr 2 (.t 32) (.t 33), none, [12, 13]⟩, ⟨some 35, .fieldAddr 1 (.t 34), none, [14]⟩, ⟨some 36, .load 1 false (.t 35), none, [15]⟩, ⟨some 37, .mv (.t 1), none, []⟩, ⟨some 38, .mv (.t 7), none, []⟩, ⟨some 39, .idxAddr 2 (.t 37) (.t 38), none, [17, 18]⟩, ⟨some 40, .fieldAddr 1 (.t 39), none, [19]⟩, ⟨some 41, .load 1 false (.t 40), none, [20]⟩, ⟨some 42, .minmax false (.t 36) (.t 41), none, [16, 21]⟩, ⟨some 43, .build [.int .i64 (0), .int .i64 (0)] [(0, 1, .t 31), (1, 1, .t 42)], none, [11, 22]⟩, ⟨some 44, .buildSlice 30 2 [.t 43], none, [23]⟩, ⟨some 45, .append 30 2 16 (.t 20) (.t 44), none, [0, 24]⟩, ⟨some 5, .mv (.t 45), none, [25, 25, 0, 1, 2, 3, 4, 5, 6, 7, 8, 9, 10, 11, 12, 13, 14, 15, 16, 17, 18, 19, 20, 21, 22, 23, 24, 25]⟩])).seq (ACode.region false [⟨some 18, .mv (.t 7), none, []⟩, ⟨some 19, .bin .add (.t 18) (.c (.int .i64 (1))), none, []⟩, ⟨some 7, .mv (.t 19), none, []⟩]))).loop))).seq (ACode.region false [⟨some 12, .mv (.t 6), none, []⟩, ⟨some 13, .bin .add (.t 12) (.c (.int .i64 (1))), none, []⟩, ⟨some 6, .mv (.t 13), none, []⟩]))).loop)).seq ((ACode.region false [⟨some 46, .mv (.t 5), none, []⟩, ⟨some 47, .call 60 [.t 46], none, []⟩, ⟨some 4, .mv (.t 47), none, []⟩]).seq ACode.ret))))
theorem Tryz.F39 : FnFacts Tryz.prog 39 Tryz.f39 Tryz.ac39 48 [.tmp 4] := ⟨Tryz.func39, by kernel_rfl, by kernel_rfl, by kernel_rfl, by kernel_rfl, by kernel_rfl, by kernel_rfl, by kernel_rfl⟩
def Tryz.ac40 : ACode := ((ACode.region false [⟨some 2, .mv (.c (.bool false)), none, []⟩]).seq ((ACode.region false [⟨some 3, .mv (.t 0), none, []⟩, ⟨some 4, .lenStr (.t 3), none, []⟩, ⟨some 5, .bin .leq (.t 4) (.c (.int .i64 (64))), none, []⟩, ⟨some 6, .mv (.t 5), none, []⟩, ⟨some 7, .mv (.t 0), some (6, true), []⟩, ⟨some 8, .call 62 [.t 7, .c (.string ⟨⟨[(46 : UInt8)]⟩⟩)], some (6, true), []⟩, ⟨some 9, .call 61 [.t 8], some (6, true), []⟩, ⟨some 10, .pick (.t 6) (.t 9) (.c (.bool false)), none, []⟩, ⟨some 2, .mv (.t 10), none, []⟩]).seq ACode.ret))
theorem Tryz.F40 : FnFacts Tryz.prog 40 Tryz.f40 Tryz.ac40 11 [.tmp 2] := ⟨Tryz.func40, by kernel_rfl, by kernel_rfl, by kernel_rfl, by kernel_rfl, by kernel_rfl, by kernel_rfl, by kernel_rfl⟩
def Tryz.ac41 : ACode := ((ACode.region false [⟨some 2, .box 8 (.t 0), none, []⟩, ⟨some 3, .mv (.c (.bool false)), none, []⟩]).seq ((ACode.region false [⟨some 4, .fieldAddr 0 (.t 2), none, []⟩, ⟨some 5, .load 1 false (.t 4), none, []⟩, ⟨some 6, .fieldAddr 0 (.t 1), none, []⟩, ⟨some 7, .load 1 false (.t 6), none, []⟩, ⟨some 8, .bin .eql (.t 5) (.t 7), none, []⟩, ⟨some 3, .mv (.t 8), none, []⟩]).seq ACode.ret))
theorem Tryz.F41 : FnFacts Tryz.prog 41 Tryz.f41 Tryz.ac41 9 [.tmp 3] := ⟨Tryz.func41, by kernel_rfl, by kernel_rfl, by kernel_rfl, by kernel_rfl, by kernel_rfl, by kernel_rfl, by kernel_rfl⟩
def Tryz.ac42 : ACode := ((ACode.region false [⟨some 6, .mv (.c (.bool false)), none, []⟩]).seq ((ACode.region false [⟨some 7, .mv (.t 0), none, []⟩, ⟨some 8, .mv (.t 1), none, []⟩, ⟨some 9, .bin .geq (.t 7) (.t 8), none, []⟩, ⟨some 10, .mv (.t 9), none, []⟩, ⟨some 11, .mv (.t 0), some (10, true), []⟩, ⟨some 12, .mv (.t 2), some (10, true), []⟩, ⟨some 13, .bin .leq (.t 11) (.t 12), some (10, true), []⟩, ⟨some 14, .pick (.t 10) (.t 13) (.c (.bool false)), none, []⟩, ⟨some 6, .mv (.t 14), none, []⟩]).seq ACode.ret))
theorem Tryz.F42 : FnFacts Tryz.prog 42 Tryz.f42 Tryz.ac42 15 [.tmp 6] := ⟨Tryz.func42, by kernel_rfl, by kernel_rfl, by kernel_rfl, by kernel_rfl, by kernel_rfl, by kernel_rfl, by kernel_rfl⟩
def Tryz.ac43 : ACode := ((ACode.region false [⟨some 4, .mv (.c (.slice none 0 0)), none, []⟩]).seq ((ACode.region false [⟨some 8, .mv (.t 1), none, []⟩, ⟨some 9, .buildSlice 3 1 [.t 8], none, []⟩, ⟨some 5, .mv (.t 9), none, []⟩]).seq (((ACode.region false [⟨some 10, .mv (.t 0), none, []⟩, ⟨some 11, .len (.t 10), none, []⟩, ⟨some 12, .mv (.c (.int .i64 (0))), none, []⟩]).seq (ACode.block 0 ((ACode.region false [⟨some 13, .bin .lss (.t 12) (.t 11), none, []⟩]).seq ((ACode.cond (.t 13) ACode.skip (ACode.exit 0)).seq ((ACode.block 1 ((ACode.region false [⟨some 14, .idxAddr 8 (.t 10) (.t 12), none, []⟩, ⟨some 15, .load 8 true (.t 14), none, []⟩, ⟨some 7, .alloc [.string ⟨⟨[]⟩⟩, .string ⟨⟨[]⟩⟩, .int .i64 (0), .int .i64 (0), .int .i64 (0), .int .i64 (0), .int .i64 (0), .int .i64 (0)], none, []⟩, ⟨none, .store 8 (.t 7) (.t 15), none, []⟩]).seq ((ACode.region false [⟨some 16, .fieldAddr 6 (.t 7), none, []⟩, ⟨some 17, .fieldAddr 1 (.t 16), none, []⟩, ⟨some 18, .load 1 false (.t 17), none, []⟩, ⟨some 19, .mv (.t 1), none, []⟩, ⟨some 20, .bin .gtr (.t 18) (.t 19), none, []⟩]).seq (ACode.cond (.t 20) (ACode.region false [⟨some 21, .mv (.t 5), none, []⟩, ⟨some 22, .fieldAddr 6 (.t 7), none, []⟩, ⟨some 23, .fieldAddr 1 (.t 22), none, []⟩, ⟨some 24, .load 1 false (.t 23), none, []⟩, ⟨some 25, .buildSlice 3 1 [.t 24], none, []⟩, ⟨some 26, .append 3 1 8 (.t 21) (.t 25), none, []⟩, ⟨some 5, .mv (.t 26), none, []⟩]) ACode.skip)))).seq (ACode.region false [⟨some 27, .bin .add (.t 12) (.c (.int .i64 (1))), none, []⟩, ⟨some 12, .mv (.t 27), none, []⟩])))).loop)).seq ((ACode.region false [⟨some 28, .mv (.t 5), none, []⟩, ⟨some 29, .call 33 [.t 28], none, []⟩]).seq ((ACode.region false [⟨some 30, .mv (.t 5), none, []⟩, ⟨some 31, .call 34 [.t 30], none, []⟩, ⟨some 4, .mv (.t 31), none, []⟩]).seq ACode.ret)))))
theorem Tryz.F43 : FnFacts Tryz.prog 43 Tryz.f43 Tryz.ac43 32 [.tmp 4] := ⟨Tryz.func43, by kernel_rfl, by kernel_rfl, by kernel_rfl, by kernel_rfl, by kernel_rfl, by kernel_rfl, by kernel_rfl⟩
def Tryz.ac44 : ACode := ((ACode.region false [⟨some 3, .box 3 (.t 0), none, []⟩, ⟨some 5, .box 8 (.t 2), none, []⟩, ⟨some 6, .alloc [.string ⟨⟨[]⟩⟩, .string ⟨⟨[]⟩⟩, .int .i64 (0), .int .i64 (0), .int .i64 (0), .int .i64 (0), .int .i64 (0), .int .i64 (0)], none, []⟩, ⟨some 7, .mv (.c (.bool false)), none, []⟩]).seq ((ACode.region false [⟨some 8, .mv (.c (.slice none 0 0)), none, []⟩]).seq ((ACode.region false [⟨some 18, .buildSlice 3 1 [.c (.int .i64 (0))], none, []⟩, ⟨some 19, .buildSlice 3 1 [.c (.int .i64 (0))], none, []⟩, ⟨some 9, .mv (.t 18), none, []⟩, ⟨some 10, .mv (.t 19), none, []⟩]).seq (((ACode.region false [⟨some 20, .mv (.t 1), none, []⟩, ⟨some 21, .len (.t 20), none, []⟩, ⟨some 22, .mv (.c (.int .i64 (0))), none, []⟩]).seq (ACode.block 0 ((ACode.region false [⟨some 23, .bin .lss (.t 22) (.t 21), none, []⟩]).seq ((ACode.cond (.t 23) ACode.skip (ACode.exit 0)).seq ((ACode.block 1 ((ACode.region false [⟨some 24, .idxAddr 8 (.t 20) (.t 22), none, []⟩, ⟨some 25, .load 8 true (.t 24), none, []⟩, ⟨some 12, .alloc [.string ⟨⟨[]⟩⟩, .string ⟨⟨[]⟩⟩, .int .i64 (0), .int .i64 (0), .int .i64 (0), .int .i64 (0), .int .i64 (0), .int .i64 (0)], none, []⟩, ⟨none, .store 8 (.t 12) (.t 25), none, []⟩]).seq (((ACode.region false [⟨some 26, .fieldAddr 1 (.t 12), none, []⟩, ⟨some 27, .load 1 false (.t 26), none, []⟩, ⟨some 28, .fieldAddr 0 (.t 3), none, []⟩, ⟨some 29, .load 1 false (.t 28), none, []⟩, ⟨some 30, .bin .neq (.t 27) (.t 29), none, []⟩, ⟨some 31, .mv (.t 30), none, []⟩, ⟨some 32, .fieldAddr 6 (.t 12), some (31, false), []⟩, ⟨some 33, .fieldAddr 1 (.t 32), some (31, false), []⟩, ⟨some 34, .load 1 false (.t 33), some (31, false), []⟩, ⟨some 35, .fieldAddr 6 (.t 5), some (31, false), []⟩, ⟨some 36, .fieldAddr 0 (.t 35), some (31, false), []⟩, ⟨some 37, .load 1 false (.t 36), some (31, false), []⟩, ⟨some 38, .bin .leq (.t 34) (.t 37), some (31, false), []⟩, ⟨some 39, .pick (.t 31) (.c (.bool true)) (.t 38), none, []⟩, ⟨some 40, .mv (.t 39), none, []⟩, ⟨some 41, .fieldAddr 6 (.t 12), some (40, false), []⟩, ⟨some 42, .fieldAddr 0 (.t 41), some (40, false), []⟩, ⟨some 43, .load 1 false (.t 42), some (40, false), []⟩, ⟨some 44, .fieldAddr 6 (.t 5), some (40, false), []⟩, ⟨some 45, .fieldAddr 1 (.t 44), some (40, false), []⟩, ⟨some 46, .load 1 false (.t 45), some (40, false), []⟩, ⟨some 47, .bin .geq (.t 43) (.t 46), some (40, false), []⟩, ⟨some 48, .pick (.t 40) (.c (.bool true)) (.t 47), none, []⟩]).seq (ACode.cond (.t 48) (ACode.exit 1) ACode.skip)).seq (((ACode.region false [⟨some 49, .fieldAddr 6 (.t 12), none, []⟩, ⟨some 50, .fieldAddr 1 (.t 49), none, []⟩, ⟨some 51, .load 1 false (.t 50), none, []⟩, ⟨some 52, .fieldAddr 6 (.t 5), none, []⟩, ⟨some 53, .fieldAddr 1 (.t 52), none, []⟩, ⟨some 54, .load 1 false (.t 53), none, []⟩, ⟨some 55, .bin .neq (.t 51) (.t 54), none, []⟩]).seq (ACode.cond (.t 55) ((ACode.region false [⟨some 56, .build [.string ⟨⟨[]⟩⟩, .string ⟨⟨[]⟩⟩, .int .i64 (0), .int .i64 (0), .int .i64 (0), .int .i64 (0), .int .i64 (0), .int .i64 (0)] [], none, []⟩, ⟨none, .store 8 (.t 6) (.t 56), none, []⟩, ⟨some 7, .mv (.c (.bool false)), none, []⟩]).seq ACode.ret) ACode.skip)).seq ((ACode.region false [⟨some 57, .mv (.t 8), none, []⟩, ⟨some 58, .load 8 true (.t 12), none, []⟩, ⟨some 59, .buildSlice 43 8 [.t 58], none, []⟩, ⟨some 60, .append 43 8 80 (.t 57) (.t 59), none, []⟩, ⟨some 8, .mv (.t 60), none, []⟩]).seq ((ACode.region false [⟨some 61, .mv (.t 9), none, []⟩, ⟨some 62, .fieldAddr 2 (.t 12), none, []⟩, ⟨some 63, .fieldAddr 0 (.t 62), none, []⟩, ⟨some 64, .load 1 false (.t 63), none, []⟩, ⟨some 65, .fieldAddr 4 (.t 12), none, []⟩, ⟨some 66, .load 1 false (.t 65), none, []⟩, ⟨some 67, .bin .add (.t 64) (.t 66), none, []⟩, ⟨some 68, .buildSlice 3 1 [.t 67], none, []⟩, ⟨some 69, .append 3 1 8 (.t 61) (.t 68), none, []⟩, ⟨some 9, .mv (.t 69), none, []⟩]).seq (ACode.region false [⟨some 70, .mv (.t 10), none, []⟩, ⟨some 71, .fieldAddr 2 (.t 12), none, []⟩, ⟨some 72, .fieldAddr 1 (.t 71), none, []⟩, ⟨some 73, .load 1 false (.t 72), none, []⟩, ⟨some 74, .fieldAddr 5 (.t 12), none, []⟩, ⟨some 75, .load 1 false (.t 74), none, []⟩, ⟨some 76, .bin .add (.t 73) (.t 75), none, []⟩, ⟨some 77, .buildSlice 3 1 [.t 76], none, []⟩, ⟨some 78, .append 3 1 8 (.t 70) (.t 77), none, []⟩, ⟨some 10, .mv (.t 78), none, []⟩]))))))).seq (ACode.region false [⟨some 79, .bin .add (.t 22) (.c (.int .i64 (1))), none, []⟩, ⟨some 22, .mv (.t 79), none, []⟩])))).loop)).seq ((ACode.region false [⟨some 80, .mv (.t 9), none, []⟩, ⟨some 81, .call 33 [.t 80], none, []⟩]).seq ((ACode.region false [⟨some 82, .mv (.t 10), none, []⟩, ⟨some 83, .call 33 [.t 82], none, []⟩]).seq (((ACode.region false [⟨some 84, .mv (.t 10), none, []⟩, ⟨some 85, .len (.t 84), none, []⟩, ⟨some 86, .mv (.c (.int .i64 (0))), none, []⟩]).seq (ACode.block 2 ((ACode.region false [⟨some 87, .bin .lss (.t 86) (.t 85), none, []⟩]).seq ((ACode.cond (.t 87) ACode.skip (ACode.exit 2)).seq ((ACode.block 3 ((ACode.region false [⟨some 88, .idxAddr 1 (.t 84) (.t 86), none, []⟩, ⟨some 89, .load 1 false (.t 88), none, []⟩, ⟨some 14, .mv (.t 89), none, []⟩]).seq ((ACode.region false [⟨some 90, .mv (.t 9), none, []⟩, ⟨some 91, .len (.t 90), none, []⟩, ⟨some 92, .mv (.c (.int .i64 (0))), none, []⟩]).seq (ACode.block 4 ((ACode.region false [⟨some 93, .bin .lss (.t 92) (.t 91), none, []⟩]).seq ((ACode.cond (.t 93) ACode.skip (ACode.exit 4)).seq ((ACode.block 5 ((ACode.region false [⟨some 94, .idxAddr 1 (.t 90) (.t 92), none, []⟩, ⟨some 95, .load 1 false (.t 94), none, []⟩, ⟨some 16, .mv (.t 95), none, []⟩]).seq ((ACode.region false [⟨some 96, .mv (.t 16), none, []⟩, ⟨some 97, .mv (.t 14), none, []⟩, ⟨some 98, .build [.int .i64 (0), .int .i64 (0)] [(0, 1, .t 96), (1, 1, .t 97)], none, []⟩, ⟨some 99, .fieldAddr 2 (.t 5), none, []⟩, ⟨none, .store 2 (.t 99) (.t 98), none, []⟩]).seq ((ACode.region false [⟨some 100, .mv (.t 8), none, []⟩, ⟨some 101, .mkfn 63 [.t 5], none, []⟩, ⟨some 102, .call 28 [.t 100, .t 101], none, []⟩, ⟨some 17, .mv (.t 102), none, []⟩]).seq ((ACode.region false [⟨some 103, .mv (.t 17), none, []⟩, ⟨some 104, .un .not (.t 103), none, []⟩, ⟨some 105, .mv (.t 104), none, []⟩, ⟨some 106, .mv (.t 16), some (105, true), []⟩, ⟨some 107, .fieldAddr 4 (.t 5), some (105, true), []⟩, ⟨some 108, .load 1 false (.t 107), some (105, true), []⟩, ⟨some 109, .bin .add (.t 106) (.t 108), some (105, true), []⟩, ⟨some 110, .fieldAddr 1 (.t 3), some (105, true), []⟩, ⟨some 111, .load 1 false (.t 110), some (105, true), []⟩, ⟨some 112, .bin .leq (.t 109) (.t 111), some (105, true), []⟩, ⟨some 113, .pick (.t 105) (.t 112) (.c (.bool false)), none, []⟩, ⟨some 114, .mv (.t 113), none, []⟩, ⟨some 115, .mv (.t 14), some (114, true), []⟩, ⟨some 116, .fieldAddr 5 (.t 5), some (114, true), []⟩, ⟨some 117, .load 1 false (.t 116), some (114, true), []⟩, ⟨some 118, .bin .add (.t 115) (.t 117), some (114, true), []⟩, ⟨some 119, .fieldAddr 2 (.t 3), some (114, true), []⟩, ⟨some 120, .load 1 false (.t 119), some (114, true), []⟩, ⟨some 121, .bin .leq (.t 118) (.t 120), some (114, true), []⟩, ⟨some 122, .pick (.t 114) (.t 121) (.c (.bool false)), none, []⟩]).seq (ACode.cond (.t 122) ((ACode.region false [⟨some 123, .load 8 true (.t 5), none, []⟩, ⟨none, .store 8 (.t 6) (.t 123), none, []⟩, ⟨some 7, .mv (.c (.bool true)), none, []⟩]).seq ACode.ret) ACode.skip)))))).seq (ACode.region false [⟨some 124, .bin .add (.t 92) (.c (.int .i64 (1))), none, []⟩, ⟨some 92, .mv (.t 124), none, []⟩])))).loop)))).seq (ACode.region false [⟨some 125, .bin .add (.t 86) (.c (.int .i64 (1))), none, []⟩, ⟨some 86, .mv (.t 125), none, []⟩])))).loop)).seq ((ACode.region false [⟨some 126, .build [.string ⟨⟨[]⟩⟩, .string ⟨⟨[]⟩⟩, .int .i64 (0), .int .i64 (0), .int .i64 (0), .int .i64 (0), .int .i64 (0), .int .i64 (0)] [], none, []⟩, ⟨none, .store 8 (.t 6) (.t 126), none, []⟩, ⟨some 7, .mv (.c (.bool false)), none, []⟩]).seq ACode.ret))))))))
theorem Tryz.F44 : FnFacts Tryz.prog 44 Tryz.f44 Tryz.ac44 127 [.cell 6 43, .tmp 7] := ⟨Tryz.func44, by kernel_rfl, by kernel_rfl, by kernel_rfl, by kernel_rfl, by kernel_rfl, by kernel_rfl, by kernel_rfl⟩
def Tryz.ac47 : ACode := ((ACode.region false [⟨some 4, .mv (.c (.int .i64 (0))), none, []⟩]).seq (((ACode.region false [⟨some 6, .mv (.t 0), none, []⟩, ⟨some 7, .len (.t 6), none, []⟩, ⟨some 8, .mv (.c (.int .i64 (0))), none, []⟩]).seq (ACode.block 0 ((ACode.region false [⟨some 9, .bin .lss (.t 8) (.t 7), none, []⟩]).seq ((ACode.cond (.t 9) ACode.skip (ACode.exit 0)).seq ((ACode.block 1 ((ACode.region false [⟨some 10, .mv (.t 8), none, []⟩, ⟨some 5, .mv (.t 10), none, []⟩]).seq ((ACode.region false [⟨some 11, .mv (.t 1), none, []⟩, ⟨some 12, .mv (.t 0), none, []⟩, ⟨some 13, .mv (.t 5), none, []⟩, ⟨some 14, .idxAddr 8 (.t 12) (.t 13), none, []⟩, ⟨some 15, .load 8 true (.t 14), none, []⟩, ⟨some 16, .callv (.t 11) [.t 15], none, []⟩]).seq (ACode.cond (.t 16) ((ACode.region false [⟨some 17, .mv (.t 5), none, []⟩, ⟨some 4, .mv (.t 17), none, []⟩]).seq ACode.ret) ACode.skip)))).seq (ACode.region false [⟨some 18, .bin .add (.t 8) (.c (.int .i64 (1))), none, []⟩, ⟨some 8, .mv (.t 18), none, []⟩])))).loop)).seq ((ACode.region false [⟨some 4, .mv (.c (.int .i64 (Int.negSucc 0))), none, []⟩]).seq ACode.ret)))
theorem Tryz.F47 : FnFacts Tryz.prog 47 Tryz.f47 Tryz.ac47 19 [.tmp 4] := ⟨Tryz.func47, by kernel_rfl, by kernel_rfl, by kernel_rfl, by kernel_rfl, by kernel_rfl, by kernel_rfl, by kernel_rfl⟩
def Tryz.ac48 : ACode := ((ACode.region false [⟨some 2, .box 8 (.t 0), none, []⟩, ⟨some 3, .mv (.c (.bool false)), none, []⟩]).seq ((ACode.region false [⟨some 4, .fieldAddr 0 (.t 2), none, []⟩, ⟨some 5, .load 1 false (.t 4), none, []⟩, ⟨some 6, .load 1 false (.t 1), none, []⟩, ⟨some 7, .bin .eql (.t 5) (.t 6), none, []⟩, ⟨some 3, .mv (.t 7), none, []⟩]).seq ACode.ret))
theorem Tryz.F48 : FnFacts Tryz.prog 48 Tryz.f48 Tryz.ac48 8 [.tmp 3] := ⟨Tryz.func48, by kernel_rfl, by kernel_rfl, by kernel_rfl, by kernel_rfl, by kernel_rfl, by kernel_rfl, by kernel_rfl⟩
end Go.Proofs
end
section
set_option linter.unusedVariables false
set_option linter.unusedSimpArgs false
namespace Go.Proofs
open Go.Shelf
def Tryz.lays128_ren : Go.Shelf.Ren := ⟨fun | 128 => 84 | n => n, fun | 51 => 108 | 3 => 3 | 4 => 4 | 46 => 83 | 5 => 5 | 9 => 9 | n => n, fun | n => n⟩
def Tryz.lays125_ren : Go.Shelf.Ren := ⟨fun | 125 => 56 | 128 => 84 | 129 => 85 | n => n, fun | 46 => 83 | 3 => 3 | 51 => 108 | 53 => 110 | 4 => 4 | 5 => 5 | 9 => 9 | n => n, fun | n => n⟩
def Tryz.lays129_ren : Go.Shelf.Ren := ⟨fun | 129 => 85 | n => n, fun | 53 => 110 | 3 => 3 | 4 => 4 | 46 => 83 | 5 => 5 | 9 => 9 | n => n, fun | n => n⟩
def Tryz.lays217_ren : Go.Shelf.Ren := ⟨fun | 217 => 126 | 266 => 133 | n => n, fun | 9 => 9 | 5 => 5 | 3 => 3 | n => n, fun | n => n⟩
def Tryz.lays224_ren : Go.Shelf.Ren := ⟨fun | 224 => 128 | n => n, fun | 3 => 3 | n => n, fun | n => n⟩
def Tryz.lays314_ren : Go.Shelf.Ren := ⟨fun | 314 => 134 | n => n, fun | 9 => 9 | 51 => 108 | 3 => 3 | 4 => 4 | 5 => 5 | 46 => 83 | n => n, fun | n => n⟩
def Tryz.lays267_ren : Go.Shelf.Ren := ⟨fun | 267 => 129 | 314 => 134 | n => n, fun | 9 => 9 | 3 => 3 | 146 => 153 | 51 => 108 | 4 => 4 | 5 => 5 | 46 => 83 | n => n, fun | n => n⟩
def Tryz.lays219_ren : Go.Shelf.Ren := ⟨fun | 219 => 116 | 217 => 126 | 225 => 127 | 224 => 128 | 267 => 129 | 266 => 133 | 314 => 134 | n => n, fun | 9 => 9 | 3 => 3 | 4 => 4 | 5 => 5 | 46 => 83 | 146 => 153 | 51 => 108 | n => n, fun | 1 => 0 | n => n⟩
def Tryz.lays143_ren : Go.Shelf.Ren := ⟨fun | 143 => 109 | 219 => 116 | 217 => 126 | 225 => 127 | 224 => 128 | 267 => 129 | 266 => 133 | 314 => 134 | n => n, fun | 9 => 9 | 3 => 3 | 4 => 4 | 5 => 5 | 46 => 83 | 146 => 153 | 51 => 108 | n => n, fun | 1 => 0 | n => n⟩
theorem Tryz.lays143 : Go.Proofs.Lays.n143 Tryz.prog Tryz.lays143_ren := {
  mixed := by kernel_rfl
  f143 := Tryz.func109.trans (congrArg some (by kernel_rfl))
  f217 := Tryz.func126.trans (congrArg some (by kernel_rfl))
  f219 := Tryz.func116.trans (congrArg some (by kernel_rfl))
  f224 := Tryz.func128.trans (congrArg some (by kernel_rfl))
  f225 := Tryz.func127.trans (congrArg some (by kernel_rfl))
  f266 := Tryz.func133.trans (congrArg some (by kernel_rfl))
  f267 := Tryz.func129.trans (congrArg some (by kernel_rfl))
  f314 := Tryz.func134.trans (congrArg some (by kernel_rfl))
  t3 := Tryz.underlying3
  a3 := Tryz.isAgg3
  z3 := Tryz.sizeOf3
  v3 := Tryz.zeroValue3
  t4 := Tryz.underlying4
  a4 := Tryz.isAgg4
  z4 := Tryz.sizeOf4
  v4 := Tryz.zeroValue4
  t5 := Tryz.underlying5
  a5 := Tryz.isAgg5
  z5 := Tryz.sizeOf5
  v5 := Tryz.zeroValue5
  t9 := Tryz.underlying9
  a9 := Tryz.isAgg9
  z9 := Tryz.sizeOf9
  v9 := Tryz.zeroValue9
  t46 := Tryz.underlying83
  a46 := Tryz.isAgg83
  z46 := Tryz.sizeOf83
  v46 := Tryz.zeroValue83
  t51 := Tryz.underlying108
  a51 := Tryz.isAgg108
  z51 := Tryz.sizeOf108
  v51 := Tryz.zeroValue108
  t146 := Tryz.underlying153
  a146 := Tryz.isAgg153
  z146 := Tryz.sizeOf153
  v146 := Tryz.zeroValue153
  g1 := by kernel_rfl }
open Go.RowKit Go.Lib in
/-- strings.Index: "Index returns the index of the first instance of substr in s, or -1 if substr is not present in s.": AT A substr OF ONE BYTE c: IT RETURNS 'Lib.indexByte s c'; the world is as it was. (LAID: no walk: one application.) -/
theorem Tryz.strings_Index_one (s : ByteArray) (c : UInt8) (w : World) :
    Calls Tryz.prog 109 #[.string s, .string ⟨#[c]⟩] w fun e w' => e = .returned (.int .i64 (Lib.indexByte s.data.toList c)) ∧ w' = w := Any.strings_Index_one Tryz.lays143 s c w
def Tryz.lays138_ren : Go.Shelf.Ren := ⟨fun | 138 => 108 | 195 => 113 | 218 => 115 | 143 => 109 | 219 => 116 | 217 => 126 | 225 => 127 | 224 => 128 | 267 => 129 | 266 => 133 | 314 => 134 | n => n, fun | 9 => 9 | 3 => 3 | 4 => 4 | 5 => 5 | 0 => 0 | 46 => 83 | 146 => 153 | 51 => 108 | n => n, fun | 1 => 0 | n => n⟩
theorem Tryz.lays138 : Go.Proofs.Lays.n138 Tryz.prog Tryz.lays138_ren := {
  mixed := by kernel_rfl
  f138 := Tryz.func108.trans (congrArg some (by kernel_rfl))
  f143 := Tryz.func109.trans (congrArg some (by kernel_rfl))
  f195 := Tryz.func113.trans (congrArg some (by kernel_rfl))
  f217 := Tryz.func126.trans (congrArg some (by kernel_rfl))
  f218 := Tryz.func115.trans (congrArg some (by kernel_rfl))
  f219 := Tryz.func116.trans (congrArg some (by kernel_rfl))
  f224 := Tryz.func128.trans (congrArg some (by kernel_rfl))
  f225 := Tryz.func127.trans (congrArg some (by kernel_rfl))
  f266 := Tryz.func133.trans (congrArg some (by kernel_rfl))
  f267 := Tryz.func129.trans (congrArg some (by kernel_rfl))
  f314 := Tryz.func134.trans (congrArg some (by kernel_rfl))
  t0 := Tryz.underlying0
  a0 := Tryz.isAgg0
  z0 := Tryz.sizeOf0
  v0 := Tryz.zeroValue0
  t3 := Tryz.underlying3
  a3 := Tryz.isAgg3
  z3 := Tryz.sizeOf3
  v3 := Tryz.zeroValue3
  t4 := Tryz.underlying4
  a4 := Tryz.isAgg4
  z4 := Tryz.sizeOf4
  v4 := Tryz.zeroValue4
  t5 := Tryz.underlying5
  a5 := Tryz.isAgg5
  z5 := Tryz.sizeOf5
  v5 := Tryz.zeroValue5
  t9 := Tryz.underlying9
  a9 := Tryz.isAgg9
  z9 := Tryz.sizeOf9
  v9 := Tryz.zeroValue9
  t46 := Tryz.underlying83
  a46 := Tryz.isAgg83
  z46 := Tryz.sizeOf83
  v46 := Tryz.zeroValue83
  t51 := Tryz.underlying108
  a51 := Tryz.isAgg108
  z51 := Tryz.sizeOf108
  v51 := Tryz.zeroValue108
  t146 := Tryz.underlying153
  a146 := Tryz.isAgg153
  z146 := Tryz.sizeOf153
  v146 := Tryz.zeroValue153
  g1 := by kernel_rfl }
open Go.RowKit Go.Lib in
/-- strings.Count AT A substr OF ONE BYTE ('hp'): "Count counts the number of non-overlapping instances of substr in s.": IT RETURNS 'Lib.countByte s (that byte)'; the world is as it was. ✋ NO CONTRACT HERE YET at an empty substr (utf8.RuneCountInString) or at a longer one (a loop over strings.Index). (LAID: no walk: one application.) -/
theorem Tryz.strings_Count_one (s : ByteArray) (c : UInt8) (w : World) :
    Calls Tryz.prog 108 #[.string s, .string ⟨#[c]⟩] w fun e w' => e = .returned (.int .i64 (Lib.countByte s.data.toList c)) ∧ w' = w := Any.strings_Count_one Tryz.lays138 s c w
def Tryz.laysM219_ren : Go.Shelf.Ren := ⟨fun | 219 => 116 | 217 => 126 | 225 => 127 | 224 => 128 | 267 => 129 | 266 => 133 | 314 => 134 | n => n, fun | 9 => 9 | 3 => 3 | 4 => 4 | 5 => 5 | 46 => 83 | 146 => 153 | 51 => 108 | n => n, fun | 1 => 0 | n => n⟩
def Tryz.laysM143_ren : Go.Shelf.Ren := ⟨fun | 143 => 109 | 219 => 116 | 217 => 126 | 225 => 127 | 224 => 128 | 267 => 129 | 266 => 133 | 314 => 134 | n => n, fun | 9 => 9 | 3 => 3 | 4 => 4 | 5 => 5 | 46 => 83 | 146 => 153 | 51 => 108 | n => n, fun | 1 => 0 | n => n⟩
def Tryz.laysM138_ren : Go.Shelf.Ren := ⟨fun | 138 => 108 | 195 => 113 | 218 => 115 | 143 => 109 | 219 => 116 | 217 => 126 | 225 => 127 | 224 => 128 | 267 => 129 | 266 => 133 | 314 => 134 | n => n, fun | 9 => 9 | 3 => 3 | 4 => 4 | 5 => 5 | 0 => 0 | 46 => 83 | 146 => 153 | 51 => 108 | n => n, fun | 1 => 0 | n => n⟩
def Tryz.lays189_ren : Go.Shelf.Ren := ⟨fun | 189 => 33 | 125 => 56 | 257 => 55 | 128 => 84 | 129 => 85 | 294 => 75 | 295 => 76 | 296 => 77 | 297 => 78 | 298 => 79 | 299 => 80 | 216 => 81 | 300 => 82 | 301 => 83 | 328 => 94 | 329 => 95 | 330 => 96 | 331 => 97 | 332 => 98 | 215 => 99 | 343 => 110 | n => n, fun | 28 => 32 | 3 => 3 | 46 => 83 | 0 => 0 | 51 => 108 | 53 => 110 | 4 => 4 | 183 => 100 | 182 => 99 | 131 => 105 | 5 => 5 | 9 => 9 | 218 => 117 | 222 => 121 | 228 => 132 | 229 => 133 | n => n, fun | n => n⟩
theorem Tryz.lays189 : Go.Proofs.Lays.n189 Tryz.prog Tryz.lays189_ren := {
  mixed := by kernel_rfl
  f125 := Tryz.func56.trans (congrArg some (by kernel_rfl))
  f128 := Tryz.func84.trans (congrArg some (by kernel_rfl))
  f129 := Tryz.func85.trans (congrArg some (by kernel_rfl))
  f189 := Tryz.func33.trans (congrArg some (by kernel_rfl))
  f215 := Tryz.func99.trans (congrArg some (by kernel_rfl))
  f216 := Tryz.func81.trans (congrArg some (by kernel_rfl))
  f257 := Tryz.func55.trans (congrArg some (by kernel_rfl))
  f294 := Tryz.func75.trans (congrArg some (by kernel_rfl))
  f295 := Tryz.func76.trans (congrArg some (by kernel_rfl))
  f296 := Tryz.func77.trans (congrArg some (by kernel_rfl))
  f297 := Tryz.func78.trans (congrArg some (by kernel_rfl))
  f298 := Tryz.func79.trans (congrArg some (by kernel_rfl))
  f299 := Tryz.func80.trans (congrArg some (by kernel_rfl))
  f300 := Tryz.func82.trans (congrArg some (by kernel_rfl))
  f301 := Tryz.func83.trans (congrArg some (by kernel_rfl))
  f328 := Tryz.func94.trans (congrArg some (by kernel_rfl))
  f329 := Tryz.func95.trans (congrArg some (by kernel_rfl))
  f330 := Tryz.func96.trans (congrArg some (by kernel_rfl))
  f331 := Tryz.func97.trans (congrArg some (by kernel_rfl))
  f332 := Tryz.func98.trans (congrArg some (by kernel_rfl))
  f343 := Tryz.func110.trans (congrArg some (by kernel_rfl))
  t0 := Tryz.underlying0
  a0 := Tryz.isAgg0
  z0 := Tryz.sizeOf0
  v0 := Tryz.zeroValue0
  t3 := Tryz.underlying3
  a3 := Tryz.isAgg3
  z3 := Tryz.sizeOf3
  v3 := Tryz.zeroValue3
  t4 := Tryz.underlying4
  a4 := Tryz.isAgg4
  z4 := Tryz.sizeOf4
  v4 := Tryz.zeroValue4
  t5 := Tryz.underlying5
  a5 := Tryz.isAgg5
  z5 := Tryz.sizeOf5
  v5 := Tryz.zeroValue5
  t9 := Tryz.underlying9
  a9 := Tryz.isAgg9
  z9 := Tryz.sizeOf9
  v9 := Tryz.zeroValue9
  t28 := Tryz.underlying32
  a28 := Tryz.isAgg32
  z28 := Tryz.sizeOf32
  v28 := Tryz.zeroValue32
  t46 := Tryz.underlying83
  a46 := Tryz.isAgg83
  z46 := Tryz.sizeOf83
  v46 := Tryz.zeroValue83
  t51 := Tryz.underlying108
  a51 := Tryz.isAgg108
  z51 := Tryz.sizeOf108
  v51 := Tryz.zeroValue108
  t53 := Tryz.underlying110
  a53 := Tryz.isAgg110
  z53 := Tryz.sizeOf110
  v53 := Tryz.zeroValue110
  t131 := Tryz.underlying105
  a131 := Tryz.isAgg105
  z131 := Tryz.sizeOf105
  v131 := Tryz.zeroValue105
  t182 := Tryz.underlying99
  a182 := Tryz.isAgg99
  z182 := Tryz.sizeOf99
  v182 := Tryz.zeroValue99
  t183 := Tryz.underlying100
  a183 := Tryz.isAgg100
  z183 := Tryz.sizeOf100
  v183 := Tryz.zeroValue100
  t218 := Tryz.underlying117
  a218 := Tryz.isAgg117
  z218 := Tryz.sizeOf117
  v218 := Tryz.zeroValue117
  t222 := Tryz.underlying121
  a222 := Tryz.isAgg121
  z222 := Tryz.sizeOf121
  v222 := Tryz.zeroValue121
  t228 := Tryz.underlying132
  a228 := Tryz.isAgg132
  z228 := Tryz.sizeOf132
  v228 := Tryz.zeroValue132
  t229 := Tryz.underlying133
  a229 := Tryz.isAgg133
  z229 := Tryz.sizeOf133
  v229 := Tryz.zeroValue133 }
open Go.Sort Go.RowKit in
theorem Tryz.slices_Sort_int (blk off cap : Nat) (zs : List Int) (w : World) (hH : Holds (Value.int .i64) w blk off zs.toArray) (hblk : blk < w.heap.size) (hsz : zs.length < 4611686018427387904) :
    Calls Tryz.prog 33 #[.slice (some ⟨blk, off, none⟩) zs.length cap] w fun e w' =>
      e = .returned (.tuple #[]) ∧ ∃ n os, w' = grow (putRow (Value.int .i64) (Sort.ahead w n) blk off (zs.mergeSort fun x y => decide (x ≤ y)).toArray) os := Any.slices_Sort_int Tryz.lays189 blk off cap zs w hH hblk hsz
def Tryz.lays221_ren : Go.Shelf.Ren := ⟨fun | 221 => 89 | 268 => 107 | 138 => 108 | 143 => 109 | 195 => 113 | 197 => 114 | 218 => 115 | 219 => 116 | 260 => 125 | 217 => 126 | 225 => 127 | 224 => 128 | 267 => 129 | 266 => 133 | 314 => 134 | n => n, fun | 9 => 9 | 3 => 3 | 31 => 88 | 4 => 4 | 0 => 0 | 105 => 138 | 21 => 21 | 5 => 5 | 46 => 83 | 119 => 149 | 139 => 152 | 138 => 151 | 146 => 153 | 51 => 108 | n => n, fun | 1 => 0 | 3 => 1 | 4 => 2 | n => n⟩
def Tryz.lays146_ren : Go.Shelf.Ren := ⟨fun | 146 => 62 | 221 => 89 | 268 => 107 | 138 => 108 | 143 => 109 | 195 => 113 | 197 => 114 | 218 => 115 | 219 => 116 | 260 => 125 | 217 => 126 | 225 => 127 | 224 => 128 | 267 => 129 | 266 => 133 | 314 => 134 | n => n, fun | 9 => 9 | 31 => 88 | 3 => 3 | 4 => 4 | 0 => 0 | 105 => 138 | 21 => 21 | 5 => 5 | 46 => 83 | 119 => 149 | 139 => 152 | 138 => 151 | 146 => 153 | 51 => 108 | n => n, fun | 1 => 0 | 3 => 1 | 4 => 2 | n => n⟩
def Tryz.laysM146_ren : Go.Shelf.Ren := ⟨fun | 146 => 62 | 221 => 89 | 268 => 107 | 138 => 108 | 143 => 109 | 195 => 113 | 197 => 114 | 218 => 115 | 219 => 116 | 260 => 125 | 217 => 126 | 225 => 127 | 224 => 128 | 267 => 129 | 266 => 133 | 314 => 134 | n => n, fun | 9 => 9 | 31 => 88 | 3 => 3 | 4 => 4 | 0 => 0 | 105 => 138 | 21 => 21 | 5 => 5 | 46 => 83 | 119 => 149 | 139 => 152 | 138 => 151 | 146 => 153 | 51 => 108 | n => n, fun | 1 => 0 | 3 => 1 | 4 => 2 | n => n⟩
def Tryz.lays260_ren : Go.Shelf.Ren := ⟨fun | 260 => 125 | n => n, fun | 9 => 9 | 21 => 21 | 3 => 3 | 4 => 4 | 5 => 5 | 119 => 149 | 0 => 0 | 46 => 83 | 139 => 152 | 138 => 151 | n => n, fun | 3 => 1 | 4 => 2 | n => n⟩
def Tryz.laysNm220_ren : Go.Shelf.Ren := ⟨fun | 20 => 34 | n => n, fun | 22 => 32 | 3 => 3 | 4 => 4 | 0 => 0 | n => n, fun | n => n⟩
theorem Tryz.laysNm220 : Go.Proofs.Lays2.n20 Tryz.prog Tryz.laysNm220_ren := {
  mixed := by kernel_rfl
  f20 := Tryz.func34.trans (congrArg some (by kernel_rfl))
  t0 := Tryz.underlying0
  a0 := Tryz.isAgg0
  z0 := Tryz.sizeOf0
  v0 := Tryz.zeroValue0
  t3 := Tryz.underlying3
  a3 := Tryz.isAgg3
  z3 := Tryz.sizeOf3
  v3 := Tryz.zeroValue3
  t4 := Tryz.underlying4
  a4 := Tryz.isAgg4
  z4 := Tryz.sizeOf4
  v4 := Tryz.zeroValue4
  t22 := Tryz.underlying32
  a22 := Tryz.isAgg32
  z22 := Tryz.sizeOf32
  v22 := Tryz.zeroValue32
  i3 := by kernel_rfl }
open Go.RowKit Go.Lib Go.Sort in
/-- slices.Compact at []int: "Compact replaces consecutive runs of equal elements with a single copy. This is like the uniq command found on Unix. Compact modifies the contents of the slice s and returns the modified slice, which may have a smaller length. Compact zeroes the elements between the new length and the original length. The result preserves the nilness of s.": IT RETURNS THE SLICE CUT TO 'Lib.compact zs'; ITS CELLS HOLD 'Lib.compact zs', THEN ZERO VALUES up to the old length; all else is as it was, but for the count of draws. IN THE WORDS OF slices.Sort's CONTRACT ('Holds', 'putRow'): so the everyday 'slices.Sort(xs); xs = slices.Compact(xs)' goes from the one contract to the other. It asks 'zs.length ≤ cap' (every slice's: the reslicing 's[:k]' looks at it). Length 0, nil: '.._empty'. (LAID: no walk: one application.) -/
theorem Tryz.slices_Compact_int (blk off cap : Nat) (zs : List Int) (w : World) (hH : Holds (Value.int .i64) w blk off zs.toArray) (hsz : zs.length ≤ 9223372036854775807) (hcap : zs.length ≤ cap) :
    Calls Tryz.prog 34 #[.slice (some ⟨blk, off, none⟩) zs.length cap] w fun e w' => e = .returned (.slice (some ⟨blk, off, none⟩) (Lib.compact zs).length cap) ∧ ∃ q, w' = putRow (Value.int .i64) (Sort.ahead w q) blk off (Lib.compact zs ++ List.replicate (zs.length - (Lib.compact zs).length) 0).toArray := Any.slices_Compact_int Tryz.laysNm220 blk off cap zs w hH hsz hcap
open Go.RowKit Go.Lib Go.Sort in
/-- The same at a slice of length 0, a nil one too: it comes back as it is. (LAID: no walk: one application.) -/
theorem Tryz.slices_Compact_int_empty (a : Option Addr) (cap : Nat) (w : World) :
    Calls Tryz.prog 34 #[.slice a 0 cap] w fun e w' => e = .returned (.slice a 0 cap) ∧ w' = w := Any.slices_Compact_int_empty Tryz.laysNm220 a cap w
def Tryz.laysNm237_ren : Go.Shelf.Ren := ⟨fun | 37 => 99 | n => n, fun | 3 => 3 | 4 => 4 | n => n, fun | n => n⟩
def Tryz.laysNm231_ren : Go.Shelf.Ren := ⟨fun | 31 => 81 | 37 => 99 | n => n, fun | 3 => 3 | 4 => 4 | n => n, fun | n => n⟩
open Go.RowKit Go.Sort in
/-- .. and plain. (LAID: no walk: one application.) -/
theorem Tryz.slices_Sort_int_none (p : Option Addr) (cap : Nat) (w : World) :
    Calls Tryz.prog 33 #[.slice p 0 cap] w fun e w' => e = .returned (.tuple #[]) ∧ w' = w := Any.slices_Sort_int_none Tryz.lays189 p cap w
end Go.Proofs
end
section
set_option linter.unusedVariables false
set_option linter.unusedSimpArgs false
namespace Go.Proofs
open Go.Shelf
def Tryz.sortIv_ren : Go.Shelf.Ren := ⟨fun | 6 => 103 | 15 => 56 | 14 => 112 | 28 => 84 | 29 => 85 | 20 => 117 | 21 => 118 | 22 => 119 | 23 => 120 | 24 => 121 | 25 => 122 | 26 => 123 | 27 => 124 | 46 => 130 | 47 => 95 | 48 => 96 | 49 => 131 | 50 => 132 | 57 => 135 | n => n, fun | 22 => 35 | 24 => 30 | 25 => 127 | 3 => 3 | 39 => 83 | 0 => 0 | 53 => 108 | 55 => 110 | 4 => 4 | 46 => 100 | 45 => 99 | 50 => 105 | 5 => 5 | 9 => 9 | 66 => 117 | 70 => 121 | 76 => 132 | 77 => 133 | n => n, fun | n => n⟩
theorem Tryz.sortIv : Go.Proofs.SlLaysF0.n6 Tryz.prog Tryz.sortIv_ren := {
  mixed := by kernel_rfl
  f6 := ⟨Tryz.f103.name, by decide, Tryz.func103.trans (congrArg some (by kernel_rfl))⟩
  f14 := ⟨Tryz.f112.name, by decide, Tryz.func112.trans (congrArg some (by kernel_rfl))⟩
  f15 := Tryz.func56.trans (congrArg some (by kernel_rfl))
  f20 := ⟨Tryz.f117.name, by decide, Tryz.func117.trans (congrArg some (by kernel_rfl))⟩
  f21 := ⟨Tryz.f118.name, by decide, Tryz.func118.trans (congrArg some (by kernel_rfl))⟩
  f22 := ⟨Tryz.f119.name, by decide, Tryz.func119.trans (congrArg some (by kernel_rfl))⟩
  f23 := ⟨Tryz.f120.name, by decide, Tryz.func120.trans (congrArg some (by kernel_rfl))⟩
  f24 := ⟨Tryz.f121.name, by decide, Tryz.func121.trans (congrArg some (by kernel_rfl))⟩
  f25 := ⟨Tryz.f122.name, by decide, Tryz.func122.trans (congrArg some (by kernel_rfl))⟩
  f26 := ⟨Tryz.f123.name, by decide, Tryz.func123.trans (congrArg some (by kernel_rfl))⟩
  f27 := ⟨Tryz.f124.name, by decide, Tryz.func124.trans (congrArg some (by kernel_rfl))⟩
  f28 := Tryz.func84.trans (congrArg some (by kernel_rfl))
  f29 := Tryz.func85.trans (congrArg some (by kernel_rfl))
  f46 := ⟨Tryz.f130.name, by decide, Tryz.func130.trans (congrArg some (by kernel_rfl))⟩
  f47 := Tryz.func95.trans (congrArg some (by kernel_rfl))
  f48 := Tryz.func96.trans (congrArg some (by kernel_rfl))
  f49 := ⟨Tryz.f131.name, by decide, Tryz.func131.trans (congrArg some (by kernel_rfl))⟩
  f50 := ⟨Tryz.f132.name, by decide, Tryz.func132.trans (congrArg some (by kernel_rfl))⟩
  f57 := ⟨Tryz.f135.name, by decide, Tryz.func135.trans (congrArg some (by kernel_rfl))⟩
  t0 := Tryz.underlying0
  a0 := Tryz.isAgg0
  z0 := Tryz.sizeOf0
  v0 := Tryz.zeroValue0
  t3 := Tryz.underlying3
  a3 := Tryz.isAgg3
  z3 := Tryz.sizeOf3
  v3 := Tryz.zeroValue3
  t4 := Tryz.underlying4
  a4 := Tryz.isAgg4
  z4 := Tryz.sizeOf4
  v4 := Tryz.zeroValue4
  t5 := Tryz.underlying5
  a5 := Tryz.isAgg5
  z5 := Tryz.sizeOf5
  v5 := Tryz.zeroValue5
  t9 := Tryz.underlying9
  a9 := Tryz.isAgg9
  z9 := Tryz.sizeOf9
  v9 := Tryz.zeroValue9
  t22 := Tryz.underlying35
  a22 := Tryz.isAgg35
  z22 := Tryz.sizeOf35
  v22 := Tryz.zeroValue35
  t25 := Tryz.underlying127
  a25 := Tryz.isAgg127
  z25 := Tryz.sizeOf127
  v25 := Tryz.zeroValue127
  t39 := Tryz.underlying83
  a39 := Tryz.isAgg83
  z39 := Tryz.sizeOf83
  v39 := Tryz.zeroValue83
  t45 := Tryz.underlying99
  a45 := Tryz.isAgg99
  z45 := Tryz.sizeOf99
  v45 := Tryz.zeroValue99
  t46 := Tryz.underlying100
  a46 := Tryz.isAgg100
  z46 := Tryz.sizeOf100
  v46 := Tryz.zeroValue100
  t50 := Tryz.underlying105
  a50 := Tryz.isAgg105
  z50 := Tryz.sizeOf105
  v50 := Tryz.zeroValue105
  t53 := Tryz.underlying108
  a53 := Tryz.isAgg108
  z53 := Tryz.sizeOf108
  v53 := Tryz.zeroValue108
  t55 := Tryz.underlying110
  a55 := Tryz.isAgg110
  z55 := Tryz.sizeOf110
  v55 := Tryz.zeroValue110
  t66 := Tryz.underlying117
  a66 := Tryz.isAgg117
  z66 := Tryz.sizeOf117
  v66 := Tryz.zeroValue117
  t70 := Tryz.underlying121
  a70 := Tryz.isAgg121
  z70 := Tryz.sizeOf121
  v70 := Tryz.zeroValue121
  t76 := Tryz.underlying132
  a76 := Tryz.isAgg132
  z76 := Tryz.sizeOf132
  v76 := Tryz.zeroValue132
  t77 := Tryz.underlying133
  a77 := Tryz.isAgg133
  z77 := Tryz.sizeOf133
  v77 := Tryz.zeroValue133 }
def Tryz.cmpInt_ren : Go.Shelf.Ren := ⟨fun | 5 => 105 | 7 => 99 | n => n, fun | 22 => 3 | 3 => 3 | 4 => 4 | n => n, fun | n => n⟩
theorem Tryz.cmpInt : Go.Proofs.SlLaysC2.n5 Tryz.prog Tryz.cmpInt_ren := {
  mixed := by kernel_rfl
  f5 := ⟨Tryz.f105.name, by decide, Tryz.func105.trans (congrArg some (by kernel_rfl))⟩
  f7 := ⟨Tryz.f99.name, by decide, Tryz.func99.trans (congrArg some (by kernel_rfl))⟩
  t3 := Tryz.underlying3
  a3 := Tryz.isAgg3
  z3 := Tryz.sizeOf3
  v3 := Tryz.zeroValue3
  t4 := Tryz.underlying4
  a4 := Tryz.isAgg4
  z4 := Tryz.sizeOf4
  v4 := Tryz.zeroValue4
  t22 := Tryz.underlying3
  a22 := Tryz.isAgg3
  z22 := Tryz.sizeOf3
  v22 := Tryz.zeroValue3 }
def Tryz.cloneSp_ren : Go.Shelf.Ren := ⟨fun | 41 => 101 | n => n, fun | 22 => 35 | 23 => 30 | 4 => 4 | n => n, fun | n => n⟩
theorem Tryz.cloneSp : Go.Proofs.SlLaysE0.n41 Tryz.prog Tryz.cloneSp_ren := {
  mixed := by kernel_rfl
  f41 := ⟨Tryz.f101.name, by decide, Tryz.func101.trans (congrArg some (by kernel_rfl))⟩
  t4 := Tryz.underlying4
  a4 := Tryz.isAgg4
  z4 := Tryz.sizeOf4
  v4 := Tryz.zeroValue4
  t22 := Tryz.underlying35
  a22 := Tryz.isAgg35
  z22 := Tryz.sizeOf35
  v22 := Tryz.zeroValue35 }
def Tryz.growSp_ren : Go.Shelf.Ren := ⟨fun | 4 => 106 | n => n, fun | 22 => 35 | 25 => 30 | 3 => 3 | 4 => 4 | 9 => 9 | 20 => 20 | 0 => 0 | 2 => 3 | n => n, fun | n => n⟩
theorem Tryz.growSp : Go.Proofs.Lays8.n4 Tryz.prog Tryz.growSp_ren := {
  mixed := by kernel_rfl
  f4 := ⟨Tryz.f106.name, by decide, Tryz.func106.trans (congrArg some (by kernel_rfl))⟩
  t0 := Tryz.underlying0
  a0 := Tryz.isAgg0
  z0 := Tryz.sizeOf0
  v0 := Tryz.zeroValue0
  t3 := Tryz.underlying3
  a3 := Tryz.isAgg3
  z3 := Tryz.sizeOf3
  v3 := Tryz.zeroValue3
  t4 := Tryz.underlying4
  a4 := Tryz.isAgg4
  z4 := Tryz.sizeOf4
  v4 := Tryz.zeroValue4
  t9 := Tryz.underlying9
  a9 := Tryz.isAgg9
  z9 := Tryz.sizeOf9
  v9 := Tryz.zeroValue9
  t20 := Tryz.underlying20
  a20 := Tryz.isAgg20
  z20 := Tryz.sizeOf20
  v20 := Tryz.zeroValue20
  t22 := Tryz.underlying35
  a22 := Tryz.isAgg35
  z22 := Tryz.sizeOf35
  v22 := Tryz.zeroValue35 }
end Go.Proofs
end
section
set_option linter.unusedVariables false
set_option linter.unusedSimpArgs false
namespace Go.Proofs
open Go Go.Ab
set_option maxHeartbeats 1000000
set_option maxRecDepth 100000
set_option linter.unusedSimpArgs false
set_option linter.unusedVariables false
attribute [local irreducible] Awp aops aopsL Go.Ab.Pure PureOwn
def ints (l : List Int) : List (List AV) := l.map fun n => [.v (.int .i64 n)]
theorem ints_len (l : List Int) : (ints l).length = l.length := by simp [ints]
attribute [go_sem] ints_len
@[go_sem] theorem ints_at (l : List Int) (i : Nat) (h : i < l.length) : (ints l).getD i [] = [.v (.int .i64 (l.getD i 0))] := by
  simp [ints, List.getD_eq_getElem?_getD, h]
@[go_sem] theorem neg1 : Int.negSucc 0 = -1 := rfl
end Go.Proofs
end
section
set_option linter.unusedVariables false
set_option linter.unusedSimpArgs false
namespace Go.Proofs
open Go Go.Ab
set_option maxHeartbeats 1000000
set_option maxRecDepth 100000
set_option linter.unusedSimpArgs false
set_option linter.unusedVariables false
attribute [local irreducible] Awp aops aopsL Go.Ab.Pure PureOwn
def byteAt (s : ByteArray) (i : Nat) : Int := (s.data.getD i 0).toNat
def letB (c : Int) : Bool := decide (97 ≤ c) && decide (c ≤ 122) || decide (65 ≤ c) && decide (c ≤ 90)
def digB (c : Int) : Bool := decide (48 ≤ c) && decide (c ≤ 57)
def okB (c : Int) : Bool := letB c || digB c || c == 95 || c == 45
def nameB (s : ByteArray) : Bool := !(s.size == 0) && decide (s.size ≤ 16) && letB (byteAt s 0) && (List.range s.size).all fun i => okB (byteAt s i)
theorem byteAt_def (s : ByteArray) (i : Nat) : ((s.data.getD i 0).toNat : Int) = byteAt s i := rfl
attribute [go_sem] byteAt_def
theorem nameB_head {s : ByteArray} (h : (s.size == 0 || decide (16 < (s.size : Int)) || !letB (byteAt s 0)) = true) : nameB s = false := by
  simp only [Bool.or_eq_true, beq_iff_eq, decide_eq_true_eq, Bool.not_eq_true'] at h
  rcases h with (h | h) | h
  · simp [nameB, h]
  · have : ¬ s.size ≤ 16 := by omega
    simp [nameB, this]
  · simp [nameB, h]
theorem nameB_bad {s : ByteArray} {i : Nat} (h : i < s.size) (e : okB (byteAt s i) = false) : nameB s = false := by
  have : ((List.range s.size).all fun i => okB (byteAt s i)) = false := by
    simp only [List.all_eq_false, List.mem_range]
    exact ⟨i, h, by simp [e]⟩
  simp [nameB, this]
theorem nameB_end {s : ByteArray} {i : Nat} (h0 : s.size ≠ 0) (h1 : (s.size : Int) ≤ 16) (h2 : letB (byteAt s 0) = true) (h : ∀ j, j < i → okB (byteAt s j) = true) (hi : s.size ≤ i) : nameB s = true := by
  have : ((List.range s.size).all fun i => okB (byteAt s i)) = true := by
    simp only [List.all_eq_true, List.mem_range]
    exact fun j hj => h j (by omega)
  have h3 : s.size ≤ 16 := by omega
  simp [nameB, this, h0, h3, h2]
theorem ltSucc {P : Nat → Prop} {i : Nat} (h : ∀ j, j < i → P j) (hi : P i) : ∀ j, j < i + 1 → P j := fun j hj => by
  rcases Nat.lt_succ_iff_lt_or_eq.1 hj with h' | rfl
  · exact h j h'
  · exact hi
theorem get_byteAt (s : ByteArray) (i : Nat) : ((s.get! i).toNat : Int) = byteAt s i := by
  show ((s.data[i]!).toNat : Int) = _
  rw [Array.getElem!_eq_getD]
  rfl
theorem decode_lo {s : ByteArray} {i : Nat} (h : byteAt s i < 128) : ((Utf8.decode s i).1 : Int) = byteAt s i ∧ (Utf8.decode s i).2 = 1 := by
  have h1 := get_byteAt s i
  have h2 : (s.get! i).toNat < 128 := by omega
  simp only [Utf8.decode, h2, if_true, Nat.add_zero]
  exact ⟨h1, trivial⟩
theorem decode_hi {s : ByteArray} {i : Nat} (h : 128 ≤ byteAt s i) : (128 : Int) ≤ ((Utf8.decode s i).1 : Int) := by
  have h1 := get_byteAt s i
  have h2 : ¬ (s.get! i).toNat < 128 := by omega
  have h3 : 128 ≤ (Utf8.decode s i).1 := by
    simp only [Utf8.decode, Nat.add_zero, h2, if_false, Utf8.runeError]
    repeat' split
    all_goals simp_all
    all_goals omega
  omega
def nmC (c : Int) (i : Nat) : Bool := !(decide (65 ≤ c) && decide (c ≤ 90) || decide (97 ≤ c) && decide (c ≤ 122)) && ((i : Int) == 0 || !(decide (48 ≤ c) && decide (c ≤ 57) || c == 95 || c == 45))
theorem nm_bad {s : ByteArray} {i : Nat} (hi : i < s.size) (h : nmC ((Utf8.decode s i).1 : Nat) i = true) : nameB s = false := by
  rcases Int.lt_or_le (byteAt s i) 128 with hb | hb
  · rw [(decode_lo hb).1] at h
    by_cases h0 : i = 0
    · subst h0
      refine nameB_head ?_
      simp only [nmC, Bool.and_eq_true, Bool.not_eq_true'] at h
      simp only [Bool.or_eq_true, Bool.not_eq_true', letB]
      refine .inr ?_
      rw [Bool.or_comm]
      exact h.1
    · refine nameB_bad hi ?_
      simp [nmC, okB, letB, digB, h0] at h ⊢
      omega
  · have := decode_hi hb
    refine nameB_bad hi ?_
    simp [okB, letB, digB]
    omega
theorem nm_good {s : ByteArray} {i : Nat} (h : nmC ((Utf8.decode s i).1 : Nat) i = false) : (Utf8.decode s i).2 = 1 ∧ okB (byteAt s i) = true ∧ (i = 0 → letB (byteAt s 0) = true) := by
  rcases Int.lt_or_le (byteAt s i) 128 with hb | hb
  · rw [(decode_lo hb).1] at h
    refine ⟨(decode_lo hb).2, ?_, fun h0 => ?_⟩
    · simp [nmC, okB, letB, digB] at h ⊢
      omega
    · subst h0
      simp [nmC, letB] at h ⊢
      omega
  · have h1 := decode_hi hb
    generalize ((Utf8.decode s i).1 : Int) = c at *
    simp [nmC] at h
    omega
theorem name_ok (s : ByteArray) : Pure Tryz.prog 49 [.v (.string s)] (.v (.bool (nameB s))) := by
  refine fn_pure Tryz.F49 (Nat.le_of_ble_eq_true rfl) ?_; unfold Tryz.ac49
  repeat' (first
    | (apply Awp.sreg; (case hn => (simp only [List.length_cons, List.length_nil, Nat.reduceAdd] <;> rfl)))
    | (refine st_nil ?_)
    | (apply st_a; (case hc => rfl); (case he => (simp only [go_sem, *] <;> rfl)); (case hu => (simp only [updL_nil, updL_cons] <;> rfl)); (case hp => first | trivial))
    | (apply st_m; (case hc => rfl); (case hg => (simp only [go_sem, *] <;> rfl)); (case he => (intro hQz; (try simp only [wantB_t, wantB_f, Bool.and_eq_true, Bool.not_eq_true', Bool.not_true, Bool.not_false, and_true, true_and] at hQz); simp only [go_sem, *] <;> rfl)); (case hp => (intro hQz; (try simp only [wantB_t, wantB_f, Bool.and_eq_true, Bool.not_eq_true', Bool.or_eq_false_iff, decide_eq_true_eq, decide_eq_false_iff_not, beq_iff_eq, beq_eq_false_iff_ne, bne_iff_ne, bne_eq_false_iff_eq, Int.not_lt, Int.not_le, Int.ofNat_lt, Int.ofNat_le] at hQz); first | trivial)))
    | (refine Awp.ret ?_; try simp only [go_sem, *])
    | (refine Awp.skip ?_; try simp only [go_sem, *])
    | refine Awp.block ?_
    | (apply Awp.cond; (case hc => (simp only [go_sem, *] <;> rfl)); all_goals (intro hg; (try simp only [Bool.not_true, Bool.not_false, reduceCtorEq] at hg); (try have hg' := hg); (try simp only [decide_eq_true_eq, decide_eq_false_iff_not, Bool.and_eq_true, Bool.or_eq_false_iff, bne_iff_ne, bne_eq_false_iff_eq, beq_iff_eq, beq_eq_false_iff_ne, Int.not_lt, Int.not_le, Int.ofNat_lt, Int.ofNat_le, Int.natCast_inj] at hg')))
    | refine Awp.seq ?_)
  · refine Lower.bool (nameB_head ?_).symm
    rw [hg]; rfl
  · have h0 := hg'
    refine Awp.loop (fun i : Nat => i ≤ s.size ∧ (0 < i → letB (byteAt s 0) = true) ∧ ∀ j, j < i → okB (byteAt s j) = true) 10 (fun i => mkS [(0, .v (.string s)), (15, .bp 9 0)] [(9, .iter s i)]) (fun i => s.size - i) 0 (by simp) ?_ ?_
    · (apply Ghost.mk [] []; (case hdead => rfl); (case hinj => rfl); (case hV => (simp only [go_sem, *]) <;> (repeat' (first | exact .bp rfl (by decide)))); (case hB => (simp only [go_sem, *]) <;> (repeat' (first | exact ⟨_, rfl, .iterE (by first | rfl | omega | (simp; done) | (rw [wrap_i64] <;> (try simp only [Int.natCast_add]) <;> omega) | (simp [*]; done))⟩))))
    · intro i ⟨hi, hl, hj⟩
      by_cases hs : i < s.size
      · have e1 := nextV_in hs
        have e2 := nextPos_in hs
        repeat' (first
    | (apply Awp.sreg; (case hn => (simp only [List.length_cons, List.length_nil, Nat.reduceAdd] <;> rfl)))
    | (refine st_nil ?_)
    | (apply st_a; (case hc => rfl); (case he => (simp only [go_sem, *] <;> rfl)); (case hu => (simp only [updL_nil, updL_cons] <;> rfl)); (case hp => first | trivial))
    | (apply st_m; (case hc => rfl); (case hg => (simp only [go_sem, *] <;> rfl)); (case he => (intro hQz; (try simp only [wantB_t, wantB_f, Bool.and_eq_true, Bool.not_eq_true', Bool.not_true, Bool.not_false, and_true, true_and] at hQz); simp only [go_sem, *] <;> rfl)); (case hp => (intro hQz; (try simp only [wantB_t, wantB_f, Bool.and_eq_true, Bool.not_eq_true', Bool.or_eq_false_iff, decide_eq_true_eq, decide_eq_false_iff_not, beq_iff_eq, beq_eq_false_iff_ne, bne_iff_ne, bne_eq_false_iff_eq, Int.not_lt, Int.not_le, Int.ofNat_lt, Int.ofNat_le] at hQz); first | trivial)))
    | (refine Awp.ret ?_; try simp only [go_sem, *])
    | (refine Awp.skip ?_; try simp only [go_sem, *])
    | refine Awp.block ?_
    | (apply Awp.cond; (case hc => (simp only [go_sem, *] <;> rfl)); all_goals (intro hg; (try simp only [Bool.not_true, Bool.not_false, reduceCtorEq] at hg); (try have hg' := hg); (try simp only [decide_eq_true_eq, decide_eq_false_iff_not, Bool.and_eq_true, Bool.or_eq_false_iff, bne_iff_ne, bne_eq_false_iff_eq, beq_iff_eq, beq_eq_false_iff_ne, Int.not_lt, Int.not_le, Int.ofNat_lt, Int.ofNat_le, Int.natCast_inj] at hg')))
    | refine Awp.seq ?_)
        · exact Lower.bool (nm_bad hs hg).symm
        · obtain ⟨g1, g2, g3⟩ := nm_good (s := s) (i := i) hg
          rw [g1] at e2
          refine ⟨i + 1, ⟨by omega, fun _ => ?_, ltSucc hj g2⟩, by omega, ?_⟩
          · rcases Nat.eq_zero_or_pos i with h | h
            · exact g3 h
            · exact hl h
          · (apply Ghost.mk [] []; (case hdead => rfl); (case hinj => rfl); (case hV => (simp only [go_sem, *]) <;> (repeat' (first | exact .bp rfl (by decide)))); (case hB => (simp only [go_sem, *]) <;> (repeat' (first | exact ⟨_, rfl, .iterE (by first | rfl | omega | (simp; done) | (rw [wrap_i64] <;> (try simp only [Int.natCast_add]) <;> omega) | (simp [*]; done))⟩))))
      · have e1 := nextV_end hs
        have e2 := nextPos_end hs
        repeat' (first
    | (apply Awp.sreg; (case hn => (simp only [List.length_cons, List.length_nil, Nat.reduceAdd] <;> rfl)))
    | (refine st_nil ?_)
    | (apply st_a; (case hc => rfl); (case he => (simp only [go_sem, *] <;> rfl)); (case hu => (simp only [updL_nil, updL_cons] <;> rfl)); (case hp => first | trivial))
    | (refine Awp.ret ?_; try simp only [go_sem, *])
    | (refine Awp.exit ?_; try simp only [go_sem, *])
    | (apply Awp.cond; (case hc => (simp only [go_sem, *] <;> rfl)); all_goals (intro hg; (try simp only [Bool.not_true, Bool.not_false, reduceCtorEq] at hg); (try have hg' := hg); (try simp only [decide_eq_true_eq, decide_eq_false_iff_not, Bool.and_eq_true, Bool.or_eq_false_iff, bne_iff_ne, bne_eq_false_iff_eq, beq_iff_eq, beq_eq_false_iff_ne, Int.not_lt, Int.not_le, Int.ofNat_lt, Int.ofNat_le, Int.natCast_inj] at hg')))
    | refine Awp.seq ?_)
        all_goals exact Lower.bool (nameB_end h0.1 h0.2 (hl (by omega)) hj (by omega)).symm
end Go.Proofs
end
section
set_option linter.unusedVariables false
set_option linter.unusedSimpArgs false
namespace Go.Proofs
open Go Go.Ab
set_option maxHeartbeats 1000000
set_option maxRecDepth 100000
set_option linter.unusedSimpArgs false
set_option linter.unusedVariables false
theorem pure_two {P : Program} {f : FuncId} {x y v : Value} (hc : Callable P f) (h : ∀ w, Calls P f #[x, y] w fun e w' => e = .returned v ∧ w' = w) : Go.Ab.Pure P f [.v x, .v y] (.v v) := by
  refine ⟨hc, fun ok w cs ha => ?_⟩
  obtain ⟨hl, hv⟩ := ha
  match cs, hl with
  | [a, b], _ =>
    have h1 := hv 0 (by simp)
    have h2 := hv 1 (by simp)
    simp only [av_zero, av_succ, cv, List.getD_cons_zero, List.getD_cons_succ] at h1 h2
    cases h1; cases h2
    refine (h w).mono fun e w' ⟨he, hw⟩ => ⟨v, he, ?_, .v _⟩
    subst hw
    exact ⟨rfl, rfl, rfl, Nat.le_refl _, fun _ _ => rfl⟩
theorem count_ok (s : ByteArray) : Go.Ab.Pure Tryz.prog 108 [.v (.string s), .v (.string ⟨⟨[46]⟩⟩)] (.v (.int .i64 (Lib.countByte s.data.toList 46 : Nat))) :=
  pure_two ⟨_, Tryz.func108, by kernel_rfl, by kernel_rfl⟩ fun w => Tryz.strings_Count_one s 46 w
theorem indexS_ok (s : ByteArray) : Go.Ab.Pure Tryz.prog 109 [.v (.string s), .v (.string ⟨⟨[46]⟩⟩)] (.v (.int .i64 (Lib.indexByte s.data.toList 46))) :=
  pure_two ⟨_, Tryz.func109, by kernel_rfl, by kernel_rfl⟩ fun w => Tryz.strings_Index_one s 46 w
attribute [local irreducible] Awp aops aopsL Go.Ab.Pure PureOwn
def strs (l : List ByteArray) : List (List AV) := l.map fun s => [.v (.string s)]
@[go_sem] theorem strs_len (l : List ByteArray) : (strs l).length = l.length := by simp [strs]
@[go_sem] theorem strs_at (l : List ByteArray) (i : Nat) (h : i < l.length) : (strs l).getD i [] = [.v (.string (l.getD i ⟨#[]⟩))] := by
  simp [strs, List.getD_eq_getElem?_getD, h]
@[go_sem] theorem cast_beq (a b : Nat) : ((a : Int) == (b : Int)) = (a == b) := by
  rw [Bool.eq_iff_iff, beq_iff_eq, beq_iff_eq, Int.natCast_inj]
def parF (s : ByteArray) : Nat → Nat → Nat → List ByteArray
  | 0, _, _ => []
  | n + 1, i, fr => if i == s.size || byteAt s i == 46 then s.extract fr i :: parF s n (i + 1) (i + 1) else parF s n (i + 1) fr
def parts (s : ByteArray) : List ByteArray := parF s (s.size + 1) 0 0
theorem ext_ext (s : ByteArray) (a b c d : Nat) : (s.extract a b).extract c d = s.extract (a + c) (min (a + d) b) := by
  apply ByteArray.ext
  simp [Array.extract_extract]
theorem ext_size (s : ByteArray) (a b : Nat) : (s.extract a b).size = min b s.size - a := by
  exact ByteArray.size_extract
end Go.Proofs
end
section
set_option linter.unusedVariables false
set_option linter.unusedSimpArgs false
namespace Go.Proofs
open Go Go.Ab
set_option maxHeartbeats 1000000
set_option maxRecDepth 100000
set_option linter.unusedSimpArgs false
set_option linter.unusedVariables false
attribute [local irreducible] Awp aops aopsL Go.Ab.Pure PureOwn
theorem ix_some : ∀ (l : List UInt8), 0 < l.count 46 → ∃ m : Nat, Lib.indexByte l 46 = (m : Int) ∧ m < l.length ∧ l.getD m 0 = 46 ∧ (∀ j, j < m → l.getD j 0 ≠ 46) ∧ l.count 46 = (l.drop (m + 1)).count 46 + 1
  | [], h => by simp at h
  | b :: l, h => by
    by_cases hb : b = 46
    · subst hb
      exact ⟨0, by simp [Lib.indexByte], by simp, by simp, fun j hj => by omega, by simp⟩
    · have hc : (b :: l).count 46 = l.count 46 := by rw [List.count_cons]; simp [hb]
      rw [hc] at h
      obtain ⟨m, h1, h2, h3, h4, h5⟩ := ix_some l h
      refine ⟨m + 1, ?_, by simp; omega, by simpa using h3, fun j hj => ?_, by rw [hc, h5]; simp⟩
      · have : ¬ ((m : Int) = -1) := by omega
        simp [Lib.indexByte, hb, h1, this]
      · cases j with
        | zero => simpa using hb
        | succ j => simpa using h4 j (by omega)
theorem byteAt_list (s : ByteArray) (i : Nat) : byteAt s i = ((s.data.toList.getD i 0).toNat : Int) := by
  unfold byteAt
  rw [Array.getD_eq_getD_getElem?, List.getD_eq_getElem?_getD, Array.getElem?_toList]
theorem byteAt_dot {s : ByteArray} {i : Nat} : byteAt s i = 46 ↔ s.data.toList.getD i 0 = 46 := by
  rw [byteAt_list]
  constructor
  · intro h
    have : (s.data.toList.getD i 0).toNat = 46 := by omega
    exact UInt8.toNat_inj.1 this
  · intro h; rw [h]; rfl
theorem ext_list (s : ByteArray) (fr : Nat) : (s.extract fr s.size).data.toList = s.data.toList.drop fr := by
  rw [ByteArray.data_extract, Array.toList_extract]
  show List.take (s.data.size - fr) (List.drop fr s.data.toList) = _
  exact List.take_of_length_le (by simp)
theorem ext_all (s : ByteArray) : s = s.extract 0 s.size := by simp
theorem parF_run (s : ByteArray) (fr : Nat) : ∀ (m i : Nat), i + m ≤ s.size → (∀ j, j < m → byteAt s (i + j) ≠ 46) → parF s (s.size + 1 - i) i fr = parF s (s.size + 1 - (i + m)) (i + m) fr
  | 0, i, _, _ => rfl
  | m + 1, i, h, hj => by
    have h0 := hj 0 (by omega)
    rw [show s.size + 1 - i = s.size + 1 - (i + 1) + 1 by omega, parF, if_neg (by simp only [Bool.or_eq_true, beq_iff_eq, not_or]; exact ⟨by omega, h0⟩)]
    rw [parF_run s fr m (i + 1) (by omega) (fun j hj' => by rw [show i + 1 + j = i + (j + 1) by omega]; exact hj (j + 1) (by omega))]
    rw [show i + 1 + m = i + (m + 1) by omega]
theorem parF_dot {s : ByteArray} {fr m : Nat} (h : fr + m < s.size) (hm : byteAt s (fr + m) = 46) (hj : ∀ j, j < m → byteAt s (fr + j) ≠ 46) : parF s (s.size + 1 - fr) fr fr = s.extract fr (fr + m) :: parF s (s.size + 1 - (fr + m + 1)) (fr + m + 1) (fr + m + 1) := by
  rw [parF_run s fr m fr (by omega) hj, show s.size + 1 - (fr + m) = s.size + 1 - (fr + m + 1) + 1 by omega, parF, if_pos (by simp [hm])]
theorem parF_last {s : ByteArray} {fr : Nat} (h : fr ≤ s.size) (hj : ∀ j, fr ≤ j → j < s.size → byteAt s j ≠ 46) : parF s (s.size + 1 - fr) fr fr = [s.extract fr s.size] := by
  rw [parF_run s fr (s.size - fr) fr (by omega) (fun j hj' => hj _ (by omega) (by omega)), show fr + (s.size - fr) = s.size by omega, show s.size + 1 - s.size = 0 + 1 by omega, parF, if_pos (by simp), parF]
theorem count_zero {l : List UInt8} {fr : Nat} (h : (l.drop fr).count 46 = 0) : ∀ j, fr ≤ j → j < l.length → l.getD j 0 ≠ 46 := by
  intro j h1 h2 e
  rw [List.count_eq_zero] at h
  refine h ?_
  rw [← e]
  simp only [List.getD_eq_getElem?_getD, List.getElem?_eq_getElem h2, Option.getD_some]
  exact List.mem_drop_iff_getElem.2 ⟨j - fr, by omega, by congr 1; omega⟩
theorem rep_at (l : List ByteArray) (n : Nat) (z : List AV) (h : 0 < n) : (strs l ++ List.replicate n z).getD l.length [] = z := by
  simp [strs, List.getD_eq_getElem?_getD, List.getElem?_append_right, List.getElem?_replicate, h]
theorem rep_set (l : List ByteArray) (n : Nat) (z : List AV) (x : ByteArray) (h : l.length < n) : (strs l ++ List.replicate (n - l.length) z).set l.length [.v (.string x)] = strs (l ++ [x]) ++ List.replicate (n - (l ++ [x]).length) z := by
  have h1 : n - l.length = (n - (l ++ [x]).length) + 1 := by simp; omega
  rw [h1, List.replicate_succ]
  simp [strs, List.set_append_right]
theorem getD_drop (l : List UInt8) (k j : Nat) : (l.drop k).getD j 0 = l.getD (k + j) 0 := by
  simp [List.getD_eq_getElem?_getD, List.getElem?_drop]
theorem gensplit_ok (s : ByteArray) (hs : s.size < 1000000) : Pure Tryz.prog 89 [.v (.string s), .v (.string ⟨⟨[46]⟩⟩), .v (.int .i64 0), .v (.int .i64 (-1))] (.sl (strs (parts s))) := by
  obtain ⟨C, hC⟩ : ∃ C, Lib.countByte s.data.toList 46 = C := ⟨_, rfl⟩
  have hc := count_ok s
  rw [hC] at hc
  have hle : C ≤ s.size := by rw [← hC]; exact List.count_le_length
  have w1 : IntKind.i64.wrap ((C : Int) + 1) = C + 1 := wrap_i64 (by omega) (by omega)
  have w2 : IntKind.i64.wrap ((s.size : Int) + 1) = s.size + 1 := wrap_i64 (by omega) (by omega)
  have w3 : ¬ ((s.size : Int) + 1 < C + 1) := by omega
  have w4 : IntKind.i64.wrap ((C : Int) + 1 - 1) = C := by rw [wrap_i64] <;> omega
  have w5 : ((C : Int) + 1).toNat = C + 1 := by omega
  have w6 : (Array.size (⟨[46]⟩ : Array UInt8) == 0) = false := rfl
  have w7 : ((Array.size (⟨[46]⟩ : Array UInt8) : Nat) : Int) = 1 := rfl
  refine fn_pure Tryz.F89 (Nat.le_of_ble_eq_true rfl) ?_; unfold Tryz.ac89
  repeat' (first
    | (apply Awp.sreg; (case hn => (simp only [List.length_cons, List.length_nil, Nat.reduceAdd] <;> rfl)))
    | (refine st_nil ?_)
    | (apply st_a; (case hc => rfl); (case he => (simp only [go_sem, *] <;> rfl)); (case hu => (simp only [updL_nil, updL_cons] <;> rfl)); (case hp => first | trivial | omega))
    | (apply st_c; (case hc => (simp only [go_sem, *] <;> rfl)); (case hl => (simp only [go_sem, *] <;> rfl)); (case hn => (simp only [go_sem, *] <;> rfl)); (case hp => first | exact hc | (have hXz := hc; simp only [go_sem, *] at hXz; exact hXz)))
    | (apply Awp.reg; (case hn => (simp only [List.length_cons, List.length_nil, Nat.reduceAdd] <;> rfl)))
    | (refine Awp.skip ?_; try simp only [go_sem, *])
    | refine Awp.block ?_
    | (apply Awp.cond; (case hc => (simp only [go_sem, *] <;> rfl)); all_goals (intro hg; (try simp only [Bool.not_true, Bool.not_false, reduceCtorEq] at hg); (try have hg' := hg); (try simp only [decide_eq_true_eq, decide_eq_false_iff_not, Bool.and_eq_true, Bool.or_eq_false_iff, bne_iff_ne, bne_eq_false_iff_eq, beq_iff_eq, beq_eq_false_iff_ne, Int.not_lt, Int.not_le, Int.ofNat_lt, Int.ofNat_le, Int.natCast_inj] at hg')))
    | refine Awp.seq ?_)
  · refine Awp.loop (fun x : Nat × List ByteArray => x.1 ≤ s.size ∧ x.2 ++ parF s (s.size + 1 - x.1) x.1 x.1 = parts s ∧ (s.data.toList.drop x.1).count 46 + x.2.length = C) 30
      (fun x => mkS [(0, .v (.string (s.extract x.1 s.size))), (1, .v (.string ⟨⟨[46]⟩⟩)), (2, .v (.int .i64 0)), (3, .v (.int .i64 C)), (9, .own 0), (10, .v (.int .i64 x.2.length))] [(0, .row (strs x.2 ++ List.replicate (C + 1 - x.2.length) [.v (.string ⟨⟨[]⟩⟩)]) 1 9)]) (fun x => C - x.2.length) (0, []) ?_ ?_ ?_
    · exact ⟨Nat.zero_le _, rfl, by rw [← hC]; rfl⟩
    · (apply Ghost.mk [(0, 19)] []; (case hdead => rfl); (case hinj => rfl); (case hV => (simp only [go_sem, *]) <;> (repeat' (first | refine And.intro ?_ ?_ | exact View.int (by first | rfl | exact ext_all s | omega | (simp; done) | (rw [wrap_i64] <;> (try simp only [Int.natCast_add]) <;> omega) | (simp [*]; done)) | exact View.str (by first | rfl | exact ext_all s | omega | (simp; done) | (rw [wrap_i64] <;> (try simp only [Int.natCast_add]) <;> omega) | (simp [*]; done)) | exact .own rfl (by decide)))); (case hB => (simp only [go_sem, *]) <;> (repeat' (first | exact ⟨_, rfl, .rowE (by first | rfl | exact ext_all s | omega | (simp; done) | (rw [wrap_i64] <;> (try simp only [Int.natCast_add]) <;> omega) | (simp [*]; done))⟩))))
    · intro ⟨fr, out⟩ ⟨h1, h2, h3⟩
      dsimp only at h1 h2 h3 ⊢
      have hl : (s.extract fr s.size).data.toList = s.data.toList.drop fr := ext_list s fr
      by_cases hlt : out.length < C
      · obtain ⟨m, m1, m2, m3, m4, m5⟩ := ix_some (s.data.toList.drop fr) (by omega)
        have hix := indexS_ok (s.extract fr s.size)
        rw [hl, m1] at hix
        have hsz : (s.extract fr s.size).size = s.size - fr := by rw [ext_size]; omega
        have hm : m < s.size - fr := by
          rw [List.length_drop] at m2
          exact m2
        have e1 : IntKind.i64.wrap ((m : Int) + 0) = m := by rw [wrap_i64] <;> omega
        have e2 : IntKind.i64.wrap ((m : Int) + 1) = (m + 1 : Nat) := by rw [wrap_i64] <;> omega
        have e3 : ((m + 1 : Nat) : Int).toNat = m + 1 := by omega
        have e0 : ¬ ((m : Int) < 0) := by omega
        have hlt' : (out.length : Int) < C := by omega
        have e4 : (strs out ++ List.replicate (C + 1 - out.length) [AV.v (.string ⟨⟨[]⟩⟩)]).length = C + 1 := by simp [strs]; omega
        have e5 : (strs out ++ List.replicate (C + 1 - out.length) [AV.v (.string ⟨⟨[]⟩⟩)]).getD out.length [] = [.v (.string ⟨⟨[]⟩⟩)] := rep_at _ _ _ (by omega)
        have e6 : (strs out ++ List.replicate (C + 1 - out.length) [AV.v (.string ⟨⟨[]⟩⟩)]).set out.length [.v (.string (s.extract fr (fr + m)))] = strs (out ++ [s.extract fr (fr + m)]) ++ List.replicate (C + 1 - (out ++ [s.extract fr (fr + m)]).length) [AV.v (.string ⟨⟨[]⟩⟩)] := rep_set _ _ _ _ (by omega)
        have e7 : (s.extract fr s.size).extract 0 m = s.extract fr (fr + m) := by rw [ext_ext, Nat.add_zero, Nat.min_eq_left (by omega)]
        have e8 : (s.extract fr s.size).extract (m + 1) (s.size - fr) = s.extract (fr + m + 1) s.size := by rw [ext_ext, show fr + (s.size - fr) = s.size by omega, Nat.min_self]; rfl
        repeat' (first
    | (apply Awp.sreg; (case hn => (simp only [List.length_cons, List.length_nil, Nat.reduceAdd] <;> rfl)))
    | (refine st_nil ?_)
    | (apply st_a; (case hc => rfl); (case he => (simp only [go_sem, *] <;> rfl)); (case hu => (simp only [updL_nil, updL_cons] <;> rfl)); (case hp => first | trivial | omega | (simp; done)))
    | (apply st_c; (case hc => (simp only [go_sem, *] <;> rfl)); (case hl => (simp only [go_sem, *] <;> rfl)); (case hn => (simp only [go_sem, *] <;> rfl)); (case hp => first | exact hix | (have hXz := hix; simp only [go_sem, *] at hXz; exact hXz)))
    | (apply Awp.reg; (case hn => (simp only [List.length_cons, List.length_nil, Nat.reduceAdd] <;> rfl)))
    | (refine Awp.skip ?_; try simp only [go_sem, *])
    | refine Awp.block ?_
    | (apply Awp.cond; (case hc => (simp only [go_sem, *] <;> rfl)); all_goals (intro hg; (try simp only [Bool.not_true, Bool.not_false, reduceCtorEq] at hg); (try have hg' := hg); (try simp only [decide_eq_true_eq, decide_eq_false_iff_not, Bool.and_eq_true, Bool.or_eq_false_iff, bne_iff_ne, bne_eq_false_iff_eq, beq_iff_eq, beq_eq_false_iff_ne, Int.not_lt, Int.not_le, Int.ofNat_lt, Int.ofNat_le, Int.natCast_inj] at hg')))
    | refine Awp.seq ?_)
        refine ⟨(fr + m + 1, out ++ [s.extract fr (fr + m)]), ⟨by dsimp only; omega, ?_, ?_⟩, by simp; omega, ?_⟩
        · dsimp only
          have hp := parF_dot (s := s) (fr := fr) (m := m) (by omega) (byteAt_dot.2 (by rw [← m3]; exact (getD_drop _ _ _).symm)) (fun j hj e => m4 j hj (by rw [getD_drop]; exact byteAt_dot.1 e))
          rw [hp] at h2
          rw [← h2]
          simp only [List.append_assoc, List.singleton_append]
        · rw [List.drop_drop] at m5
          simp only [List.length_append, List.length_singleton]
          rw [show fr + m + 1 = fr + (m + 1) by omega]
          omega
        · have e9 : ((out ++ [s.extract fr (fr + m)]).length : Int) = out.length + 1 := by simp
          (apply Ghost.mk [] []; (case hdead => rfl); (case hinj => rfl); (case hV => (simp only [go_sem, *]) <;> (repeat' (first | refine And.intro ?_ ?_ | exact View.int (by first | rfl | omega | (simp; done) | (rw [wrap_i64] <;> (try simp only [Int.natCast_add]) <;> omega) | (simp [*]; done)) | exact .own rfl (by decide)))); (case hB => (simp only [go_sem, *]) <;> (repeat' (first | exact ⟨_, rfl, .rowE (by first | rfl | omega | (simp; done) | (rw [wrap_i64] <;> (try simp only [Int.natCast_add]) <;> omega) | (simp [*]; done))⟩))))
      · have e1 : out.length = C := by omega
        have hz : (s.data.toList.drop fr).count 46 = 0 := by omega
        have hp := parF_last h1 (fun j hj1 hj2 e => count_zero hz j hj1 hj2 (byteAt_dot.1 e))
        rw [hp] at h2
        have e4 : (strs out ++ List.replicate (C + 1 - out.length) [AV.v (.string ⟨⟨[]⟩⟩)]).length = C + 1 := by simp [strs]; omega
        have e5 : (strs out ++ List.replicate (C + 1 - out.length) [AV.v (.string ⟨⟨[]⟩⟩)]).getD out.length [] = [.v (.string ⟨⟨[]⟩⟩)] := rep_at _ _ _ (by omega)
        have e6 : (strs out ++ List.replicate (C + 1 - out.length) [AV.v (.string ⟨⟨[]⟩⟩)]).set out.length [.v (.string (s.extract fr s.size))] = strs (parts s) := by
          rw [rep_set _ _ _ _ (by omega), h2, ← h2]
          have : C + 1 - (out ++ [s.extract fr s.size]).length = 0 := by simp; omega
          rw [this]; simp
        clear e1
        have hlt' : ¬ (out.length : Int) < C := by omega
        refine Awp.seq ?_
        (first | (apply Awp.sreg; (case hn => (simp only [List.length_cons, List.length_nil, Nat.reduceAdd] <;> rfl))) | (apply Awp.reg; (case hn => (simp only [List.length_cons, List.length_nil, Nat.reduceAdd] <;> rfl)))); repeat' (first
    | (refine st_nil ?_)
    | (apply st_a; (case hc => rfl); (case he => (simp only [go_sem, *] <;> rfl)); (case hu => (simp only [updL_nil, updL_cons] <;> rfl)); (case hp => first | trivial))
    | (apply st_m; (case hc => rfl); (case hg => (simp only [go_sem, *] <;> rfl)); (case he => (intro hQz; (try simp only [wantB_t, wantB_f, Bool.and_eq_true, Bool.not_eq_true', Bool.not_true, Bool.not_false, and_true, true_and] at hQz); simp only [go_sem, *] <;> rfl)); (case hp => (intro hQz; (try simp only [wantB_t, wantB_f, Bool.and_eq_true, Bool.not_eq_true', Bool.or_eq_false_iff, decide_eq_true_eq, decide_eq_false_iff_not, beq_iff_eq, beq_eq_false_iff_ne, bne_iff_ne, bne_eq_false_iff_eq, Int.not_lt, Int.not_le, Int.ofNat_lt, Int.ofNat_le] at hQz); first | skip; done)))
    | (apply st_gu; (case hv => (simp only [go_sem, *] <;> rfl)))
    | (apply st_g; (case hv => (simp only [go_sem, *] <;> rfl)); all_goals (intro hg; (try simp only [Bool.not_true, Bool.not_false, reduceCtorEq] at hg); (try have hg' := hg); (try simp only [decide_eq_true_eq, decide_eq_false_iff_not, Bool.and_eq_true, Bool.or_eq_false_iff, bne_iff_ne, bne_eq_false_iff_eq, beq_iff_eq, beq_eq_false_iff_ne, Int.not_lt, Int.not_le, Int.ofNat_lt, Int.ofNat_le, Int.natCast_inj] at hg'))))
        (apply Awp.cond; (case hc => (simp only [go_sem, *] <;> rfl)); all_goals (intro hg; (try simp only [Bool.not_true, Bool.not_false, reduceCtorEq] at hg); (try have hg' := hg); (try simp only [decide_eq_true_eq, decide_eq_false_iff_not, Bool.and_eq_true, Bool.or_eq_false_iff, bne_iff_ne, bne_eq_false_iff_eq, beq_iff_eq, beq_eq_false_iff_ne, Int.not_lt, Int.not_le, Int.ofNat_lt, Int.ofNat_le, Int.natCast_inj] at hg')))
        (refine Awp.exit ?_; simp only [go_sem, *])
        (first | (apply Awp.sreg; (case hn => (simp only [List.length_cons, List.length_nil, Nat.reduceAdd] <;> rfl))) | (apply Awp.reg; (case hn => (simp only [List.length_cons, List.length_nil, Nat.reduceAdd] <;> rfl)))); repeat' (first
    | (refine st_nil ?_)
    | (apply st_a; (case hc => rfl); (case he => (simp only [go_sem, *] <;> rfl)); (case hu => (simp only [updL_nil, updL_cons] <;> rfl)); (case hp => first | trivial | omega | (simp; omega)))
    | (apply st_m; (case hc => rfl); (case hg => (simp only [go_sem, *] <;> rfl)); (case he => (intro hQz; (try simp only [wantB_t, wantB_f, Bool.and_eq_true, Bool.not_eq_true', Bool.not_true, Bool.not_false, and_true, true_and] at hQz); simp only [go_sem, *] <;> rfl)); (case hp => (intro hQz; (try simp only [wantB_t, wantB_f, Bool.and_eq_true, Bool.not_eq_true', Bool.or_eq_false_iff, decide_eq_true_eq, decide_eq_false_iff_not, beq_iff_eq, beq_eq_false_iff_ne, bne_iff_ne, bne_eq_false_iff_eq, Int.not_lt, Int.not_le, Int.ofNat_lt, Int.ofNat_le] at hQz); first | skip; done)))
    | (apply st_gu; (case hv => (simp only [go_sem, *] <;> rfl)))
    | (apply st_g; (case hv => (simp only [go_sem, *] <;> rfl)); all_goals (intro hg; (try simp only [Bool.not_true, Bool.not_false, reduceCtorEq] at hg); (try have hg' := hg); (try simp only [decide_eq_true_eq, decide_eq_false_iff_not, Bool.and_eq_true, Bool.or_eq_false_iff, bne_iff_ne, bne_eq_false_iff_eq, beq_iff_eq, beq_eq_false_iff_ne, Int.not_lt, Int.not_le, Int.ofNat_lt, Int.ofNat_le, Int.natCast_inj] at hg'))))
        have hlen : (parts s).length = out.length + 1 := by rw [← h2]; simp
        have e10 : IntKind.i64.wrap ((out.length : Int) + 1) = (parts s).length := by rw [wrap_i64] <;> omega
        have e11 : ∀ x ∈ strs (parts s), x.length = 1 := by simp [strs]
        refine Awp.ghost (nx' := 38) (S' := mkS [(9, .sl (strs (parts s))), (10, .v (.int .i64 out.length))] []) ?_ ?_
        · refine Ghost.mk [] [0] rfl rfl ?_ ?_
          · simp only [go_sem]
            exact .low (.own rfl)
          · simp only [go_sem]
        · repeat' (first
    | (apply Awp.sreg; (case hn => (simp only [List.length_cons, List.length_nil, Nat.reduceAdd] <;> rfl)))
    | (refine st_nil ?_)
    | (apply st_a; (case hc => rfl); (case he => (simp only [go_sem, *] <;> rfl)); (case hu => (simp only [updL_nil, updL_cons] <;> rfl)); (case hp => first | trivial | ((repeat' (refine And.intro ?_ ?_)) <;> first | trivial | assumption | omega | (simp; done) | (simp; omega) | (simp [*]; done))))
    | (refine Awp.ret ?_; try simp only [go_sem, *]))
          have e12 : List.take (parts s).length (strs (parts s)) = strs (parts s) := List.take_of_length_le (by simp [strs])
          rw [← hlen, e12]
          exact .same _ rfl
theorem split_ok (s : ByteArray) (hs : s.size < 1000000) : Pure Tryz.prog 62 [.v (.string s), .v (.string ⟨⟨[46]⟩⟩)] (.sl (strs (parts s))) := by
  refine fn_pure Tryz.F62 (Nat.le_of_ble_eq_true rfl) ?_; unfold Tryz.ac62
  repeat' (first
    | (apply Awp.sreg; (case hn => (simp only [List.length_cons, List.length_nil, Nat.reduceAdd] <;> rfl)))
    | (refine st_nil ?_)
    | (apply st_a; (case hc => rfl); (case he => (simp only [go_sem, *] <;> rfl)); (case hu => (simp only [updL_nil, updL_cons] <;> rfl)); (case hp => first | trivial))
    | (apply st_c; (case hc => (simp only [go_sem, *] <;> rfl)); (case hl => (simp only [go_sem, *] <;> rfl)); (case hn => (simp only [go_sem, *] <;> rfl)); (case hp => first | exact gensplit_ok _ hs | (have hXz := gensplit_ok _ hs; simp only [go_sem, *] at hXz; exact hXz)))
    | (refine Awp.ret ?_; try simp only [go_sem, *]))
  all_goals exact .same _ rfl
end Go.Proofs
end
section
set_option linter.unusedVariables false
set_option linter.unusedSimpArgs false
namespace Go.Proofs
open Go Go.Ab
set_option maxHeartbeats 1000000
set_option maxRecDepth 100000
set_option linter.unusedSimpArgs false
set_option linter.unusedVariables false
attribute [local irreducible] Awp aops aopsL Go.Ab.Pure PureOwn
def sizes (l : List ByteArray) : Nat := (l.map (·.size)).sum
def namesB (l : List ByteArray) : Bool := l.all nameB && decide (1 ≤ (l.length : Int)) && decide ((l.length : Int) ≤ 8) && decide ((l.length : Int) - 1 + sizes l ≤ 64)
theorem sizes_next (l : List ByteArray) (i : Nat) (h : i < l.length) : sizes (l.take (i + 1)) = sizes (l.take i) + (l.getD i ⟨#[]⟩).size := by
  have e : l.take (i + 1) = l.take i ++ [l.getD i ⟨#[]⟩] := by
    rw [List.take_add_one, List.getElem?_eq_getElem h, List.getD_eq_getElem?_getD, List.getElem?_eq_getElem h]; rfl
  rw [e]; simp only [sizes, List.map_append, List.sum_append, List.map_cons, List.map_nil, List.sum_cons, List.sum_nil, Nat.add_zero]
theorem all_bad {l : List ByteArray} {i : Nat} (h : i < l.length) (e : nameB (l.getD i ⟨#[]⟩) = false) : l.all nameB = false := by
  simp only [List.all_eq_false]
  exact ⟨l.getD i ⟨#[]⟩, by simp [List.getD_eq_getElem?_getD, h], by rw [e]; simp⟩
theorem all_end {l : List ByteArray} {i : Nat} (h : ∀ j, j < i → nameB (l.getD j ⟨#[]⟩) = true) (h1 : l.length ≤ i) : l.all nameB = true := by
  simp only [List.all_eq_true]
  intro x hx
  obtain ⟨j, hj, rfl⟩ := List.getElem_of_mem hx
  have := h j (by omega)
  simpa [List.getD_eq_getElem?_getD, hj] using this
theorem sizes_take (l : List ByteArray) (i : Nat) : sizes (l.take i) ≤ sizes l := by
  have e := congrArg sizes (List.take_append_drop i l)
  simp only [sizes, List.map_append, List.sum_append] at e ⊢
  omega
theorem names_ok (l : List ByteArray) (hl : l.length < 1000000) (hz : sizes l < 1000000) : Pure Tryz.prog 61 [.sl (strs l)] (.v (.bool (namesB l))) := by
  have w1 : IntKind.i64.wrap ((l.length : Int) - 1) = l.length - 1 := by rw [wrap_i64] <;> omega
  refine fn_pure Tryz.F61 (Nat.le_of_ble_eq_true rfl) ?_; unfold Tryz.ac61
  repeat' (first
    | (apply Awp.sreg; (case hn => (simp only [List.length_cons, List.length_nil, Nat.reduceAdd] <;> rfl)))
    | (refine st_nil ?_)
    | (apply st_a; (case hc => rfl); (case he => (simp only [go_sem, *] <;> rfl)); (case hu => (simp only [updL_nil, updL_cons] <;> rfl)); (case hp => first | trivial))
    | refine Awp.block ?_
    | refine Awp.seq ?_)
  · refine Awp.loop (fun i : Nat => i ≤ l.length ∧ ∀ j, j < i → nameB (l.getD j ⟨#[]⟩) = true) 20 (fun i => mkS [(0, .sl (strs l)), (3, .v (.int .i64 ((l.length : Int) - 1 + sizes (l.take i)))), (9, .sl (strs l)), (10, .v (.int .i64 l.length)), (11, .v (.int .i64 i))] []) (fun i => l.length - i) 0 (by simp) ?_ ?_
    · have e0 : sizes [] = 0 := rfl
      (apply Ghost.mk [] []; (case hdead => rfl); (case hinj => rfl); (case hV => (simp only [go_sem, *]) <;> (repeat' (first | refine And.intro ?_ ?_ | exact View.int (by first | rfl | omega | (simp; done) | (rw [wrap_i64] <;> (try simp only [Int.natCast_add]) <;> omega) | (simp [*]; done))))); (case hB => (simp only [go_sem, *]) <;> (repeat' (first | skip; done))))
    · intro i ⟨hi, hj⟩
      have hz1 := sizes_take l i
      have hz2 := sizes_take l (i + 1)
      by_cases hlt : i < l.length
      · have hlt' : (i : Int) < l.length := by omega
        have hn := sizes_next l i hlt
        repeat' (first
    | (apply Awp.sreg; (case hn => (simp only [List.length_cons, List.length_nil, Nat.reduceAdd] <;> rfl)))
    | (refine st_nil ?_)
    | (apply st_a; (case hc => rfl); (case he => (simp only [go_sem, *] <;> rfl)); (case hu => (simp only [updL_nil, updL_cons] <;> rfl)); (case hp => first | trivial | omega))
    | (apply st_c; (case hc => (simp only [go_sem, *] <;> rfl)); (case hl => (simp only [go_sem, *] <;> rfl)); (case hn => (simp only [go_sem, *] <;> rfl)); (case hp => first | exact name_ok _ | (have hXz := name_ok _; simp only [go_sem, *] at hXz; exact hXz)))
    | (apply Awp.reg; (case hn => (simp only [List.length_cons, List.length_nil, Nat.reduceAdd] <;> rfl)))
    | (refine Awp.ret ?_; try simp only [go_sem, *])
    | (refine Awp.skip ?_; try simp only [go_sem, *])
    | refine Awp.block ?_
    | (apply Awp.cond; (case hc => (simp only [go_sem, *] <;> rfl)); all_goals (intro hg; (try simp only [Bool.not_true, Bool.not_false, reduceCtorEq] at hg); (try have hg' := hg); (try simp only [decide_eq_true_eq, decide_eq_false_iff_not, Bool.and_eq_true, Bool.or_eq_false_iff, bne_iff_ne, bne_eq_false_iff_eq, beq_iff_eq, beq_eq_false_iff_ne, Int.not_lt, Int.not_le, Int.ofNat_lt, Int.ofNat_le, Int.natCast_inj] at hg')))
    | refine Awp.seq ?_)
        · exact Lower.bool (by rw [namesB, all_bad hlt (by simpa using hg')]; simp)
        · refine ⟨i + 1, ⟨by omega, ltSucc hj (by simpa using hg')⟩, by omega, ?_⟩
          have e1 : IntKind.i64.wrap ((l.length : Int) - 1 + (sizes (l.take i) : Int) + ((l.getD i ⟨#[]⟩).size : Int)) = (l.length : Int) - 1 + (sizes (l.take (i + 1)) : Int) := by rw [wrap_i64] <;> omega
          (apply Ghost.mk [] []; (case hdead => rfl); (case hinj => rfl); (case hV => (simp only [go_sem, *]) <;> (repeat' (first | exact View.int (by first | rfl | omega | (simp; done) | (rw [wrap_i64] <;> (try simp only [Int.natCast_add]) <;> omega) | (simp [*]; done))))); (case hB => (simp only [go_sem, *]) <;> (repeat' (first | skip; done))))
      · have hlt' : ¬ (i : Int) < l.length := by omega
        have e1 : l.take i = l := List.take_of_length_le (by omega)
        repeat' (first
    | (apply Awp.sreg; (case hn => (simp only [List.length_cons, List.length_nil, Nat.reduceAdd] <;> rfl)))
    | (refine st_nil ?_)
    | (apply st_a; (case hc => rfl); (case he => (simp only [go_sem, *] <;> rfl)); (case hu => (simp only [updL_nil, updL_cons] <;> rfl)); (case hp => first | trivial))
    | (apply st_m; (case hc => rfl); (case hg => (simp only [go_sem, *] <;> rfl)); (case he => (intro hQz; (try simp only [wantB_t, wantB_f, Bool.and_eq_true, Bool.not_eq_true', Bool.not_true, Bool.not_false, and_true, true_and] at hQz); simp only [go_sem, *] <;> rfl)); (case hp => (intro hQz; (try simp only [wantB_t, wantB_f, Bool.and_eq_true, Bool.not_eq_true', Bool.or_eq_false_iff, decide_eq_true_eq, decide_eq_false_iff_not, beq_iff_eq, beq_eq_false_iff_ne, bne_iff_ne, bne_eq_false_iff_eq, Int.not_lt, Int.not_le, Int.ofNat_lt, Int.ofNat_le] at hQz); first | trivial)))
    | (refine Awp.ret ?_; try simp only [go_sem, *])
    | (refine Awp.exit ?_; try simp only [go_sem, *])
    | (apply Awp.cond; (case hc => (simp only [go_sem, *] <;> rfl)); all_goals (intro hg; (try simp only [Bool.not_true, Bool.not_false, reduceCtorEq] at hg); (try have hg' := hg); (try simp only [decide_eq_true_eq, decide_eq_false_iff_not, Bool.and_eq_true, Bool.or_eq_false_iff, bne_iff_ne, bne_eq_false_iff_eq, beq_iff_eq, beq_eq_false_iff_ne, Int.not_lt, Int.not_le, Int.ofNat_lt, Int.ofNat_le, Int.natCast_inj] at hg')))
    | refine Awp.seq ?_)
        all_goals exact Lower.bool (by rw [namesB, all_end hj (by omega)]; simp)
theorem parF_sizes (s : ByteArray) : ∀ (n i fr : Nat), i + n = s.size + 1 → fr ≤ i → 0 < n → sizes (parF s n i fr) + (parF s n i fr).length = s.size + 1 - fr
  | 0, _, _, _, _, h => by omega
  | n + 1, i, fr, h1, h2, _ => by
    rw [parF]
    by_cases hn : n = 0
    · subst hn
      have : i = s.size := by omega
      subst this
      simp only [beq_self_eq_true, Bool.true_or, if_true, parF]
      simp [sizes, ext_size]
      omega
    · split
      · have := parF_sizes s n (i + 1) (i + 1) (by omega) (Nat.le_refl _) (by omega)
        simp only [sizes, List.map_cons, List.sum_cons, List.length_cons, ext_size] at this ⊢
        omega
      · exact parF_sizes s n (i + 1) fr (by omega) (by omega) (by omega)
theorem parts_sizes (s : ByteArray) : sizes (parts s) + (parts s).length = s.size + 1 := parF_sizes s (s.size + 1) 0 0 (by omega) (Nat.le_refl _) (by omega)
theorem parF_pos (s : ByteArray) : ∀ (n i fr : Nat), i + n = s.size + 1 → 0 < n → 0 < (parF s n i fr).length
  | 0, _, _, _, h => by omega
  | n + 1, i, fr, h1, _ => by
    rw [parF]
    split
    · simp
    · rename_i hc
      by_cases hn : n = 0
      · subst hn
        have : i = s.size := by omega
        subst this
        simp at hc
      · exact parF_pos s n (i + 1) fr (by omega) (by omega)
theorem parts_pos (s : ByteArray) : 0 < (parts s).length := parF_pos s (s.size + 1) 0 0 (by omega) (by omega)
def idB (s : ByteArray) : Bool := decide (s.size ≤ 64) && decide ((parts s).length ≤ 8) && (parts s).all nameB
theorem names_id (s : ByteArray) : (decide ((s.size : Int) ≤ 64) && namesB (parts s)) = idB s := by
  have h1 := parts_sizes s
  have h2 := parts_pos s
  unfold idB namesB
  rw [Bool.eq_iff_iff]
  simp only [Bool.and_eq_true, decide_eq_true_eq]
  constructor
  · rintro ⟨h3, ⟨⟨h4, h5⟩, h6⟩, h7⟩
    exact ⟨⟨by omega, by omega⟩, h4⟩
  · rintro ⟨⟨h3, h6⟩, h4⟩
    exact ⟨by omega, ⟨⟨h4, by omega⟩, by omega⟩, by omega⟩
theorem isid_ok (s : ByteArray) : Pure Tryz.prog 40 [.v (.string s)] (.v (.bool (idB s))) := by
  rw [← names_id]
  have h1 := parts_sizes s
  by_cases hs : s.size ≤ 64
  · refine fn_pure Tryz.F40 (Nat.le_of_ble_eq_true rfl) ?_; unfold Tryz.ac40
    repeat' (first
    | (apply Awp.sreg; (case hn => (simp only [List.length_cons, List.length_nil, Nat.reduceAdd] <;> rfl)))
    | (refine st_nil ?_)
    | (apply st_a; (case hc => rfl); (case he => (simp only [go_sem, *] <;> rfl)); (case hu => (simp only [updL_nil, updL_cons] <;> rfl)); (case hp => first | trivial))
    | (apply st_m; (case hc => rfl); (case hg => (simp only [go_sem, *] <;> rfl)); (case he => (intro hQz; (try simp only [wantB_t, wantB_f, Bool.and_eq_true, Bool.not_eq_true', Bool.not_true, Bool.not_false, and_true, true_and] at hQz); simp only [go_sem, *] <;> rfl)); (case hp => (intro hQz; (try simp only [wantB_t, wantB_f, Bool.and_eq_true, Bool.not_eq_true', Bool.or_eq_false_iff, decide_eq_true_eq, decide_eq_false_iff_not, beq_iff_eq, beq_eq_false_iff_ne, bne_iff_ne, bne_eq_false_iff_eq, Int.not_lt, Int.not_le, Int.ofNat_lt, Int.ofNat_le] at hQz); first | trivial)))
    | (apply st_mc; (case hop => rfl); (case hg => (simp only [go_sem, *] <;> rfl)); (case hc => (intro hQz; (try simp only [wantB_t, wantB_f, Bool.and_eq_true, Bool.not_eq_true', Bool.not_true, Bool.not_false, and_true, true_and] at hQz); simp only [go_sem, *] <;> rfl)); (case hl => (intro hQz; (try simp only [wantB_t, wantB_f, Bool.and_eq_true, Bool.not_eq_true', Bool.not_true, Bool.not_false, and_true, true_and] at hQz); simp only [go_sem, *] <;> rfl)); (case hn => (intro hQz; (try simp only [wantB_t, wantB_f, Bool.and_eq_true, Bool.not_eq_true', Bool.not_true, Bool.not_false, and_true, true_and] at hQz); simp only [go_sem, *] <;> rfl)); (case hp => intro hQz; first | exact split_ok s (by omega) | (have hXz := split_ok s (by omega); simp only [go_sem, *] at hXz; exact hXz)))
    | (apply st_mc; (case hop => rfl); (case hg => (simp only [go_sem, *] <;> rfl)); (case hc => (intro hQz; (try simp only [wantB_t, wantB_f, Bool.and_eq_true, Bool.not_eq_true', Bool.not_true, Bool.not_false, and_true, true_and] at hQz); simp only [go_sem, *] <;> rfl)); (case hl => (intro hQz; (try simp only [wantB_t, wantB_f, Bool.and_eq_true, Bool.not_eq_true', Bool.not_true, Bool.not_false, and_true, true_and] at hQz); simp only [go_sem, *] <;> rfl)); (case hn => (intro hQz; (try simp only [wantB_t, wantB_f, Bool.and_eq_true, Bool.not_eq_true', Bool.not_true, Bool.not_false, and_true, true_and] at hQz); simp only [go_sem, *] <;> rfl)); (case hp => intro hQz; first | exact names_ok (parts s) (by omega) (by omega) | (have hXz := names_ok (parts s) (by omega) (by omega); simp only [go_sem, *] at hXz; exact hXz)))
    | (refine Awp.ret ?_; try simp only [go_sem, *]))
    all_goals repeat' (first | exact Lower.bool (by first | rfl | (simp only [true_and, Bool.true_and, Bool.false_and, Bool.and_true, Bool.and_false, Bool.true_or, Bool.false_or, reduceIte, Bool.false_eq_true, *]; done) | (simp only [true_and, reduceIte, Bool.false_eq_true, *] <;> rfl) | (simp [true_and]; done) | (simp_all [true_and]; done) | omega))
  · have hs' : ¬ (s.size : Int) ≤ 64 := by omega
    refine fn_pure Tryz.F40 (Nat.le_of_ble_eq_true rfl) ?_; unfold Tryz.ac40
    repeat' (first
    | (apply Awp.sreg; (case hn => (simp only [List.length_cons, List.length_nil, Nat.reduceAdd] <;> rfl)))
    | (refine st_nil ?_)
    | (apply st_a; (case hc => rfl); (case he => (simp only [go_sem, *] <;> rfl)); (case hu => (simp only [updL_nil, updL_cons] <;> rfl)); (case hp => first | trivial))
    | (apply st_m; (case hc => rfl); (case hg => (simp only [go_sem, *] <;> rfl)); (case he => (intro hQz; (try simp only [wantB_t, wantB_f, Bool.and_eq_true, Bool.not_eq_true', Bool.not_true, Bool.not_false, and_true, true_and] at hQz); simp only [go_sem, *] <;> rfl)); (case hp => (intro hQz; (try simp only [wantB_t, wantB_f, Bool.and_eq_true, Bool.not_eq_true', Bool.or_eq_false_iff, decide_eq_true_eq, decide_eq_false_iff_not, beq_iff_eq, beq_eq_false_iff_ne, bne_iff_ne, bne_eq_false_iff_eq, Int.not_lt, Int.not_le, Int.ofNat_lt, Int.ofNat_le] at hQz); first | trivial)))
    | (apply st_g; (case hv => (simp only [go_sem, *] <;> rfl)); all_goals (intro hg; (try simp only [Bool.not_true, Bool.not_false, reduceCtorEq] at hg); (try have hg' := hg); (try simp only [decide_eq_true_eq, decide_eq_false_iff_not, Bool.and_eq_true, Bool.or_eq_false_iff, bne_iff_ne, bne_eq_false_iff_eq, beq_iff_eq, beq_eq_false_iff_ne, Int.not_lt, Int.not_le, Int.ofNat_lt, Int.ofNat_le, Int.natCast_inj] at hg')))
    | (refine Awp.ret ?_; try simp only [go_sem, *]))
    all_goals repeat' (first | exact Lower.bool (by first | rfl | (simp only [true_and, Bool.true_and, Bool.false_and, Bool.and_true, Bool.and_false, Bool.true_or, Bool.false_or, reduceIte, Bool.false_eq_true, *]; done) | (simp only [true_and, reduceIte, Bool.false_eq_true, *] <;> rfl) | (simp [true_and]; done) | (simp_all [true_and]; done) | omega))
end Go.Proofs
end
section
set_option linter.unusedVariables false
set_option linter.unusedSimpArgs false
namespace Go.Proofs
open Go Go.Ab Go.RowKit
set_option maxHeartbeats 1000000
set_option maxRecDepth 100000
set_option linter.unusedSimpArgs false
set_option linter.unusedVariables false
def sortI (l : List Int) : List Int := l.mergeSort fun x y => decide (x ≤ y)
theorem sortI_len (l : List Int) : (sortI l).length = l.length := List.length_mergeSort _
theorem fits_ints {st : Nat → Prop} {w : World} {l : List Int} {e : TypeId} {c : Value} {xs : List Value} (h : RowFits st w (ints l) 1 e c xs) : xs = l.map (Value.int .i64) := by
  have hlen : xs.length = l.length := by rw [h.row.len, ints_len]; omega
  apply List.ext_getElem (by simpa using hlen)
  intro i h1 h2
  have hi : i < (ints l).length := by rw [ints_len]; omega
  have h3 := h.cell i 0 hi (by omega)
  rw [ints_at l i (by omega)] at h3
  simp only [av_zero, Nat.mul_one, Nat.add_zero, cv, List.getD_eq_getElem?_getD, List.getElem?_eq_getElem h1, Option.getD_some] at h3
  generalize xs[i] = q at h3 ⊢
  cases h3
  have : i < l.length := by omega
  simp [this]
theorem ints_fits {st : Nat → Prop} {w : World} {l : List Int} {e : TypeId} {c : Value} (h : RowRep w e 1 c l.length (l.map (Value.int .i64))) : RowFits st w (ints l) 1 e c (l.map (Value.int .i64)) := by
  refine ⟨by simp [ints], by omega, by rw [ints_len]; exact h, by simp [Value.oneCell'], fun i j hi hj => ?_⟩
  rw [ints_len] at hi
  obtain rfl : j = 0 := by omega
  rw [ints_at l i hi]
  have e1 : cv (l.map (Value.int .i64)) (i * 1 + 0) = .int .i64 (l.getD i 0) := by
    simp [cv, List.getD_eq_getElem?_getD, hi]
  rw [e1]
  exact .v _
theorem sort_cc (l : List Int) (b nm : Nat) (e : TypeId) (hl : l.length < 1000000) : CallC Tryz.prog 33 [.own b] [(b, .row (ints l) 1 e)] nm (.tup []) [(b, some (.row (ints (sortI l)) 1 e))] := by
  refine ⟨⟨_, Tryz.func33, by kernel_rfl, by kernel_rfl⟩, fun prov β w cs hn hb hi hv => ?_⟩
  have hlk : ∀ n, updL (listH [(b, Blk.row (ints l) 1 e)]) [(b, some (Blk.row (ints (sortI l)) 1 e))] n = if n = b then some (.row (ints (sortI l)) 1 e) else none := by
    intro n; simp only [updL, upd, listH]; split <;> simp
  have hB := hb b (.row (ints l) 1 e) (by simp [listH])
  obtain ⟨xs, hf⟩ := hB
  obtain rfl := fits_ints hf
  obtain ⟨hlen, hv⟩ := hv
  match cs, hlen with
  | [c], _ =>
  have h1 := hv 0 (by simp)
  simp only [av_zero, cv, List.getD_cons_zero] at h1
  obtain ⟨rfl, _⟩ := h1.own_inv
  have tail : ∀ w', Value.tuple #[] = Value.tuple #[] → w.grownBy w' (blkOf (β b)) → RowRep w' e 1 (β b) (sortI l).length ((sortI l).map (Value.int .i64)) →
      ∃ c β', Ending.returned (Value.tuple #[]) = .returned c ∧ w'.os = w.os ∧ w'.tape = w.tape ∧ w'.output = w.output ∧ w.heap.size ≤ w'.heap.size ∧ Grows β β' ∧ (∀ n, n ≠ nm → β' n = β n) ∧
      (∀ g, g < w.heap.size → (∀ n b', listH [(b, Blk.row (ints l) 1 e)] n = some b' → n ∈ [(b, some (Blk.row (ints (sortI l)) 1 e))].map (·.1) → blkOf (β n) ≠ some g) → w'.heap[g]? = w.heap[g]?) ∧
      SimV (stb (fun g => prov g ∨ w.heap.size ≤ g) w' β' (updL (listH [(b, Blk.row (ints l) 1 e)]) [(b, some (Blk.row (ints (sortI l)) 1 e))])) β' w' (.tup []) c ∧
      (∀ n b', updL (listH [(b, Blk.row (ints l) 1 e)]) [(b, some (Blk.row (ints (sortI l)) 1 e))] n = some b' → n ∈ [(b, some (Blk.row (ints (sortI l)) 1 e))].map (·.1) → BlkRep (stb (fun g => prov g ∨ w.heap.size ≤ g) w' β' (updL (listH [(b, Blk.row (ints l) 1 e)]) [(b, some (Blk.row (ints (sortI l)) 1 e))])) β' w' b' (β' n) ∧
        ∀ g, blkOf (β' n) = some g → w.heap.size ≤ g ∨ ∃ m b', listH [(b, Blk.row (ints l) 1 e)] m = some b' ∧ m ∈ [(b, some (Blk.row (ints (sortI l)) 1 e))].map (·.1) ∧ blkOf (β m) = some g) ∧
      Inj β' (updL (listH [(b, Blk.row (ints l) 1 e)]) [(b, some (Blk.row (ints (sortI l)) 1 e))]) := by
    intro w' _ hg hr
    refine ⟨_, β, rfl, hg.os, hg.tape, hg.output, hg.size, Grows.refl _, fun _ _ => rfl, fun g hgl hno => ?_, .pure (.tup [] [] rfl (fun j hj => by simp at hj)), fun n b' hb' _ => ?_, ?_⟩
    · exact hg.block g hgl (fun e' => hno b (.row (ints l) 1 e) (by simp [listH]) (by simp) e'.symm)
    · rw [hlk] at hb'
      split at hb'
      · rename_i hnb; subst hnb
        simp at hb'; subst hb'
        exact ⟨⟨_, ints_fits hr⟩, fun g hgb => .inr ⟨n, .row (ints l) 1 e, by simp [listH], by simp, hgb⟩⟩
      · cases hb'
    · intro n m b1 b2 g h1 h2 _ _
      rw [hlk] at h1 h2
      split at h1
      · split at h2
        · simp_all
        · cases h2
      · cases h1
  rcases hf.row with ⟨a, hc, h0, hx⟩ | ⟨g, cap, hc, h0, hrow⟩
  · have hnil : l = [] := by rw [ints_len] at h0; exact List.eq_nil_of_length_eq_zero h0
    subst hnil
    rw [hc]
    refine (Tryz.slices_Sort_int_none a 0 w).mono fun e' w' ⟨he, hw⟩ => ?_
    subst he; subst hw
    have := tail w' rfl ⟨rfl, rfl, rfl, Nat.le_refl _, fun _ _ _ => rfl⟩ (.inl ⟨a, hc, by simp [sortI], by simp [sortI]⟩)
    exact this
  · rcases hrow.2 with ⟨h', _⟩ | ⟨g', cap', cur, h', _, hg, hn1, hn2, hn3, hn4⟩
    · rw [hc] at h'; cases h'
    · rw [hc] at h'
      simp only [Value.slice.injEq, Option.some.injEq, Addr.mk.injEq, and_true, true_and] at h'
      obtain ⟨rfl, rfl⟩ := h'
      rw [ints_len] at hn1 hn4 hc
      rw [Nat.mul_one] at hn4
      rw [hc]
      have hlt : g < w.heap.size := (Array.getElem?_eq_some_iff.1 hg).1
      refine (Tryz.slices_Sort_int g 0 cap l w (holds_of_blockI hg hn4) hlt (by omega)).mono fun e' w' ⟨he, n, os, hw⟩ => ?_
      subst he; subst hw
      refine tail _ rfl ?_ ?_
      · have : blkOf (β b) = some g := by rw [hc]; simp [blkOf]; omega
        rw [this]
        exact grownBy_sortedI _
      · refine .inr ⟨g, cap, by rw [hc, sortI_len], h0, ?_⟩
        have := ownsRow_sortedI (w := w) (base := 0) (g := g) (cap := cap) (n := n) (e := e) (os := os) (cur := cur) (ss := l) (ts := sortI l) (sortI_len l) (Nat.zero_le _) hg hn1 hn2 hn3
        rw [hc, sortI_len]
        exact this
end Go.Proofs
end
section
set_option linter.unusedVariables false
set_option linter.unusedSimpArgs false
namespace Go.Proofs
open Go Go.Ab Go.RowKit
set_option maxHeartbeats 1000000
theorem compact_len (l : List Int) : (Lib.compact l).length ≤ l.length := by
  unfold Lib.compact Lib.compactUpTo
  rw [List.length_map]
  exact Nat.le_trans (List.length_filter_le _ _) (by simp)
theorem compact_cc (l : List Int) (b nm : Nat) (e : TypeId) (hnb : nm ≠ b) (hl : l.length < 1000000) : CallC Tryz.prog 34 [.own b] [(b, .row (ints l) 1 e)] nm (.own nm) [(b, none), (nm, some (.row (ints (Lib.compact l)) 1 e))] := by
  refine ⟨⟨_, Tryz.func34, by kernel_rfl, by kernel_rfl⟩, fun prov β w cs hn hb hi hv => ?_⟩
  have hlk : ∀ n, updL (listH [(b, Blk.row (ints l) 1 e)]) [(b, none), (nm, some (Blk.row (ints (Lib.compact l)) 1 e))] n = if n = nm then some (.row (ints (Lib.compact l)) 1 e) else none := by
    intro n; simp only [updL, upd, listH]; split
    · rfl
    · split <;> rfl
  have hB := hb b (.row (ints l) 1 e) (by simp [listH])
  obtain ⟨xs, hf⟩ := hB
  obtain rfl := fits_ints hf
  obtain ⟨hlen, hv⟩ := hv
  match cs, hlen with
  | [c], _ =>
  have h1 := hv 0 (by simp)
  simp only [av_zero, cv, List.getD_cons_zero] at h1
  obtain ⟨rfl, _⟩ := h1.own_inv
  have hgr : ∀ c', Grows β (upd β nm c') := fun c' k hk => by
    unfold upd; split
    · rename_i h; subst h; exact absurd hn hk
    · rfl
  have tail : ∀ w' c', (∃ a n cap, c' = .slice a n cap) → w.grownBy w' (blkOf (β b)) → RowRep w' e 1 c' (Lib.compact l).length ((Lib.compact l).map (Value.int .i64)) → (∀ g, blkOf c' = some g → blkOf (β b) = some g) →
      ∃ c β', Ending.returned c' = .returned c ∧ w'.os = w.os ∧ w'.tape = w.tape ∧ w'.output = w.output ∧ w.heap.size ≤ w'.heap.size ∧ Grows β β' ∧ (∀ n, n ≠ nm → β' n = β n) ∧
      (∀ g, g < w.heap.size → (∀ n b', listH [(b, Blk.row (ints l) 1 e)] n = some b' → n ∈ [(b, none), (nm, some (Blk.row (ints (Lib.compact l)) 1 e))].map (·.1) → blkOf (β n) ≠ some g) → w'.heap[g]? = w.heap[g]?) ∧
      SimV (stb (fun g => prov g ∨ w.heap.size ≤ g) w' β' (updL (listH [(b, Blk.row (ints l) 1 e)]) [(b, none), (nm, some (Blk.row (ints (Lib.compact l)) 1 e))])) β' w' (.own nm) c ∧
      (∀ n b', updL (listH [(b, Blk.row (ints l) 1 e)]) [(b, none), (nm, some (Blk.row (ints (Lib.compact l)) 1 e))] n = some b' → n ∈ [(b, none), (nm, some (Blk.row (ints (Lib.compact l)) 1 e))].map (·.1) → BlkRep (stb (fun g => prov g ∨ w.heap.size ≤ g) w' β' (updL (listH [(b, Blk.row (ints l) 1 e)]) [(b, none), (nm, some (Blk.row (ints (Lib.compact l)) 1 e))])) β' w' b' (β' n) ∧
        ∀ g, blkOf (β' n) = some g → w.heap.size ≤ g ∨ ∃ m b', listH [(b, Blk.row (ints l) 1 e)] m = some b' ∧ m ∈ [(b, none), (nm, some (Blk.row (ints (Lib.compact l)) 1 e))].map (·.1) ∧ blkOf (β m) = some g) ∧
      Inj β' (updL (listH [(b, Blk.row (ints l) 1 e)]) [(b, none), (nm, some (Blk.row (ints (Lib.compact l)) 1 e))]) := by
    intro w' c' ⟨a, n0, cap, hc'⟩ hg hr hbk
    refine ⟨_, upd β nm c', rfl, hg.os, hg.tape, hg.output, hg.size, hgr c', fun n hne => by simp [upd, hne], fun g hgl hno => ?_, ?_, fun n b' hb' _ => ?_, ?_⟩
    · exact hg.block g hgl (fun e' => hno b (.row (ints l) 1 e) (by simp [listH]) (by simp) e'.symm)
    · subst hc'; exact .own nm (by simp [upd])
    · rw [hlk] at hb'
      split at hb'
      · rename_i hnn; subst hnn
        simp at hb'; subst hb'
        have hu : upd β n c' n = c' := by simp [upd]
        rw [hu]
        exact ⟨⟨_, ints_fits hr⟩, fun g hgb => .inr ⟨b, .row (ints l) 1 e, by simp [listH], by simp, hbk g hgb⟩⟩
      · cases hb'
    · intro n m b1 b2 g h1 h2 _ _
      rw [hlk] at h1 h2
      split at h1
      · split at h2
        · simp_all
        · cases h2
      · cases h1
  rcases hf.row with ⟨a, hc, h0, hx⟩ | ⟨g, cap, hc, h0, hrow⟩
  · have hnil : l = [] := by rw [ints_len] at h0; exact List.eq_nil_of_length_eq_zero h0
    subst hnil
    rw [hc]
    refine (Tryz.slices_Compact_int_empty a 0 w).mono fun e' w' ⟨he, hw⟩ => ?_
    subst he; subst hw
    exact tail w' _ ⟨_, _, _, rfl⟩ ⟨rfl, rfl, rfl, Nat.le_refl _, fun _ _ _ => rfl⟩ (.inl ⟨a, rfl, rfl, rfl⟩) (fun g hg => by rw [hc]; exact hg)
  · rcases hrow.2 with ⟨h', _⟩ | ⟨g', cap', cur, h', _, hg, hn1, hn2, hn3, hn4⟩
    · rw [hc] at h'; cases h'
    · rw [hc] at h'
      simp only [Value.slice.injEq, Option.some.injEq, Addr.mk.injEq, and_true, true_and] at h'
      obtain ⟨rfl, rfl⟩ := h'
      rw [ints_len] at hn1 hn4 hc
      rw [Nat.mul_one] at hn4
      rw [hc]
      have hcl : (Lib.compact l).length ≤ l.length := compact_len l
      refine (Tryz.slices_Compact_int g 0 cap l w (holds_of_blockI hg hn4) (by omega) hn1).mono fun e' w' ⟨he, q, hw⟩ => ?_
      subst he
      have hw2 : w' = Sort.grow (Sort.putRow (Value.int .i64) (Sort.ahead w q) g 0 (Lib.compact l ++ List.replicate (l.length - (Lib.compact l).length) 0).toArray) #[] := by rw [hw, Sort.grow_empty]
      subst hw2
      have hbk : blkOf (β b) = some g := by rw [hc]; simp [blkOf]; omega
      refine tail _ _ ⟨_, _, _, rfl⟩ (by rw [hbk]; exact grownBy_sortedI _) (.inr ⟨g, cap, rfl, h0, by simp, .inr ⟨g, cap, _, rfl, Nat.zero_le _, heap_sortedI _ hg, by omega, hn2, by simp [Sort.putCells, hn3], ?_⟩⟩) (fun g' hg' => ?_)
      · rw [Nat.mul_one]
        have ht := take_putCellsI cur (Lib.compact l ++ List.replicate (l.length - (Lib.compact l).length) 0) (by simp; omega)
        have ht2 := congrArg (List.take (Lib.compact l).length) ht
        rw [List.take_take, Nat.min_eq_left (by simp)] at ht2
        rw [ht2, List.map_append]
        exact List.take_left' (by simp)
      · rw [hbk]
        simp only [blkOf] at hg'
        split at hg'
        · cases hg'
        · exact hg'
end Go.Proofs
end
section
set_option linter.unusedVariables false
set_option linter.unusedSimpArgs false
namespace Go.Proofs
open Go Go.Ab
set_option maxHeartbeats 4000000
set_option maxRecDepth 100000
set_option linter.unusedSimpArgs false
set_option linter.unusedVariables false
attribute [local irreducible] Awp aops aopsL Go.Ab.Pure PureOwn
@[go_sem] theorem Tryz.co53 : Tryz.prog.cellsOf 53 = 3 := by kernel_rfl
@[go_sem] theorem Tryz.ag53 : isAggB Tryz.prog 53 = true := by kernel_rfl
@[go_sem] theorem Tryz.co78 : Tryz.prog.cellsOf 78 = 8 := by kernel_rfl
@[go_sem] theorem Tryz.ag78 : isAggB Tryz.prog 78 = true := by kernel_rfl
@[go_sem] theorem Tryz.co43 : Tryz.prog.cellsOf 43 = 8 := by kernel_rfl
@[go_sem] theorem Tryz.ag43 : isAggB Tryz.prog 43 = true := by kernel_rfl
structure By where
  nm : ByteArray
  len : Int
  wid : Int
structure Sty where
  item : ByteArray
  bay : ByteArray
  x : Int
  y : Int
  len : Int
  wid : Int
  a : Int
  b : Int
def By.cells (q : By) : List AV := [.v (.string q.nm), .v (.int .i64 q.len), .v (.int .i64 q.wid)]
def By.av (q : By) : AV := .agg q.cells
def Sty.cells (q : Sty) : List AV := [.v (.string q.item), .v (.string q.bay), .v (.int .i64 q.x), .v (.int .i64 q.y), .v (.int .i64 q.len), .v (.int .i64 q.wid), .v (.int .i64 q.a), .v (.int .i64 q.b)]
def Sty.av (q : Sty) : AV := .agg q.cells
attribute [go_sem] By.cells By.av Sty.cells Sty.av
def bys (l : List By) : List (List AV) := l.map By.cells
def stys (l : List Sty) : List (List AV) := l.map Sty.cells
@[go_sem] theorem bys_len (l : List By) : (bys l).length = l.length := by simp [bys]
@[go_sem] theorem stys_len (l : List Sty) : (stys l).length = l.length := by simp [stys]
def zeroBy : By := ⟨⟨#[]⟩, 0, 0⟩
def zeroSty : Sty := ⟨⟨#[]⟩, ⟨#[]⟩, 0, 0, 0, 0, 0, 0⟩
theorem bys_at (l : List By) (i : Nat) (h : i < l.length) : (bys l).getD i [] = (l.getD i zeroBy).cells := by
  simp [bys, List.getD_eq_getElem?_getD, h]
theorem stys_at (l : List Sty) (i : Nat) (h : i < l.length) : (stys l).getD i [] = (l.getD i zeroSty).cells := by
  simp [stys, List.getD_eq_getElem?_getD, h]
theorem stys_one (l : List Sty) : ∀ y ∈ stys l, y.length = 8 := by
  simp [stys, Sty.cells]
theorem bys_one (l : List By) : ∀ y ∈ bys l, y.length = 3 := by
  simp [bys, By.cells]
def idxF {α : Type} (p : α → Bool) (l : List α) : Int := if l.findIdx p < l.length then (l.findIdx p : Int) else -1
theorem idxF_in {α : Type} {p : α → Bool} {l : List α} {d : α} {i : Nat} (h : i < l.length) (hp : p (l.getD i d) = true) (hj : ∀ j, j < i → p (l.getD j d) = false) : idxF p l = i := by
  have e : l.findIdx p = i := by
    rw [List.findIdx_eq h]
    refine ⟨by simpa [List.getD_eq_getElem?_getD, h] using hp, fun j hji => ?_⟩
    have := hj j hji
    have hjl : j < l.length := by omega
    simpa [List.getD_eq_getElem?_getD, hjl] using this
  unfold idxF
  rw [e, if_pos h]
theorem idxF_out {α : Type} {p : α → Bool} {l : List α} {d : α} {i : Nat} (h : l.length ≤ i) (hj : ∀ j, j < i → p (l.getD j d) = false) : idxF p l = -1 := by
  have e : l.findIdx p = l.length := by
    rw [List.findIdx_eq_length]
    intro x hx
    obtain ⟨j, hjl, rfl⟩ := List.getElem_of_mem hx
    have := hj j (by omega)
    simpa [List.getD_eq_getElem?_getD, hjl] using this
  unfold idxF
  rw [e, if_neg (by omega)]
def sideB (n : Int) : Bool := decide (1 ≤ n) && decide (n ≤ 524288)
theorem side_ok (n : Int) : Pure Tryz.prog 50 [.v (.int .i64 n)] (.v (.bool (sideB n))) := by
  refine fn_pure Tryz.F50 (Nat.le_of_ble_eq_true rfl) ?_; unfold Tryz.ac50
  repeat' (first
    | (apply Awp.sreg; (case hn => (simp only [List.length_cons, List.length_nil, Nat.reduceAdd] <;> rfl)))
    | (refine st_nil ?_)
    | (apply st_a; (case hc => rfl); (case he => (simp only [go_sem, *] <;> rfl)); (case hu => (simp only [updL_nil, updL_cons] <;> rfl)); (case hp => first | trivial))
    | (apply st_m; (case hc => rfl); (case hg => (simp only [go_sem, *] <;> rfl)); (case he => (intro hQz; (try simp only [wantB_t, wantB_f, Bool.and_eq_true, Bool.not_eq_true', Bool.not_true, Bool.not_false, and_true, true_and] at hQz); simp only [go_sem, *] <;> rfl)); (case hp => (intro hQz; (try simp only [wantB_t, wantB_f, Bool.and_eq_true, Bool.not_eq_true', Bool.or_eq_false_iff, decide_eq_true_eq, decide_eq_false_iff_not, beq_iff_eq, beq_eq_false_iff_ne, bne_iff_ne, bne_eq_false_iff_eq, Int.not_lt, Int.not_le, Int.ofNat_lt, Int.ofNat_le] at hQz); first | trivial)))
    | (refine Awp.ret ?_; try simp only [go_sem, *]))
  all_goals repeat' (first | exact Lower.bool (by first | rfl | (simp only [sideB, Bool.true_and, Bool.false_and, Bool.and_true, Bool.and_false, Bool.true_or, Bool.false_or, reduceIte, Bool.false_eq_true, *]; done) | (simp only [sideB, reduceIte, Bool.false_eq_true, *] <;> rfl) | (simp [sideB]; done) | (simp_all [sideB]; done) | omega))
def cutB (a la b lb : Int) : Bool := decide (a < IntKind.i64.wrap (b + lb)) && decide (b < IntKind.i64.wrap (a + la))
theorem cut_ok (a la b lb : Int) : Pure Tryz.prog 93 [.v (.int .i64 a), .v (.int .i64 la), .v (.int .i64 b), .v (.int .i64 lb)] (.v (.bool (cutB a la b lb))) := by
  refine fn_pure Tryz.F93 (Nat.le_of_ble_eq_true rfl) ?_; unfold Tryz.ac93
  repeat' (first
    | (apply Awp.sreg; (case hn => (simp only [List.length_cons, List.length_nil, Nat.reduceAdd] <;> rfl)))
    | (refine st_nil ?_)
    | (apply st_a; (case hc => rfl); (case he => (simp only [go_sem, *] <;> rfl)); (case hu => (simp only [updL_nil, updL_cons] <;> rfl)); (case hp => first | trivial))
    | (apply st_m; (case hc => rfl); (case hg => (simp only [go_sem, *] <;> rfl)); (case he => (intro hQz; (try simp only [wantB_t, wantB_f, Bool.and_eq_true, Bool.not_eq_true', Bool.not_true, Bool.not_false, and_true, true_and] at hQz); simp only [go_sem, *] <;> rfl)); (case hp => (intro hQz; (try simp only [wantB_t, wantB_f, Bool.and_eq_true, Bool.not_eq_true', Bool.or_eq_false_iff, decide_eq_true_eq, decide_eq_false_iff_not, beq_iff_eq, beq_eq_false_iff_ne, bne_iff_ne, bne_eq_false_iff_eq, Int.not_lt, Int.not_le, Int.ofNat_lt, Int.ofNat_le] at hQz); first | trivial)))
    | (refine Awp.ret ?_; try simp only [go_sem, *]))
  all_goals repeat' (first | exact Lower.bool (by first | rfl | (simp only [cutB, Bool.true_and, Bool.false_and, Bool.and_true, Bool.and_false, Bool.true_or, Bool.false_or, reduceIte, Bool.false_eq_true, *]; done) | (simp only [cutB, reduceIte, Bool.false_eq_true, *] <;> rfl) | (simp [cutB]; done) | (simp_all [cutB]; done) | omega))
def overB (p q : Sty) : Bool := (p.bay.toList == q.bay.toList) && decide (p.a < q.b) && decide (q.a < p.b) && cutB p.x p.len q.x q.len && cutB p.y p.wid q.y q.wid
theorem over_ok (p q : Sty) : Pure Tryz.prog 71 [p.av, q.av] (.v (.bool (overB p q))) := by
  refine fn_pure Tryz.F71 (Nat.le_of_ble_eq_true rfl) ?_; unfold Tryz.ac71
  repeat' (first
    | (apply Awp.sreg; (case hn => (simp only [List.length_cons, List.length_nil, Nat.reduceAdd] <;> rfl)))
    | (refine st_nil ?_)
    | (apply st_a; (case hc => rfl); (case he => (simp only [go_sem, *] <;> rfl)); (case hu => (simp only [updL_nil, updL_cons] <;> rfl)); (case hp => first | trivial))
    | (apply st_m; (case hc => rfl); (case hg => (simp only [go_sem, *] <;> rfl)); (case he => (intro hQz; (try simp only [wantB_t, wantB_f, Bool.and_eq_true, Bool.not_eq_true', Bool.not_true, Bool.not_false, and_true, true_and] at hQz); simp only [go_sem, *] <;> rfl)); (case hp => (intro hQz; (try simp only [wantB_t, wantB_f, Bool.and_eq_true, Bool.not_eq_true', Bool.or_eq_false_iff, decide_eq_true_eq, decide_eq_false_iff_not, beq_iff_eq, beq_eq_false_iff_ne, bne_iff_ne, bne_eq_false_iff_eq, Int.not_lt, Int.not_le, Int.ofNat_lt, Int.ofNat_le] at hQz); first | trivial)))
    | (apply st_mc; (case hop => rfl); (case hg => (simp only [go_sem, *] <;> rfl)); (case hc => (intro hQz; (try simp only [wantB_t, wantB_f, Bool.and_eq_true, Bool.not_eq_true', Bool.not_true, Bool.not_false, and_true, true_and] at hQz); simp only [go_sem, *] <;> rfl)); (case hl => (intro hQz; (try simp only [wantB_t, wantB_f, Bool.and_eq_true, Bool.not_eq_true', Bool.not_true, Bool.not_false, and_true, true_and] at hQz); simp only [go_sem, *] <;> rfl)); (case hn => (intro hQz; (try simp only [wantB_t, wantB_f, Bool.and_eq_true, Bool.not_eq_true', Bool.not_true, Bool.not_false, and_true, true_and] at hQz); simp only [go_sem, *] <;> rfl)); (case hp => intro hQz; first | exact cut_ok _ _ _ _ | (have hXz := cut_ok _ _ _ _; simp only [go_sem, *] at hXz; exact hXz)))
    | (refine Awp.ret ?_; try simp only [go_sem, *]))
  all_goals repeat' (first | exact Lower.bool (by first | rfl | (simp only [overB, Bool.true_and, Bool.false_and, Bool.and_true, Bool.and_false, Bool.true_or, Bool.false_or, reduceIte, Bool.false_eq_true, *]; done) | (simp only [overB, reduceIte, Bool.false_eq_true, *] <;> rfl) | (simp [overB]; done) | (simp_all [overB]; done) | omega))
theorem nameEq_ok (nm : ByteArray) (q : By) : Pure Tryz.prog 68 [q.av, .rp [.v (.string nm)]] (.v (.bool (q.nm.toList == nm.toList))) := by
  refine fn_pure Tryz.F68 (Nat.le_of_ble_eq_true rfl) ?_; unfold Tryz.ac68
  repeat' (first
    | (apply Awp.sreg; (case hn => (simp only [List.length_cons, List.length_nil, Nat.reduceAdd] <;> rfl)))
    | (refine st_nil ?_)
    | (apply st_a; (case hc => rfl); (case he => (simp only [go_sem, *] <;> rfl)); (case hu => (simp only [updL_nil, updL_cons] <;> rfl)); (case hp => first | trivial))
    | (refine Awp.ret ?_; try simp only [go_sem, *]))
  all_goals repeat' (first | exact Lower.bool (by first | rfl | (simp only [true_and, Bool.true_and, Bool.false_and, Bool.and_true, Bool.and_false, Bool.true_or, Bool.false_or, reduceIte, Bool.false_eq_true, *]; done) | (simp only [true_and, reduceIte, Bool.false_eq_true, *] <;> rfl) | (simp [true_and]; done) | (simp_all [true_and]; done) | omega))
theorem overC_ok (p q : Sty) : Pure Tryz.prog 70 [q.av, .rp p.cells] (.v (.bool (overB p q))) := by
  refine fn_pure Tryz.F70 (Nat.le_of_ble_eq_true rfl) ?_; unfold Tryz.ac70
  repeat' (first
    | (apply Awp.sreg; (case hn => (simp only [List.length_cons, List.length_nil, Nat.reduceAdd] <;> rfl)))
    | (refine st_nil ?_)
    | (apply st_a; (case hc => rfl); (case he => (simp only [go_sem, *] <;> rfl)); (case hu => (simp only [updL_nil, updL_cons] <;> rfl)); (case hp => first | trivial))
    | (apply st_c; (case hc => (simp only [go_sem, *] <;> rfl)); (case hl => (simp only [go_sem, *] <;> rfl)); (case hn => (simp only [go_sem, *] <;> rfl)); (case hp => first | exact over_ok _ _ | (have hXz := over_ok _ _; simp only [go_sem, *] at hXz; exact hXz)))
    | (refine Awp.ret ?_; try simp only [go_sem, *]))
  all_goals repeat' (first | exact Lower.bool (by first | rfl | (simp only [true_and, Bool.true_and, Bool.false_and, Bool.and_true, Bool.and_false, Bool.true_or, Bool.false_or, reduceIte, Bool.false_eq_true, *]; done) | (simp only [true_and, reduceIte, Bool.false_eq_true, *] <;> rfl) | (simp [true_and]; done) | (simp_all [true_and]; done) | omega))
theorem indexB_ok (l : List By) (g : Nat) (cs : List AV) (p : By → Bool) (hl : l.length < 1000000) (hp : ∀ x : By, Pure Tryz.prog g [x.av, .rp cs] (.v (.bool (p x)))) :
    Pure Tryz.prog 67 [.sl (bys l), .fn g [.rp cs]] (.v (.int .i64 (idxF p l))) := by
  refine fn_pure Tryz.F67 (Nat.le_of_ble_eq_true rfl) ?_; unfold Tryz.ac67
  repeat' (first
    | (apply Awp.sreg; (case hn => (simp only [List.length_cons, List.length_nil, Nat.reduceAdd] <;> rfl)))
    | (refine st_nil ?_)
    | (apply st_a; (case hc => rfl); (case he => (simp only [go_sem, *] <;> rfl)); (case hu => (simp only [updL_nil, updL_cons] <;> rfl)); (case hp => first | trivial))
    | refine Awp.block ?_
    | refine Awp.seq ?_)
  refine Awp.loop (fun i : Nat => i ≤ l.length ∧ ∀ j, j < i → p (l.getD j zeroBy) = false) 40 (fun i => mkS [(0, .sl (bys l)), (1, .fn g [.rp cs]), (7, .v (.int .i64 l.length)), (8, .v (.int .i64 i))] []) (fun i => l.length - i) 0 (by simp) ?_ ?_
  · (apply Ghost.mk [] []; (case hdead => rfl); (case hinj => rfl); (case hV => (simp only [go_sem, *]) <;> (repeat' (first | refine And.intro ?_ ?_ | exact View.int (by first | rfl | omega | (simp; done) | (rw [wrap_i64] <;> (try simp only [Int.natCast_add]) <;> omega) | (simp [*]; done)) | (refine View.fnF ?_; (simp [AV.flat]; done))))); (case hB => (simp only [go_sem, *]) <;> (repeat' (first | skip; done))))
  · intro i ⟨hi, hj⟩
    by_cases hlt : i < l.length
    · have hlt' : (i : Int) < l.length := by omega
      have hat := bys_at l i hlt
      have hz : ((l.getD i zeroBy).cells).length = 3 := rfl
      have hpi := hp (l.getD i zeroBy)
      repeat' (first
    | (apply Awp.sreg; (case hn => (simp only [List.length_cons, List.length_nil, Nat.reduceAdd] <;> rfl)))
    | (refine st_nil ?_)
    | (apply st_a; (case hc => rfl); (case he => (simp only [go_sem, *] <;> rfl)); (case hu => (simp only [updL_nil, updL_cons] <;> rfl)); (case hp => first | trivial | omega))
    | (apply st_c; (case hc => (simp only [go_sem, *] <;> rfl)); (case hl => (simp only [go_sem, *] <;> rfl)); (case hn => (simp only [go_sem, *] <;> rfl)); (case hp => first | exact hpi | (have hXz := hpi; simp only [go_sem, *] at hXz; exact hXz)))
    | (apply Awp.reg; (case hn => (simp only [List.length_cons, List.length_nil, Nat.reduceAdd] <;> rfl)))
    | (refine Awp.ret ?_; try simp only [go_sem, *])
    | (refine Awp.skip ?_; try simp only [go_sem, *])
    | refine Awp.block ?_
    | (apply Awp.cond; (case hc => (simp only [go_sem, *] <;> rfl)); all_goals (intro hg; (try simp only [Bool.not_true, Bool.not_false, reduceCtorEq] at hg)))
    | refine Awp.seq ?_)
      · exact Lower.int (idxF_in hlt hg hj).symm
      · refine ⟨i + 1, ⟨by omega, ltSucc hj hg⟩, by omega, ?_⟩
        (apply Ghost.mk [] []; (case hdead => rfl); (case hinj => rfl); (case hV => (simp only [go_sem, *]) <;> (repeat' (first | refine And.intro ?_ ?_ | exact View.int (by first | rfl | omega | (simp; done) | (rw [wrap_i64] <;> (try simp only [Int.natCast_add]) <;> omega) | (simp [*]; done)) | (refine View.fnF ?_; (simp [AV.flat]; done))))); (case hB => (simp only [go_sem, *]) <;> (repeat' (first | skip; done))))
    · have hlt' : ¬ (i : Int) < l.length := by omega
      repeat' (first
    | (apply Awp.sreg; (case hn => (simp only [List.length_cons, List.length_nil, Nat.reduceAdd] <;> rfl)))
    | (refine st_nil ?_)
    | (apply st_a; (case hc => rfl); (case he => (simp only [go_sem, *] <;> rfl)); (case hu => (simp only [updL_nil, updL_cons] <;> rfl)); (case hp => first | trivial))
    | (refine Awp.ret ?_; try simp only [go_sem, *])
    | (refine Awp.exit ?_; try simp only [go_sem, *])
    | (apply Awp.cond; (case hc => (simp only [go_sem, *] <;> rfl)); all_goals (intro hg; (try simp only [Bool.not_true, Bool.not_false, reduceCtorEq] at hg); (try have hg' := hg); (try simp only [decide_eq_true_eq, decide_eq_false_iff_not, Bool.and_eq_true, Bool.or_eq_false_iff, bne_iff_ne, bne_eq_false_iff_eq, beq_iff_eq, beq_eq_false_iff_ne, Int.not_lt, Int.not_le, Int.ofNat_lt, Int.ofNat_le, Int.natCast_inj] at hg')))
    | refine Awp.seq ?_)
      exact Lower.int (idxF_out (Nat.le_of_not_lt hlt) hj).symm
theorem indexS_ok2 (l : List Sty) (g : Nat) (cs : List AV) (p : Sty → Bool) (hl : l.length < 1000000) (hp : ∀ x : Sty, Pure Tryz.prog g [x.av, .rp cs] (.v (.bool (p x)))) :
    Pure Tryz.prog 92 [.sl (stys l), .fn g [.rp cs]] (.v (.int .i64 (idxF p l))) := by
  refine fn_pure Tryz.F92 (Nat.le_of_ble_eq_true rfl) ?_; unfold Tryz.ac92
  repeat' (first
    | (apply Awp.sreg; (case hn => (simp only [List.length_cons, List.length_nil, Nat.reduceAdd] <;> rfl)))
    | (refine st_nil ?_)
    | (apply st_a; (case hc => rfl); (case he => (simp only [go_sem, *] <;> rfl)); (case hu => (simp only [updL_nil, updL_cons] <;> rfl)); (case hp => first | trivial))
    | refine Awp.block ?_
    | refine Awp.seq ?_)
  refine Awp.loop (fun i : Nat => i ≤ l.length ∧ ∀ j, j < i → p (l.getD j zeroSty) = false) 40 (fun i => mkS [(0, .sl (stys l)), (1, .fn g [.rp cs]), (7, .v (.int .i64 l.length)), (8, .v (.int .i64 i))] []) (fun i => l.length - i) 0 (by simp) ?_ ?_
  · (apply Ghost.mk [] []; (case hdead => rfl); (case hinj => rfl); (case hV => (simp only [go_sem, *]) <;> (repeat' (first | refine And.intro ?_ ?_ | exact View.int (by first | rfl | omega | (simp; done) | (rw [wrap_i64] <;> (try simp only [Int.natCast_add]) <;> omega) | (simp [*]; done)) | (refine View.fnF ?_; (simp [AV.flat]; done))))); (case hB => (simp only [go_sem, *]) <;> (repeat' (first | skip; done))))
  · intro i ⟨hi, hj⟩
    by_cases hlt : i < l.length
    · have hlt' : (i : Int) < l.length := by omega
      have hat := stys_at l i hlt
      have hz : ((l.getD i zeroSty).cells).length = 8 := rfl
      have hpi := hp (l.getD i zeroSty)
      repeat' (first
    | (apply Awp.sreg; (case hn => (simp only [List.length_cons, List.length_nil, Nat.reduceAdd] <;> rfl)))
    | (refine st_nil ?_)
    | (apply st_a; (case hc => rfl); (case he => (simp only [go_sem, *] <;> rfl)); (case hu => (simp only [updL_nil, updL_cons] <;> rfl)); (case hp => first | trivial | omega))
    | (apply st_c; (case hc => (simp only [go_sem, *] <;> rfl)); (case hl => (simp only [go_sem, *] <;> rfl)); (case hn => (simp only [go_sem, *] <;> rfl)); (case hp => first | exact hpi | (have hXz := hpi; simp only [go_sem, *] at hXz; exact hXz)))
    | (apply Awp.reg; (case hn => (simp only [List.length_cons, List.length_nil, Nat.reduceAdd] <;> rfl)))
    | (refine Awp.ret ?_; try simp only [go_sem, *])
    | (refine Awp.skip ?_; try simp only [go_sem, *])
    | refine Awp.block ?_
    | (apply Awp.cond; (case hc => (simp only [go_sem, *] <;> rfl)); all_goals (intro hg; (try simp only [Bool.not_true, Bool.not_false, reduceCtorEq] at hg)))
    | refine Awp.seq ?_)
      · exact Lower.int (idxF_in hlt hg hj).symm
      · refine ⟨i + 1, ⟨by omega, ltSucc hj hg⟩, by omega, ?_⟩
        (apply Ghost.mk [] []; (case hdead => rfl); (case hinj => rfl); (case hV => (simp only [go_sem, *]) <;> (repeat' (first | refine And.intro ?_ ?_ | exact View.int (by first | rfl | omega | (simp; done) | (rw [wrap_i64] <;> (try simp only [Int.natCast_add]) <;> omega) | (simp [*]; done)) | (refine View.fnF ?_; (simp [AV.flat]; done))))); (case hB => (simp only [go_sem, *]) <;> (repeat' (first | skip; done))))
    · have hlt' : ¬ (i : Int) < l.length := by omega
      repeat' (first
    | (apply Awp.sreg; (case hn => (simp only [List.length_cons, List.length_nil, Nat.reduceAdd] <;> rfl)))
    | (refine st_nil ?_)
    | (apply st_a; (case hc => rfl); (case he => (simp only [go_sem, *] <;> rfl)); (case hu => (simp only [updL_nil, updL_cons] <;> rfl)); (case hp => first | trivial))
    | (refine Awp.ret ?_; try simp only [go_sem, *])
    | (refine Awp.exit ?_; try simp only [go_sem, *])
    | (apply Awp.cond; (case hc => (simp only [go_sem, *] <;> rfl)); all_goals (intro hg; (try simp only [Bool.not_true, Bool.not_false, reduceCtorEq] at hg); (try have hg' := hg); (try simp only [decide_eq_true_eq, decide_eq_false_iff_not, Bool.and_eq_true, Bool.or_eq_false_iff, bne_iff_ne, bne_eq_false_iff_eq, beq_iff_eq, beq_eq_false_iff_ne, Int.not_lt, Int.not_le, Int.ofNat_lt, Int.ofNat_le, Int.natCast_inj] at hg')))
    | refine Awp.seq ?_)
      exact Lower.int (idxF_out (Nat.le_of_not_lt hlt) hj).symm
theorem idxF_any {α : Type} (p : α → Bool) (l : List α) : decide (0 ≤ idxF p l) = l.any p := by
  unfold idxF
  by_cases h : l.findIdx p < l.length
  · rw [if_pos h]
    have h2 := List.findIdx_getElem (w := h)
    have h3 : l.any p = true := List.any_eq_true.2 ⟨_, List.getElem_mem h, h2⟩
    rw [h3, decide_eq_true_eq]
    omega
  · rw [if_neg h]
    have h3 : l.any p = false := by
      rw [Bool.eq_false_iff]
      intro h4
      obtain ⟨x, hx, hpx⟩ := List.any_eq_true.1 h4
      exact h (List.findIdx_lt_length_of_exists ⟨x, hx, hpx⟩)
    rw [h3]; rfl
theorem containsS_ok (l : List Sty) (g : Nat) (cs : List AV) (p : Sty → Bool) (hl : l.length < 1000000) (hp : ∀ x : Sty, Pure Tryz.prog g [x.av, .rp cs] (.v (.bool (p x)))) :
    Pure Tryz.prog 69 [.sl (stys l), .fn g [.rp cs]] (.v (.bool (l.any p))) := by
  have h := indexS_ok2 l g cs p hl hp
  rw [← idxF_any]
  refine fn_pure Tryz.F69 (Nat.le_of_ble_eq_true rfl) ?_; unfold Tryz.ac69
  repeat' (first
    | (apply Awp.sreg; (case hn => (simp only [List.length_cons, List.length_nil, Nat.reduceAdd] <;> rfl)))
    | (refine st_nil ?_)
    | (apply st_a; (case hc => rfl); (case he => (simp only [go_sem, *] <;> rfl)); (case hu => (simp only [updL_nil, updL_cons] <;> rfl)); (case hp => first | trivial))
    | (apply st_c; (case hc => (simp only [go_sem, *] <;> rfl)); (case hl => (simp only [go_sem, *] <;> rfl)); (case hn => (simp only [go_sem, *] <;> rfl)); (case hp => first | exact h | (have hXz := h; simp only [go_sem, *] at hXz; exact hXz)))
    | (refine Awp.ret ?_; try simp only [go_sem, *]))
  all_goals repeat' (first | exact Lower.bool (by first | rfl | (simp only [true_and, Bool.true_and, Bool.false_and, Bool.and_true, Bool.and_false, Bool.true_or, Bool.false_or, reduceIte, Bool.false_eq_true, *]; done) | (simp only [true_and, reduceIte, Bool.false_eq_true, *] <;> rfl) | (simp [true_and]; done) | (simp_all [true_and]; done) | omega))
def findB (l : List By) (nm : ByteArray) : By × Bool := if decide (idxF (fun q : By => q.nm.toList == nm.toList) l < 0) then (zeroBy, false) else (l.getD (idxF (fun q : By => q.nm.toList == nm.toList) l).toNat zeroBy, true)
theorem find_ok (l : List By) (nm : ByteArray) (hl : l.length < 1000000) : Pure Tryz.prog 51 [.sl (bys l), .v (.string nm)] (.tup [(findB l nm).1.av, .v (.bool (findB l nm).2)]) := by
  have h := indexB_ok l 68 [.v (.string nm)] (fun q : By => q.nm.toList == nm.toList) hl (nameEq_ok nm)
  unfold findB
  generalize hI : idxF (fun q : By => q.nm.toList == nm.toList) l = I at *
  by_cases h0 : I < 0
  · refine fn_pure Tryz.F51 (Nat.le_of_ble_eq_true rfl) ?_; unfold Tryz.ac51
    repeat' (first
    | (apply Awp.sreg; (case hn => (simp only [List.length_cons, List.length_nil, Nat.reduceAdd] <;> rfl)))
    | (refine st_nil ?_)
    | (apply st_a; (case hc => rfl); (case he => (simp only [go_sem, *] <;> rfl)); (case hu => (simp only [updL_nil, updL_cons] <;> rfl)); (case hp => first | trivial))
    | (apply st_cd; (case hc => (simp only [go_sem, *] <;> rfl)); (case hl => (simp only [go_sem, *] <;> rfl)); (case hn => (simp only [go_sem, *] <;> rfl)); (case hp => first | exact h | (have hXz := h; simp only [go_sem, *] at hXz; exact hXz)); (case hd => first | exact .v _ | exact .any | exact .nils | (repeat' (first | exact Dry.v _ | exact Dry.any | exact Dry.nils | exact Dry.slE | refine Dry.agg ?_ | refine Dry.tup ?_ | (refine List.forall_mem_cons.2 (And.intro ?_ ?_)) | (intro cQ hQ; cases hQ; done)))); (case hm => first | decide | (simp; done)))
    | (refine Awp.ret ?_; try simp only [go_sem, *])
    | (apply Awp.cond; (case hc => (simp only [go_sem, *] <;> rfl)); all_goals (intro hg; (try simp only [Bool.not_true, Bool.not_false, reduceCtorEq] at hg); (try have hg' := hg); (try simp only [decide_eq_true_eq, decide_eq_false_iff_not, Bool.and_eq_true, Bool.or_eq_false_iff, bne_iff_ne, bne_eq_false_iff_eq, beq_iff_eq, beq_eq_false_iff_ne, Int.not_lt, Int.not_le, Int.ofNat_lt, Int.ofNat_le, Int.natCast_inj] at hg')))
    | refine Awp.seq ?_)
    all_goals repeat' (first | exact Lower.bool (by first | rfl | (simp only [zeroBy, Bool.true_and, Bool.false_and, Bool.and_true, Bool.and_false, Bool.true_or, Bool.false_or, reduceIte, Bool.false_eq_true, *]; done) | (simp only [zeroBy, reduceIte, Bool.false_eq_true, *] <;> rfl) | (simp [zeroBy]; done) | (simp_all [zeroBy]; done) | omega) | exact Lower.int (by first | rfl | (simp only [zeroBy, Bool.true_and, Bool.false_and, Bool.and_true, Bool.and_false, Bool.true_or, Bool.false_or, reduceIte, Bool.false_eq_true, *]; done) | (simp only [zeroBy, reduceIte, Bool.false_eq_true, *] <;> rfl) | (simp [zeroBy]; done) | (simp_all [zeroBy]; done) | omega) | exact Lower.str (by first | rfl | (simp only [zeroBy, Bool.true_and, Bool.false_and, Bool.and_true, Bool.and_false, Bool.true_or, Bool.false_or, reduceIte, Bool.false_eq_true, *]; done) | (simp only [zeroBy, reduceIte, Bool.false_eq_true, *] <;> rfl) | (simp [zeroBy]; done) | (simp_all [zeroBy]; done) | omega) | refine Lower.aggF ?_ | refine Lower.tupF ?_ | refine All2.cons ?_ ?_ | exact All2.nil)
  · have hlt : I.toNat < l.length := by
      unfold idxF at hI
      split at hI <;> omega
    have hat := bys_at l I.toNat hlt
    have hz : ((l.getD I.toNat zeroBy).cells).length = 3 := rfl
    have hlt' : I < l.length := by omega
    refine fn_pure Tryz.F51 (Nat.le_of_ble_eq_true rfl) ?_; unfold Tryz.ac51
    repeat' (first
    | (apply Awp.sreg; (case hn => (simp only [List.length_cons, List.length_nil, Nat.reduceAdd] <;> rfl)))
    | (refine st_nil ?_)
    | (apply st_a; (case hc => rfl); (case he => (simp only [go_sem, *] <;> rfl)); (case hu => (simp only [updL_nil, updL_cons] <;> rfl)); (case hp => first | trivial | omega))
    | (apply st_cd; (case hc => (simp only [go_sem, *] <;> rfl)); (case hl => (simp only [go_sem, *] <;> rfl)); (case hn => (simp only [go_sem, *] <;> rfl)); (case hp => first | exact h | (have hXz := h; simp only [go_sem, *] at hXz; exact hXz)); (case hd => first | exact .v _ | exact .any | exact .nils | (repeat' (first | exact Dry.v _ | exact Dry.any | exact Dry.nils | exact Dry.slE | refine Dry.agg ?_ | refine Dry.tup ?_ | (refine List.forall_mem_cons.2 (And.intro ?_ ?_)) | (intro cQ hQ; cases hQ; done)))); (case hm => first | decide | (simp; done)))
    | (refine Awp.ret ?_; try simp only [go_sem, *])
    | (refine Awp.skip ?_; try simp only [go_sem, *])
    | (apply Awp.cond; (case hc => (simp only [go_sem, *] <;> rfl)); all_goals (intro hg; (try simp only [Bool.not_true, Bool.not_false, reduceCtorEq] at hg); (try have hg' := hg); (try simp only [decide_eq_true_eq, decide_eq_false_iff_not, Bool.and_eq_true, Bool.or_eq_false_iff, bne_iff_ne, bne_eq_false_iff_eq, beq_iff_eq, beq_eq_false_iff_ne, Int.not_lt, Int.not_le, Int.ofNat_lt, Int.ofNat_le, Int.natCast_inj] at hg')))
    | refine Awp.seq ?_)
    all_goals repeat' (first | exact Lower.bool (by first | rfl | (simp only [true_and, Bool.true_and, Bool.false_and, Bool.and_true, Bool.and_false, Bool.true_or, Bool.false_or, reduceIte, Bool.false_eq_true, *]; done) | (simp only [true_and, reduceIte, Bool.false_eq_true, *] <;> rfl) | (simp [true_and]; done) | (simp_all [true_and]; done) | omega) | exact Lower.int (by first | rfl | (simp only [true_and, Bool.true_and, Bool.false_and, Bool.and_true, Bool.and_false, Bool.true_or, Bool.false_or, reduceIte, Bool.false_eq_true, *]; done) | (simp only [true_and, reduceIte, Bool.false_eq_true, *] <;> rfl) | (simp [true_and]; done) | (simp_all [true_and]; done) | omega) | exact Lower.str (by first | rfl | (simp only [true_and, Bool.true_and, Bool.false_and, Bool.and_true, Bool.and_false, Bool.true_or, Bool.false_or, reduceIte, Bool.false_eq_true, *]; done) | (simp only [true_and, reduceIte, Bool.false_eq_true, *] <;> rfl) | (simp [true_and]; done) | (simp_all [true_and]; done) | omega) | refine Lower.aggF ?_ | refine Lower.tupF ?_ | refine All2.cons ?_ ?_ | exact All2.nil)
end Go.Proofs
end
section
set_option linter.unusedVariables false
set_option linter.unusedSimpArgs false
namespace Go.Proofs
open Go Go.Ab
set_option maxHeartbeats 4000000
set_option maxRecDepth 100000
set_option linter.unusedSimpArgs false
set_option linter.unusedVariables false
attribute [local irreducible] Awp aops aopsL Go.Ab.Pure PureOwn
def rngB (x : Sty) : Bool := !sideB x.len || !sideB x.wid || decide (x.a < 0) || decide (x.b ≤ x.a) || decide (1048576 < x.b)
def offB (q : By) (x : Sty) : Bool := decide (x.x < 0) || decide (x.y < 0) || decide (IntKind.i64.wrap (q.len - x.len) < x.x) || decide (IntKind.i64.wrap (q.wid - x.wid) < x.y)
def stayE (bs : List By) (l : List Sty) (x : Sty) : Int :=
  if !idB x.item then 6 else if !(findB bs x.bay).2 then 8 else if rngB x then 9 else if offB (findB bs x.bay).1 x then 18 else if l.any (overB x) then 19 else 0
theorem stay_ok (bs : List By) (l : List Sty) (x : Sty) (hb : bs.length < 1000000) (hl : l.length < 1000000) : Pure Tryz.prog 52 [.sl (bys bs), .sl (stys l), x.av] (.v (.int .i64 (stayE bs l x))) := by
  have c0 := find_ok bs x.bay hb
  have c1 := isid_ok x.item
  have c2 := containsS_ok l 70 x.cells (overB x) hl (overC_ok x)
  unfold stayE
  generalize findB bs x.bay = F at *
  refine fn_pure Tryz.F52 (Nat.le_of_ble_eq_true rfl) ?_; unfold Tryz.ac52
  repeat' (first
    | (apply Awp.sreg; (case hn => (simp only [List.length_cons, List.length_nil, Nat.reduceAdd] <;> rfl)))
    | (refine st_nil ?_)
    | (apply st_a; (case hc => rfl); (case he => (simp only [go_sem, *] <;> rfl)); (case hu => (simp only [updL_nil, updL_cons] <;> rfl)); (case hp => first | trivial))
    | (apply st_m; (case hc => rfl); (case hg => (simp only [go_sem, *] <;> rfl)); (case he => (intro hQz; (try simp only [wantB_t, wantB_f, Bool.and_eq_true, Bool.not_eq_true', Bool.not_true, Bool.not_false, and_true, true_and] at hQz); simp only [go_sem, *] <;> rfl)); (case hp => (intro hQz; (try simp only [wantB_t, wantB_f, Bool.and_eq_true, Bool.not_eq_true', Bool.or_eq_false_iff, decide_eq_true_eq, decide_eq_false_iff_not, beq_iff_eq, beq_eq_false_iff_ne, bne_iff_ne, bne_eq_false_iff_eq, Int.not_lt, Int.not_le, Int.ofNat_lt, Int.ofNat_le] at hQz); first | trivial)))
    | (apply st_c; (case hc => (simp only [go_sem, *] <;> rfl)); (case hl => (simp only [go_sem, *] <;> rfl)); (case hn => (simp only [go_sem, *] <;> rfl)); (case hp => first | exact c0 | (have hXz := c0; simp only [go_sem, *] at hXz; exact hXz)))
    | (apply st_c; (case hc => (simp only [go_sem, *] <;> rfl)); (case hl => (simp only [go_sem, *] <;> rfl)); (case hn => (simp only [go_sem, *] <;> rfl)); (case hp => first | exact c1 | (have hXz := c1; simp only [go_sem, *] at hXz; exact hXz)))
    | (apply st_cd; (case hc => (simp only [go_sem, *] <;> rfl)); (case hl => (simp only [go_sem, *] <;> rfl)); (case hn => (simp only [go_sem, *] <;> rfl)); (case hp => first | exact c2 | (have hXz := c2; simp only [go_sem, *] at hXz; exact hXz)); (case hd => first | exact .v _ | exact .any | exact .nils | (repeat' (first | exact Dry.v _ | exact Dry.any | exact Dry.nils | exact Dry.slE | refine Dry.agg ?_ | refine Dry.tup ?_ | (refine List.forall_mem_cons.2 (And.intro ?_ ?_)) | (intro cQ hQ; cases hQ; done)))); (case hm => first | decide | (simp; done)))
    | (apply st_mc; (case hop => rfl); (case hg => (simp only [go_sem, *] <;> rfl)); (case hc => (intro hQz; (try simp only [wantB_t, wantB_f, Bool.and_eq_true, Bool.not_eq_true', Bool.not_true, Bool.not_false, and_true, true_and] at hQz); simp only [go_sem, *] <;> rfl)); (case hl => (intro hQz; (try simp only [wantB_t, wantB_f, Bool.and_eq_true, Bool.not_eq_true', Bool.not_true, Bool.not_false, and_true, true_and] at hQz); simp only [go_sem, *] <;> rfl)); (case hn => (intro hQz; (try simp only [wantB_t, wantB_f, Bool.and_eq_true, Bool.not_eq_true', Bool.not_true, Bool.not_false, and_true, true_and] at hQz); simp only [go_sem, *] <;> rfl)); (case hp => intro hQz; first | exact side_ok _ | (have hXz := side_ok _; simp only [go_sem, *] at hXz; exact hXz)))
    | (apply st_c; (case hc => (simp only [go_sem, *] <;> rfl)); (case hl => (simp only [go_sem, *] <;> rfl)); (case hn => (simp only [go_sem, *] <;> rfl)); (case hp => first | exact side_ok _ | (have hXz := side_ok _; simp only [go_sem, *] at hXz; exact hXz)))
    | (refine Awp.ret ?_; try simp only [go_sem, *])
    | (refine Awp.skip ?_; try simp only [go_sem, *])
    | refine Awp.block ?_
    | (apply Awp.cond; (case hc => (simp only [go_sem, *] <;> rfl)); all_goals (intro hg; (try simp only [Bool.not_true, Bool.not_false, reduceCtorEq] at hg)))
    | refine Awp.seq ?_)
  all_goals repeat' (first | exact Lower.int (by first | rfl | (simp only [rngB, offB, Bool.true_and, Bool.false_and, Bool.and_true, Bool.and_false, Bool.true_or, Bool.false_or, reduceIte, Bool.false_eq_true, *]; done) | (simp only [rngB, offB, reduceIte, Bool.false_eq_true, *] <;> rfl) | (simp [rngB, offB]; done) | (simp_all [rngB, offB]; done) | omega))
def firstE (f : Nat → Int) (n : Nat) : Int := match (List.range n).find? (fun i => f i != 0) with
  | some i => f i
  | none => 0
theorem firstE_bad {f : Nat → Int} {n i : Nat} (hi : i < n) (h : f i ≠ 0) (hj : ∀ j, j < i → f j = 0) : firstE f n = f i := by
  have e : (List.range n).find? (fun i => f i != 0) = some i := by
    rw [List.find?_eq_some_iff_getElem]
    refine ⟨by simpa using h, i, by simpa using hi, by simp, fun j hji => ?_⟩
    have := hj j hji
    simp [this]
  unfold firstE
  rw [e]
theorem firstE_end {f : Nat → Int} {n i : Nat} (hi : n ≤ i) (hj : ∀ j, j < i → f j = 0) : firstE f n = 0 := by
  have e : (List.range n).find? (fun i => f i != 0) = none := by
    rw [List.find?_eq_none]
    intro j hjn
    have := hj j (by have := List.mem_range.1 hjn; omega)
    simp [this]
  unfold firstE
  rw [e]
theorem bys_take (l : List By) (i : Nat) : (bys l).take i = bys (l.take i) := by simp [bys, List.map_take]
theorem stys_take (l : List Sty) (i : Nat) : (stys l).take i = stys (l.take i) := by simp [stys, List.map_take]
def bayAt (bs : List By) (i : Nat) : Int :=
  if !nameB (bs.getD i zeroBy).nm then 6 else if !sideB (bs.getD i zeroBy).len || !sideB (bs.getD i zeroBy).wid then 9 else if (findB (bs.take i) (bs.getD i zeroBy).nm).2 then 7 else 0
def checkE (bs : List By) (l : List Sty) : Int :=
  if decide ((8 : Int) < bs.length) || decide ((128 : Int) < l.length) then 4 else if firstE (bayAt bs) bs.length != 0 then firstE (bayAt bs) bs.length
  else firstE (fun i => stayE bs (l.take i) (l.getD i zeroSty)) l.length
theorem ck_bad {bs : List By} {l : List Sty} {i : Nat} {e : Int} (hL : (decide ((8 : Int) < bs.length) || decide ((128 : Int) < l.length)) = false) (hi : i < bs.length) (hj : ∀ j, j < i → bayAt bs j = 0) (h : bayAt bs i = e) (he : e ≠ 0) : e = checkE bs l := by
  have h1 := firstE_bad (f := bayAt bs) hi (by rw [h]; exact he) hj
  rw [h] at h1
  unfold checkE
  rw [if_neg (by rw [hL]; simp), h1, if_pos (by simpa using he)]
theorem ck_stay {bs : List By} {l : List Sty} {i : Nat} {e : Int} (hL : (decide ((8 : Int) < bs.length) || decide ((128 : Int) < l.length)) = false) (hb : firstE (bayAt bs) bs.length = 0) (hi : i < l.length) (hj : ∀ j, j < i → stayE bs (l.take j) (l.getD j zeroSty) = 0) (h : stayE bs (l.take i) (l.getD i zeroSty) = e) (he : e ≠ 0) : e = checkE bs l := by
  have h1 := firstE_bad (f := fun i => stayE bs (l.take i) (l.getD i zeroSty)) hi (by show stayE bs (l.take i) (l.getD i zeroSty) ≠ 0; rw [h]; exact he) hj
  rw [h] at h1
  unfold checkE
  rw [if_neg (by rw [hL]; simp), if_neg (by rw [hb]; simp), h1]
theorem ck_end {bs : List By} {l : List Sty} {i : Nat} (hL : (decide ((8 : Int) < bs.length) || decide ((128 : Int) < l.length)) = false) (hb : firstE (bayAt bs) bs.length = 0) (hi : l.length ≤ i) (hj : ∀ j, j < i → stayE bs (l.take j) (l.getD j zeroSty) = 0) : 0 = checkE bs l := by
  have h1 := firstE_end (f := fun i => stayE bs (l.take i) (l.getD i zeroSty)) hi hj
  unfold checkE
  rw [if_neg (by rw [hL]; simp), if_neg (by rw [hb]; simp), h1]
theorem check_ok (bs : List By) (l : List Sty) (hb : bs.length < 100000) (hl : l.length < 100000) : Pure Tryz.prog 26 [.sl (bys bs), .sl (stys l)] (.v (.int .i64 (checkE bs l))) := by
  by_cases hL : (decide ((8 : Int) < bs.length) || decide ((128 : Int) < l.length)) = true
  · unfold checkE
    rw [if_pos hL]
    refine fn_pure Tryz.F26 (Nat.le_of_ble_eq_true rfl) ?_; unfold Tryz.ac26
    repeat' (first
    | (apply Awp.sreg; (case hn => (simp only [List.length_cons, List.length_nil, Nat.reduceAdd] <;> rfl)))
    | (refine st_nil ?_)
    | (apply st_a; (case hc => rfl); (case he => (simp only [go_sem, *] <;> rfl)); (case hu => (simp only [updL_nil, updL_cons] <;> rfl)); (case hp => first | trivial))
    | (apply st_m; (case hc => rfl); (case hg => (simp only [go_sem, *] <;> rfl)); (case he => (intro hQz; (try simp only [wantB_t, wantB_f, Bool.and_eq_true, Bool.not_eq_true', Bool.not_true, Bool.not_false, and_true, true_and] at hQz); simp only [go_sem, *] <;> rfl)); (case hp => (intro hQz; (try simp only [wantB_t, wantB_f, Bool.and_eq_true, Bool.not_eq_true', Bool.or_eq_false_iff, decide_eq_true_eq, decide_eq_false_iff_not, beq_iff_eq, beq_eq_false_iff_ne, bne_iff_ne, bne_eq_false_iff_eq, Int.not_lt, Int.not_le, Int.ofNat_lt, Int.ofNat_le] at hQz); first | trivial)))
    | (refine Awp.ret ?_; try simp only [go_sem, *])
    | (apply Awp.cond; (case hc => (simp only [go_sem, *] <;> rfl)); all_goals (intro hg; (try simp only [Bool.not_true, Bool.not_false, reduceCtorEq] at hg)))
    | refine Awp.seq ?_)
    all_goals first | repeat' (first | exact Lower.int (by first | rfl | (simp only [true_and, Bool.true_and, Bool.false_and, Bool.and_true, Bool.and_false, Bool.true_or, Bool.false_or, reduceIte, Bool.false_eq_true, *]; done) | (simp only [true_and, reduceIte, Bool.false_eq_true, *] <;> rfl) | (simp [true_and]; done) | (simp_all [true_and]; done) | omega)) | skip
    all_goals (exfalso; simp_all)
  have hL' : (decide ((8 : Int) < bs.length) || decide ((128 : Int) < l.length)) = false := by simpa using hL
  clear hL
  refine fn_pure Tryz.F26 (Nat.le_of_ble_eq_true rfl) ?_; unfold Tryz.ac26
  repeat' (first
    | (apply Awp.sreg; (case hn => (simp only [List.length_cons, List.length_nil, Nat.reduceAdd] <;> rfl)))
    | (refine st_nil ?_)
    | (apply st_a; (case hc => rfl); (case he => (simp only [go_sem, *] <;> rfl)); (case hu => (simp only [updL_nil, updL_cons] <;> rfl)); (case hp => first | trivial))
    | (apply st_m; (case hc => rfl); (case hg => (simp only [go_sem, *] <;> rfl)); (case he => (intro hQz; (try simp only [wantB_t, wantB_f, Bool.and_eq_true, Bool.not_eq_true', Bool.not_true, Bool.not_false, and_true, true_and] at hQz); simp only [go_sem, *] <;> rfl)); (case hp => (intro hQz; (try simp only [wantB_t, wantB_f, Bool.and_eq_true, Bool.not_eq_true', Bool.or_eq_false_iff, decide_eq_true_eq, decide_eq_false_iff_not, beq_iff_eq, beq_eq_false_iff_ne, bne_iff_ne, bne_eq_false_iff_eq, Int.not_lt, Int.not_le, Int.ofNat_lt, Int.ofNat_le] at hQz); first | trivial)))
    | (refine Awp.skip ?_; try simp only [go_sem, *])
    | refine Awp.block ?_
    | (apply Awp.cond; (case hc => (simp only [go_sem, *] <;> rfl)); all_goals (intro hg; (try simp only [Bool.not_true, Bool.not_false, reduceCtorEq] at hg)))
    | refine Awp.seq ?_)
  refine Awp.loop (fun i : Nat => i ≤ bs.length ∧ ∀ j, j < i → bayAt bs j = 0) 40 (fun i => mkS [(0, .sl (bys bs)), (1, .sl (stys l)), (20, .sl (bys bs)), (21, .v (.int .i64 bs.length)), (22, .v (.int .i64 i))] []) (fun i => bs.length - i) 0 (by simp) ?_ ?_
  · (apply Ghost.mk [] []; (case hdead => rfl); (case hinj => rfl); (case hV => (simp only [go_sem, *]) <;> (repeat' (first | exact View.int (by first | rfl | omega | (simp; done) | (rw [wrap_i64] <;> (try simp only [Int.natCast_add]) <;> omega) | (simp [*]; done))))); (case hB => (simp only [go_sem, *]) <;> (repeat' (first | skip; done))))
  · intro i ⟨hi, hj⟩
    by_cases hlt : i < bs.length
    · have hlt' : (i : Int) < bs.length := by omega
      have hat := bys_at bs i hlt
      have hz : ((bs.getD i zeroBy).cells).length = 3 := rfl
      have h3 := bys_one bs
      have ht := bys_take bs i
      have c0 := name_ok (bs.getD i zeroBy).nm
      have c1 := find_ok (bs.take i) (bs.getD i zeroBy).nm (by simp; omega)
      have hle : (i : Int) ≤ bs.length := by omega
      have h00 : (0 : Int) ≤ i := by omega
      generalize hF : findB (bs.take i) (bs.getD i zeroBy).nm = F at c1
      repeat' (first
    | (apply Awp.sreg; (case hn => (simp only [List.length_cons, List.length_nil, Nat.reduceAdd] <;> rfl)))
    | (apply Awp.sdraw; (case hn => (simp only [List.length_cons, List.length_nil, Nat.reduceAdd] <;> rfl)))
    | (refine st_nil ?_)
    | (apply st_a; (case hc => rfl); (case he => (simp only [go_sem, *] <;> rfl)); (case hu => (simp only [updL_nil, updL_cons] <;> rfl)); (case hp => first | trivial))
    | (apply st_m; (case hc => rfl); (case hg => (simp only [go_sem, *] <;> rfl)); (case he => (intro hQz; (try simp only [wantB_t, wantB_f, Bool.and_eq_true, Bool.not_eq_true', Bool.not_true, Bool.not_false, and_true, true_and] at hQz); simp only [go_sem, *] <;> rfl)); (case hp => (intro hQz; (try simp only [wantB_t, wantB_f, Bool.and_eq_true, Bool.not_eq_true', Bool.or_eq_false_iff, decide_eq_true_eq, decide_eq_false_iff_not, beq_iff_eq, beq_eq_false_iff_ne, bne_iff_ne, bne_eq_false_iff_eq, Int.not_lt, Int.not_le, Int.ofNat_lt, Int.ofNat_le] at hQz); first | trivial)))
    | (apply st_c; (case hc => (simp only [go_sem, *] <;> rfl)); (case hl => (simp only [go_sem, *] <;> rfl)); (case hn => (simp only [go_sem, *] <;> rfl)); (case hp => first | exact c0 | (have hXz := c0; simp only [go_sem, *] at hXz; exact hXz)))
    | (apply st_mc; (case hop => rfl); (case hg => (simp only [go_sem, *] <;> rfl)); (case hc => (intro hQz; (try simp only [wantB_t, wantB_f, Bool.and_eq_true, Bool.not_eq_true', Bool.not_true, Bool.not_false, and_true, true_and] at hQz); simp only [go_sem, *] <;> rfl)); (case hl => (intro hQz; (try simp only [wantB_t, wantB_f, Bool.and_eq_true, Bool.not_eq_true', Bool.not_true, Bool.not_false, and_true, true_and] at hQz); simp only [go_sem, *] <;> rfl)); (case hn => (intro hQz; (try simp only [wantB_t, wantB_f, Bool.and_eq_true, Bool.not_eq_true', Bool.not_true, Bool.not_false, and_true, true_and] at hQz); simp only [go_sem, *] <;> rfl)); (case hp => intro hQz; first | exact side_ok _ | (have hXz := side_ok _; simp only [go_sem, *] at hXz; exact hXz)))
    | (apply st_c; (case hc => (simp only [go_sem, *] <;> rfl)); (case hl => (simp only [go_sem, *] <;> rfl)); (case hn => (simp only [go_sem, *] <;> rfl)); (case hp => first | exact side_ok _ | (have hXz := side_ok _; simp only [go_sem, *] at hXz; exact hXz)))
    | (apply Awp.reg; (case hn => (simp only [List.length_cons, List.length_nil, Nat.reduceAdd] <;> rfl)))
    | (refine Awp.ret ?_; try simp only [go_sem, *])
    | (refine Awp.skip ?_; try simp only [go_sem, *])
    | refine Awp.block ?_
    | (apply Awp.cond; (case hc => (simp only [go_sem, *] <;> rfl)); all_goals (intro hg; (try simp only [Bool.not_true, Bool.not_false, reduceCtorEq] at hg)))
    | refine Awp.seq ?_
    | (apply sl_a; (case hc => rfl); (case he => (simp only [go_sem, *] <;> rfl)); (case hu => (simp only [updL_nil, updL_cons] <;> rfl)); (case hl => (simp only [List.map_cons, List.map_nil] <;> rfl)); (case hp => first | trivial))
    | (apply sl_c; (case hc => (simp only [go_sem, *] <;> rfl)); (case hl => (simp only [go_sem, *] <;> rfl)); (case hn => (simp only [go_sem, *] <;> rfl)); (case hp => first | exact c1 | (have hXz := c1; simp only [go_sem, *] at hXz; exact hXz)); (case hd => first | exact .inl rfl | exact .inr (.v _) | exact .inr .any | exact .inr .nils); (case hm => first | decide | (simp; done)))
    | (refine sl_nil (And.intro (by first | exact drawOk_of (by decide +kernel) | (simp only [List.map_cons, List.map_nil]; exact drawOk_of (by decide +kernel)) | decide) ?_)))
      · exact Lower.int (ck_bad hL' hlt hj (by simp only [bayAt, hF, *, reduceIte, Bool.false_eq_true]) (by decide))
      · exact Lower.int (ck_bad hL' hlt hj (by simp only [bayAt, hF, *, reduceIte, Bool.false_eq_true]) (by decide))
      · exact Lower.int (ck_bad hL' hlt hj (by simp only [bayAt, hF, *, reduceIte, Bool.false_eq_true]) (by decide))
      · refine ⟨i + 1, ⟨by omega, ltSucc hj (by simp only [bayAt, hF, *, reduceIte, Bool.false_eq_true])⟩, by omega, ?_⟩
        (apply Ghost.mk [] []; (case hdead => rfl); (case hinj => rfl); (case hV => (simp only [go_sem, *]) <;> (repeat' (first | exact View.int (by first | rfl | omega | (simp; done) | (rw [wrap_i64] <;> (try simp only [Int.natCast_add]) <;> omega) | (simp [*]; done))))); (case hB => (simp only [go_sem, *]) <;> (repeat' (first | skip; done))))
    · have hlt' : ¬ (i : Int) < bs.length := by omega
      have hfe := firstE_end (Nat.le_of_not_lt hlt) hj
      clear hj
      repeat' (first
    | (apply Awp.sreg; (case hn => (simp only [List.length_cons, List.length_nil, Nat.reduceAdd] <;> rfl)))
    | (refine st_nil ?_)
    | (apply st_a; (case hc => rfl); (case he => (simp only [go_sem, *] <;> rfl)); (case hu => (simp only [updL_nil, updL_cons] <;> rfl)); (case hp => first | trivial))
    | (refine Awp.exit ?_; try simp only [go_sem, *])
    | refine Awp.block ?_
    | (apply Awp.cond; (case hc => (simp only [go_sem, *] <;> rfl)); all_goals (intro hg; (try simp only [Bool.not_true, Bool.not_false, reduceCtorEq] at hg)))
    | refine Awp.seq ?_)
      clear hlt hlt' hi
      refine Awp.loop (fun i : Nat => i ≤ l.length ∧ ∀ j, j < i → stayE bs (l.take j) (l.getD j zeroSty) = 0) 60 (fun i => mkS [(0, .sl (bys bs)), (1, .sl (stys l)), (52, .sl (stys l)), (53, .v (.int .i64 l.length)), (54, .v (.int .i64 i))] []) (fun i => l.length - i) 0 (by simp) ?_ ?_
      · (apply Ghost.mk [] []; (case hdead => rfl); (case hinj => rfl); (case hV => (simp only [go_sem, *]) <;> (repeat' (first | exact View.int (by first | rfl | omega | (simp; done) | (rw [wrap_i64] <;> (try simp only [Int.natCast_add]) <;> omega) | (simp [*]; done))))); (case hB => (simp only [go_sem, *]) <;> (repeat' (first | skip; done))))
      · intro k ⟨hi, hj⟩
        by_cases hlt : k < l.length
        · have hlt' : (k : Int) < l.length := by omega
          have hat := stys_at l k hlt
          have hz : ((l.getD k zeroSty).cells).length = 8 := rfl
          have h3 := stys_one l
          have ht := stys_take l k
          have hle : (k : Int) ≤ l.length := by omega
          have h00 : (0 : Int) ≤ k := by omega
          have c0 := stay_ok bs (l.take k) (l.getD k zeroSty) (by omega) (by simp; omega)
          generalize hE : stayE bs (l.take k) (l.getD k zeroSty) = e at c0
          repeat' (first
    | (apply Awp.sreg; (case hn => (simp only [List.length_cons, List.length_nil, Nat.reduceAdd] <;> rfl)))
    | (apply Awp.sdraw; (case hn => (simp only [List.length_cons, List.length_nil, Nat.reduceAdd] <;> rfl)))
    | (refine st_nil ?_)
    | (apply st_a; (case hc => rfl); (case he => (simp only [go_sem, *] <;> rfl)); (case hu => (simp only [updL_nil, updL_cons] <;> rfl)); (case hp => first | trivial))
    | (apply Awp.reg; (case hn => (simp only [List.length_cons, List.length_nil, Nat.reduceAdd] <;> rfl)))
    | (refine Awp.ret ?_; try simp only [go_sem, *])
    | (refine Awp.skip ?_; try simp only [go_sem, *])
    | refine Awp.block ?_
    | (apply Awp.cond; (case hc => (simp only [go_sem, *] <;> rfl)); all_goals (intro hg; (try simp only [Bool.not_true, Bool.not_false, reduceCtorEq] at hg)))
    | refine Awp.seq ?_
    | (apply sl_a; (case hc => rfl); (case he => (simp only [go_sem, *] <;> rfl)); (case hu => (simp only [updL_nil, updL_cons] <;> rfl)); (case hl => (simp only [List.map_cons, List.map_nil] <;> rfl)); (case hp => first | trivial))
    | (apply sl_c; (case hc => (simp only [go_sem, *] <;> rfl)); (case hl => (simp only [go_sem, *] <;> rfl)); (case hn => (simp only [go_sem, *] <;> rfl)); (case hp => first | exact c0 | (have hXz := c0; simp only [go_sem, *] at hXz; exact hXz)); (case hd => first | exact .inl rfl | exact .inr (.v _) | exact .inr .any | exact .inr .nils); (case hm => first | decide | (simp; done)))
    | (refine sl_nil (And.intro (by first | exact drawOk_of (by decide +kernel) | (simp only [List.map_cons, List.map_nil]; exact drawOk_of (by decide +kernel)) | decide) ?_)))
          · exact Lower.int (ck_stay hL' hfe hlt hj hE (by simpa using hg))
          · refine ⟨k + 1, ⟨by omega, ltSucc hj (by rw [hE]; simpa using hg)⟩, by omega, ?_⟩
            (apply Ghost.mk [] []; (case hdead => rfl); (case hinj => rfl); (case hV => (simp only [go_sem, *]) <;> (repeat' (first | exact View.int (by first | rfl | omega | (simp; done) | (rw [wrap_i64] <;> (try simp only [Int.natCast_add]) <;> omega) | (simp [*]; done))))); (case hB => (simp only [go_sem, *]) <;> (repeat' (first | skip; done))))
        · have hlt' : ¬ (k : Int) < l.length := by omega
          repeat' (first
    | (apply Awp.sreg; (case hn => (simp only [List.length_cons, List.length_nil, Nat.reduceAdd] <;> rfl)))
    | (refine st_nil ?_)
    | (apply st_a; (case hc => rfl); (case he => (simp only [go_sem, *] <;> rfl)); (case hu => (simp only [updL_nil, updL_cons] <;> rfl)); (case hp => first | trivial))
    | (refine Awp.ret ?_; try simp only [go_sem, *])
    | (refine Awp.exit ?_; try simp only [go_sem, *])
    | (apply Awp.cond; (case hc => (simp only [go_sem, *] <;> rfl)); all_goals (intro hg; (try simp only [Bool.not_true, Bool.not_false, reduceCtorEq] at hg)))
    | refine Awp.seq ?_)
          exact Lower.int (ck_end hL' hfe (Nat.le_of_not_lt hlt) hj)
end Go.Proofs
end
