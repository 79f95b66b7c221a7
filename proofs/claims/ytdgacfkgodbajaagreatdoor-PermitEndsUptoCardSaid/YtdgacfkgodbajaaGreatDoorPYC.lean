import Derived.Test.YtdgacfkgodbajaaGreatDoorPYB
import Derived.Test.YtdgacfkgodbajaaGreatDoorChecked
import Derived.Shelf.Small.Bits
import Derived.Shelf.Utf8.RuneCount
import Derived.Shelf.Strconv.Itoa0
import Derived.Shelf.Strings.Search1
import Derived.Shelf.Strings.Search2
import Derived.Shelf.Strings.Search3
import Derived.Shelf.Strings.Count
import Derived.Shelf.LaysM
import Derived.Shelf.Strings.Shaped
import Derived.Shelf.Sort.Plain
import Derived.Shelf.Strings.Split
import Derived.Shelf.Strings.SplitShaped
import Derived.Shelf.Unicode.Decode
import Derived.Shelf.Strings.RuneCount
import Derived.Shelf.Strings.Explode
import Derived.Shelf.Unicode.DecodeSlow
import Derived.Shelf.Unicode.DecodeAny
import Derived.Ground.Names2Prog
import Derived.Shelf.Slices.Clone
import Derived.Shelf.Slices.CompactI
import Derived.Shelf.Slices.In.SortNone
import Derived.Ground.SlgnProg
import Derived.Shelf.SlicesE.Clone
import Derived.Test.YtdgacfkgodbajaaGreatDoorProg
import Derived.Sort.OwnSortedInts
section
set_option linter.unusedVariables false
set_option linter.unusedSimpArgs false
namespace Go.Proofs
open Go Go.Ab
def Tryz.ac5 : ACode := ((ACode.region false [⟨some 4, .mv (.c (.bool false)), none, []⟩]).seq (((ACode.region false [⟨some 9, .mv (.t 0), none, []⟩, ⟨some 10, .call 20 [.t 9], none, []⟩, ⟨some 11, .un .not (.t 10), none, []⟩]).seq (ACode.cond (.t 11) ((ACode.region false [⟨some 12, .call 11 [], none, []⟩, ⟨some 4, .mv (.t 12), none, []⟩]).seq ACode.ret) ACode.skip)).seq ((ACode.region false [⟨some 14, .mv (.t 0), none, []⟩, ⟨some 15, .mv (.t 1), none, []⟩, ⟨some 16, .call 21 [.t 14, .t 15], none, []⟩, ⟨some 13, .mv (.t 16), none, []⟩, ⟨some 17, .extract (.t 13) 0, none, []⟩, ⟨some 18, .extract (.t 13) 1, none, []⟩, ⟨some 5, .mv (.t 17), none, []⟩, ⟨some 6, .mv (.t 18), none, []⟩]).seq ((ACode.region false [⟨some 20, .mv (.t 0), none, []⟩, ⟨some 21, .mv (.t 1), none, []⟩, ⟨some 22, .call 22 [.t 20, .t 21], none, []⟩, ⟨some 19, .mv (.t 22), none, []⟩, ⟨some 23, .extract (.t 19) 0, none, []⟩, ⟨some 24, .extract (.t 19) 1, none, []⟩, ⟨some 7, .mv (.t 23), none, []⟩, ⟨some 8, .mv (.t 24), none, []⟩]).seq ((ACode.region false [⟨some 25, .mv (.t 0), none, []⟩, ⟨some 26, .call 23 [.t 25], none, []⟩, ⟨some 27, .mv (.t 0), none, []⟩, ⟨some 28, .call 24 [.t 27], none, []⟩, ⟨some 29, .bin .eql (.t 26) (.t 28), none, []⟩, ⟨some 30, .mv (.t 29), none, []⟩, ⟨some 31, .mv (.t 5), some (30, true), []⟩, ⟨some 32, .mv (.t 7), some (30, true), []⟩, ⟨some 33, .call 25 [.t 31, .t 32], some (30, true), []⟩, ⟨some 34, .pick (.t 30) (.t 33) (.c (.bool false)), none, []⟩, ⟨some 35, .mv (.t 34), none, []⟩, ⟨some 36, .mv (.t 6), some (35, true), []⟩, ⟨some 37, .mv (.t 8), some (35, true), []⟩, ⟨some 38, .bin .eql (.t 36) (.t 37), some (35, true), []⟩, ⟨some 39, .pick (.t 35) (.t 38) (.c (.bool false)), none, []⟩, ⟨some 40, .mv (.t 39), none, []⟩, ⟨some 41, .mv (.t 0), some (40, true), []⟩, ⟨some 42, .call 27 [.t 41], some (40, true), []⟩, ⟨some 43, .mv (.t 0), some (40, true), []⟩, ⟨some 44, .call 28 [.t 43], some (40, true), []⟩, ⟨some 45, .call 26 [.t 42, .t 44], some (40, true), []⟩, ⟨some 46, .pick (.t 40) (.t 45) (.c (.bool false)), none, []⟩, ⟨some 47, .mv (.t 46), none, []⟩, ⟨some 48, .call 11 [], some (47, true), []⟩, ⟨some 49, .pick (.t 47) (.t 48) (.c (.bool false)), none, []⟩, ⟨some 4, .mv (.t 49), none, []⟩]).seq ACode.ret)))))
theorem Tryz.F5 : FnFacts Tryz.prog 5 Tryz.f5 Tryz.ac5 50 [.tmp 4] := ⟨Tryz.func5, by kernel_rfl, by kernel_rfl, by kernel_rfl, by kernel_rfl, by kernel_rfl, by kernel_rfl, by kernel_rfl⟩
def Tryz.ac8 : ACode := ((ACode.region false [⟨some 2, .mv (.c (.bool false)), none, []⟩]).seq ((ACode.region false [⟨some 10, .mv (.t 0), none, []⟩, ⟨some 11, .call 29 [.t 10], none, []⟩, ⟨some 3, .mv (.t 11), none, []⟩]).seq (((ACode.region false [⟨some 12, .mv (.t 3), none, []⟩, ⟨some 13, .call 20 [.t 12], none, []⟩, ⟨some 14, .un .not (.t 13), none, []⟩, ⟨some 15, .mv (.t 14), none, []⟩, ⟨some 16, .mv (.t 3), some (15, false), []⟩, ⟨some 17, .call 24 [.t 16], some (15, false), []⟩, ⟨some 18, .bin .neq (.t 17) (.c (.int .i64 (0))), some (15, false), []⟩, ⟨some 19, .pick (.t 15) (.c (.bool true)) (.t 18), none, []⟩]).seq (ACode.cond (.t 19) ((ACode.region false [⟨some 20, .call 11 [], none, []⟩, ⟨some 2, .mv (.t 20), none, []⟩]).seq ACode.ret) ACode.skip)).seq (((ACode.region false [⟨some 4, .mv (.c (.int .i64 (0))), none, []⟩]).seq (ACode.block 0 (((ACode.region false [⟨some 21, .mv (.t 4), none, []⟩, ⟨some 22, .mv (.t 0), none, []⟩, ⟨some 23, .len (.t 22), none, []⟩, ⟨some 24, .bin .leq (.t 21) (.t 23), none, []⟩]).seq (ACode.cond (.t 24) ACode.skip (ACode.exit 0))).seq ((ACode.block 1 ((ACode.region false [⟨some 27, .mv (.t 3), none, []⟩, ⟨some 28, .call 27 [.t 27], none, []⟩, ⟨some 5, .mv (.t 28), none, []⟩]).seq (((ACode.region false [⟨some 29, .mv (.t 5), none, []⟩, ⟨some 30, .len (.t 29), none, []⟩, ⟨some 31, .mv (.t 0), none, []⟩, ⟨some 32, .len (.t 31), none, []⟩, ⟨some 33, .mv (.t 4), none, []⟩, ⟨some 34, .bin .sub (.t 32) (.t 33), none, []⟩, ⟨some 35, .bin .neq (.t 30) (.t 34), none, []⟩]).seq (ACode.cond (.t 35) ((ACode.region false [⟨some 2, .mv (.c (.bool false)), none, []⟩]).seq ACode.ret) ACode.skip)).seq ((ACode.region false [⟨some 36, .mv (.t 5), none, []⟩, ⟨some 37, .len (.t 36), none, []⟩, ⟨some 38, .bin .eql (.t 37) (.c (.int .i64 (0))), none, []⟩, ⟨some 6, .mv (.t 38), none, []⟩]).seq (((ACode.region false [⟨some 7, .mv (.c (.int .i64 (0))), none, []⟩]).seq (ACode.block 2 (((ACode.region false [⟨some 39, .mv (.t 7), none, []⟩, ⟨some 40, .mv (.t 5), none, []⟩, ⟨some 41, .len (.t 40), none, []⟩, ⟨some 42, .bin .lss (.t 39) (.t 41), none, []⟩, ⟨some 43, .mv (.t 42), none, []⟩, ⟨some 44, .mv (.t 6), some (43, true), []⟩, ⟨some 45, .un .not (.t 44), some (43, true), []⟩, ⟨some 46, .pick (.t 43) (.t 45) (.c (.bool false)), none, []⟩]).seq (ACode.cond (.t 46) ACode.skip (ACode.exit 2))).seq ((ACode.block 3 ((ACode.region false [⟨some 50, .mv (.t 3), none, []⟩, ⟨some 51, .mv (.t 5), none, []⟩, ⟨some 52, .mv (.t 7), none, []⟩, ⟨some 53, .idxAddr 1 (.t 51) (.t 52), none, []⟩, ⟨some 54, .load 1 false (.t 53), none, []⟩, ⟨some 55, .call 21 [.t 50, .t 54], none, []⟩, ⟨some 49, .mv (.t 55), none, []⟩, ⟨some 56, .extract (.t 49) 0, none, []⟩, ⟨some 57, .extract (.t 49) 1, none, []⟩, ⟨some 8, .mv (.t 56), none, []⟩, ⟨some 9, .mv (.t 57), none, []⟩]).seq ((ACode.region false [⟨some 58, .mv (.t 9), none, []⟩, ⟨some 59, .bin .eql (.t 58) (.c (.int .i64 (0))), none, []⟩]).seq (ACode.cond (.t 59) ((ACode.region false [⟨some 6, .mv (.c (.bool true)), none, []⟩]).seq (ACode.region false [⟨some 60, .mv (.t 8), none, []⟩, ⟨some 3, .mv (.t 60), none, []⟩])) ACode.skip)))).seq (ACode.region false [⟨some 47, .mv (.t 7), none, []⟩, ⟨some 48, .bin .add (.t 47) (.c (.int .i64 (1))), none, []⟩, ⟨some 7, .mv (.t 48), none, []⟩]))).loop)).seq ((ACode.region false [⟨some 61, .mv (.t 6), none, []⟩, ⟨some 62, .un .not (.t 61), none, []⟩, ⟨some 63, .mv (.t 62), none, []⟩, ⟨some 64, .mv (.t 3), some (63, false), []⟩, ⟨some 65, .call 23 [.t 64], some (63, false), []⟩, ⟨some 66, .bin .neq (.t 65) (.c (.int .i64 (0))), some (63, false), []⟩, ⟨some 67, .pick (.t 63) (.c (.bool true)) (.t 66), none, []⟩]).seq (ACode.cond (.t 67) ((ACode.region false [⟨some 2, .mv (.c (.bool false)), none, []⟩]).seq ACode.ret) ACode.skip))))))).seq (ACode.region false [⟨some 25, .mv (.t 4), none, []⟩, ⟨some 26, .bin .add (.t 25) (.c (.int .i64 (1))), none, []⟩, ⟨some 4, .mv (.t 26), none, []⟩]))).loop)).seq ((ACode.region false [⟨some 68, .call 11 [], none, []⟩, ⟨some 2, .mv (.t 68), none, []⟩]).seq ACode.ret)))))
theorem Tryz.F8 : FnFacts Tryz.prog 8 Tryz.f8 Tryz.ac8 69 [.tmp 2] := ⟨Tryz.func8, by kernel_rfl, by kernel_rfl, by kernel_rfl, by kernel_rfl, by kernel_rfl, by kernel_rfl, by kernel_rfl⟩
def Tryz.ac9 : ACode := ((ACode.region false [⟨some 4, .mv (.c (.bool false)), none, []⟩]).seq ((ACode.region false [⟨some 15, .mv (.t 0), none, []⟩, ⟨some 16, .call 29 [.t 15], none, []⟩, ⟨some 5, .mv (.t 16), none, []⟩]).seq (((ACode.region false [⟨some 17, .mv (.t 5), none, []⟩, ⟨some 18, .call 20 [.t 17], none, []⟩, ⟨some 19, .un .not (.t 18), none, []⟩, ⟨some 20, .mv (.t 19), none, []⟩, ⟨some 21, .mv (.t 5), some (20, false), []⟩, ⟨some 22, .call 24 [.t 21], some (20, false), []⟩, ⟨some 23, .bin .neq (.t 22) (.c (.int .i64 (0))), some (20, false), []⟩, ⟨some 24, .pick (.t 20) (.c (.bool true)) (.t 23), none, []⟩, ⟨some 25, .mv (.t 24), none, []⟩, ⟨some 26, .mv (.t 1), some (25, false), []⟩, ⟨some 27, .len (.t 26), some (25, false), []⟩, ⟨some 28, .bin .gtr (.t 27) (.c (.int .i64 (100))), some (25, false), []⟩, ⟨some 29, .pick (.t 25) (.c (.bool true)) (.t 28), none, []⟩]).seq (ACode.cond (.t 29) ((ACode.region false [⟨some 30, .call 11 [], none, []⟩, ⟨some 4, .mv (.t 30), none, []⟩]).seq ACode.ret) ACode.skip)).seq (((ACode.region false [⟨some 6, .mv (.c (.int .i64 (0))), none, []⟩]).seq (ACode.block 0 (((ACode.region false [⟨some 31, .mv (.t 6), none, []⟩, ⟨some 32, .mv (.t 1), none, []⟩, ⟨some 33, .len (.t 32), none, []⟩, ⟨some 34, .bin .lss (.t 31) (.t 33), none, []⟩]).seq (ACode.cond (.t 34) ACode.skip (ACode.exit 0))).seq ((ACode.block 1 ((ACode.region false [⟨some 38, .mv (.t 5), none, []⟩, ⟨some 39, .mv (.t 1), none, []⟩, ⟨some 40, .mv (.t 6), none, []⟩, ⟨some 41, .idxAddr 1 (.t 39) (.t 40), none, []⟩, ⟨some 42, .load 1 false (.t 41), none, []⟩, ⟨some 43, .call 21 [.t 38, .t 42], none, []⟩, ⟨some 37, .mv (.t 43), none, []⟩, ⟨some 44, .extract (.t 37) 0, none, []⟩, ⟨some 45, .extract (.t 37) 1, none, []⟩, ⟨some 7, .mv (.t 44), none, []⟩, ⟨some 8, .mv (.t 45), none, []⟩]).seq (((ACode.region false [⟨some 46, .mv (.t 8), none, []⟩, ⟨some 47, .bin .neq (.t 46) (.c (.int .i64 (0))), none, []⟩]).seq (ACode.cond (.t 47) (((ACode.region false [⟨some 48, .mv (.t 7), none, []⟩, ⟨some 49, .len (.t 48), none, []⟩, ⟨some 50, .bin .neq (.t 49) (.c (.int .i64 (0))), none, []⟩, ⟨some 51, .mv (.t 50), none, []⟩, ⟨some 52, .mv (.t 8), some (51, false), []⟩, ⟨some 53, .bin .neq (.t 52) (.c (.int .i64 (8))), some (51, false), []⟩, ⟨some 54, .mv (.t 53), some (51, false), []⟩, ⟨some 55, .mv (.t 8), some (54, true), []⟩, ⟨some 56, .bin .neq (.t 55) (.c (.int .i64 (14))), some (54, true), []⟩, ⟨some 57, .pick (.t 54) (.t 56) (.c (.bool false)), some (51, false), []⟩, ⟨some 58, .mv (.t 57), some (51, false), []⟩, ⟨some 59, .mv (.t 8), some (58, true), []⟩, ⟨some 60, .bin .neq (.t 59) (.c (.int .i64 (11))), some (58, true), []⟩, ⟨some 61, .pick (.t 58) (.t 60) (.c (.bool false)), some (51, false), []⟩, ⟨some 62, .pick (.t 51) (.c (.bool true)) (.t 61), none, []⟩]).seq (ACode.cond (.t 62) ((ACode.region false [⟨some 4, .mv (.c (.bool false)), none, []⟩]).seq ACode.ret) ACode.skip)).seq (ACode.exit 1)) ACode.skip)).seq ((ACode.region false [⟨some 9, .mv (.c (.slice none 0 0)), none, []⟩]).seq ((ACode.region false [⟨some 63, .mv (.t 5), none, []⟩, ⟨some 64, .call 27 [.t 63], none, []⟩, ⟨some 10, .mv (.t 64), none, []⟩]).seq (((ACode.region false [⟨some 11, .mv (.c (.int .i64 (0))), none, []⟩]).seq (ACode.block 2 (((ACode.region false [⟨some 65, .mv (.t 11), none, []⟩, ⟨some 66, .mv (.t 10), none, []⟩, ⟨some 67, .len (.t 66), none, []⟩, ⟨some 68, .bin .lss (.t 65) (.t 67), none, []⟩]).seq (ACode.cond (.t 68) ACode.skip (ACode.exit 2))).seq ((ACode.block 3 ((ACode.region true [⟨some 71, .mv (.t 10), none, []⟩, ⟨some 72, .mv (.t 11), none, []⟩, ⟨some 73, .idxAddr 1 (.t 71) (.t 72), none, [0, 1]⟩, ⟨some 74, .load 1 false (.t 73), none, [2]⟩, ⟨some 75, .mv (.t 1), none, []⟩, ⟨some 76, .mv (.t 6), none, []⟩, ⟨some 77, .idxAddr 1 (.t 75) (.t 76), none, [4, 5]⟩, ⟨some 78, .load 1 false (.t 77), none, [6]⟩, ⟨some 79, .bin .neq (.t 74) (.t 78), none, [3, 7]⟩]).seq (ACode.cond (.t 79) (ACode.region false [⟨some 80, .mv (.t 9), none, []⟩, ⟨some 81, .mv (.t 10), none, []⟩, ⟨some 82, .mv (.t 11), none, []⟩, ⟨some 83, .idxAddr 1 (.t 81) (.t 82), none, []⟩, ⟨some 84, .load 1 false (.t 83), none, []⟩, ⟨some 85, .buildSlice 9 1 [.t 84], none, []⟩, ⟨some 86, .append 9 1 16 (.t 80) (.t 85), none, []⟩, ⟨some 9, .mv (.t 86), none, []⟩]) ACode.skip))).seq (ACode.region false [⟨some 69, .mv (.t 11), none, []⟩, ⟨some 70, .bin .add (.t 69) (.c (.int .i64 (1))), none, []⟩, ⟨some 11, .mv (.t 70), none, []⟩]))).loop)).seq (((ACode.region false [⟨some 87, .mv (.t 7), none, []⟩, ⟨some 88, .call 27 [.t 87], none, []⟩, ⟨some 89, .mv (.t 9), none, []⟩, ⟨some 90, .call 26 [.t 88, .t 89], none, []⟩, ⟨some 91, .un .not (.t 90), none, []⟩, ⟨some 92, .mv (.t 91), none, []⟩, ⟨some 93, .mv (.t 9), some (92, false), []⟩, ⟨some 94, .len (.t 93), some (92, false), []⟩, ⟨some 95, .bin .add (.t 94) (.c (.int .i64 (1))), some (92, false), []⟩, ⟨some 96, .mv (.t 10), some (92, false), []⟩, ⟨some 97, .len (.t 96), some (92, false), []⟩, ⟨some 98, .bin .neq (.t 95) (.t 97), some (92, false), []⟩, ⟨some 99, .pick (.t 92) (.c (.bool true)) (.t 98), none, []⟩, ⟨some 100, .mv (.t 99), none, []⟩, ⟨some 101, .mv (.t 7), some (100, false), []⟩, ⟨some 102, .call 29 [.t 101], some (100, false), []⟩, ⟨some 103, .mv (.t 0), some (100, false), []⟩, ⟨some 104, .call 29 [.t 103], some (100, false), []⟩, ⟨some 105, .call 25 [.t 102, .t 104], some (100, false), []⟩, ⟨some 106, .un .not (.t 105), some (100, false), []⟩, ⟨some 107, .pick (.t 100) (.c (.bool true)) (.t 106), none, []⟩]).seq (ACode.cond (.t 107) ((ACode.region false [⟨some 4, .mv (.c (.bool false)), none, []⟩]).seq ACode.ret) ACode.skip)).seq (ACode.region false [⟨some 108, .mv (.t 7), none, []⟩, ⟨some 5, .mv (.t 108), none, []⟩])))))))).seq (ACode.region false [⟨some 35, .mv (.t 6), none, []⟩, ⟨some 36, .bin .add (.t 35) (.c (.int .i64 (1))), none, []⟩, ⟨some 6, .mv (.t 36), none, []⟩]))).loop)).seq (((ACode.region false [⟨some 12, .mv (.c (.int .i64 (0))), none, []⟩]).seq (ACode.block 4 (((ACode.region false [⟨some 109, .mv (.t 12), none, []⟩, ⟨some 110, .mv (.t 5), none, []⟩, ⟨some 111, .len (.t 110), none, []⟩, ⟨some 112, .bin .lss (.t 109) (.t 111), none, []⟩]).seq (ACode.cond (.t 112) ACode.skip (ACode.exit 4))).seq ((ACode.block 5 ((ACode.region false [⟨some 13, .mv (.c (.int .i64 (0))), none, []⟩]).seq (ACode.block 6 (((ACode.region false [⟨some 115, .mv (.t 13), none, []⟩, ⟨some 116, .mv (.t 5), none, []⟩, ⟨some 117, .mv (.t 12), none, []⟩, ⟨some 118, .idxAddr 3 (.t 116) (.t 117), none, []⟩, ⟨some 119, .fieldAddr 1 (.t 118), none, []⟩, ⟨some 120, .load 1 false (.t 119), none, []⟩, ⟨some 121, .len (.t 120), none, []⟩, ⟨some 122, .bin .lss (.t 115) (.t 121), none, []⟩, ⟨some 123, .mv (.t 122), none, []⟩, ⟨some 124, .mv (.t 5), some (123, true), []⟩, ⟨some 125, .mv (.t 12), some (123, true), []⟩, ⟨some 126, .idxAddr 3 (.t 124) (.t 125), some (123, true), []⟩, ⟨some 127, .fieldAddr 2 (.t 126), some (123, true), []⟩, ⟨some 128, .load 1 false (.t 127), some (123, true), []⟩, ⟨some 129, .pick (.t 123) (.t 128) (.c (.bool false)), none, []⟩]).seq (ACode.cond (.t 129) ACode.skip (ACode.exit 6))).seq ((ACode.block 7 ((ACode.region false [⟨some 14, .mv (.c (.int .i64 (0))), none, []⟩]).seq (ACode.block 8 (((ACode.region false [⟨some 132, .mv (.t 14), none, []⟩, ⟨some 133, .mv (.t 5), none, []⟩, ⟨some 134, .len (.t 133), none, []⟩, ⟨some 135, .bin .lss (.t 132) (.t 134), none, []⟩]).seq (ACode.cond (.t 135) ACode.skip (ACode.exit 8))).seq ((ACode.block 9 ((ACode.region true [⟨some 138, .mv (.t 5), none, []⟩, ⟨some 139, .mv (.t 14), none, []⟩, ⟨some 140, .idxAddr 3 (.t 138) (.t 139), none, [0, 1]⟩, ⟨some 141, .fieldAddr 0 (.t 140), none, [2]⟩, ⟨some 142, .load 1 false (.t 141), none, [3]⟩, ⟨some 143, .mv (.t 5), none, []⟩, ⟨some 144, .mv (.t 12), none, []⟩, ⟨some 145, .idxAddr 3 (.t 143) (.t 144), none, [5, 6]⟩, ⟨some 146, .fieldAddr 1 (.t 145), none, [7]⟩, ⟨some 147, .load 1 false (.t 146), none, [8]⟩, ⟨some 148, .mv (.t 13), none, []⟩, ⟨some 149, .idxAddr 1 (.t 147) (.t 148), none, [9, 10]⟩, ⟨some 150, .load 1 false (.t 149), none, [11]⟩, ⟨some 151, .bin .eql (.t 142) (.t 150), none, [4, 12]⟩, ⟨some 152, .mv (.t 151), none, [13]⟩, ⟨some 153, .mv (.t 5), some (152, true), [14]⟩, ⟨some 154, .mv (.t 14), some (152, true), [14]⟩, ⟨some 155, .idxAddr 3 (.t 153) (.t 154), some (152, true), [15, 16, 14]⟩, ⟨some 156, .fieldAddr 2 (.t 155), some (152, true), [17, 14]⟩, ⟨some 157, .load 1 false (.t 156), some (152, true), [18, 14]⟩, ⟨some 158, .un .not (.t 157), some (152, true), [19, 14]⟩, ⟨some 159, .pick (.t 152) (.t 158) (.c (.bool false)), none, [14, 20]⟩]).seq (ACode.cond (.t 159) ((ACode.region false [⟨some 4, .mv (.c (.bool false)), none, []⟩]).seq ACode.ret) ACode.skip))).seq (ACode.region false [⟨some 136, .mv (.t 14), none, []⟩, ⟨some 137, .bin .add (.t 136) (.c (.int .i64 (1))), none, []⟩, ⟨some 14, .mv (.t 137), none, []⟩]))).loop))).seq (ACode.region false [⟨some 130, .mv (.t 13), none, []⟩, ⟨some 131, .bin .add (.t 130) (.c (.int .i64 (1))), none, []⟩, ⟨some 13, .mv (.t 131), none, []⟩]))).loop))).seq (ACode.region false [⟨some 113, .mv (.t 12), none, []⟩, ⟨some 114, .bin .add (.t 113) (.c (.int .i64 (1))), none, []⟩, ⟨some 12, .mv (.t 114), none, []⟩]))).loop)).seq ((ACode.region false [⟨some 160, .call 11 [], none, []⟩, ⟨some 4, .mv (.t 160), none, []⟩]).seq ACode.ret))))))
theorem Tryz.F9 : FnFacts Tryz.prog 9 Tryz.f9 Tryz.ac9 161 [.tmp 4] := ⟨Tryz.func9, by kernel_rfl, by kernel_rfl, by kernel_rfl, by kernel_rfl, by kernel_rfl, by kernel_rfl, by kernel_rfl⟩
def Tryz.ac11 : ACode := ((ACode.region false [⟨some 0, .mv (.c (.bool false)), none, []⟩]).seq ((ACode.region false [⟨some 17, .call 30 [.c (.string ⟨⟨[(98 : UInt8)]⟩⟩), .c (.int .i64 (4)), .c (.int .i64 (6))], none, []⟩, ⟨some 18, .call 12 [.c (.slice none 0 0), .t 17, .c (.int .i64 (0))], none, []⟩, ⟨some 16, .mv (.t 18), none, []⟩, ⟨some 19, .extract (.t 16) 0, none, []⟩, ⟨some 20, .extract (.t 16) 1, none, []⟩, ⟨some 1, .mv (.t 19), none, []⟩, ⟨some 2, .mv (.t 20), none, []⟩]).seq ((ACode.region false [⟨some 22, .mv (.t 1), none, []⟩, ⟨some 23, .call 30 [.c (.string ⟨⟨[(97 : UInt8)]⟩⟩), .c (.int .i64 (1)), .c (.int .i64 (4))], none, []⟩, ⟨some 24, .call 12 [.t 22, .t 23, .c (.int .i64 (0))], none, []⟩, ⟨some 21, .mv (.t 24), none, []⟩, ⟨some 25, .extract (.t 21) 0, none, []⟩, ⟨some 26, .extract (.t 21) 1, none, []⟩, ⟨some 3, .mv (.t 25), none, []⟩, ⟨some 4, .mv (.t 26), none, []⟩]).seq ((ACode.region false [⟨some 28, .mv (.t 3), none, []⟩, ⟨some 29, .call 30 [.c (.string ⟨⟨[(99 : UInt8)]⟩⟩), .c (.int .i64 (5)), .c (.int .i64 (9))], none, []⟩, ⟨some 30, .call 12 [.t 28, .t 29, .c (.int .i64 (9))], none, []⟩, ⟨some 27, .mv (.t 30), none, []⟩, ⟨some 31, .extract (.t 27) 0, none, []⟩, ⟨some 32, .extract (.t 27) 1, none, []⟩, ⟨some 5, .mv (.t 31), none, []⟩, ⟨some 6, .mv (.t 32), none, []⟩]).seq ((ACode.region false [⟨some 34, .mv (.t 3), none, []⟩, ⟨some 35, .call 30 [.c (.string ⟨⟨[(97 : UInt8)]⟩⟩), .c (.int .i64 (5)), .c (.int .i64 (9))], none, []⟩, ⟨some 36, .call 12 [.t 34, .t 35, .c (.int .i64 (8))], none, []⟩, ⟨some 33, .mv (.t 36), none, []⟩, ⟨some 37, .extract (.t 33) 0, none, []⟩, ⟨some 38, .extract (.t 33) 1, none, []⟩, ⟨some 7, .mv (.t 37), none, []⟩, ⟨some 8, .mv (.t 38), none, []⟩]).seq ((ACode.region false [⟨some 39, .buildSlice 9 1 [.c (.string ⟨⟨[(98 : UInt8)]⟩⟩)], none, []⟩, ⟨some 40, .build [.string ⟨⟨[]⟩⟩, .slice none 0 0, .bool false] [(0, 1, .c (.string ⟨⟨[(97 : UInt8)]⟩⟩)), (1, 1, .t 39)], none, []⟩, ⟨some 41, .build [.string ⟨⟨[]⟩⟩, .slice none 0 0, .bool false] [(0, 1, .c (.string ⟨⟨[(98 : UInt8)]⟩⟩))], none, []⟩, ⟨some 42, .buildSlice 55 3 [.t 40, .t 41], none, []⟩, ⟨some 9, .mv (.t 42), none, []⟩]).seq ((ACode.region false [⟨some 44, .mv (.t 9), none, []⟩, ⟨some 45, .call 21 [.t 44, .c (.string ⟨⟨[(97 : UInt8)]⟩⟩)], none, []⟩, ⟨some 43, .mv (.t 45), none, []⟩, ⟨some 46, .extract (.t 43) 0, none, []⟩, ⟨some 47, .extract (.t 43) 1, none, []⟩, ⟨some 10, .mv (.t 46), none, []⟩, ⟨some 11, .mv (.t 47), none, []⟩]).seq ((ACode.region false [⟨some 49, .mv (.t 9), none, []⟩, ⟨some 50, .call 21 [.t 49, .c (.string ⟨⟨[(98 : UInt8)]⟩⟩)], none, []⟩, ⟨some 48, .mv (.t 50), none, []⟩, ⟨some 51, .extract (.t 48) 0, none, []⟩, ⟨some 52, .extract (.t 48) 1, none, []⟩, ⟨some 12, .mv (.t 51), none, []⟩, ⟨some 13, .mv (.t 52), none, []⟩]).seq ((ACode.region false [⟨some 54, .mv (.t 12), none, []⟩, ⟨some 55, .call 21 [.t 54, .c (.string ⟨⟨[(97 : UInt8)]⟩⟩)], none, []⟩, ⟨some 53, .mv (.t 55), none, []⟩, ⟨some 56, .extract (.t 53) 0, none, []⟩, ⟨some 57, .extract (.t 53) 1, none, []⟩, ⟨some 14, .mv (.t 56), none, []⟩, ⟨some 15, .mv (.t 57), none, []⟩]).seq (((ACode.region false [⟨some 58, .mv (.t 2), none, []⟩, ⟨some 59, .bin .neq (.t 58) (.c (.int .i64 (0))), none, []⟩, ⟨some 60, .mv (.t 59), none, []⟩, ⟨some 61, .mv (.t 4), some (60, false), []⟩, ⟨some 62, .bin .neq (.t 61) (.c (.int .i64 (0))), some (60, false), []⟩, ⟨some 63, .pick (.t 60) (.c (.bool true)) (.t 62), none, []⟩, ⟨some 64, .mv (.t 63), none, []⟩, ⟨some 65, .mv (.t 6), some (64, false), []⟩, ⟨some 66, .bin .neq (.t 65) (.c (.int .i64 (15))), some (64, false), []⟩, ⟨some 67, .pick (.t 64) (.c (.bool true)) (.t 66), none, []⟩, ⟨some 68, .mv (.t 67), none, []⟩, ⟨some 69, .mv (.t 8), some (68, false), []⟩, ⟨some 70, .bin .neq (.t 69) (.c (.int .i64 (7))), some (68, false), []⟩, ⟨some 71, .pick (.t 68) (.c (.bool true)) (.t 70), none, []⟩, ⟨some 72, .mv (.t 71), none, []⟩, ⟨some 73, .mv (.t 11), some (72, false), []⟩, ⟨some 74, .bin .neq (.t 73) (.c (.int .i64 (11))), some (72, false), []⟩, ⟨some 75, .pick (.t 72) (.c (.bool true)) (.t 74), none, []⟩, ⟨some 76, .mv (.t 75), none, []⟩, ⟨some 77, .mv (.t 13), some (76, false), []⟩, ⟨some 78, .bin .neq (.t 77) (.c (.int .i64 (0))), some (76, false), []⟩, ⟨some 79, .pick (.t 76) (.c (.bool true)) (.t 78), none, []⟩, ⟨some 80, .mv (.t 79), none, []⟩, ⟨some 81, .mv (.t 15), some (80, false), []⟩, ⟨some 82, .bin .neq (.t 81) (.c (.int .i64 (0))), some (80, false), []⟩, ⟨some 83, .pick (.t 80) (.c (.bool true)) (.t 82), none, []⟩, ⟨some 84, .mv (.t 83), none, []⟩, ⟨some 85, .mv (.t 9), some (84, false), []⟩, ⟨some 86, .call 23 [.t 85], some (84, false), []⟩, ⟨some 87, .bin .neq (.t 86) (.c (.int .i64 (0))), some (84, false), []⟩, ⟨some 88, .pick (.t 84) (.c (.bool true)) (.t 87), none, []⟩, ⟨some 89, .mv (.t 88), none, []⟩, ⟨some 90, .buildSlice 9 1 [.c (.string ⟨⟨[(98 : UInt8)]⟩⟩)], some (89, false), []⟩, ⟨some 91, .build [.string ⟨⟨[]⟩⟩, .slice none 0 0, .bool false] [(0, 1, .c (.string ⟨⟨[(97 : UInt8)]⟩⟩)), (1, 1, .t 90)], some (89, false), []⟩, ⟨some 92, .buildSlice 9 1 [.c (.string ⟨⟨[(97 : UInt8)]⟩⟩)], some (89, false), []⟩, ⟨some 93, .build [.string ⟨⟨[]⟩⟩, .slice none 0 0, .bool false] [(0, 1, .c (.string ⟨⟨[(98 : UInt8)]⟩⟩)), (1, 1, .t 92)], some (89, false), []⟩, ⟨some 94, .buildSlice 55 3 [.t 91, .t 93], some (89, false), []⟩, ⟨some 95, .call 23 [.t 94], some (89, false), []⟩, ⟨some 96, .bin .neq (.t 95) (.c (.int .i64 (20))), some (89, false), []⟩, ⟨some 97, .pick (.t 89) (.c (.bool true)) (.t 96), none, []⟩]).seq (ACode.cond (.t 97) ((ACode.region false [⟨some 0, .mv (.c (.bool false)), none, []⟩]).seq ACode.ret) ACode.skip)).seq ((ACode.region false [⟨some 98, .mv (.t 3), none, []⟩, ⟨some 99, .call 30 [.c (.string ⟨⟨[(97 : UInt8)]⟩⟩), .c (.int .i64 (1)), .c (.int .i64 (4))], none, []⟩, ⟨some 100, .call 30 [.c (.string ⟨⟨[(98 : UInt8)]⟩⟩), .c (.int .i64 (4)), .c (.int .i64 (6))], none, []⟩, ⟨some 101, .buildSlice 26 4 [.t 99, .t 100], none, []⟩, ⟨some 102, .call 14 [.t 98, .t 101], none, []⟩, ⟨some 103, .mv (.t 102), none, []⟩, ⟨some 104, .mv (.t 3), some (103, true), []⟩, ⟨some 105, .call 15 [.t 104, .c (.int .i64 (1)), .c (.int .i64 (4))], some (103, true), []⟩, ⟨some 106, .pick (.t 103) (.t 105) (.c (.bool false)), none, []⟩, ⟨some 107, .mv (.t 106), none, []⟩, ⟨some 108, .mv (.t 3), some (107, true), []⟩, ⟨some 109, .call 15 [.t 108, .c (.int .i64 (2)), .c (.int .i64 (4))], some (107, true), []⟩, ⟨some 110, .un .not (.t 109), some (107, true), []⟩, ⟨some 111, .pick (.t 107) (.t 110) (.c (.bool false)), none, []⟩, ⟨some 112, .mv (.t 111), none, []⟩, ⟨some 113, .mv (.t 3), some (112, true), []⟩, ⟨some 114, .call 15 [.t 113, .c (.int .i64 (1)), .c (.int .i64 (6))], some (112, true), []⟩, ⟨some 115, .un .not (.t 114), some (112, true), []⟩, ⟨some 116, .pick (.t 112) (.t 115) (.c (.bool false)), none, []⟩, ⟨some 117, .mv (.t 116), none, []⟩, ⟨some 118, .mv (.t 3), some (117, true), []⟩, ⟨some 119, .build [.int .i64 (0), .int .i64 (0)] [(1, 1, .c (.int .i64 (5)))], some (117, true), []⟩, ⟨some 120, .call 18 [.t 118, .c (.int .i64 (1)), .t 119], some (117, true), []⟩, ⟨some 121, .build [.int .i64 (0), .int .i64 (0)] [(0, 1, .c (.int .i64 (1))), (1, 1, .c (.int .i64 (5)))], some (117, true), []⟩, ⟨some 122, .buildSlice 24 2 [.t 121], some (117, true), []⟩, ⟨some 123, .call 17 [.t 120, .t 122], some (117, true), []⟩, ⟨some 124, .pick (.t 117) (.t 123) (.c (.bool false)), none, []⟩, ⟨some 125, .mv (.t 124), none, []⟩, ⟨some 126, .mv (.t 12), some (125, true), []⟩, ⟨some 127, .call 27 [.t 126], some (125, true), []⟩, ⟨some 128, .buildSlice 9 1 [.c (.string ⟨⟨[(97 : UInt8)]⟩⟩)], some (125, true), []⟩, ⟨some 129, .call 26 [.t 127, .t 128], some (125, true), []⟩, ⟨some 130, .pick (.t 125) (.t 129) (.c (.bool false)), none, []⟩, ⟨some 131, .mv (.t 130), none, []⟩, ⟨some 132, .mv (.t 14), some (131, true), []⟩, ⟨some 133, .call 27 [.t 132], some (131, true), []⟩, ⟨some 134, .len (.t 133), some (131, true), []⟩, ⟨some 135, .bin .eql (.t 134) (.c (.int .i64 (0))), some (131, true), []⟩, ⟨some 136, .pick (.t 131) (.t 135) (.c (.bool false)), none, []⟩, ⟨some 0, .mv (.t 136), none, []⟩]).seq ACode.ret)))))))))))
theorem Tryz.F11 : FnFacts Tryz.prog 11 Tryz.f11 Tryz.ac11 137 [.tmp 0] := ⟨Tryz.func11, by kernel_rfl, by kernel_rfl, by kernel_rfl, by kernel_rfl, by kernel_rfl, by kernel_rfl, by kernel_rfl⟩
def Tryz.ac12 : ACode := ((ACode.region false [⟨some 4, .box 4 (.t 1), none, []⟩, ⟨some 6, .mv (.c (.slice none 0 0)), none, []⟩, ⟨some 7, .mv (.c (.int .i64 (0))), none, []⟩]).seq ((ACode.block 0 ((ACode.region false [⟨some 10, .fieldAddr 0 (.t 4), none, []⟩, ⟨some 11, .load 1 false (.t 10), none, []⟩, ⟨some 12, .call 31 [.t 11], none, []⟩, ⟨some 13, .un .not (.t 12), none, []⟩, ⟨some 9, .mv (.t 13), none, []⟩]).seq (ACode.cond (.t 9) ((ACode.region false [⟨some 6, .mv (.c (.slice none 0 0)), none, []⟩, ⟨some 7, .mv (.c (.int .i64 (6))), none, []⟩]).seq ACode.ret) ((ACode.region false [⟨some 15, .fieldAddr 1 (.t 4), none, []⟩, ⟨some 16, .load 1 false (.t 15), none, []⟩, ⟨some 17, .bin .lss (.t 16) (.c (.int .i64 (1))), none, []⟩, ⟨some 18, .mv (.t 17), none, []⟩, ⟨some 19, .fieldAddr 1 (.t 4), some (18, false), []⟩, ⟨some 20, .load 1 false (.t 19), some (18, false), []⟩, ⟨some 21, .bin .gtr (.t 20) (.c (.int .i64 (4))), some (18, false), []⟩, ⟨some 22, .pick (.t 18) (.c (.bool true)) (.t 21), none, []⟩, ⟨some 14, .mv (.t 22), none, []⟩]).seq (ACode.cond (.t 14) ((ACode.region false [⟨some 6, .mv (.c (.slice none 0 0)), none, []⟩, ⟨some 7, .mv (.c (.int .i64 (10))), none, []⟩]).seq ACode.ret) ((ACode.region false [⟨some 24, .fieldAddr 2 (.t 4), none, []⟩, ⟨some 25, .fieldAddr 0 (.t 24), none, []⟩, ⟨some 26, .load 1 false (.t 25), none, []⟩, ⟨some 27, .bin .lss (.t 26) (.c (.int .i64 (0))), none, []⟩, ⟨some 28, .mv (.t 27), none, []⟩, ⟨some 29, .fieldAddr 2 (.t 4), some (28, false), []⟩, ⟨some 30, .fieldAddr 0 (.t 29), some (28, false), []⟩, ⟨some 31, .load 1 false (.t 30), some (28, false), []⟩, ⟨some 32, .fieldAddr 2 (.t 4), some (28, false), []⟩, ⟨some 33, .fieldAddr 1 (.t 32), some (28, false), []⟩, ⟨some 34, .load 1 false (.t 33), some (28, false), []⟩, ⟨some 35, .bin .geq (.t 31) (.t 34), some (28, false), []⟩, ⟨some 36, .pick (.t 28) (.c (.bool true)) (.t 35), none, []⟩, ⟨some 37, .mv (.t 36), none, []⟩, ⟨some 38, .fieldAddr 2 (.t 4), some (37, false), []⟩, ⟨some 39, .fieldAddr 1 (.t 38), some (37, false), []⟩, ⟨some 40, .load 1 false (.t 39), some (37, false), []⟩, ⟨some 41, .bin .gtr (.t 40) (.c (.int .i64 (1048576))), some (37, false), []⟩, ⟨some 42, .pick (.t 37) (.c (.bool true)) (.t 41), none, []⟩, ⟨some 43, .mv (.t 42), none, []⟩, ⟨some 44, .fieldAddr 2 (.t 4), some (43, false), []⟩, ⟨some 45, .fieldAddr 1 (.t 44), some (43, false), []⟩, ⟨some 46, .load 1 false (.t 45), some (43, false), []⟩, ⟨some 47, .mv (.t 2), some (43, false), []⟩, ⟨some 48, .bin .leq (.t 46) (.t 47), some (43, false), []⟩, ⟨some 49, .pick (.t 43) (.c (.bool true)) (.t 48), none, []⟩, ⟨some 23, .mv (.t 49), none, []⟩]).seq (ACode.cond (.t 23) ((ACode.region false [⟨some 6, .mv (.c (.slice none 0 0)), none, []⟩, ⟨some 7, .mv (.c (.int .i64 (15))), none, []⟩]).seq ACode.ret) ((ACode.region false [⟨some 51, .mv (.t 0), none, []⟩, ⟨some 52, .mkfn 33 [.t 4], none, []⟩, ⟨some 53, .call 32 [.t 51, .t 52], none, []⟩, ⟨some 50, .mv (.t 53), none, []⟩]).seq (ACode.cond (.t 50) ((ACode.region false [⟨some 6, .mv (.c (.slice none 0 0)), none, []⟩, ⟨some 7, .mv (.c (.int .i64 (7))), none, []⟩]).seq ACode.ret) ((ACode.region false [⟨some 55, .mv (.t 0), none, []⟩, ⟨some 56, .len (.t 55), none, []⟩, ⟨some 57, .bin .geq (.t 56) (.c (.int .i64 (64))), none, []⟩, ⟨some 54, .mv (.t 57), none, []⟩]).seq (ACode.cond (.t 54) ((ACode.region false [⟨some 6, .mv (.c (.slice none 0 0)), none, []⟩, ⟨some 7, .mv (.c (.int .i64 (12))), none, []⟩]).seq ACode.ret) ACode.skip))))))))))).seq ((ACode.region false [⟨some 58, .mv (.t 0), none, []⟩, ⟨some 59, .mkfn 35 [.t 4], none, []⟩, ⟨some 60, .call 34 [.t 58, .t 59], none, []⟩, ⟨some 8, .mv (.t 60), none, []⟩]).seq (((ACode.region false [⟨some 61, .mv (.t 8), none, []⟩, ⟨some 62, .bin .lss (.t 61) (.c (.int .i64 (0))), none, []⟩]).seq (ACode.cond (.t 62) (ACode.region false [⟨some 63, .mv (.t 0), none, []⟩, ⟨some 64, .len (.t 63), none, []⟩, ⟨some 8, .mv (.t 64), none, []⟩]) ACode.skip)).seq ((ACode.region true [⟨some 65, .mv (.t 0), none, []⟩, ⟨some 66, .call 37 [.t 65], none, [0]⟩, ⟨some 67, .mv (.t 8), none, []⟩, ⟨some 68, .load 4 true (.t 4), none, []⟩, ⟨some 69, .buildSlice 26 4 [.t 68], none, [3]⟩, ⟨some 70, .call 36 [.t 66, .t 67, .t 69], none, [1, 2, 4, 1]⟩, ⟨some 6, .mv (.t 70), none, [5, 5, 0, 1, 2, 3, 4, 5]⟩, ⟨some 7, .mv (.c (.int .i64 (0))), none, [6, 0, 1, 2, 3, 4, 5, 6]⟩]).seq ACode.ret)))))
theorem Tryz.F12 : FnFacts Tryz.prog 12 Tryz.f12 Tryz.ac12 71 [.tmp 6, .tmp 7] := ⟨Tryz.func12, by kernel_rfl, by kernel_rfl, by kernel_rfl, by kernel_rfl, by kernel_rfl, by kernel_rfl, by kernel_rfl⟩
def Tryz.ac14 : ACode := ((ACode.region false [⟨some 4, .mv (.c (.bool false)), none, []⟩]).seq (((ACode.region false [⟨some 6, .mv (.t 0), none, []⟩, ⟨some 7, .len (.t 6), none, []⟩, ⟨some 8, .mv (.t 1), none, []⟩, ⟨some 9, .len (.t 8), none, []⟩, ⟨some 10, .bin .neq (.t 7) (.t 9), none, []⟩]).seq (ACode.cond (.t 10) ((ACode.region false [⟨some 4, .mv (.c (.bool false)), none, []⟩]).seq ACode.ret) ACode.skip)).seq (((ACode.region false [⟨some 5, .mv (.c (.int .i64 (0))), none, []⟩]).seq (ACode.block 0 (((ACode.region false [⟨some 11, .mv (.t 5), none, []⟩, ⟨some 12, .mv (.t 0), none, []⟩, ⟨some 13, .len (.t 12), none, []⟩, ⟨some 14, .bin .lss (.t 11) (.t 13), none, []⟩]).seq (ACode.cond (.t 14) ACode.skip (ACode.exit 0))).seq ((ACode.block 1 ((ACode.region true [⟨some 17, .mv (.t 0), none, []⟩, ⟨some 18, .mv (.t 5), none, []⟩, ⟨some 19, .idxAddr 4 (.t 17) (.t 18), none, [0, 1]⟩, ⟨some 20, .load 4 true (.t 19), none, [2]⟩, ⟨some 21, .mv (.t 1), none, []⟩, ⟨some 22, .mv (.t 5), none, []⟩, ⟨some 23, .idxAddr 4 (.t 21) (.t 22), none, [4, 5]⟩, ⟨some 24, .load 4 true (.t 23), none, [6]⟩, ⟨some 25, .eqAgg true [2, 0, 0, 0] (.t 20) (.t 24), none, [3, 7]⟩]).seq (ACode.cond (.t 25) ((ACode.region false [⟨some 4, .mv (.c (.bool false)), none, []⟩]).seq ACode.ret) ACode.skip))).seq (ACode.region false [⟨some 15, .mv (.t 5), none, []⟩, ⟨some 16, .bin .add (.t 15) (.c (.int .i64 (1))), none, []⟩, ⟨some 5, .mv (.t 16), none, []⟩]))).loop)).seq ((ACode.region false [⟨some 4, .mv (.c (.bool true)), none, []⟩]).seq ACode.ret))))
theorem Tryz.F14 : FnFacts Tryz.prog 14 Tryz.f14 Tryz.ac14 26 [.tmp 4] := ⟨Tryz.func14, by kernel_rfl, by kernel_rfl, by kernel_rfl, by kernel_rfl, by kernel_rfl, by kernel_rfl, by kernel_rfl⟩
def Tryz.ac15 : ACode := ((ACode.region false [⟨some 4, .box 1 (.t 1), none, []⟩, ⟨some 5, .box 1 (.t 2), none, []⟩, ⟨some 6, .mv (.c (.bool false)), none, []⟩]).seq ((ACode.region false [⟨some 7, .mv (.t 0), none, []⟩, ⟨some 8, .mkfn 39 [.t 4, .t 5], none, []⟩, ⟨some 9, .call 32 [.t 7, .t 8], none, []⟩, ⟨some 6, .mv (.t 9), none, []⟩]).seq ACode.ret))
theorem Tryz.F15 : FnFacts Tryz.prog 15 Tryz.f15 Tryz.ac15 10 [.tmp 6] := ⟨Tryz.func15, by kernel_rfl, by kernel_rfl, by kernel_rfl, by kernel_rfl, by kernel_rfl, by kernel_rfl, by kernel_rfl⟩
def Tryz.ac17 : ACode := ((ACode.region false [⟨some 4, .mv (.c (.bool false)), none, []⟩]).seq (((ACode.region false [⟨some 6, .mv (.t 0), none, []⟩, ⟨some 7, .len (.t 6), none, []⟩, ⟨some 8, .mv (.t 1), none, []⟩, ⟨some 9, .len (.t 8), none, []⟩, ⟨some 10, .bin .neq (.t 7) (.t 9), none, []⟩]).seq (ACode.cond (.t 10) ((ACode.region false [⟨some 4, .mv (.c (.bool false)), none, []⟩]).seq ACode.ret) ACode.skip)).seq (((ACode.region false [⟨some 5, .mv (.c (.int .i64 (0))), none, []⟩]).seq (ACode.block 0 (((ACode.region false [⟨some 11, .mv (.t 5), none, []⟩, ⟨some 12, .mv (.t 0), none, []⟩, ⟨some 13, .len (.t 12), none, []⟩, ⟨some 14, .bin .lss (.t 11) (.t 13), none, []⟩]).seq (ACode.cond (.t 14) ACode.skip (ACode.exit 0))).seq ((ACode.block 1 ((ACode.region true [⟨some 17, .mv (.t 0), none, []⟩, ⟨some 18, .mv (.t 5), none, []⟩, ⟨some 19, .idxAddr 2 (.t 17) (.t 18), none, [0, 1]⟩, ⟨some 20, .load 2 true (.t 19), none, [2]⟩, ⟨some 21, .mv (.t 1), none, []⟩, ⟨some 22, .mv (.t 5), none, []⟩, ⟨some 23, .idxAddr 2 (.t 21) (.t 22), none, [4, 5]⟩, ⟨some 24, .load 2 true (.t 23), none, [6]⟩, ⟨some 25, .eqAgg true [0, 0] (.t 20) (.t 24), none, [3, 7]⟩]).seq (ACode.cond (.t 25) ((ACode.region false [⟨some 4, .mv (.c (.bool false)), none, []⟩]).seq ACode.ret) ACode.skip))).seq (ACode.region false [⟨some 15, .mv (.t 5), none, []⟩, ⟨some 16, .bin .add (.t 15) (.c (.int .i64 (1))), none, []⟩, ⟨some 5, .mv (.t 16), none, []⟩]))).loop)).seq ((ACode.region false [⟨some 4, .mv (.c (.bool true)), none, []⟩]).seq ACode.ret))))
theorem Tryz.F17 : FnFacts Tryz.prog 17 Tryz.f17 Tryz.ac17 26 [.tmp 4] := ⟨Tryz.func17, by kernel_rfl, by kernel_rfl, by kernel_rfl, by kernel_rfl, by kernel_rfl, by kernel_rfl, by kernel_rfl⟩
def Tryz.ac18 : ACode := ((ACode.region false [⟨some 5, .box 2 (.t 2), none, []⟩, ⟨some 6, .mv (.c (.slice none 0 0)), none, []⟩]).seq ((ACode.region false [⟨some 7, .mv (.c (.slice none 0 0)), none, []⟩]).seq (((ACode.region false [⟨some 10, .mv (.t 0), none, []⟩, ⟨some 11, .len (.t 10), none, []⟩, ⟨some 12, .mv (.c (.int .i64 (0))), none, []⟩]).seq (ACode.block 0 ((ACode.region false [⟨some 13, .bin .lss (.t 12) (.t 11), none, []⟩]).seq ((ACode.cond (.t 13) ACode.skip (ACode.exit 0)).seq ((ACode.block 1 ((ACode.region false [⟨some 14, .idxAddr 4 (.t 10) (.t 12), none, []⟩, ⟨some 15, .load 4 true (.t 14), none, []⟩, ⟨some 9, .alloc [.string ⟨⟨[]⟩⟩, .int .i64 (0), .int .i64 (0), .int .i64 (0)], none, []⟩, ⟨none, .store 4 (.t 9) (.t 15), none, []⟩]).seq ((ACode.region false [⟨some 16, .fieldAddr 1 (.t 9), none, []⟩, ⟨some 17, .load 1 false (.t 16), none, []⟩, ⟨some 18, .mv (.t 1), none, []⟩, ⟨some 19, .bin .eql (.t 17) (.t 18), none, []⟩]).seq (ACode.cond (.t 19) (ACode.region false [⟨some 20, .mv (.t 7), none, []⟩, ⟨some 21, .fieldAddr 2 (.t 9), none, []⟩, ⟨some 22, .load 2 true (.t 21), none, []⟩, ⟨some 23, .buildSlice 24 2 [.t 22], none, []⟩, ⟨some 24, .append 24 2 16 (.t 20) (.t 23), none, []⟩, ⟨some 7, .mv (.t 24), none, []⟩]) ACode.skip)))).seq (ACode.region false [⟨some 25, .bin .add (.t 12) (.c (.int .i64 (1))), none, []⟩, ⟨some 12, .mv (.t 25), none, []⟩])))).loop)).seq ((ACode.region false [⟨some 26, .mv (.t 7), none, []⟩, ⟨some 27, .load 2 true (.t 5), none, []⟩, ⟨some 28, .buildSlice 24 2 [.t 27], none, []⟩, ⟨some 29, .call 40 [.t 26, .t 28], none, []⟩, ⟨some 6, .mv (.t 29), none, []⟩]).seq ACode.ret))))
theorem Tryz.F18 : FnFacts Tryz.prog 18 Tryz.f18 Tryz.ac18 30 [.tmp 6] := ⟨Tryz.func18, by kernel_rfl, by kernel_rfl, by kernel_rfl, by kernel_rfl, by kernel_rfl, by kernel_rfl, by kernel_rfl⟩
def Tryz.ac20 : ACode := ((ACode.region false [⟨some 2, .mv (.c (.bool false)), none, []⟩]).seq (((ACode.region false [⟨some 3, .mv (.c (.int .i64 (0))), none, []⟩]).seq (ACode.block 0 (((ACode.region false [⟨some 5, .mv (.t 3), none, []⟩, ⟨some 6, .mv (.t 0), none, []⟩, ⟨some 7, .len (.t 6), none, []⟩, ⟨some 8, .bin .lss (.t 5) (.t 7), none, []⟩, ⟨some 9, .mv (.t 8), none, []⟩, ⟨some 10, .mv (.t 3), some (9, true), []⟩, ⟨some 11, .bin .lss (.t 10) (.c (.int .i64 (71))), some (9, true), []⟩, ⟨some 12, .pick (.t 9) (.t 11) (.c (.bool false)), none, []⟩]).seq (ACode.cond (.t 12) ACode.skip (ACode.exit 0))).seq ((ACode.block 1 (((ACode.region false [⟨some 15, .mv (.t 0), none, []⟩, ⟨some 16, .mv (.t 3), none, []⟩, ⟨some 17, .idxAddr 3 (.t 15) (.t 16), none, []⟩, ⟨some 18, .fieldAddr 0 (.t 17), none, []⟩, ⟨some 19, .load 1 false (.t 18), none, []⟩, ⟨some 20, .lenStr (.t 19), none, []⟩, ⟨some 21, .bin .gtr (.t 20) (.c (.int .i64 (100))), none, []⟩, ⟨some 22, .mv (.t 21), none, []⟩, ⟨some 23, .mv (.t 0), some (22, false), []⟩, ⟨some 24, .mv (.t 3), some (22, false), []⟩, ⟨some 25, .idxAddr 3 (.t 23) (.t 24), some (22, false), []⟩, ⟨some 26, .fieldAddr 1 (.t 25), some (22, false), []⟩, ⟨some 27, .load 1 false (.t 26), some (22, false), []⟩, ⟨some 28, .len (.t 27), some (22, false), []⟩, ⟨some 29, .bin .gtr (.t 28) (.c (.int .i64 (30))), some (22, false), []⟩, ⟨some 30, .pick (.t 22) (.c (.bool true)) (.t 29), none, []⟩]).seq (ACode.cond (.t 30) ((ACode.region false [⟨some 2, .mv (.c (.bool false)), none, []⟩]).seq ACode.ret) ACode.skip)).seq ((ACode.region false [⟨some 4, .mv (.c (.int .i64 (0))), none, []⟩]).seq (ACode.block 2 (((ACode.region false [⟨some 31, .mv (.t 4), none, []⟩, ⟨some 32, .mv (.t 0), none, []⟩, ⟨some 33, .mv (.t 3), none, []⟩, ⟨some 34, .idxAddr 3 (.t 32) (.t 33), none, []⟩, ⟨some 35, .fieldAddr 1 (.t 34), none, []⟩, ⟨some 36, .load 1 false (.t 35), none, []⟩, ⟨some 37, .len (.t 36), none, []⟩, ⟨some 38, .bin .lss (.t 31) (.t 37), none, []⟩]).seq (ACode.cond (.t 38) ACode.skip (ACode.exit 2))).seq ((ACode.block 3 ((ACode.region false [⟨some 41, .mv (.t 0), none, []⟩, ⟨some 42, .mv (.t 3), none, []⟩, ⟨some 43, .idxAddr 3 (.t 41) (.t 42), none, []⟩, ⟨some 44, .fieldAddr 1 (.t 43), none, []⟩, ⟨some 45, .load 1 false (.t 44), none, []⟩, ⟨some 46, .mv (.t 4), none, []⟩, ⟨some 47, .idxAddr 1 (.t 45) (.t 46), none, []⟩, ⟨some 48, .load 1 false (.t 47), none, []⟩, ⟨some 49, .lenStr (.t 48), none, []⟩, ⟨some 50, .bin .gtr (.t 49) (.c (.int .i64 (100))), none, []⟩]).seq (ACode.cond (.t 50) ((ACode.region false [⟨some 2, .mv (.c (.bool false)), none, []⟩]).seq ACode.ret) ACode.skip))).seq (ACode.region false [⟨some 39, .mv (.t 4), none, []⟩, ⟨some 40, .bin .add (.t 39) (.c (.int .i64 (1))), none, []⟩, ⟨some 4, .mv (.t 40), none, []⟩]))).loop)))).seq (ACode.region false [⟨some 13, .mv (.t 3), none, []⟩, ⟨some 14, .bin .add (.t 13) (.c (.int .i64 (1))), none, []⟩, ⟨some 3, .mv (.t 14), none, []⟩]))).loop)).seq ((ACode.region false [⟨some 51, .mv (.t 0), none, []⟩, ⟨some 52, .len (.t 51), none, []⟩, ⟨some 53, .bin .leq (.t 52) (.c (.int .i64 (70))), none, []⟩, ⟨some 2, .mv (.t 53), none, []⟩]).seq ACode.ret)))
theorem Tryz.F20 : FnFacts Tryz.prog 20 Tryz.f20 Tryz.ac20 54 [.tmp 2] := ⟨Tryz.func20, by kernel_rfl, by kernel_rfl, by kernel_rfl, by kernel_rfl, by kernel_rfl, by kernel_rfl, by kernel_rfl⟩
def Tryz.ac21 : ACode := ((ACode.region false [⟨some 4, .mv (.c (.slice none 0 0)), none, []⟩, ⟨some 5, .mv (.c (.int .i64 (0))), none, []⟩]).seq ((ACode.region false [⟨some 11, .mv (.t 0), none, []⟩, ⟨some 12, .mv (.t 1), none, []⟩, ⟨some 13, .call 42 [.t 11, .t 12], none, []⟩, ⟨some 6, .mv (.t 13), none, []⟩]).seq (((ACode.region false [⟨some 14, .mv (.t 6), none, []⟩, ⟨some 15, .bin .lss (.t 14) (.c (.int .i64 (0))), none, []⟩]).seq (ACode.cond (.t 15) ((ACode.region false [⟨some 4, .mv (.c (.slice none 0 0)), none, []⟩, ⟨some 5, .mv (.c (.int .i64 (8))), none, []⟩]).seq ACode.ret) ACode.skip)).seq (((ACode.region false [⟨some 16, .mv (.t 0), none, []⟩, ⟨some 17, .mv (.t 6), none, []⟩, ⟨some 18, .idxAddr 3 (.t 16) (.t 17), none, []⟩, ⟨some 19, .fieldAddr 2 (.t 18), none, []⟩, ⟨some 20, .load 1 false (.t 19), none, []⟩]).seq (ACode.cond (.t 20) ((ACode.region false [⟨some 4, .mv (.c (.slice none 0 0)), none, []⟩, ⟨some 5, .mv (.c (.int .i64 (14))), none, []⟩]).seq ACode.ret) ACode.skip)).seq (((ACode.region false [⟨some 21, .mv (.t 0), none, []⟩, ⟨some 22, .mv (.t 6), none, []⟩, ⟨some 23, .idxAddr 3 (.t 21) (.t 22), none, []⟩, ⟨some 24, .fieldAddr 1 (.t 23), none, []⟩, ⟨some 25, .load 1 false (.t 24), none, []⟩, ⟨some 26, .len (.t 25), none, []⟩, ⟨some 27, .mv (.c (.int .i64 (0))), none, []⟩]).seq (ACode.block 0 ((ACode.region false [⟨some 28, .bin .lss (.t 27) (.t 26), none, []⟩]).seq ((ACode.cond (.t 28) ACode.skip (ACode.exit 0)).seq ((ACode.block 1 ((ACode.region false [⟨some 29, .idxAddr 1 (.t 25) (.t 27), none, []⟩, ⟨some 30, .load 1 false (.t 29), none, []⟩, ⟨some 8, .mv (.t 30), none, []⟩]).seq ((ACode.region false [⟨some 31, .mv (.t 0), none, []⟩, ⟨some 32, .mv (.t 8), none, []⟩, ⟨some 33, .call 42 [.t 31, .t 32], none, []⟩, ⟨some 9, .mv (.t 33), none, []⟩]).seq ((ACode.region false [⟨some 34, .mv (.t 9), none, []⟩, ⟨some 35, .bin .lss (.t 34) (.c (.int .i64 (0))), none, []⟩, ⟨some 36, .mv (.t 35), none, []⟩, ⟨some 37, .mv (.t 0), some (36, false), []⟩, ⟨some 38, .mv (.t 9), some (36, false), []⟩, ⟨some 39, .idxAddr 3 (.t 37) (.t 38), some (36, false), []⟩, ⟨some 40, .fieldAddr 2 (.t 39), some (36, false), []⟩, ⟨some 41, .load 1 false (.t 40), some (36, false), []⟩, ⟨some 42, .un .not (.t 41), some (36, false), []⟩, ⟨some 43, .pick (.t 36) (.c (.bool true)) (.t 42), none, []⟩]).seq (ACode.cond (.t 43) ((ACode.region false [⟨some 4, .mv (.c (.slice none 0 0)), none, []⟩, ⟨some 5, .mv (.c (.int .i64 (11))), none, []⟩]).seq ACode.ret) ACode.skip))))).seq (ACode.region false [⟨some 44, .bin .add (.t 27) (.c (.int .i64 (1))), none, []⟩, ⟨some 27, .mv (.t 44), none, []⟩])))).loop)).seq ((ACode.region false [⟨some 45, .mv (.t 0), none, []⟩, ⟨some 46, .call 43 [.t 45], none, []⟩, ⟨some 4, .mv (.t 46), none, []⟩]).seq (((ACode.region false [⟨some 47, .mv (.t 4), none, []⟩, ⟨some 48, .len (.t 47), none, []⟩, ⟨some 49, .mv (.c (.int .i64 (0))), none, []⟩]).seq (ACode.block 2 ((ACode.region false [⟨some 50, .bin .lss (.t 49) (.t 48), none, []⟩]).seq ((ACode.cond (.t 50) ACode.skip (ACode.exit 2)).seq ((ACode.block 3 ((ACode.region false [⟨some 51, .mv (.t 49), none, []⟩, ⟨some 10, .mv (.t 51), none, []⟩]).seq (ACode.region false [⟨some 52, .mv (.t 4), none, []⟩, ⟨some 53, .mv (.t 10), none, []⟩, ⟨some 54, .mv (.t 4), none, []⟩, ⟨some 55, .mv (.t 10), none, []⟩, ⟨some 56, .idxAddr 3 (.t 54) (.t 55), none, []⟩, ⟨some 57, .fieldAddr 1 (.t 56), none, []⟩, ⟨some 58, .load 1 false (.t 57), none, []⟩, ⟨some 59, .call 44 [.t 58], none, []⟩, ⟨some 60, .idxAddr 3 (.t 52) (.t 53), none, []⟩, ⟨some 61, .fieldAddr 1 (.t 60), none, []⟩, ⟨none, .store 1 (.t 61) (.t 59), none, []⟩]))).seq (ACode.region false [⟨some 62, .bin .add (.t 49) (.c (.int .i64 (1))), none, []⟩, ⟨some 49, .mv (.t 62), none, []⟩])))).loop)).seq ((ACode.region false [⟨some 63, .mv (.t 4), none, []⟩, ⟨some 64, .mv (.t 6), none, []⟩, ⟨some 65, .idxAddr 3 (.t 63) (.t 64), none, []⟩, ⟨some 66, .fieldAddr 2 (.t 65), none, []⟩, ⟨none, .store 1 (.t 66) (.c (.bool true)), none, []⟩]).seq ((ACode.region false [⟨some 67, .mv (.t 4), none, []⟩, ⟨some 4, .mv (.t 67), none, []⟩, ⟨some 5, .mv (.c (.int .i64 (0))), none, []⟩]).seq ACode.ret)))))))))
theorem Tryz.F21 : FnFacts Tryz.prog 21 Tryz.f21 Tryz.ac21 68 [.tmp 4, .tmp 5] := ⟨Tryz.func21, by kernel_rfl, by kernel_rfl, by kernel_rfl, by kernel_rfl, by kernel_rfl, by kernel_rfl, by kernel_rfl⟩
def Tryz.ac22 : ACode := ((ACode.region false [⟨some 4, .mv (.c (.slice none 0 0)), none, []⟩, ⟨some 5, .mv (.c (.int .i64 (0))), none, []⟩]).seq ((ACode.region false [⟨some 12, .mv (.t 0), none, []⟩, ⟨some 13, .mv (.t 1), none, []⟩, ⟨some 14, .call 45 [.t 12, .t 13], none, []⟩, ⟨some 6, .mv (.t 14), none, []⟩]).seq (((ACode.region false [⟨some 15, .mv (.t 6), none, []⟩, ⟨some 16, .bin .lss (.t 15) (.c (.int .i64 (0))), none, []⟩]).seq (ACode.cond (.t 16) ((ACode.region false [⟨some 4, .mv (.c (.slice none 0 0)), none, []⟩, ⟨some 5, .mv (.c (.int .i64 (8))), none, []⟩]).seq ACode.ret) ACode.skip)).seq (((ACode.region false [⟨some 17, .mv (.t 0), none, []⟩, ⟨some 18, .mv (.t 6), none, []⟩, ⟨some 19, .idxAddr 3 (.t 17) (.t 18), none, []⟩, ⟨some 20, .fieldAddr 2 (.t 19), none, []⟩, ⟨some 21, .load 1 false (.t 20), none, []⟩]).seq (ACode.cond (.t 21) ((ACode.region false [⟨some 4, .mv (.c (.slice none 0 0)), none, []⟩, ⟨some 5, .mv (.c (.int .i64 (14))), none, []⟩]).seq ACode.ret) ACode.skip)).seq ((ACode.region false [⟨some 7, .mv (.c (.slice none 0 0)), none, []⟩]).seq (((ACode.region false [⟨some 8, .mv (.c (.int .i64 (0))), none, []⟩]).seq (ACode.block 0 (((ACode.region false [⟨some 22, .mv (.t 8), none, []⟩, ⟨some 23, .mv (.t 0), none, []⟩, ⟨some 24, .len (.t 23), none, []⟩, ⟨some 25, .bin .lss (.t 22) (.t 24), none, []⟩]).seq (ACode.cond (.t 25) ACode.skip (ACode.exit 0))).seq ((ACode.block 1 (ACode.region false [⟨some 28, .mv (.t 7), none, []⟩, ⟨some 29, .mv (.t 0), none, []⟩, ⟨some 30, .mv (.t 8), none, []⟩, ⟨some 31, .idxAddr 3 (.t 29) (.t 30), none, []⟩, ⟨some 32, .fieldAddr 2 (.t 31), none, []⟩, ⟨some 33, .load 1 false (.t 32), none, []⟩, ⟨some 34, .buildSlice 4 1 [.t 33], none, []⟩, ⟨some 35, .append 4 1 1 (.t 28) (.t 34), none, []⟩, ⟨some 7, .mv (.t 35), none, []⟩])).seq (ACode.region false [⟨some 26, .mv (.t 8), none, []⟩, ⟨some 27, .bin .add (.t 26) (.c (.int .i64 (1))), none, []⟩, ⟨some 8, .mv (.t 27), none, []⟩]))).loop)).seq (((ACode.region false [⟨some 36, .mv (.t 0), none, []⟩, ⟨some 37, .mv (.t 0), none, []⟩, ⟨some 38, .mv (.t 6), none, []⟩, ⟨some 39, .idxAddr 3 (.t 37) (.t 38), none, []⟩, ⟨some 40, .load 3 true (.t 39), none, []⟩, ⟨some 41, .mv (.t 7), none, []⟩, ⟨some 42, .call 46 [.t 36, .t 40, .t 41], none, []⟩, ⟨some 43, .un .not (.t 42), none, []⟩]).seq (ACode.cond (.t 43) ((ACode.region false [⟨some 4, .mv (.c (.slice none 0 0)), none, []⟩, ⟨some 5, .mv (.c (.int .i64 (11))), none, []⟩]).seq ACode.ret) ACode.skip)).seq ((ACode.region false [⟨some 9, .mv (.c (.slice none 0 0)), none, []⟩]).seq (((ACode.region false [⟨some 10, .mv (.c (.int .i64 (0))), none, []⟩]).seq (ACode.block 2 (((ACode.region false [⟨some 44, .mv (.t 10), none, []⟩, ⟨some 45, .mv (.t 0), none, []⟩, ⟨some 46, .len (.t 45), none, []⟩, ⟨some 47, .bin .lss (.t 44) (.t 46), none, []⟩]).seq (ACode.cond (.t 47) ACode.skip (ACode.exit 2))).seq ((ACode.block 3 ((ACode.region true [⟨some 50, .mv (.t 0), none, []⟩, ⟨some 51, .mv (.t 10), none, []⟩, ⟨some 52, .idxAddr 3 (.t 50) (.t 51), none, [0, 1]⟩, ⟨some 53, .fieldAddr 0 (.t 52), none, [2]⟩, ⟨some 54, .load 1 false (.t 53), none, [3]⟩, ⟨some 55, .buildSlice 9 1 [], none, []⟩, ⟨some 56, .mv (.t 0), none, []⟩, ⟨some 57, .mv (.t 10), none, []⟩, ⟨some 58, .idxAddr 3 (.t 56) (.t 57), none, [6, 7]⟩, ⟨some 59, .fieldAddr 1 (.t 58), none, [8]⟩, ⟨some 60, .load 1 false (.t 59), none, [9]⟩, ⟨some 61, .append 9 1 16 (.t 55) (.t 60), none, [5, 10]⟩, ⟨some 62, .mv (.t 0), none, []⟩, ⟨some 63, .mv (.t 10), none, []⟩, ⟨some 64, .idxAddr 3 (.t 62) (.t 63), none, [12, 13]⟩, ⟨some 65, .fieldAddr 2 (.t 64), none, [14]⟩, ⟨some 66, .load 1 false (.t 65), none, [15]⟩, ⟨some 67, .mv (.t 66), none, [16, 11]⟩, ⟨some 68, .mv (.t 10), some (67, false), [17]⟩, ⟨some 69, .mv (.t 6), some (67, false), [17]⟩, ⟨some 70, .bin .eql (.t 68) (.t 69), some (67, false), [18, 19, 17]⟩, ⟨some 71, .pick (.t 67) (.c (.bool true)) (.t 70), none, [17, 20]⟩, ⟨some 72, .build [.string ⟨⟨[]⟩⟩, .slice none 0 0, .bool false] [(0, 1, .t 54), (1, 1, .t 61), (2, 1, .t 71)], none, [4, 11, 21]⟩, ⟨some 11, .alloc [.string ⟨⟨[]⟩⟩, .slice none 0 0, .bool false], none, []⟩, ⟨none, .store 3 (.t 11) (.t 72), none, [23, 22, 17, 0, 1, 2, 3, 4, 5, 6, 7, 8, 9, 10, 11, 12, 13, 14, 15, 16, 17, 18, 19, 20, 21, 22, 23]⟩]).seq (ACode.region false [⟨some 73, .mv (.t 9), none, []⟩, ⟨some 74, .load 3 true (.t 11), none, []⟩, ⟨some 75, .buildSlice 55 3 [.t 74], none, []⟩, ⟨some 76, .append 55 3 48 (.t 73) (.t 75), none, []⟩, ⟨some 9, .mv (.t 76), none, []⟩]))).seq (ACode.region false [⟨some 48, .mv (.t 10), none, []⟩, ⟨some 49, .bin .add (.t 48) (.c (.int .i64 (1))), none, []⟩, ⟨some 10, .mv (.t 49), none, []⟩]))).loop)).seq ((ACode.region false [⟨some 77, .mv (.t 9), none, []⟩, ⟨some 4, .mv (.t 77), none, []⟩, ⟨some 5, .mv (.c (.int .i64 (0))), none, []⟩]).seq ACode.ret))))))))))
theorem Tryz.F22 : FnFacts Tryz.prog 22 Tryz.f22 Tryz.ac22 78 [.tmp 4, .tmp 5] := ⟨Tryz.func22, by kernel_rfl, by kernel_rfl, by kernel_rfl, by kernel_rfl, by kernel_rfl, by kernel_rfl, by kernel_rfl⟩
def Tryz.ac23 : ACode := ((ACode.region false [⟨some 2, .mv (.c (.int .i64 (0))), none, []⟩]).seq (((ACode.region false [⟨some 9, .mv (.t 0), none, []⟩, ⟨some 10, .len (.t 9), none, []⟩, ⟨some 11, .bin .gtr (.t 10) (.c (.int .i64 (64))), none, []⟩]).seq (ACode.cond (.t 11) ((ACode.region false [⟨some 2, .mv (.c (.int .i64 (4))), none, []⟩]).seq ACode.ret) ACode.skip)).seq (((ACode.region false [⟨some 12, .mv (.t 0), none, []⟩, ⟨some 13, .len (.t 12), none, []⟩, ⟨some 14, .mv (.c (.int .i64 (0))), none, []⟩]).seq (ACode.block 0 ((ACode.region false [⟨some 15, .bin .lss (.t 14) (.t 13), none, []⟩]).seq ((ACode.cond (.t 15) ACode.skip (ACode.exit 0)).seq ((ACode.block 1 ((ACode.region false [⟨some 16, .mv (.t 14), none, []⟩, ⟨some 17, .idxAddr 3 (.t 12) (.t 14), none, []⟩, ⟨some 18, .load 3 true (.t 17), none, []⟩, ⟨some 4, .alloc [.string ⟨⟨[]⟩⟩, .slice none 0 0, .bool false], none, []⟩, ⟨some 3, .mv (.t 16), none, []⟩, ⟨none, .store 3 (.t 4) (.t 18), none, []⟩]).seq (((ACode.region false [⟨some 19, .fieldAddr 0 (.t 4), none, []⟩, ⟨some 20, .load 1 false (.t 19), none, []⟩, ⟨some 21, .call 31 [.t 20], none, []⟩, ⟨some 22, .un .not (.t 21), none, []⟩]).seq (ACode.cond (.t 22) ((ACode.region false [⟨some 2, .mv (.c (.int .i64 (6))), none, []⟩]).seq ACode.ret) ACode.skip)).seq ((ACode.region true [⟨some 23, .mv (.t 3), none, []⟩, ⟨some 24, .bin .gtr (.t 23) (.c (.int .i64 (0))), none, [0]⟩, ⟨some 25, .mv (.t 24), none, [1]⟩, ⟨some 26, .fieldAddr 0 (.t 4), some (25, true), [2]⟩, ⟨some 27, .load 1 false (.t 26), some (25, true), [3, 2]⟩, ⟨some 28, .mv (.t 0), some (25, true), [2]⟩, ⟨some 29, .mv (.t 3), some (25, true), [2]⟩, ⟨some 30, .bin .sub (.t 29) (.c (.int .i64 (1))), some (25, true), [6, 2]⟩, ⟨some 31, .idxAddr 3 (.t 28) (.t 30), some (25, true), [5, 7, 2]⟩, ⟨some 32, .fieldAddr 0 (.t 31), some (25, true), [8, 2]⟩, ⟨some 33, .load 1 false (.t 32), some (25, true), [9, 2]⟩, ⟨some 34, .bin .leq (.t 27) (.t 33), some (25, true), [4, 10, 2]⟩, ⟨some 35, .pick (.t 25) (.t 34) (.c (.bool false)), none, [2, 11]⟩, ⟨some 36, .mv (.t 35), none, [12, 2]⟩, ⟨some 37, .fieldAddr 1 (.t 4), some (36, false), [13]⟩, ⟨some 38, .load 1 false (.t 37), some (36, false), [14, 13]⟩, ⟨some 39, .call 47 [.t 38], some (36, false), [15, 13, 13]⟩, ⟨some 40, .un .not (.t 39), some (36, false), [16, 13]⟩, ⟨some 41, .pick (.t 36) (.c (.bool true)) (.t 40), none, [13, 17]⟩]).seq (ACode.cond (.t 41) ((ACode.region false [⟨some 2, .mv (.c (.int .i64 (11))), none, []⟩]).seq ACode.ret) ACode.skip))))).seq (ACode.region false [⟨some 42, .bin .add (.t 14) (.c (.int .i64 (1))), none, []⟩, ⟨some 14, .mv (.t 42), none, []⟩])))).loop)).seq (((ACode.region false [⟨some 43, .mv (.t 0), none, []⟩, ⟨some 44, .len (.t 43), none, []⟩, ⟨some 45, .mv (.c (.int .i64 (0))), none, []⟩]).seq (ACode.block 2 ((ACode.region false [⟨some 46, .bin .lss (.t 45) (.t 44), none, []⟩]).seq ((ACode.cond (.t 46) ACode.skip (ACode.exit 2)).seq ((ACode.block 3 ((ACode.region false [⟨some 47, .idxAddr 3 (.t 43) (.t 45), none, []⟩, ⟨some 48, .load 3 true (.t 47), none, []⟩, ⟨some 6, .alloc [.string ⟨⟨[]⟩⟩, .slice none 0 0, .bool false], none, []⟩, ⟨none, .store 3 (.t 6) (.t 48), none, []⟩]).seq ((ACode.region false [⟨some 49, .fieldAddr 1 (.t 6), none, []⟩, ⟨some 50, .load 1 false (.t 49), none, []⟩, ⟨some 51, .len (.t 50), none, []⟩, ⟨some 52, .mv (.c (.int .i64 (0))), none, []⟩]).seq (ACode.block 4 ((ACode.region false [⟨some 53, .bin .lss (.t 52) (.t 51), none, []⟩]).seq ((ACode.cond (.t 53) ACode.skip (ACode.exit 4)).seq ((ACode.block 5 ((ACode.region false [⟨some 54, .idxAddr 1 (.t 50) (.t 52), none, []⟩, ⟨some 55, .load 1 false (.t 54), none, []⟩, ⟨some 8, .mv (.t 55), none, []⟩]).seq (((ACode.region false [⟨some 56, .mv (.t 8), none, []⟩, ⟨some 57, .fieldAddr 0 (.t 6), none, []⟩, ⟨some 58, .load 1 false (.t 57), none, []⟩, ⟨some 59, .bin .eql (.t 56) (.t 58), none, []⟩]).seq (ACode.cond (.t 59) ((ACode.region false [⟨some 2, .mv (.c (.int .i64 (2))), none, []⟩]).seq ACode.ret) ACode.skip)).seq ((ACode.region false [⟨some 60, .mv (.t 0), none, []⟩, ⟨some 61, .mv (.t 8), none, []⟩, ⟨some 62, .call 42 [.t 60, .t 61], none, []⟩, ⟨some 63, .bin .lss (.t 62) (.c (.int .i64 (0))), none, []⟩]).seq (ACode.cond (.t 63) ((ACode.region false [⟨some 2, .mv (.c (.int .i64 (8))), none, []⟩]).seq ACode.ret) ACode.skip))))).seq (ACode.region false [⟨some 64, .bin .add (.t 52) (.c (.int .i64 (1))), none, []⟩, ⟨some 52, .mv (.t 64), none, []⟩])))).loop)))).seq (ACode.region false [⟨some 65, .bin .add (.t 45) (.c (.int .i64 (1))), none, []⟩, ⟨some 45, .mv (.t 65), none, []⟩])))).loop)).seq (((ACode.region false [⟨some 66, .mv (.t 0), none, []⟩, ⟨some 67, .call 48 [.t 66], none, []⟩, ⟨some 68, .un .not (.t 67), none, []⟩]).seq (ACode.cond (.t 68) ((ACode.region false [⟨some 2, .mv (.c (.int .i64 (20))), none, []⟩]).seq ACode.ret) ACode.skip)).seq ((ACode.region false [⟨some 2, .mv (.c (.int .i64 (0))), none, []⟩]).seq ACode.ret))))))
theorem Tryz.F23 : FnFacts Tryz.prog 23 Tryz.f23 Tryz.ac23 69 [.tmp 2] := ⟨Tryz.func23, by kernel_rfl, by kernel_rfl, by kernel_rfl, by kernel_rfl, by kernel_rfl, by kernel_rfl, by kernel_rfl⟩
def Tryz.ac24 : ACode := ((ACode.region false [⟨some 2, .mv (.c (.int .i64 (0))), none, []⟩]).seq (((ACode.region false [⟨some 9, .mv (.t 0), none, []⟩, ⟨some 10, .len (.t 9), none, []⟩, ⟨some 11, .bin .gtr (.t 10) (.c (.int .i64 (64))), none, []⟩]).seq (ACode.cond (.t 11) ((ACode.region false [⟨some 2, .mv (.c (.int .i64 (4))), none, []⟩]).seq ACode.ret) ACode.skip)).seq (((ACode.region false [⟨some 12, .mv (.t 0), none, []⟩, ⟨some 13, .call 49 [.t 12], none, []⟩, ⟨some 3, .mv (.t 13), none, []⟩]).seq ((ACode.region false [⟨some 14, .mv (.t 3), none, []⟩, ⟨some 15, .bin .neq (.t 14) (.c (.int .i64 (0))), none, []⟩]).seq (ACode.cond (.t 15) ((ACode.region false [⟨some 16, .mv (.t 3), none, []⟩, ⟨some 2, .mv (.t 16), none, []⟩]).seq ACode.ret) ACode.skip))).seq (((ACode.region false [⟨some 17, .mv (.t 0), none, []⟩, ⟨some 18, .call 50 [.t 17], none, []⟩, ⟨some 4, .mv (.t 18), none, []⟩]).seq ((ACode.region false [⟨some 19, .mv (.t 4), none, []⟩, ⟨some 20, .bin .neq (.t 19) (.c (.int .i64 (0))), none, []⟩]).seq (ACode.cond (.t 20) ((ACode.region false [⟨some 21, .mv (.t 4), none, []⟩, ⟨some 2, .mv (.t 21), none, []⟩]).seq ACode.ret) ACode.skip))).seq ((ACode.region false [⟨some 22, .mv (.t 0), none, []⟩, ⟨some 23, .len (.t 22), none, []⟩, ⟨some 24, .make 4 1 1 [.bool false] (.t 23), none, []⟩, ⟨some 5, .mv (.t 24), none, []⟩]).seq (((ACode.region false [⟨some 6, .mv (.c (.int .i64 (0))), none, []⟩]).seq (ACode.block 0 (((ACode.region false [⟨some 25, .mv (.t 6), none, []⟩, ⟨some 26, .mv (.t 0), none, []⟩, ⟨some 27, .len (.t 26), none, []⟩, ⟨some 28, .bin .lss (.t 25) (.t 27), none, []⟩]).seq (ACode.cond (.t 28) ACode.skip (ACode.exit 0))).seq ((ACode.block 1 ((ACode.region false [⟨some 7, .mv (.c (.int .i64 (0))), none, []⟩]).seq (ACode.block 2 (((ACode.region false [⟨some 31, .mv (.t 7), none, []⟩, ⟨some 32, .mv (.t 0), none, []⟩, ⟨some 33, .len (.t 32), none, []⟩, ⟨some 34, .bin .lss (.t 31) (.t 33), none, []⟩]).seq (ACode.cond (.t 34) ACode.skip (ACode.exit 2))).seq ((ACode.block 3 ((ACode.region false [⟨some 37, .mv (.t 5), none, []⟩, ⟨some 38, .mv (.t 7), none, []⟩, ⟨some 39, .idxAddr 1 (.t 37) (.t 38), none, []⟩, ⟨some 40, .load 1 false (.t 39), none, []⟩, ⟨some 41, .un .not (.t 40), none, []⟩, ⟨some 42, .mv (.t 41), none, []⟩, ⟨some 43, .mv (.t 0), some (42, true), []⟩, ⟨some 44, .mv (.t 0), some (42, true), []⟩, ⟨some 45, .mv (.t 7), some (42, true), []⟩, ⟨some 46, .idxAddr 3 (.t 44) (.t 45), some (42, true), []⟩, ⟨some 47, .load 3 true (.t 46), some (42, true), []⟩, ⟨some 48, .mv (.t 5), some (42, true), []⟩, ⟨some 49, .call 46 [.t 43, .t 47, .t 48], some (42, true), []⟩, ⟨some 50, .pick (.t 42) (.t 49) (.c (.bool false)), none, []⟩]).seq (ACode.cond (.t 50) (ACode.region false [⟨some 51, .mv (.t 5), none, []⟩, ⟨some 52, .mv (.t 7), none, []⟩, ⟨some 53, .idxAddr 1 (.t 51) (.t 52), none, []⟩, ⟨none, .store 1 (.t 53) (.c (.bool true)), none, []⟩]) ACode.skip))).seq (ACode.region false [⟨some 35, .mv (.t 7), none, []⟩, ⟨some 36, .bin .add (.t 35) (.c (.int .i64 (1))), none, []⟩, ⟨some 7, .mv (.t 36), none, []⟩]))).loop))).seq (ACode.region false [⟨some 29, .mv (.t 6), none, []⟩, ⟨some 30, .bin .add (.t 29) (.c (.int .i64 (1))), none, []⟩, ⟨some 6, .mv (.t 30), none, []⟩]))).loop)).seq (((ACode.region false [⟨some 8, .mv (.c (.int .i64 (0))), none, []⟩]).seq (ACode.block 4 (((ACode.region false [⟨some 54, .mv (.t 8), none, []⟩, ⟨some 55, .mv (.t 0), none, []⟩, ⟨some 56, .len (.t 55), none, []⟩, ⟨some 57, .bin .lss (.t 54) (.t 56), none, []⟩]).seq (ACode.cond (.t 57) ACode.skip (ACode.exit 4))).seq ((ACode.block 5 ((ACode.region false [⟨some 60, .mv (.t 5), none, []⟩, ⟨some 61, .mv (.t 8), none, []⟩, ⟨some 62, .idxAddr 1 (.t 60) (.t 61), none, []⟩, ⟨some 63, .load 1 false (.t 62), none, []⟩, ⟨some 64, .un .not (.t 63), none, []⟩]).seq (ACode.cond (.t 64) ((ACode.region false [⟨some 2, .mv (.c (.int .i64 (20))), none, []⟩]).seq ACode.ret) ACode.skip))).seq (ACode.region false [⟨some 58, .mv (.t 8), none, []⟩, ⟨some 59, .bin .add (.t 58) (.c (.int .i64 (1))), none, []⟩, ⟨some 8, .mv (.t 59), none, []⟩]))).loop)).seq ((ACode.region false [⟨some 2, .mv (.c (.int .i64 (0))), none, []⟩]).seq ACode.ret))))))))
theorem Tryz.F24 : FnFacts Tryz.prog 24 Tryz.f24 Tryz.ac24 65 [.tmp 2] := ⟨Tryz.func24, by kernel_rfl, by kernel_rfl, by kernel_rfl, by kernel_rfl, by kernel_rfl, by kernel_rfl, by kernel_rfl⟩
def Tryz.ac25 : ACode := ((ACode.region false [⟨some 4, .mv (.c (.bool false)), none, []⟩]).seq (((ACode.region false [⟨some 6, .mv (.t 0), none, []⟩, ⟨some 7, .len (.t 6), none, []⟩, ⟨some 8, .mv (.t 1), none, []⟩, ⟨some 9, .len (.t 8), none, []⟩, ⟨some 10, .bin .neq (.t 7) (.t 9), none, []⟩]).seq (ACode.cond (.t 10) ((ACode.region false [⟨some 4, .mv (.c (.bool false)), none, []⟩]).seq ACode.ret) ACode.skip)).seq (((ACode.region false [⟨some 5, .mv (.c (.int .i64 (0))), none, []⟩]).seq (ACode.block 0 (((ACode.region false [⟨some 11, .mv (.t 5), none, []⟩, ⟨some 12, .mv (.t 0), none, []⟩, ⟨some 13, .len (.t 12), none, []⟩, ⟨some 14, .bin .lss (.t 11) (.t 13), none, []⟩]).seq (ACode.cond (.t 14) ACode.skip (ACode.exit 0))).seq ((ACode.block 1 ((ACode.region true [⟨some 17, .mv (.t 0), none, []⟩, ⟨some 18, .mv (.t 5), none, []⟩, ⟨some 19, .idxAddr 3 (.t 17) (.t 18), none, [0, 1]⟩, ⟨some 20, .fieldAddr 0 (.t 19), none, [2]⟩, ⟨some 21, .load 1 false (.t 20), none, [3]⟩, ⟨some 22, .mv (.t 1), none, []⟩, ⟨some 23, .mv (.t 5), none, []⟩, ⟨some 24, .idxAddr 3 (.t 22) (.t 23), none, [5, 6]⟩, ⟨some 25, .fieldAddr 0 (.t 24), none, [7]⟩, ⟨some 26, .load 1 false (.t 25), none, [8]⟩, ⟨some 27, .bin .neq (.t 21) (.t 26), none, [4, 9]⟩, ⟨some 28, .mv (.t 27), none, [10]⟩, ⟨some 29, .mv (.t 0), some (28, false), [11]⟩, ⟨some 30, .mv (.t 5), some (28, false), [11]⟩, ⟨some 31, .idxAddr 3 (.t 29) (.t 30), some (28, false), [12, 13, 11]⟩, ⟨some 32, .fieldAddr 2 (.t 31), some (28, false), [14, 11]⟩, ⟨some 33, .load 1 false (.t 32), some (28, false), [15, 11]⟩, ⟨some 34, .mv (.t 1), some (28, false), [11]⟩, ⟨some 35, .mv (.t 5), some (28, false), [11]⟩, ⟨some 36, .idxAddr 3 (.t 34) (.t 35), some (28, false), [17, 18, 11]⟩, ⟨some 37, .fieldAddr 2 (.t 36), some (28, false), [19, 11]⟩, ⟨some 38, .load 1 false (.t 37), some (28, false), [20, 11]⟩, ⟨some 39, .eqB true (.t 33) (.t 38), some (28, false), [16, 21, 11]⟩, ⟨some 40, .pick (.t 28) (.c (.bool true)) (.t 39), none, [11, 22]⟩, ⟨some 41, .mv (.t 40), none, [23, 11]⟩, ⟨some 42, .mv (.t 0), some (41, false), [24]⟩, ⟨some 43, .mv (.t 5), some (41, false), [24]⟩, ⟨some 44, .idxAddr 3 (.t 42) (.t 43), some (41, false), [25, 26, 24]⟩, ⟨some 45, .fieldAddr 1 (.t 44), some (41, false), [27, 24]⟩, ⟨some 46, .load 1 false (.t 45), some (41, false), [28, 24]⟩, ⟨some 47, .mv (.t 1), some (41, false), [24]⟩, ⟨some 48, .mv (.t 5), some (41, false), [24]⟩, ⟨some 49, .idxAddr 3 (.t 47) (.t 48), some (41, false), [30, 31, 24]⟩, ⟨some 50, .fieldAddr 1 (.t 49), some (41, false), [32, 24]⟩, ⟨some 51, .load 1 false (.t 50), some (41, false), [33, 24]⟩, ⟨some 52, .call 26 [.t 46, .t 51], some (41, false), [29, 34, 24, 24]⟩, ⟨some 53, .un .not (.t 52), some (41, false), [35, 24]⟩, ⟨some 54, .pick (.t 41) (.c (.bool true)) (.t 53), none, [24, 36]⟩]).seq (ACode.cond (.t 54) ((ACode.region false [⟨some 4, .mv (.c (.bool false)), none, []⟩]).seq ACode.ret) ACode.skip))).seq (ACode.region false [⟨some 15, .mv (.t 5), none, []⟩, ⟨some 16, .bin .add (.t 15) (.c (.int .i64 (1))), none, []⟩, ⟨some 5, .mv (.t 16), none, []⟩]))).loop)).seq ((ACode.region false [⟨some 4, .mv (.c (.bool true)), none, []⟩]).seq ACode.ret))))
theorem Tryz.F25 : FnFacts Tryz.prog 25 Tryz.f25 Tryz.ac25 55 [.tmp 4] := ⟨Tryz.func25, by kernel_rfl, by kernel_rfl, by kernel_rfl, by kernel_rfl, by kernel_rfl, by kernel_rfl, by kernel_rfl⟩
def Tryz.ac26 : ACode := ((ACode.region false [⟨some 4, .mv (.c (.bool false)), none, []⟩]).seq (((ACode.region false [⟨some 6, .mv (.t 0), none, []⟩, ⟨some 7, .len (.t 6), none, []⟩, ⟨some 8, .mv (.t 1), none, []⟩, ⟨some 9, .len (.t 8), none, []⟩, ⟨some 10, .bin .neq (.t 7) (.t 9), none, []⟩]).seq (ACode.cond (.t 10) ((ACode.region false [⟨some 4, .mv (.c (.bool false)), none, []⟩]).seq ACode.ret) ACode.skip)).seq (((ACode.region false [⟨some 5, .mv (.c (.int .i64 (0))), none, []⟩]).seq (ACode.block 0 (((ACode.region false [⟨some 11, .mv (.t 5), none, []⟩, ⟨some 12, .mv (.t 0), none, []⟩, ⟨some 13, .len (.t 12), none, []⟩, ⟨some 14, .bin .lss (.t 11) (.t 13), none, []⟩]).seq (ACode.cond (.t 14) ACode.skip (ACode.exit 0))).seq ((ACode.block 1 ((ACode.region true [⟨some 17, .mv (.t 0), none, []⟩, ⟨some 18, .mv (.t 5), none, []⟩, ⟨some 19, .idxAddr 1 (.t 17) (.t 18), none, [0, 1]⟩, ⟨some 20, .load 1 false (.t 19), none, [2]⟩, ⟨some 21, .mv (.t 1), none, []⟩, ⟨some 22, .mv (.t 5), none, []⟩, ⟨some 23, .idxAddr 1 (.t 21) (.t 22), none, [4, 5]⟩, ⟨some 24, .load 1 false (.t 23), none, [6]⟩, ⟨some 25, .bin .neq (.t 20) (.t 24), none, [3, 7]⟩]).seq (ACode.cond (.t 25) ((ACode.region false [⟨some 4, .mv (.c (.bool false)), none, []⟩]).seq ACode.ret) ACode.skip))).seq (ACode.region false [⟨some 15, .mv (.t 5), none, []⟩, ⟨some 16, .bin .add (.t 15) (.c (.int .i64 (1))), none, []⟩, ⟨some 5, .mv (.t 16), none, []⟩]))).loop)).seq ((ACode.region false [⟨some 4, .mv (.c (.bool true)), none, []⟩]).seq ACode.ret))))
theorem Tryz.F26 : FnFacts Tryz.prog 26 Tryz.f26 Tryz.ac26 26 [.tmp 4] := ⟨Tryz.func26, by kernel_rfl, by kernel_rfl, by kernel_rfl, by kernel_rfl, by kernel_rfl, by kernel_rfl, by kernel_rfl⟩
def Tryz.ac27 : ACode := ((ACode.region false [⟨some 2, .mv (.c (.slice none 0 0)), none, []⟩]).seq (((ACode.region false [⟨some 5, .mv (.t 0), none, []⟩, ⟨some 6, .len (.t 5), none, []⟩, ⟨some 7, .mv (.c (.int .i64 (0))), none, []⟩]).seq (ACode.block 0 ((ACode.region false [⟨some 8, .bin .lss (.t 7) (.t 6), none, []⟩]).seq ((ACode.cond (.t 8) ACode.skip (ACode.exit 0)).seq ((ACode.block 1 ((ACode.region false [⟨some 9, .idxAddr 3 (.t 5) (.t 7), none, []⟩, ⟨some 10, .load 3 true (.t 9), none, []⟩, ⟨some 4, .alloc [.string ⟨⟨[]⟩⟩, .slice none 0 0, .bool false], none, []⟩, ⟨none, .store 3 (.t 4) (.t 10), none, []⟩]).seq ((ACode.region false [⟨some 11, .fieldAddr 2 (.t 4), none, []⟩, ⟨some 12, .load 1 false (.t 11), none, []⟩, ⟨some 13, .un .not (.t 12), none, []⟩]).seq (ACode.cond (.t 13) (ACode.region false [⟨some 14, .mv (.t 2), none, []⟩, ⟨some 15, .fieldAddr 0 (.t 4), none, []⟩, ⟨some 16, .load 1 false (.t 15), none, []⟩, ⟨some 17, .buildSlice 9 1 [.t 16], none, []⟩, ⟨some 18, .append 9 1 16 (.t 14) (.t 17), none, []⟩, ⟨some 2, .mv (.t 18), none, []⟩]) ACode.skip)))).seq (ACode.region false [⟨some 19, .bin .add (.t 7) (.c (.int .i64 (1))), none, []⟩, ⟨some 7, .mv (.t 19), none, []⟩])))).loop)).seq ((ACode.region false [⟨some 20, .mv (.t 2), none, []⟩, ⟨some 2, .mv (.t 20), none, []⟩]).seq ACode.ret)))
theorem Tryz.F27 : FnFacts Tryz.prog 27 Tryz.f27 Tryz.ac27 21 [.tmp 2] := ⟨Tryz.func27, by kernel_rfl, by kernel_rfl, by kernel_rfl, by kernel_rfl, by kernel_rfl, by kernel_rfl, by kernel_rfl⟩
def Tryz.ac28 : ACode := ((ACode.region false [⟨some 2, .mv (.c (.slice none 0 0)), none, []⟩]).seq ((ACode.region false [⟨some 3, .mv (.c (.slice none 0 0)), none, []⟩]).seq (((ACode.region false [⟨some 4, .mv (.c (.int .i64 (0))), none, []⟩]).seq (ACode.block 0 (((ACode.region false [⟨some 5, .mv (.t 4), none, []⟩, ⟨some 6, .mv (.t 0), none, []⟩, ⟨some 7, .len (.t 6), none, []⟩, ⟨some 8, .bin .lss (.t 5) (.t 7), none, []⟩]).seq (ACode.cond (.t 8) ACode.skip (ACode.exit 0))).seq ((ACode.block 1 ((ACode.region false [⟨some 11, .mv (.t 0), none, []⟩, ⟨some 12, .mv (.t 4), none, []⟩, ⟨some 13, .idxAddr 3 (.t 11) (.t 12), none, []⟩, ⟨some 14, .fieldAddr 2 (.t 13), none, []⟩, ⟨some 15, .load 1 false (.t 14), none, []⟩, ⟨some 16, .un .not (.t 15), none, []⟩]).seq (ACode.cond (.t 16) (ACode.region false [⟨some 17, .mv (.t 3), none, []⟩, ⟨some 18, .mv (.t 0), none, []⟩, ⟨some 19, .mv (.t 4), none, []⟩, ⟨some 20, .idxAddr 3 (.t 18) (.t 19), none, []⟩, ⟨some 21, .fieldAddr 0 (.t 20), none, []⟩, ⟨some 22, .load 1 false (.t 21), none, []⟩, ⟨some 23, .buildSlice 9 1 [.t 22], none, []⟩, ⟨some 24, .append 9 1 16 (.t 17) (.t 23), none, []⟩, ⟨some 3, .mv (.t 24), none, []⟩]) ACode.skip))).seq (ACode.region false [⟨some 9, .mv (.t 4), none, []⟩, ⟨some 10, .bin .add (.t 9) (.c (.int .i64 (1))), none, []⟩, ⟨some 4, .mv (.t 10), none, []⟩]))).loop)).seq ((ACode.region false [⟨some 25, .mv (.t 3), none, []⟩, ⟨some 2, .mv (.t 25), none, []⟩]).seq ACode.ret))))
theorem Tryz.F28 : FnFacts Tryz.prog 28 Tryz.f28 Tryz.ac28 26 [.tmp 2] := ⟨Tryz.func28, by kernel_rfl, by kernel_rfl, by kernel_rfl, by kernel_rfl, by kernel_rfl, by kernel_rfl, by kernel_rfl⟩
def Tryz.ac29 : ACode := ((ACode.region false [⟨some 2, .mv (.c (.slice none 0 0)), none, []⟩]).seq ((ACode.region false [⟨some 3, .mv (.c (.slice none 0 0)), none, []⟩]).seq (((ACode.region false [⟨some 4, .mv (.c (.int .i64 (0))), none, []⟩]).seq (ACode.block 0 (((ACode.region false [⟨some 5, .mv (.t 4), none, []⟩, ⟨some 6, .mv (.t 0), none, []⟩, ⟨some 7, .len (.t 6), none, []⟩, ⟨some 8, .bin .lss (.t 5) (.t 7), none, []⟩]).seq (ACode.cond (.t 8) ACode.skip (ACode.exit 0))).seq ((ACode.block 1 (ACode.region true [⟨some 11, .mv (.t 3), none, []⟩, ⟨some 12, .mv (.t 0), none, []⟩, ⟨some 13, .mv (.t 4), none, []⟩, ⟨some 14, .idxAddr 3 (.t 12) (.t 13), none, [1, 2]⟩, ⟨some 15, .fieldAddr 0 (.t 14), none, [3]⟩, ⟨some 16, .load 1 false (.t 15), none, [4]⟩, ⟨some 17, .mv (.t 0), none, []⟩, ⟨some 18, .mv (.t 4), none, []⟩, ⟨some 19, .idxAddr 3 (.t 17) (.t 18), none, [6, 7]⟩, ⟨some 20, .fieldAddr 1 (.t 19), none, [8]⟩, ⟨some 21, .load 1 false (.t 20), none, [9]⟩, ⟨some 22, .build [.string ⟨⟨[]⟩⟩, .slice none 0 0, .bool false] [(0, 1, .t 16), (1, 1, .t 21)], none, [5, 10]⟩, ⟨some 23, .buildSlice 55 3 [.t 22], none, [11]⟩, ⟨some 24, .append 55 3 48 (.t 11) (.t 23), none, [0, 12]⟩, ⟨some 3, .mv (.t 24), none, [13, 13, 0, 1, 2, 3, 4, 5, 6, 7, 8, 9, 10, 11, 12, 13]⟩])).seq (ACode.region false [⟨some 9, .mv (.t 4), none, []⟩, ⟨some 10, .bin .add (.t 9) (.c (.int .i64 (1))), none, []⟩, ⟨some 4, .mv (.t 10), none, []⟩]))).loop)).seq ((ACode.region false [⟨some 25, .mv (.t 3), none, []⟩, ⟨some 2, .mv (.t 25), none, []⟩]).seq ACode.ret))))
theorem Tryz.F29 : FnFacts Tryz.prog 29 Tryz.f29 Tryz.ac29 26 [.tmp 2] := ⟨Tryz.func29, by kernel_rfl, by kernel_rfl, by kernel_rfl, by kernel_rfl, by kernel_rfl, by kernel_rfl, by kernel_rfl⟩
def Tryz.ac30 : ACode := ((ACode.region false [⟨some 6, .alloc [.string ⟨⟨[]⟩⟩, .int .i64 (0), .int .i64 (0), .int .i64 (0)], none, []⟩]).seq ((ACode.region false [⟨some 7, .mv (.t 0), none, []⟩, ⟨some 8, .mv (.t 1), none, []⟩, ⟨some 9, .mv (.t 2), none, []⟩, ⟨some 10, .build [.int .i64 (0), .int .i64 (0)] [(0, 1, .t 8), (1, 1, .t 9)], none, []⟩, ⟨some 11, .build [.string ⟨⟨[]⟩⟩, .int .i64 (0), .int .i64 (0), .int .i64 (0)] [(0, 1, .t 7), (1, 1, .c (.int .i64 (1))), (2, 2, .t 10)], none, []⟩, ⟨none, .store 4 (.t 6) (.t 11), none, []⟩]).seq ACode.ret))
theorem Tryz.F30 : FnFacts Tryz.prog 30 Tryz.f30 Tryz.ac30 12 [.cell 6 26] := ⟨Tryz.func30, by kernel_rfl, by kernel_rfl, by kernel_rfl, by kernel_rfl, by kernel_rfl, by kernel_rfl, by kernel_rfl⟩
def Tryz.ac31 : ACode := ((ACode.region false [⟨some 2, .mv (.c (.bool false)), none, []⟩]).seq ((ACode.region false [⟨some 3, .mv (.t 0), none, []⟩, ⟨some 4, .lenStr (.t 3), none, []⟩, ⟨some 5, .bin .leq (.t 4) (.c (.int .i64 (64))), none, []⟩, ⟨some 6, .mv (.t 5), none, []⟩, ⟨some 7, .mv (.t 0), some (6, true), []⟩, ⟨some 8, .call 52 [.t 7, .c (.string ⟨⟨[(46 : UInt8)]⟩⟩)], some (6, true), []⟩, ⟨some 9, .call 51 [.t 8], some (6, true), []⟩, ⟨some 10, .pick (.t 6) (.t 9) (.c (.bool false)), none, []⟩, ⟨some 2, .mv (.t 10), none, []⟩]).seq ACode.ret))
theorem Tryz.F31 : FnFacts Tryz.prog 31 Tryz.f31 Tryz.ac31 11 [.tmp 2] := ⟨Tryz.func31, by kernel_rfl, by kernel_rfl, by kernel_rfl, by kernel_rfl, by kernel_rfl, by kernel_rfl, by kernel_rfl⟩
def Tryz.ac32 : ACode := ((ACode.region false [⟨some 4, .mv (.c (.bool false)), none, []⟩]).seq ((ACode.region false [⟨some 5, .mv (.t 0), none, []⟩, ⟨some 6, .mv (.t 1), none, []⟩, ⟨some 7, .call 34 [.t 5, .t 6], none, []⟩, ⟨some 8, .bin .geq (.t 7) (.c (.int .i64 (0))), none, []⟩, ⟨some 4, .mv (.t 8), none, []⟩]).seq ACode.ret))
theorem Tryz.F32 : FnFacts Tryz.prog 32 Tryz.f32 Tryz.ac32 9 [.tmp 4] := ⟨Tryz.func32, by kernel_rfl, by kernel_rfl, by kernel_rfl, by kernel_rfl, by kernel_rfl, by kernel_rfl, by kernel_rfl⟩
def Tryz.ac33 : ACode := ((ACode.region false [⟨some 2, .box 4 (.t 0), none, []⟩, ⟨some 3, .mv (.c (.bool false)), none, []⟩]).seq ((ACode.region false [⟨some 4, .fieldAddr 0 (.t 2), none, []⟩, ⟨some 5, .load 1 false (.t 4), none, []⟩, ⟨some 6, .fieldAddr 0 (.t 1), none, []⟩, ⟨some 7, .load 1 false (.t 6), none, []⟩, ⟨some 8, .bin .eql (.t 5) (.t 7), none, []⟩, ⟨some 3, .mv (.t 8), none, []⟩]).seq ACode.ret))
theorem Tryz.F33 : FnFacts Tryz.prog 33 Tryz.f33 Tryz.ac33 9 [.tmp 3] := ⟨Tryz.func33, by kernel_rfl, by kernel_rfl, by kernel_rfl, by kernel_rfl, by kernel_rfl, by kernel_rfl, by kernel_rfl⟩
def Tryz.ac34 : ACode := ((ACode.region false [⟨some 4, .mv (.c (.int .i64 (0))), none, []⟩]).seq (((ACode.region false [⟨some 6, .mv (.t 0), none, []⟩, ⟨some 7, .len (.t 6), none, []⟩, ⟨some 8, .mv (.c (.int .i64 (0))), none, []⟩]).seq (ACode.block 0 ((ACode.region false [⟨some 9, .bin .lss (.t 8) (.t 7), none, []⟩]).seq ((ACode.cond (.t 9) ACode.skip (ACode.exit 0)).seq ((ACode.block 1 ((ACode.region false [⟨some 10, .mv (.t 8), none, []⟩, ⟨some 5, .mv (.t 10), none, []⟩]).seq ((ACode.region false [⟨some 11, .mv (.t 1), none, []⟩, ⟨some 12, .mv (.t 0), none, []⟩, ⟨some 13, .mv (.t 5), none, []⟩, ⟨some 14, .idxAddr 4 (.t 12) (.t 13), none, []⟩, ⟨some 15, .load 4 true (.t 14), none, []⟩, ⟨some 16, .callv (.t 11) [.t 15], none, []⟩]).seq (ACode.cond (.t 16) ((ACode.region false [⟨some 17, .mv (.t 5), none, []⟩, ⟨some 4, .mv (.t 17), none, []⟩]).seq ACode.ret) ACode.skip)))).seq (ACode.region false [⟨some 18, .bin .add (.t 8) (.c (.int .i64 (1))), none, []⟩, ⟨some 8, .mv (.t 18), none, []⟩])))).loop)).seq ((ACode.region false [⟨some 4, .mv (.c (.int .i64 (Int.negSucc 0))), none, []⟩]).seq ACode.ret)))
theorem Tryz.F34 : FnFacts Tryz.prog 34 Tryz.f34 Tryz.ac34 19 [.tmp 4] := ⟨Tryz.func34, by kernel_rfl, by kernel_rfl, by kernel_rfl, by kernel_rfl, by kernel_rfl, by kernel_rfl, by kernel_rfl⟩
def Tryz.ac35 : ACode := ((ACode.region false [⟨some 2, .box 4 (.t 0), none, []⟩, ⟨some 3, .mv (.c (.bool false)), none, []⟩]).seq ((ACode.region false [⟨some 4, .fieldAddr 0 (.t 2), none, []⟩, ⟨some 5, .load 1 false (.t 4), none, []⟩, ⟨some 6, .fieldAddr 0 (.t 1), none, []⟩, ⟨some 7, .load 1 false (.t 6), none, []⟩, ⟨some 8, .bin .gtr (.t 5) (.t 7), none, []⟩, ⟨some 3, .mv (.t 8), none, []⟩]).seq ACode.ret))
theorem Tryz.F35 : FnFacts Tryz.prog 35 Tryz.f35 Tryz.ac35 9 [.tmp 3] := ⟨Tryz.func35, by kernel_rfl, by kernel_rfl, by kernel_rfl, by kernel_rfl, by kernel_rfl, by kernel_rfl, by kernel_rfl⟩
def Tryz.ac38 : ACode := ((ACode.region false [⟨some 2, .mv (.c (.bool false)), none, []⟩]).seq ((ACode.region false [⟨some 5, .mv (.t 0), none, []⟩, ⟨some 6, .call 55 [.t 5], none, []⟩, ⟨some 3, .mv (.t 6), none, []⟩]).seq (((ACode.region false [⟨some 7, .mv (.t 0), none, []⟩, ⟨some 8, .lenStr (.t 7), none, []⟩, ⟨some 9, .bin .gtr (.t 8) (.c (.int .i64 (64))), none, []⟩, ⟨some 10, .mv (.t 9), none, []⟩, ⟨some 11, .mv (.t 3), some (10, false), []⟩, ⟨some 12, .len (.t 11), some (10, false), []⟩, ⟨some 13, .bin .gtr (.t 12) (.c (.int .i64 (8))), some (10, false), []⟩, ⟨some 14, .pick (.t 10) (.c (.bool true)) (.t 13), none, []⟩]).seq (ACode.cond (.t 14) ((ACode.region false [⟨some 2, .mv (.c (.bool false)), none, []⟩]).seq ACode.ret) ACode.skip)).seq (((ACode.region false [⟨some 4, .mv (.c (.int .i64 (0))), none, []⟩]).seq (ACode.block 0 (((ACode.region false [⟨some 15, .mv (.t 4), none, []⟩, ⟨some 16, .mv (.t 3), none, []⟩, ⟨some 17, .len (.t 16), none, []⟩, ⟨some 18, .bin .lss (.t 15) (.t 17), none, []⟩]).seq (ACode.cond (.t 18) ACode.skip (ACode.exit 0))).seq ((ACode.block 1 ((ACode.region false [⟨some 21, .mv (.t 3), none, []⟩, ⟨some 22, .mv (.t 4), none, []⟩, ⟨some 23, .idxAddr 1 (.t 21) (.t 22), none, []⟩, ⟨some 24, .load 1 false (.t 23), none, []⟩, ⟨some 25, .call 56 [.t 24], none, []⟩, ⟨some 26, .un .not (.t 25), none, []⟩]).seq (ACode.cond (.t 26) ((ACode.region false [⟨some 2, .mv (.c (.bool false)), none, []⟩]).seq ACode.ret) ACode.skip))).seq (ACode.region false [⟨some 19, .mv (.t 4), none, []⟩, ⟨some 20, .bin .add (.t 19) (.c (.int .i64 (1))), none, []⟩, ⟨some 4, .mv (.t 20), none, []⟩]))).loop)).seq ((ACode.region false [⟨some 2, .mv (.c (.bool true)), none, []⟩]).seq ACode.ret)))))
theorem Tryz.F38 : FnFacts Tryz.prog 38 Tryz.f38 Tryz.ac38 27 [.tmp 2] := ⟨Tryz.func38, by kernel_rfl, by kernel_rfl, by kernel_rfl, by kernel_rfl, by kernel_rfl, by kernel_rfl, by kernel_rfl⟩
def Tryz.ac39 : ACode := ((ACode.region false [⟨some 3, .box 4 (.t 0), none, []⟩, ⟨some 4, .mv (.c (.bool false)), none, []⟩]).seq ((ACode.region false [⟨some 5, .fieldAddr 1 (.t 3), none, []⟩, ⟨some 6, .load 1 false (.t 5), none, []⟩, ⟨some 7, .load 1 false (.t 1), none, []⟩, ⟨some 8, .bin .eql (.t 6) (.t 7), none, []⟩, ⟨some 9, .mv (.t 8), none, []⟩, ⟨some 10, .fieldAddr 2 (.t 3), some (9, true), []⟩, ⟨some 11, .fieldAddr 0 (.t 10), some (9, true), []⟩, ⟨some 12, .load 1 false (.t 11), some (9, true), []⟩, ⟨some 13, .load 1 false (.t 2), some (9, true), []⟩, ⟨some 14, .bin .leq (.t 12) (.t 13), some (9, true), []⟩, ⟨some 15, .pick (.t 9) (.t 14) (.c (.bool false)), none, []⟩, ⟨some 16, .mv (.t 15), none, []⟩, ⟨some 17, .load 1 false (.t 2), some (16, true), []⟩, ⟨some 18, .fieldAddr 2 (.t 3), some (16, true), []⟩, ⟨some 19, .fieldAddr 1 (.t 18), some (16, true), []⟩, ⟨some 20, .load 1 false (.t 19), some (16, true), []⟩, ⟨some 21, .bin .lss (.t 17) (.t 20), some (16, true), []⟩, ⟨some 22, .pick (.t 16) (.t 21) (.c (.bool false)), none, []⟩, ⟨some 4, .mv (.t 22), none, []⟩]).seq ACode.ret))
theorem Tryz.F39 : FnFacts Tryz.prog 39 Tryz.f39 Tryz.ac39 23 [.tmp 4] := ⟨Tryz.func39, by kernel_rfl, by kernel_rfl, by kernel_rfl, by kernel_rfl, by kernel_rfl, by kernel_rfl, by kernel_rfl⟩
def Tryz.ac40 : ACode := ((ACode.region false [⟨some 4, .mv (.c (.slice none 0 0)), none, []⟩]).seq ((ACode.region false [⟨some 5, .mv (.t 0), none, []⟩, ⟨some 6, .mv (.t 1), none, []⟩, ⟨some 7, .call 57 [.t 5, .t 6, .f 58], none, []⟩, ⟨some 4, .mv (.t 7), none, []⟩]).seq ACode.ret))
theorem Tryz.F40 : FnFacts Tryz.prog 40 Tryz.f40 Tryz.ac40 8 [.tmp 4] := ⟨Tryz.func40, by kernel_rfl, by kernel_rfl, by kernel_rfl, by kernel_rfl, by kernel_rfl, by kernel_rfl, by kernel_rfl⟩
def Tryz.ac42 : ACode := ((ACode.region false [⟨some 3, .box 1 (.t 1), none, []⟩, ⟨some 4, .mv (.c (.int .i64 (0))), none, []⟩]).seq ((ACode.region false [⟨some 5, .mv (.t 0), none, []⟩, ⟨some 6, .mkfn 60 [.t 3], none, []⟩, ⟨some 7, .call 59 [.t 5, .t 6], none, []⟩, ⟨some 4, .mv (.t 7), none, []⟩]).seq ACode.ret))
theorem Tryz.F42 : FnFacts Tryz.prog 42 Tryz.f42 Tryz.ac42 8 [.tmp 4] := ⟨Tryz.func42, by kernel_rfl, by kernel_rfl, by kernel_rfl, by kernel_rfl, by kernel_rfl, by kernel_rfl, by kernel_rfl⟩
def Tryz.ac45 : ACode := ((ACode.region false [⟨some 4, .mv (.c (.int .i64 (0))), none, []⟩]).seq (((ACode.region false [⟨some 5, .mv (.c (.int .i64 (0))), none, []⟩]).seq (ACode.block 0 (((ACode.region false [⟨some 6, .mv (.t 5), none, []⟩, ⟨some 7, .mv (.t 0), none, []⟩, ⟨some 8, .len (.t 7), none, []⟩, ⟨some 9, .bin .lss (.t 6) (.t 8), none, []⟩]).seq (ACode.cond (.t 9) ACode.skip (ACode.exit 0))).seq ((ACode.block 1 ((ACode.region false [⟨some 12, .mv (.t 0), none, []⟩, ⟨some 13, .mv (.t 5), none, []⟩, ⟨some 14, .idxAddr 3 (.t 12) (.t 13), none, []⟩, ⟨some 15, .fieldAddr 0 (.t 14), none, []⟩, ⟨some 16, .load 1 false (.t 15), none, []⟩, ⟨some 17, .mv (.t 1), none, []⟩, ⟨some 18, .bin .eql (.t 16) (.t 17), none, []⟩]).seq (ACode.cond (.t 18) ((ACode.region false [⟨some 19, .mv (.t 5), none, []⟩, ⟨some 4, .mv (.t 19), none, []⟩]).seq ACode.ret) ACode.skip))).seq (ACode.region false [⟨some 10, .mv (.t 5), none, []⟩, ⟨some 11, .bin .add (.t 10) (.c (.int .i64 (1))), none, []⟩, ⟨some 5, .mv (.t 11), none, []⟩]))).loop)).seq ((ACode.region false [⟨some 4, .mv (.c (.int .i64 (Int.negSucc 0))), none, []⟩]).seq ACode.ret)))
theorem Tryz.F45 : FnFacts Tryz.prog 45 Tryz.f45 Tryz.ac45 20 [.tmp 4] := ⟨Tryz.func45, by kernel_rfl, by kernel_rfl, by kernel_rfl, by kernel_rfl, by kernel_rfl, by kernel_rfl, by kernel_rfl⟩
def Tryz.ac46 : ACode := ((ACode.region false [⟨some 4, .box 3 (.t 1), none, []⟩, ⟨some 6, .mv (.c (.bool false)), none, []⟩]).seq (((ACode.region false [⟨some 7, .mv (.c (.int .i64 (0))), none, []⟩]).seq (ACode.block 0 (((ACode.region false [⟨some 9, .mv (.t 7), none, []⟩, ⟨some 10, .fieldAddr 1 (.t 4), none, []⟩, ⟨some 11, .load 1 false (.t 10), none, []⟩, ⟨some 12, .len (.t 11), none, []⟩, ⟨some 13, .bin .lss (.t 9) (.t 12), none, []⟩]).seq (ACode.cond (.t 13) ACode.skip (ACode.exit 0))).seq ((ACode.block 1 ((ACode.region false [⟨some 16, .mv (.t 0), none, []⟩, ⟨some 17, .fieldAddr 1 (.t 4), none, []⟩, ⟨some 18, .load 1 false (.t 17), none, []⟩, ⟨some 19, .mv (.t 7), none, []⟩, ⟨some 20, .idxAddr 1 (.t 18) (.t 19), none, []⟩, ⟨some 21, .load 1 false (.t 20), none, []⟩, ⟨some 22, .call 45 [.t 16, .t 21], none, []⟩, ⟨some 8, .mv (.t 22), none, []⟩]).seq ((ACode.region false [⟨some 23, .mv (.t 8), none, []⟩, ⟨some 24, .bin .lss (.t 23) (.c (.int .i64 (0))), none, []⟩, ⟨some 25, .mv (.t 24), none, []⟩, ⟨some 26, .mv (.t 2), some (25, false), []⟩, ⟨some 27, .mv (.t 8), some (25, false), []⟩, ⟨some 28, .idxAddr 1 (.t 26) (.t 27), some (25, false), []⟩, ⟨some 29, .load 1 false (.t 28), some (25, false), []⟩, ⟨some 30, .un .not (.t 29), some (25, false), []⟩, ⟨some 31, .pick (.t 25) (.c (.bool true)) (.t 30), none, []⟩]).seq (ACode.cond (.t 31) ((ACode.region false [⟨some 6, .mv (.c (.bool false)), none, []⟩]).seq ACode.ret) ACode.skip)))).seq (ACode.region false [⟨some 14, .mv (.t 7), none, []⟩, ⟨some 15, .bin .add (.t 14) (.c (.int .i64 (1))), none, []⟩, ⟨some 7, .mv (.t 15), none, []⟩]))).loop)).seq ((ACode.region false [⟨some 6, .mv (.c (.bool true)), none, []⟩]).seq ACode.ret)))
theorem Tryz.F46 : FnFacts Tryz.prog 46 Tryz.f46 Tryz.ac46 32 [.tmp 6] := ⟨Tryz.func46, by kernel_rfl, by kernel_rfl, by kernel_rfl, by kernel_rfl, by kernel_rfl, by kernel_rfl, by kernel_rfl⟩
def Tryz.ac47 : ACode := ((ACode.region false [⟨some 2, .mv (.c (.bool false)), none, []⟩]).seq (((ACode.region false [⟨some 3, .mv (.c (.int .i64 (1))), none, []⟩]).seq (ACode.block 0 (((ACode.region false [⟨some 4, .mv (.t 3), none, []⟩, ⟨some 5, .mv (.t 0), none, []⟩, ⟨some 6, .len (.t 5), none, []⟩, ⟨some 7, .bin .lss (.t 4) (.t 6), none, []⟩]).seq (ACode.cond (.t 7) ACode.skip (ACode.exit 0))).seq ((ACode.block 1 ((ACode.region true [⟨some 10, .mv (.t 0), none, []⟩, ⟨some 11, .mv (.t 3), none, []⟩, ⟨some 12, .bin .sub (.t 11) (.c (.int .i64 (1))), none, [1]⟩, ⟨some 13, .idxAddr 1 (.t 10) (.t 12), none, [0, 2]⟩, ⟨some 14, .load 1 false (.t 13), none, [3]⟩, ⟨some 15, .mv (.t 0), none, []⟩, ⟨some 16, .mv (.t 3), none, []⟩, ⟨some 17, .idxAddr 1 (.t 15) (.t 16), none, [5, 6]⟩, ⟨some 18, .load 1 false (.t 17), none, [7]⟩, ⟨some 19, .bin .geq (.t 14) (.t 18), none, [4, 8]⟩]).seq (ACode.cond (.t 19) ((ACode.region false [⟨some 2, .mv (.c (.bool false)), none, []⟩]).seq ACode.ret) ACode.skip))).seq (ACode.region false [⟨some 8, .mv (.t 3), none, []⟩, ⟨some 9, .bin .add (.t 8) (.c (.int .i64 (1))), none, []⟩, ⟨some 3, .mv (.t 9), none, []⟩]))).loop)).seq ((ACode.region false [⟨some 2, .mv (.c (.bool true)), none, []⟩]).seq ACode.ret)))
theorem Tryz.F47 : FnFacts Tryz.prog 47 Tryz.f47 Tryz.ac47 20 [.tmp 2] := ⟨Tryz.func47, by kernel_rfl, by kernel_rfl, by kernel_rfl, by kernel_rfl, by kernel_rfl, by kernel_rfl, by kernel_rfl⟩
def Tryz.ac48 : ACode := ((ACode.region false [⟨some 2, .mv (.c (.bool false)), none, []⟩]).seq ((ACode.region false [⟨some 9, .mapMake, none, []⟩, ⟨some 3, .alloc [.map none], none, []⟩, ⟨none, .store 1 (.t 3) (.t 9), none, []⟩]).seq (((ACode.region false [⟨some 10, .mv (.t 0), none, []⟩, ⟨some 11, .len (.t 10), none, []⟩, ⟨some 12, .mv (.c (.int .i64 (0))), none, []⟩]).seq (ACode.block 0 ((ACode.region false [⟨some 13, .bin .lss (.t 12) (.t 11), none, []⟩]).seq ((ACode.cond (.t 13) ACode.skip (ACode.exit 0)).seq ((ACode.block 1 ((ACode.region false [⟨some 14, .idxAddr 3 (.t 10) (.t 12), none, []⟩, ⟨some 15, .load 3 true (.t 14), none, []⟩, ⟨some 5, .alloc [.string ⟨⟨[]⟩⟩, .slice none 0 0, .bool false], none, []⟩, ⟨none, .store 3 (.t 5) (.t 15), none, []⟩]).seq (ACode.region false [⟨some 16, .load 1 false (.t 3), none, []⟩, ⟨some 17, .fieldAddr 0 (.t 5), none, []⟩, ⟨some 18, .load 1 false (.t 17), none, []⟩, ⟨none, .mapPut (.t 16) (.t 18) (.c (.bool true)), none, []⟩]))).seq (ACode.region false [⟨some 19, .bin .add (.t 12) (.c (.int .i64 (1))), none, []⟩, ⟨some 12, .mv (.t 19), none, []⟩])))).loop)).seq ((ACode.block 2 (((ACode.region false [⟨some 20, .load 1 false (.t 3), none, []⟩, ⟨some 21, .mapLen (.t 20), none, []⟩, ⟨some 22, .bin .gtr (.t 21) (.c (.int .i64 (0))), none, []⟩]).seq (ACode.cond (.t 22) ACode.skip (ACode.exit 2))).seq (ACode.block 3 ((ACode.region false [⟨some 23, .load 1 false (.t 3), none, []⟩, ⟨some 24, .mapLen (.t 23), none, []⟩, ⟨some 6, .mv (.t 24), none, []⟩]).seq (((ACode.region false [⟨some 25, .mv (.t 0), none, []⟩, ⟨some 26, .len (.t 25), none, []⟩, ⟨some 27, .mv (.c (.int .i64 (0))), none, []⟩]).seq (ACode.block 4 ((ACode.region false [⟨some 28, .bin .lss (.t 27) (.t 26), none, []⟩]).seq ((ACode.cond (.t 28) ACode.skip (ACode.exit 4)).seq ((ACode.block 5 ((ACode.region false [⟨some 29, .idxAddr 3 (.t 25) (.t 27), none, []⟩, ⟨some 30, .load 3 true (.t 29), none, []⟩, ⟨some 8, .alloc [.string ⟨⟨[]⟩⟩, .slice none 0 0, .bool false], none, []⟩, ⟨none, .store 3 (.t 8) (.t 30), none, []⟩]).seq ((ACode.region false [⟨some 31, .fieldAddr 1 (.t 8), none, []⟩, ⟨some 32, .load 1 false (.t 31), none, []⟩, ⟨some 33, .mkfn 62 [.t 3], none, []⟩, ⟨some 34, .call 61 [.t 32, .t 33], none, []⟩, ⟨some 35, .un .not (.t 34), none, []⟩]).seq (ACode.cond (.t 35) (ACode.region false [⟨some 36, .load 1 false (.t 3), none, []⟩, ⟨some 37, .fieldAddr 0 (.t 8), none, []⟩, ⟨some 38, .load 1 false (.t 37), none, []⟩, ⟨none, .mapDel (.t 36) (.t 38), none, []⟩]) ACode.skip)))).seq (ACode.region false [⟨some 39, .bin .add (.t 27) (.c (.int .i64 (1))), none, []⟩, ⟨some 27, .mv (.t 39), none, []⟩])))).loop)).seq ((ACode.region false [⟨some 40, .load 1 false (.t 3), none, []⟩, ⟨some 41, .mapLen (.t 40), none, []⟩, ⟨some 42, .mv (.t 6), none, []⟩, ⟨some 43, .bin .eql (.t 41) (.t 42), none, []⟩]).seq (ACode.cond (.t 43) ((ACode.region false [⟨some 2, .mv (.c (.bool false)), none, []⟩]).seq ACode.ret) ACode.skip)))))).loop).seq ((ACode.region false [⟨some 2, .mv (.c (.bool true)), none, []⟩]).seq ACode.ret)))))
theorem Tryz.F48 : FnFacts Tryz.prog 48 Tryz.f48 Tryz.ac48 44 [.tmp 2] := ⟨Tryz.func48, by kernel_rfl, by kernel_rfl, by kernel_rfl, by kernel_rfl, by kernel_rfl, by kernel_rfl, by kernel_rfl⟩
def Tryz.ac49 : ACode := ((ACode.region false [⟨some 2, .mv (.c (.int .i64 (0))), none, []⟩]).seq (((ACode.region false [⟨some 3, .mv (.c (.int .i64 (0))), none, []⟩]).seq (ACode.block 0 (((ACode.region false [⟨some 5, .mv (.t 3), none, []⟩, ⟨some 6, .mv (.t 0), none, []⟩, ⟨some 7, .len (.t 6), none, []⟩, ⟨some 8, .bin .lss (.t 5) (.t 7), none, []⟩]).seq (ACode.cond (.t 8) ACode.skip (ACode.exit 0))).seq ((ACode.block 1 (((ACode.region false [⟨some 11, .mv (.t 0), none, []⟩, ⟨some 12, .mv (.t 3), none, []⟩, ⟨some 13, .idxAddr 3 (.t 11) (.t 12), none, []⟩, ⟨some 14, .fieldAddr 0 (.t 13), none, []⟩, ⟨some 15, .load 1 false (.t 14), none, []⟩, ⟨some 16, .call 38 [.t 15], none, []⟩, ⟨some 17, .un .not (.t 16), none, []⟩]).seq (ACode.cond (.t 17) ((ACode.region false [⟨some 2, .mv (.c (.int .i64 (6))), none, []⟩]).seq ACode.ret) ACode.skip)).seq (((ACode.region true [⟨some 18, .mv (.t 3), none, []⟩, ⟨some 19, .bin .gtr (.t 18) (.c (.int .i64 (0))), none, [0]⟩, ⟨some 20, .mv (.t 19), none, [1]⟩, ⟨some 21, .mv (.t 0), some (20, true), [2]⟩, ⟨some 22, .mv (.t 3), some (20, true), [2]⟩, ⟨some 23, .idxAddr 3 (.t 21) (.t 22), some (20, true), [3, 4, 2]⟩, ⟨some 24, .fieldAddr 0 (.t 23), some (20, true), [5, 2]⟩, ⟨some 25, .load 1 false (.t 24), some (20, true), [6, 2]⟩, ⟨some 26, .mv (.t 0), some (20, true), [2]⟩, ⟨some 27, .mv (.t 3), some (20, true), [2]⟩, ⟨some 28, .bin .sub (.t 27) (.c (.int .i64 (1))), some (20, true), [9, 2]⟩, ⟨some 29, .idxAddr 3 (.t 26) (.t 28), some (20, true), [8, 10, 2]⟩, ⟨some 30, .fieldAddr 0 (.t 29), some (20, true), [11, 2]⟩, ⟨some 31, .load 1 false (.t 30), some (20, true), [12, 2]⟩, ⟨some 32, .bin .leq (.t 25) (.t 31), some (20, true), [7, 13, 2]⟩, ⟨some 33, .pick (.t 20) (.t 32) (.c (.bool false)), none, [2, 14]⟩]).seq (ACode.cond (.t 33) ((ACode.region false [⟨some 2, .mv (.c (.int .i64 (11))), none, []⟩]).seq ACode.ret) ACode.skip)).seq ((ACode.region false [⟨some 4, .mv (.c (.int .i64 (1))), none, []⟩]).seq (ACode.block 2 (((ACode.region false [⟨some 34, .mv (.t 4), none, []⟩, ⟨some 35, .mv (.t 0), none, []⟩, ⟨some 36, .mv (.t 3), none, []⟩, ⟨some 37, .idxAddr 3 (.t 35) (.t 36), none, []⟩, ⟨some 38, .fieldAddr 1 (.t 37), none, []⟩, ⟨some 39, .load 1 false (.t 38), none, []⟩, ⟨some 40, .len (.t 39), none, []⟩, ⟨some 41, .bin .lss (.t 34) (.t 40), none, []⟩]).seq (ACode.cond (.t 41) ACode.skip (ACode.exit 2))).seq ((ACode.block 3 ((ACode.region true [⟨some 44, .mv (.t 0), none, []⟩, ⟨some 45, .mv (.t 3), none, []⟩, ⟨some 46, .idxAddr 3 (.t 44) (.t 45), none, [0, 1]⟩, ⟨some 47, .fieldAddr 1 (.t 46), none, [2]⟩, ⟨some 48, .load 1 false (.t 47), none, [3]⟩, ⟨some 49, .mv (.t 4), none, []⟩, ⟨some 50, .idxAddr 1 (.t 48) (.t 49), none, [4, 5]⟩, ⟨some 51, .load 1 false (.t 50), none, [6]⟩, ⟨some 52, .mv (.t 0), none, []⟩, ⟨some 53, .mv (.t 3), none, []⟩, ⟨some 54, .idxAddr 3 (.t 52) (.t 53), none, [8, 9]⟩, ⟨some 55, .fieldAddr 1 (.t 54), none, [10]⟩, ⟨some 56, .load 1 false (.t 55), none, [11]⟩, ⟨some 57, .mv (.t 4), none, []⟩, ⟨some 58, .bin .sub (.t 57) (.c (.int .i64 (1))), none, [13]⟩, ⟨some 59, .idxAddr 1 (.t 56) (.t 58), none, [12, 14]⟩, ⟨some 60, .load 1 false (.t 59), none, [15]⟩, ⟨some 61, .bin .leq (.t 51) (.t 60), none, [7, 16]⟩]).seq (ACode.cond (.t 61) ((ACode.region false [⟨some 2, .mv (.c (.int .i64 (11))), none, []⟩]).seq ACode.ret) ACode.skip))).seq (ACode.region false [⟨some 42, .mv (.t 4), none, []⟩, ⟨some 43, .bin .add (.t 42) (.c (.int .i64 (1))), none, []⟩, ⟨some 4, .mv (.t 43), none, []⟩]))).loop))))).seq (ACode.region false [⟨some 9, .mv (.t 3), none, []⟩, ⟨some 10, .bin .add (.t 9) (.c (.int .i64 (1))), none, []⟩, ⟨some 3, .mv (.t 10), none, []⟩]))).loop)).seq ((ACode.region false [⟨some 2, .mv (.c (.int .i64 (0))), none, []⟩]).seq ACode.ret)))
theorem Tryz.F49 : FnFacts Tryz.prog 49 Tryz.f49 Tryz.ac49 62 [.tmp 2] := ⟨Tryz.func49, by kernel_rfl, by kernel_rfl, by kernel_rfl, by kernel_rfl, by kernel_rfl, by kernel_rfl, by kernel_rfl⟩
def Tryz.ac50 : ACode := ((ACode.region false [⟨some 2, .mv (.c (.int .i64 (0))), none, []⟩]).seq (((ACode.region false [⟨some 3, .mv (.c (.int .i64 (0))), none, []⟩]).seq (ACode.block 0 (((ACode.region false [⟨some 5, .mv (.t 3), none, []⟩, ⟨some 6, .mv (.t 0), none, []⟩, ⟨some 7, .len (.t 6), none, []⟩, ⟨some 8, .bin .lss (.t 5) (.t 7), none, []⟩]).seq (ACode.cond (.t 8) ACode.skip (ACode.exit 0))).seq ((ACode.block 1 ((ACode.region false [⟨some 4, .mv (.c (.int .i64 (0))), none, []⟩]).seq (ACode.block 2 (((ACode.region false [⟨some 11, .mv (.t 4), none, []⟩, ⟨some 12, .mv (.t 0), none, []⟩, ⟨some 13, .mv (.t 3), none, []⟩, ⟨some 14, .idxAddr 3 (.t 12) (.t 13), none, []⟩, ⟨some 15, .fieldAddr 1 (.t 14), none, []⟩, ⟨some 16, .load 1 false (.t 15), none, []⟩, ⟨some 17, .len (.t 16), none, []⟩, ⟨some 18, .bin .lss (.t 11) (.t 17), none, []⟩]).seq (ACode.cond (.t 18) ACode.skip (ACode.exit 2))).seq ((ACode.block 3 (((ACode.region true [⟨some 21, .mv (.t 0), none, []⟩, ⟨some 22, .mv (.t 3), none, []⟩, ⟨some 23, .idxAddr 3 (.t 21) (.t 22), none, [0, 1]⟩, ⟨some 24, .fieldAddr 1 (.t 23), none, [2]⟩, ⟨some 25, .load 1 false (.t 24), none, [3]⟩, ⟨some 26, .mv (.t 4), none, []⟩, ⟨some 27, .idxAddr 1 (.t 25) (.t 26), none, [4, 5]⟩, ⟨some 28, .load 1 false (.t 27), none, [6]⟩, ⟨some 29, .mv (.t 0), none, []⟩, ⟨some 30, .mv (.t 3), none, []⟩, ⟨some 31, .idxAddr 3 (.t 29) (.t 30), none, [8, 9]⟩, ⟨some 32, .fieldAddr 0 (.t 31), none, [10]⟩, ⟨some 33, .load 1 false (.t 32), none, [11]⟩, ⟨some 34, .bin .eql (.t 28) (.t 33), none, [7, 12]⟩]).seq (ACode.cond (.t 34) ((ACode.region false [⟨some 2, .mv (.c (.int .i64 (2))), none, []⟩]).seq ACode.ret) ACode.skip)).seq ((ACode.region false [⟨some 35, .mv (.t 0), none, []⟩, ⟨some 36, .mv (.t 0), none, []⟩, ⟨some 37, .mv (.t 3), none, []⟩, ⟨some 38, .idxAddr 3 (.t 36) (.t 37), none, []⟩, ⟨some 39, .fieldAddr 1 (.t 38), none, []⟩, ⟨some 40, .load 1 false (.t 39), none, []⟩, ⟨some 41, .mv (.t 4), none, []⟩, ⟨some 42, .idxAddr 1 (.t 40) (.t 41), none, []⟩, ⟨some 43, .load 1 false (.t 42), none, []⟩, ⟨some 44, .call 45 [.t 35, .t 43], none, []⟩, ⟨some 45, .bin .lss (.t 44) (.c (.int .i64 (0))), none, []⟩]).seq (ACode.cond (.t 45) ((ACode.region false [⟨some 2, .mv (.c (.int .i64 (8))), none, []⟩]).seq ACode.ret) ACode.skip)))).seq (ACode.region false [⟨some 19, .mv (.t 4), none, []⟩, ⟨some 20, .bin .add (.t 19) (.c (.int .i64 (1))), none, []⟩, ⟨some 4, .mv (.t 20), none, []⟩]))).loop))).seq (ACode.region false [⟨some 9, .mv (.t 3), none, []⟩, ⟨some 10, .bin .add (.t 9) (.c (.int .i64 (1))), none, []⟩, ⟨some 3, .mv (.t 10), none, []⟩]))).loop)).seq ((ACode.region false [⟨some 2, .mv (.c (.int .i64 (0))), none, []⟩]).seq ACode.ret)))
theorem Tryz.F50 : FnFacts Tryz.prog 50 Tryz.f50 Tryz.ac50 46 [.tmp 2] := ⟨Tryz.func50, by kernel_rfl, by kernel_rfl, by kernel_rfl, by kernel_rfl, by kernel_rfl, by kernel_rfl, by kernel_rfl⟩
def Tryz.ac51 : ACode := ((ACode.region false [⟨some 2, .mv (.c (.bool false)), none, []⟩]).seq ((ACode.region false [⟨some 6, .mv (.t 0), none, []⟩, ⟨some 7, .len (.t 6), none, []⟩, ⟨some 8, .bin .sub (.t 7) (.c (.int .i64 (1))), none, []⟩, ⟨some 3, .mv (.t 8), none, []⟩]).seq (((ACode.region false [⟨some 9, .mv (.t 0), none, []⟩, ⟨some 10, .len (.t 9), none, []⟩, ⟨some 11, .mv (.c (.int .i64 (0))), none, []⟩]).seq (ACode.block 0 ((ACode.region false [⟨some 12, .bin .lss (.t 11) (.t 10), none, []⟩]).seq ((ACode.cond (.t 12) ACode.skip (ACode.exit 0)).seq ((ACode.block 1 ((ACode.region false [⟨some 13, .idxAddr 1 (.t 9) (.t 11), none, []⟩, ⟨some 14, .load 1 false (.t 13), none, []⟩, ⟨some 5, .mv (.t 14), none, []⟩]).seq (((ACode.region false [⟨some 15, .mv (.t 5), none, []⟩, ⟨some 16, .call 63 [.t 15], none, []⟩, ⟨some 17, .un .not (.t 16), none, []⟩]).seq (ACode.cond (.t 17) ((ACode.region false [⟨some 2, .mv (.c (.bool false)), none, []⟩]).seq ACode.ret) ACode.skip)).seq (ACode.region false [⟨some 18, .mv (.t 3), none, []⟩, ⟨some 19, .mv (.t 5), none, []⟩, ⟨some 20, .lenStr (.t 19), none, []⟩, ⟨some 21, .bin .add (.t 18) (.t 20), none, []⟩, ⟨some 3, .mv (.t 21), none, []⟩])))).seq (ACode.region false [⟨some 22, .bin .add (.t 11) (.c (.int .i64 (1))), none, []⟩, ⟨some 11, .mv (.t 22), none, []⟩])))).loop)).seq ((ACode.region false [⟨some 23, .mv (.t 0), none, []⟩, ⟨some 24, .len (.t 23), none, []⟩, ⟨some 25, .bin .geq (.t 24) (.c (.int .i64 (1))), none, []⟩, ⟨some 26, .mv (.t 25), none, []⟩, ⟨some 27, .mv (.t 0), some (26, true), []⟩, ⟨some 28, .len (.t 27), some (26, true), []⟩, ⟨some 29, .bin .leq (.t 28) (.c (.int .i64 (8))), some (26, true), []⟩, ⟨some 30, .pick (.t 26) (.t 29) (.c (.bool false)), none, []⟩, ⟨some 31, .mv (.t 30), none, []⟩, ⟨some 32, .mv (.t 3), some (31, true), []⟩, ⟨some 33, .bin .leq (.t 32) (.c (.int .i64 (64))), some (31, true), []⟩, ⟨some 34, .pick (.t 31) (.t 33) (.c (.bool false)), none, []⟩, ⟨some 2, .mv (.t 34), none, []⟩]).seq ACode.ret))))
theorem Tryz.F51 : FnFacts Tryz.prog 51 Tryz.f51 Tryz.ac51 35 [.tmp 2] := ⟨Tryz.func51, by kernel_rfl, by kernel_rfl, by kernel_rfl, by kernel_rfl, by kernel_rfl, by kernel_rfl, by kernel_rfl⟩
def Tryz.ac52 : ACode := ((ACode.region false [⟨some 4, .mv (.c (.slice none 0 0)), none, []⟩]).seq ((ACode.region false [⟨some 5, .mv (.t 0), none, []⟩, ⟨some 6, .mv (.t 1), none, []⟩, ⟨some 7, .call 64 [.t 5, .t 6, .c (.int .i64 (0)), .c (.int .i64 (Int.negSucc 0))], none, []⟩, ⟨some 4, .mv (.t 7), none, []⟩]).seq ACode.ret))
theorem Tryz.F52 : FnFacts Tryz.prog 52 Tryz.f52 Tryz.ac52 8 [.tmp 4] := ⟨Tryz.func52, by kernel_rfl, by kernel_rfl, by kernel_rfl, by kernel_rfl, by kernel_rfl, by kernel_rfl, by kernel_rfl⟩
def Tryz.ac55 : ACode := ((ACode.region false [⟨some 2, .mv (.c (.slice none 0 0)), none, []⟩]).seq ((ACode.region false [⟨some 3, .mv (.c (.slice none 0 0)), none, []⟩]).seq ((ACode.region false [⟨some 4, .mv (.c (.int .i64 (0))), none, []⟩]).seq (((ACode.region false [⟨some 5, .mv (.c (.int .i64 (0))), none, []⟩]).seq (ACode.block 0 (((ACode.region false [⟨some 6, .mv (.t 5), none, []⟩, ⟨some 7, .mv (.t 0), none, []⟩, ⟨some 8, .lenStr (.t 7), none, []⟩, ⟨some 9, .bin .leq (.t 6) (.t 8), none, []⟩]).seq (ACode.cond (.t 9) ACode.skip (ACode.exit 0))).seq ((ACode.block 1 ((ACode.region false [⟨some 12, .mv (.t 5), none, []⟩, ⟨some 13, .mv (.t 0), none, []⟩, ⟨some 14, .lenStr (.t 13), none, []⟩, ⟨some 15, .bin .eql (.t 12) (.t 14), none, []⟩, ⟨some 16, .mv (.t 15), none, []⟩, ⟨some 17, .mv (.t 0), some (16, false), []⟩, ⟨some 18, .mv (.t 5), some (16, false), []⟩, ⟨some 19, .idxStr (.t 17) (.t 18), some (16, false), []⟩, ⟨some 20, .bin .eql (.t 19) (.c (.int .u8 (46))), some (16, false), []⟩, ⟨some 21, .pick (.t 16) (.c (.bool true)) (.t 20), none, []⟩]).seq (ACode.cond (.t 21) ((ACode.region false [⟨some 22, .mv (.t 3), none, []⟩, ⟨some 23, .mv (.t 0), none, []⟩, ⟨some 24, .mv (.t 4), none, []⟩, ⟨some 25, .mv (.t 5), none, []⟩, ⟨some 26, .sliceStr (.t 23) (some (.t 24)) (some (.t 25)), none, []⟩, ⟨some 27, .buildSlice 9 1 [.t 26], none, []⟩, ⟨some 28, .append 9 1 16 (.t 22) (.t 27), none, []⟩, ⟨some 3, .mv (.t 28), none, []⟩]).seq (ACode.region false [⟨some 29, .mv (.t 5), none, []⟩, ⟨some 30, .bin .add (.t 29) (.c (.int .i64 (1))), none, []⟩, ⟨some 4, .mv (.t 30), none, []⟩])) ACode.skip))).seq (ACode.region false [⟨some 10, .mv (.t 5), none, []⟩, ⟨some 11, .bin .add (.t 10) (.c (.int .i64 (1))), none, []⟩, ⟨some 5, .mv (.t 11), none, []⟩]))).loop)).seq ((ACode.region false [⟨some 31, .mv (.t 3), none, []⟩, ⟨some 2, .mv (.t 31), none, []⟩]).seq ACode.ret)))))
theorem Tryz.F55 : FnFacts Tryz.prog 55 Tryz.f55 Tryz.ac55 32 [.tmp 2] := ⟨Tryz.func55, by kernel_rfl, by kernel_rfl, by kernel_rfl, by kernel_rfl, by kernel_rfl, by kernel_rfl, by kernel_rfl⟩
def Tryz.ac56 : ACode := ((ACode.region false [⟨some 2, .mv (.c (.bool false)), none, []⟩]).seq (((ACode.region false [⟨some 4, .mv (.t 0), none, []⟩, ⟨some 5, .bin .eql (.t 4) (.c (.string ⟨⟨[]⟩⟩)), none, []⟩, ⟨some 6, .mv (.t 5), none, []⟩, ⟨some 7, .mv (.t 0), some (6, false), []⟩, ⟨some 8, .lenStr (.t 7), some (6, false), []⟩, ⟨some 9, .bin .gtr (.t 8) (.c (.int .i64 (16))), some (6, false), []⟩, ⟨some 10, .pick (.t 6) (.c (.bool true)) (.t 9), none, []⟩, ⟨some 11, .mv (.t 10), none, []⟩, ⟨some 12, .mv (.t 0), some (11, false), []⟩, ⟨some 13, .idxStr (.t 12) (.c (.int .i64 (0))), some (11, false), []⟩, ⟨some 14, .call 66 [.t 13], some (11, false), []⟩, ⟨some 15, .un .not (.t 14), some (11, false), []⟩, ⟨some 16, .pick (.t 11) (.c (.bool true)) (.t 15), none, []⟩]).seq (ACode.cond (.t 16) ((ACode.region false [⟨some 2, .mv (.c (.bool false)), none, []⟩]).seq ACode.ret) ACode.skip)).seq (((ACode.region false [⟨some 3, .mv (.c (.int .i64 (0))), none, []⟩]).seq (ACode.block 0 (((ACode.region false [⟨some 17, .mv (.t 3), none, []⟩, ⟨some 18, .mv (.t 0), none, []⟩, ⟨some 19, .lenStr (.t 18), none, []⟩, ⟨some 20, .bin .lss (.t 17) (.t 19), none, []⟩]).seq (ACode.cond (.t 20) ACode.skip (ACode.exit 0))).seq ((ACode.block 1 ((ACode.region false [⟨some 23, .mv (.t 0), none, []⟩, ⟨some 24, .mv (.t 3), none, []⟩, ⟨some 25, .idxStr (.t 23) (.t 24), none, []⟩, ⟨some 26, .call 66 [.t 25], none, []⟩, ⟨some 27, .un .not (.t 26), none, []⟩, ⟨some 28, .mv (.t 27), none, []⟩, ⟨some 29, .mv (.t 0), some (28, true), []⟩, ⟨some 30, .mv (.t 3), some (28, true), []⟩, ⟨some 31, .idxStr (.t 29) (.t 30), some (28, true), []⟩, ⟨some 32, .call 67 [.t 31], some (28, true), []⟩, ⟨some 33, .un .not (.t 32), some (28, true), []⟩, ⟨some 34, .pick (.t 28) (.t 33) (.c (.bool false)), none, []⟩, ⟨some 35, .mv (.t 34), none, []⟩, ⟨some 36, .mv (.t 0), some (35, true), []⟩, ⟨some 37, .mv (.t 3), some (35, true), []⟩, ⟨some 38, .idxStr (.t 36) (.t 37), some (35, true), []⟩, ⟨some 39, .bin .neq (.t 38) (.c (.int .u8 (95))), some (35, true), []⟩, ⟨some 40, .pick (.t 35) (.t 39) (.c (.bool false)), none, []⟩, ⟨some 41, .mv (.t 40), none, []⟩, ⟨some 42, .mv (.t 0), some (41, true), []⟩, ⟨some 43, .mv (.t 3), some (41, true), []⟩, ⟨some 44, .idxStr (.t 42) (.t 43), some (41, true), []⟩, ⟨some 45, .bin .neq (.t 44) (.c (.int .u8 (45))), some (41, true), []⟩, ⟨some 46, .pick (.t 41) (.t 45) (.c (.bool false)), none, []⟩]).seq (ACode.cond (.t 46) ((ACode.region false [⟨some 2, .mv (.c (.bool false)), none, []⟩]).seq ACode.ret) ACode.skip))).seq (ACode.region false [⟨some 21, .mv (.t 3), none, []⟩, ⟨some 22, .bin .add (.t 21) (.c (.int .i64 (1))), none, []⟩, ⟨some 3, .mv (.t 22), none, []⟩]))).loop)).seq ((ACode.region false [⟨some 2, .mv (.c (.bool true)), none, []⟩]).seq ACode.ret))))
theorem Tryz.F56 : FnFacts Tryz.prog 56 Tryz.f56 Tryz.ac56 47 [.tmp 2] := ⟨Tryz.func56, by kernel_rfl, by kernel_rfl, by kernel_rfl, by kernel_rfl, by kernel_rfl, by kernel_rfl, by kernel_rfl⟩
def Tryz.ac57 : ACode := ((ACode.region false [⟨some 3, .box 1 (.t 0), none, []⟩, ⟨some 4, .box 1 (.t 1), none, []⟩, ⟨some 5, .box 1 (.t 2), none, []⟩, ⟨some 6, .mv (.c (.slice none 0 0)), none, []⟩]).seq ((ACode.region true [⟨some 15, .load 1 false (.t 3), none, []⟩, ⟨some 16, .call 68 [.t 15], none, [0]⟩, ⟨some 17, .load 1 false (.t 4), none, []⟩, ⟨some 18, .call 68 [.t 17], none, [2, 1]⟩, ⟨none, .store 1 (.t 3) (.t 16), none, [1, 3, 0, 1]⟩, ⟨none, .store 1 (.t 4) (.t 18), none, [3, 4, 0, 1, 2, 3, 4]⟩]).seq ((ACode.region false [⟨some 7, .mv (.c (.slice none 0 0)), none, []⟩]).seq (((ACode.region false [⟨some 19, .load 1 false (.t 3), none, []⟩, ⟨some 20, .load 1 false (.t 4), none, []⟩, ⟨some 21, .buildSlice 37 1 [.t 19, .t 20], none, []⟩, ⟨some 22, .call 69 [.t 21], none, []⟩, ⟨some 23, .len (.t 22), none, []⟩, ⟨some 24, .mv (.c (.int .i64 (0))), none, []⟩]).seq (ACode.block 0 ((ACode.region false [⟨some 25, .bin .lss (.t 24) (.t 23), none, []⟩]).seq ((ACode.cond (.t 25) ACode.skip (ACode.exit 0)).seq ((ACode.block 1 ((ACode.region false [⟨some 26, .idxAddr 2 (.t 22) (.t 24), none, []⟩, ⟨some 27, .load 2 true (.t 26), none, []⟩, ⟨some 9, .alloc [.int .i64 (0), .int .i64 (0)], none, []⟩, ⟨none, .store 2 (.t 9) (.t 27), none, []⟩]).seq (ACode.region false [⟨some 28, .mv (.t 7), none, []⟩, ⟨some 29, .fieldAddr 0 (.t 9), none, []⟩, ⟨some 30, .load 1 false (.t 29), none, []⟩, ⟨some 31, .fieldAddr 1 (.t 9), none, []⟩, ⟨some 32, .load 1 false (.t 31), none, []⟩, ⟨some 33, .buildSlice 3 1 [.t 30, .t 32], none, []⟩, ⟨some 34, .append 3 1 8 (.t 28) (.t 33), none, []⟩, ⟨some 7, .mv (.t 34), none, []⟩]))).seq (ACode.region false [⟨some 35, .bin .add (.t 24) (.c (.int .i64 (1))), none, []⟩, ⟨some 24, .mv (.t 35), none, []⟩])))).loop)).seq ((ACode.region false [⟨some 36, .mv (.t 7), none, []⟩, ⟨some 37, .call 70 [.t 36], none, []⟩]).seq ((ACode.region false [⟨some 38, .mv (.t 7), none, []⟩, ⟨some 39, .call 71 [.t 38], none, []⟩, ⟨some 7, .mv (.t 39), none, []⟩]).seq ((ACode.region false [⟨some 10, .alloc [.slice none 0 0], none, []⟩]).seq ((ACode.region false [⟨some 11, .alloc [.int .i64 (0)], none, []⟩, ⟨some 12, .alloc [.int .i64 (0)], none, []⟩, ⟨none, .store 1 (.t 11) (.c (.int .i64 (0))), none, []⟩, ⟨none, .store 1 (.t 12) (.c (.int .i64 (0))), none, []⟩]).seq ((ACode.region false [⟨some 40, .mkfn 72 [.t 11, .t 3, .t 12, .t 4, .t 5, .t 10], none, []⟩, ⟨some 13, .mv (.t 40), none, []⟩]).seq (((ACode.region false [⟨some 14, .mv (.c (.int .i64 (1))), none, []⟩]).seq (ACode.block 2 (((ACode.region false [⟨some 41, .mv (.t 14), none, []⟩, ⟨some 42, .mv (.t 7), none, []⟩, ⟨some 43, .len (.t 42), none, []⟩, ⟨some 44, .bin .lss (.t 41) (.t 43), none, []⟩]).seq (ACode.cond (.t 44) ACode.skip (ACode.exit 2))).seq ((ACode.block 3 (ACode.region true [⟨some 47, .mv (.t 13), none, []⟩, ⟨some 48, .mv (.t 7), none, []⟩, ⟨some 49, .mv (.t 14), none, []⟩, ⟨some 50, .bin .sub (.t 49) (.c (.int .i64 (1))), none, [2]⟩, ⟨some 51, .idxAddr 1 (.t 48) (.t 50), none, [1, 3]⟩, ⟨some 52, .load 1 false (.t 51), none, [4]⟩, ⟨some 53, .mv (.t 7), none, []⟩, ⟨some 54, .mv (.t 14), none, []⟩, ⟨some 55, .idxAddr 1 (.t 53) (.t 54), none, [6, 7]⟩, ⟨some 56, .load 1 false (.t 55), none, [8]⟩, ⟨some 57, .callv (.t 47) [.t 52, .t 56], none, [0, 5, 9]⟩])).seq (ACode.region false [⟨some 45, .mv (.t 14), none, []⟩, ⟨some 46, .bin .add (.t 45) (.c (.int .i64 (1))), none, []⟩, ⟨some 14, .mv (.t 46), none, []⟩]))).loop)).seq ((ACode.region false [⟨some 58, .load 1 false (.t 10), none, []⟩, ⟨some 59, .call 68 [.t 58], none, []⟩, ⟨some 6, .mv (.t 59), none, []⟩]).seq ACode.ret)))))))))))
theorem Tryz.F57 : FnFacts Tryz.prog 57 Tryz.f57 Tryz.ac57 60 [.tmp 6] := ⟨Tryz.func57, by kernel_rfl, by kernel_rfl, by kernel_rfl, by kernel_rfl, by kernel_rfl, by kernel_rfl, by kernel_rfl⟩
def Tryz.ac58 : ACode := ((ACode.region false [⟨some 4, .mv (.c (.bool false)), none, []⟩]).seq ((ACode.region false [⟨some 5, .mv (.t 0), none, []⟩, ⟨some 6, .mv (.t 5), none, []⟩, ⟨some 7, .mv (.t 1), some (6, true), []⟩, ⟨some 8, .pick (.t 6) (.t 7) (.c (.bool false)), none, []⟩, ⟨some 4, .mv (.t 8), none, []⟩]).seq ACode.ret))
theorem Tryz.F58 : FnFacts Tryz.prog 58 Tryz.f58 Tryz.ac58 9 [.tmp 4] := ⟨Tryz.func58, by kernel_rfl, by kernel_rfl, by kernel_rfl, by kernel_rfl, by kernel_rfl, by kernel_rfl, by kernel_rfl⟩
def Tryz.ac59 : ACode := ((ACode.region false [⟨some 4, .mv (.c (.int .i64 (0))), none, []⟩]).seq (((ACode.region false [⟨some 6, .mv (.t 0), none, []⟩, ⟨some 7, .len (.t 6), none, []⟩, ⟨some 8, .mv (.c (.int .i64 (0))), none, []⟩]).seq (ACode.block 0 ((ACode.region false [⟨some 9, .bin .lss (.t 8) (.t 7), none, []⟩]).seq ((ACode.cond (.t 9) ACode.skip (ACode.exit 0)).seq ((ACode.block 1 ((ACode.region false [⟨some 10, .mv (.t 8), none, []⟩, ⟨some 5, .mv (.t 10), none, []⟩]).seq ((ACode.region false [⟨some 11, .mv (.t 1), none, []⟩, ⟨some 12, .mv (.t 0), none, []⟩, ⟨some 13, .mv (.t 5), none, []⟩, ⟨some 14, .idxAddr 3 (.t 12) (.t 13), none, []⟩, ⟨some 15, .load 3 true (.t 14), none, []⟩, ⟨some 16, .callv (.t 11) [.t 15], none, []⟩]).seq (ACode.cond (.t 16) ((ACode.region false [⟨some 17, .mv (.t 5), none, []⟩, ⟨some 4, .mv (.t 17), none, []⟩]).seq ACode.ret) ACode.skip)))).seq (ACode.region false [⟨some 18, .bin .add (.t 8) (.c (.int .i64 (1))), none, []⟩, ⟨some 8, .mv (.t 18), none, []⟩])))).loop)).seq ((ACode.region false [⟨some 4, .mv (.c (.int .i64 (Int.negSucc 0))), none, []⟩]).seq ACode.ret)))
theorem Tryz.F59 : FnFacts Tryz.prog 59 Tryz.f59 Tryz.ac59 19 [.tmp 4] := ⟨Tryz.func59, by kernel_rfl, by kernel_rfl, by kernel_rfl, by kernel_rfl, by kernel_rfl, by kernel_rfl, by kernel_rfl⟩
def Tryz.ac60 : ACode := ((ACode.region false [⟨some 2, .box 3 (.t 0), none, []⟩, ⟨some 3, .mv (.c (.bool false)), none, []⟩]).seq ((ACode.region false [⟨some 4, .fieldAddr 0 (.t 2), none, []⟩, ⟨some 5, .load 1 false (.t 4), none, []⟩, ⟨some 6, .load 1 false (.t 1), none, []⟩, ⟨some 7, .bin .eql (.t 5) (.t 6), none, []⟩, ⟨some 3, .mv (.t 7), none, []⟩]).seq ACode.ret))
theorem Tryz.F60 : FnFacts Tryz.prog 60 Tryz.f60 Tryz.ac60 8 [.tmp 3] := ⟨Tryz.func60, by kernel_rfl, by kernel_rfl, by kernel_rfl, by kernel_rfl, by kernel_rfl, by kernel_rfl, by kernel_rfl⟩
def Tryz.ac61 : ACode := ((ACode.region false [⟨some 4, .mv (.c (.bool false)), none, []⟩]).seq ((ACode.region false [⟨some 5, .mv (.t 0), none, []⟩, ⟨some 6, .mv (.t 1), none, []⟩, ⟨some 7, .call 73 [.t 5, .t 6], none, []⟩, ⟨some 8, .bin .geq (.t 7) (.c (.int .i64 (0))), none, []⟩, ⟨some 4, .mv (.t 8), none, []⟩]).seq ACode.ret))
theorem Tryz.F61 : FnFacts Tryz.prog 61 Tryz.f61 Tryz.ac61 9 [.tmp 4] := ⟨Tryz.func61, by kernel_rfl, by kernel_rfl, by kernel_rfl, by kernel_rfl, by kernel_rfl, by kernel_rfl, by kernel_rfl⟩
def Tryz.ac62 : ACode := ((ACode.region false [⟨some 3, .mv (.c (.bool false)), none, []⟩]).seq ((ACode.region false [⟨some 4, .load 1 false (.t 1), none, []⟩, ⟨some 5, .mv (.t 0), none, []⟩, ⟨some 6, .mapGet (AV.v (.bool false)) false (.t 4) (.t 5), none, []⟩, ⟨some 3, .mv (.t 6), none, []⟩]).seq ACode.ret))
theorem Tryz.F62 : FnFacts Tryz.prog 62 Tryz.f62 Tryz.ac62 7 [.tmp 3] := ⟨Tryz.func62, by kernel_rfl, by kernel_rfl, by kernel_rfl, by kernel_rfl, by kernel_rfl, by kernel_rfl, by kernel_rfl⟩
def Tryz.ac63 : ACode := ((ACode.region false [⟨some 2, .mv (.c (.bool false)), none, []⟩]).seq (((ACode.region false [⟨some 7, .mv (.t 0), none, []⟩, ⟨some 8, .bin .eql (.t 7) (.c (.string ⟨⟨[]⟩⟩)), none, []⟩, ⟨some 9, .mv (.t 8), none, []⟩, ⟨some 10, .mv (.t 0), some (9, false), []⟩, ⟨some 11, .lenStr (.t 10), some (9, false), []⟩, ⟨some 12, .bin .gtr (.t 11) (.c (.int .i64 (16))), some (9, false), []⟩, ⟨some 13, .pick (.t 9) (.c (.bool true)) (.t 12), none, []⟩]).seq (ACode.cond (.t 13) ((ACode.region false [⟨some 2, .mv (.c (.bool false)), none, []⟩]).seq ACode.ret) ACode.skip)).seq (((ACode.region false [⟨some 14, .mv (.t 0), none, []⟩, ⟨some 15, .range (.t 14), none, []⟩]).seq (ACode.block 0 ((ACode.region false [⟨some 16, .next (.t 15), none, []⟩, ⟨some 17, .extract (.t 16) 0, none, []⟩]).seq ((ACode.cond (.t 17) ACode.skip (ACode.exit 0)).seq (ACode.block 1 ((ACode.region false [⟨some 18, .extract (.t 16) 1, none, []⟩, ⟨some 19, .extract (.t 16) 2, none, []⟩, ⟨some 3, .mv (.t 18), none, []⟩, ⟨some 4, .mv (.t 19), none, []⟩]).seq ((ACode.region false [⟨some 20, .mv (.t 4), none, []⟩, ⟨some 21, .bin .geq (.t 20) (.c (.int .i32 (65))), none, []⟩, ⟨some 22, .mv (.t 21), none, []⟩, ⟨some 23, .mv (.t 4), some (22, true), []⟩, ⟨some 24, .bin .leq (.t 23) (.c (.int .i32 (90))), some (22, true), []⟩, ⟨some 25, .pick (.t 22) (.t 24) (.c (.bool false)), none, []⟩, ⟨some 26, .mv (.t 25), none, []⟩, ⟨some 27, .mv (.t 4), some (26, false), []⟩, ⟨some 28, .bin .geq (.t 27) (.c (.int .i32 (97))), some (26, false), []⟩, ⟨some 29, .mv (.t 28), some (26, false), []⟩, ⟨some 30, .mv (.t 4), some (29, true), []⟩, ⟨some 31, .bin .leq (.t 30) (.c (.int .i32 (122))), some (29, true), []⟩, ⟨some 32, .pick (.t 29) (.t 31) (.c (.bool false)), some (26, false), []⟩, ⟨some 33, .pick (.t 26) (.c (.bool true)) (.t 32), none, []⟩, ⟨some 5, .mv (.t 33), none, []⟩]).seq ((ACode.region false [⟨some 34, .mv (.t 4), none, []⟩, ⟨some 35, .bin .geq (.t 34) (.c (.int .i32 (48))), none, []⟩, ⟨some 36, .mv (.t 35), none, []⟩, ⟨some 37, .mv (.t 4), some (36, true), []⟩, ⟨some 38, .bin .leq (.t 37) (.c (.int .i32 (57))), some (36, true), []⟩, ⟨some 39, .pick (.t 36) (.t 38) (.c (.bool false)), none, []⟩, ⟨some 40, .mv (.t 39), none, []⟩, ⟨some 41, .mv (.t 4), some (40, false), []⟩, ⟨some 42, .bin .eql (.t 41) (.c (.int .i32 (95))), some (40, false), []⟩, ⟨some 43, .pick (.t 40) (.c (.bool true)) (.t 42), none, []⟩, ⟨some 44, .mv (.t 43), none, []⟩, ⟨some 45, .mv (.t 4), some (44, false), []⟩, ⟨some 46, .bin .eql (.t 45) (.c (.int .i32 (45))), some (44, false), []⟩, ⟨some 47, .pick (.t 44) (.c (.bool true)) (.t 46), none, []⟩, ⟨some 6, .mv (.t 47), none, []⟩]).seq ((ACode.region false [⟨some 48, .mv (.t 5), none, []⟩, ⟨some 49, .un .not (.t 48), none, []⟩, ⟨some 50, .mv (.t 49), none, []⟩, ⟨some 51, .mv (.t 3), some (50, true), []⟩, ⟨some 52, .bin .eql (.t 51) (.c (.int .i64 (0))), some (50, true), []⟩, ⟨some 53, .mv (.t 52), some (50, true), []⟩, ⟨some 54, .mv (.t 6), some (53, false), []⟩, ⟨some 55, .un .not (.t 54), some (53, false), []⟩, ⟨some 56, .pick (.t 53) (.c (.bool true)) (.t 55), some (50, true), []⟩, ⟨some 57, .pick (.t 50) (.t 56) (.c (.bool false)), none, []⟩]).seq (ACode.cond (.t 57) ((ACode.region false [⟨some 2, .mv (.c (.bool false)), none, []⟩]).seq ACode.ret) ACode.skip)))))))).loop)).seq ((ACode.region false [⟨some 2, .mv (.c (.bool true)), none, []⟩]).seq ACode.ret))))
theorem Tryz.F63 : FnFacts Tryz.prog 63 Tryz.f63 Tryz.ac63 58 [.tmp 2] := ⟨Tryz.func63, by kernel_rfl, by kernel_rfl, by kernel_rfl, by kernel_rfl, by kernel_rfl, by kernel_rfl, by kernel_rfl⟩
def Tryz.ac64 : ACode := ((ACode.region false [⟨some 8, .mv (.c (.slice none 0 0)), none, []⟩]).seq (((ACode.region false [⟨some 12, .mv (.t 3), none, []⟩, ⟨some 13, .bin .eql (.t 12) (.c (.int .i64 (0))), none, []⟩]).seq (ACode.cond (.t 13) ((ACode.region false [⟨some 8, .mv (.c (.slice none 0 0)), none, []⟩]).seq ACode.ret) ACode.skip)).seq (((ACode.region false [⟨some 14, .mv (.t 1), none, []⟩, ⟨some 15, .bin .eql (.t 14) (.c (.string ⟨⟨[]⟩⟩)), none, []⟩]).seq (ACode.cond (.t 15) ((ACode.region false [⟨some 16, .mv (.t 0), none, []⟩, ⟨some 17, .mv (.t 3), none, []⟩, ⟨some 18, .call 74 [.t 16, .t 17], none, []⟩, ⟨some 8, .mv (.t 18), none, []⟩]).seq ACode.ret) ACode.skip)).seq (((ACode.region false [⟨some 19, .mv (.t 3), none, []⟩, ⟨some 20, .bin .lss (.t 19) (.c (.int .i64 (0))), none, []⟩]).seq (ACode.cond (.t 20) (ACode.region false [⟨some 21, .mv (.t 0), none, []⟩, ⟨some 22, .mv (.t 1), none, []⟩, ⟨some 23, .call 75 [.t 21, .t 22], none, []⟩, ⟨some 24, .bin .add (.t 23) (.c (.int .i64 (1))), none, []⟩, ⟨some 3, .mv (.t 24), none, []⟩]) ACode.skip)).seq ((ACode.region false [⟨some 25, .mv (.t 3), none, []⟩, ⟨some 26, .mv (.t 0), none, []⟩, ⟨some 27, .lenStr (.t 26), none, []⟩, ⟨some 28, .bin .add (.t 27) (.c (.int .i64 (1))), none, []⟩, ⟨some 29, .minmax false (.t 25) (.t 28), none, []⟩, ⟨some 3, .mv (.t 29), none, []⟩]).seq ((ACode.region false [⟨some 30, .mv (.t 3), none, []⟩, ⟨some 31, .make 9 1 16 [.string ⟨⟨[]⟩⟩] (.t 30), none, []⟩, ⟨some 9, .mv (.t 31), none, []⟩]).seq ((ACode.region false [⟨some 32, .mv (.t 3), none, []⟩, ⟨some 33, .bin .sub (.t 32) (.c (.int .i64 (1))), none, []⟩, ⟨some 3, .mv (.t 33), none, []⟩]).seq ((ACode.region false [⟨some 10, .mv (.c (.int .i64 (0))), none, []⟩]).seq ((ACode.block 0 (((ACode.region false [⟨some 34, .mv (.t 10), none, []⟩, ⟨some 35, .mv (.t 3), none, []⟩, ⟨some 36, .bin .lss (.t 34) (.t 35), none, []⟩]).seq (ACode.cond (.t 36) ACode.skip (ACode.exit 0))).seq (ACode.block 1 ((ACode.region false [⟨some 37, .mv (.t 0), none, []⟩, ⟨some 38, .mv (.t 1), none, []⟩, ⟨some 39, .call 76 [.t 37, .t 38], none, []⟩, ⟨some 11, .mv (.t 39), none, []⟩]).seq (((ACode.region false [⟨some 40, .mv (.t 11), none, []⟩, ⟨some 41, .bin .lss (.t 40) (.c (.int .i64 (0))), none, []⟩]).seq (ACode.cond (.t 41) (ACode.exit 0) ACode.skip)).seq ((ACode.region false [⟨some 42, .mv (.t 9), none, []⟩, ⟨some 43, .mv (.t 10), none, []⟩, ⟨some 44, .mv (.t 0), none, []⟩, ⟨some 45, .mv (.t 11), none, []⟩, ⟨some 46, .mv (.t 2), none, []⟩, ⟨some 47, .bin .add (.t 45) (.t 46), none, []⟩, ⟨some 48, .sliceStr (.t 44) none (some (.t 47)), none, []⟩, ⟨some 49, .idxAddr 1 (.t 42) (.t 43), none, []⟩, ⟨none, .store 1 (.t 49) (.t 48), none, []⟩]).seq ((ACode.region false [⟨some 50, .mv (.t 0), none, []⟩, ⟨some 51, .mv (.t 11), none, []⟩, ⟨some 52, .mv (.t 1), none, []⟩, ⟨some 53, .lenStr (.t 52), none, []⟩, ⟨some 54, .bin .add (.t 51) (.t 53), none, []⟩, ⟨some 55, .sliceStr (.t 50) (some (.t 54)) none, none, []⟩, ⟨some 0, .mv (.t 55), none, []⟩]).seq (ACode.region false [⟨some 56, .mv (.t 10), none, []⟩, ⟨some 57, .bin .add (.t 56) (.c (.int .i64 (1))), none, []⟩, ⟨some 10, .mv (.t 57), none, []⟩]))))))).loop).seq ((ACode.region false [⟨some 58, .mv (.t 9), none, []⟩, ⟨some 59, .mv (.t 10), none, []⟩, ⟨some 60, .mv (.t 0), none, []⟩, ⟨some 61, .idxAddr 1 (.t 58) (.t 59), none, []⟩, ⟨none, .store 1 (.t 61) (.t 60), none, []⟩]).seq ((ACode.region false [⟨some 62, .mv (.t 9), none, []⟩, ⟨some 63, .mv (.t 10), none, []⟩, ⟨some 64, .bin .add (.t 63) (.c (.int .i64 (1))), none, []⟩, ⟨some 65, .slice 1 (.t 62) none (some (.t 64)), none, []⟩, ⟨some 8, .mv (.t 65), none, []⟩]).seq ACode.ret)))))))))))
theorem Tryz.F64 : FnFacts Tryz.prog 64 Tryz.f64 Tryz.ac64 66 [.tmp 8] := ⟨Tryz.func64, by kernel_rfl, by kernel_rfl, by kernel_rfl, by kernel_rfl, by kernel_rfl, by kernel_rfl, by kernel_rfl⟩
def Tryz.ac66 : ACode := ((ACode.region false [⟨some 2, .mv (.c (.bool false)), none, []⟩]).seq ((ACode.region false [⟨some 3, .mv (.t 0), none, []⟩, ⟨some 4, .bin .geq (.t 3) (.c (.int .u8 (97))), none, []⟩, ⟨some 5, .mv (.t 4), none, []⟩, ⟨some 6, .mv (.t 0), some (5, true), []⟩, ⟨some 7, .bin .leq (.t 6) (.c (.int .u8 (122))), some (5, true), []⟩, ⟨some 8, .pick (.t 5) (.t 7) (.c (.bool false)), none, []⟩, ⟨some 9, .mv (.t 8), none, []⟩, ⟨some 10, .mv (.t 0), some (9, false), []⟩, ⟨some 11, .bin .geq (.t 10) (.c (.int .u8 (65))), some (9, false), []⟩, ⟨some 12, .mv (.t 11), some (9, false), []⟩, ⟨some 13, .mv (.t 0), some (12, true), []⟩, ⟨some 14, .bin .leq (.t 13) (.c (.int .u8 (90))), some (12, true), []⟩, ⟨some 15, .pick (.t 12) (.t 14) (.c (.bool false)), some (9, false), []⟩, ⟨some 16, .pick (.t 9) (.c (.bool true)) (.t 15), none, []⟩, ⟨some 2, .mv (.t 16), none, []⟩]).seq ACode.ret))
theorem Tryz.F66 : FnFacts Tryz.prog 66 Tryz.f66 Tryz.ac66 17 [.tmp 2] := ⟨Tryz.func66, by kernel_rfl, by kernel_rfl, by kernel_rfl, by kernel_rfl, by kernel_rfl, by kernel_rfl, by kernel_rfl⟩
def Tryz.ac67 : ACode := ((ACode.region false [⟨some 2, .mv (.c (.bool false)), none, []⟩]).seq ((ACode.region false [⟨some 3, .mv (.t 0), none, []⟩, ⟨some 4, .bin .geq (.t 3) (.c (.int .u8 (48))), none, []⟩, ⟨some 5, .mv (.t 4), none, []⟩, ⟨some 6, .mv (.t 0), some (5, true), []⟩, ⟨some 7, .bin .leq (.t 6) (.c (.int .u8 (57))), some (5, true), []⟩, ⟨some 8, .pick (.t 5) (.t 7) (.c (.bool false)), none, []⟩, ⟨some 2, .mv (.t 8), none, []⟩]).seq ACode.ret))
theorem Tryz.F67 : FnFacts Tryz.prog 67 Tryz.f67 Tryz.ac67 9 [.tmp 2] := ⟨Tryz.func67, by kernel_rfl, by kernel_rfl, by kernel_rfl, by kernel_rfl, by kernel_rfl, by kernel_rfl, by kernel_rfl⟩
def Tryz.ac68 : ACode := ((ACode.region false [⟨some 2, .mv (.c (.slice none 0 0)), none, []⟩]).seq ((ACode.region false [⟨some 8, .mv (.t 0), none, []⟩, ⟨some 9, .call 79 [.t 8], none, []⟩, ⟨some 10, .call 78 [.t 9, .f 80], none, []⟩, ⟨some 3, .mv (.t 10), none, []⟩]).seq ((ACode.region false [⟨some 11, .mv (.t 3), none, []⟩, ⟨some 12, .call 81 [.t 11, .f 82], none, []⟩]).seq ((ACode.region false [⟨some 4, .mv (.c (.slice none 0 0)), none, []⟩]).seq (((ACode.region false [⟨some 13, .mv (.t 3), none, []⟩, ⟨some 14, .len (.t 13), none, []⟩, ⟨some 15, .mv (.c (.int .i64 (0))), none, []⟩]).seq (ACode.block 0 ((ACode.region false [⟨some 16, .bin .lss (.t 15) (.t 14), none, []⟩]).seq ((ACode.cond (.t 16) ACode.skip (ACode.exit 0)).seq ((ACode.block 1 ((ACode.region false [⟨some 17, .idxAddr 2 (.t 13) (.t 15), none, []⟩, ⟨some 18, .load 2 true (.t 17), none, []⟩, ⟨some 6, .alloc [.int .i64 (0), .int .i64 (0)], none, []⟩, ⟨none, .store 2 (.t 6) (.t 18), none, []⟩]).seq ((ACode.region false [⟨some 19, .mv (.t 4), none, []⟩, ⟨some 20, .len (.t 19), none, []⟩, ⟨some 7, .mv (.t 20), none, []⟩]).seq ((ACode.region true [⟨some 21, .mv (.t 7), none, []⟩, ⟨some 22, .bin .gtr (.t 21) (.c (.int .i64 (0))), none, [0]⟩, ⟨some 23, .mv (.t 22), none, [1]⟩, ⟨some 24, .fieldAddr 0 (.t 6), some (23, true), [2]⟩, ⟨some 25, .load 1 false (.t 24), some (23, true), [3, 2]⟩, ⟨some 26, .mv (.t 4), some (23, true), [2]⟩, ⟨some 27, .mv (.t 7), some (23, true), [2]⟩, ⟨some 28, .bin .sub (.t 27) (.c (.int .i64 (1))), some (23, true), [6, 2]⟩, ⟨some 29, .idxAddr 2 (.t 26) (.t 28), some (23, true), [5, 7, 2]⟩, ⟨some 30, .fieldAddr 1 (.t 29), some (23, true), [8, 2]⟩, ⟨some 31, .load 1 false (.t 30), some (23, true), [9, 2]⟩, ⟨some 32, .bin .leq (.t 25) (.t 31), some (23, true), [4, 10, 2]⟩, ⟨some 33, .pick (.t 23) (.t 32) (.c (.bool false)), none, [2, 11]⟩]).seq (ACode.cond (.t 33) (ACode.region true [⟨some 34, .mv (.t 4), none, []⟩, ⟨some 35, .mv (.t 7), none, []⟩, ⟨some 36, .bin .sub (.t 35) (.c (.int .i64 (1))), none, [1]⟩, ⟨some 37, .mv (.t 4), none, []⟩, ⟨some 38, .mv (.t 7), none, []⟩, ⟨some 39, .bin .sub (.t 38) (.c (.int .i64 (1))), none, [4]⟩, ⟨some 40, .idxAddr 2 (.t 37) (.t 39), none, [3, 5]⟩, ⟨some 41, .fieldAddr 1 (.t 40), none, [6]⟩, ⟨some 42, .load 1 false (.t 41), none, [7]⟩, ⟨some 43, .fieldAddr 1 (.t 6), none, []⟩, ⟨some 44, .load 1 false (.t 43), none, [9]⟩, ⟨some 45, .minmax true (.t 42) (.t 44), none, [8, 10]⟩, ⟨some 46, .idxAddr 2 (.t 34) (.t 36), none, [0, 2, 0, 1, 2, 3, 4, 5, 6, 7, 8, 9, 10, 11]⟩, ⟨some 47, .fieldAddr 1 (.t 46), none, [12, 0, 1, 2, 3, 4, 5, 6, 7, 8, 9, 10, 11]⟩, ⟨none, .store 1 (.t 47) (.t 45), none, [13, 11, 0, 1, 2, 3, 4, 5, 6, 7, 8, 9, 10, 11]⟩]) (ACode.region false [⟨some 48, .mv (.t 4), none, []⟩, ⟨some 49, .load 2 true (.t 6), none, []⟩, ⟨some 50, .buildSlice 24 2 [.t 49], none, []⟩, ⟨some 51, .append 24 2 16 (.t 48) (.t 50), none, []⟩, ⟨some 4, .mv (.t 51), none, []⟩])))))).seq (ACode.region false [⟨some 52, .bin .add (.t 15) (.c (.int .i64 (1))), none, []⟩, ⟨some 15, .mv (.t 52), none, []⟩])))).loop)).seq ((ACode.region false [⟨some 53, .mv (.t 4), none, []⟩, ⟨some 2, .mv (.t 53), none, []⟩]).seq ACode.ret))))))
theorem Tryz.F68 : FnFacts Tryz.prog 68 Tryz.f68 Tryz.ac68 54 [.tmp 2] := ⟨Tryz.func68, by kernel_rfl, by kernel_rfl, by kernel_rfl, by kernel_rfl, by kernel_rfl, by kernel_rfl, by kernel_rfl⟩
def Tryz.ac69 : ACode := ((ACode.region false [⟨some 2, .mv (.c (.slice none 0 0)), none, []⟩]).seq ((ACode.region false [⟨some 3, .mv (.c (.int .i64 (0))), none, []⟩]).seq (((ACode.region false [⟨some 9, .mv (.t 0), none, []⟩, ⟨some 10, .len (.t 9), none, []⟩, ⟨some 11, .mv (.c (.int .i64 (0))), none, []⟩]).seq (ACode.block 0 ((ACode.region false [⟨some 12, .bin .lss (.t 11) (.t 10), none, []⟩]).seq ((ACode.cond (.t 12) ACode.skip (ACode.exit 0)).seq ((ACode.block 1 ((ACode.region false [⟨some 13, .idxAddr 1 (.t 9) (.t 11), none, []⟩, ⟨some 14, .load 1 false (.t 13), none, []⟩, ⟨some 5, .mv (.t 14), none, []⟩]).seq ((ACode.region false [⟨some 15, .mv (.t 3), none, []⟩, ⟨some 16, .mv (.t 5), none, []⟩, ⟨some 17, .len (.t 16), none, []⟩, ⟨some 18, .bin .add (.t 15) (.t 17), none, []⟩, ⟨some 3, .mv (.t 18), none, []⟩]).seq ((ACode.region false [⟨some 19, .mv (.t 3), none, []⟩, ⟨some 20, .bin .lss (.t 19) (.c (.int .i64 (0))), none, []⟩]).seq (ACode.cond (.t 20) (ACode.region false [⟨some 21, .bad, none, []⟩, ⟨none, .bad, none, []⟩]) ACode.skip))))).seq (ACode.region false [⟨some 22, .bin .add (.t 11) (.c (.int .i64 (1))), none, []⟩, ⟨some 11, .mv (.t 22), none, []⟩])))).loop)).seq ((ACode.region false [⟨some 23, .mv (.t 3), none, []⟩, ⟨some 24, .call 84 [.c (.slice none 0 0), .t 23], none, []⟩, ⟨some 6, .mv (.t 24), none, []⟩]).seq (((ACode.region false [⟨some 25, .mv (.t 0), none, []⟩, ⟨some 26, .len (.t 25), none, []⟩, ⟨some 27, .mv (.c (.int .i64 (0))), none, []⟩]).seq (ACode.block 2 ((ACode.region false [⟨some 28, .bin .lss (.t 27) (.t 26), none, []⟩]).seq ((ACode.cond (.t 28) ACode.skip (ACode.exit 2)).seq ((ACode.block 3 ((ACode.region false [⟨some 29, .idxAddr 1 (.t 25) (.t 27), none, []⟩, ⟨some 30, .load 1 false (.t 29), none, []⟩, ⟨some 8, .mv (.t 30), none, []⟩]).seq (ACode.region false [⟨some 31, .mv (.t 6), none, []⟩, ⟨some 32, .mv (.t 8), none, []⟩, ⟨some 33, .append 24 2 16 (.t 31) (.t 32), none, []⟩, ⟨some 6, .mv (.t 33), none, []⟩]))).seq (ACode.region false [⟨some 34, .bin .add (.t 27) (.c (.int .i64 (1))), none, []⟩, ⟨some 27, .mv (.t 34), none, []⟩])))).loop)).seq ((ACode.region false [⟨some 35, .mv (.t 6), none, []⟩, ⟨some 2, .mv (.t 35), none, []⟩]).seq ACode.ret))))))
theorem Tryz.F69 : FnFacts Tryz.prog 69 Tryz.f69 Tryz.ac69 36 [.tmp 2] := ⟨Tryz.func69, by kernel_rfl, by kernel_rfl, by kernel_rfl, by kernel_rfl, by kernel_rfl, by kernel_rfl, by kernel_rfl⟩
def Tryz.ac72 : ACode := ((ACode.block 0 (((ACode.region false [⟨some 10, .load 1 false (.t 2), none, []⟩, ⟨some 11, .load 1 false (.t 3), none, []⟩, ⟨some 12, .len (.t 11), none, []⟩, ⟨some 13, .bin .lss (.t 10) (.t 12), none, []⟩, ⟨some 14, .mv (.t 13), none, []⟩, ⟨some 15, .load 1 false (.t 3), some (14, true), []⟩, ⟨some 16, .load 1 false (.t 2), some (14, true), []⟩, ⟨some 17, .idxAddr 2 (.t 15) (.t 16), some (14, true), []⟩, ⟨some 18, .fieldAddr 1 (.t 17), some (14, true), []⟩, ⟨some 19, .load 1 false (.t 18), some (14, true), []⟩, ⟨some 20, .mv (.t 0), some (14, true), []⟩, ⟨some 21, .bin .leq (.t 19) (.t 20), some (14, true), []⟩, ⟨some 22, .pick (.t 14) (.t 21) (.c (.bool false)), none, []⟩]).seq (ACode.cond (.t 22) ACode.skip (ACode.exit 0))).seq (ACode.block 1 (ACode.region false [⟨some 23, .load 1 false (.t 2), none, []⟩, ⟨some 24, .bin .add (.t 23) (.c (.int .i64 (1))), none, []⟩, ⟨none, .store 1 (.t 2) (.t 24), none, []⟩]))).loop).seq ((ACode.block 2 (((ACode.region false [⟨some 25, .load 1 false (.t 4), none, []⟩, ⟨some 26, .load 1 false (.t 5), none, []⟩, ⟨some 27, .len (.t 26), none, []⟩, ⟨some 28, .bin .lss (.t 25) (.t 27), none, []⟩, ⟨some 29, .mv (.t 28), none, []⟩, ⟨some 30, .load 1 false (.t 5), some (29, true), []⟩, ⟨some 31, .load 1 false (.t 4), some (29, true), []⟩, ⟨some 32, .idxAddr 2 (.t 30) (.t 31), some (29, true), []⟩, ⟨some 33, .fieldAddr 1 (.t 32), some (29, true), []⟩, ⟨some 34, .load 1 false (.t 33), some (29, true), []⟩, ⟨some 35, .mv (.t 0), some (29, true), []⟩, ⟨some 36, .bin .leq (.t 34) (.t 35), some (29, true), []⟩, ⟨some 37, .pick (.t 29) (.t 36) (.c (.bool false)), none, []⟩]).seq (ACode.cond (.t 37) ACode.skip (ACode.exit 2))).seq (ACode.block 3 (ACode.region false [⟨some 38, .load 1 false (.t 4), none, []⟩, ⟨some 39, .bin .add (.t 38) (.c (.int .i64 (1))), none, []⟩, ⟨none, .store 1 (.t 4) (.t 39), none, []⟩]))).loop).seq ((ACode.region true [⟨some 40, .load 1 false (.t 6), none, []⟩, ⟨some 41, .load 1 false (.t 2), none, []⟩, ⟨some 42, .load 1 false (.t 3), none, []⟩, ⟨some 43, .len (.t 42), none, [2]⟩, ⟨some 44, .bin .lss (.t 41) (.t 43), none, [1, 3]⟩, ⟨some 45, .mv (.t 44), none, [4]⟩, ⟨some 46, .load 1 false (.t 3), some (45, true), [5]⟩, ⟨some 47, .load 1 false (.t 2), some (45, true), [5]⟩, ⟨some 48, .idxAddr 2 (.t 46) (.t 47), some (45, true), [6, 7, 5]⟩, ⟨some 49, .fieldAddr 0 (.t 48), some (45, true), [8, 5]⟩, ⟨some 50, .load 1 false (.t 49), some (45, true), [9, 5]⟩, ⟨some 51, .mv (.t 0), some (45, true), [5]⟩, ⟨some 52, .bin .leq (.t 50) (.t 51), some (45, true), [10, 11, 5]⟩, ⟨some 53, .pick (.t 45) (.t 52) (.c (.bool false)), none, [5, 12]⟩, ⟨some 54, .load 1 false (.t 4), none, []⟩, ⟨some 55, .load 1 false (.t 5), none, []⟩, ⟨some 56, .len (.t 55), none, [15]⟩, ⟨some 57, .bin .lss (.t 54) (.t 56), none, [14, 16]⟩, ⟨some 58, .mv (.t 57), none, [17, 5]⟩, ⟨some 59, .load 1 false (.t 5), some (58, true), [18]⟩, ⟨some 60, .load 1 false (.t 4), some (58, true), [18]⟩, ⟨some 61, .idxAddr 2 (.t 59) (.t 60), some (58, true), [19, 20, 18]⟩, ⟨some 62, .fieldAddr 0 (.t 61), some (58, true), [21, 18]⟩, ⟨some 63, .load 1 false (.t 62), some (58, true), [22, 18]⟩, ⟨some 64, .mv (.t 0), some (58, true), [18]⟩, ⟨some 65, .bin .leq (.t 63) (.t 64), some (58, true), [23, 24, 18]⟩, ⟨some 66, .pick (.t 58) (.t 65) (.c (.bool false)), none, [18, 25]⟩, ⟨some 67, .callv (.t 40) [.t 53, .t 66], none, [0, 13, 26, 18]⟩]).seq (ACode.cond (.t 67) (ACode.region false [⟨some 68, .load 1 false (.t 7), none, []⟩, ⟨some 69, .mv (.t 0), none, []⟩, ⟨some 70, .mv (.t 1), none, []⟩, ⟨some 71, .build [.int .i64 (0), .int .i64 (0)] [(0, 1, .t 69), (1, 1, .t 70)], none, []⟩, ⟨some 72, .buildSlice 24 2 [.t 71], none, []⟩, ⟨some 73, .append 24 2 16 (.t 68) (.t 72), none, []⟩, ⟨none, .store 1 (.t 7) (.t 73), none, []⟩]) ACode.skip))))
theorem Tryz.F72 : FnFacts Tryz.prog 72 Tryz.f72 Tryz.ac72 74 [] := ⟨Tryz.func72, by kernel_rfl, by kernel_rfl, by kernel_rfl, by kernel_rfl, by kernel_rfl, by kernel_rfl, by kernel_rfl⟩
def Tryz.ac73 : ACode := ((ACode.region false [⟨some 4, .mv (.c (.int .i64 (0))), none, []⟩]).seq (((ACode.region false [⟨some 6, .mv (.t 0), none, []⟩, ⟨some 7, .len (.t 6), none, []⟩, ⟨some 8, .mv (.c (.int .i64 (0))), none, []⟩]).seq (ACode.block 0 ((ACode.region false [⟨some 9, .bin .lss (.t 8) (.t 7), none, []⟩]).seq ((ACode.cond (.t 9) ACode.skip (ACode.exit 0)).seq ((ACode.block 1 ((ACode.region false [⟨some 10, .mv (.t 8), none, []⟩, ⟨some 5, .mv (.t 10), none, []⟩]).seq ((ACode.region false [⟨some 11, .mv (.t 1), none, []⟩, ⟨some 12, .mv (.t 0), none, []⟩, ⟨some 13, .mv (.t 5), none, []⟩, ⟨some 14, .idxAddr 1 (.t 12) (.t 13), none, []⟩, ⟨some 15, .load 1 false (.t 14), none, []⟩, ⟨some 16, .callv (.t 11) [.t 15], none, []⟩]).seq (ACode.cond (.t 16) ((ACode.region false [⟨some 17, .mv (.t 5), none, []⟩, ⟨some 4, .mv (.t 17), none, []⟩]).seq ACode.ret) ACode.skip)))).seq (ACode.region false [⟨some 18, .bin .add (.t 8) (.c (.int .i64 (1))), none, []⟩, ⟨some 8, .mv (.t 18), none, []⟩])))).loop)).seq ((ACode.region false [⟨some 4, .mv (.c (.int .i64 (Int.negSucc 0))), none, []⟩]).seq ACode.ret)))
theorem Tryz.F73 : FnFacts Tryz.prog 73 Tryz.f73 Tryz.ac73 19 [.tmp 4] := ⟨Tryz.func73, by kernel_rfl, by kernel_rfl, by kernel_rfl, by kernel_rfl, by kernel_rfl, by kernel_rfl, by kernel_rfl⟩
def Tryz.ac78 : ACode := ((ACode.region false [⟨some 4, .mv (.c (.slice none 0 0)), none, []⟩]).seq ((ACode.region false [⟨some 8, .mv (.t 0), none, []⟩, ⟨some 9, .mv (.t 1), none, []⟩, ⟨some 10, .call 91 [.t 8, .t 9], none, []⟩, ⟨some 5, .mv (.t 10), none, []⟩]).seq (((ACode.region false [⟨some 11, .mv (.t 5), none, []⟩, ⟨some 12, .bin .eql (.t 11) (.c (.int .i64 (Int.negSucc 0))), none, []⟩]).seq (ACode.cond (.t 12) ((ACode.region false [⟨some 13, .mv (.t 0), none, []⟩, ⟨some 4, .mv (.t 13), none, []⟩]).seq ACode.ret) ACode.skip)).seq (((ACode.region false [⟨some 14, .mv (.t 5), none, []⟩, ⟨some 15, .bin .add (.t 14) (.c (.int .i64 (1))), none, []⟩, ⟨some 6, .mv (.t 15), none, []⟩]).seq (ACode.block 0 (((ACode.region false [⟨some 16, .mv (.t 6), none, []⟩, ⟨some 17, .mv (.t 0), none, []⟩, ⟨some 18, .len (.t 17), none, []⟩, ⟨some 19, .bin .lss (.t 16) (.t 18), none, []⟩]).seq (ACode.cond (.t 19) ACode.skip (ACode.exit 0))).seq ((ACode.block 1 ((ACode.region false [⟨some 22, .mv (.t 0), none, []⟩, ⟨some 23, .mv (.t 6), none, []⟩, ⟨some 24, .idxAddr 2 (.t 22) (.t 23), none, []⟩, ⟨some 25, .load 2 true (.t 24), none, []⟩, ⟨some 7, .alloc [.int .i64 (0), .int .i64 (0)], none, []⟩, ⟨none, .store 2 (.t 7) (.t 25), none, []⟩]).seq ((ACode.region false [⟨some 26, .mv (.t 1), none, []⟩, ⟨some 27, .load 2 true (.t 7), none, []⟩, ⟨some 28, .callv (.t 26) [.t 27], none, []⟩, ⟨some 29, .un .not (.t 28), none, []⟩]).seq (ACode.cond (.t 29) ((ACode.region false [⟨some 30, .mv (.t 0), none, []⟩, ⟨some 31, .mv (.t 5), none, []⟩, ⟨some 32, .load 2 true (.t 7), none, []⟩, ⟨some 33, .idxAddr 2 (.t 30) (.t 31), none, []⟩, ⟨none, .store 2 (.t 33) (.t 32), none, []⟩]).seq (ACode.region false [⟨some 34, .mv (.t 5), none, []⟩, ⟨some 35, .bin .add (.t 34) (.c (.int .i64 (1))), none, []⟩, ⟨some 5, .mv (.t 35), none, []⟩])) ACode.skip)))).seq (ACode.region false [⟨some 20, .mv (.t 6), none, []⟩, ⟨some 21, .bin .add (.t 20) (.c (.int .i64 (1))), none, []⟩, ⟨some 6, .mv (.t 21), none, []⟩]))).loop)).seq ((ACode.region false [⟨some 36, .mv (.t 0), none, []⟩, ⟨some 37, .mv (.t 5), none, []⟩, ⟨some 38, .slice 2 (.t 36) (some (.t 37)) none, none, []⟩, ⟨none, .clear 2 [.int .i64 (0), .int .i64 (0)] (.t 38), none, []⟩]).seq ((ACode.region false [⟨some 39, .mv (.t 0), none, []⟩, ⟨some 40, .mv (.t 5), none, []⟩, ⟨some 41, .slice 2 (.t 39) none (some (.t 40)), none, []⟩, ⟨some 4, .mv (.t 41), none, []⟩]).seq ACode.ret))))))
theorem Tryz.F78 : FnFacts Tryz.prog 78 Tryz.f78 Tryz.ac78 42 [.tmp 4] := ⟨Tryz.func78, by kernel_rfl, by kernel_rfl, by kernel_rfl, by kernel_rfl, by kernel_rfl, by kernel_rfl, by kernel_rfl⟩
def Tryz.ac80 : ACode := ((ACode.region false [⟨some 1, .box 2 (.t 0), none, []⟩, ⟨some 2, .mv (.c (.bool false)), none, []⟩]).seq ((ACode.region false [⟨some 3, .fieldAddr 0 (.t 1), none, []⟩, ⟨some 4, .load 1 false (.t 3), none, []⟩, ⟨some 5, .fieldAddr 1 (.t 1), none, []⟩, ⟨some 6, .load 1 false (.t 5), none, []⟩, ⟨some 7, .bin .geq (.t 4) (.t 6), none, []⟩, ⟨some 2, .mv (.t 7), none, []⟩]).seq ACode.ret))
theorem Tryz.F80 : FnFacts Tryz.prog 80 Tryz.f80 Tryz.ac80 8 [.tmp 2] := ⟨Tryz.func80, by kernel_rfl, by kernel_rfl, by kernel_rfl, by kernel_rfl, by kernel_rfl, by kernel_rfl, by kernel_rfl⟩
def Tryz.ac91 : ACode := ((ACode.region false [⟨some 4, .mv (.c (.int .i64 (0))), none, []⟩]).seq (((ACode.region false [⟨some 6, .mv (.t 0), none, []⟩, ⟨some 7, .len (.t 6), none, []⟩, ⟨some 8, .mv (.c (.int .i64 (0))), none, []⟩]).seq (ACode.block 0 ((ACode.region false [⟨some 9, .bin .lss (.t 8) (.t 7), none, []⟩]).seq ((ACode.cond (.t 9) ACode.skip (ACode.exit 0)).seq ((ACode.block 1 ((ACode.region false [⟨some 10, .mv (.t 8), none, []⟩, ⟨some 5, .mv (.t 10), none, []⟩]).seq ((ACode.region false [⟨some 11, .mv (.t 1), none, []⟩, ⟨some 12, .mv (.t 0), none, []⟩, ⟨some 13, .mv (.t 5), none, []⟩, ⟨some 14, .idxAddr 2 (.t 12) (.t 13), none, []⟩, ⟨some 15, .load 2 true (.t 14), none, []⟩, ⟨some 16, .callv (.t 11) [.t 15], none, []⟩]).seq (ACode.cond (.t 16) ((ACode.region false [⟨some 17, .mv (.t 5), none, []⟩, ⟨some 4, .mv (.t 17), none, []⟩]).seq ACode.ret) ACode.skip)))).seq (ACode.region false [⟨some 18, .bin .add (.t 8) (.c (.int .i64 (1))), none, []⟩, ⟨some 8, .mv (.t 18), none, []⟩])))).loop)).seq ((ACode.region false [⟨some 4, .mv (.c (.int .i64 (Int.negSucc 0))), none, []⟩]).seq ACode.ret)))
theorem Tryz.F91 : FnFacts Tryz.prog 91 Tryz.f91 Tryz.ac91 19 [.tmp 4] := ⟨Tryz.func91, by kernel_rfl, by kernel_rfl, by kernel_rfl, by kernel_rfl, by kernel_rfl, by kernel_rfl, by kernel_rfl⟩
end Go.Proofs
end
section
set_option linter.unusedVariables false
set_option linter.unusedSimpArgs false
namespace Go.Ab

@[go_sem] theorem range_s (nm : Nat) (s : ByteArray) : effRange nm (.v (.string s)) = ⟨True, .bp nm 0, [(nm, some (.iter s 0))], []⟩ := rfl
def nextO (b : Nat) : Option Blk → Eff
  | some (.iter s pos) => ⟨True, nextV s pos, [(b, some (.iter s (nextPos s pos)))], [b]⟩
  | _ => .fail
@[go_sem] theorem next_bp (h : Nat → Option Blk) (b : Nat) : effNext h (.bp b 0) = nextO b (h b) := by
  simp only [effNext]; unfold nextO; cases h b with
  | none => rfl
  | some y => cases y <;> rfl
@[go_sem] theorem nextO_iter (b : Nat) (s : ByteArray) (pos : Nat) : nextO b (some (.iter s pos)) = ⟨True, nextV s pos, [(b, some (.iter s (nextPos s pos)))], [b]⟩ := rfl
theorem nextV_in {s : ByteArray} {pos : Nat} (h : pos < s.size) : nextV s pos = .tup [.v (.bool true), .v (.int .i64 pos), .v (.int .i32 ((Utf8.decode s pos).1 : Nat))] := by simp [nextV, h]
theorem nextV_end {s : ByteArray} {pos : Nat} (h : ¬ pos < s.size) : nextV s pos = .tup [.v (.bool false)] := by simp [nextV, h]
theorem nextPos_in {s : ByteArray} {pos : Nat} (h : pos < s.size) : nextPos s pos = pos + (Utf8.decode s pos).2 := by simp [nextPos, h]
theorem nextPos_end {s : ByteArray} {pos : Nat} (h : ¬ pos < s.size) : nextPos s pos = pos := by simp [nextPos, h]

theorem callP_nil {P : Program} {f : FuncId} {S : AState} {nm : Nat} {lv : List AV} {K : AV → Prop} {r : AV} (h : Pure P f lv r) (hk : K r) : CallP P f S nm lv [] K := ⟨r, h, by simp, .inl rfl, hk⟩
theorem callP_dry {P : Program} {f : FuncId} {S : AState} {nm : Nat} {lv : List AV} {names : List Nat} {K : AV → Prop} {r : AV} (h : Pure P f lv r) (hn : nm ∉ names) (hd : Dry r) (hk : K r) : CallP P f S nm lv names K := ⟨r, h, hn, .inr hd, hk⟩
theorem callO_nil {P : Program} {f : FuncId} {S : AState} {nm : Nat} {lv : List AV} {K : List (List AV) → Nat → TypeId → Prop} {es : List (List AV)} {sz : Nat} {ty : TypeId} (h : PureOwn P f lv es sz ty) (hk : K es sz ty) : CallO P f S nm lv [] K := ⟨es, sz, ty, h, by simp, .inl rfl, hk⟩
theorem callO_dry {P : Program} {f : FuncId} {S : AState} {nm : Nat} {lv : List AV} {names : List Nat} {K : List (List AV) → Nat → TypeId → Prop} {es : List (List AV)} {sz : Nat} {ty : TypeId} (h : PureOwn P f lv es sz ty) (hn : nm ∉ names) (hd : ∀ y ∈ es, ∀ c ∈ y, Dry c) (hk : K es sz ty) : CallO P f S nm lv names K := ⟨es, sz, ty, h, hn, .inr hd, hk⟩

@[go_sem] theorem flat_v (x : Value) : (AV.v x).flat = true := rfl
@[go_sem] theorem flat_nils : AV.nils.flat = true := rfl
@[go_sem] theorem flat_sl (es : List (List AV)) : (AV.sl es).flat = true := rfl
@[go_sem] theorem flat_rp (es : List AV) : (AV.rp es).flat = true := rfl
@[go_sem] theorem all_cons {α : Type} (p : α → Prop) (x : α) (l : List α) : (∀ c ∈ x :: l, p c) = (p x ∧ ∀ c ∈ l, p c) := by simp
@[go_sem] theorem all_nil {α : Type} (p : α → Prop) : (∀ c ∈ ([] : List α), p c) = True := by simp

attribute [go_sem] Bool.true_and Bool.and_true Bool.false_and Bool.and_false Bool.true_or Bool.or_true Bool.false_or Bool.or_false List.flatMap_cons List.flatMap_nil

theorem Lower.ownE {h : Nat → Option Blk} {b : Nat} {es es' : List (List AV)} {sz : Nat} {e : TypeId} (hb : h b = some (.row es sz e)) (he : es = es') : Lower h (.own b) (.sl es') := by subst he; exact .own hb
theorem Lower.nilE {h : Nat → Option Blk} {es : List (List AV)} (he : es = []) : Lower h .nils (.sl es) := by subst he; exact .nil0
theorem Lower.str {h : Nat → Option Blk} {s s' : ByteArray} (he : s = s') : Lower h (.v (.string s)) (.v (.string s')) := by subst he; exact .same _ rfl
inductive All2 (R : AV → AV → Prop) : List AV → List AV → Prop
  | nil : All2 R [] []
  | cons {x y xs ys} : R x y → All2 R xs ys → All2 R (x :: xs) (y :: ys)
theorem lowerAll_agg {h : Nat → Option Blk} {cs cs' : List AV} (p : All2 (Lower h) cs cs') : cs.length = cs'.length ∧ ∀ j, j < cs.length → Lower h (av cs j) (av cs' j) := by
  induction p with
  | nil => exact ⟨rfl, fun j hj => by simp at hj⟩
  | cons h1 _ ih =>
    refine ⟨by simp [ih.1], fun j hj => ?_⟩
    cases j with
    | zero => exact h1
    | succ j => exact ih.2 j (by simpa using hj)
theorem Lower.aggF {h : Nat → Option Blk} {cs cs' : List AV} (p : All2 (Lower h) cs cs') : Lower h (.agg cs) (.agg cs') := .agg (lowerAll_agg p).1 (lowerAll_agg p).2
theorem Lower.tupF {h : Nat → Option Blk} {cs cs' : List AV} (p : All2 (Lower h) cs cs') : Lower h (.tup cs) (.tup cs') := .tup (lowerAll_agg p).1 (lowerAll_agg p).2

/-- A value that is there only if 'b'. -/
def opt (b : Bool) (x : AV) : AV := if b then x else .tup []
@[go_sem] theorem opt_t (x : AV) : opt true x = x := rfl
@[go_sem] theorem opt_f (x : AV) : opt false x = .tup [] := rfl
@[go_sem] theorem pick_and (c p : Bool) : effPick (.v (.bool c)) (opt c (.v (.bool p))) (.v (.bool false)) = ⟨True, .v (.bool (c && p)), [], []⟩ := by cases c <;> rfl
@[go_sem] theorem pick_or (c p : Bool) : effPick (.v (.bool c)) (.v (.bool true)) (opt (!c) (.v (.bool p))) = ⟨True, .v (.bool (c || p)), [], []⟩ := by cases c <;> rfl
/-- Is it wanted? -/
def wantB (want b : Bool) : Bool := if want then b else !b
@[go_sem] theorem wantB_t (b : Bool) : wantB true b = b := rfl
@[go_sem] theorem wantB_f (b : Bool) : wantB false b = !b := rfl
def gB (want : Bool) : AV → Option Bool
  | .v (.bool b) => some (wantB want b)
  | .tup [] => some false
  | _ => none
theorem gB_v (want b : Bool) : gB want (.v (.bool b)) = some (wantB want b) := rfl
theorem gB_opt (want c b : Bool) : gB want (opt c (.v (.bool b))) = some (c && wantB want b) := by cases c <;> rfl
theorem gB_u (want : Bool) : gB want (.tup []) = some false := rfl
attribute [go_sem] gB_v gB_opt gB_u

theorem Awp.sreg {P : Program} {n bs nx nx' : Nat} {S : AState} {Q : AExit → Nat → AState → Prop} {l : List AOper} {y : ACode} (hn : nx + l.length = nx') (hk : aops P l nx S fun S' => Awp P n bs y nx' S' Q) : Awp P n bs (.seq (.region false l) y) nx S Q := by
  subst hn; exact Awp.seq_region hk
theorem Awp.sdraw {P : Program} {n bs nx nx' : Nat} {S : AState} {Q : AExit → Nat → AState → Prop} {l : List AOper} {y : ACode} (hn : nx + l.length = nx') (hk : aopsL P l nx S [] fun S' es => drawOk (l.map (·.deps)) es = true ∧ Awp P n bs y nx' S' Q) : Awp P n bs (.seq (.region true l) y) nx S Q := by
  subst hn; exact Awp.seq_draw hk
theorem Awp.reg {P : Program} {n bs nx nx' : Nat} {S : AState} {Q : AExit → Nat → AState → Prop} {l : List AOper} (hn : nx + l.length = nx') (hk : aops P l nx S fun S' => Q .normal nx' S') : Awp P n bs (.region false l) nx S Q := by
  subst hn; exact Awp.region hk

theorem BView.boxF {hd : Nat → Option Blk} {ρ : Nat → Nat} {nx : Nat} {cs : List AV} (h : cs.all AV.flat = true) : BView hd ρ nx (.box cs) (.box cs) := .box rfl fun j hj => .low (.same _ (List.all_eq_true.1 h _ (av_mem hj)))
theorem BView.rowE {hd : Nat → Option Blk} {ρ : Nat → Nat} {nx : Nat} {es es' : List (List AV)} {sz : Nat} {e : TypeId} (h : es = es') : BView hd ρ nx (.row es sz e) (.row es' sz e) := by subst h; exact .row _ _ _
theorem BView.iterE {hd : Nat → Option Blk} {ρ : Nat → Nat} {nx : Nat} {s : ByteArray} {i j : Nat} (h : i = j) : BView hd ρ nx (.iter s i) (.iter s j) := by subst h; exact .iter _ _

@[go_sem] theorem str_empty (s : ByteArray) : (s.toList == ByteArray.toList ⟨⟨[]⟩⟩) = (s.size == 0) := by
  have h0 : ByteArray.toList ⟨⟨[]⟩⟩ = [] := by rw [ByteArray.toList_eq]
  have h1 : s.toList.length = s.size := by rw [ByteArray.toList_eq]; rfl
  rw [h0]
  cases h : s.toList with
  | nil => rw [h] at h1; simp at h1; simp [← h1]
  | cons a l => rw [h] at h1; simp at h1; simp [← h1]

theorem View.str {hd : Nat → Option Blk} {ρ : Nat → Nat} {nx : Nat} {x y : ByteArray} (e : x = y) : View hd ρ nx (.v (.string x)) (.v (.string y)) := by subst e; exact .low (.same _ rfl)
theorem op_callC_of {P : Program} {o : AOper} {r : List AOper} {nm : Nat} {S : AState} {K : AState → Prop} (h : aopsC P o r nm S K) : aops P (o :: r) nm S K := h
section steps
variable {P : Program} {d : Option Nat} {op : AOp} {deps : List Nat} {r : List AOper} {nm : Nat} {t : Nat → AV} {h : Nat → Option Blk} {K : AState → Prop} {p : Prop} {v : AV} {rd : List Nat}
theorem st_u {u : Upd} (he : op.eff P nm ⟨t, h⟩ default = ⟨p, v, u, rd⟩) (hc : op.isCall = false) (hp : p) (hk : aops P r (nm + 1) ⟨putT t d v, updL h u⟩ K) : aops P (⟨d, op, none, deps⟩ :: r) nm ⟨t, h⟩ K := by
  cases hch : op.choosy
  · rw [aops_op, hch, bcase_f, he]
    exact ⟨hp, hk⟩
  · exact aops_call (P := P) default hch (by rw [he]; exact hp) (by rw [he]; exact hk)
/-- A store into a row that may put a ghost name there. -/
theorem st_sx {n : Nat} {q x : AOpd} {u : Upd} {h' : Nat → Option Blk} (he : effStoreX h n (evo ⟨t, h⟩ q) (evo ⟨t, h⟩ x) = ⟨p, v, u, rd⟩) (hu : updL h u = h') (hp : p) (hk : aops P r (nm + 1) ⟨putT t d v, h'⟩ K) : aops P (⟨d, .store n q x, none, deps⟩ :: r) nm ⟨t, h⟩ K := by
  subst hu
  refine aops_call (P := P) ⟨.nils, [], []⟩ rfl ?_ ?_
  · simp only [AOp.eff, pickB, he]
    exact hp
  · simp only [AOp.eff, pickB, he]
    exact hk
/-- A slice literal whose row nobody writes. -/
theorem st_full {e : TypeId} {sz : Nat} {ps : List AOpd} {es : List (List AV)} (hr : rowE ⟨t, h⟩ sz ps = (p, es)) (hn : ps ≠ []) (hp : p) (hk : aops P r (nm + 1) ⟨putT t d (.slf es sz e), h⟩ K) : aops P (⟨d, .buildSlice e sz ps, none, deps⟩ :: r) nm ⟨t, h⟩ K := by
  refine aops_call (P := P) ⟨.nils, [], []⟩ rfl ?_ ?_
  · simp only [AOp.eff, pickB, hr]
    exact ⟨hn, hp⟩
  · simp only [AOp.eff, pickB, hr]
    exact hk
theorem st_a {u : Upd} {h' : Nat → Option Blk} (he : op.eff P nm ⟨t, h⟩ default = ⟨p, v, u, rd⟩) (hc : op.isCall = false) (hu : updL h u = h') (hp : p) (hk : aops P r (nm + 1) ⟨putT t d v, h'⟩ K) : aops P (⟨d, op, none, deps⟩ :: r) nm ⟨t, h⟩ K := by
  subst hu; exact st_u he hc hp hk
theorem st_nil {S : AState} (hk : K S) : aops P [] nm S K := hk
theorem st_g {q : Nat} {want b : Bool} (hv : t q = .v (.bool b)) (h1 : b = want → aops P (⟨d, op, none, deps⟩ :: r) nm ⟨t, h⟩ K) (h2 : b = (!want) → aops P r (nm + 1) ⟨putT t d (.tup []), h⟩ K) : aops P (⟨d, op, some (q, want), deps⟩ :: r) nm ⟨t, h⟩ K := by
  rw [aops_g]; show gval (t q) _ _ _; rw [hv]; exact ⟨h1, h2⟩
theorem st_m {q : Nat} {want b : Bool} (hg : gB want (t q) = some b) (he : b = true → op.eff P nm ⟨t, h⟩ default = ⟨p, v, [], rd⟩) (hc : op.isCall = false) (hp : b = true → p) (hk : aops P r (nm + 1) ⟨putT t d (opt b v), h⟩ K) : aops P (⟨d, op, some (q, want), deps⟩ :: r) nm ⟨t, h⟩ K := by
  rw [aops_g]
  show gval (t q) _ _ _
  cases hx : t q with
  | v x =>
    rw [hx] at hg
    cases x with
    | bool c =>
      simp only [gB, Option.some.injEq] at hg
      subst hg
      refine ⟨fun e => ?_, fun e => ?_⟩
      · have hb : wantB want c = true := by subst e; cases c <;> rfl
        rw [hb] at hk
        exact st_u (he hb) hc (hp hb) hk
      · have hb : wantB want c = false := by subst e; cases want <;> rfl
        rw [hb] at hk
        exact hk
    | _ => cases hg
  | tup l =>
    rw [hx] at hg
    cases l with
    | nil =>
      simp only [gB, Option.some.injEq] at hg
      subst hg
      exact hk
    | cons a l => cases hg
  | _ => rw [hx] at hg; cases hg
theorem st_c {f : FuncId} {vs lv : List AV} {x : AV} (hc : callee ⟨t, h⟩ op = some (f, vs)) (hl : lows ⟨t, h⟩ vs = lv) (hn : hls ⟨t, h⟩ vs = []) (hp : Pure P f lv x) (hk : aops P r (nm + 1) ⟨putT t d x, h⟩ K) : aops P (⟨d, op, none, deps⟩ :: r) nm ⟨t, h⟩ K :=
  aops_low hc (by rw [hl, hn]; exact callP_nil hp hk)
theorem st_mc {q : Nat} {want b : Bool} {f : FuncId} {vs lv : List AV} {x : AV} (hop : op.isCall = true) (hg : gB want (t q) = some b) (hc : b = true → callee ⟨t, h⟩ op = some (f, vs)) (hl : b = true → lows ⟨t, h⟩ vs = lv) (hn : b = true → hls ⟨t, h⟩ vs = []) (hp : b = true → Pure P f lv x) (hk : aops P r (nm + 1) ⟨putT t d (opt b x), h⟩ K) : aops P (⟨d, op, some (q, want), deps⟩ :: r) nm ⟨t, h⟩ K := by
  rw [aops_g]
  show gval (t q) _ _ _
  cases hx : t q with
  | v x =>
    rw [hx] at hg
    cases x with
    | bool c =>
      simp only [gB, Option.some.injEq] at hg
      subst hg
      refine ⟨fun e => ?_, fun e => ?_⟩
      · have hb : wantB want c = true := by subst e; cases c <;> rfl
        rw [hb] at hk
        exact st_c (hc hb) (hl hb) (hn hb) (hp hb) hk
      · have hb : wantB want c = false := by subst e; cases want <;> rfl
        rw [hb] at hk
        exact hk
    | _ => cases hg
  | tup l =>
    rw [hx] at hg
    cases l with
    | nil =>
      simp only [gB, Option.some.injEq] at hg
      subst hg
      exact hk
    | cons a l => cases hg
  | _ => rw [hx] at hg; cases hg
theorem st_cc {f : FuncId} {vs : List AV} {x : AV} {hl : List (Nat × Blk)} {u : Upd} {h' : Nat → Option Blk} (hc : callee ⟨t, h⟩ op = some (f, vs)) (hcc : CallC P f vs hl nm x u) (hh : ∀ p ∈ hl, h p.1 = some p.2) (hu : ∀ p ∈ u, p.1 = nm ∨ p.1 ∈ hl.map (·.1)) (hm : nm ∉ hl.map (·.1)) (hw : updL h u = h') (hk : aops P r (nm + 1) ⟨putT t d x, h'⟩ K) : aops P (⟨d, op, none, deps⟩ :: r) nm ⟨t, h⟩ K := by
  subst hw
  obtain ⟨e1, e2⟩ := eff_callee (P := P) (nm := nm) (an := ⟨x, u, hl⟩) hc
  exact op_callC_of (aops_call ⟨x, u, hl⟩ (choosy_of_call e2) (by rw [e1]; exact ⟨hh, hu, hm, hcc⟩) (by rw [e1]; exact hk))
theorem st_cd {f : FuncId} {vs lv : List AV} {ns : List (Nat × Blk)} {x : AV} (hc : callee ⟨t, h⟩ op = some (f, vs)) (hl : lows ⟨t, h⟩ vs = lv) (hn : hls ⟨t, h⟩ vs = ns) (hp : Pure P f lv x) (hd : Dry x) (hm : nm ∉ ns.map (·.1)) (hk : aops P r (nm + 1) ⟨putT t d x, h⟩ K) : aops P (⟨d, op, none, deps⟩ :: r) nm ⟨t, h⟩ K :=
  aops_low hc (by rw [hl, hn]; exact callP_dry hp hm hd hk)
theorem st_co {f : FuncId} {vs lv : List AV} {es : List (List AV)} {sz : Nat} {ty : TypeId} (hc : callee ⟨t, h⟩ op = some (f, vs)) (hl : lows ⟨t, h⟩ vs = lv) (hn : hls ⟨t, h⟩ vs = []) (hp : PureOwn P f lv es sz ty) (hk : aops P r (nm + 1) ⟨putT t d (.own nm), upd h nm (some (.row es sz ty))⟩ K) : aops P (⟨d, op, none, deps⟩ :: r) nm ⟨t, h⟩ K :=
  aops_lowO hc (by rw [hl, hn]; exact callO_nil hp hk)
variable {KL : AState → List Ent → Prop} {es : List Ent}
theorem sl_u {u : Upd} (he : op.eff P nm ⟨t, h⟩ default = ⟨p, v, u, rd⟩) (hc : op.isCall = false) (hp : p) (hk : aopsL P r (nm + 1) ⟨putT t d v, updL h u⟩ (es ++ [⟨op.temps, rd, d, u.map (·.1)⟩]) KL) : aopsL P (⟨d, op, none, deps⟩ :: r) nm ⟨t, h⟩ es KL := by
  cases hch : op.choosy
  · rw [aopsL_op, hch, bcase_f, he]
    exact ⟨hp, hk⟩
  · exact aopsL_call (P := P) default hch (by rw [he]; exact hp) (by rw [he]; exact hk)
theorem sl_a {u : Upd} {h' : Nat → Option Blk} {l : List Nat} (he : op.eff P nm ⟨t, h⟩ default = ⟨p, v, u, rd⟩) (hc : op.isCall = false) (hu : updL h u = h') (hl : u.map (·.1) = l) (hp : p) (hk : aopsL P r (nm + 1) ⟨putT t d v, h'⟩ (es ++ [⟨op.temps, rd, d, l⟩]) KL) : aopsL P (⟨d, op, none, deps⟩ :: r) nm ⟨t, h⟩ es KL := by
  subst hu; subst hl; exact sl_u he hc hp hk
theorem sl_nil {S : AState} (hk : KL S es) : aopsL P [] nm S es KL := hk
theorem sl_g {q : Nat} {want b : Bool} (hb : op.isCall = false) (hv : t q = .v (.bool b)) {u : Upd} (he : b = want → op.eff P nm ⟨t, h⟩ default = ⟨p, v, u, rd⟩) (hp : b = want → p) (h1 : b = want → aopsL P r (nm + 1) ⟨putT t d v, updL h u⟩ (es ++ [⟨q :: op.temps, rd, d, u.map (·.1)⟩]) KL) (h2 : b = (!want) → aopsL P r (nm + 1) ⟨putT t d (.tup []), h⟩ (es ++ [⟨[q], [], d, []⟩]) KL) : aopsL P (⟨d, op, some (q, want), deps⟩ :: r) nm ⟨t, h⟩ es KL := by
  cases hch : op.choosy
  · rw [aopsL_g, hch, bcase_f]; show gval (t q) _ _ _; rw [hv]
    exact ⟨fun e => by rw [he e]; exact ⟨hp e, h1 e⟩, h2⟩
  · refine aopsL_callg (P := P) hch ?_
    show gval (t q) _ _ _
    rw [hv]
    exact ⟨fun e => ⟨default, by rw [he e]; exact hp e, by rw [he e]; exact h1 e⟩, h2⟩
theorem sl_gy {q : Nat} {want : Bool} (hb : op.isCall = false) (hv : t q = .v (.bool want)) {u : Upd} (he : op.eff P nm ⟨t, h⟩ default = ⟨p, v, u, rd⟩) (hp : p) (h1 : aopsL P r (nm + 1) ⟨putT t d v, updL h u⟩ (es ++ [⟨q :: op.temps, rd, d, u.map (·.1)⟩]) KL) : aopsL P (⟨d, op, some (q, want), deps⟩ :: r) nm ⟨t, h⟩ es KL :=
  sl_g hb hv (fun _ => he) (fun _ => hp) (fun _ => h1) (fun e => by cases want <;> cases e)
theorem sl_ga {q : Nat} {want : Bool} {h' : Nat → Option Blk} {l : List Nat} (hb : op.isCall = false) (hv : t q = .v (.bool want)) {u : Upd} (he : op.eff P nm ⟨t, h⟩ default = ⟨p, v, u, rd⟩) (hu : updL h u = h') (hl : u.map (·.1) = l) (hp : p) (h1 : aopsL P r (nm + 1) ⟨putT t d v, h'⟩ (es ++ [⟨q :: op.temps, rd, d, l⟩]) KL) : aopsL P (⟨d, op, some (q, want), deps⟩ :: r) nm ⟨t, h⟩ es KL := by
  subst hu; subst hl; exact sl_gy hb hv he hp h1
theorem sl_gn {q : Nat} {want b : Bool} (hv : t q = .v (.bool b)) (hbw : b = !want) (h2 : aopsL P r (nm + 1) ⟨putT t d (.tup []), h⟩ (es ++ [⟨[q], [], d, []⟩]) KL) : aopsL P (⟨d, op, some (q, want), deps⟩ :: r) nm ⟨t, h⟩ es KL := by
  cases hb : op.choosy
  · rw [aopsL_g, hb, bcase_f]; show gval (t q) _ _ _; rw [hv]
    refine gval_intro (fun e => ?_) (fun _ => h2)
    subst e; cases b <;> cases hbw
  · refine aopsL_callg (P := P) hb ?_
    show gval (t q) _ _ _
    rw [hv]
    refine gval_intro (fun e => ?_) (fun _ => h2)
    subst e; cases b <;> cases hbw
theorem sl_c {f : FuncId} {vs lv : List AV} {x : AV} {ns : List (Nat × Blk)} (hc : callee ⟨t, h⟩ op = some (f, vs)) (hl : lows ⟨t, h⟩ vs = lv) (hn : hls ⟨t, h⟩ vs = ns) (hp : Pure P f lv x) (hd : ns = [] ∨ Dry x) (hm : nm ∉ ns.map (·.1)) (hk : aopsL P r (nm + 1) ⟨putT t d x, h⟩ (es ++ [⟨op.temps, ns.map (·.1), d, []⟩]) KL) : aopsL P (⟨d, op, none, deps⟩ :: r) nm ⟨t, h⟩ es KL :=
  aopsL_low hc (by rw [hl, hn]; exact ⟨x, hp, hm, hd.imp (fun e => by rw [e]; rfl) id, hk⟩)
theorem sl_co {f : FuncId} {vs lv : List AV} {ys : List (List AV)} {sz : Nat} {ty : TypeId} (hc : callee ⟨t, h⟩ op = some (f, vs)) (hl : lows ⟨t, h⟩ vs = lv) (hn : hls ⟨t, h⟩ vs = []) (hp : PureOwn P f lv ys sz ty) (hk : aopsL P r (nm + 1) ⟨putT t d (.own nm), upd h nm (some (.row ys sz ty))⟩ (es ++ [⟨op.temps, [], d, [nm]⟩]) KL) : aopsL P (⟨d, op, none, deps⟩ :: r) nm ⟨t, h⟩ es KL :=
  aopsL_lowO hc (by rw [hl, hn]; exact callO_nil hp hk)
theorem sl_cg {q : Nat} {want : Bool} {f : FuncId} {vs lv : List AV} {x : AV} {ns : List (Nat × Blk)} (hop : op.isCall = true) (hv : t q = .v (.bool want)) (hc : callee ⟨t, h⟩ op = some (f, vs)) (hl : lows ⟨t, h⟩ vs = lv) (hn : hls ⟨t, h⟩ vs = ns) (hp : Pure P f lv x) (hd : ns = [] ∨ Dry x) (hm : nm ∉ ns.map (·.1)) (hk : aopsL P r (nm + 1) ⟨putT t d x, h⟩ (es ++ [⟨q :: op.temps, ns.map (·.1), d, []⟩]) KL) : aopsL P (⟨d, op, some (q, want), deps⟩ :: r) nm ⟨t, h⟩ es KL :=
  aopsL_lowG hop hv (fun _ => ⟨f, vs, hc, by rw [hl, hn]; exact ⟨x, hp, hm, hd.imp (fun e => by rw [e]; rfl) id, hk⟩⟩) (fun e => by cases want <;> cases e)
end steps
end Go.Ab
end
section
set_option linter.unusedVariables false
set_option linter.unusedSimpArgs false
attribute [go_sem] Nat.reduceAdd Nat.reduceEqDiff Nat.reduceMul Nat.reduceLeDiff Nat.reduceLT Nat.reduceSub reduceIte reduceCtorEq Nat.reduceBEq Nat.reduceBNe Int.reduceToNat Int.reduceLT Int.reduceLE Int.reduceEq Int.reduceNe Int.reduceBEq Int.reduceBNe Int.reduceAdd Int.reduceSub Int.reduceNeg decide_true decide_false Bool.not_true Bool.not_false
namespace Go.Ab
@[go_sem] theorem eqAgg_a (neg : Bool) (ks : List Nat) (x y : List AV) : effEqAgg neg ks (.agg x) (.agg y) = ⟨(eqCells ks x y).1, .v (.bool (neg ^^ (eqCells ks x y).2)), [], []⟩ := rfl
@[go_sem] theorem eqCells_nil : eqCells [] [] [] = (True, true) := rfl
@[go_sem] theorem eqCells_cons (k : Nat) (ks : List Nat) (a b : AV) (x y : List AV) : eqCells (k :: ks) (a :: x) (b :: y) = ((eqCell k a b).1 ∧ (eqCells ks x y).1, (eqCell k a b).2 && (eqCells ks x y).2) := rfl
@[go_sem] theorem eqCell_i (k k' : IntKind) (a b : Int) : eqCell 0 (.v (.int k a)) (.v (.int k' b)) = (k = k', a == b) := rfl
@[go_sem] theorem eqCell_b (a b : Bool) : eqCell 1 (.v (.bool a)) (.v (.bool b)) = (True, a == b) := rfl
@[go_sem] theorem eqCell_s (a b : ByteArray) : eqCell 2 (.v (.string a)) (.v (.string b)) = (True, a.toList == b.toList) := rfl
@[go_sem] theorem idxPtr_bp (len sz b o : Nat) (k : IntKind) (n : Int) : effIdxPtr len sz (.v (.int k n)) (.bp b o) = ⟨0 ≤ n ∧ n < len, .bp b (o + n.toNat * sz), [], []⟩ := rfl
@[go_sem] theorem idxPtr_rp (len sz : Nat) (cs : List AV) (k : IntKind) (n : Int) : effIdxPtr len sz (.v (.int k n)) (.rp cs) = ⟨0 ≤ n ∧ n < len ∧ n.toNat * sz < cs.length, .rp (cs.drop (n.toNat * sz)), [], []⟩ := rfl
end Go.Ab
example : (if 2 + 3 = 5 then 1 else 2) = 1 := by simp only [go_sem]
end
section
set_option linter.unusedVariables false
set_option linter.unusedSimpArgs false
namespace Go.Proofs
open Go Go.Ab
set_option maxHeartbeats 1000000
set_option maxRecDepth 100000
attribute [local irreducible] Awp aops aopsL Go.Ab.Pure PureOwn
def ints (l : List Int) : List (List AV) := l.map fun n => [.v (.int .i64 n)]
theorem ints_len (l : List Int) : (ints l).length = l.length := by simp [ints]
attribute [go_sem] ints_len
@[go_sem] theorem ints_at (l : List Int) (i : Nat) (h : i < l.length) : (ints l).getD i [] = [.v (.int .i64 (l.getD i 0))] := by
  simp [ints, List.getD_eq_getElem?_getD, h]
@[go_sem] theorem neg1 : Int.negSucc 0 = -1 := rfl
end Go.Proofs
end
section
set_option linter.unusedVariables false
set_option linter.unusedSimpArgs false
namespace Go.Proofs
open Go Go.Ab
set_option maxHeartbeats 1000000
set_option maxRecDepth 100000
attribute [local irreducible] Awp aops aopsL Go.Ab.Pure PureOwn
theorem letter_ok (c : Int) : Pure Tryz.prog 66 [.v (.int .u8 c)] (.v (.bool (decide (97 ≤ c) && decide (c ≤ 122) || decide (65 ≤ c) && decide (c ≤ 90)))) := by
  refine fn_pure Tryz.F66 (Nat.le_of_ble_eq_true rfl) ?_; unfold Tryz.ac66
  repeat' (first
 | (apply Awp.sreg; (case hn => (simp only [List.length_cons, List.length_nil, Nat.reduceAdd] <;> rfl)))
 | (refine st_nil ?_)
 | (apply st_a; (case hc => rfl); (case he => (simp only [go_sem, *] <;> rfl)); (case hu => (simp only [updL_nil, updL_cons] <;> rfl)); (case hp => first | trivial))
 | (apply st_m; (case hc => rfl); (case hg => (simp only [go_sem, *] <;> rfl)); (case he => (intro hQz; (try simp only [wantB_t, wantB_f, Bool.and_eq_true, Bool.not_eq_true', Bool.not_true, Bool.not_false, and_true, true_and] at hQz); simp only [go_sem, *] <;> rfl)); (case hp => (intro hQz; (try simp only [wantB_t, wantB_f, Bool.and_eq_true, Bool.not_eq_true', Bool.or_eq_false_iff, decide_eq_true_eq, decide_eq_false_iff_not, beq_iff_eq, beq_eq_false_iff_ne, bne_iff_ne, bne_eq_false_iff_eq, Int.not_lt, Int.not_le, Int.ofNat_lt, Int.ofNat_le] at hQz); first | trivial)))
 | (refine Awp.ret ?_; try simp only [go_sem, *]))
  all_goals repeat' (first | exact Lower.bool (by first | rfl | (simp only [true_and, Bool.true_and, Bool.false_and, Bool.and_true, Bool.and_false, Bool.true_or, Bool.false_or, reduceIte, Bool.false_eq_true, *]; done) | (simp only [true_and, reduceIte, Bool.false_eq_true, *] <;> rfl) | (simp [true_and]; done) | (simp_all [true_and]; done) | omega))
theorem digit_ok (c : Int) : Pure Tryz.prog 67 [.v (.int .u8 c)] (.v (.bool (decide (48 ≤ c) && decide (c ≤ 57)))) := by
  refine fn_pure Tryz.F67 (Nat.le_of_ble_eq_true rfl) ?_; unfold Tryz.ac67
  repeat' (first
 | (apply Awp.sreg; (case hn => (simp only [List.length_cons, List.length_nil, Nat.reduceAdd] <;> rfl)))
 | (refine st_nil ?_)
 | (apply st_a; (case hc => rfl); (case he => (simp only [go_sem, *] <;> rfl)); (case hu => (simp only [updL_nil, updL_cons] <;> rfl)); (case hp => first | trivial))
 | (apply st_m; (case hc => rfl); (case hg => (simp only [go_sem, *] <;> rfl)); (case he => (intro hQz; (try simp only [wantB_t, wantB_f, Bool.and_eq_true, Bool.not_eq_true', Bool.not_true, Bool.not_false, and_true, true_and] at hQz); simp only [go_sem, *] <;> rfl)); (case hp => (intro hQz; (try simp only [wantB_t, wantB_f, Bool.and_eq_true, Bool.not_eq_true', Bool.or_eq_false_iff, decide_eq_true_eq, decide_eq_false_iff_not, beq_iff_eq, beq_eq_false_iff_ne, bne_iff_ne, bne_eq_false_iff_eq, Int.not_lt, Int.not_le, Int.ofNat_lt, Int.ofNat_le] at hQz); first | trivial)))
 | (refine Awp.ret ?_; try simp only [go_sem, *]))
  all_goals repeat' (first | exact Lower.bool (by first | rfl | (simp only [true_and, Bool.true_and, Bool.false_and, Bool.and_true, Bool.and_false, Bool.true_or, Bool.false_or, reduceIte, Bool.false_eq_true, *]; done) | (simp only [true_and, reduceIte, Bool.false_eq_true, *] <;> rfl) | (simp [true_and]; done) | (simp_all [true_and]; done) | omega))
def byteAt (s : ByteArray) (i : Nat) : Int := (s.data.getD i 0).toNat
def letB (c : Int) : Bool := decide (97 ≤ c) && decide (c ≤ 122) || decide (65 ≤ c) && decide (c ≤ 90)
def digB (c : Int) : Bool := decide (48 ≤ c) && decide (c ≤ 57)
def okB (c : Int) : Bool := letB c || digB c || c == 95 || c == 45
def nameB (s : ByteArray) : Bool := !(s.size == 0) && decide (s.size ≤ 16) && letB (byteAt s 0) && (List.range s.size).all fun i => okB (byteAt s i)
theorem byteAt_def (s : ByteArray) (i : Nat) : ((s.data.getD i 0).toNat : Int) = byteAt s i := rfl
attribute [go_sem] byteAt_def
theorem letter2_ok (c : Int) : Pure Tryz.prog 66 [.v (.int .u8 c)] (.v (.bool (letB c))) := letter_ok c
theorem digit2_ok (c : Int) : Pure Tryz.prog 67 [.v (.int .u8 c)] (.v (.bool (digB c))) := digit_ok c
theorem okN (c : Int) : (!letB c && !digB c && c != 95 && c != 45) = !okB c := by
  simp only [okB, Bool.not_or, bne]
theorem nameB_head {s : ByteArray} (h : (s.size == 0 || decide (16 < (s.size : Int)) || !letB (byteAt s 0)) = true) : nameB s = false := by
  simp only [Bool.or_eq_true, beq_iff_eq, decide_eq_true_eq, Bool.not_eq_true'] at h
  rcases h with (h | h) | h
  · simp [nameB, h]
  · have : ¬ s.size ≤ 16 := by omega
    simp [nameB, this]
  · simp [nameB, h]
theorem nameB_bad {s : ByteArray} {i : Nat} (h : i < s.size) (e : okB (byteAt s i) = false) : nameB s = false := by
  have : ((List.range s.size).all fun i => okB (byteAt s i)) = false := by
    simp only [List.all_eq_false, List.mem_range]
    exact ⟨i, h, by simp [e]⟩
  simp [nameB, this]
theorem nameB_end {s : ByteArray} {i : Nat} (h0 : s.size ≠ 0) (h1 : (s.size : Int) ≤ 16) (h2 : letB (byteAt s 0) = true) (h : ∀ j, j < i → okB (byteAt s j) = true) (hi : s.size ≤ i) : nameB s = true := by
  have : ((List.range s.size).all fun i => okB (byteAt s i)) = true := by
    simp only [List.all_eq_true, List.mem_range]
    exact fun j hj => h j (by omega)
  have h3 : s.size ≤ 16 := by omega
  simp [nameB, this, h0, h3, h2]
theorem ltSucc {P : Nat → Prop} {i : Nat} (h : ∀ j, j < i → P j) (hi : P i) : ∀ j, j < i + 1 → P j := fun j hj => by
  rcases Nat.lt_succ_iff_lt_or_eq.1 hj with h' | rfl
  · exact h j h'
  · exact hi
theorem rname_ok (s : ByteArray) : Pure Tryz.prog 56 [.v (.string s)] (.v (.bool (nameB s))) := by
  refine fn_pure Tryz.F56 (Nat.le_of_ble_eq_true rfl) ?_; unfold Tryz.ac56
  repeat' (first
 | (apply Awp.sreg; (case hn => (simp only [List.length_cons, List.length_nil, Nat.reduceAdd] <;> rfl)))
 | (refine st_nil ?_)
 | (apply st_a; (case hc => rfl); (case he => (simp only [go_sem, *] <;> rfl)); (case hu => (simp only [updL_nil, updL_cons] <;> rfl)); (case hp => first | trivial))
 | (apply st_m; (case hc => rfl); (case hg => (simp only [go_sem, *] <;> rfl)); (case he => (intro hQz; (try simp only [wantB_t, wantB_f, Bool.and_eq_true, Bool.not_eq_true', Bool.not_true, Bool.not_false, and_true, true_and] at hQz); simp only [go_sem, *] <;> rfl)); (case hp => (intro hQz; (try simp only [wantB_t, wantB_f, Bool.and_eq_true, Bool.not_eq_true', Bool.or_eq_false_iff, decide_eq_true_eq, decide_eq_false_iff_not, beq_iff_eq, beq_eq_false_iff_ne, bne_iff_ne, bne_eq_false_iff_eq, Int.not_lt, Int.not_le, Int.ofNat_lt, Int.ofNat_le] at hQz); first | trivial | omega)))
 | (apply st_mc; (case hop => rfl); (case hg => (simp only [go_sem, *] <;> rfl)); (case hc => (intro hQz; (try simp only [wantB_t, wantB_f, Bool.and_eq_true, Bool.not_eq_true', Bool.not_true, Bool.not_false, and_true, true_and] at hQz); simp only [go_sem, *] <;> rfl)); (case hl => (intro hQz; (try simp only [wantB_t, wantB_f, Bool.and_eq_true, Bool.not_eq_true', Bool.not_true, Bool.not_false, and_true, true_and] at hQz); simp only [go_sem, *] <;> rfl)); (case hn => (intro hQz; (try simp only [wantB_t, wantB_f, Bool.and_eq_true, Bool.not_eq_true', Bool.not_true, Bool.not_false, and_true, true_and] at hQz); simp only [go_sem, *] <;> rfl)); (case hp => intro hQz; first | exact letter2_ok _ | (have hXz := letter2_ok _; simp only [go_sem, *] at hXz; exact hXz)))
 | (refine Awp.ret ?_; try simp only [go_sem, *])
 | (refine Awp.skip ?_; try simp only [go_sem, *])
 | refine Awp.block ?_
 | (apply Awp.cond; (case hc => (simp only [go_sem, *] <;> rfl)); all_goals (intro hg; (try simp only [Bool.not_true, Bool.not_false, reduceCtorEq] at hg); (try have hg' := hg); (try simp only [decide_eq_true_eq, decide_eq_false_iff_not, Bool.and_eq_true, Bool.or_eq_false_iff, bne_iff_ne, bne_eq_false_iff_eq, beq_iff_eq, beq_eq_false_iff_ne, Int.not_lt, Int.not_le, Int.ofNat_lt, Int.ofNat_le, Int.natCast_inj] at hg')))
 | refine Awp.seq ?_)
  · exact Lower.bool (nameB_head hg).symm
  · have h0 := hg'
    refine Awp.loop (fun i : Nat => i ≤ s.size ∧ ∀ j, j < i → okB (byteAt s j) = true) 0 (fun i => mkS [(0, .v (.string s)), (3, .v (.int .i64 i))] []) (fun i => s.size - i) 0 (by simp) ?_ ?_
    · (apply Ghost.mk [] []; (case hdead => rfl); (case hinj => rfl); (case hV => (simp only [go_sem, *]) <;> (repeat' (first | exact View.int (by first | rfl | omega | (simp; done) | (rw [wrap_i64] <;> (try simp only [Int.natCast_add]) <;> omega) | (simp [*]; done))))); (case hB => (simp only [go_sem, *]) <;> (repeat' (first | skip; done))))
    · intro i ⟨hi, hj⟩
      repeat' (first
 | (apply Awp.sreg; (case hn => (simp only [List.length_cons, List.length_nil, Nat.reduceAdd] <;> rfl)))
 | (refine st_nil ?_)
 | (apply st_a; (case hc => rfl); (case he => (simp only [go_sem, *] <;> rfl)); (case hu => (simp only [updL_nil, updL_cons] <;> rfl)); (case hp => first | trivial | omega))
 | (apply st_m; (case hc => rfl); (case hg => (simp only [go_sem, *] <;> rfl)); (case he => (intro hQz; (try simp only [wantB_t, wantB_f, Bool.and_eq_true, Bool.not_eq_true', Bool.not_true, Bool.not_false, and_true, true_and] at hQz); simp only [go_sem, *] <;> rfl)); (case hp => (intro hQz; (try simp only [wantB_t, wantB_f, Bool.and_eq_true, Bool.not_eq_true', Bool.or_eq_false_iff, decide_eq_true_eq, decide_eq_false_iff_not, beq_iff_eq, beq_eq_false_iff_ne, bne_iff_ne, bne_eq_false_iff_eq, Int.not_lt, Int.not_le, Int.ofNat_lt, Int.ofNat_le] at hQz); first | trivial | omega)))
 | (apply st_c; (case hc => (simp only [go_sem, *] <;> rfl)); (case hl => (simp only [go_sem, *] <;> rfl)); (case hn => (simp only [go_sem, *] <;> rfl)); (case hp => first | exact letter2_ok _ | (have hXz := letter2_ok _; simp only [go_sem, *] at hXz; exact hXz)))
 | (apply st_mc; (case hop => rfl); (case hg => (simp only [go_sem, *] <;> rfl)); (case hc => (intro hQz; (try simp only [wantB_t, wantB_f, Bool.and_eq_true, Bool.not_eq_true', Bool.not_true, Bool.not_false, and_true, true_and] at hQz); simp only [go_sem, *] <;> rfl)); (case hl => (intro hQz; (try simp only [wantB_t, wantB_f, Bool.and_eq_true, Bool.not_eq_true', Bool.not_true, Bool.not_false, and_true, true_and] at hQz); simp only [go_sem, *] <;> rfl)); (case hn => (intro hQz; (try simp only [wantB_t, wantB_f, Bool.and_eq_true, Bool.not_eq_true', Bool.not_true, Bool.not_false, and_true, true_and] at hQz); simp only [go_sem, *] <;> rfl)); (case hp => intro hQz; first | exact digit2_ok _ | (have hXz := digit2_ok _; simp only [go_sem, *] at hXz; exact hXz)))
 | (apply Awp.reg; (case hn => (simp only [List.length_cons, List.length_nil, Nat.reduceAdd] <;> rfl)))
 | (refine Awp.ret ?_; try simp only [go_sem, *])
 | (refine Awp.skip ?_; try simp only [go_sem, *])
 | (refine Awp.exit ?_; try simp only [go_sem, *])
 | refine Awp.block ?_
 | (apply Awp.cond; (case hc => (simp only [go_sem, *] <;> rfl)); all_goals (intro hg; (try simp only [Bool.not_true, Bool.not_false, reduceCtorEq] at hg); (try have hg' := hg); (try simp only [decide_eq_true_eq, decide_eq_false_iff_not, Bool.and_eq_true, Bool.or_eq_false_iff, bne_iff_ne, bne_eq_false_iff_eq, beq_iff_eq, beq_eq_false_iff_ne, Int.not_lt, Int.not_le, Int.ofNat_lt, Int.ofNat_le, Int.natCast_inj] at hg')))
 | refine Awp.seq ?_)
      · rw [okN] at hg
        exact Lower.bool (nameB_bad (i := i) (by assumption) (by simpa using hg)).symm
      · rw [okN] at hg
        refine ⟨i + 1, ⟨by omega, ltSucc hj (by simpa using hg)⟩, by omega, ?_⟩
        (apply Ghost.mk [] []; (case hdead => rfl); (case hinj => rfl); (case hV => (simp only [go_sem, *]) <;> (repeat' (first | exact View.int (by first | rfl | omega | (simp; done) | (rw [wrap_i64] <;> (try simp only [Int.natCast_add]) <;> omega) | (simp [*]; done))))); (case hB => (simp only [go_sem, *]) <;> (repeat' (first | skip; done))))
      · exact Lower.bool (nameB_end h0.1.1 h0.1.2 (by simpa using h0.2) hj (by omega)).symm
theorem get_byteAt (s : ByteArray) (i : Nat) : ((s.get! i).toNat : Int) = byteAt s i := by
  show ((s.data[i]!).toNat : Int) = _
  rw [Array.getElem!_eq_getD]
  rfl
theorem decode_lo {s : ByteArray} {i : Nat} (h : byteAt s i < 128) : ((Utf8.decode s i).1 : Int) = byteAt s i ∧ (Utf8.decode s i).2 = 1 := by
  have h1 := get_byteAt s i
  have h2 : (s.get! i).toNat < 128 := by omega
  simp only [Utf8.decode, h2, if_true, Nat.add_zero]
  exact ⟨h1, trivial⟩
theorem decode_hi {s : ByteArray} {i : Nat} (h : 128 ≤ byteAt s i) : (128 : Int) ≤ ((Utf8.decode s i).1 : Int) := by
  have h1 := get_byteAt s i
  have h2 : ¬ (s.get! i).toNat < 128 := by omega
  have h3 : 128 ≤ (Utf8.decode s i).1 := by
    simp only [Utf8.decode, Nat.add_zero, h2, if_false, Utf8.runeError]
    repeat' split
    all_goals simp_all
    all_goals omega
  omega
def nmC (c : Int) (i : Nat) : Bool := !(decide (65 ≤ c) && decide (c ≤ 90) || decide (97 ≤ c) && decide (c ≤ 122)) && ((i : Int) == 0 || !(decide (48 ≤ c) && decide (c ≤ 57) || c == 95 || c == 45))
theorem nm_bad {s : ByteArray} {i : Nat} (hi : i < s.size) (h : nmC ((Utf8.decode s i).1 : Nat) i = true) : nameB s = false := by
  rcases Int.lt_or_le (byteAt s i) 128 with hb | hb
  · rw [(decode_lo hb).1] at h
    by_cases h0 : i = 0
    · subst h0
      refine nameB_head ?_
      simp only [nmC, Bool.and_eq_true, Bool.not_eq_true'] at h
      simp only [Bool.or_eq_true, Bool.not_eq_true', letB]
      refine .inr ?_
      rw [Bool.or_comm]
      exact h.1
    · refine nameB_bad hi ?_
      simp [nmC, okB, letB, digB, h0] at h ⊢
      omega
  · have := decode_hi hb
    refine nameB_bad hi ?_
    simp [okB, letB, digB]
    omega
theorem nm_good {s : ByteArray} {i : Nat} (h : nmC ((Utf8.decode s i).1 : Nat) i = false) : (Utf8.decode s i).2 = 1 ∧ okB (byteAt s i) = true ∧ (i = 0 → letB (byteAt s 0) = true) := by
  rcases Int.lt_or_le (byteAt s i) 128 with hb | hb
  · rw [(decode_lo hb).1] at h
    refine ⟨(decode_lo hb).2, ?_, fun h0 => ?_⟩
    · simp [nmC, okB, letB, digB] at h ⊢
      omega
    · subst h0
      simp [nmC, letB] at h ⊢
      omega
  · have h1 := decode_hi hb
    generalize ((Utf8.decode s i).1 : Int) = c at *
    simp [nmC] at h
    omega
theorem name_ok (s : ByteArray) : Pure Tryz.prog 63 [.v (.string s)] (.v (.bool (nameB s))) := by
  refine fn_pure Tryz.F63 (Nat.le_of_ble_eq_true rfl) ?_; unfold Tryz.ac63
  repeat' (first
 | (apply Awp.sreg; (case hn => (simp only [List.length_cons, List.length_nil, Nat.reduceAdd] <;> rfl)))
 | (refine st_nil ?_)
 | (apply st_a; (case hc => rfl); (case he => (simp only [go_sem, *] <;> rfl)); (case hu => (simp only [updL_nil, updL_cons] <;> rfl)); (case hp => first | trivial))
 | (apply st_m; (case hc => rfl); (case hg => (simp only [go_sem, *] <;> rfl)); (case he => (intro hQz; (try simp only [wantB_t, wantB_f, Bool.and_eq_true, Bool.not_eq_true', Bool.not_true, Bool.not_false, and_true, true_and] at hQz); simp only [go_sem, *] <;> rfl)); (case hp => (intro hQz; (try simp only [wantB_t, wantB_f, Bool.and_eq_true, Bool.not_eq_true', Bool.or_eq_false_iff, decide_eq_true_eq, decide_eq_false_iff_not, beq_iff_eq, beq_eq_false_iff_ne, bne_iff_ne, bne_eq_false_iff_eq, Int.not_lt, Int.not_le, Int.ofNat_lt, Int.ofNat_le] at hQz); first | trivial)))
 | (refine Awp.ret ?_; try simp only [go_sem, *])
 | (refine Awp.skip ?_; try simp only [go_sem, *])
 | refine Awp.block ?_
 | (apply Awp.cond; (case hc => (simp only [go_sem, *] <;> rfl)); all_goals (intro hg; (try simp only [Bool.not_true, Bool.not_false, reduceCtorEq] at hg); (try have hg' := hg); (try simp only [decide_eq_true_eq, decide_eq_false_iff_not, Bool.and_eq_true, Bool.or_eq_false_iff, bne_iff_ne, bne_eq_false_iff_eq, beq_iff_eq, beq_eq_false_iff_ne, Int.not_lt, Int.not_le, Int.ofNat_lt, Int.ofNat_le, Int.natCast_inj] at hg')))
 | refine Awp.seq ?_)
  · refine Lower.bool (nameB_head ?_).symm
    rw [hg]; rfl
  · have h0 := hg'
    refine Awp.loop (fun i : Nat => i ≤ s.size ∧ (0 < i → letB (byteAt s 0) = true) ∧ ∀ j, j < i → okB (byteAt s j) = true) 10 (fun i => mkS [(0, .v (.string s)), (15, .bp 9 0)] [(9, .iter s i)]) (fun i => s.size - i) 0 (by simp) ?_ ?_
    · (apply Ghost.mk [] []; (case hdead => rfl); (case hinj => rfl); (case hV => (simp only [go_sem, *]) <;> (repeat' (first | exact .bp rfl (by decide)))); (case hB => (simp only [go_sem, *]) <;> (repeat' (first | exact ⟨_, rfl, .iterE (by first | rfl | omega | (simp; done) | (rw [wrap_i64] <;> (try simp only [Int.natCast_add]) <;> omega) | (simp [*]; done))⟩))))
    · intro i ⟨hi, hl, hj⟩
      by_cases hs : i < s.size
      · have e1 := nextV_in hs
        have e2 := nextPos_in hs
        repeat' (first
 | (apply Awp.sreg; (case hn => (simp only [List.length_cons, List.length_nil, Nat.reduceAdd] <;> rfl)))
 | (refine st_nil ?_)
 | (apply st_a; (case hc => rfl); (case he => (simp only [go_sem, *] <;> rfl)); (case hu => (simp only [updL_nil, updL_cons] <;> rfl)); (case hp => first | trivial))
 | (apply st_m; (case hc => rfl); (case hg => (simp only [go_sem, *] <;> rfl)); (case he => (intro hQz; (try simp only [wantB_t, wantB_f, Bool.and_eq_true, Bool.not_eq_true', Bool.not_true, Bool.not_false, and_true, true_and] at hQz); simp only [go_sem, *] <;> rfl)); (case hp => (intro hQz; (try simp only [wantB_t, wantB_f, Bool.and_eq_true, Bool.not_eq_true', Bool.or_eq_false_iff, decide_eq_true_eq, decide_eq_false_iff_not, beq_iff_eq, beq_eq_false_iff_ne, bne_iff_ne, bne_eq_false_iff_eq, Int.not_lt, Int.not_le, Int.ofNat_lt, Int.ofNat_le] at hQz); first | trivial)))
 | (refine Awp.ret ?_; try simp only [go_sem, *])
 | (refine Awp.skip ?_; try simp only [go_sem, *])
 | refine Awp.block ?_
 | (apply Awp.cond; (case hc => (simp only [go_sem, *] <;> rfl)); all_goals (intro hg; (try simp only [Bool.not_true, Bool.not_false, reduceCtorEq] at hg); (try have hg' := hg); (try simp only [decide_eq_true_eq, decide_eq_false_iff_not, Bool.and_eq_true, Bool.or_eq_false_iff, bne_iff_ne, bne_eq_false_iff_eq, beq_iff_eq, beq_eq_false_iff_ne, Int.not_lt, Int.not_le, Int.ofNat_lt, Int.ofNat_le, Int.natCast_inj] at hg')))
 | refine Awp.seq ?_)
        · exact Lower.bool (nm_bad hs hg).symm
        · obtain ⟨g1, g2, g3⟩ := nm_good (s := s) (i := i) hg
          rw [g1] at e2
          refine ⟨i + 1, ⟨by omega, fun _ => ?_, ltSucc hj g2⟩, by omega, ?_⟩
          · rcases Nat.eq_zero_or_pos i with h | h
            · exact g3 h
            · exact hl h
          · (apply Ghost.mk [] []; (case hdead => rfl); (case hinj => rfl); (case hV => (simp only [go_sem, *]) <;> (repeat' (first | exact .bp rfl (by decide)))); (case hB => (simp only [go_sem, *]) <;> (repeat' (first | exact ⟨_, rfl, .iterE (by first | rfl | omega | (simp; done) | (rw [wrap_i64] <;> (try simp only [Int.natCast_add]) <;> omega) | (simp [*]; done))⟩))))
      · have e1 := nextV_end hs
        have e2 := nextPos_end hs
        repeat' (first
 | (apply Awp.sreg; (case hn => (simp only [List.length_cons, List.length_nil, Nat.reduceAdd] <;> rfl)))
 | (refine st_nil ?_)
 | (apply st_a; (case hc => rfl); (case he => (simp only [go_sem, *] <;> rfl)); (case hu => (simp only [updL_nil, updL_cons] <;> rfl)); (case hp => first | trivial))
 | (refine Awp.ret ?_; try simp only [go_sem, *])
 | (refine Awp.exit ?_; try simp only [go_sem, *])
 | (apply Awp.cond; (case hc => (simp only [go_sem, *] <;> rfl)); all_goals (intro hg; (try simp only [Bool.not_true, Bool.not_false, reduceCtorEq] at hg); (try have hg' := hg); (try simp only [decide_eq_true_eq, decide_eq_false_iff_not, Bool.and_eq_true, Bool.or_eq_false_iff, bne_iff_ne, bne_eq_false_iff_eq, beq_iff_eq, beq_eq_false_iff_ne, Int.not_lt, Int.not_le, Int.ofNat_lt, Int.ofNat_le, Int.natCast_inj] at hg')))
 | refine Awp.seq ?_)
        all_goals exact Lower.bool (nameB_end h0.1 h0.2 (hl (by omega)) hj (by omega)).symm
end Go.Proofs
end
section
set_option linter.unusedVariables false
set_option linter.unusedSimpArgs false
namespace Go.Proofs
open Go.Shelf
def Tryz.lays128_ren : Go.Shelf.Ren := ⟨fun | 128 => 103 | n => n, fun | 51 => 119 | 3 => 3 | 4 => 4 | 46 => 101 | 5 => 5 | 9 => 9 | n => n, fun | n => n⟩
def Tryz.lays125_ren : Go.Shelf.Ren := ⟨fun | 125 => 86 | 128 => 103 | 129 => 104 | n => n, fun | 46 => 101 | 3 => 3 | 51 => 119 | 53 => 121 | 4 => 4 | 5 => 5 | 9 => 9 | n => n, fun | n => n⟩
def Tryz.lays195_ren : Go.Shelf.Ren := ⟨fun | 195 => 87 | n => n, fun | 9 => 9 | 3 => 3 | 0 => 0 | 4 => 4 | n => n, fun | n => n⟩
def Tryz.lays129_ren : Go.Shelf.Ren := ⟨fun | 129 => 104 | n => n, fun | 53 => 121 | 3 => 3 | 4 => 4 | 46 => 101 | 5 => 5 | 9 => 9 | n => n, fun | n => n⟩
def Tryz.lays217_ren : Go.Shelf.Ren := ⟨fun | 217 => 106 | 266 => 123 | n => n, fun | 9 => 9 | 5 => 5 | 3 => 3 | n => n, fun | n => n⟩
def Tryz.lays224_ren : Go.Shelf.Ren := ⟨fun | 224 => 108 | n => n, fun | 3 => 3 | n => n, fun | n => n⟩
def Tryz.lays314_ren : Go.Shelf.Ren := ⟨fun | 314 => 124 | n => n, fun | 9 => 9 | 51 => 119 | 3 => 3 | 4 => 4 | 5 => 5 | 46 => 101 | n => n, fun | n => n⟩
def Tryz.lays267_ren : Go.Shelf.Ren := ⟨fun | 267 => 109 | 314 => 124 | n => n, fun | 9 => 9 | 3 => 3 | 146 => 138 | 51 => 119 | 4 => 4 | 5 => 5 | 46 => 101 | n => n, fun | n => n⟩
def Tryz.lays219_ren : Go.Shelf.Ren := ⟨fun | 219 => 90 | 217 => 106 | 225 => 107 | 224 => 108 | 267 => 109 | 266 => 123 | 314 => 124 | n => n, fun | 9 => 9 | 3 => 3 | 4 => 4 | 5 => 5 | 46 => 101 | 146 => 138 | 51 => 119 | n => n, fun | 1 => 0 | n => n⟩
def Tryz.lays143_ren : Go.Shelf.Ren := ⟨fun | 143 => 76 | 219 => 90 | 217 => 106 | 225 => 107 | 224 => 108 | 267 => 109 | 266 => 123 | 314 => 124 | n => n, fun | 9 => 9 | 3 => 3 | 4 => 4 | 5 => 5 | 46 => 101 | 146 => 138 | 51 => 119 | n => n, fun | 1 => 0 | n => n⟩
theorem Tryz.lays143 : Go.Proofs.Lays.n143 Tryz.prog Tryz.lays143_ren := {
  mixed := by kernel_rfl
  f143 := Tryz.func76.trans (congrArg some (by kernel_rfl))
  f217 := Tryz.func106.trans (congrArg some (by kernel_rfl))
  f219 := Tryz.func90.trans (congrArg some (by kernel_rfl))
  f224 := Tryz.func108.trans (congrArg some (by kernel_rfl))
  f225 := Tryz.func107.trans (congrArg some (by kernel_rfl))
  f266 := Tryz.func123.trans (congrArg some (by kernel_rfl))
  f267 := Tryz.func109.trans (congrArg some (by kernel_rfl))
  f314 := Tryz.func124.trans (congrArg some (by kernel_rfl))
  t3 := Tryz.underlying3
  a3 := Tryz.isAgg3
  z3 := Tryz.sizeOf3
  v3 := Tryz.zeroValue3
  t4 := Tryz.underlying4
  a4 := Tryz.isAgg4
  z4 := Tryz.sizeOf4
  v4 := Tryz.zeroValue4
  t5 := Tryz.underlying5
  a5 := Tryz.isAgg5
  z5 := Tryz.sizeOf5
  v5 := Tryz.zeroValue5
  t9 := Tryz.underlying9
  a9 := Tryz.isAgg9
  z9 := Tryz.sizeOf9
  v9 := Tryz.zeroValue9
  t46 := Tryz.underlying101
  a46 := Tryz.isAgg101
  z46 := Tryz.sizeOf101
  v46 := Tryz.zeroValue101
  t51 := Tryz.underlying119
  a51 := Tryz.isAgg119
  z51 := Tryz.sizeOf119
  v51 := Tryz.zeroValue119
  t146 := Tryz.underlying138
  a146 := Tryz.isAgg138
  z146 := Tryz.sizeOf138
  v146 := Tryz.zeroValue138
  g1 := by kernel_rfl }
open Go.RowKit Go.Lib in
/-- strings.Index: "Index returns the index of the first instance of substr in s, or -1 if substr is not present in s.": AT A substr OF ONE BYTE c: IT RETURNS 'Lib.indexByte s c'; the world is as it was. (LAID: no walk: one application.) -/
theorem Tryz.strings_Index_one (s : ByteArray) (c : UInt8) (w : World) :
    Calls Tryz.prog 76 #[.string s, .string ⟨#[c]⟩] w fun e w' => e = .returned (.int .i64 (Lib.indexByte s.data.toList c)) ∧ w' = w := Any.strings_Index_one Tryz.lays143 s c w
def Tryz.lays138_ren : Go.Shelf.Ren := ⟨fun | 138 => 75 | 195 => 87 | 218 => 89 | 143 => 76 | 219 => 90 | 217 => 106 | 225 => 107 | 224 => 108 | 267 => 109 | 266 => 123 | 314 => 124 | n => n, fun | 9 => 9 | 3 => 3 | 4 => 4 | 5 => 5 | 0 => 0 | 46 => 101 | 146 => 138 | 51 => 119 | n => n, fun | 1 => 0 | n => n⟩
theorem Tryz.lays138 : Go.Proofs.Lays.n138 Tryz.prog Tryz.lays138_ren := {
  mixed := by kernel_rfl
  f138 := Tryz.func75.trans (congrArg some (by kernel_rfl))
  f143 := Tryz.func76.trans (congrArg some (by kernel_rfl))
  f195 := Tryz.func87.trans (congrArg some (by kernel_rfl))
  f217 := Tryz.func106.trans (congrArg some (by kernel_rfl))
  f218 := Tryz.func89.trans (congrArg some (by kernel_rfl))
  f219 := Tryz.func90.trans (congrArg some (by kernel_rfl))
  f224 := Tryz.func108.trans (congrArg some (by kernel_rfl))
  f225 := Tryz.func107.trans (congrArg some (by kernel_rfl))
  f266 := Tryz.func123.trans (congrArg some (by kernel_rfl))
  f267 := Tryz.func109.trans (congrArg some (by kernel_rfl))
  f314 := Tryz.func124.trans (congrArg some (by kernel_rfl))
  t0 := Tryz.underlying0
  a0 := Tryz.isAgg0
  z0 := Tryz.sizeOf0
  v0 := Tryz.zeroValue0
  t3 := Tryz.underlying3
  a3 := Tryz.isAgg3
  z3 := Tryz.sizeOf3
  v3 := Tryz.zeroValue3
  t4 := Tryz.underlying4
  a4 := Tryz.isAgg4
  z4 := Tryz.sizeOf4
  v4 := Tryz.zeroValue4
  t5 := Tryz.underlying5
  a5 := Tryz.isAgg5
  z5 := Tryz.sizeOf5
  v5 := Tryz.zeroValue5
  t9 := Tryz.underlying9
  a9 := Tryz.isAgg9
  z9 := Tryz.sizeOf9
  v9 := Tryz.zeroValue9
  t46 := Tryz.underlying101
  a46 := Tryz.isAgg101
  z46 := Tryz.sizeOf101
  v46 := Tryz.zeroValue101
  t51 := Tryz.underlying119
  a51 := Tryz.isAgg119
  z51 := Tryz.sizeOf119
  v51 := Tryz.zeroValue119
  t146 := Tryz.underlying138
  a146 := Tryz.isAgg138
  z146 := Tryz.sizeOf138
  v146 := Tryz.zeroValue138
  g1 := by kernel_rfl }
open Go.RowKit Go.Lib in
/-- strings.Count AT A substr OF ONE BYTE ('hp'): "Count counts the number of non-overlapping instances of substr in s.": IT RETURNS 'Lib.countByte s (that byte)'; the world is as it was. ✋ NO CONTRACT HERE YET at an empty substr (utf8.RuneCountInString) or at a longer one (a loop over strings.Index). (LAID: no walk: one application.) -/
theorem Tryz.strings_Count_one (s : ByteArray) (c : UInt8) (w : World) :
    Calls Tryz.prog 75 #[.string s, .string ⟨#[c]⟩] w fun e w' => e = .returned (.int .i64 (Lib.countByte s.data.toList c)) ∧ w' = w := Any.strings_Count_one Tryz.lays138 s c w
def Tryz.laysM219_ren : Go.Shelf.Ren := ⟨fun | 219 => 90 | 217 => 106 | 225 => 107 | 224 => 108 | 267 => 109 | 266 => 123 | 314 => 124 | n => n, fun | 9 => 9 | 3 => 3 | 4 => 4 | 5 => 5 | 46 => 101 | 146 => 138 | 51 => 119 | n => n, fun | 1 => 0 | n => n⟩
def Tryz.laysM143_ren : Go.Shelf.Ren := ⟨fun | 143 => 76 | 219 => 90 | 217 => 106 | 225 => 107 | 224 => 108 | 267 => 109 | 266 => 123 | 314 => 124 | n => n, fun | 9 => 9 | 3 => 3 | 4 => 4 | 5 => 5 | 46 => 101 | 146 => 138 | 51 => 119 | n => n, fun | 1 => 0 | n => n⟩
def Tryz.laysM138_ren : Go.Shelf.Ren := ⟨fun | 138 => 75 | 195 => 87 | 218 => 89 | 143 => 76 | 219 => 90 | 217 => 106 | 225 => 107 | 224 => 108 | 267 => 109 | 266 => 123 | 314 => 124 | n => n, fun | 9 => 9 | 3 => 3 | 4 => 4 | 5 => 5 | 0 => 0 | 46 => 101 | 146 => 138 | 51 => 119 | n => n, fun | 1 => 0 | n => n⟩
def Tryz.lays189_ren : Go.Shelf.Ren := ⟨fun | 189 => 70 | 125 => 86 | 257 => 85 | 128 => 103 | 129 => 104 | 294 => 94 | 295 => 95 | 296 => 96 | 297 => 97 | 298 => 98 | 299 => 99 | 216 => 100 | 300 => 101 | 301 => 102 | 328 => 118 | 329 => 119 | 330 => 120 | 331 => 121 | 332 => 122 | 215 => 93 | 343 => 128 | n => n, fun | 28 => 83 | 3 => 3 | 46 => 101 | 0 => 0 | 51 => 119 | 53 => 121 | 4 => 4 | 183 => 111 | 182 => 110 | 131 => 116 | 5 => 5 | 9 => 9 | 218 => 128 | 222 => 132 | 228 => 142 | 229 => 143 | n => n, fun | n => n⟩
theorem Tryz.lays189 : Go.Proofs.Lays.n189 Tryz.prog Tryz.lays189_ren := {
  mixed := by kernel_rfl
  f125 := Tryz.func86.trans (congrArg some (by kernel_rfl))
  f128 := Tryz.func103.trans (congrArg some (by kernel_rfl))
  f129 := Tryz.func104.trans (congrArg some (by kernel_rfl))
  f189 := Tryz.func70.trans (congrArg some (by kernel_rfl))
  f215 := Tryz.func93.trans (congrArg some (by kernel_rfl))
  f216 := Tryz.func100.trans (congrArg some (by kernel_rfl))
  f257 := Tryz.func85.trans (congrArg some (by kernel_rfl))
  f294 := Tryz.func94.trans (congrArg some (by kernel_rfl))
  f295 := Tryz.func95.trans (congrArg some (by kernel_rfl))
  f296 := Tryz.func96.trans (congrArg some (by kernel_rfl))
  f297 := Tryz.func97.trans (congrArg some (by kernel_rfl))
  f298 := Tryz.func98.trans (congrArg some (by kernel_rfl))
  f299 := Tryz.func99.trans (congrArg some (by kernel_rfl))
  f300 := Tryz.func101.trans (congrArg some (by kernel_rfl))
  f301 := Tryz.func102.trans (congrArg some (by kernel_rfl))
  f328 := Tryz.func118.trans (congrArg some (by kernel_rfl))
  f329 := Tryz.func119.trans (congrArg some (by kernel_rfl))
  f330 := Tryz.func120.trans (congrArg some (by kernel_rfl))
  f331 := Tryz.func121.trans (congrArg some (by kernel_rfl))
  f332 := Tryz.func122.trans (congrArg some (by kernel_rfl))
  f343 := Tryz.func128.trans (congrArg some (by kernel_rfl))
  t0 := Tryz.underlying0
  a0 := Tryz.isAgg0
  z0 := Tryz.sizeOf0
  v0 := Tryz.zeroValue0
  t3 := Tryz.underlying3
  a3 := Tryz.isAgg3
  z3 := Tryz.sizeOf3
  v3 := Tryz.zeroValue3
  t4 := Tryz.underlying4
  a4 := Tryz.isAgg4
  z4 := Tryz.sizeOf4
  v4 := Tryz.zeroValue4
  t5 := Tryz.underlying5
  a5 := Tryz.isAgg5
  z5 := Tryz.sizeOf5
  v5 := Tryz.zeroValue5
  t9 := Tryz.underlying9
  a9 := Tryz.isAgg9
  z9 := Tryz.sizeOf9
  v9 := Tryz.zeroValue9
  t28 := Tryz.underlying83
  a28 := Tryz.isAgg83
  z28 := Tryz.sizeOf83
  v28 := Tryz.zeroValue83
  t46 := Tryz.underlying101
  a46 := Tryz.isAgg101
  z46 := Tryz.sizeOf101
  v46 := Tryz.zeroValue101
  t51 := Tryz.underlying119
  a51 := Tryz.isAgg119
  z51 := Tryz.sizeOf119
  v51 := Tryz.zeroValue119
  t53 := Tryz.underlying121
  a53 := Tryz.isAgg121
  z53 := Tryz.sizeOf121
  v53 := Tryz.zeroValue121
  t131 := Tryz.underlying116
  a131 := Tryz.isAgg116
  z131 := Tryz.sizeOf116
  v131 := Tryz.zeroValue116
  t182 := Tryz.underlying110
  a182 := Tryz.isAgg110
  z182 := Tryz.sizeOf110
  v182 := Tryz.zeroValue110
  t183 := Tryz.underlying111
  a183 := Tryz.isAgg111
  z183 := Tryz.sizeOf111
  v183 := Tryz.zeroValue111
  t218 := Tryz.underlying128
  a218 := Tryz.isAgg128
  z218 := Tryz.sizeOf128
  v218 := Tryz.zeroValue128
  t222 := Tryz.underlying132
  a222 := Tryz.isAgg132
  z222 := Tryz.sizeOf132
  v222 := Tryz.zeroValue132
  t228 := Tryz.underlying142
  a228 := Tryz.isAgg142
  z228 := Tryz.sizeOf142
  v228 := Tryz.zeroValue142
  t229 := Tryz.underlying143
  a229 := Tryz.isAgg143
  z229 := Tryz.sizeOf143
  v229 := Tryz.zeroValue143 }
open Go.Sort Go.RowKit in
theorem Tryz.slices_Sort_int (blk off cap : Nat) (zs : List Int) (w : World) (hH : Holds (Value.int .i64) w blk off zs.toArray) (hblk : blk < w.heap.size) (hsz : zs.length < 4611686018427387904) :
    Calls Tryz.prog 70 #[.slice (some ⟨blk, off, none⟩) zs.length cap] w fun e w' =>
      e = .returned (.tuple #[]) ∧ ∃ n os, w' = grow (putRow (Value.int .i64) (Sort.ahead w n) blk off (zs.mergeSort fun x y => decide (x ≤ y)).toArray) os := Any.slices_Sort_int Tryz.lays189 blk off cap zs w hH hblk hsz
def Tryz.lays221_ren : Go.Shelf.Ren := ⟨fun | 221 => 64 | 268 => 74 | 138 => 75 | 143 => 76 | 195 => 87 | 197 => 88 | 218 => 89 | 219 => 90 | 260 => 105 | 217 => 106 | 225 => 107 | 224 => 108 | 267 => 109 | 266 => 123 | 314 => 124 | n => n, fun | 9 => 9 | 3 => 3 | 31 => 47 | 4 => 4 | 0 => 0 | 105 => 103 | 21 => 21 | 5 => 5 | 46 => 101 | 119 => 134 | 139 => 137 | 138 => 136 | 146 => 138 | 51 => 119 | n => n, fun | 1 => 0 | 3 => 1 | 4 => 2 | n => n⟩
def Tryz.lays146_ren : Go.Shelf.Ren := ⟨fun | 146 => 52 | 221 => 64 | 268 => 74 | 138 => 75 | 143 => 76 | 195 => 87 | 197 => 88 | 218 => 89 | 219 => 90 | 260 => 105 | 217 => 106 | 225 => 107 | 224 => 108 | 267 => 109 | 266 => 123 | 314 => 124 | n => n, fun | 9 => 9 | 31 => 47 | 3 => 3 | 4 => 4 | 0 => 0 | 105 => 103 | 21 => 21 | 5 => 5 | 46 => 101 | 119 => 134 | 139 => 137 | 138 => 136 | 146 => 138 | 51 => 119 | n => n, fun | 1 => 0 | 3 => 1 | 4 => 2 | n => n⟩
def Tryz.laysM146_ren : Go.Shelf.Ren := ⟨fun | 146 => 52 | 221 => 64 | 268 => 74 | 138 => 75 | 143 => 76 | 195 => 87 | 197 => 88 | 218 => 89 | 219 => 90 | 260 => 105 | 217 => 106 | 225 => 107 | 224 => 108 | 267 => 109 | 266 => 123 | 314 => 124 | n => n, fun | 9 => 9 | 31 => 47 | 3 => 3 | 4 => 4 | 0 => 0 | 105 => 103 | 21 => 21 | 5 => 5 | 46 => 101 | 119 => 134 | 139 => 137 | 138 => 136 | 146 => 138 | 51 => 119 | n => n, fun | 1 => 0 | 3 => 1 | 4 => 2 | n => n⟩
def Tryz.lays197_ren : Go.Shelf.Ren := ⟨fun | 197 => 88 | 260 => 105 | n => n, fun | 9 => 9 | 21 => 21 | 3 => 3 | 4 => 4 | 5 => 5 | 105 => 103 | 119 => 134 | 0 => 0 | 46 => 101 | 139 => 137 | 138 => 136 | n => n, fun | 3 => 1 | 4 => 2 | n => n⟩
def Tryz.lays268_ren : Go.Shelf.Ren := ⟨fun | 268 => 74 | 195 => 87 | 197 => 88 | 260 => 105 | n => n, fun | 9 => 9 | 3 => 3 | 31 => 47 | 4 => 4 | 105 => 103 | 21 => 21 | 0 => 0 | 5 => 5 | 119 => 134 | 46 => 101 | 139 => 137 | 138 => 136 | n => n, fun | 3 => 1 | 4 => 2 | n => n⟩
def Tryz.lays260_ren : Go.Shelf.Ren := ⟨fun | 260 => 105 | n => n, fun | 9 => 9 | 21 => 21 | 3 => 3 | 4 => 4 | 5 => 5 | 119 => 134 | 0 => 0 | 46 => 101 | 139 => 137 | 138 => 136 | n => n, fun | 3 => 1 | 4 => 2 | n => n⟩
def Tryz.laysNm216_ren : Go.Shelf.Ren := ⟨fun | 16 => 44 | n => n, fun | 24 => 47 | 9 => 9 | 4 => 4 | n => n, fun | n => n⟩
def Tryz.laysNm220_ren : Go.Shelf.Ren := ⟨fun | 20 => 71 | n => n, fun | 22 => 83 | 3 => 3 | 4 => 4 | 0 => 0 | n => n, fun | n => n⟩
theorem Tryz.laysNm220 : Go.Proofs.Lays2.n20 Tryz.prog Tryz.laysNm220_ren := {
  mixed := by kernel_rfl
  f20 := Tryz.func71.trans (congrArg some (by kernel_rfl))
  t0 := Tryz.underlying0
  a0 := Tryz.isAgg0
  z0 := Tryz.sizeOf0
  v0 := Tryz.zeroValue0
  t3 := Tryz.underlying3
  a3 := Tryz.isAgg3
  z3 := Tryz.sizeOf3
  v3 := Tryz.zeroValue3
  t4 := Tryz.underlying4
  a4 := Tryz.isAgg4
  z4 := Tryz.sizeOf4
  v4 := Tryz.zeroValue4
  t22 := Tryz.underlying83
  a22 := Tryz.isAgg83
  z22 := Tryz.sizeOf83
  v22 := Tryz.zeroValue83
  i3 := by kernel_rfl }
open Go.RowKit Go.Lib Go.Sort in
/-- slices.Compact at []int: "Compact replaces consecutive runs of equal elements with a single copy. This is like the uniq command found on Unix. Compact modifies the contents of the slice s and returns the modified slice, which may have a smaller length. Compact zeroes the elements between the new length and the original length. The result preserves the nilness of s.": IT RETURNS THE SLICE CUT TO 'Lib.compact zs'; ITS CELLS HOLD 'Lib.compact zs', THEN ZERO VALUES up to the old length; all else is as it was, but for the count of draws. IN THE WORDS OF slices.Sort's CONTRACT ('Holds', 'putRow'): so the everyday 'slices.Sort(xs); xs = slices.Compact(xs)' goes from the one contract to the other. It asks 'zs.length ≤ cap' (every slice's: the reslicing 's[:k]' looks at it). Length 0, nil: '.._empty'. (LAID: no walk: one application.) -/
theorem Tryz.slices_Compact_int (blk off cap : Nat) (zs : List Int) (w : World) (hH : Holds (Value.int .i64) w blk off zs.toArray) (hsz : zs.length ≤ 9223372036854775807) (hcap : zs.length ≤ cap) :
    Calls Tryz.prog 71 #[.slice (some ⟨blk, off, none⟩) zs.length cap] w fun e w' => e = .returned (.slice (some ⟨blk, off, none⟩) (Lib.compact zs).length cap) ∧ ∃ q, w' = putRow (Value.int .i64) (Sort.ahead w q) blk off (Lib.compact zs ++ List.replicate (zs.length - (Lib.compact zs).length) 0).toArray := Any.slices_Compact_int Tryz.laysNm220 blk off cap zs w hH hsz hcap
open Go.RowKit Go.Lib Go.Sort in
/-- The same at a slice of length 0, a nil one too: it comes back as it is. (LAID: no walk: one application.) -/
theorem Tryz.slices_Compact_int_empty (a : Option Addr) (cap : Nat) (w : World) :
    Calls Tryz.prog 71 #[.slice a 0 cap] w fun e w' => e = .returned (.slice a 0 cap) ∧ w' = w := Any.slices_Compact_int_empty Tryz.laysNm220 a cap w
open Go.RowKit Go.Sort in
/-- .. and plain. (LAID: no walk: one application.) -/
theorem Tryz.slices_Sort_int_none (p : Option Addr) (cap : Nat) (w : World) :
    Calls Tryz.prog 70 #[.slice p 0 cap] w fun e w' => e = .returned (.tuple #[]) ∧ w' = w := Any.slices_Sort_int_none Tryz.lays189 p cap w
def Tryz.laysSlE041_f44_ren : Go.Shelf.Ren := ⟨fun | 41 => 44 | n => n, fun | 22 => 47 | 23 => 9 | 4 => 4 | n => n, fun | n => n⟩
end Go.Proofs
end
section
set_option linter.unusedVariables false
set_option linter.unusedSimpArgs false
namespace Go.Proofs
open Go Go.Ab
set_option maxHeartbeats 1000000
set_option maxRecDepth 100000
theorem pure_two {P : Program} {f : FuncId} {x y v : Value} (hc : Callable P f) (h : ∀ w, Calls P f #[x, y] w fun e w' => e = .returned v ∧ w' = w) : Go.Ab.Pure P f [.v x, .v y] (.v v) := by
  refine ⟨hc, fun ok w cs ha => ?_⟩
  obtain ⟨hl, hv⟩ := ha
  match cs, hl with
  | [a, b], _ =>
    have h1 := hv 0 (by simp)
    have h2 := hv 1 (by simp)
    simp only [av_zero, av_succ, cv, List.getD_cons_zero, List.getD_cons_succ] at h1 h2
    cases h1; cases h2
    refine (h w).mono fun e w' ⟨he, hw⟩ => ⟨v, he, ?_, .v _⟩
    subst hw
    exact ⟨rfl, rfl, rfl, Nat.le_refl _, fun _ _ => rfl⟩
theorem count_ok (s : ByteArray) : Go.Ab.Pure Tryz.prog 75 [.v (.string s), .v (.string ⟨⟨[46]⟩⟩)] (.v (.int .i64 (Lib.countByte s.data.toList 46 : Nat))) :=
  pure_two ⟨_, Tryz.func75, by kernel_rfl, by kernel_rfl⟩ fun w => Tryz.strings_Count_one s 46 w
theorem indexS_ok (s : ByteArray) : Go.Ab.Pure Tryz.prog 76 [.v (.string s), .v (.string ⟨⟨[46]⟩⟩)] (.v (.int .i64 (Lib.indexByte s.data.toList 46))) :=
  pure_two ⟨_, Tryz.func76, by kernel_rfl, by kernel_rfl⟩ fun w => Tryz.strings_Index_one s 46 w
attribute [local irreducible] Awp aops aopsL Go.Ab.Pure PureOwn
def strs (l : List ByteArray) : List (List AV) := l.map fun s => [.v (.string s)]
@[go_sem] theorem strs_len (l : List ByteArray) : (strs l).length = l.length := by simp [strs]
@[go_sem] theorem strs_at (l : List ByteArray) (i : Nat) (h : i < l.length) : (strs l).getD i [] = [.v (.string (l.getD i ⟨#[]⟩))] := by
  simp [strs, List.getD_eq_getElem?_getD, h]
@[go_sem] theorem cast_beq (a b : Nat) : ((a : Int) == (b : Int)) = (a == b) := by
  rw [Bool.eq_iff_iff, beq_iff_eq, beq_iff_eq, Int.natCast_inj]
theorem strs_snoc (l : List ByteArray) (s : ByteArray) : strs l ++ [[.v (.string s)]] = strs (l ++ [s]) := by simp [strs]
def parF (s : ByteArray) : Nat → Nat → Nat → List ByteArray
  | 0, _, _ => []
  | n + 1, i, fr => if i == s.size || byteAt s i == 46 then s.extract fr i :: parF s n (i + 1) (i + 1) else parF s n (i + 1) fr
def parts (s : ByteArray) : List ByteArray := parF s (s.size + 1) 0 0
theorem parts_ok (s : ByteArray) (hs : s.size < 1000000) : PureOwn Tryz.prog 55 [.v (.string s)] (strs (parts s)) 1 9 := by
  refine fn_own Tryz.F55 (Nat.le_of_ble_eq_true rfl) ?_; unfold Tryz.ac55
  repeat' (first
 | (apply Awp.sreg; (case hn => (simp only [List.length_cons, List.length_nil, Nat.reduceAdd] <;> rfl)))
 | (refine st_nil ?_)
 | (apply st_a; (case hc => rfl); (case he => (simp only [go_sem, *] <;> rfl)); (case hu => (simp only [updL_nil, updL_cons] <;> rfl)); (case hp => first | trivial))
 | refine Awp.block ?_
 | refine Awp.seq ?_)
  · refine Awp.loop (fun x : Nat × Nat × List ByteArray => x.1 ≤ s.size + 1 ∧ x.2.1 ≤ x.1 ∧ x.2.2.length ≤ x.1 ∧ x.2.2 ++ parF s (s.size + 1 - x.1) x.1 x.2.1 = parts s) 20
      (fun x => mkS [(0, .v (.string s)), (3, .own 0), (4, .v (.int .i64 x.2.1)), (5, .v (.int .i64 x.1))] [(0, .row (strs x.2.2) 1 9)]) (fun x => s.size + 1 - x.1) (0, 0, []) (by simp [parts]) ?_ ?_
    · refine Ghost.trans (Ghost.name 3 1 9 rfl (by decide)) ?_
      (apply Ghost.mk [(0, 4)] []; (case hdead => rfl); (case hinj => rfl); (case hV => (simp only [go_sem, *]) <;> (repeat' (first | refine And.intro ?_ ?_ | exact View.int (by first | rfl | omega | (simp; done) | (rw [wrap_i64] <;> (try simp only [Int.natCast_add]) <;> omega) | (simp [*]; done)) | exact .own rfl (by decide)))); (case hB => (simp only [go_sem, *]) <;> (repeat' (first | exact ⟨_, rfl, .rowE (by first | rfl | omega | (simp; done) | (rw [wrap_i64] <;> (try simp only [Int.natCast_add]) <;> omega) | (simp [*]; done))⟩))))
    · intro ⟨i, fr, out⟩ ⟨h1, h2, h3, h4⟩
      dsimp only at h1 h2 h3 h4 ⊢
      repeat' (first
 | (apply Awp.sreg; (case hn => (simp only [List.length_cons, List.length_nil, Nat.reduceAdd] <;> rfl)))
 | (refine st_nil ?_)
 | (apply st_a; (case hc => rfl); (case he => (simp only [go_sem, *] <;> rfl)); (case hu => (simp only [updL_nil, updL_cons] <;> rfl)); (case hp => first | trivial | omega | (simp; done) | (simp; omega)))
 | (apply st_m; (case hc => rfl); (case hg => (simp only [go_sem, *] <;> rfl)); (case he => (intro hQz; (try simp only [wantB_t, wantB_f, Bool.and_eq_true, Bool.not_eq_true', Bool.not_true, Bool.not_false, and_true, true_and] at hQz); simp only [go_sem, *] <;> rfl)); (case hp => (intro hQz; (try simp only [wantB_t, wantB_f, Bool.and_eq_true, Bool.not_eq_true', Bool.or_eq_false_iff, decide_eq_true_eq, decide_eq_false_iff_not, beq_iff_eq, beq_eq_false_iff_ne, bne_iff_ne, bne_eq_false_iff_eq, Int.not_lt, Int.not_le, Int.ofNat_lt, Int.ofNat_le] at hQz); first | trivial | omega)))
 | (apply Awp.reg; (case hn => (simp only [List.length_cons, List.length_nil, Nat.reduceAdd] <;> rfl)))
 | (refine Awp.ret ?_; try simp only [go_sem, *])
 | (refine Awp.skip ?_; try simp only [go_sem, *])
 | (refine Awp.exit ?_; try simp only [go_sem, *])
 | refine Awp.block ?_
 | (apply Awp.cond; (case hc => (simp only [go_sem, *] <;> rfl)); all_goals (intro hg; (try simp only [Bool.not_true, Bool.not_false, reduceCtorEq] at hg); (try have hg' := hg); (try simp only [decide_eq_true_eq, decide_eq_false_iff_not, Bool.and_eq_true, Bool.or_eq_false_iff, bne_iff_ne, bne_eq_false_iff_eq, beq_iff_eq, beq_eq_false_iff_ne, Int.not_lt, Int.not_le, Int.ofNat_lt, Int.ofNat_le, Int.natCast_inj] at hg')))
 | refine Awp.seq ?_)
      · refine ⟨(i + 1, i + 1, out ++ [s.extract fr i]), ⟨by dsimp only; omega, by dsimp only; omega, by simp; omega, ?_⟩, by dsimp only; omega, ?_⟩
        · dsimp only
          rw [← h4, show s.size + 1 - i = s.size + 1 - (i + 1) + 1 by omega, parF, if_pos hg]
          simp
        · (apply Ghost.mk [(0, 40)] []; (case hdead => rfl); (case hinj => rfl); (case hV => (simp only [go_sem, *]) <;> (repeat' (first | refine And.intro ?_ ?_ | exact View.int (by first | rfl | exact strs_snoc _ _ | omega | (simp; done) | (rw [wrap_i64] <;> (try simp only [Int.natCast_add]) <;> omega) | (simp [*]; done)) | exact .own rfl (by decide)))); (case hB => (simp only [go_sem, *]) <;> (repeat' (first | exact ⟨_, rfl, .rowE (by first | rfl | exact strs_snoc _ _ | omega | (simp; done) | (rw [wrap_i64] <;> (try simp only [Int.natCast_add]) <;> omega) | (simp [*]; done))⟩))))
      · refine ⟨(i + 1, fr, out), ⟨by dsimp only; omega, by dsimp only; omega, by dsimp only; omega, ?_⟩, by dsimp only; omega, ?_⟩
        · dsimp only
          rw [← h4, show s.size + 1 - i = s.size + 1 - (i + 1) + 1 by omega, parF, if_neg (by rw [hg]; decide)]
        · (apply Ghost.mk [] []; (case hdead => rfl); (case hinj => rfl); (case hV => (simp only [go_sem, *]) <;> (repeat' (first | refine And.intro ?_ ?_ | exact View.int (by first | rfl | omega | (simp; done) | (rw [wrap_i64] <;> (try simp only [Int.natCast_add]) <;> omega) | (simp [*]; done)) | exact .own rfl (by decide)))); (case hB => (simp only [go_sem, *]) <;> (repeat' (first | exact ⟨_, rfl, .rowE (by first | rfl | omega | (simp; done) | (rw [wrap_i64] <;> (try simp only [Int.natCast_add]) <;> omega) | (simp [*]; done))⟩))))
      · refine ⟨0, rfl, ?_⟩
        have : s.size + 1 - i = 0 := by omega
        rw [this, parF, List.append_nil] at h4
        rw [← h4]
        rfl
theorem ext_ext (s : ByteArray) (a b c d : Nat) : (s.extract a b).extract c d = s.extract (a + c) (min (a + d) b) := by
  apply ByteArray.ext
  simp [Array.extract_extract]
theorem ext_size (s : ByteArray) (a b : Nat) : (s.extract a b).size = min b s.size - a := by
  exact ByteArray.size_extract
end Go.Proofs
end
section
set_option linter.unusedVariables false
set_option linter.unusedSimpArgs false
namespace Go.Proofs
open Go Go.Ab
set_option maxHeartbeats 1000000
set_option maxRecDepth 100000
attribute [local irreducible] Awp aops aopsL Go.Ab.Pure PureOwn
theorem ix_some : ∀ (l : List UInt8), 0 < l.count 46 → ∃ m : Nat, Lib.indexByte l 46 = (m : Int) ∧ m < l.length ∧ l.getD m 0 = 46 ∧ (∀ j, j < m → l.getD j 0 ≠ 46) ∧ l.count 46 = (l.drop (m + 1)).count 46 + 1
  | [], h => by simp at h
  | b :: l, h => by
    by_cases hb : b = 46
    · subst hb
      exact ⟨0, by simp [Lib.indexByte], by simp, by simp, fun j hj => by omega, by simp⟩
    · have hc : (b :: l).count 46 = l.count 46 := by rw [List.count_cons]; simp [hb]
      rw [hc] at h
      obtain ⟨m, h1, h2, h3, h4, h5⟩ := ix_some l h
      refine ⟨m + 1, ?_, by simp; omega, by simpa using h3, fun j hj => ?_, by rw [hc, h5]; simp⟩
      · have : ¬ ((m : Int) = -1) := by omega
        simp [Lib.indexByte, hb, h1, this]
      · cases j with
        | zero => simpa using hb
        | succ j => simpa using h4 j (by omega)
theorem byteAt_list (s : ByteArray) (i : Nat) : byteAt s i = ((s.data.toList.getD i 0).toNat : Int) := by
  unfold byteAt
  rw [Array.getD_eq_getD_getElem?, List.getD_eq_getElem?_getD, Array.getElem?_toList]
theorem byteAt_dot {s : ByteArray} {i : Nat} : byteAt s i = 46 ↔ s.data.toList.getD i 0 = 46 := by
  rw [byteAt_list]
  constructor
  · intro h
    have : (s.data.toList.getD i 0).toNat = 46 := by omega
    exact UInt8.toNat_inj.1 this
  · intro h; rw [h]; rfl
theorem ext_list (s : ByteArray) (fr : Nat) : (s.extract fr s.size).data.toList = s.data.toList.drop fr := by
  rw [ByteArray.data_extract, Array.toList_extract]
  show List.take (s.data.size - fr) (List.drop fr s.data.toList) = _
  exact List.take_of_length_le (by simp)
theorem ext_all (s : ByteArray) : s = s.extract 0 s.size := by simp
theorem parF_run (s : ByteArray) (fr : Nat) : ∀ (m i : Nat), i + m ≤ s.size → (∀ j, j < m → byteAt s (i + j) ≠ 46) → parF s (s.size + 1 - i) i fr = parF s (s.size + 1 - (i + m)) (i + m) fr
  | 0, i, _, _ => rfl
  | m + 1, i, h, hj => by
    have h0 := hj 0 (by omega)
    rw [show s.size + 1 - i = s.size + 1 - (i + 1) + 1 by omega, parF, if_neg (by simp only [Bool.or_eq_true, beq_iff_eq, not_or]; exact ⟨by omega, h0⟩)]
    rw [parF_run s fr m (i + 1) (by omega) (fun j hj' => by rw [show i + 1 + j = i + (j + 1) by omega]; exact hj (j + 1) (by omega))]
    rw [show i + 1 + m = i + (m + 1) by omega]
theorem parF_dot {s : ByteArray} {fr m : Nat} (h : fr + m < s.size) (hm : byteAt s (fr + m) = 46) (hj : ∀ j, j < m → byteAt s (fr + j) ≠ 46) : parF s (s.size + 1 - fr) fr fr = s.extract fr (fr + m) :: parF s (s.size + 1 - (fr + m + 1)) (fr + m + 1) (fr + m + 1) := by
  rw [parF_run s fr m fr (by omega) hj, show s.size + 1 - (fr + m) = s.size + 1 - (fr + m + 1) + 1 by omega, parF, if_pos (by simp [hm])]
theorem parF_last {s : ByteArray} {fr : Nat} (h : fr ≤ s.size) (hj : ∀ j, fr ≤ j → j < s.size → byteAt s j ≠ 46) : parF s (s.size + 1 - fr) fr fr = [s.extract fr s.size] := by
  rw [parF_run s fr (s.size - fr) fr (by omega) (fun j hj' => hj _ (by omega) (by omega)), show fr + (s.size - fr) = s.size by omega, show s.size + 1 - s.size = 0 + 1 by omega, parF, if_pos (by simp), parF]
theorem count_zero {l : List UInt8} {fr : Nat} (h : (l.drop fr).count 46 = 0) : ∀ j, fr ≤ j → j < l.length → l.getD j 0 ≠ 46 := by
  intro j h1 h2 e
  rw [List.count_eq_zero] at h
  refine h ?_
  rw [← e]
  simp only [List.getD_eq_getElem?_getD, List.getElem?_eq_getElem h2, Option.getD_some]
  exact List.mem_drop_iff_getElem.2 ⟨j - fr, by omega, by congr 1; omega⟩
theorem rep_at (l : List ByteArray) (n : Nat) (z : List AV) (h : 0 < n) : (strs l ++ List.replicate n z).getD l.length [] = z := by
  simp [strs, List.getD_eq_getElem?_getD, List.getElem?_append_right, List.getElem?_replicate, h]
theorem rep_set (l : List ByteArray) (n : Nat) (z : List AV) (x : ByteArray) (h : l.length < n) : (strs l ++ List.replicate (n - l.length) z).set l.length [.v (.string x)] = strs (l ++ [x]) ++ List.replicate (n - (l ++ [x]).length) z := by
  have h1 : n - l.length = (n - (l ++ [x]).length) + 1 := by simp; omega
  rw [h1, List.replicate_succ]
  simp [strs, List.set_append_right]
theorem getD_drop (l : List UInt8) (k j : Nat) : (l.drop k).getD j 0 = l.getD (k + j) 0 := by
  simp [List.getD_eq_getElem?_getD, List.getElem?_drop]
theorem gensplit_ok (s : ByteArray) (hs : s.size < 1000000) : Pure Tryz.prog 64 [.v (.string s), .v (.string ⟨⟨[46]⟩⟩), .v (.int .i64 0), .v (.int .i64 (-1))] (.sl (strs (parts s))) := by
  obtain ⟨C, hC⟩ : ∃ C, Lib.countByte s.data.toList 46 = C := ⟨_, rfl⟩
  have hc := count_ok s
  rw [hC] at hc
  have hle : C ≤ s.size := by rw [← hC]; exact List.count_le_length
  have w1 : IntKind.i64.wrap ((C : Int) + 1) = C + 1 := wrap_i64 (by omega) (by omega)
  have w2 : IntKind.i64.wrap ((s.size : Int) + 1) = s.size + 1 := wrap_i64 (by omega) (by omega)
  have w3 : ¬ ((s.size : Int) + 1 < C + 1) := by omega
  have w4 : IntKind.i64.wrap ((C : Int) + 1 - 1) = C := by rw [wrap_i64] <;> omega
  have w5 : ((C : Int) + 1).toNat = C + 1 := by omega
  have w6 : (Array.size (⟨[46]⟩ : Array UInt8) == 0) = false := rfl
  have w7 : ((Array.size (⟨[46]⟩ : Array UInt8) : Nat) : Int) = 1 := rfl
  refine fn_pure Tryz.F64 (Nat.le_of_ble_eq_true rfl) ?_; unfold Tryz.ac64
  repeat' (first
 | (apply Awp.sreg; (case hn => (simp only [List.length_cons, List.length_nil, Nat.reduceAdd] <;> rfl)))
 | (refine st_nil ?_)
 | (apply st_a; (case hc => rfl); (case he => (simp only [go_sem, *] <;> rfl)); (case hu => (simp only [updL_nil, updL_cons] <;> rfl)); (case hp => first | trivial | omega))
 | (apply st_c; (case hc => (simp only [go_sem, *] <;> rfl)); (case hl => (simp only [go_sem, *] <;> rfl)); (case hn => (simp only [go_sem, *] <;> rfl)); (case hp => first | exact hc | (have hXz := hc; simp only [go_sem, *] at hXz; exact hXz)))
 | (apply Awp.reg; (case hn => (simp only [List.length_cons, List.length_nil, Nat.reduceAdd] <;> rfl)))
 | (refine Awp.skip ?_; try simp only [go_sem, *])
 | refine Awp.block ?_
 | (apply Awp.cond; (case hc => (simp only [go_sem, *] <;> rfl)); all_goals (intro hg; (try simp only [Bool.not_true, Bool.not_false, reduceCtorEq] at hg); (try have hg' := hg); (try simp only [decide_eq_true_eq, decide_eq_false_iff_not, Bool.and_eq_true, Bool.or_eq_false_iff, bne_iff_ne, bne_eq_false_iff_eq, beq_iff_eq, beq_eq_false_iff_ne, Int.not_lt, Int.not_le, Int.ofNat_lt, Int.ofNat_le, Int.natCast_inj] at hg')))
 | refine Awp.seq ?_)
  · refine Awp.loop (fun x : Nat × List ByteArray => x.1 ≤ s.size ∧ x.2 ++ parF s (s.size + 1 - x.1) x.1 x.1 = parts s ∧ (s.data.toList.drop x.1).count 46 + x.2.length = C) 30
      (fun x => mkS [(0, .v (.string (s.extract x.1 s.size))), (1, .v (.string ⟨⟨[46]⟩⟩)), (2, .v (.int .i64 0)), (3, .v (.int .i64 C)), (9, .own 0), (10, .v (.int .i64 x.2.length))] [(0, .row (strs x.2 ++ List.replicate (C + 1 - x.2.length) [.v (.string ⟨⟨[]⟩⟩)]) 1 9)]) (fun x => C - x.2.length) (0, []) ?_ ?_ ?_
    · exact ⟨Nat.zero_le _, rfl, by rw [← hC]; rfl⟩
    · (apply Ghost.mk [(0, 19)] []; (case hdead => rfl); (case hinj => rfl); (case hV => (simp only [go_sem, *]) <;> (repeat' (first | refine And.intro ?_ ?_ | exact View.int (by first | rfl | exact ext_all s | omega | (simp; done) | (rw [wrap_i64] <;> (try simp only [Int.natCast_add]) <;> omega) | (simp [*]; done)) | exact View.str (by first | rfl | exact ext_all s | omega | (simp; done) | (rw [wrap_i64] <;> (try simp only [Int.natCast_add]) <;> omega) | (simp [*]; done)) | exact .own rfl (by decide)))); (case hB => (simp only [go_sem, *]) <;> (repeat' (first | exact ⟨_, rfl, .rowE (by first | rfl | exact ext_all s | omega | (simp; done) | (rw [wrap_i64] <;> (try simp only [Int.natCast_add]) <;> omega) | (simp [*]; done))⟩))))
    · intro ⟨fr, out⟩ ⟨h1, h2, h3⟩
      dsimp only at h1 h2 h3 ⊢
      have hl : (s.extract fr s.size).data.toList = s.data.toList.drop fr := ext_list s fr
      by_cases hlt : out.length < C
      · obtain ⟨m, m1, m2, m3, m4, m5⟩ := ix_some (s.data.toList.drop fr) (by omega)
        have hix := indexS_ok (s.extract fr s.size)
        rw [hl, m1] at hix
        have hsz : (s.extract fr s.size).size = s.size - fr := by rw [ext_size]; omega
        have hm : m < s.size - fr := by
          rw [List.length_drop] at m2
          exact m2
        have e1 : IntKind.i64.wrap ((m : Int) + 0) = m := by rw [wrap_i64] <;> omega
        have e2 : IntKind.i64.wrap ((m : Int) + 1) = (m + 1 : Nat) := by rw [wrap_i64] <;> omega
        have e3 : ((m + 1 : Nat) : Int).toNat = m + 1 := by omega
        have e0 : ¬ ((m : Int) < 0) := by omega
        have hlt' : (out.length : Int) < C := by omega
        have e4 : (strs out ++ List.replicate (C + 1 - out.length) [AV.v (.string ⟨⟨[]⟩⟩)]).length = C + 1 := by simp [strs]; omega
        have e5 : (strs out ++ List.replicate (C + 1 - out.length) [AV.v (.string ⟨⟨[]⟩⟩)]).getD out.length [] = [.v (.string ⟨⟨[]⟩⟩)] := rep_at _ _ _ (by omega)
        have e6 : (strs out ++ List.replicate (C + 1 - out.length) [AV.v (.string ⟨⟨[]⟩⟩)]).set out.length [.v (.string (s.extract fr (fr + m)))] = strs (out ++ [s.extract fr (fr + m)]) ++ List.replicate (C + 1 - (out ++ [s.extract fr (fr + m)]).length) [AV.v (.string ⟨⟨[]⟩⟩)] := rep_set _ _ _ _ (by omega)
        have e7 : (s.extract fr s.size).extract 0 m = s.extract fr (fr + m) := by rw [ext_ext, Nat.add_zero, Nat.min_eq_left (by omega)]
        have e8 : (s.extract fr s.size).extract (m + 1) (s.size - fr) = s.extract (fr + m + 1) s.size := by rw [ext_ext, show fr + (s.size - fr) = s.size by omega, Nat.min_self]; rfl
        repeat' (first
 | (apply Awp.sreg; (case hn => (simp only [List.length_cons, List.length_nil, Nat.reduceAdd] <;> rfl)))
 | (refine st_nil ?_)
 | (apply st_a; (case hc => rfl); (case he => (simp only [go_sem, *] <;> rfl)); (case hu => (simp only [updL_nil, updL_cons] <;> rfl)); (case hp => first | trivial | omega | (simp; done)))
 | (apply st_c; (case hc => (simp only [go_sem, *] <;> rfl)); (case hl => (simp only [go_sem, *] <;> rfl)); (case hn => (simp only [go_sem, *] <;> rfl)); (case hp => first | exact hix | (have hXz := hix; simp only [go_sem, *] at hXz; exact hXz)))
 | (apply Awp.reg; (case hn => (simp only [List.length_cons, List.length_nil, Nat.reduceAdd] <;> rfl)))
 | (refine Awp.skip ?_; try simp only [go_sem, *])
 | refine Awp.block ?_
 | (apply Awp.cond; (case hc => (simp only [go_sem, *] <;> rfl)); all_goals (intro hg; (try simp only [Bool.not_true, Bool.not_false, reduceCtorEq] at hg); (try have hg' := hg); (try simp only [decide_eq_true_eq, decide_eq_false_iff_not, Bool.and_eq_true, Bool.or_eq_false_iff, bne_iff_ne, bne_eq_false_iff_eq, beq_iff_eq, beq_eq_false_iff_ne, Int.not_lt, Int.not_le, Int.ofNat_lt, Int.ofNat_le, Int.natCast_inj] at hg')))
 | refine Awp.seq ?_)
        refine ⟨(fr + m + 1, out ++ [s.extract fr (fr + m)]), ⟨by dsimp only; omega, ?_, ?_⟩, by simp; omega, ?_⟩
        · dsimp only
          have hp := parF_dot (s := s) (fr := fr) (m := m) (by omega) (byteAt_dot.2 (by rw [← m3]; exact (getD_drop _ _ _).symm)) (fun j hj e => m4 j hj (by rw [getD_drop]; exact byteAt_dot.1 e))
          rw [hp] at h2
          rw [← h2]
          simp only [List.append_assoc, List.singleton_append]
        · rw [List.drop_drop] at m5
          simp only [List.length_append, List.length_singleton]
          rw [show fr + m + 1 = fr + (m + 1) by omega]
          omega
        · have e9 : ((out ++ [s.extract fr (fr + m)]).length : Int) = out.length + 1 := by simp
          (apply Ghost.mk [] []; (case hdead => rfl); (case hinj => rfl); (case hV => (simp only [go_sem, *]) <;> (repeat' (first | refine And.intro ?_ ?_ | exact View.int (by first | rfl | omega | (simp; done) | (rw [wrap_i64] <;> (try simp only [Int.natCast_add]) <;> omega) | (simp [*]; done)) | exact .own rfl (by decide)))); (case hB => (simp only [go_sem, *]) <;> (repeat' (first | exact ⟨_, rfl, .rowE (by first | rfl | omega | (simp; done) | (rw [wrap_i64] <;> (try simp only [Int.natCast_add]) <;> omega) | (simp [*]; done))⟩))))
      · have e1 : out.length = C := by omega
        have hz : (s.data.toList.drop fr).count 46 = 0 := by omega
        have hp := parF_last h1 (fun j hj1 hj2 e => count_zero hz j hj1 hj2 (byteAt_dot.1 e))
        rw [hp] at h2
        have e4 : (strs out ++ List.replicate (C + 1 - out.length) [AV.v (.string ⟨⟨[]⟩⟩)]).length = C + 1 := by simp [strs]; omega
        have e5 : (strs out ++ List.replicate (C + 1 - out.length) [AV.v (.string ⟨⟨[]⟩⟩)]).getD out.length [] = [.v (.string ⟨⟨[]⟩⟩)] := rep_at _ _ _ (by omega)
        have e6 : (strs out ++ List.replicate (C + 1 - out.length) [AV.v (.string ⟨⟨[]⟩⟩)]).set out.length [.v (.string (s.extract fr s.size))] = strs (parts s) := by
          rw [rep_set _ _ _ _ (by omega), h2, ← h2]
          have : C + 1 - (out ++ [s.extract fr s.size]).length = 0 := by simp; omega
          rw [this]; simp
        clear e1
        have hlt' : ¬ (out.length : Int) < C := by omega
        refine Awp.seq ?_
        (first | (apply Awp.sreg; (case hn => (simp only [List.length_cons, List.length_nil, Nat.reduceAdd] <;> rfl))) | (apply Awp.reg; (case hn => (simp only [List.length_cons, List.length_nil, Nat.reduceAdd] <;> rfl)))); repeat' (first
 | (refine st_nil ?_)
 | (apply st_a; (case hc => rfl); (case he => (simp only [go_sem, *] <;> rfl)); (case hu => (simp only [updL_nil, updL_cons] <;> rfl)); (case hp => first | trivial))
 | (apply st_m; (case hc => rfl); (case hg => (simp only [go_sem, *] <;> rfl)); (case he => (intro hQz; (try simp only [wantB_t, wantB_f, Bool.and_eq_true, Bool.not_eq_true', Bool.not_true, Bool.not_false, and_true, true_and] at hQz); simp only [go_sem, *] <;> rfl)); (case hp => (intro hQz; (try simp only [wantB_t, wantB_f, Bool.and_eq_true, Bool.not_eq_true', Bool.or_eq_false_iff, decide_eq_true_eq, decide_eq_false_iff_not, beq_iff_eq, beq_eq_false_iff_ne, bne_iff_ne, bne_eq_false_iff_eq, Int.not_lt, Int.not_le, Int.ofNat_lt, Int.ofNat_le] at hQz); first | skip; done)))
 | (apply st_sx; (case he => (simp only [go_sem, *] <;> rfl)); (case hu => (simp only [updL_nil, updL_cons] <;> rfl)); (case hp => first | skip; done))
 | (apply st_gu; (case hv => (simp only [go_sem, *] <;> rfl)))
 | (apply st_g; (case hv => (simp only [go_sem, *] <;> rfl)); all_goals (intro hg; (try simp only [Bool.not_true, Bool.not_false, reduceCtorEq] at hg); (try have hg' := hg); (try simp only [decide_eq_true_eq, decide_eq_false_iff_not, Bool.and_eq_true, Bool.or_eq_false_iff, bne_iff_ne, bne_eq_false_iff_eq, beq_iff_eq, beq_eq_false_iff_ne, Int.not_lt, Int.not_le, Int.ofNat_lt, Int.ofNat_le, Int.natCast_inj] at hg'))))
        (apply Awp.cond; (case hc => (simp only [go_sem, *] <;> rfl)); all_goals (intro hg; (try simp only [Bool.not_true, Bool.not_false, reduceCtorEq] at hg); (try have hg' := hg); (try simp only [decide_eq_true_eq, decide_eq_false_iff_not, Bool.and_eq_true, Bool.or_eq_false_iff, bne_iff_ne, bne_eq_false_iff_eq, beq_iff_eq, beq_eq_false_iff_ne, Int.not_lt, Int.not_le, Int.ofNat_lt, Int.ofNat_le, Int.natCast_inj] at hg')))
        (refine Awp.exit ?_; simp only [go_sem, *])
        (first | (apply Awp.sreg; (case hn => (simp only [List.length_cons, List.length_nil, Nat.reduceAdd] <;> rfl))) | (apply Awp.reg; (case hn => (simp only [List.length_cons, List.length_nil, Nat.reduceAdd] <;> rfl)))); repeat' (first
 | (refine st_nil ?_)
 | (apply st_a; (case hc => rfl); (case he => (simp only [go_sem, *] <;> rfl)); (case hu => (simp only [updL_nil, updL_cons] <;> rfl)); (case hp => first | trivial | omega | (simp; omega)))
 | (apply st_m; (case hc => rfl); (case hg => (simp only [go_sem, *] <;> rfl)); (case he => (intro hQz; (try simp only [wantB_t, wantB_f, Bool.and_eq_true, Bool.not_eq_true', Bool.not_true, Bool.not_false, and_true, true_and] at hQz); simp only [go_sem, *] <;> rfl)); (case hp => (intro hQz; (try simp only [wantB_t, wantB_f, Bool.and_eq_true, Bool.not_eq_true', Bool.or_eq_false_iff, decide_eq_true_eq, decide_eq_false_iff_not, beq_iff_eq, beq_eq_false_iff_ne, bne_iff_ne, bne_eq_false_iff_eq, Int.not_lt, Int.not_le, Int.ofNat_lt, Int.ofNat_le] at hQz); first | skip; done)))
 | (apply st_sx; (case he => (simp only [go_sem, *] <;> rfl)); (case hu => (simp only [updL_nil, updL_cons] <;> rfl)); (case hp => first | skip; done))
 | (apply st_gu; (case hv => (simp only [go_sem, *] <;> rfl)))
 | (apply st_g; (case hv => (simp only [go_sem, *] <;> rfl)); all_goals (intro hg; (try simp only [Bool.not_true, Bool.not_false, reduceCtorEq] at hg); (try have hg' := hg); (try simp only [decide_eq_true_eq, decide_eq_false_iff_not, Bool.and_eq_true, Bool.or_eq_false_iff, bne_iff_ne, bne_eq_false_iff_eq, beq_iff_eq, beq_eq_false_iff_ne, Int.not_lt, Int.not_le, Int.ofNat_lt, Int.ofNat_le, Int.natCast_inj] at hg'))))
        have hlen : (parts s).length = out.length + 1 := by rw [← h2]; simp
        have e10 : IntKind.i64.wrap ((out.length : Int) + 1) = (parts s).length := by rw [wrap_i64] <;> omega
        have e11 : ∀ x ∈ strs (parts s), x.length = 1 := by simp [strs]
        refine Awp.ghost (nx' := 38) (S' := mkS [(9, .sl (strs (parts s))), (10, .v (.int .i64 out.length))] []) ?_ ?_
        · refine Ghost.mk [] [0] rfl rfl ?_ ?_
          · simp only [go_sem]
            exact .low (.own rfl)
          · simp only [go_sem]
        · repeat' (first
 | (apply Awp.sreg; (case hn => (simp only [List.length_cons, List.length_nil, Nat.reduceAdd] <;> rfl)))
 | (refine st_nil ?_)
 | (apply st_a; (case hc => rfl); (case he => (simp only [go_sem, *] <;> rfl)); (case hu => (simp only [updL_nil, updL_cons] <;> rfl)); (case hp => first | trivial | ((repeat' (refine And.intro ?_ ?_)) <;> first | trivial | assumption | omega | (simp; done) | (simp; omega) | (simp [*]; done))))
 | (refine Awp.ret ?_; try simp only [go_sem, *]))
          have e12 : List.take (parts s).length (strs (parts s)) = strs (parts s) := List.take_of_length_le (by simp [strs])
          rw [← hlen, e12]
          exact .same _ rfl
theorem split_ok (s : ByteArray) (hs : s.size < 1000000) : Pure Tryz.prog 52 [.v (.string s), .v (.string ⟨⟨[46]⟩⟩)] (.sl (strs (parts s))) := by
  refine fn_pure Tryz.F52 (Nat.le_of_ble_eq_true rfl) ?_; unfold Tryz.ac52
  repeat' (first
 | (apply Awp.sreg; (case hn => (simp only [List.length_cons, List.length_nil, Nat.reduceAdd] <;> rfl)))
 | (refine st_nil ?_)
 | (apply st_a; (case hc => rfl); (case he => (simp only [go_sem, *] <;> rfl)); (case hu => (simp only [updL_nil, updL_cons] <;> rfl)); (case hp => first | trivial))
 | (apply st_c; (case hc => (simp only [go_sem, *] <;> rfl)); (case hl => (simp only [go_sem, *] <;> rfl)); (case hn => (simp only [go_sem, *] <;> rfl)); (case hp => first | exact gensplit_ok _ hs | (have hXz := gensplit_ok _ hs; simp only [go_sem, *] at hXz; exact hXz)))
 | (refine Awp.ret ?_; try simp only [go_sem, *]))
  all_goals exact .same _ rfl
end Go.Proofs
end
section
set_option linter.unusedVariables false
set_option linter.unusedSimpArgs false
namespace Go.Proofs
open Go Go.Ab
set_option maxHeartbeats 1000000
set_option maxRecDepth 100000
attribute [local irreducible] Awp aops aopsL Go.Ab.Pure PureOwn
def sizes (l : List ByteArray) : Nat := (l.map (·.size)).sum
def namesB (l : List ByteArray) : Bool := l.all nameB && decide (1 ≤ (l.length : Int)) && decide ((l.length : Int) ≤ 8) && decide ((l.length : Int) - 1 + sizes l ≤ 64)
theorem sizes_next (l : List ByteArray) (i : Nat) (h : i < l.length) : sizes (l.take (i + 1)) = sizes (l.take i) + (l.getD i ⟨#[]⟩).size := by
  have e : l.take (i + 1) = l.take i ++ [l.getD i ⟨#[]⟩] := by
    rw [List.take_add_one, List.getElem?_eq_getElem h, List.getD_eq_getElem?_getD, List.getElem?_eq_getElem h]; rfl
  rw [e]; simp only [sizes, List.map_append, List.sum_append, List.map_cons, List.map_nil, List.sum_cons, List.sum_nil, Nat.add_zero]
theorem all_bad {l : List ByteArray} {i : Nat} (h : i < l.length) (e : nameB (l.getD i ⟨#[]⟩) = false) : l.all nameB = false := by
  simp only [List.all_eq_false]
  exact ⟨l.getD i ⟨#[]⟩, by simp [List.getD_eq_getElem?_getD, h], by rw [e]; simp⟩
theorem all_end {l : List ByteArray} {i : Nat} (h : ∀ j, j < i → nameB (l.getD j ⟨#[]⟩) = true) (h1 : l.length ≤ i) : l.all nameB = true := by
  simp only [List.all_eq_true]
  intro x hx
  obtain ⟨j, hj, rfl⟩ := List.getElem_of_mem hx
  have := h j (by omega)
  simpa [List.getD_eq_getElem?_getD, hj] using this
theorem sizes_take (l : List ByteArray) (i : Nat) : sizes (l.take i) ≤ sizes l := by
  have e := congrArg sizes (List.take_append_drop i l)
  simp only [sizes, List.map_append, List.sum_append] at e ⊢
  omega
theorem names_ok (l : List ByteArray) (hl : l.length < 1000000) (hz : sizes l < 1000000) : Pure Tryz.prog 51 [.sl (strs l)] (.v (.bool (namesB l))) := by
  have w1 : IntKind.i64.wrap ((l.length : Int) - 1) = l.length - 1 := by rw [wrap_i64] <;> omega
  refine fn_pure Tryz.F51 (Nat.le_of_ble_eq_true rfl) ?_; unfold Tryz.ac51
  repeat' (first
 | (apply Awp.sreg; (case hn => (simp only [List.length_cons, List.length_nil, Nat.reduceAdd] <;> rfl)))
 | (refine st_nil ?_)
 | (apply st_a; (case hc => rfl); (case he => (simp only [go_sem, *] <;> rfl)); (case hu => (simp only [updL_nil, updL_cons] <;> rfl)); (case hp => first | trivial))
 | refine Awp.block ?_
 | refine Awp.seq ?_)
  · refine Awp.loop (fun i : Nat => i ≤ l.length ∧ ∀ j, j < i → nameB (l.getD j ⟨#[]⟩) = true) 20 (fun i => mkS [(0, .sl (strs l)), (3, .v (.int .i64 ((l.length : Int) - 1 + sizes (l.take i)))), (9, .sl (strs l)), (10, .v (.int .i64 l.length)), (11, .v (.int .i64 i))] []) (fun i => l.length - i) 0 (by simp) ?_ ?_
    · have e0 : sizes [] = 0 := rfl
      (apply Ghost.mk [] []; (case hdead => rfl); (case hinj => rfl); (case hV => (simp only [go_sem, *]) <;> (repeat' (first | refine And.intro ?_ ?_ | exact View.int (by first | rfl | omega | (simp; done) | (rw [wrap_i64] <;> (try simp only [Int.natCast_add]) <;> omega) | (simp [*]; done))))); (case hB => (simp only [go_sem, *]) <;> (repeat' (first | skip; done))))
    · intro i ⟨hi, hj⟩
      have hz1 := sizes_take l i
      have hz2 := sizes_take l (i + 1)
      by_cases hlt : i < l.length
      · have hlt' : (i : Int) < l.length := by omega
        have hn := sizes_next l i hlt
        repeat' (first
 | (apply Awp.sreg; (case hn => (simp only [List.length_cons, List.length_nil, Nat.reduceAdd] <;> rfl)))
 | (refine st_nil ?_)
 | (apply st_a; (case hc => rfl); (case he => (simp only [go_sem, *] <;> rfl)); (case hu => (simp only [updL_nil, updL_cons] <;> rfl)); (case hp => first | trivial | omega))
 | (apply st_c; (case hc => (simp only [go_sem, *] <;> rfl)); (case hl => (simp only [go_sem, *] <;> rfl)); (case hn => (simp only [go_sem, *] <;> rfl)); (case hp => first | exact name_ok _ | (have hXz := name_ok _; simp only [go_sem, *] at hXz; exact hXz)))
 | (apply Awp.reg; (case hn => (simp only [List.length_cons, List.length_nil, Nat.reduceAdd] <;> rfl)))
 | (refine Awp.ret ?_; try simp only [go_sem, *])
 | (refine Awp.skip ?_; try simp only [go_sem, *])
 | refine Awp.block ?_
 | (apply Awp.cond; (case hc => (simp only [go_sem, *] <;> rfl)); all_goals (intro hg; (try simp only [Bool.not_true, Bool.not_false, reduceCtorEq] at hg); (try have hg' := hg); (try simp only [decide_eq_true_eq, decide_eq_false_iff_not, Bool.and_eq_true, Bool.or_eq_false_iff, bne_iff_ne, bne_eq_false_iff_eq, beq_iff_eq, beq_eq_false_iff_ne, Int.not_lt, Int.not_le, Int.ofNat_lt, Int.ofNat_le, Int.natCast_inj] at hg')))
 | refine Awp.seq ?_)
        · exact Lower.bool (by rw [namesB, all_bad hlt (by simpa using hg')]; simp)
        · refine ⟨i + 1, ⟨by omega, ltSucc hj (by simpa using hg')⟩, by omega, ?_⟩
          have e1 : IntKind.i64.wrap ((l.length : Int) - 1 + (sizes (l.take i) : Int) + ((l.getD i ⟨#[]⟩).size : Int)) = (l.length : Int) - 1 + (sizes (l.take (i + 1)) : Int) := by rw [wrap_i64] <;> omega
          (apply Ghost.mk [] []; (case hdead => rfl); (case hinj => rfl); (case hV => (simp only [go_sem, *]) <;> (repeat' (first | exact View.int (by first | rfl | omega | (simp; done) | (rw [wrap_i64] <;> (try simp only [Int.natCast_add]) <;> omega) | (simp [*]; done))))); (case hB => (simp only [go_sem, *]) <;> (repeat' (first | skip; done))))
      · have hlt' : ¬ (i : Int) < l.length := by omega
        have e1 : l.take i = l := List.take_of_length_le (by omega)
        repeat' (first
 | (apply Awp.sreg; (case hn => (simp only [List.length_cons, List.length_nil, Nat.reduceAdd] <;> rfl)))
 | (refine st_nil ?_)
 | (apply st_a; (case hc => rfl); (case he => (simp only [go_sem, *] <;> rfl)); (case hu => (simp only [updL_nil, updL_cons] <;> rfl)); (case hp => first | trivial))
 | (apply st_m; (case hc => rfl); (case hg => (simp only [go_sem, *] <;> rfl)); (case he => (intro hQz; (try simp only [wantB_t, wantB_f, Bool.and_eq_true, Bool.not_eq_true', Bool.not_true, Bool.not_false, and_true, true_and] at hQz); simp only [go_sem, *] <;> rfl)); (case hp => (intro hQz; (try simp only [wantB_t, wantB_f, Bool.and_eq_true, Bool.not_eq_true', Bool.or_eq_false_iff, decide_eq_true_eq, decide_eq_false_iff_not, beq_iff_eq, beq_eq_false_iff_ne, bne_iff_ne, bne_eq_false_iff_eq, Int.not_lt, Int.not_le, Int.ofNat_lt, Int.ofNat_le] at hQz); first | trivial)))
 | (refine Awp.ret ?_; try simp only [go_sem, *])
 | (refine Awp.exit ?_; try simp only [go_sem, *])
 | (apply Awp.cond; (case hc => (simp only [go_sem, *] <;> rfl)); all_goals (intro hg; (try simp only [Bool.not_true, Bool.not_false, reduceCtorEq] at hg); (try have hg' := hg); (try simp only [decide_eq_true_eq, decide_eq_false_iff_not, Bool.and_eq_true, Bool.or_eq_false_iff, bne_iff_ne, bne_eq_false_iff_eq, beq_iff_eq, beq_eq_false_iff_ne, Int.not_lt, Int.not_le, Int.ofNat_lt, Int.ofNat_le, Int.natCast_inj] at hg')))
 | refine Awp.seq ?_)
        all_goals exact Lower.bool (by rw [namesB, all_end hj (by omega)]; simp)
theorem parF_sizes (s : ByteArray) : ∀ (n i fr : Nat), i + n = s.size + 1 → fr ≤ i → 0 < n → sizes (parF s n i fr) + (parF s n i fr).length = s.size + 1 - fr
  | 0, _, _, _, _, h => by omega
  | n + 1, i, fr, h1, h2, _ => by
    rw [parF]
    by_cases hn : n = 0
    · subst hn
      have : i = s.size := by omega
      subst this
      simp only [beq_self_eq_true, Bool.true_or, if_true, parF]
      simp [sizes, ext_size]
      omega
    · split
      · have := parF_sizes s n (i + 1) (i + 1) (by omega) (Nat.le_refl _) (by omega)
        simp only [sizes, List.map_cons, List.sum_cons, List.length_cons, ext_size] at this ⊢
        omega
      · exact parF_sizes s n (i + 1) fr (by omega) (by omega) (by omega)
theorem parts_sizes (s : ByteArray) : sizes (parts s) + (parts s).length = s.size + 1 := parF_sizes s (s.size + 1) 0 0 (by omega) (Nat.le_refl _) (by omega)
theorem parF_pos (s : ByteArray) : ∀ (n i fr : Nat), i + n = s.size + 1 → 0 < n → 0 < (parF s n i fr).length
  | 0, _, _, _, h => by omega
  | n + 1, i, fr, h1, _ => by
    rw [parF]
    split
    · simp
    · rename_i hc
      by_cases hn : n = 0
      · subst hn
        have : i = s.size := by omega
        subst this
        simp at hc
      · exact parF_pos s n (i + 1) fr (by omega) (by omega)
theorem parts_pos (s : ByteArray) : 0 < (parts s).length := parF_pos s (s.size + 1) 0 0 (by omega) (by omega)
def idB (s : ByteArray) : Bool := decide (s.size ≤ 64) && decide ((parts s).length ≤ 8) && (parts s).all nameB
theorem names_id (s : ByteArray) : (decide ((s.size : Int) ≤ 64) && namesB (parts s)) = idB s := by
  have h1 := parts_sizes s
  have h2 := parts_pos s
  unfold idB namesB
  rw [Bool.eq_iff_iff]
  simp only [Bool.and_eq_true, decide_eq_true_eq]
  constructor
  · rintro ⟨h3, ⟨⟨h4, h5⟩, h6⟩, h7⟩
    exact ⟨⟨by omega, by omega⟩, h4⟩
  · rintro ⟨⟨h3, h6⟩, h4⟩
    exact ⟨by omega, ⟨⟨h4, by omega⟩, by omega⟩, by omega⟩
theorem isid_ok (s : ByteArray) : Pure Tryz.prog 31 [.v (.string s)] (.v (.bool (idB s))) := by
  rw [← names_id]
  have h1 := parts_sizes s
  by_cases hs : s.size ≤ 64
  · refine fn_pure Tryz.F31 (Nat.le_of_ble_eq_true rfl) ?_; unfold Tryz.ac31
    repeat' (first
 | (apply Awp.sreg; (case hn => (simp only [List.length_cons, List.length_nil, Nat.reduceAdd] <;> rfl)))
 | (refine st_nil ?_)
 | (apply st_a; (case hc => rfl); (case he => (simp only [go_sem, *] <;> rfl)); (case hu => (simp only [updL_nil, updL_cons] <;> rfl)); (case hp => first | trivial))
 | (apply st_m; (case hc => rfl); (case hg => (simp only [go_sem, *] <;> rfl)); (case he => (intro hQz; (try simp only [wantB_t, wantB_f, Bool.and_eq_true, Bool.not_eq_true', Bool.not_true, Bool.not_false, and_true, true_and] at hQz); simp only [go_sem, *] <;> rfl)); (case hp => (intro hQz; (try simp only [wantB_t, wantB_f, Bool.and_eq_true, Bool.not_eq_true', Bool.or_eq_false_iff, decide_eq_true_eq, decide_eq_false_iff_not, beq_iff_eq, beq_eq_false_iff_ne, bne_iff_ne, bne_eq_false_iff_eq, Int.not_lt, Int.not_le, Int.ofNat_lt, Int.ofNat_le] at hQz); first | trivial)))
 | (apply st_mc; (case hop => rfl); (case hg => (simp only [go_sem, *] <;> rfl)); (case hc => (intro hQz; (try simp only [wantB_t, wantB_f, Bool.and_eq_true, Bool.not_eq_true', Bool.not_true, Bool.not_false, and_true, true_and] at hQz); simp only [go_sem, *] <;> rfl)); (case hl => (intro hQz; (try simp only [wantB_t, wantB_f, Bool.and_eq_true, Bool.not_eq_true', Bool.not_true, Bool.not_false, and_true, true_and] at hQz); simp only [go_sem, *] <;> rfl)); (case hn => (intro hQz; (try simp only [wantB_t, wantB_f, Bool.and_eq_true, Bool.not_eq_true', Bool.not_true, Bool.not_false, and_true, true_and] at hQz); simp only [go_sem, *] <;> rfl)); (case hp => intro hQz; first | exact split_ok s (by omega) | (have hXz := split_ok s (by omega); simp only [go_sem, *] at hXz; exact hXz)))
 | (apply st_mc; (case hop => rfl); (case hg => (simp only [go_sem, *] <;> rfl)); (case hc => (intro hQz; (try simp only [wantB_t, wantB_f, Bool.and_eq_true, Bool.not_eq_true', Bool.not_true, Bool.not_false, and_true, true_and] at hQz); simp only [go_sem, *] <;> rfl)); (case hl => (intro hQz; (try simp only [wantB_t, wantB_f, Bool.and_eq_true, Bool.not_eq_true', Bool.not_true, Bool.not_false, and_true, true_and] at hQz); simp only [go_sem, *] <;> rfl)); (case hn => (intro hQz; (try simp only [wantB_t, wantB_f, Bool.and_eq_true, Bool.not_eq_true', Bool.not_true, Bool.not_false, and_true, true_and] at hQz); simp only [go_sem, *] <;> rfl)); (case hp => intro hQz; first | exact names_ok (parts s) (by omega) (by omega) | (have hXz := names_ok (parts s) (by omega) (by omega); simp only [go_sem, *] at hXz; exact hXz)))
 | (refine Awp.ret ?_; try simp only [go_sem, *]))
    all_goals repeat' (first | exact Lower.bool (by first | rfl | (simp only [true_and, Bool.true_and, Bool.false_and, Bool.and_true, Bool.and_false, Bool.true_or, Bool.false_or, reduceIte, Bool.false_eq_true, *]; done) | (simp only [true_and, reduceIte, Bool.false_eq_true, *] <;> rfl) | (simp [true_and]; done) | (simp_all [true_and]; done) | omega))
  · have hs' : ¬ (s.size : Int) ≤ 64 := by omega
    refine fn_pure Tryz.F31 (Nat.le_of_ble_eq_true rfl) ?_; unfold Tryz.ac31
    repeat' (first
 | (apply Awp.sreg; (case hn => (simp only [List.length_cons, List.length_nil, Nat.reduceAdd] <;> rfl)))
 | (refine st_nil ?_)
 | (apply st_a; (case hc => rfl); (case he => (simp only [go_sem, *] <;> rfl)); (case hu => (simp only [updL_nil, updL_cons] <;> rfl)); (case hp => first | trivial))
 | (apply st_m; (case hc => rfl); (case hg => (simp only [go_sem, *] <;> rfl)); (case he => (intro hQz; (try simp only [wantB_t, wantB_f, Bool.and_eq_true, Bool.not_eq_true', Bool.not_true, Bool.not_false, and_true, true_and] at hQz); simp only [go_sem, *] <;> rfl)); (case hp => (intro hQz; (try simp only [wantB_t, wantB_f, Bool.and_eq_true, Bool.not_eq_true', Bool.or_eq_false_iff, decide_eq_true_eq, decide_eq_false_iff_not, beq_iff_eq, beq_eq_false_iff_ne, bne_iff_ne, bne_eq_false_iff_eq, Int.not_lt, Int.not_le, Int.ofNat_lt, Int.ofNat_le] at hQz); first | trivial)))
 | (apply st_g; (case hv => (simp only [go_sem, *] <;> rfl)); all_goals (intro hg; (try simp only [Bool.not_true, Bool.not_false, reduceCtorEq] at hg); (try have hg' := hg); (try simp only [decide_eq_true_eq, decide_eq_false_iff_not, Bool.and_eq_true, Bool.or_eq_false_iff, bne_iff_ne, bne_eq_false_iff_eq, beq_iff_eq, beq_eq_false_iff_ne, Int.not_lt, Int.not_le, Int.ofNat_lt, Int.ofNat_le, Int.natCast_inj] at hg')))
 | (refine Awp.ret ?_; try simp only [go_sem, *]))
    all_goals repeat' (first | exact Lower.bool (by first | rfl | (simp only [true_and, Bool.true_and, Bool.false_and, Bool.and_true, Bool.and_false, Bool.true_or, Bool.false_or, reduceIte, Bool.false_eq_true, *]; done) | (simp only [true_and, reduceIte, Bool.false_eq_true, *] <;> rfl) | (simp [true_and]; done) | (simp_all [true_and]; done) | omega))
theorem risid_ok (s : ByteArray) (hs : s.size < 1000000) : Pure Tryz.prog 38 [.v (.string s)] (.v (.bool (idB s))) := by
  have h1 := parts_sizes s
  refine fn_pure Tryz.F38 (Nat.le_of_ble_eq_true rfl) ?_; unfold Tryz.ac38
  repeat' (first
 | (apply Awp.sreg; (case hn => (simp only [List.length_cons, List.length_nil, Nat.reduceAdd] <;> rfl)))
 | (refine st_nil ?_)
 | (apply st_a; (case hc => rfl); (case he => (simp only [go_sem, *] <;> rfl)); (case hu => (simp only [updL_nil, updL_cons] <;> rfl)); (case hp => first | trivial))
 | (apply st_m; (case hc => rfl); (case hg => (simp only [go_sem, *] <;> rfl)); (case he => (intro hQz; (try simp only [wantB_t, wantB_f, Bool.and_eq_true, Bool.not_eq_true', Bool.not_true, Bool.not_false, and_true, true_and] at hQz); simp only [go_sem, *] <;> rfl)); (case hp => (intro hQz; (try simp only [wantB_t, wantB_f, Bool.and_eq_true, Bool.not_eq_true', Bool.or_eq_false_iff, decide_eq_true_eq, decide_eq_false_iff_not, beq_iff_eq, beq_eq_false_iff_ne, bne_iff_ne, bne_eq_false_iff_eq, Int.not_lt, Int.not_le, Int.ofNat_lt, Int.ofNat_le] at hQz); first | trivial)))
 | (apply st_co; (case hc => (simp only [go_sem, *] <;> rfl)); (case hl => (simp only [go_sem, *] <;> rfl)); (case hn => (simp only [go_sem, *] <;> rfl)); (case hp => first | exact parts_ok s hs | (have hXz := parts_ok s hs; simp only [go_sem, *] at hXz; exact hXz)))
 | (refine Awp.ret ?_; try simp only [go_sem, *])
 | (refine Awp.skip ?_; try simp only [go_sem, *])
 | refine Awp.block ?_
 | (apply Awp.cond; (case hc => (simp only [go_sem, *] <;> rfl)); all_goals (intro hg; (try simp only [Bool.not_true, Bool.not_false, reduceCtorEq] at hg); (try have hg' := hg); (try simp only [decide_eq_true_eq, decide_eq_false_iff_not, Bool.and_eq_true, Bool.or_eq_false_iff, bne_iff_ne, bne_eq_false_iff_eq, beq_iff_eq, beq_eq_false_iff_ne, Int.not_lt, Int.not_le, Int.ofNat_lt, Int.ofNat_le, Int.natCast_inj] at hg')))
 | refine Awp.seq ?_)
  · refine Lower.bool ?_
    simp only [Bool.or_eq_true, decide_eq_true_eq] at hg
    unfold idB
    symm
    rw [Bool.eq_false_iff]
    simp only [ne_eq, Bool.and_eq_true, decide_eq_true_eq]
    omega
  · have h0 := hg'
    refine Awp.loop (fun i : Nat => i ≤ (parts s).length ∧ ∀ j, j < i → nameB ((parts s).getD j ⟨#[]⟩) = true) 3 (fun i => mkS [(3, .own 2), (4, .v (.int .i64 i))] [(2, .row (strs (parts s)) 1 9)]) (fun i => (parts s).length - i) 0 (by simp) ?_ ?_
    · (apply Ghost.mk [] []; (case hdead => rfl); (case hinj => rfl); (case hV => (simp only [go_sem, *]) <;> (repeat' (first | refine And.intro ?_ ?_ | exact View.int (by first | rfl | omega | (simp; done) | (rw [wrap_i64] <;> (try simp only [Int.natCast_add]) <;> omega) | (simp [*]; done)) | exact .own rfl (by decide)))); (case hB => (simp only [go_sem, *]) <;> (repeat' (first | exact ⟨_, rfl, .rowE (by first | rfl | omega | (simp; done) | (rw [wrap_i64] <;> (try simp only [Int.natCast_add]) <;> omega) | (simp [*]; done))⟩))))
    · intro i ⟨hi, hj⟩
      by_cases hlt : i < (parts s).length
      · have hlt' : (i : Int) < (parts s).length := by omega
        repeat' (first
 | (apply Awp.sreg; (case hn => (simp only [List.length_cons, List.length_nil, Nat.reduceAdd] <;> rfl)))
 | (refine st_nil ?_)
 | (apply st_a; (case hc => rfl); (case he => (simp only [go_sem, *] <;> rfl)); (case hu => (simp only [updL_nil, updL_cons] <;> rfl)); (case hp => first | trivial | omega))
 | (apply st_c; (case hc => (simp only [go_sem, *] <;> rfl)); (case hl => (simp only [go_sem, *] <;> rfl)); (case hn => (simp only [go_sem, *] <;> rfl)); (case hp => first | exact rname_ok _ | (have hXz := rname_ok _; simp only [go_sem, *] at hXz; exact hXz)))
 | (apply Awp.reg; (case hn => (simp only [List.length_cons, List.length_nil, Nat.reduceAdd] <;> rfl)))
 | (refine Awp.ret ?_; try simp only [go_sem, *])
 | (refine Awp.skip ?_; try simp only [go_sem, *])
 | refine Awp.block ?_
 | (apply Awp.cond; (case hc => (simp only [go_sem, *] <;> rfl)); all_goals (intro hg; (try simp only [Bool.not_true, Bool.not_false, reduceCtorEq] at hg); (try have hg' := hg); (try simp only [decide_eq_true_eq, decide_eq_false_iff_not, Bool.and_eq_true, Bool.or_eq_false_iff, bne_iff_ne, bne_eq_false_iff_eq, beq_iff_eq, beq_eq_false_iff_ne, Int.not_lt, Int.not_le, Int.ofNat_lt, Int.ofNat_le, Int.natCast_inj] at hg')))
 | refine Awp.seq ?_)
        · exact Lower.bool (by rw [idB, all_bad hlt (by simpa using hg')]; simp)
        · refine ⟨i + 1, ⟨by omega, ltSucc hj (by simpa using hg')⟩, by omega, ?_⟩
          (apply Ghost.mk [] []; (case hdead => rfl); (case hinj => rfl); (case hV => (simp only [go_sem, *]) <;> (repeat' (first | refine And.intro ?_ ?_ | exact View.int (by first | rfl | omega | (simp; done) | (rw [wrap_i64] <;> (try simp only [Int.natCast_add]) <;> omega) | (simp [*]; done)) | exact .own rfl (by decide)))); (case hB => (simp only [go_sem, *]) <;> (repeat' (first | exact ⟨_, rfl, .rowE (by first | rfl | omega | (simp; done) | (rw [wrap_i64] <;> (try simp only [Int.natCast_add]) <;> omega) | (simp [*]; done))⟩))))
      · have hlt' : ¬ (i : Int) < (parts s).length := by omega
        repeat' (first
 | (apply Awp.sreg; (case hn => (simp only [List.length_cons, List.length_nil, Nat.reduceAdd] <;> rfl)))
 | (refine st_nil ?_)
 | (apply st_a; (case hc => rfl); (case he => (simp only [go_sem, *] <;> rfl)); (case hu => (simp only [updL_nil, updL_cons] <;> rfl)); (case hp => first | trivial))
 | (refine Awp.ret ?_; try simp only [go_sem, *])
 | (refine Awp.exit ?_; try simp only [go_sem, *])
 | (apply Awp.cond; (case hc => (simp only [go_sem, *] <;> rfl)); all_goals (intro hg; (try simp only [Bool.not_true, Bool.not_false, reduceCtorEq] at hg); (try have hg' := hg); (try simp only [decide_eq_true_eq, decide_eq_false_iff_not, Bool.and_eq_true, Bool.or_eq_false_iff, bne_iff_ne, bne_eq_false_iff_eq, beq_iff_eq, beq_eq_false_iff_ne, Int.not_lt, Int.not_le, Int.ofNat_lt, Int.ofNat_le, Int.natCast_inj] at hg')))
 | refine Awp.seq ?_)
        all_goals refine Lower.bool ?_
        all_goals rw [idB, all_end hj (by omega)]
        all_goals simp
        all_goals omega
end Go.Proofs
end
section
set_option linter.unusedVariables false
set_option linter.unusedSimpArgs false
namespace Go.Proofs
open Go Go.Ab Go.RowKit
set_option maxHeartbeats 1000000
set_option maxRecDepth 100000
def sortI (l : List Int) : List Int := l.mergeSort fun x y => decide (x ≤ y)
theorem sortI_len (l : List Int) : (sortI l).length = l.length := List.length_mergeSort _
theorem fits_ints {st : Nat → Prop} {w : World} {l : List Int} {e : TypeId} {c : Value} {xs : List Value} (h : RowFits st w (ints l) 1 e c xs) : xs = l.map (Value.int .i64) := by
  have hlen : xs.length = l.length := by rw [h.row.len, ints_len]; omega
  apply List.ext_getElem (by simpa using hlen)
  intro i h1 h2
  have hi : i < (ints l).length := by rw [ints_len]; omega
  have h3 := h.cell i 0 hi (by omega)
  rw [ints_at l i (by omega)] at h3
  simp only [av_zero, Nat.mul_one, Nat.add_zero, cv, List.getD_eq_getElem?_getD, List.getElem?_eq_getElem h1, Option.getD_some] at h3
  generalize xs[i] = q at h3 ⊢
  cases h3
  have : i < l.length := by omega
  simp [this]
theorem ints_fits {st : Nat → Prop} {w : World} {l : List Int} {e : TypeId} {c : Value} (h : RowRep w e 1 c l.length (l.map (Value.int .i64))) : RowFits st w (ints l) 1 e c (l.map (Value.int .i64)) := by
  refine ⟨by simp [ints], by omega, by rw [ints_len]; exact h, by simp [Value.oneCell'], fun i j hi hj => ?_⟩
  rw [ints_len] at hi
  obtain rfl : j = 0 := by omega
  rw [ints_at l i hi]
  have e1 : cv (l.map (Value.int .i64)) (i * 1 + 0) = .int .i64 (l.getD i 0) := by
    simp [cv, List.getD_eq_getElem?_getD, hi]
  rw [e1]
  exact .v _
theorem sort_cc (l : List Int) (b nm : Nat) (e : TypeId) (hl : l.length < 1000000) : CallC Tryz.prog 70 [.own b] [(b, .row (ints l) 1 e)] nm (.tup []) [(b, some (.row (ints (sortI l)) 1 e))] := by
  refine ⟨⟨_, Tryz.func70, by kernel_rfl, by kernel_rfl⟩, fun prov β w cs hn hb hi hv => ?_⟩
  have hlk : ∀ n, updL (listH [(b, Blk.row (ints l) 1 e)]) [(b, some (Blk.row (ints (sortI l)) 1 e))] n = if n = b then some (.row (ints (sortI l)) 1 e) else none := by
    intro n; simp only [updL, upd, listH]; split <;> simp
  have hB := hb b (.row (ints l) 1 e) (by simp [listH])
  obtain ⟨xs, hf⟩ := hB
  obtain rfl := fits_ints hf
  obtain ⟨hlen, hv⟩ := hv
  match cs, hlen with
  | [c], _ =>
  have h1 := hv 0 (by simp)
  simp only [av_zero, cv, List.getD_cons_zero] at h1
  obtain ⟨rfl, _⟩ := h1.own_inv
  have tail : ∀ w', Value.tuple #[] = Value.tuple #[] → w.grownBy w' (blkOf (β b)) → RowRep w' e 1 (β b) (sortI l).length ((sortI l).map (Value.int .i64)) →
      ∃ c β', Ending.returned (Value.tuple #[]) = .returned c ∧ w'.os = w.os ∧ w'.tape = w.tape ∧ w'.output = w.output ∧ w.heap.size ≤ w'.heap.size ∧ Grows β β' ∧ (∀ n, n ≠ nm → β' n = β n) ∧
      (∀ g, g < w.heap.size → (∀ n b', listH [(b, Blk.row (ints l) 1 e)] n = some b' → n ∈ [(b, some (Blk.row (ints (sortI l)) 1 e))].map (·.1) → blkOf (β n) ≠ some g) → w'.heap[g]? = w.heap[g]?) ∧
      SimV (stb (fun g => prov g ∨ w.heap.size ≤ g) w' β' (updL (listH [(b, Blk.row (ints l) 1 e)]) [(b, some (Blk.row (ints (sortI l)) 1 e))])) β' w' (.tup []) c ∧
      (∀ n b', updL (listH [(b, Blk.row (ints l) 1 e)]) [(b, some (Blk.row (ints (sortI l)) 1 e))] n = some b' → n ∈ [(b, some (Blk.row (ints (sortI l)) 1 e))].map (·.1) → BlkRep (stb (fun g => prov g ∨ w.heap.size ≤ g) w' β' (updL (listH [(b, Blk.row (ints l) 1 e)]) [(b, some (Blk.row (ints (sortI l)) 1 e))])) β' w' b' (β' n) ∧
        ∀ g, blkOf (β' n) = some g → w.heap.size ≤ g ∨ ∃ m b', listH [(b, Blk.row (ints l) 1 e)] m = some b' ∧ m ∈ [(b, some (Blk.row (ints (sortI l)) 1 e))].map (·.1) ∧ blkOf (β m) = some g) ∧
      Inj β' (updL (listH [(b, Blk.row (ints l) 1 e)]) [(b, some (Blk.row (ints (sortI l)) 1 e))]) := by
    intro w' _ hg hr
    refine ⟨_, β, rfl, hg.os, hg.tape, hg.output, hg.size, Grows.refl _, fun _ _ => rfl, fun g hgl hno => ?_, .pure (.tup [] [] rfl (fun j hj => by simp at hj)), fun n b' hb' _ => ?_, ?_⟩
    · exact hg.block g hgl (fun e' => hno b (.row (ints l) 1 e) (by simp [listH]) (by simp) e'.symm)
    · rw [hlk] at hb'
      split at hb'
      · rename_i hnb; subst hnb
        simp at hb'; subst hb'
        exact ⟨⟨_, ints_fits hr⟩, fun g hgb => .inr ⟨n, .row (ints l) 1 e, by simp [listH], by simp, hgb⟩⟩
      · cases hb'
    · intro n m b1 b2 g h1 h2 _ _
      rw [hlk] at h1 h2
      split at h1
      · split at h2
        · simp_all
        · cases h2
      · cases h1
  rcases hf.row with ⟨a, hc, h0, hx⟩ | ⟨g, cap, hc, h0, hrow⟩
  · have hnil : l = [] := by rw [ints_len] at h0; exact List.eq_nil_of_length_eq_zero h0
    subst hnil
    rw [hc]
    refine (Tryz.slices_Sort_int_none a 0 w).mono fun e' w' ⟨he, hw⟩ => ?_
    subst he; subst hw
    have := tail w' rfl ⟨rfl, rfl, rfl, Nat.le_refl _, fun _ _ _ => rfl⟩ (.inl ⟨a, hc, by simp [sortI], by simp [sortI]⟩)
    exact this
  · rcases hrow.2 with ⟨h', _⟩ | ⟨g', cap', cur, h', _, hg, hn1, hn2, hn3, hn4⟩
    · rw [hc] at h'; cases h'
    · rw [hc] at h'
      simp only [Value.slice.injEq, Option.some.injEq, Addr.mk.injEq, and_true, true_and] at h'
      obtain ⟨rfl, rfl⟩ := h'
      rw [ints_len] at hn1 hn4 hc
      rw [Nat.mul_one] at hn4
      rw [hc]
      have hlt : g < w.heap.size := (Array.getElem?_eq_some_iff.1 hg).1
      refine (Tryz.slices_Sort_int g 0 cap l w (holds_of_blockI hg hn4) hlt (by omega)).mono fun e' w' ⟨he, n, os, hw⟩ => ?_
      subst he; subst hw
      refine tail _ rfl ?_ ?_
      · have : blkOf (β b) = some g := by rw [hc]; simp [blkOf]; omega
        rw [this]
        exact grownBy_sortedI _
      · refine .inr ⟨g, cap, by rw [hc, sortI_len], h0, ?_⟩
        have := ownsRow_sortedI (w := w) (base := 0) (g := g) (cap := cap) (n := n) (e := e) (os := os) (cur := cur) (ss := l) (ts := sortI l) (sortI_len l) (Nat.zero_le _) hg hn1 hn2 hn3
        rw [hc, sortI_len]
        exact this
end Go.Proofs
end
section
set_option linter.unusedVariables false
set_option linter.unusedSimpArgs false
namespace Go.Proofs
open Go Go.Ab Go.RowKit
set_option maxHeartbeats 1000000
theorem compact_len (l : List Int) : (Lib.compact l).length ≤ l.length := by
  unfold Lib.compact Lib.compactUpTo
  rw [List.length_map]
  exact Nat.le_trans (List.length_filter_le _ _) (by simp)
theorem compact_cc (l : List Int) (b nm : Nat) (e : TypeId) (hnb : nm ≠ b) (hl : l.length < 1000000) : CallC Tryz.prog 71 [.own b] [(b, .row (ints l) 1 e)] nm (.own nm) [(b, none), (nm, some (.row (ints (Lib.compact l)) 1 e))] := by
  refine ⟨⟨_, Tryz.func71, by kernel_rfl, by kernel_rfl⟩, fun prov β w cs hn hb hi hv => ?_⟩
  have hlk : ∀ n, updL (listH [(b, Blk.row (ints l) 1 e)]) [(b, none), (nm, some (Blk.row (ints (Lib.compact l)) 1 e))] n = if n = nm then some (.row (ints (Lib.compact l)) 1 e) else none := by
    intro n; simp only [updL, upd, listH]; split
    · rfl
    · split <;> rfl
  have hB := hb b (.row (ints l) 1 e) (by simp [listH])
  obtain ⟨xs, hf⟩ := hB
  obtain rfl := fits_ints hf
  obtain ⟨hlen, hv⟩ := hv
  match cs, hlen with
  | [c], _ =>
  have h1 := hv 0 (by simp)
  simp only [av_zero, cv, List.getD_cons_zero] at h1
  obtain ⟨rfl, _⟩ := h1.own_inv
  have hgr : ∀ c', Grows β (upd β nm c') := fun c' k hk => by
    unfold upd; split
    · rename_i h; subst h; exact absurd hn hk
    · rfl
  have tail : ∀ w' c', (∃ a n cap, c' = .slice a n cap) → w.grownBy w' (blkOf (β b)) → RowRep w' e 1 c' (Lib.compact l).length ((Lib.compact l).map (Value.int .i64)) → (∀ g, blkOf c' = some g → blkOf (β b) = some g) →
      ∃ c β', Ending.returned c' = .returned c ∧ w'.os = w.os ∧ w'.tape = w.tape ∧ w'.output = w.output ∧ w.heap.size ≤ w'.heap.size ∧ Grows β β' ∧ (∀ n, n ≠ nm → β' n = β n) ∧
      (∀ g, g < w.heap.size → (∀ n b', listH [(b, Blk.row (ints l) 1 e)] n = some b' → n ∈ [(b, none), (nm, some (Blk.row (ints (Lib.compact l)) 1 e))].map (·.1) → blkOf (β n) ≠ some g) → w'.heap[g]? = w.heap[g]?) ∧
      SimV (stb (fun g => prov g ∨ w.heap.size ≤ g) w' β' (updL (listH [(b, Blk.row (ints l) 1 e)]) [(b, none), (nm, some (Blk.row (ints (Lib.compact l)) 1 e))])) β' w' (.own nm) c ∧
      (∀ n b', updL (listH [(b, Blk.row (ints l) 1 e)]) [(b, none), (nm, some (Blk.row (ints (Lib.compact l)) 1 e))] n = some b' → n ∈ [(b, none), (nm, some (Blk.row (ints (Lib.compact l)) 1 e))].map (·.1) → BlkRep (stb (fun g => prov g ∨ w.heap.size ≤ g) w' β' (updL (listH [(b, Blk.row (ints l) 1 e)]) [(b, none), (nm, some (Blk.row (ints (Lib.compact l)) 1 e))])) β' w' b' (β' n) ∧
        ∀ g, blkOf (β' n) = some g → w.heap.size ≤ g ∨ ∃ m b', listH [(b, Blk.row (ints l) 1 e)] m = some b' ∧ m ∈ [(b, none), (nm, some (Blk.row (ints (Lib.compact l)) 1 e))].map (·.1) ∧ blkOf (β m) = some g) ∧
      Inj β' (updL (listH [(b, Blk.row (ints l) 1 e)]) [(b, none), (nm, some (Blk.row (ints (Lib.compact l)) 1 e))]) := by
    intro w' c' ⟨a, n0, cap, hc'⟩ hg hr hbk
    refine ⟨_, upd β nm c', rfl, hg.os, hg.tape, hg.output, hg.size, hgr c', fun n hne => by simp [upd, hne], fun g hgl hno => ?_, ?_, fun n b' hb' _ => ?_, ?_⟩
    · exact hg.block g hgl (fun e' => hno b (.row (ints l) 1 e) (by simp [listH]) (by simp) e'.symm)
    · subst hc'; exact .own nm (by simp [upd])
    · rw [hlk] at hb'
      split at hb'
      · rename_i hnn; subst hnn
        simp at hb'; subst hb'
        have hu : upd β n c' n = c' := by simp [upd]
        rw [hu]
        exact ⟨⟨_, ints_fits hr⟩, fun g hgb => .inr ⟨b, .row (ints l) 1 e, by simp [listH], by simp, hbk g hgb⟩⟩
      · cases hb'
    · intro n m b1 b2 g h1 h2 _ _
      rw [hlk] at h1 h2
      split at h1
      · split at h2
        · simp_all
        · cases h2
      · cases h1
  rcases hf.row with ⟨a, hc, h0, hx⟩ | ⟨g, cap, hc, h0, hrow⟩
  · have hnil : l = [] := by rw [ints_len] at h0; exact List.eq_nil_of_length_eq_zero h0
    subst hnil
    rw [hc]
    refine (Tryz.slices_Compact_int_empty a 0 w).mono fun e' w' ⟨he, hw⟩ => ?_
    subst he; subst hw
    exact tail w' _ ⟨_, _, _, rfl⟩ ⟨rfl, rfl, rfl, Nat.le_refl _, fun _ _ _ => rfl⟩ (.inl ⟨a, rfl, rfl, rfl⟩) (fun g hg => by rw [hc]; exact hg)
  · rcases hrow.2 with ⟨h', _⟩ | ⟨g', cap', cur, h', _, hg, hn1, hn2, hn3, hn4⟩
    · rw [hc] at h'; cases h'
    · rw [hc] at h'
      simp only [Value.slice.injEq, Option.some.injEq, Addr.mk.injEq, and_true, true_and] at h'
      obtain ⟨rfl, rfl⟩ := h'
      rw [ints_len] at hn1 hn4 hc
      rw [Nat.mul_one] at hn4
      rw [hc]
      have hcl : (Lib.compact l).length ≤ l.length := compact_len l
      refine (Tryz.slices_Compact_int g 0 cap l w (holds_of_blockI hg hn4) (by omega) hn1).mono fun e' w' ⟨he, q, hw⟩ => ?_
      subst he
      have hw2 : w' = Sort.grow (Sort.putRow (Value.int .i64) (Sort.ahead w q) g 0 (Lib.compact l ++ List.replicate (l.length - (Lib.compact l).length) 0).toArray) #[] := by rw [hw, Sort.grow_empty]
      subst hw2
      have hbk : blkOf (β b) = some g := by rw [hc]; simp [blkOf]; omega
      refine tail _ _ ⟨_, _, _, rfl⟩ (by rw [hbk]; exact grownBy_sortedI _) (.inr ⟨g, cap, rfl, h0, by simp, .inr ⟨g, cap, _, rfl, Nat.zero_le _, heap_sortedI _ hg, by omega, hn2, by simp [Sort.putCells, hn3], ?_⟩⟩) (fun g' hg' => ?_)
      · rw [Nat.mul_one]
        have ht := take_putCellsI cur (Lib.compact l ++ List.replicate (l.length - (Lib.compact l).length) 0) (by simp; omega)
        have ht2 := congrArg (List.take (Lib.compact l).length) ht
        rw [List.take_take, Nat.min_eq_left (by simp)] at ht2
        rw [ht2, List.map_append]
        exact List.take_left' (by simp)
      · rw [hbk]
        simp only [blkOf] at hg'
        split at hg'
        · cases hg'
        · exact hg'
end Go.Proofs
end
section
set_option linter.unusedVariables false
set_option linter.unusedSimpArgs false
namespace Go.Ab

def bitsOf (acc : List Nat) : List Nat → Nat
  | [] => 0
  | j :: r => 2 ^ j ||| acc.getD j 0 ||| bitsOf acc r
def masks : List (List Nat) → List Nat → List Nat
  | [], acc => acc
  | d :: r, acc => masks r (acc ++ [bitsOf acc d])
def chk (e : Ent) (m : Nat) : List Ent → Nat → Bool
  | [], _ => true
  | x :: r, j => (m.testBit j || freeE x e) && chk e m r (j + 1)
def chkAll : List Ent → List Ent → List Nat → Bool
  | _, [], _ => true
  | pre, e :: r, m :: ms => chk e m pre 0 && chkAll (pre ++ [e]) r ms
  | _, _ :: _, [] => false
def drawOk' (deps : List (List Nat)) (es : List Ent) : Bool := depsLow deps 0 && chkAll [] es (masks deps [])

theorem bitsOf_spec {acc : List Nat} {accL : List (List Nat)} (h : ∀ i j, (acc.getD i 0).testBit j = true → j ∈ accL.getD i []) : ∀ (d : List Nat) (j : Nat), (bitsOf acc d).testBit j = true → j ∈ d ++ d.flatMap fun k => accL.getD k []
  | [], j, hj => by simp [bitsOf] at hj
  | k :: r, j, hj => by
    simp only [bitsOf, Nat.testBit_or, Bool.or_eq_true] at hj
    simp only [List.mem_append, List.mem_cons, List.flatMap_cons]
    rcases hj with (hj | hj) | hj
    · rw [Nat.testBit_two_pow] at hj
      exact .inl (.inl (by simpa using (of_decide_eq_true hj).symm))
    · exact .inr (.inl (h k j hj))
    · rcases List.mem_append.1 (bitsOf_spec h r j hj) with h1 | h1
      · exact .inl (.inr h1)
      · exact .inr (.inr h1)

theorem masks_spec : ∀ (deps : List (List Nat)) (acc : List Nat) (accL : List (List Nat)), acc.length = accL.length → (∀ i j, (acc.getD i 0).testBit j = true → j ∈ accL.getD i []) →
    ∀ i j, ((masks deps acc).getD i 0).testBit j = true → j ∈ (befs deps accL).getD i []
  | [], _, _, _, h => h
  | d :: r, acc, accL, hl, h => by
    refine masks_spec r _ _ (by simp [hl]) fun i j hj => ?_
    simp only [List.getD_eq_getElem?_getD] at hj ⊢
    by_cases hi : i < acc.length
    · rw [List.getElem?_append_left hi] at hj
      rw [List.getElem?_append_left (by omega)]
      have := h i j (by simpa [List.getD_eq_getElem?_getD] using hj)
      simpa [List.getD_eq_getElem?_getD] using this
    · by_cases e : i = acc.length
      · subst e
        simp only [List.getElem?_append_right (Nat.le_refl _), Nat.sub_self, List.getElem?_cons_zero, Option.getD_some] at hj
        rw [hl, List.getElem?_append_right (Nat.le_refl _)]
        simp only [Nat.sub_self, List.getElem?_cons_zero, Option.getD_some]
        have := bitsOf_spec h d j hj
        simpa [List.getD_eq_getElem?_getD] using this
      · rw [List.getElem?_eq_none (by simp; omega)] at hj
        simp at hj

theorem chk_spec {e : Ent} {m : Nat} : ∀ (pre : List Ent) (o : Nat), chk e m pre o = true → ∀ j, j < pre.length → (m.testBit (o + j) || freeE (pre.getD j default) e) = true
  | x :: r, o, h, j, hj => by
    simp only [chk, Bool.and_eq_true] at h
    match j with
    | 0 => exact h.1
    | j + 1 =>
      have := chk_spec r (o + 1) h.2 j (by simpa using hj)
      rwa [show o + 1 + j = o + (j + 1) by omega] at this

theorem chkAll_spec : ∀ (es pre : List Ent) (ms : List Nat), chkAll pre es ms = true → ∀ i, i < es.length → ∀ j, j < pre.length + i →
    ((ms.getD i 0).testBit j || freeE ((pre ++ es).getD j default) (es.getD i default)) = true
  | e :: r, pre, m :: ms, h, i, hi, j, hj => by
    simp only [chkAll, Bool.and_eq_true] at h
    match i with
    | 0 =>
      have := chk_spec pre 0 h.1 j (by omega)
      rw [Nat.zero_add] at this
      have e1 : (pre ++ e :: r).getD j default = pre.getD j default := by
        simp only [List.getD_eq_getElem?_getD]; rw [List.getElem?_append_left (by omega)]
      rw [e1]
      exact this
    | i + 1 =>
      have := chkAll_spec r (pre ++ [e]) ms h.2 i (by simpa using hi) j (by simp; omega)
      rw [List.append_assoc] at this
      exact this
  | _ :: _, _, [], h, _, _, _, _ => by simp [chkAll] at h

theorem drawOk_of {deps : List (List Nat)} {es : List Ent} (h : drawOk' deps es = true) : drawOk deps es = true := by
  simp only [drawOk', Bool.and_eq_true] at h
  simp only [drawOk, Bool.and_eq_true, List.all_eq_true, List.mem_range]
  refine ⟨h.1, fun i hi j hj => ?_⟩
  have h1 := chkAll_spec es [] _ h.2 i hi j (by simpa using hj)
  rw [List.nil_append] at h1
  rcases Bool.or_eq_true_iff.1 h1 with h2 | h2
  · have := masks_spec deps [] [] rfl (fun i j h => by simp at h) i j h2
    rw [Bool.or_eq_true]
    exact .inl (by simpa using this)
  · rw [Bool.or_eq_true]; exact .inr h2
end Go.Ab
end
section
set_option linter.unusedVariables false
set_option linter.unusedSimpArgs false
namespace Go.Ab

inductive CView (ns : List Nat) (ρ : Nat → Nat) : AV → AV → Prop
  | low {x y} (h : Lower (fun _ => none) x y) : CView ns ρ x y
  | agg {cs cs'} (hl : cs.length = cs'.length) (hr : ∀ j, j < cs.length → CView ns ρ (av cs j) (av cs' j)) : CView ns ρ (.agg cs) (.agg cs')
  | tup {cs cs'} (hl : cs.length = cs'.length) (hr : ∀ j, j < cs.length → CView ns ρ (av cs j) (av cs' j)) : CView ns ρ (.tup cs) (.tup cs')
  | fn {f cs cs'} (hl : cs.length = cs'.length) (hr : ∀ j, j < cs.length → CView ns ρ (av cs j) (av cs' j)) : CView ns ρ (.fn f cs) (.fn f cs')
  | own {b n} (hb : ρ n = b) (hn : n ∈ ns) : CView ns ρ (.own b) (.own n)
  | pre {b n k} (hb : ρ n = b) (hn : n ∈ ns) : CView ns ρ (.pre b k) (.pre n k)
  | bp {b n o} (hb : ρ n = b) (hn : n ∈ ns) : CView ns ρ (.bp b o) (.bp n o)
  | ep {b n sz i o} (hb : ρ n = b) (hn : n ∈ ns) : CView ns ρ (.ep b sz i o) (.ep n sz i o)
  | mapv {b n} (hb : ρ n = b) (hn : n ∈ ns) : CView ns ρ (.mapv b) (.mapv n)

inductive CBView (ns : List Nat) (ρ : Nat → Nat) : Blk → Blk → Prop
  | box {cs cs'} (hl : cs.length = cs'.length) (hr : ∀ j, j < cs.length → CView ns ρ (av cs j) (av cs' j)) : CBView ns ρ (.box cs) (.box cs')
  | row {es es' sz e} (h : es = es') : CBView ns ρ (.row es sz e) (.row es' sz e)
  | iter (s pos) : CBView ns ρ (.iter s pos) (.iter s pos)
  | map {ks vs ks' vs'} (h : ks = ks') (h' : vs = vs') : CBView ns ρ (.map ks vs) (.map ks' vs')

theorem CView.sound {st st' : Nat → Prop} {β β' : Nat → Value} {w : World} {ns : List Nat} {ρ : Nat → Nat} (hst : ∀ g, st g → st' g) (hn : ∀ n, n ∈ ns → β' n = β (ρ n)) {x y : AV}
    (p : CView ns ρ x y) : ∀ {c}, SimV st β w x c → SimV st' β' w y c := by
  induction p with
  | low h => exact fun s => .pure (h.sound (β := β) (st := st) (fun n b hb => by simp at hb) hst (fun n b g hb => by simp at hb) s)
  | agg hlen hr ih =>
    intro c s
    obtain ⟨xs, rfl, h1, h2, h3⟩ := s.agg_inv
    exact .agg _ xs (by omega) h2 fun j hj => ih j (by omega) (h3 j (by omega))
  | tup hlen hr ih =>
    intro c s
    obtain ⟨xs, rfl, h1, h3⟩ := s.tup_inv
    exact .tup _ xs (by omega) fun j hj => ih j (by omega) (h3 j (by omega))
  | fn hlen hr ih =>
    intro c s
    obtain ⟨xs, rfl, h1, h3⟩ := s.fn_inv
    exact .fn _ _ xs (by omega) fun j hj => ih j (by omega) (h3 j (by omega))
  | @own b n hbn hm =>
    intro c s
    obtain ⟨h1, a, m, cap, rfl⟩ := s.own_inv
    exact .own n (by rw [hn n hm, hbn]; exact h1.symm)
  | @pre b n k hbn hm =>
    intro c s
    obtain ⟨a, m, cap, cap', h1, rfl, h2, h3⟩ := s.pre_inv
    exact .pre n k (by rw [hn n hm, hbn]; exact h1) h2 h3
  | @bp b n o hbn hm =>
    intro c s
    obtain ⟨g, h1, rfl⟩ := s.bp_inv
    exact .bp n o (by rw [hn n hm, hbn]; exact h1)
  | @ep b n sz i o hbn hm =>
    intro c s
    obtain ⟨g, m, cap, h1, rfl⟩ := s.ep_inv
    exact .ep n sz i o (by rw [hn n hm, hbn]; exact h1)
  | @mapv b n hbn hm =>
    intro c s
    obtain ⟨g, h1, rfl⟩ := s.mapv_inv
    exact .mapv n (by rw [hn n hm, hbn]; exact h1)

theorem CBView.sound {st st' : Nat → Prop} {β β' : Nat → Value} {w : World} {ns : List Nat} {ρ : Nat → Nat} (hst : ∀ g, st g → st' g) (hn : ∀ n, n ∈ ns → β' n = β (ρ n)) {x y : Blk}
    (p : CBView ns ρ x y) {c : Value} (s : BlkRep st β w x c) : BlkRep st' β' w y c := by
  cases p with
  | box hl hv =>
    obtain ⟨g, ty, xs, f1, f2, f3, f4, f5⟩ := s
    exact ⟨g, ty, xs, f1, f2, by omega, f4, fun j hj => (hv j (by omega)).sound hst hn (f5 j (by omega))⟩
  | row e =>
    subst e
    obtain ⟨xs, f1, f2, f3, f4, f5⟩ := s
    exact ⟨xs, f1, f2, f3, f4, fun i j hi hj => (f5 i j hi hj).mono fun g hg => ⟨hst g hg, rfl⟩⟩
  | iter q p => exact s
  | map e e' =>
    subst e; subst e'
    obtain ⟨g, f, f1, f2, f3, f4⟩ := s
    exact ⟨g, f, f1, f2, f3, fun i hi => (f4 i hi).mono fun g hg => ⟨hst g hg, rfl⟩⟩

def rn (nm m k : Nat) : Nat := if k = nm then m else k

theorem updL_none {α : Type} {f : Nat → Option α} : ∀ {u : List (Nat × Option α)} {k : Nat} {b : α}, updL f u k = some b → (∃ b', f k = some b') ∨ k ∈ u.map (·.1)
  | [], _, b, h => .inl ⟨b, h⟩
  | (i, x) :: u, k, b, h => by
    rcases updL_none (u := u) h with ⟨b', hb⟩ | h'
    · by_cases e : k = i
      · exact .inr (by simp [e])
      · simp only [upd, if_neg e] at hb; exact .inl ⟨b', hb⟩
    · exact .inr (by simp [h'])

theorem BlkRep.ne {st : Nat → Prop} {β : Nat → Value} {w : World} {b : Blk} {c : Value} (h : BlkRep st β w b c) : c ≠ undef := by
  cases b with
  | box cs => obtain ⟨g, ty, xs, rfl, _⟩ := h; simp [undef]
  | row es sz e =>
    obtain ⟨xs, _, _, hr, _⟩ := h
    rcases hr with ⟨a, rfl, _⟩ | ⟨g', cap, rfl, _⟩ <;> simp [undef]
  | iter s pos => obtain ⟨g, rfl, _⟩ := h; simp [undef]
  | rowX es sz e =>
    obtain ⟨xs, _, _, hr, _⟩ := h
    rcases hr with ⟨a, rfl, _⟩ | ⟨g', cap, rfl, _⟩ <;> simp [undef]
  | map ks vs => obtain ⟨g, f, rfl, _⟩ := h; simp [undef]

variable {P : Program} {f : FuncId} {fn : Func} {ac : ACode} {n : Nat} {rs : List ResultVar} {args : List AV}

theorem fn_cc (F : FnFacts P f fn ac n rs) (hn : args.length ≤ n) {hl : List (Nat × Blk)} {ups : Upd} {nm bs : Nat} {r : AV} (hlb : ∀ p ∈ hl, p.1 < bs) (hnm : nm ∉ hl.map (·.1))
    (hu : ∀ p ∈ ups, p.1 = nm ∨ p.1 ∈ hl.map (·.1)) (hall : ∀ p ∈ hl, p.1 ∈ ups.map (·.1)) (hbx : ∀ p ∈ hl, CBView (hl.map (·.1)) id p.2 p.2) (ha : ∀ j, j < args.length → CView (hl.map (·.1)) id (av args j) (av args j))
    (h : Awp P n bs ac bs ⟨fun t => av args t, listH hl⟩ fun e _ S => (e = .normal ∨ e = .ret) ∧ resSide P S rs ∧ ∃ m, bs ≤ m ∧
      CView (nm :: hl.map (·.1)) (rn nm m) (resV (resVals P S rs)) r ∧ ∀ k b', updL (listH hl) ups k = some b' → ∃ blk, S.h (rn nm m k) = some blk ∧ CBView (nm :: hl.map (·.1)) (rn nm m) blk b') :
    CallC P f args hl nm r ups := by
  obtain ⟨code, hbody, hcomp⟩ := F.code
  refine ⟨F.callable, fun prov β w cs hβ hb hinj hv => ?_⟩
  refine calls_of_wp F.at_ hbody ?_
  rw [F.nt]
  have hmem : ∀ k b, listH hl k = some b → k ∈ hl.map (·.1) := fun k b hk => List.mem_map.2 ⟨_, listH_mem hk, rfl⟩
  have hmem' : ∀ k, k ∈ hl.map (·.1) → k < bs := fun k hk => by obtain ⟨p, hp, rfl⟩ := List.mem_map.1 hk; exact hlb p hp
  have hdef : ∀ k, k ∈ hl.map (·.1) → β k ≠ undef := fun k hk => by
    have : ∃ b, listH hl k = some b := by
      clear hb hinj hv h ha hbx hall hu hnm hlb hmem hmem'
      induction hl with
      | nil => simp at hk
      | cons p hl ih =>
        simp only [listH]
        by_cases e : k = p.1
        · exact ⟨p.2, by rw [if_pos e]⟩
        · rw [if_neg e]; exact ih (by simpa [e] using hk)
    obtain ⟨b, hkb⟩ := this
    exact (hb k b hkb).ne
  let β0 : Nat → Value := fun k => if k ∈ hl.map (·.1) then β k else undef
  have β0_at : ∀ k, k ∈ hl.map (·.1) → β0 k = β k := fun k hk => if_pos hk
  let E : Entry := { w0 := w, β0 := β0, prov := prov, may := fun g => ∃ k b, listH hl k = some b ∧ blkOf (β k) = some g, n := n }
  have hfit : E.fits bs := ⟨fun k hk => if_neg fun h' => by have := hmem' k h'; omega, fun h0 g ⟨k, b, hk, _⟩ => by have := hmem' k (hmem k b hk); omega⟩
  have hst0 : ∀ g, stb prov w β (listH hl) g → E.st w β0 (listH hl) g := fun g ⟨h1, h2, h3⟩ => ⟨h1, .inl h2, fun k b hk => by rw [β0_at k (hmem k b hk)]; exact h3 k b hk⟩
  have s0 : Sim E (fun k => bs ≤ k) ⟨fun t => av args t, listH hl⟩ β0 { tmps := cs.toArray ++ Array.replicate (n - cs.toArray.size) undef, defers := [] } w := by
    refine ⟨fun t => ?_, ?_, rfl, fun k b hk => ?_, fun k m b b' g hk hm hg hg' => ?_, fun k hk => hfit.1 k hk, fun k b g hk hg => .inl ⟨k, b, hk, ?_⟩, rfl, rfl, rfl, Nat.le_refl _, fun _ _ _ => rfl, fun _ _ => rfl⟩
    · by_cases ht : t < args.length
      · have h1 := hv.2 t ht
        have e : (cs.toArray ++ Array.replicate (n - cs.toArray.size) undef).getD t undef = cv cs t := by
          have hl : t < cs.length := by rw [← hv.1]; exact ht
          rw [Array.getD_eq_getD_getElem?, Array.getElem?_append_left (by simpa using hl)]
          simp [cv, List.getD_eq_getElem?_getD]
        show SimV _ _ _ _ ((cs.toArray ++ Array.replicate (n - cs.toArray.size) undef).getD t undef)
        rw [e]
        exact (ha t ht).sound hst0 (fun k hk => β0_at k hk) h1
      · have : av args t = .any := by simp [av, List.getD_eq_getElem?_getD, Nat.le_of_not_lt ht]
        show SimV _ _ _ (av args t) _
        rw [this]
        exact .pure (.any _)
    · have := hv.1
      simp
      show _ = n
      omega
    · have h1 := hb k b hk
      rw [β0_at k (hmem k b hk)]
      exact (hbx _ (listH_mem hk)).sound hst0 (fun k hk => β0_at k hk) h1
    · change blkOf (β0 k) = some g at hg
      change blkOf (β0 m) = some g at hg'
      rw [β0_at k (hmem k b hk)] at hg
      rw [β0_at m (hmem m b' hm)] at hg'
      exact hinj k m b b' g hk hm hg hg'
    · rw [β0_at k (hmem k b hk)] at hg; exact hg
  refine h code hcomp F.ok F.mixed E _ _ w rfl hfit s0 _ fun e nx S βs a w' ⟨he, hs, m, hm, hrv, hbs⟩ s => ?_
  obtain ⟨c, hc, hv'⟩ := results_run (f := fn) s (by rw [F.rseq]; exact F.res) (by rw [F.rseq]; exact hs)
  rw [F.rseq] at hv'
  let β2 : Nat → Value := fun k => if k = nm then βs m else β k
  have hag : ∀ k, k ∈ nm :: hl.map (·.1) → β2 k = βs (rn nm m k) := by
    intro k hk
    by_cases e : k = nm
    · simp only [β2, rn, if_pos e]
    · have hk' : k ∈ hl.map (·.1) := by simpa [e] using hk
      simp only [β2, rn, if_neg e]
      have := s.grow k (by show β0 k ≠ undef; rw [β0_at k hk']; exact hdef k hk')
      rw [this]
      exact (β0_at k hk').symm
  have hdom : ∀ k b, updL (listH hl) ups k = some b → k ∈ nm :: hl.map (·.1) := by
    intro k b hk
    rcases updL_none hk with ⟨b', hb'⟩ | h'
    · exact List.mem_cons.2 (.inr (hmem k b' hb'))
    · obtain ⟨p, hp, rfl⟩ := List.mem_map.1 h'
      rcases hu p hp with e | e
      · exact List.mem_cons.2 (.inl e)
      · exact List.mem_cons.2 (.inr e)
  have hst2 : ∀ g, E.st w' βs S.h g → stb (fun g => prov g ∨ w.heap.size ≤ g) w' β2 (updL (listH hl) ups) g := by
    intro g ⟨h1, h2, h3⟩
    refine ⟨h1, h2, fun k b hk => ?_⟩
    obtain ⟨blk, hblk, _⟩ := hbs k b hk
    rw [hag k (hdom k b hk)]
    exact h3 _ _ hblk
  have fin : a.defers = [] ∧ ∃ v, (results fn a.tmps).run P w' = .ok v w' ∧ ∃ c β', Ending.returned v = .returned c ∧ w'.os = w.os ∧ w'.tape = w.tape ∧ w'.output = w.output ∧ w.heap.size ≤ w'.heap.size ∧ Grows β β' ∧ (∀ n, n ≠ nm → β' n = β n) ∧
      (∀ g, g < w.heap.size → (∀ n b, listH hl n = some b → n ∈ ups.map (·.1) → blkOf (β n) ≠ some g) → w'.heap[g]? = w.heap[g]?) ∧
      SimV (stb (fun g => prov g ∨ w.heap.size ≤ g) w' β' (updL (listH hl) ups)) β' w' r c ∧
      (∀ n b, updL (listH hl) ups n = some b → n ∈ ups.map (·.1) → BlkRep (stb (fun g => prov g ∨ w.heap.size ≤ g) w' β' (updL (listH hl) ups)) β' w' b (β' n) ∧
        ∀ g, blkOf (β' n) = some g → w.heap.size ≤ g ∨ ∃ m b', listH hl m = some b' ∧ m ∈ ups.map (·.1) ∧ blkOf (β m) = some g) ∧
      Inj β' (updL (listH hl) ups) := by
    refine ⟨s.df, c, hc, c, β2, rfl, s.os, s.tape, s.out, s.size, fun k hk => ?_, fun k hk => if_neg hk, fun g hg hno => s.keep g hg fun ⟨k, b, hk, hg'⟩ => ?_, hrv.sound hst2 hag hv', fun k b hk hku => ?_, fun k k' b b' g hk hk' hg hg' => ?_⟩
    · by_cases e : k = nm
      · subst e; exact absurd hβ hk
      · simp only [β2, if_neg e]
    · obtain ⟨p, hp, e⟩ := List.mem_map.1 (hmem k b hk)
      exact hno k b hk (e ▸ hall p hp) hg'
    · obtain ⟨blk, hblk, hv2⟩ := hbs k b hk
      rw [hag k (hdom k b hk)]
      refine ⟨hv2.sound hst2 hag (s.bl _ _ hblk), fun g hg => ?_⟩
      rcases s.mine _ _ g hblk hg with ⟨k', b', h1, h2⟩ | h1
      · obtain ⟨p, hp, e⟩ := List.mem_map.1 (hmem k' b' h1)
        exact .inr ⟨k', b', h1, e ▸ hall p hp, h2⟩
      · exact .inl h1
    · obtain ⟨blk, hblk, _⟩ := hbs k b hk
      obtain ⟨blk', hblk', _⟩ := hbs k' b' hk'
      rw [hag k (hdom k b hk)] at hg
      rw [hag k' (hdom k' b' hk')] at hg'
      have e := s.inj _ _ _ _ g hblk hblk' hg hg'
      have h1 := hdom k b hk
      have h2 := hdom k' b' hk'
      simp only [rn] at e
      by_cases e1 : k = nm <;> by_cases e2 : k' = nm
      · rw [e1, e2]
      · rw [if_pos e1, if_neg e2] at e
        have := hmem' k' (by simpa [e2] using h2)
        omega
      · rw [if_neg e1, if_pos e2] at e
        have := hmem' k (by simpa [e1] using h1)
        omega
      · rw [if_neg e1, if_neg e2] at e; exact e
  rcases he with rfl | rfl <;> exact fin
end Go.Ab
end
