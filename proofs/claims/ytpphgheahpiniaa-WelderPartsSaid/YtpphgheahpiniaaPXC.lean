import Derived.Test.YtpphgheahpiniaaPXB
import Derived.Test.YtpphgheahpiniaaChecked
import Derived.Shelf.Small.Bits
import Derived.Shelf.Small.Wraps
import Derived.Shelf.Strconv.Itoa0
import Derived.Shelf.Sort.Plain
import Derived.Ground.Names2Prog
import Derived.Shelf.Slices.CompactI
import Derived.Shelf.Slices.SearchI
import Derived.Shelf.Slices.Cells
import Derived.Shelf.Slices.In.SortNone
import Derived.Test.YtpphgheahpiniaaProg
import Derived.Sort.OwnSortedInts
section
set_option linter.unusedVariables false
set_option linter.unusedSimpArgs false
namespace Go.Proofs
open Go Go.Ab
def Try.ac3 : ACode := ((ACode.region false [⟨some 2, .mv (.c (.bool false)), none, []⟩]).seq ((ACode.region false [⟨some 3, .mv (.t 0), none, []⟩, ⟨some 4, .call 11 [.t 3], none, []⟩, ⟨some 5, .un .not (.t 4), none, []⟩, ⟨some 6, .mv (.t 5), none, []⟩, ⟨some 7, .mv (.t 0), some (6, false), []⟩, ⟨some 8, .call 12 [.t 7], some (6, false), []⟩, ⟨some 9, .mv (.t 0), some (6, false), []⟩, ⟨some 10, .call 13 [.t 9], some (6, false), []⟩, ⟨some 11, .bin .eql (.t 8) (.t 10), some (6, false), []⟩, ⟨some 12, .pick (.t 6) (.c (.bool true)) (.t 11), none, []⟩, ⟨some 13, .mv (.t 12), none, []⟩, ⟨some 14, .call 14 [], some (13, true), []⟩, ⟨some 15, .pick (.t 13) (.t 14) (.c (.bool false)), none, []⟩, ⟨some 2, .mv (.t 15), none, []⟩]).seq ACode.ret))
theorem Try.F3 : FnFacts Try.prog 3 Try.f3 Try.ac3 16 [.tmp 2] := ⟨Try.func3, by kernel_rfl, by kernel_rfl, by kernel_rfl, by kernel_rfl, by kernel_rfl, by kernel_rfl, by kernel_rfl⟩
def Try.ac4 : ACode := ((ACode.region false [⟨some 3, .box 4 (.t 1), none, []⟩, ⟨some 4, .mv (.c (.bool false)), none, []⟩]).seq (((ACode.region false [⟨some 9, .mv (.t 0), none, []⟩, ⟨some 10, .call 15 [.t 9], none, []⟩, ⟨some 11, .un .not (.t 10), none, []⟩]).seq (ACode.cond (.t 11) ((ACode.region false [⟨some 12, .call 14 [], none, []⟩, ⟨some 4, .mv (.t 12), none, []⟩]).seq ACode.ret) ACode.skip)).seq ((ACode.region false [⟨some 14, .mv (.t 0), none, []⟩, ⟨some 15, .fieldAddr 1 (.t 3), none, []⟩, ⟨some 16, .load 1 false (.t 15), none, []⟩, ⟨some 17, .fieldAddr 2 (.t 3), none, []⟩, ⟨some 18, .load 1 false (.t 17), none, []⟩, ⟨some 19, .call 16 [.t 14, .t 16, .t 18], none, []⟩, ⟨some 13, .mv (.t 19), none, []⟩, ⟨some 20, .extract (.t 13) 0, none, []⟩, ⟨some 21, .extract (.t 13) 1, none, []⟩, ⟨some 5, .mv (.t 20), none, []⟩, ⟨some 6, .mv (.t 21), none, []⟩]).seq ((ACode.region false [⟨some 23, .mv (.t 0), none, []⟩, ⟨some 24, .fieldAddr 1 (.t 3), none, []⟩, ⟨some 25, .load 1 false (.t 24), none, []⟩, ⟨some 26, .fieldAddr 2 (.t 3), none, []⟩, ⟨some 27, .load 1 false (.t 26), none, []⟩, ⟨some 28, .call 17 [.t 23, .t 25, .t 27], none, []⟩, ⟨some 22, .mv (.t 28), none, []⟩, ⟨some 29, .extract (.t 22) 0, none, []⟩, ⟨some 30, .extract (.t 22) 1, none, []⟩, ⟨some 7, .mv (.t 29), none, []⟩, ⟨some 8, .mv (.t 30), none, []⟩]).seq ((ACode.region true [⟨some 31, .mv (.t 0), none, []⟩, ⟨some 32, .fieldAddr 0 (.t 3), none, []⟩, ⟨some 33, .load 1 false (.t 32), none, [1]⟩, ⟨some 34, .fieldAddr 1 (.t 3), none, []⟩, ⟨some 35, .load 1 false (.t 34), none, [3]⟩, ⟨some 36, .fieldAddr 2 (.t 3), none, []⟩, ⟨some 37, .load 1 false (.t 36), none, [5]⟩, ⟨some 38, .call 18 [.t 31, .t 33, .t 35, .t 37], none, [0, 2, 4, 6]⟩, ⟨some 39, .mv (.t 0), none, []⟩, ⟨some 40, .fieldAddr 0 (.t 3), none, []⟩, ⟨some 41, .load 1 false (.t 40), none, [9]⟩, ⟨some 42, .fieldAddr 1 (.t 3), none, []⟩, ⟨some 43, .load 1 false (.t 42), none, [11]⟩, ⟨some 44, .fieldAddr 2 (.t 3), none, []⟩, ⟨some 45, .load 1 false (.t 44), none, [13]⟩, ⟨some 46, .call 19 [.t 39, .t 41, .t 43, .t 45], none, [8, 10, 12, 14, 7]⟩, ⟨some 47, .eqB false (.t 38) (.t 46), none, [7, 15]⟩, ⟨some 48, .mv (.t 47), none, [16, 15]⟩, ⟨some 49, .mv (.t 5), some (48, true), [17]⟩, ⟨some 50, .mv (.t 7), some (48, true), [17]⟩, ⟨some 51, .bin .eql (.t 49) (.t 50), some (48, true), [18, 19, 17]⟩, ⟨some 52, .pick (.t 48) (.t 51) (.c (.bool false)), none, [17, 20]⟩, ⟨some 53, .mv (.t 52), none, [21, 17]⟩, ⟨some 54, .mv (.t 6), some (53, true), [22]⟩, ⟨some 55, .mv (.t 8), some (53, true), [22]⟩, ⟨some 56, .eqB false (.t 54) (.t 55), some (53, true), [23, 24, 22]⟩, ⟨some 57, .pick (.t 53) (.t 56) (.c (.bool false)), none, [22, 25]⟩, ⟨some 58, .mv (.t 57), none, [26, 22]⟩, ⟨some 59, .call 14 [], some (58, true), [27, 27]⟩, ⟨some 60, .pick (.t 58) (.t 59) (.c (.bool false)), none, [27, 28]⟩, ⟨some 4, .mv (.t 60), none, [29, 28, 0, 1, 2, 3, 4, 5, 6, 7, 8, 9, 10, 11, 12, 13, 14, 15, 16, 17, 18, 19, 20, 21, 22, 23, 24, 25, 26, 27, 28, 29]⟩]).seq ACode.ret)))))
theorem Try.F4 : FnFacts Try.prog 4 Try.f4 Try.ac4 61 [.tmp 4] := ⟨Try.func4, by kernel_rfl, by kernel_rfl, by kernel_rfl, by kernel_rfl, by kernel_rfl, by kernel_rfl, by kernel_rfl⟩
def Try.ac5 : ACode := ((ACode.region false [⟨some 3, .box 4 (.t 1), none, []⟩, ⟨some 4, .mv (.c (.bool false)), none, []⟩]).seq (((ACode.region false [⟨some 9, .mv (.t 0), none, []⟩, ⟨some 10, .call 15 [.t 9], none, []⟩, ⟨some 11, .un .not (.t 10), none, []⟩, ⟨some 12, .mv (.t 11), none, []⟩, ⟨some 13, .fieldAddr 1 (.t 3), some (12, false), []⟩, ⟨some 14, .load 1 false (.t 13), some (12, false), []⟩, ⟨some 15, .lenStr (.t 14), some (12, false), []⟩, ⟨some 16, .bin .gtr (.t 15) (.c (.int .i64 (100))), some (12, false), []⟩, ⟨some 17, .pick (.t 12) (.c (.bool true)) (.t 16), none, []⟩]).seq (ACode.cond (.t 17) ((ACode.region false [⟨some 18, .call 14 [], none, []⟩, ⟨some 4, .mv (.t 18), none, []⟩]).seq ACode.ret) ACode.skip)).seq ((ACode.region false [⟨some 20, .mv (.t 0), none, []⟩, ⟨some 21, .fieldAddr 0 (.t 3), none, []⟩, ⟨some 22, .load 1 false (.t 21), none, []⟩, ⟨some 23, .fieldAddr 1 (.t 3), none, []⟩, ⟨some 24, .load 1 false (.t 23), none, []⟩, ⟨some 25, .fieldAddr 2 (.t 3), none, []⟩, ⟨some 26, .load 1 false (.t 25), none, []⟩, ⟨some 27, .fieldAddr 3 (.t 3), none, []⟩, ⟨some 28, .load 1 false (.t 27), none, []⟩, ⟨some 29, .call 20 [.t 20, .t 22, .t 24, .t 26, .t 28], none, []⟩, ⟨some 19, .mv (.t 29), none, []⟩, ⟨some 30, .extract (.t 19) 0, none, []⟩, ⟨some 31, .extract (.t 19) 1, none, []⟩, ⟨some 5, .mv (.t 30), none, []⟩, ⟨some 6, .mv (.t 31), none, []⟩]).seq ((ACode.region false [⟨some 33, .mv (.t 0), none, []⟩, ⟨some 34, .fieldAddr 0 (.t 3), none, []⟩, ⟨some 35, .load 1 false (.t 34), none, []⟩, ⟨some 36, .fieldAddr 1 (.t 3), none, []⟩, ⟨some 37, .load 1 false (.t 36), none, []⟩, ⟨some 38, .fieldAddr 2 (.t 3), none, []⟩, ⟨some 39, .load 1 false (.t 38), none, []⟩, ⟨some 40, .fieldAddr 3 (.t 3), none, []⟩, ⟨some 41, .load 1 false (.t 40), none, []⟩, ⟨some 42, .call 21 [.t 33, .t 35, .t 37, .t 39, .t 41], none, []⟩, ⟨some 32, .mv (.t 42), none, []⟩, ⟨some 43, .extract (.t 32) 0, none, []⟩, ⟨some 44, .extract (.t 32) 1, none, []⟩, ⟨some 7, .mv (.t 43), none, []⟩, ⟨some 8, .mv (.t 44), none, []⟩]).seq ((ACode.region false [⟨some 45, .mv (.t 5), none, []⟩, ⟨some 46, .mv (.t 7), none, []⟩, ⟨some 47, .call 22 [.t 45, .t 46], none, []⟩, ⟨some 48, .mv (.t 47), none, []⟩, ⟨some 49, .mv (.t 6), some (48, true), []⟩, ⟨some 50, .mv (.t 8), some (48, true), []⟩, ⟨some 51, .bin .eql (.t 49) (.t 50), some (48, true), []⟩, ⟨some 52, .pick (.t 48) (.t 51) (.c (.bool false)), none, []⟩, ⟨some 53, .mv (.t 52), none, []⟩, ⟨some 54, .call 14 [], some (53, true), []⟩, ⟨some 55, .pick (.t 53) (.t 54) (.c (.bool false)), none, []⟩, ⟨some 4, .mv (.t 55), none, []⟩]).seq ACode.ret)))))
theorem Try.F5 : FnFacts Try.prog 5 Try.f5 Try.ac5 56 [.tmp 4] := ⟨Try.func5, by kernel_rfl, by kernel_rfl, by kernel_rfl, by kernel_rfl, by kernel_rfl, by kernel_rfl, by kernel_rfl⟩
def Try.ac6 : ACode := ((ACode.region false [⟨some 5, .box 2 (.t 2), none, []⟩, ⟨some 6, .mv (.c (.bool false)), none, []⟩]).seq (((ACode.region false [⟨some 7, .mv (.t 0), none, []⟩, ⟨some 8, .call 15 [.t 7], none, []⟩, ⟨some 9, .un .not (.t 8), none, []⟩]).seq (ACode.cond (.t 9) ((ACode.region false [⟨some 10, .call 14 [], none, []⟩, ⟨some 6, .mv (.t 10), none, []⟩]).seq ACode.ret) ACode.skip)).seq ((ACode.region true [⟨some 11, .mv (.t 0), none, []⟩, ⟨some 12, .mv (.t 1), none, []⟩, ⟨some 13, .load 2 true (.t 5), none, []⟩, ⟨some 14, .call 24 [.t 11, .t 12, .t 13], none, [0, 1, 2]⟩, ⟨some 15, .mv (.t 0), none, []⟩, ⟨some 16, .mv (.t 1), none, []⟩, ⟨some 17, .load 2 true (.t 5), none, []⟩, ⟨some 18, .call 25 [.t 15, .t 16, .t 17], none, [4, 5, 6, 3]⟩, ⟨some 19, .call 23 [.t 14, .t 18], none, [3, 7, 7]⟩, ⟨some 20, .mv (.t 19), none, [8, 8]⟩, ⟨some 21, .call 14 [], some (20, true), [9, 9]⟩, ⟨some 22, .pick (.t 20) (.t 21) (.c (.bool false)), none, [9, 10]⟩, ⟨some 6, .mv (.t 22), none, [11, 10, 0, 1, 2, 3, 4, 5, 6, 7, 8, 9, 10, 11]⟩]).seq ACode.ret)))
theorem Try.F6 : FnFacts Try.prog 6 Try.f6 Try.ac6 23 [.tmp 6] := ⟨Try.func6, by kernel_rfl, by kernel_rfl, by kernel_rfl, by kernel_rfl, by kernel_rfl, by kernel_rfl, by kernel_rfl⟩
def Try.ac7 : ACode := ((ACode.region false [⟨some 4, .box 4 (.t 1), none, []⟩, ⟨some 5, .box 4 (.t 2), none, []⟩, ⟨some 6, .mv (.c (.bool false)), none, []⟩]).seq (((ACode.region false [⟨some 10, .mv (.t 0), none, []⟩, ⟨some 11, .call 15 [.t 10], none, []⟩, ⟨some 12, .un .not (.t 11), none, []⟩, ⟨some 13, .mv (.t 12), none, []⟩, ⟨some 14, .fieldAddr 1 (.t 4), some (13, false), []⟩, ⟨some 15, .load 1 false (.t 14), some (13, false), []⟩, ⟨some 16, .lenStr (.t 15), some (13, false), []⟩, ⟨some 17, .bin .gtr (.t 16) (.c (.int .i64 (100))), some (13, false), []⟩, ⟨some 18, .pick (.t 13) (.c (.bool true)) (.t 17), none, []⟩]).seq (ACode.cond (.t 18) ((ACode.region false [⟨some 19, .call 14 [], none, []⟩, ⟨some 6, .mv (.t 19), none, []⟩]).seq ACode.ret) ACode.skip)).seq ((ACode.region false [⟨some 21, .mv (.t 0), none, []⟩, ⟨some 22, .fieldAddr 0 (.t 4), none, []⟩, ⟨some 23, .load 1 false (.t 22), none, []⟩, ⟨some 24, .fieldAddr 1 (.t 4), none, []⟩, ⟨some 25, .load 1 false (.t 24), none, []⟩, ⟨some 26, .fieldAddr 2 (.t 4), none, []⟩, ⟨some 27, .load 1 false (.t 26), none, []⟩, ⟨some 28, .fieldAddr 3 (.t 4), none, []⟩, ⟨some 29, .load 1 false (.t 28), none, []⟩, ⟨some 30, .call 20 [.t 21, .t 23, .t 25, .t 27, .t 29], none, []⟩, ⟨some 20, .mv (.t 30), none, []⟩, ⟨some 31, .extract (.t 20) 0, none, []⟩, ⟨some 32, .extract (.t 20) 1, none, []⟩, ⟨some 7, .mv (.t 31), none, []⟩, ⟨some 8, .mv (.t 32), none, []⟩]).seq (((ACode.region false [⟨some 33, .mv (.t 8), none, []⟩, ⟨some 34, .bin .neq (.t 33) (.c (.int .i64 (0))), none, []⟩]).seq (ACode.cond (.t 34) ((ACode.region false [⟨some 35, .mv (.t 7), none, []⟩, ⟨some 36, .len (.t 35), none, []⟩, ⟨some 37, .bin .eql (.t 36) (.c (.int .i64 (0))), none, []⟩, ⟨some 38, .mv (.t 37), none, []⟩, ⟨some 39, .call 14 [], some (38, true), []⟩, ⟨some 40, .pick (.t 38) (.t 39) (.c (.bool false)), none, []⟩, ⟨some 6, .mv (.t 40), none, []⟩]).seq ACode.ret) ACode.skip)).seq (((ACode.region false [⟨some 41, .mv (.t 7), none, []⟩, ⟨some 42, .call 12 [.t 41], none, []⟩, ⟨some 43, .bin .neq (.t 42) (.c (.int .i64 (0))), none, []⟩, ⟨some 44, .mv (.t 43), none, []⟩, ⟨some 45, .mv (.t 7), some (44, false), []⟩, ⟨some 46, .len (.t 45), some (44, false), []⟩, ⟨some 47, .mv (.t 0), some (44, false), []⟩, ⟨some 48, .len (.t 47), some (44, false), []⟩, ⟨some 49, .bin .neq (.t 46) (.t 48), some (44, false), []⟩, ⟨some 50, .pick (.t 44) (.c (.bool true)) (.t 49), none, []⟩, ⟨some 51, .mv (.t 50), none, []⟩, ⟨some 52, .mv (.t 7), some (51, false), []⟩, ⟨some 53, .call 11 [.t 52], some (51, false), []⟩, ⟨some 54, .un .not (.t 53), some (51, false), []⟩, ⟨some 55, .pick (.t 51) (.c (.bool true)) (.t 54), none, []⟩, ⟨some 56, .mv (.t 55), none, []⟩, ⟨some 57, .mv (.t 7), some (56, false), []⟩, ⟨some 58, .call 13 [.t 57], some (56, false), []⟩, ⟨some 59, .bin .neq (.t 58) (.c (.int .i64 (0))), some (56, false), []⟩, ⟨some 60, .pick (.t 56) (.c (.bool true)) (.t 59), none, []⟩]).seq (ACode.cond (.t 60) ((ACode.region false [⟨some 6, .mv (.c (.bool false)), none, []⟩]).seq ACode.ret) ACode.skip)).seq ((ACode.region false [⟨some 61, .fieldAddr 0 (.t 5), none, []⟩, ⟨some 62, .load 1 false (.t 61), none, []⟩, ⟨some 63, .fieldAddr 0 (.t 4), none, []⟩, ⟨some 64, .load 1 false (.t 63), none, []⟩, ⟨some 65, .bin .eql (.t 62) (.t 64), none, []⟩, ⟨some 66, .mv (.t 65), none, []⟩, ⟨some 67, .fieldAddr 1 (.t 5), some (66, true), []⟩, ⟨some 68, .load 1 false (.t 67), some (66, true), []⟩, ⟨some 69, .fieldAddr 1 (.t 4), some (66, true), []⟩, ⟨some 70, .load 1 false (.t 69), some (66, true), []⟩, ⟨some 71, .bin .eql (.t 68) (.t 70), some (66, true), []⟩, ⟨some 72, .pick (.t 66) (.t 71) (.c (.bool false)), none, []⟩, ⟨some 73, .mv (.t 72), none, []⟩, ⟨some 74, .fieldAddr 2 (.t 5), some (73, true), []⟩, ⟨some 75, .load 1 false (.t 74), some (73, true), []⟩, ⟨some 76, .fieldAddr 2 (.t 4), some (73, true), []⟩, ⟨some 77, .load 1 false (.t 76), some (73, true), []⟩, ⟨some 78, .bin .geq (.t 75) (.t 77), some (73, true), []⟩, ⟨some 79, .pick (.t 73) (.t 78) (.c (.bool false)), none, []⟩, ⟨some 80, .mv (.t 79), none, []⟩, ⟨some 81, .fieldAddr 2 (.t 5), some (80, true), []⟩, ⟨some 82, .load 1 false (.t 81), some (80, true), []⟩, ⟨some 83, .fieldAddr 2 (.t 4), some (80, true), []⟩, ⟨some 84, .load 1 false (.t 83), some (80, true), []⟩, ⟨some 85, .bin .sub (.t 82) (.t 84), some (80, true), []⟩, ⟨some 86, .fieldAddr 3 (.t 4), some (80, true), []⟩, ⟨some 87, .load 1 false (.t 86), some (80, true), []⟩, ⟨some 88, .bin .lss (.t 85) (.t 87), some (80, true), []⟩, ⟨some 89, .pick (.t 80) (.t 88) (.c (.bool false)), none, []⟩, ⟨some 9, .mv (.t 89), none, []⟩]).seq ((ACode.region false [⟨some 90, .mv (.t 7), none, []⟩, ⟨some 91, .fieldAddr 0 (.t 5), none, []⟩, ⟨some 92, .load 1 false (.t 91), none, []⟩, ⟨some 93, .fieldAddr 1 (.t 5), none, []⟩, ⟨some 94, .load 1 false (.t 93), none, []⟩, ⟨some 95, .fieldAddr 2 (.t 5), none, []⟩, ⟨some 96, .load 1 false (.t 95), none, []⟩, ⟨some 97, .call 18 [.t 90, .t 92, .t 94, .t 96], none, []⟩, ⟨some 98, .mv (.t 9), none, []⟩, ⟨some 99, .mv (.t 98), none, []⟩, ⟨some 100, .mv (.t 0), some (99, false), []⟩, ⟨some 101, .fieldAddr 0 (.t 5), some (99, false), []⟩, ⟨some 102, .load 1 false (.t 101), some (99, false), []⟩, ⟨some 103, .fieldAddr 1 (.t 5), some (99, false), []⟩, ⟨some 104, .load 1 false (.t 103), some (99, false), []⟩, ⟨some 105, .fieldAddr 2 (.t 5), some (99, false), []⟩, ⟨some 106, .load 1 false (.t 105), some (99, false), []⟩, ⟨some 107, .call 18 [.t 100, .t 102, .t 104, .t 106], some (99, false), []⟩, ⟨some 108, .pick (.t 99) (.c (.bool true)) (.t 107), none, []⟩, ⟨some 109, .eqB false (.t 97) (.t 108), none, []⟩, ⟨some 110, .mv (.t 109), none, []⟩, ⟨some 111, .call 14 [], some (110, true), []⟩, ⟨some 112, .pick (.t 110) (.t 111) (.c (.bool false)), none, []⟩, ⟨some 6, .mv (.t 112), none, []⟩]).seq ACode.ret)))))))
theorem Try.F7 : FnFacts Try.prog 7 Try.f7 Try.ac7 113 [.tmp 6] := ⟨Try.func7, by kernel_rfl, by kernel_rfl, by kernel_rfl, by kernel_rfl, by kernel_rfl, by kernel_rfl, by kernel_rfl⟩
def Try.ac8 : ACode := ((ACode.region false [⟨some 5, .box 3 (.t 2), none, []⟩, ⟨some 6, .mv (.c (.bool false)), none, []⟩]).seq ((ACode.region true [⟨some 14, .idxPtr 3 1 (.t 5) (.c (.int .i64 (0))), none, []⟩, ⟨some 15, .load 1 false (.t 14), none, [0]⟩, ⟨some 16, .idxPtr 3 1 (.t 5) (.c (.int .i64 (1))), none, []⟩, ⟨some 17, .load 1 false (.t 16), none, [2]⟩, ⟨some 18, .build [.int .i64 (0), .int .i64 (0)] [(0, 1, .t 15), (1, 1, .t 17)], none, [1, 3]⟩, ⟨some 19, .idxPtr 3 1 (.t 5) (.c (.int .i64 (2))), none, []⟩, ⟨some 20, .load 1 false (.t 19), none, [5]⟩, ⟨some 7, .alloc [.int .i64 (0), .int .i64 (0)], none, []⟩, ⟨none, .store 2 (.t 7) (.t 18), none, [7, 4, 0, 1, 2, 3, 4, 7]⟩, ⟨some 8, .mv (.t 20), none, [6, 8, 0, 1, 2, 3, 4, 5, 6, 7, 8]⟩]).seq (((ACode.region false [⟨some 21, .mv (.t 0), none, []⟩, ⟨some 22, .call 15 [.t 21], none, []⟩, ⟨some 23, .un .not (.t 22), none, []⟩]).seq (ACode.cond (.t 23) ((ACode.region false [⟨some 24, .call 14 [], none, []⟩, ⟨some 6, .mv (.t 24), none, []⟩]).seq ACode.ret) ACode.skip)).seq ((ACode.region false [⟨some 25, .mv (.t 0), none, []⟩, ⟨some 26, .mv (.t 1), none, []⟩, ⟨some 27, .load 2 true (.t 7), none, []⟩, ⟨some 28, .call 24 [.t 25, .t 26, .t 27], none, []⟩, ⟨some 9, .mv (.t 28), none, []⟩]).seq ((ACode.region false [⟨some 10, .mv (.c (.bool false)), none, []⟩]).seq (((ACode.region false [⟨some 11, .mv (.c (.int .i64 (0))), none, []⟩]).seq (ACode.block 0 (((ACode.region false [⟨some 29, .mv (.t 11), none, []⟩, ⟨some 30, .mv (.t 9), none, []⟩, ⟨some 31, .len (.t 30), none, []⟩, ⟨some 32, .bin .lss (.t 29) (.t 31), none, []⟩]).seq (ACode.cond (.t 32) ACode.skip (ACode.exit 0))).seq ((ACode.block 1 (((ACode.region true [⟨some 35, .mv (.t 9), none, []⟩, ⟨some 36, .mv (.t 11), none, []⟩, ⟨some 37, .idxAddr 2 (.t 35) (.t 36), none, [0, 1]⟩, ⟨some 38, .fieldAddr 0 (.t 37), none, [2]⟩, ⟨some 39, .load 1 false (.t 38), none, [3]⟩, ⟨some 40, .mv (.t 9), none, []⟩, ⟨some 41, .mv (.t 11), none, []⟩, ⟨some 42, .idxAddr 2 (.t 40) (.t 41), none, [5, 6]⟩, ⟨some 43, .fieldAddr 1 (.t 42), none, [7]⟩, ⟨some 44, .load 1 false (.t 43), none, [8]⟩, ⟨some 45, .bin .geq (.t 39) (.t 44), none, [4, 9]⟩, ⟨some 46, .mv (.t 45), none, [10]⟩, ⟨some 47, .mv (.t 9), some (46, false), [11]⟩, ⟨some 48, .mv (.t 11), some (46, false), [11]⟩, ⟨some 49, .idxAddr 2 (.t 47) (.t 48), some (46, false), [12, 13, 11]⟩, ⟨some 50, .fieldAddr 0 (.t 49), some (46, false), [14, 11]⟩, ⟨some 51, .load 1 false (.t 50), some (46, false), [15, 11]⟩, ⟨some 52, .fieldAddr 0 (.t 7), some (46, false), [11]⟩, ⟨some 53, .load 1 false (.t 52), some (46, false), [17, 11]⟩, ⟨some 54, .bin .lss (.t 51) (.t 53), some (46, false), [16, 18, 11]⟩, ⟨some 55, .pick (.t 46) (.c (.bool true)) (.t 54), none, [11, 19]⟩, ⟨some 56, .mv (.t 55), none, [20, 11]⟩, ⟨some 57, .mv (.t 9), some (56, false), [21]⟩, ⟨some 58, .mv (.t 11), some (56, false), [21]⟩, ⟨some 59, .idxAddr 2 (.t 57) (.t 58), some (56, false), [22, 23, 21]⟩, ⟨some 60, .fieldAddr 1 (.t 59), some (56, false), [24, 21]⟩, ⟨some 61, .load 1 false (.t 60), some (56, false), [25, 21]⟩, ⟨some 62, .fieldAddr 1 (.t 7), some (56, false), [21]⟩, ⟨some 63, .load 1 false (.t 62), some (56, false), [27, 21]⟩, ⟨some 64, .bin .gtr (.t 61) (.t 63), some (56, false), [26, 28, 21]⟩, ⟨some 65, .pick (.t 56) (.c (.bool true)) (.t 64), none, [21, 29]⟩, ⟨some 66, .mv (.t 65), none, [30, 21]⟩, ⟨some 67, .mv (.t 11), some (66, false), [31]⟩, ⟨some 68, .bin .gtr (.t 67) (.c (.int .i64 (0))), some (66, false), [32, 31]⟩, ⟨some 69, .mv (.t 68), some (66, false), [33, 31, 31]⟩, ⟨some 70, .mv (.t 9), some (69, true), [34]⟩, ⟨some 71, .mv (.t 11), some (69, true), [34]⟩, ⟨some 72, .idxAddr 2 (.t 70) (.t 71), some (69, true), [35, 36, 34]⟩, ⟨some 73, .fieldAddr 0 (.t 72), some (69, true), [37, 34]⟩, ⟨some 74, .load 1 false (.t 73), some (69, true), [38, 34]⟩, ⟨some 75, .mv (.t 9), some (69, true), [34]⟩, ⟨some 76, .mv (.t 11), some (69, true), [34]⟩, ⟨some 77, .bin .sub (.t 76) (.c (.int .i64 (1))), some (69, true), [41, 34]⟩, ⟨some 78, .idxAddr 2 (.t 75) (.t 77), some (69, true), [40, 42, 34]⟩, ⟨some 79, .fieldAddr 1 (.t 78), some (69, true), [43, 34]⟩, ⟨some 80, .load 1 false (.t 79), some (69, true), [44, 34]⟩, ⟨some 81, .bin .leq (.t 74) (.t 80), some (69, true), [39, 45, 34]⟩, ⟨some 82, .pick (.t 69) (.t 81) (.c (.bool false)), some (66, false), [34, 46, 31]⟩, ⟨some 83, .pick (.t 66) (.c (.bool true)) (.t 82), none, [31, 47]⟩]).seq (ACode.cond (.t 83) ((ACode.region false [⟨some 6, .mv (.c (.bool false)), none, []⟩]).seq ACode.ret) ACode.skip)).seq (ACode.region false [⟨some 84, .mv (.t 10), none, []⟩, ⟨some 85, .mv (.t 84), none, []⟩, ⟨some 86, .mv (.t 9), some (85, false), []⟩, ⟨some 87, .mv (.t 11), some (85, false), []⟩, ⟨some 88, .idxAddr 2 (.t 86) (.t 87), some (85, false), []⟩, ⟨some 89, .fieldAddr 0 (.t 88), some (85, false), []⟩, ⟨some 90, .load 1 false (.t 89), some (85, false), []⟩, ⟨some 91, .mv (.t 8), some (85, false), []⟩, ⟨some 92, .bin .leq (.t 90) (.t 91), some (85, false), []⟩, ⟨some 93, .mv (.t 92), some (85, false), []⟩, ⟨some 94, .mv (.t 8), some (93, true), []⟩, ⟨some 95, .mv (.t 9), some (93, true), []⟩, ⟨some 96, .mv (.t 11), some (93, true), []⟩, ⟨some 97, .idxAddr 2 (.t 95) (.t 96), some (93, true), []⟩, ⟨some 98, .fieldAddr 1 (.t 97), some (93, true), []⟩, ⟨some 99, .load 1 false (.t 98), some (93, true), []⟩, ⟨some 100, .bin .lss (.t 94) (.t 99), some (93, true), []⟩, ⟨some 101, .pick (.t 93) (.t 100) (.c (.bool false)), some (85, false), []⟩, ⟨some 102, .pick (.t 85) (.c (.bool true)) (.t 101), none, []⟩, ⟨some 10, .mv (.t 102), none, []⟩]))).seq (ACode.region false [⟨some 33, .mv (.t 11), none, []⟩, ⟨some 34, .bin .add (.t 33) (.c (.int .i64 (1))), none, []⟩, ⟨some 11, .mv (.t 34), none, []⟩]))).loop)).seq ((ACode.region false [⟨some 104, .mv (.t 0), none, []⟩, ⟨some 105, .mv (.t 1), none, []⟩, ⟨some 106, .mv (.t 8), none, []⟩, ⟨some 107, .call 16 [.t 104, .t 105, .t 106], none, []⟩, ⟨some 103, .mv (.t 107), none, []⟩, ⟨some 108, .extract (.t 103) 0, none, []⟩, ⟨some 109, .extract (.t 103) 1, none, []⟩, ⟨some 12, .mv (.t 108), none, []⟩, ⟨some 13, .mv (.t 109), none, []⟩]).seq ((ACode.region false [⟨some 110, .mv (.t 10), none, []⟩, ⟨some 111, .fieldAddr 0 (.t 7), none, []⟩, ⟨some 112, .load 1 false (.t 111), none, []⟩, ⟨some 113, .mv (.t 8), none, []⟩, ⟨some 114, .bin .leq (.t 112) (.t 113), none, []⟩, ⟨some 115, .mv (.t 114), none, []⟩, ⟨some 116, .mv (.t 8), some (115, true), []⟩, ⟨some 117, .fieldAddr 1 (.t 7), some (115, true), []⟩, ⟨some 118, .load 1 false (.t 117), some (115, true), []⟩, ⟨some 119, .bin .lss (.t 116) (.t 118), some (115, true), []⟩, ⟨some 120, .pick (.t 115) (.t 119) (.c (.bool false)), none, []⟩, ⟨some 121, .mv (.t 120), none, []⟩, ⟨some 122, .mv (.t 13), some (121, true), []⟩, ⟨some 123, .un .not (.t 122), some (121, true), []⟩, ⟨some 124, .pick (.t 121) (.t 123) (.c (.bool false)), none, []⟩, ⟨some 125, .eqB false (.t 110) (.t 124), none, []⟩, ⟨some 126, .mv (.t 125), none, []⟩, ⟨some 127, .call 14 [], some (126, true), []⟩, ⟨some 128, .pick (.t 126) (.t 127) (.c (.bool false)), none, []⟩, ⟨some 6, .mv (.t 128), none, []⟩]).seq ACode.ret))))))))
theorem Try.F8 : FnFacts Try.prog 8 Try.f8 Try.ac8 129 [.tmp 6] := ⟨Try.func8, by kernel_rfl, by kernel_rfl, by kernel_rfl, by kernel_rfl, by kernel_rfl, by kernel_rfl, by kernel_rfl⟩
def Try.ac9 : ACode := ((ACode.region false [⟨some 6, .mv (.c (.bool false)), none, []⟩]).seq (((ACode.region false [⟨some 10, .mv (.t 0), none, []⟩, ⟨some 11, .call 15 [.t 10], none, []⟩, ⟨some 12, .un .not (.t 11), none, []⟩]).seq (ACode.cond (.t 12) ((ACode.region false [⟨some 13, .call 14 [], none, []⟩, ⟨some 6, .mv (.t 13), none, []⟩]).seq ACode.ret) ACode.skip)).seq ((ACode.region false [⟨some 15, .mv (.t 0), none, []⟩, ⟨some 16, .mv (.t 1), none, []⟩, ⟨some 17, .mv (.t 2), none, []⟩, ⟨some 18, .call 16 [.t 15, .t 16, .t 17], none, []⟩, ⟨some 14, .mv (.t 18), none, []⟩, ⟨some 19, .extract (.t 14) 0, none, []⟩, ⟨some 20, .extract (.t 14) 1, none, []⟩, ⟨some 7, .mv (.t 19), none, []⟩, ⟨some 8, .mv (.t 20), none, []⟩]).seq (((ACode.region false [⟨some 9, .mv (.c (.int .i64 (0))), none, []⟩]).seq (ACode.block 0 (((ACode.region false [⟨some 21, .mv (.t 9), none, []⟩, ⟨some 22, .mv (.t 0), none, []⟩, ⟨some 23, .len (.t 22), none, []⟩, ⟨some 24, .bin .lss (.t 21) (.t 23), none, []⟩]).seq (ACode.cond (.t 24) ACode.skip (ACode.exit 0))).seq ((ACode.block 1 ((ACode.region false [⟨some 27, .mv (.t 0), none, []⟩, ⟨some 28, .mv (.t 0), none, []⟩, ⟨some 29, .mv (.t 9), none, []⟩, ⟨some 30, .idxAddr 2 (.t 28) (.t 29), none, []⟩, ⟨some 31, .fieldAddr 0 (.t 30), none, []⟩, ⟨some 32, .load 1 false (.t 31), none, []⟩, ⟨some 33, .mv (.t 1), none, []⟩, ⟨some 34, .mv (.t 2), none, []⟩, ⟨some 35, .call 18 [.t 27, .t 32, .t 33, .t 34], none, []⟩]).seq (ACode.cond (.t 35) ((ACode.region false [⟨some 36, .mv (.t 8), none, []⟩, ⟨some 37, .mv (.t 36), none, []⟩, ⟨some 38, .mv (.t 7), some (37, true), []⟩, ⟨some 39, .mv (.t 0), some (37, true), []⟩, ⟨some 40, .mv (.t 9), some (37, true), []⟩, ⟨some 41, .idxAddr 2 (.t 39) (.t 40), some (37, true), []⟩, ⟨some 42, .fieldAddr 0 (.t 41), some (37, true), []⟩, ⟨some 43, .load 1 false (.t 42), some (37, true), []⟩, ⟨some 44, .bin .eql (.t 38) (.t 43), some (37, true), []⟩, ⟨some 45, .pick (.t 37) (.t 44) (.c (.bool false)), none, []⟩, ⟨some 46, .mv (.t 45), none, []⟩, ⟨some 47, .call 14 [], some (46, true), []⟩, ⟨some 48, .pick (.t 46) (.t 47) (.c (.bool false)), none, []⟩, ⟨some 6, .mv (.t 48), none, []⟩]).seq ACode.ret) ACode.skip))).seq (ACode.region false [⟨some 25, .mv (.t 9), none, []⟩, ⟨some 26, .bin .add (.t 25) (.c (.int .i64 (1))), none, []⟩, ⟨some 9, .mv (.t 26), none, []⟩]))).loop)).seq ((ACode.region false [⟨some 49, .mv (.t 8), none, []⟩, ⟨some 50, .un .not (.t 49), none, []⟩, ⟨some 51, .mv (.t 50), none, []⟩, ⟨some 52, .mv (.t 7), some (51, true), []⟩, ⟨some 53, .bin .eql (.t 52) (.c (.string ⟨⟨[]⟩⟩)), some (51, true), []⟩, ⟨some 54, .pick (.t 51) (.t 53) (.c (.bool false)), none, []⟩, ⟨some 55, .mv (.t 54), none, []⟩, ⟨some 56, .call 14 [], some (55, true), []⟩, ⟨some 57, .pick (.t 55) (.t 56) (.c (.bool false)), none, []⟩, ⟨some 6, .mv (.t 57), none, []⟩]).seq ACode.ret)))))
theorem Try.F9 : FnFacts Try.prog 9 Try.f9 Try.ac9 58 [.tmp 6] := ⟨Try.func9, by kernel_rfl, by kernel_rfl, by kernel_rfl, by kernel_rfl, by kernel_rfl, by kernel_rfl, by kernel_rfl⟩
def Try.ac10 : ACode := ((ACode.region false [⟨some 5, .box 3 (.t 2), none, []⟩, ⟨some 6, .mv (.c (.bool false)), none, []⟩]).seq (((ACode.region false [⟨some 15, .mv (.t 0), none, []⟩, ⟨some 16, .call 15 [.t 15], none, []⟩, ⟨some 17, .un .not (.t 16), none, []⟩, ⟨some 18, .mv (.t 17), none, []⟩, ⟨some 19, .idxPtr 3 1 (.t 5) (.c (.int .i64 (0))), some (18, false), []⟩, ⟨some 20, .load 1 false (.t 19), some (18, false), []⟩, ⟨some 21, .idxPtr 3 1 (.t 5) (.c (.int .i64 (1))), some (18, false), []⟩, ⟨some 22, .load 1 false (.t 21), some (18, false), []⟩, ⟨some 23, .bin .gtr (.t 20) (.t 22), some (18, false), []⟩, ⟨some 24, .pick (.t 18) (.c (.bool true)) (.t 23), none, []⟩, ⟨some 25, .mv (.t 24), none, []⟩, ⟨some 26, .idxPtr 3 1 (.t 5) (.c (.int .i64 (1))), some (25, false), []⟩, ⟨some 27, .load 1 false (.t 26), some (25, false), []⟩, ⟨some 28, .idxPtr 3 1 (.t 5) (.c (.int .i64 (2))), some (25, false), []⟩, ⟨some 29, .load 1 false (.t 28), some (25, false), []⟩, ⟨some 30, .bin .gtr (.t 27) (.t 29), some (25, false), []⟩, ⟨some 31, .pick (.t 25) (.c (.bool true)) (.t 30), none, []⟩]).seq (ACode.cond (.t 31) ((ACode.region false [⟨some 32, .call 14 [], none, []⟩, ⟨some 6, .mv (.t 32), none, []⟩]).seq ACode.ret) ACode.skip)).seq ((ACode.region true [⟨some 33, .mv (.t 0), none, []⟩, ⟨some 34, .mv (.t 1), none, []⟩, ⟨some 35, .idxPtr 3 1 (.t 5) (.c (.int .i64 (0))), none, []⟩, ⟨some 36, .load 1 false (.t 35), none, [2]⟩, ⟨some 37, .idxPtr 3 1 (.t 5) (.c (.int .i64 (1))), none, []⟩, ⟨some 38, .load 1 false (.t 37), none, [4]⟩, ⟨some 39, .build [.int .i64 (0), .int .i64 (0)] [(0, 1, .t 36), (1, 1, .t 38)], none, [3, 5]⟩, ⟨some 40, .call 24 [.t 33, .t 34, .t 39], none, [0, 1, 6]⟩, ⟨some 41, .mv (.t 0), none, []⟩, ⟨some 42, .mv (.t 1), none, []⟩, ⟨some 43, .idxPtr 3 1 (.t 5) (.c (.int .i64 (1))), none, []⟩, ⟨some 44, .load 1 false (.t 43), none, [10]⟩, ⟨some 45, .idxPtr 3 1 (.t 5) (.c (.int .i64 (2))), none, []⟩, ⟨some 46, .load 1 false (.t 45), none, [12]⟩, ⟨some 47, .build [.int .i64 (0), .int .i64 (0)] [(0, 1, .t 44), (1, 1, .t 46)], none, [11, 13]⟩, ⟨some 48, .call 24 [.t 41, .t 42, .t 47], none, [8, 9, 14, 7]⟩, ⟨some 7, .mv (.t 40), none, [7, 15, 0, 1, 2, 3, 4, 5, 6, 7]⟩, ⟨some 8, .mv (.t 48), none, [15, 16, 0, 1, 2, 3, 4, 5, 6, 7, 8, 9, 10, 11, 12, 13, 14, 15, 16]⟩]).seq (((ACode.region true [⟨some 49, .mv (.t 7), none, []⟩, ⟨some 50, .len (.t 49), none, [0]⟩, ⟨some 51, .bin .gtr (.t 50) (.c (.int .i64 (0))), none, [1]⟩, ⟨some 52, .mv (.t 51), none, [2]⟩, ⟨some 53, .mv (.t 8), some (52, true), [3]⟩, ⟨some 54, .len (.t 53), some (52, true), [4, 3]⟩, ⟨some 55, .bin .gtr (.t 54) (.c (.int .i64 (0))), some (52, true), [5, 3]⟩, ⟨some 56, .pick (.t 52) (.t 55) (.c (.bool false)), none, [3, 6]⟩, ⟨some 57, .mv (.t 56), none, [7, 3]⟩, ⟨some 58, .mv (.t 7), some (57, true), [8]⟩, ⟨some 59, .mv (.t 7), some (57, true), [8]⟩, ⟨some 60, .len (.t 59), some (57, true), [10, 8]⟩, ⟨some 61, .bin .sub (.t 60) (.c (.int .i64 (1))), some (57, true), [11, 8]⟩, ⟨some 62, .idxAddr 2 (.t 58) (.t 61), some (57, true), [9, 12, 8]⟩, ⟨some 63, .fieldAddr 1 (.t 62), some (57, true), [13, 8]⟩, ⟨some 64, .load 1 false (.t 63), some (57, true), [14, 8]⟩, ⟨some 65, .mv (.t 8), some (57, true), [8]⟩, ⟨some 66, .idxAddr 2 (.t 65) (.c (.int .i64 (0))), some (57, true), [16, 8]⟩, ⟨some 67, .fieldAddr 0 (.t 66), some (57, true), [17, 8]⟩, ⟨some 68, .load 1 false (.t 67), some (57, true), [18, 8]⟩, ⟨some 69, .bin .eql (.t 64) (.t 68), some (57, true), [15, 19, 8]⟩, ⟨some 70, .pick (.t 57) (.t 69) (.c (.bool false)), none, [8, 20]⟩]).seq (ACode.cond (.t 70) ((ACode.region true [⟨some 71, .mv (.t 7), none, []⟩, ⟨some 72, .mv (.t 7), none, []⟩, ⟨some 73, .len (.t 72), none, [1]⟩, ⟨some 74, .bin .sub (.t 73) (.c (.int .i64 (1))), none, [2]⟩, ⟨some 75, .idxAddr 2 (.t 71) (.t 74), none, [0, 3]⟩, ⟨some 76, .fieldAddr 0 (.t 75), none, [4]⟩, ⟨some 77, .load 1 false (.t 76), none, [5]⟩, ⟨some 78, .mv (.t 8), none, []⟩, ⟨some 79, .idxAddr 2 (.t 78) (.c (.int .i64 (0))), none, [7]⟩, ⟨some 80, .fieldAddr 1 (.t 79), none, [8]⟩, ⟨some 81, .load 1 false (.t 80), none, [9]⟩, ⟨some 82, .build [.int .i64 (0), .int .i64 (0)] [(0, 1, .t 77), (1, 1, .t 81)], none, [6, 10]⟩, ⟨some 83, .buildSlice 37 2 [.t 82], none, [11]⟩, ⟨some 84, .mv (.t 8), none, []⟩, ⟨some 85, .slice 2 (.t 84) (some (.c (.int .i64 (1)))) none, none, [13]⟩, ⟨some 86, .append 37 2 16 (.t 83) (.t 85), none, [12, 14]⟩, ⟨some 8, .mv (.t 86), none, [15, 15, 0, 1, 2, 3, 4, 5, 6, 7, 8, 9, 10, 11, 12, 13, 14, 15]⟩]).seq (ACode.region false [⟨some 87, .mv (.t 7), none, []⟩, ⟨some 88, .mv (.t 7), none, []⟩, ⟨some 89, .len (.t 88), none, []⟩, ⟨some 90, .bin .sub (.t 89) (.c (.int .i64 (1))), none, []⟩, ⟨some 91, .slice 2 (.t 87) none (some (.t 90)), none, []⟩, ⟨some 7, .mv (.t 91), none, []⟩])) ACode.skip)).seq (((ACode.region true [⟨some 92, .buildSlice 37 2 [], none, []⟩, ⟨some 93, .mv (.t 7), none, []⟩, ⟨some 94, .append 37 2 16 (.t 92) (.t 93), none, [0, 1]⟩, ⟨some 95, .mv (.t 8), none, []⟩, ⟨some 96, .append 37 2 16 (.t 94) (.t 95), none, [2, 3, 2]⟩, ⟨some 97, .mv (.t 0), none, []⟩, ⟨some 98, .mv (.t 1), none, []⟩, ⟨some 99, .idxPtr 3 1 (.t 5) (.c (.int .i64 (0))), none, []⟩, ⟨some 100, .load 1 false (.t 99), none, [7]⟩, ⟨some 101, .idxPtr 3 1 (.t 5) (.c (.int .i64 (2))), none, []⟩, ⟨some 102, .load 1 false (.t 101), none, [9]⟩, ⟨some 103, .build [.int .i64 (0), .int .i64 (0)] [(0, 1, .t 100), (1, 1, .t 102)], none, [8, 10]⟩, ⟨some 104, .call 24 [.t 97, .t 98, .t 103], none, [5, 6, 11, 4]⟩, ⟨some 105, .call 23 [.t 96, .t 104], none, [4, 12, 12]⟩, ⟨some 106, .un .not (.t 105), none, [13]⟩]).seq (ACode.cond (.t 106) ((ACode.region false [⟨some 6, .mv (.c (.bool false)), none, []⟩]).seq ACode.ret) ACode.skip)).seq (((ACode.region false [⟨some 9, .mv (.c (.int .i64 (0))), none, []⟩]).seq (ACode.block 0 (((ACode.region false [⟨some 107, .mv (.t 9), none, []⟩, ⟨some 108, .mv (.t 0), none, []⟩, ⟨some 109, .len (.t 108), none, []⟩, ⟨some 110, .bin .lss (.t 107) (.t 109), none, []⟩]).seq (ACode.cond (.t 110) ACode.skip (ACode.exit 0))).seq ((ACode.block 1 ((ACode.region false [⟨some 10, .mv (.c (.int .i64 (0))), none, []⟩]).seq (ACode.block 2 (((ACode.region false [⟨some 113, .mv (.t 10), none, []⟩, ⟨some 114, .mv (.t 0), none, []⟩, ⟨some 115, .mv (.t 9), none, []⟩, ⟨some 116, .idxAddr 2 (.t 114) (.t 115), none, []⟩, ⟨some 117, .fieldAddr 1 (.t 116), none, []⟩, ⟨some 118, .load 1 false (.t 117), none, []⟩, ⟨some 119, .len (.t 118), none, []⟩, ⟨some 120, .bin .lss (.t 113) (.t 119), none, []⟩]).seq (ACode.cond (.t 120) ACode.skip (ACode.exit 2))).seq ((ACode.block 3 ((ACode.region false [⟨some 123, .mv (.t 0), none, []⟩, ⟨some 124, .mv (.t 9), none, []⟩, ⟨some 125, .idxAddr 2 (.t 123) (.t 124), none, []⟩, ⟨some 126, .fieldAddr 1 (.t 125), none, []⟩, ⟨some 127, .load 1 false (.t 126), none, []⟩, ⟨some 128, .mv (.t 10), none, []⟩, ⟨some 129, .idxAddr 3 (.t 127) (.t 128), none, []⟩, ⟨some 130, .load 3 true (.t 129), none, []⟩, ⟨some 11, .alloc [.string ⟨⟨[]⟩⟩, .int .i64 (0), .int .i64 (0)], none, []⟩, ⟨none, .store 3 (.t 11) (.t 130), none, []⟩]).seq ((ACode.region true [⟨some 131, .mv (.t 10), none, []⟩, ⟨some 132, .bin .eql (.t 131) (.c (.int .i64 (0))), none, [0]⟩, ⟨some 133, .mv (.t 132), none, [1]⟩, ⟨some 134, .mv (.t 0), some (133, false), [2]⟩, ⟨some 135, .mv (.t 9), some (133, false), [2]⟩, ⟨some 136, .idxAddr 2 (.t 134) (.t 135), some (133, false), [3, 4, 2]⟩, ⟨some 137, .fieldAddr 1 (.t 136), some (133, false), [5, 2]⟩, ⟨some 138, .load 1 false (.t 137), some (133, false), [6, 2]⟩, ⟨some 139, .mv (.t 10), some (133, false), [2]⟩, ⟨some 140, .bin .sub (.t 139) (.c (.int .i64 (1))), some (133, false), [8, 2]⟩, ⟨some 141, .idxAddr 3 (.t 138) (.t 140), some (133, false), [7, 9, 2]⟩, ⟨some 142, .fieldAddr 0 (.t 141), some (133, false), [10, 2]⟩, ⟨some 143, .load 1 false (.t 142), some (133, false), [11, 2]⟩, ⟨some 144, .fieldAddr 0 (.t 11), some (133, false), [2]⟩, ⟨some 145, .load 1 false (.t 144), some (133, false), [13, 2]⟩, ⟨some 146, .bin .neq (.t 143) (.t 145), some (133, false), [12, 14, 2]⟩, ⟨some 147, .pick (.t 133) (.c (.bool true)) (.t 146), none, [2, 15]⟩, ⟨some 148, .mv (.t 147), none, [16, 2]⟩, ⟨some 149, .mv (.t 0), some (148, false), [17]⟩, ⟨some 150, .mv (.t 9), some (148, false), [17]⟩, ⟨some 151, .idxAddr 2 (.t 149) (.t 150), some (148, false), [18, 19, 17]⟩, ⟨some 152, .fieldAddr 1 (.t 151), some (148, false), [20, 17]⟩, ⟨some 153, .load 1 false (.t 152), some (148, false), [21, 17]⟩, ⟨some 154, .mv (.t 10), some (148, false), [17]⟩, ⟨some 155, .bin .sub (.t 154) (.c (.int .i64 (1))), some (148, false), [23, 17]⟩, ⟨some 156, .idxAddr 3 (.t 153) (.t 155), some (148, false), [22, 24, 17]⟩, ⟨some 157, .fieldAddr 2 (.t 156), some (148, false), [25, 17]⟩, ⟨some 158, .load 1 false (.t 157), some (148, false), [26, 17]⟩, ⟨some 159, .fieldAddr 1 (.t 11), some (148, false), [17]⟩, ⟨some 160, .load 1 false (.t 159), some (148, false), [28, 17]⟩, ⟨some 161, .bin .lss (.t 158) (.t 160), some (148, false), [27, 29, 17]⟩, ⟨some 162, .pick (.t 148) (.c (.bool true)) (.t 161), none, [17, 30]⟩, ⟨some 163, .mv (.t 162), none, [31, 17]⟩, ⟨some 164, .mv (.t 10), some (163, true), [32]⟩, ⟨some 165, .bin .add (.t 164) (.c (.int .i64 (1))), some (163, true), [33, 32]⟩, ⟨some 166, .mv (.t 0), some (163, true), [32]⟩, ⟨some 167, .mv (.t 9), some (163, true), [32]⟩, ⟨some 168, .idxAddr 2 (.t 166) (.t 167), some (163, true), [35, 36, 32]⟩, ⟨some 169, .fieldAddr 1 (.t 168), some (163, true), [37, 32]⟩, ⟨some 170, .load 1 false (.t 169), some (163, true), [38, 32]⟩, ⟨some 171, .len (.t 170), some (163, true), [39, 32]⟩, ⟨some 172, .bin .eql (.t 165) (.t 171), some (163, true), [34, 40, 32]⟩, ⟨some 173, .mv (.t 172), some (163, true), [41, 32, 32]⟩, ⟨some 174, .mv (.t 0), some (173, false), [42]⟩, ⟨some 175, .mv (.t 9), some (173, false), [42]⟩, ⟨some 176, .idxAddr 2 (.t 174) (.t 175), some (173, false), [43, 44, 42]⟩, ⟨some 177, .fieldAddr 1 (.t 176), some (173, false), [45, 42]⟩, ⟨some 178, .load 1 false (.t 177), some (173, false), [46, 42]⟩, ⟨some 179, .mv (.t 10), some (173, false), [42]⟩, ⟨some 180, .bin .add (.t 179) (.c (.int .i64 (1))), some (173, false), [48, 42]⟩, ⟨some 181, .idxAddr 3 (.t 178) (.t 180), some (173, false), [47, 49, 42]⟩, ⟨some 182, .fieldAddr 0 (.t 181), some (173, false), [50, 42]⟩, ⟨some 183, .load 1 false (.t 182), some (173, false), [51, 42]⟩, ⟨some 184, .fieldAddr 0 (.t 11), some (173, false), [42]⟩, ⟨some 185, .load 1 false (.t 184), some (173, false), [53, 42]⟩, ⟨some 186, .bin .neq (.t 183) (.t 185), some (173, false), [52, 54, 42]⟩, ⟨some 187, .pick (.t 173) (.c (.bool true)) (.t 186), some (163, true), [42, 55, 32]⟩, ⟨some 188, .mv (.t 187), some (163, true), [56, 42, 32]⟩, ⟨some 189, .fieldAddr 2 (.t 11), some (188, false), [57]⟩, ⟨some 190, .load 1 false (.t 189), some (188, false), [58, 57]⟩, ⟨some 191, .mv (.t 0), some (188, false), [57]⟩, ⟨some 192, .mv (.t 9), some (188, false), [57]⟩, ⟨some 193, .idxAddr 2 (.t 191) (.t 192), some (188, false), [60, 61, 57]⟩, ⟨some 194, .fieldAddr 1 (.t 193), some (188, false), [62, 57]⟩, ⟨some 195, .load 1 false (.t 194), some (188, false), [63, 57]⟩, ⟨some 196, .mv (.t 10), some (188, false), [57]⟩, ⟨some 197, .bin .add (.t 196) (.c (.int .i64 (1))), some (188, false), [65, 57]⟩, ⟨some 198, .idxAddr 3 (.t 195) (.t 197), some (188, false), [64, 66, 57]⟩, ⟨some 199, .fieldAddr 1 (.t 198), some (188, false), [67, 57]⟩, ⟨some 200, .load 1 false (.t 199), some (188, false), [68, 57]⟩, ⟨some 201, .bin .lss (.t 190) (.t 200), some (188, false), [59, 69, 57]⟩, ⟨some 202, .pick (.t 188) (.c (.bool true)) (.t 201), some (163, true), [57, 70, 32]⟩, ⟨some 203, .pick (.t 163) (.t 202) (.c (.bool false)), none, [32, 71]⟩, ⟨some 12, .mv (.t 203), none, [72, 57, 0, 1, 2, 3, 4, 5, 6, 7, 8, 9, 10, 11, 12, 13, 14, 15, 16, 17, 18, 19, 20, 21, 22, 23, 24, 25, 26, 27, 28, 29, 30, 31, 32, 33, 34, 35, 36, 37, 38, 39, 40, 41, 42, 43, 44, 45, 46, 47, 48, 49, 50, 51, 52, 53, 54, 55, 56, 57, 58, 59, 60, 61, 62, 63, 64, 65, 66, 67, 68, 69, 70, 71, 72]⟩]).seq ((ACode.region true [⟨some 205, .mv (.t 0), none, []⟩, ⟨some 206, .mv (.t 0), none, []⟩, ⟨some 207, .mv (.t 9), none, []⟩, ⟨some 208, .idxAddr 2 (.t 206) (.t 207), none, [1, 2]⟩, ⟨some 209, .fieldAddr 0 (.t 208), none, [3]⟩, ⟨some 210, .load 1 false (.t 209), none, [4]⟩, ⟨some 211, .fieldAddr 0 (.t 11), none, []⟩, ⟨some 212, .load 1 false (.t 211), none, [6]⟩, ⟨some 213, .fieldAddr 1 (.t 11), none, []⟩, ⟨some 214, .load 1 false (.t 213), none, [8]⟩, ⟨some 215, .fieldAddr 2 (.t 11), none, []⟩, ⟨some 216, .load 1 false (.t 215), none, [10]⟩, ⟨some 217, .fieldAddr 1 (.t 11), none, []⟩, ⟨some 218, .load 1 false (.t 217), none, [12]⟩, ⟨some 219, .bin .sub (.t 216) (.t 218), none, [11, 13]⟩, ⟨some 220, .call 20 [.t 205, .t 210, .t 212, .t 214, .t 219], none, [0, 5, 7, 9, 14]⟩, ⟨some 204, .mv (.t 220), none, [15]⟩, ⟨some 221, .extract (.t 204) 0, none, [16]⟩, ⟨some 222, .extract (.t 204) 1, none, [16]⟩, ⟨some 13, .mv (.t 221), none, [17, 15, 0, 1, 2, 3, 4, 5, 6, 7, 8, 9, 10, 11, 12, 13, 14, 15, 16, 17]⟩, ⟨some 14, .mv (.t 222), none, [18, 19, 0, 1, 2, 3, 4, 5, 6, 7, 8, 9, 10, 11, 12, 13, 14, 15, 16, 17, 18, 19]⟩]).seq ((ACode.region false [⟨some 223, .mv (.t 12), none, []⟩, ⟨some 224, .mv (.t 223), none, []⟩, ⟨some 225, .mv (.t 14), some (224, true), []⟩, ⟨some 226, .bin .neq (.t 225) (.c (.int .i64 (0))), some (224, true), []⟩, ⟨some 227, .mv (.t 226), some (224, true), []⟩, ⟨some 228, .mv (.t 13), some (227, false), []⟩, ⟨some 229, .mv (.t 0), some (227, false), []⟩, ⟨some 230, .call 22 [.t 228, .t 229], some (227, false), []⟩, ⟨some 231, .un .not (.t 230), some (227, false), []⟩, ⟨some 232, .pick (.t 227) (.c (.bool true)) (.t 231), some (224, true), []⟩, ⟨some 233, .pick (.t 224) (.t 232) (.c (.bool false)), none, []⟩]).seq (ACode.cond (.t 233) ((ACode.region false [⟨some 6, .mv (.c (.bool false)), none, []⟩]).seq ACode.ret) ACode.skip)))))).seq (ACode.region false [⟨some 121, .mv (.t 10), none, []⟩, ⟨some 122, .bin .add (.t 121) (.c (.int .i64 (1))), none, []⟩, ⟨some 10, .mv (.t 122), none, []⟩]))).loop))).seq (ACode.region false [⟨some 111, .mv (.t 9), none, []⟩, ⟨some 112, .bin .add (.t 111) (.c (.int .i64 (1))), none, []⟩, ⟨some 9, .mv (.t 112), none, []⟩]))).loop)).seq ((ACode.region false [⟨some 234, .call 14 [], none, []⟩, ⟨some 6, .mv (.t 234), none, []⟩]).seq ACode.ret)))))))
theorem Try.F10 : FnFacts Try.prog 10 Try.f10 Try.ac10 235 [.tmp 6] := ⟨Try.func10, by kernel_rfl, by kernel_rfl, by kernel_rfl, by kernel_rfl, by kernel_rfl, by kernel_rfl, by kernel_rfl⟩
def Try.ac11 : ACode := ((ACode.region false [⟨some 2, .mv (.c (.bool false)), none, []⟩]).seq (((ACode.region false [⟨some 3, .mv (.c (.int .i64 (0))), none, []⟩]).seq (ACode.block 0 (((ACode.region false [⟨some 5, .mv (.t 3), none, []⟩, ⟨some 6, .mv (.t 0), none, []⟩, ⟨some 7, .len (.t 6), none, []⟩, ⟨some 8, .bin .lss (.t 5) (.t 7), none, []⟩, ⟨some 9, .mv (.t 8), none, []⟩, ⟨some 10, .mv (.t 3), some (9, true), []⟩, ⟨some 11, .bin .lss (.t 10) (.c (.int .i64 (41))), some (9, true), []⟩, ⟨some 12, .pick (.t 9) (.t 11) (.c (.bool false)), none, []⟩]).seq (ACode.cond (.t 12) ACode.skip (ACode.exit 0))).seq ((ACode.block 1 (((ACode.region false [⟨some 15, .mv (.t 0), none, []⟩, ⟨some 16, .mv (.t 3), none, []⟩, ⟨some 17, .idxAddr 2 (.t 15) (.t 16), none, []⟩, ⟨some 18, .fieldAddr 0 (.t 17), none, []⟩, ⟨some 19, .load 1 false (.t 18), none, []⟩, ⟨some 20, .lenStr (.t 19), none, []⟩, ⟨some 21, .bin .gtr (.t 20) (.c (.int .i64 (100))), none, []⟩, ⟨some 22, .mv (.t 21), none, []⟩, ⟨some 23, .mv (.t 0), some (22, false), []⟩, ⟨some 24, .mv (.t 3), some (22, false), []⟩, ⟨some 25, .idxAddr 2 (.t 23) (.t 24), some (22, false), []⟩, ⟨some 26, .fieldAddr 1 (.t 25), some (22, false), []⟩, ⟨some 27, .load 1 false (.t 26), some (22, false), []⟩, ⟨some 28, .len (.t 27), some (22, false), []⟩, ⟨some 29, .bin .gtr (.t 28) (.c (.int .i64 (40))), some (22, false), []⟩, ⟨some 30, .pick (.t 22) (.c (.bool true)) (.t 29), none, []⟩]).seq (ACode.cond (.t 30) ((ACode.region false [⟨some 2, .mv (.c (.bool false)), none, []⟩]).seq ACode.ret) ACode.skip)).seq ((ACode.region false [⟨some 4, .mv (.c (.int .i64 (0))), none, []⟩]).seq (ACode.block 2 (((ACode.region false [⟨some 31, .mv (.t 4), none, []⟩, ⟨some 32, .mv (.t 0), none, []⟩, ⟨some 33, .mv (.t 3), none, []⟩, ⟨some 34, .idxAddr 2 (.t 32) (.t 33), none, []⟩, ⟨some 35, .fieldAddr 1 (.t 34), none, []⟩, ⟨some 36, .load 1 false (.t 35), none, []⟩, ⟨some 37, .len (.t 36), none, []⟩, ⟨some 38, .bin .lss (.t 31) (.t 37), none, []⟩]).seq (ACode.cond (.t 38) ACode.skip (ACode.exit 2))).seq ((ACode.block 3 ((ACode.region false [⟨some 41, .mv (.t 0), none, []⟩, ⟨some 42, .mv (.t 3), none, []⟩, ⟨some 43, .idxAddr 2 (.t 41) (.t 42), none, []⟩, ⟨some 44, .fieldAddr 1 (.t 43), none, []⟩, ⟨some 45, .load 1 false (.t 44), none, []⟩, ⟨some 46, .mv (.t 4), none, []⟩, ⟨some 47, .idxAddr 3 (.t 45) (.t 46), none, []⟩, ⟨some 48, .fieldAddr 0 (.t 47), none, []⟩, ⟨some 49, .load 1 false (.t 48), none, []⟩, ⟨some 50, .lenStr (.t 49), none, []⟩, ⟨some 51, .bin .gtr (.t 50) (.c (.int .i64 (100))), none, []⟩]).seq (ACode.cond (.t 51) ((ACode.region false [⟨some 2, .mv (.c (.bool false)), none, []⟩]).seq ACode.ret) ACode.skip))).seq (ACode.region false [⟨some 39, .mv (.t 4), none, []⟩, ⟨some 40, .bin .add (.t 39) (.c (.int .i64 (1))), none, []⟩, ⟨some 4, .mv (.t 40), none, []⟩]))).loop)))).seq (ACode.region false [⟨some 13, .mv (.t 3), none, []⟩, ⟨some 14, .bin .add (.t 13) (.c (.int .i64 (1))), none, []⟩, ⟨some 3, .mv (.t 14), none, []⟩]))).loop)).seq ((ACode.region false [⟨some 52, .mv (.t 0), none, []⟩, ⟨some 53, .len (.t 52), none, []⟩, ⟨some 54, .bin .leq (.t 53) (.c (.int .i64 (40))), none, []⟩, ⟨some 2, .mv (.t 54), none, []⟩]).seq ACode.ret)))
theorem Try.F11 : FnFacts Try.prog 11 Try.f11 Try.ac11 55 [.tmp 2] := ⟨Try.func11, by kernel_rfl, by kernel_rfl, by kernel_rfl, by kernel_rfl, by kernel_rfl, by kernel_rfl, by kernel_rfl⟩
def Try.ac12 : ACode := ((ACode.region false [⟨some 2, .mv (.c (.int .i64 (0))), none, []⟩]).seq (((ACode.region false [⟨some 6, .mv (.t 0), none, []⟩, ⟨some 7, .len (.t 6), none, []⟩, ⟨some 8, .bin .gtr (.t 7) (.c (.int .i64 (32))), none, []⟩]).seq (ACode.cond (.t 8) ((ACode.region false [⟨some 2, .mv (.c (.int .i64 (4))), none, []⟩]).seq ACode.ret) ACode.skip)).seq (((ACode.region false [⟨some 9, .mv (.t 0), none, []⟩, ⟨some 10, .len (.t 9), none, []⟩, ⟨some 11, .mv (.c (.int .i64 (0))), none, []⟩]).seq (ACode.block 0 ((ACode.region false [⟨some 12, .bin .lss (.t 11) (.t 10), none, []⟩]).seq ((ACode.cond (.t 12) ACode.skip (ACode.exit 0)).seq ((ACode.block 1 ((ACode.region false [⟨some 13, .mv (.t 11), none, []⟩, ⟨some 14, .idxAddr 2 (.t 9) (.t 11), none, []⟩, ⟨some 15, .load 2 true (.t 14), none, []⟩, ⟨some 4, .alloc [.string ⟨⟨[]⟩⟩, .slice none 0 0], none, []⟩, ⟨some 3, .mv (.t 13), none, []⟩, ⟨none, .store 2 (.t 4) (.t 15), none, []⟩]).seq (((ACode.region false [⟨some 16, .fieldAddr 0 (.t 4), none, []⟩, ⟨some 17, .load 1 false (.t 16), none, []⟩, ⟨some 18, .call 26 [.t 17], none, []⟩, ⟨some 19, .un .not (.t 18), none, []⟩]).seq (ACode.cond (.t 19) ((ACode.region false [⟨some 2, .mv (.c (.int .i64 (6))), none, []⟩]).seq ACode.ret) ACode.skip)).seq (((ACode.region false [⟨some 20, .fieldAddr 1 (.t 4), none, []⟩, ⟨some 21, .load 1 false (.t 20), none, []⟩, ⟨some 22, .len (.t 21), none, []⟩, ⟨some 23, .bin .gtr (.t 22) (.c (.int .i64 (16))), none, []⟩]).seq (ACode.cond (.t 23) ((ACode.region false [⟨some 2, .mv (.c (.int .i64 (4))), none, []⟩]).seq ACode.ret) ACode.skip)).seq (((ACode.region false [⟨some 24, .fieldAddr 1 (.t 4), none, []⟩, ⟨some 25, .load 1 false (.t 24), none, []⟩, ⟨some 26, .call 27 [.t 25], none, []⟩, ⟨some 5, .mv (.t 26), none, []⟩]).seq ((ACode.region false [⟨some 27, .mv (.t 5), none, []⟩, ⟨some 28, .bin .neq (.t 27) (.c (.int .i64 (0))), none, []⟩]).seq (ACode.cond (.t 28) ((ACode.region false [⟨some 29, .mv (.t 5), none, []⟩, ⟨some 2, .mv (.t 29), none, []⟩]).seq ACode.ret) ACode.skip))).seq ((ACode.region true [⟨some 30, .mv (.t 3), none, []⟩, ⟨some 31, .bin .gtr (.t 30) (.c (.int .i64 (0))), none, [0]⟩, ⟨some 32, .mv (.t 31), none, [1]⟩, ⟨some 33, .fieldAddr 0 (.t 4), some (32, true), [2]⟩, ⟨some 34, .load 1 false (.t 33), some (32, true), [3, 2]⟩, ⟨some 35, .mv (.t 0), some (32, true), [2]⟩, ⟨some 36, .mv (.t 3), some (32, true), [2]⟩, ⟨some 37, .bin .sub (.t 36) (.c (.int .i64 (1))), some (32, true), [6, 2]⟩, ⟨some 38, .idxAddr 2 (.t 35) (.t 37), some (32, true), [5, 7, 2]⟩, ⟨some 39, .fieldAddr 0 (.t 38), some (32, true), [8, 2]⟩, ⟨some 40, .load 1 false (.t 39), some (32, true), [9, 2]⟩, ⟨some 41, .bin .leq (.t 34) (.t 40), some (32, true), [4, 10, 2]⟩, ⟨some 42, .pick (.t 32) (.t 41) (.c (.bool false)), none, [2, 11]⟩]).seq (ACode.cond (.t 42) ((ACode.region false [⟨some 2, .mv (.c (.int .i64 (11))), none, []⟩]).seq ACode.ret) ACode.skip))))))).seq (ACode.region false [⟨some 43, .bin .add (.t 11) (.c (.int .i64 (1))), none, []⟩, ⟨some 11, .mv (.t 43), none, []⟩])))).loop)).seq ((ACode.region false [⟨some 2, .mv (.c (.int .i64 (0))), none, []⟩]).seq ACode.ret))))
theorem Try.F12 : FnFacts Try.prog 12 Try.f12 Try.ac12 44 [.tmp 2] := ⟨Try.func12, by kernel_rfl, by kernel_rfl, by kernel_rfl, by kernel_rfl, by kernel_rfl, by kernel_rfl, by kernel_rfl⟩
def Try.ac13 : ACode := ((ACode.region false [⟨some 2, .mv (.c (.int .i64 (0))), none, []⟩]).seq (((ACode.region false [⟨some 5, .mv (.t 0), none, []⟩, ⟨some 6, .len (.t 5), none, []⟩, ⟨some 7, .bin .gtr (.t 6) (.c (.int .i64 (32))), none, []⟩]).seq (ACode.cond (.t 7) ((ACode.region false [⟨some 2, .mv (.c (.int .i64 (4))), none, []⟩]).seq ACode.ret) ACode.skip)).seq (((ACode.region false [⟨some 3, .mv (.c (.int .i64 (0))), none, []⟩]).seq (ACode.block 0 (((ACode.region false [⟨some 8, .mv (.t 3), none, []⟩, ⟨some 9, .mv (.t 0), none, []⟩, ⟨some 10, .len (.t 9), none, []⟩, ⟨some 11, .bin .lss (.t 8) (.t 10), none, []⟩]).seq (ACode.cond (.t 11) ACode.skip (ACode.exit 0))).seq ((ACode.block 1 (((ACode.region false [⟨some 14, .mv (.t 0), none, []⟩, ⟨some 15, .mv (.t 3), none, []⟩, ⟨some 16, .idxAddr 2 (.t 14) (.t 15), none, []⟩, ⟨some 17, .fieldAddr 0 (.t 16), none, []⟩, ⟨some 18, .load 1 false (.t 17), none, []⟩, ⟨some 19, .call 28 [.t 18], none, []⟩, ⟨some 20, .un .not (.t 19), none, []⟩]).seq (ACode.cond (.t 20) ((ACode.region false [⟨some 2, .mv (.c (.int .i64 (6))), none, []⟩]).seq ACode.ret) ACode.skip)).seq (((ACode.region false [⟨some 21, .mv (.t 0), none, []⟩, ⟨some 22, .mv (.t 3), none, []⟩, ⟨some 23, .idxAddr 2 (.t 21) (.t 22), none, []⟩, ⟨some 24, .fieldAddr 1 (.t 23), none, []⟩, ⟨some 25, .load 1 false (.t 24), none, []⟩, ⟨some 26, .call 29 [.t 25], none, []⟩, ⟨some 4, .mv (.t 26), none, []⟩]).seq ((ACode.region false [⟨some 27, .mv (.t 4), none, []⟩, ⟨some 28, .bin .neq (.t 27) (.c (.int .i64 (0))), none, []⟩]).seq (ACode.cond (.t 28) ((ACode.region false [⟨some 29, .mv (.t 4), none, []⟩, ⟨some 2, .mv (.t 29), none, []⟩]).seq ACode.ret) ACode.skip))).seq ((ACode.region true [⟨some 30, .mv (.t 3), none, []⟩, ⟨some 31, .bin .gtr (.t 30) (.c (.int .i64 (0))), none, [0]⟩, ⟨some 32, .mv (.t 31), none, [1]⟩, ⟨some 33, .mv (.t 0), some (32, true), [2]⟩, ⟨some 34, .mv (.t 3), some (32, true), [2]⟩, ⟨some 35, .idxAddr 2 (.t 33) (.t 34), some (32, true), [3, 4, 2]⟩, ⟨some 36, .fieldAddr 0 (.t 35), some (32, true), [5, 2]⟩, ⟨some 37, .load 1 false (.t 36), some (32, true), [6, 2]⟩, ⟨some 38, .mv (.t 0), some (32, true), [2]⟩, ⟨some 39, .mv (.t 3), some (32, true), [2]⟩, ⟨some 40, .bin .sub (.t 39) (.c (.int .i64 (1))), some (32, true), [9, 2]⟩, ⟨some 41, .idxAddr 2 (.t 38) (.t 40), some (32, true), [8, 10, 2]⟩, ⟨some 42, .fieldAddr 0 (.t 41), some (32, true), [11, 2]⟩, ⟨some 43, .load 1 false (.t 42), some (32, true), [12, 2]⟩, ⟨some 44, .bin .leq (.t 37) (.t 43), some (32, true), [7, 13, 2]⟩, ⟨some 45, .pick (.t 32) (.t 44) (.c (.bool false)), none, [2, 14]⟩]).seq (ACode.cond (.t 45) ((ACode.region false [⟨some 2, .mv (.c (.int .i64 (11))), none, []⟩]).seq ACode.ret) ACode.skip))))).seq (ACode.region false [⟨some 12, .mv (.t 3), none, []⟩, ⟨some 13, .bin .add (.t 12) (.c (.int .i64 (1))), none, []⟩, ⟨some 3, .mv (.t 13), none, []⟩]))).loop)).seq ((ACode.region false [⟨some 2, .mv (.c (.int .i64 (0))), none, []⟩]).seq ACode.ret))))
theorem Try.F13 : FnFacts Try.prog 13 Try.f13 Try.ac13 46 [.tmp 2] := ⟨Try.func13, by kernel_rfl, by kernel_rfl, by kernel_rfl, by kernel_rfl, by kernel_rfl, by kernel_rfl, by kernel_rfl⟩
def Try.ac14 : ACode := ((ACode.region false [⟨some 0, .mv (.c (.bool false)), none, []⟩]).seq ((ACode.region false [⟨some 13, .call 30 [], none, []⟩, ⟨some 1, .mv (.t 13), none, []⟩]).seq ((ACode.region false [⟨some 15, .mv (.t 1), none, []⟩, ⟨some 16, .call 20 [.t 15, .c (.string ⟨⟨[(65 : UInt8), (110 : UInt8), (110 : UInt8)]⟩⟩), .c (.string ⟨⟨[(80 : UInt8)]⟩⟩), .c (.int .i64 (5)), .c (.int .i64 (4))], none, []⟩, ⟨some 14, .mv (.t 16), none, []⟩, ⟨some 17, .extract (.t 14) 0, none, []⟩, ⟨some 18, .extract (.t 14) 1, none, []⟩, ⟨some 2, .mv (.t 17), none, []⟩, ⟨some 3, .mv (.t 18), none, []⟩]).seq ((ACode.region false [⟨some 20, .mv (.t 1), none, []⟩, ⟨some 21, .call 20 [.t 20, .c (.string ⟨⟨[(69 : UInt8), (118 : UInt8), (101 : UInt8)]⟩⟩), .c (.string ⟨⟨[(80 : UInt8)]⟩⟩), .c (.int .i64 (5)), .c (.int .i64 (4))], none, []⟩, ⟨some 19, .mv (.t 21), none, []⟩, ⟨some 22, .extract (.t 19) 0, none, []⟩, ⟨some 23, .extract (.t 19) 1, none, []⟩, ⟨some 4, .mv (.t 22), none, []⟩, ⟨some 5, .mv (.t 23), none, []⟩]).seq ((ACode.region false [⟨some 25, .mv (.t 1), none, []⟩, ⟨some 26, .call 16 [.t 25, .c (.string ⟨⟨[(80 : UInt8)]⟩⟩), .c (.int .i64 (4))], none, []⟩, ⟨some 24, .mv (.t 26), none, []⟩, ⟨some 27, .extract (.t 24) 0, none, []⟩, ⟨some 28, .extract (.t 24) 1, none, []⟩, ⟨some 6, .mv (.t 27), none, []⟩, ⟨some 7, .mv (.t 28), none, []⟩]).seq ((ACode.region false [⟨some 30, .mv (.t 1), none, []⟩, ⟨some 31, .call 16 [.t 30, .c (.string ⟨⟨[(80 : UInt8)]⟩⟩), .c (.int .i64 (5))], none, []⟩, ⟨some 29, .mv (.t 31), none, []⟩, ⟨some 32, .extract (.t 29) 0, none, []⟩, ⟨some 33, .extract (.t 29) 1, none, []⟩, ⟨some 8, .mv (.t 32), none, []⟩, ⟨some 9, .mv (.t 33), none, []⟩]).seq ((ACode.region false [⟨some 35, .mv (.t 1), none, []⟩, ⟨some 36, .call 16 [.t 35, .c (.string ⟨⟨[(80 : UInt8)]⟩⟩), .c (.int .i64 (6))], none, []⟩, ⟨some 34, .mv (.t 36), none, []⟩, ⟨some 37, .extract (.t 34) 0, none, []⟩, ⟨some 38, .extract (.t 34) 1, none, []⟩, ⟨some 10, .mv (.t 37), none, []⟩, ⟨some 11, .mv (.t 38), none, []⟩]).seq (((ACode.region false [⟨some 39, .mv (.t 1), none, []⟩, ⟨some 40, .call 12 [.t 39], none, []⟩, ⟨some 41, .bin .neq (.t 40) (.c (.int .i64 (0))), none, []⟩, ⟨some 42, .mv (.t 41), none, []⟩, ⟨some 43, .build [.string ⟨⟨[]⟩⟩, .int .i64 (0), .int .i64 (0)] [(0, 1, .c (.string ⟨⟨[(80 : UInt8)]⟩⟩)), (2, 1, .c (.int .i64 (5)))], some (42, false), []⟩, ⟨some 44, .build [.string ⟨⟨[]⟩⟩, .int .i64 (0), .int .i64 (0)] [(0, 1, .c (.string ⟨⟨[(80 : UInt8)]⟩⟩)), (1, 1, .c (.int .i64 (4))), (2, 1, .c (.int .i64 (9)))], some (42, false), []⟩, ⟨some 45, .buildSlice 50 3 [.t 43, .t 44], some (42, false), []⟩, ⟨some 46, .build [.string ⟨⟨[]⟩⟩, .slice none 0 0] [(0, 1, .c (.string ⟨⟨[(65 : UInt8), (110 : UInt8), (110 : UInt8)]⟩⟩)), (1, 1, .t 45)], some (42, false), []⟩, ⟨some 47, .buildSlice 47 2 [.t 46], some (42, false), []⟩, ⟨some 48, .call 12 [.t 47], some (42, false), []⟩, ⟨some 49, .bin .neq (.t 48) (.c (.int .i64 (11))), some (42, false), []⟩, ⟨some 50, .pick (.t 42) (.c (.bool true)) (.t 49), none, []⟩, ⟨some 51, .mv (.t 50), none, []⟩, ⟨some 52, .mv (.t 3), some (51, false), []⟩, ⟨some 53, .bin .neq (.t 52) (.c (.int .i64 (0))), some (51, false), []⟩, ⟨some 54, .pick (.t 51) (.c (.bool true)) (.t 53), none, []⟩, ⟨some 55, .mv (.t 54), none, []⟩, ⟨some 56, .mv (.t 5), some (55, false), []⟩, ⟨some 57, .bin .neq (.t 56) (.c (.int .i64 (8))), some (55, false), []⟩, ⟨some 58, .pick (.t 55) (.c (.bool true)) (.t 57), none, []⟩, ⟨some 59, .mv (.t 58), none, []⟩, ⟨some 60, .mv (.t 6), some (59, false), []⟩, ⟨some 61, .bin .neq (.t 60) (.c (.string ⟨⟨[(65 : UInt8), (110 : UInt8), (110 : UInt8)]⟩⟩)), some (59, false), []⟩, ⟨some 62, .pick (.t 59) (.c (.bool true)) (.t 61), none, []⟩, ⟨some 63, .mv (.t 62), none, []⟩, ⟨some 64, .mv (.t 8), some (63, false), []⟩, ⟨some 65, .bin .neq (.t 64) (.c (.string ⟨⟨[(66 : UInt8), (111 : UInt8), (98 : UInt8)]⟩⟩)), some (63, false), []⟩, ⟨some 66, .pick (.t 63) (.c (.bool true)) (.t 65), none, []⟩, ⟨some 67, .mv (.t 66), none, []⟩, ⟨some 68, .mv (.t 7), some (67, false), []⟩, ⟨some 69, .un .not (.t 68), some (67, false), []⟩, ⟨some 70, .pick (.t 67) (.c (.bool true)) (.t 69), none, []⟩, ⟨some 71, .mv (.t 70), none, []⟩, ⟨some 72, .mv (.t 9), some (71, false), []⟩, ⟨some 73, .un .not (.t 72), some (71, false), []⟩, ⟨some 74, .pick (.t 71) (.c (.bool true)) (.t 73), none, []⟩, ⟨some 75, .mv (.t 74), none, []⟩, ⟨some 76, .mv (.t 11), some (75, false), []⟩, ⟨some 77, .pick (.t 75) (.c (.bool true)) (.t 76), none, []⟩]).seq (ACode.cond (.t 77) ((ACode.region false [⟨some 0, .mv (.c (.bool false)), none, []⟩]).seq ACode.ret) ACode.skip)).seq ((ACode.region false [⟨some 78, .build [.string ⟨⟨[]⟩⟩, .int .i64 (0), .int .i64 (0)] [(0, 1, .c (.string ⟨⟨[(80 : UInt8)]⟩⟩)), (2, 1, .c (.int .i64 (12)))], none, []⟩, ⟨some 79, .buildSlice 50 3 [.t 78], none, []⟩, ⟨some 80, .build [.string ⟨⟨[]⟩⟩, .slice none 0 0] [(0, 1, .c (.string ⟨⟨[(65 : UInt8), (110 : UInt8), (110 : UInt8)]⟩⟩)), (1, 1, .t 79)], none, []⟩, ⟨some 81, .mv (.t 1), none, []⟩, ⟨some 82, .idxAddr 2 (.t 81) (.c (.int .i64 (1))), none, []⟩, ⟨some 83, .load 2 true (.t 82), none, []⟩, ⟨some 84, .buildSlice 47 2 [.t 80, .t 83], none, []⟩, ⟨some 12, .mv (.t 84), none, []⟩]).seq ((ACode.region false [⟨some 85, .mv (.t 2), none, []⟩, ⟨some 86, .mv (.t 12), none, []⟩, ⟨some 87, .call 22 [.t 85, .t 86], none, []⟩, ⟨some 88, .mv (.t 87), none, []⟩, ⟨some 89, .mv (.t 2), some (88, true), []⟩, ⟨some 90, .call 18 [.t 89, .c (.string ⟨⟨[(65 : UInt8), (110 : UInt8), (110 : UInt8)]⟩⟩), .c (.string ⟨⟨[(80 : UInt8)]⟩⟩), .c (.int .i64 (8))], some (88, true), []⟩, ⟨some 91, .pick (.t 88) (.t 90) (.c (.bool false)), none, []⟩, ⟨some 92, .mv (.t 91), none, []⟩, ⟨some 93, .mv (.t 1), some (92, true), []⟩, ⟨some 94, .call 18 [.t 93, .c (.string ⟨⟨[(65 : UInt8), (110 : UInt8), (110 : UInt8)]⟩⟩), .c (.string ⟨⟨[(80 : UInt8)]⟩⟩), .c (.int .i64 (8))], some (92, true), []⟩, ⟨some 95, .un .not (.t 94), some (92, true), []⟩, ⟨some 96, .pick (.t 92) (.t 95) (.c (.bool false)), none, []⟩, ⟨some 97, .mv (.t 96), none, []⟩, ⟨some 98, .mv (.t 1), some (97, true), []⟩, ⟨some 99, .build [.int .i64 (0), .int .i64 (0)] [(0, 1, .c (.int .i64 (2))), (1, 1, .c (.int .i64 (20)))], some (97, true), []⟩, ⟨some 100, .call 24 [.t 98, .c (.string ⟨⟨[(80 : UInt8)]⟩⟩), .t 99], some (97, true), []⟩, ⟨some 101, .build [.int .i64 (0), .int .i64 (0)] [(0, 1, .c (.int .i64 (6))), (1, 1, .c (.int .i64 (9)))], some (97, true), []⟩, ⟨some 102, .build [.int .i64 (0), .int .i64 (0)] [(0, 1, .c (.int .i64 (12))), (1, 1, .c (.int .i64 (20)))], some (97, true), []⟩, ⟨some 103, .buildSlice 37 2 [.t 101, .t 102], some (97, true), []⟩, ⟨some 104, .call 23 [.t 100, .t 103], some (97, true), []⟩, ⟨some 105, .pick (.t 97) (.t 104) (.c (.bool false)), none, []⟩, ⟨some 0, .mv (.t 105), none, []⟩]).seq ACode.ret))))))))))
theorem Try.F14 : FnFacts Try.prog 14 Try.f14 Try.ac14 106 [.tmp 0] := ⟨Try.func14, by kernel_rfl, by kernel_rfl, by kernel_rfl, by kernel_rfl, by kernel_rfl, by kernel_rfl, by kernel_rfl⟩
def Try.ac15 : ACode := ((ACode.region false [⟨some 2, .mv (.c (.bool false)), none, []⟩]).seq ((ACode.region false [⟨some 3, .mv (.t 0), none, []⟩, ⟨some 4, .call 11 [.t 3], none, []⟩, ⟨some 5, .mv (.t 4), none, []⟩, ⟨some 6, .mv (.t 0), some (5, true), []⟩, ⟨some 7, .call 13 [.t 6], some (5, true), []⟩, ⟨some 8, .bin .eql (.t 7) (.c (.int .i64 (0))), some (5, true), []⟩, ⟨some 9, .pick (.t 5) (.t 8) (.c (.bool false)), none, []⟩, ⟨some 2, .mv (.t 9), none, []⟩]).seq ACode.ret))
theorem Try.F15 : FnFacts Try.prog 15 Try.f15 Try.ac15 10 [.tmp 2] := ⟨Try.func15, by kernel_rfl, by kernel_rfl, by kernel_rfl, by kernel_rfl, by kernel_rfl, by kernel_rfl, by kernel_rfl⟩
def Try.ac16 : ACode := ((ACode.region false [⟨some 6, .mv (.c (.string ⟨⟨[]⟩⟩)), none, []⟩, ⟨some 7, .mv (.c (.bool false)), none, []⟩]).seq (((ACode.region false [⟨some 10, .mv (.t 0), none, []⟩, ⟨some 11, .len (.t 10), none, []⟩, ⟨some 12, .mv (.c (.int .i64 (0))), none, []⟩]).seq (ACode.block 0 ((ACode.region false [⟨some 13, .bin .lss (.t 12) (.t 11), none, []⟩]).seq ((ACode.cond (.t 13) ACode.skip (ACode.exit 0)).seq ((ACode.block 1 ((ACode.region false [⟨some 14, .idxAddr 2 (.t 10) (.t 12), none, []⟩, ⟨some 15, .load 2 true (.t 14), none, []⟩, ⟨some 9, .alloc [.string ⟨⟨[]⟩⟩, .slice none 0 0], none, []⟩, ⟨none, .store 2 (.t 9) (.t 15), none, []⟩]).seq ((ACode.region false [⟨some 16, .load 2 true (.t 9), none, []⟩, ⟨some 17, .mv (.t 1), none, []⟩, ⟨some 18, .mv (.t 2), none, []⟩, ⟨some 19, .call 31 [.t 16, .t 17, .t 18], none, []⟩]).seq (ACode.cond (.t 19) ((ACode.region false [⟨some 20, .fieldAddr 0 (.t 9), none, []⟩, ⟨some 21, .load 1 false (.t 20), none, []⟩, ⟨some 6, .mv (.t 21), none, []⟩, ⟨some 7, .mv (.c (.bool true)), none, []⟩]).seq ACode.ret) ACode.skip)))).seq (ACode.region false [⟨some 22, .bin .add (.t 12) (.c (.int .i64 (1))), none, []⟩, ⟨some 12, .mv (.t 22), none, []⟩])))).loop)).seq ((ACode.region false [⟨some 6, .mv (.c (.string ⟨⟨[]⟩⟩)), none, []⟩, ⟨some 7, .mv (.c (.bool false)), none, []⟩]).seq ACode.ret)))
theorem Try.F16 : FnFacts Try.prog 16 Try.f16 Try.ac16 23 [.tmp 6, .tmp 7] := ⟨Try.func16, by kernel_rfl, by kernel_rfl, by kernel_rfl, by kernel_rfl, by kernel_rfl, by kernel_rfl, by kernel_rfl⟩
def Try.ac17 : ACode := ((ACode.region false [⟨some 6, .mv (.c (.string ⟨⟨[]⟩⟩)), none, []⟩, ⟨some 7, .mv (.c (.bool false)), none, []⟩]).seq (((ACode.region false [⟨some 8, .mv (.c (.int .i64 (0))), none, []⟩]).seq (ACode.block 0 (((ACode.region false [⟨some 9, .mv (.t 8), none, []⟩, ⟨some 10, .mv (.t 0), none, []⟩, ⟨some 11, .len (.t 10), none, []⟩, ⟨some 12, .bin .lss (.t 9) (.t 11), none, []⟩]).seq (ACode.cond (.t 12) ACode.skip (ACode.exit 0))).seq ((ACode.block 1 ((ACode.region false [⟨some 15, .mv (.t 0), none, []⟩, ⟨some 16, .mv (.t 8), none, []⟩, ⟨some 17, .idxAddr 2 (.t 15) (.t 16), none, []⟩, ⟨some 18, .load 2 true (.t 17), none, []⟩, ⟨some 19, .mv (.t 1), none, []⟩, ⟨some 20, .mv (.t 2), none, []⟩, ⟨some 21, .call 32 [.t 18, .t 19, .t 20], none, []⟩]).seq (ACode.cond (.t 21) ((ACode.region false [⟨some 22, .mv (.t 0), none, []⟩, ⟨some 23, .mv (.t 8), none, []⟩, ⟨some 24, .idxAddr 2 (.t 22) (.t 23), none, []⟩, ⟨some 25, .fieldAddr 0 (.t 24), none, []⟩, ⟨some 26, .load 1 false (.t 25), none, []⟩, ⟨some 6, .mv (.t 26), none, []⟩, ⟨some 7, .mv (.c (.bool true)), none, []⟩]).seq ACode.ret) ACode.skip))).seq (ACode.region false [⟨some 13, .mv (.t 8), none, []⟩, ⟨some 14, .bin .add (.t 13) (.c (.int .i64 (1))), none, []⟩, ⟨some 8, .mv (.t 14), none, []⟩]))).loop)).seq ((ACode.region false [⟨some 6, .mv (.c (.string ⟨⟨[]⟩⟩)), none, []⟩, ⟨some 7, .mv (.c (.bool false)), none, []⟩]).seq ACode.ret)))
theorem Try.F17 : FnFacts Try.prog 17 Try.f17 Try.ac17 27 [.tmp 6, .tmp 7] := ⟨Try.func17, by kernel_rfl, by kernel_rfl, by kernel_rfl, by kernel_rfl, by kernel_rfl, by kernel_rfl, by kernel_rfl⟩
def Try.ac18 : ACode := ((ACode.region false [⟨some 5, .box 1 (.t 1), none, []⟩, ⟨some 6, .box 1 (.t 2), none, []⟩, ⟨some 7, .box 1 (.t 3), none, []⟩, ⟨some 8, .mv (.c (.bool false)), none, []⟩]).seq ((ACode.region false [⟨some 9, .mv (.t 0), none, []⟩, ⟨some 10, .mkfn 34 [.t 5, .t 6, .t 7], none, []⟩, ⟨some 11, .call 33 [.t 9, .t 10], none, []⟩, ⟨some 8, .mv (.t 11), none, []⟩]).seq ACode.ret))
theorem Try.F18 : FnFacts Try.prog 18 Try.f18 Try.ac18 12 [.tmp 8] := ⟨Try.func18, by kernel_rfl, by kernel_rfl, by kernel_rfl, by kernel_rfl, by kernel_rfl, by kernel_rfl, by kernel_rfl⟩
def Try.ac19 : ACode := ((ACode.region false [⟨some 8, .mv (.c (.bool false)), none, []⟩]).seq (((ACode.region false [⟨some 9, .mv (.c (.int .i64 (0))), none, []⟩]).seq (ACode.block 0 (((ACode.region false [⟨some 10, .mv (.t 9), none, []⟩, ⟨some 11, .mv (.t 0), none, []⟩, ⟨some 12, .len (.t 11), none, []⟩, ⟨some 13, .bin .lss (.t 10) (.t 12), none, []⟩]).seq (ACode.cond (.t 13) ACode.skip (ACode.exit 0))).seq ((ACode.block 1 ((ACode.region false [⟨some 16, .mv (.t 0), none, []⟩, ⟨some 17, .mv (.t 9), none, []⟩, ⟨some 18, .idxAddr 2 (.t 16) (.t 17), none, []⟩, ⟨some 19, .fieldAddr 0 (.t 18), none, []⟩, ⟨some 20, .load 1 false (.t 19), none, []⟩, ⟨some 21, .mv (.t 1), none, []⟩, ⟨some 22, .bin .eql (.t 20) (.t 21), none, []⟩, ⟨some 23, .mv (.t 22), none, []⟩, ⟨some 24, .mv (.t 0), some (23, true), []⟩, ⟨some 25, .mv (.t 9), some (23, true), []⟩, ⟨some 26, .idxAddr 2 (.t 24) (.t 25), some (23, true), []⟩, ⟨some 27, .load 2 true (.t 26), some (23, true), []⟩, ⟨some 28, .mv (.t 2), some (23, true), []⟩, ⟨some 29, .mv (.t 3), some (23, true), []⟩, ⟨some 30, .call 32 [.t 27, .t 28, .t 29], some (23, true), []⟩, ⟨some 31, .pick (.t 23) (.t 30) (.c (.bool false)), none, []⟩]).seq (ACode.cond (.t 31) ((ACode.region false [⟨some 8, .mv (.c (.bool true)), none, []⟩]).seq ACode.ret) ACode.skip))).seq (ACode.region false [⟨some 14, .mv (.t 9), none, []⟩, ⟨some 15, .bin .add (.t 14) (.c (.int .i64 (1))), none, []⟩, ⟨some 9, .mv (.t 15), none, []⟩]))).loop)).seq ((ACode.region false [⟨some 8, .mv (.c (.bool false)), none, []⟩]).seq ACode.ret)))
theorem Try.F19 : FnFacts Try.prog 19 Try.f19 Try.ac19 32 [.tmp 8] := ⟨Try.func19, by kernel_rfl, by kernel_rfl, by kernel_rfl, by kernel_rfl, by kernel_rfl, by kernel_rfl, by kernel_rfl⟩
def Try.ac20 : ACode := ((ACode.region false [⟨some 6, .box 1 (.t 1), none, []⟩, ⟨some 10, .mv (.c (.slice none 0 0)), none, []⟩, ⟨some 11, .mv (.c (.int .i64 (0))), none, []⟩]).seq ((ACode.region false [⟨some 15, .mv (.t 0), none, []⟩, ⟨some 16, .mkfn 36 [.t 6], none, []⟩, ⟨some 17, .call 35 [.t 15, .t 16], none, []⟩, ⟨some 12, .mv (.t 17), none, []⟩]).seq ((ACode.block 0 ((ACode.region false [⟨some 19, .mv (.t 12), none, []⟩, ⟨some 20, .bin .lss (.t 19) (.c (.int .i64 (0))), none, []⟩, ⟨some 18, .mv (.t 20), none, []⟩]).seq (ACode.cond (.t 18) ((ACode.region false [⟨some 10, .mv (.c (.slice none 0 0)), none, []⟩, ⟨some 11, .mv (.c (.int .i64 (8))), none, []⟩]).seq ACode.ret) ((ACode.region false [⟨some 22, .mv (.t 2), none, []⟩, ⟨some 23, .call 26 [.t 22], none, []⟩, ⟨some 24, .un .not (.t 23), none, []⟩, ⟨some 21, .mv (.t 24), none, []⟩]).seq (ACode.cond (.t 21) ((ACode.region false [⟨some 10, .mv (.c (.slice none 0 0)), none, []⟩, ⟨some 11, .mv (.c (.int .i64 (6))), none, []⟩]).seq ACode.ret) ((ACode.region false [⟨some 26, .mv (.t 3), none, []⟩, ⟨some 27, .bin .lss (.t 26) (.c (.int .i64 (0))), none, []⟩, ⟨some 28, .mv (.t 27), none, []⟩, ⟨some 29, .mv (.t 3), some (28, false), []⟩, ⟨some 30, .bin .gtr (.t 29) (.c (.int .i64 (1048576))), some (28, false), []⟩, ⟨some 31, .pick (.t 28) (.c (.bool true)) (.t 30), none, []⟩, ⟨some 32, .mv (.t 31), none, []⟩, ⟨some 33, .mv (.t 4), some (32, false), []⟩, ⟨some 34, .bin .lss (.t 33) (.c (.int .i64 (1))), some (32, false), []⟩, ⟨some 35, .pick (.t 32) (.c (.bool true)) (.t 34), none, []⟩, ⟨some 36, .mv (.t 35), none, []⟩, ⟨some 37, .mv (.t 4), some (36, false), []⟩, ⟨some 38, .bin .gtr (.t 37) (.c (.int .i64 (1048576))), some (36, false), []⟩, ⟨some 39, .pick (.t 36) (.c (.bool true)) (.t 38), none, []⟩, ⟨some 40, .mv (.t 39), none, []⟩, ⟨some 41, .mv (.t 3), some (40, false), []⟩, ⟨some 42, .mv (.t 4), some (40, false), []⟩, ⟨some 43, .bin .add (.t 41) (.t 42), some (40, false), []⟩, ⟨some 44, .bin .gtr (.t 43) (.c (.int .i64 (1048576))), some (40, false), []⟩, ⟨some 45, .pick (.t 40) (.c (.bool true)) (.t 44), none, []⟩, ⟨some 25, .mv (.t 45), none, []⟩]).seq (ACode.cond (.t 25) ((ACode.region false [⟨some 10, .mv (.c (.slice none 0 0)), none, []⟩, ⟨some 11, .mv (.c (.int .i64 (9))), none, []⟩]).seq ACode.ret) ACode.skip))))))).seq ((ACode.region false [⟨some 46, .mv (.t 0), none, []⟩, ⟨some 47, .len (.t 46), none, []⟩, ⟨some 48, .make 47 2 40 [.string ⟨⟨[]⟩⟩, .slice none 0 0] (.t 47), none, []⟩, ⟨some 10, .mv (.t 48), none, []⟩]).seq ((ACode.region false [⟨some 49, .mv (.t 10), none, []⟩, ⟨some 50, .mv (.t 0), none, []⟩, ⟨some 51, .copy 2 (.t 49) (.t 50), none, []⟩]).seq (((ACode.region false [⟨some 52, .mv (.t 10), none, []⟩, ⟨some 53, .len (.t 52), none, []⟩, ⟨some 54, .mv (.c (.int .i64 (0))), none, []⟩]).seq (ACode.block 1 ((ACode.region false [⟨some 55, .bin .lss (.t 54) (.t 53), none, []⟩]).seq ((ACode.cond (.t 55) ACode.skip (ACode.exit 1)).seq ((ACode.block 2 ((ACode.region false [⟨some 56, .mv (.t 54), none, []⟩, ⟨some 57, .idxAddr 2 (.t 52) (.t 54), none, []⟩, ⟨some 58, .load 2 true (.t 57), none, []⟩, ⟨some 14, .alloc [.string ⟨⟨[]⟩⟩, .slice none 0 0], none, []⟩, ⟨some 13, .mv (.t 56), none, []⟩, ⟨none, .store 2 (.t 14) (.t 58), none, []⟩]).seq ((ACode.region false [⟨some 59, .mv (.t 10), none, []⟩, ⟨some 60, .mv (.t 13), none, []⟩, ⟨some 61, .fieldAddr 1 (.t 14), none, []⟩, ⟨some 62, .load 1 false (.t 61), none, []⟩, ⟨some 63, .len (.t 62), none, []⟩, ⟨some 64, .make 50 3 32 [.string ⟨⟨[]⟩⟩, .int .i64 (0), .int .i64 (0)] (.t 63), none, []⟩, ⟨some 65, .idxAddr 2 (.t 59) (.t 60), none, []⟩, ⟨some 66, .fieldAddr 1 (.t 65), none, []⟩, ⟨none, .store 1 (.t 66) (.t 64), none, []⟩]).seq (ACode.region true [⟨some 67, .mv (.t 10), none, []⟩, ⟨some 68, .mv (.t 13), none, []⟩, ⟨some 69, .idxAddr 2 (.t 67) (.t 68), none, [0, 1]⟩, ⟨some 70, .fieldAddr 1 (.t 69), none, [2]⟩, ⟨some 71, .load 1 false (.t 70), none, [3]⟩, ⟨some 72, .fieldAddr 1 (.t 14), none, []⟩, ⟨some 73, .load 1 false (.t 72), none, [5]⟩, ⟨some 74, .copy 3 (.t 71) (.t 73), none, [4, 6]⟩])))).seq (ACode.region false [⟨some 75, .bin .add (.t 54) (.c (.int .i64 (1))), none, []⟩, ⟨some 54, .mv (.t 75), none, []⟩])))).loop)).seq ((ACode.region false [⟨some 76, .mv (.t 10), none, []⟩, ⟨some 77, .mv (.t 12), none, []⟩, ⟨some 78, .mv (.t 10), none, []⟩, ⟨some 79, .mv (.t 12), none, []⟩, ⟨some 80, .idxAddr 2 (.t 78) (.t 79), none, []⟩, ⟨some 81, .fieldAddr 1 (.t 80), none, []⟩, ⟨some 82, .load 1 false (.t 81), none, []⟩, ⟨some 83, .mv (.t 2), none, []⟩, ⟨some 84, .mv (.t 3), none, []⟩, ⟨some 85, .mv (.t 3), none, []⟩, ⟨some 86, .mv (.t 4), none, []⟩, ⟨some 87, .bin .add (.t 85) (.t 86), none, []⟩, ⟨some 88, .build [.string ⟨⟨[]⟩⟩, .int .i64 (0), .int .i64 (0)] [(0, 1, .t 83), (1, 1, .t 84), (2, 1, .t 87)], none, []⟩, ⟨some 89, .call 37 [.t 82, .t 88], none, []⟩, ⟨some 90, .idxAddr 2 (.t 76) (.t 77), none, []⟩, ⟨some 91, .fieldAddr 1 (.t 90), none, []⟩, ⟨none, .store 1 (.t 91) (.t 89), none, []⟩]).seq (((ACode.region false [⟨some 92, .mv (.t 10), none, []⟩, ⟨some 93, .mv (.t 12), none, []⟩, ⟨some 94, .idxAddr 2 (.t 92) (.t 93), none, []⟩, ⟨some 95, .fieldAddr 1 (.t 94), none, []⟩, ⟨some 96, .load 1 false (.t 95), none, []⟩, ⟨some 97, .len (.t 96), none, []⟩, ⟨some 98, .bin .gtr (.t 97) (.c (.int .i64 (16))), none, []⟩]).seq (ACode.cond (.t 98) ((ACode.region false [⟨some 10, .mv (.c (.slice none 0 0)), none, []⟩, ⟨some 11, .mv (.c (.int .i64 (12))), none, []⟩]).seq ACode.ret) ACode.skip)).seq ((ACode.region false [⟨some 99, .mv (.t 10), none, []⟩, ⟨some 10, .mv (.t 99), none, []⟩, ⟨some 11, .mv (.c (.int .i64 (0))), none, []⟩]).seq ACode.ret)))))))))
theorem Try.F20 : FnFacts Try.prog 20 Try.f20 Try.ac20 100 [.tmp 10, .tmp 11] := ⟨Try.func20, by kernel_rfl, by kernel_rfl, by kernel_rfl, by kernel_rfl, by kernel_rfl, by kernel_rfl, by kernel_rfl⟩
def Try.ac21 : ACode := ((ACode.region false [⟨some 10, .mv (.c (.slice none 0 0)), none, []⟩, ⟨some 11, .mv (.c (.int .i64 (0))), none, []⟩]).seq ((ACode.region false [⟨some 12, .mv (.c (.int .i64 (Int.negSucc 0))), none, []⟩]).seq (((ACode.region false [⟨some 13, .mv (.c (.int .i64 (0))), none, []⟩]).seq (ACode.block 0 (((ACode.region false [⟨some 17, .mv (.t 13), none, []⟩, ⟨some 18, .mv (.t 0), none, []⟩, ⟨some 19, .len (.t 18), none, []⟩, ⟨some 20, .bin .lss (.t 17) (.t 19), none, []⟩]).seq (ACode.cond (.t 20) ACode.skip (ACode.exit 0))).seq ((ACode.block 1 ((ACode.region false [⟨some 23, .mv (.t 0), none, []⟩, ⟨some 24, .mv (.t 13), none, []⟩, ⟨some 25, .idxAddr 2 (.t 23) (.t 24), none, []⟩, ⟨some 26, .fieldAddr 0 (.t 25), none, []⟩, ⟨some 27, .load 1 false (.t 26), none, []⟩, ⟨some 28, .mv (.t 1), none, []⟩, ⟨some 29, .bin .eql (.t 27) (.t 28), none, []⟩]).seq (ACode.cond (.t 29) (ACode.region false [⟨some 30, .mv (.t 13), none, []⟩, ⟨some 12, .mv (.t 30), none, []⟩]) ACode.skip))).seq (ACode.region false [⟨some 21, .mv (.t 13), none, []⟩, ⟨some 22, .bin .add (.t 21) (.c (.int .i64 (1))), none, []⟩, ⟨some 13, .mv (.t 22), none, []⟩]))).loop)).seq (((ACode.region false [⟨some 31, .mv (.t 12), none, []⟩, ⟨some 32, .bin .lss (.t 31) (.c (.int .i64 (0))), none, []⟩]).seq (ACode.cond (.t 32) ((ACode.region false [⟨some 10, .mv (.c (.slice none 0 0)), none, []⟩, ⟨some 11, .mv (.c (.int .i64 (8))), none, []⟩]).seq ACode.ret) ACode.skip)).seq (((ACode.region false [⟨some 33, .mv (.t 2), none, []⟩, ⟨some 34, .call 28 [.t 33], none, []⟩, ⟨some 35, .un .not (.t 34), none, []⟩]).seq (ACode.cond (.t 35) ((ACode.region false [⟨some 10, .mv (.c (.slice none 0 0)), none, []⟩, ⟨some 11, .mv (.c (.int .i64 (6))), none, []⟩]).seq ACode.ret) ACode.skip)).seq (((ACode.region false [⟨some 36, .mv (.t 3), none, []⟩, ⟨some 37, .bin .lss (.t 36) (.c (.int .i64 (0))), none, []⟩, ⟨some 38, .mv (.t 37), none, []⟩, ⟨some 39, .mv (.t 3), some (38, false), []⟩, ⟨some 40, .bin .gtr (.t 39) (.c (.int .i64 (1048576))), some (38, false), []⟩, ⟨some 41, .pick (.t 38) (.c (.bool true)) (.t 40), none, []⟩, ⟨some 42, .mv (.t 41), none, []⟩, ⟨some 43, .mv (.t 4), some (42, false), []⟩, ⟨some 44, .bin .lss (.t 43) (.c (.int .i64 (1))), some (42, false), []⟩, ⟨some 45, .pick (.t 42) (.c (.bool true)) (.t 44), none, []⟩, ⟨some 46, .mv (.t 45), none, []⟩, ⟨some 47, .mv (.t 4), some (46, false), []⟩, ⟨some 48, .bin .gtr (.t 47) (.c (.int .i64 (1048576))), some (46, false), []⟩, ⟨some 49, .pick (.t 46) (.c (.bool true)) (.t 48), none, []⟩, ⟨some 50, .mv (.t 49), none, []⟩, ⟨some 51, .mv (.t 3), some (50, false), []⟩, ⟨some 52, .mv (.t 4), some (50, false), []⟩, ⟨some 53, .bin .add (.t 51) (.t 52), some (50, false), []⟩, ⟨some 54, .bin .gtr (.t 53) (.c (.int .i64 (1048576))), some (50, false), []⟩, ⟨some 55, .pick (.t 50) (.c (.bool true)) (.t 54), none, []⟩]).seq (ACode.cond (.t 55) ((ACode.region false [⟨some 10, .mv (.c (.slice none 0 0)), none, []⟩, ⟨some 11, .mv (.c (.int .i64 (9))), none, []⟩]).seq ACode.ret) ACode.skip)).seq ((ACode.region false [⟨some 14, .mv (.c (.slice none 0 0)), none, []⟩]).seq (((ACode.region false [⟨some 15, .mv (.c (.int .i64 (0))), none, []⟩]).seq (ACode.block 2 (((ACode.region false [⟨some 56, .mv (.t 15), none, []⟩, ⟨some 57, .mv (.t 0), none, []⟩, ⟨some 58, .len (.t 57), none, []⟩, ⟨some 59, .bin .lss (.t 56) (.t 58), none, []⟩]).seq (ACode.cond (.t 59) ACode.skip (ACode.exit 2))).seq ((ACode.block 3 ((ACode.region true [⟨some 62, .mv (.t 0), none, []⟩, ⟨some 63, .mv (.t 15), none, []⟩, ⟨some 64, .idxAddr 2 (.t 62) (.t 63), none, [0, 1]⟩, ⟨some 65, .fieldAddr 0 (.t 64), none, [2]⟩, ⟨some 66, .load 1 false (.t 65), none, [3]⟩, ⟨some 67, .buildSlice 50 3 [], none, []⟩, ⟨some 68, .mv (.t 0), none, []⟩, ⟨some 69, .mv (.t 15), none, []⟩, ⟨some 70, .idxAddr 2 (.t 68) (.t 69), none, [6, 7]⟩, ⟨some 71, .fieldAddr 1 (.t 70), none, [8]⟩, ⟨some 72, .load 1 false (.t 71), none, [9]⟩, ⟨some 73, .append 50 3 32 (.t 67) (.t 72), none, [5, 10]⟩, ⟨some 74, .build [.string ⟨⟨[]⟩⟩, .slice none 0 0] [(0, 1, .t 66), (1, 1, .t 73)], none, [4, 11]⟩, ⟨some 16, .alloc [.string ⟨⟨[]⟩⟩, .slice none 0 0], none, []⟩, ⟨none, .store 2 (.t 16) (.t 74), none, [13, 12, 11, 0, 1, 2, 3, 4, 5, 6, 7, 8, 9, 10, 11, 12, 13]⟩]).seq (((ACode.region false [⟨some 75, .mv (.t 15), none, []⟩, ⟨some 76, .mv (.t 12), none, []⟩, ⟨some 77, .bin .eql (.t 75) (.t 76), none, []⟩]).seq (ACode.cond (.t 77) ((ACode.region false [⟨some 78, .fieldAddr 1 (.t 16), none, []⟩, ⟨some 79, .load 1 false (.t 78), none, []⟩, ⟨some 80, .mv (.t 2), none, []⟩, ⟨some 81, .mv (.t 3), none, []⟩, ⟨some 82, .mv (.t 3), none, []⟩, ⟨some 83, .mv (.t 4), none, []⟩, ⟨some 84, .bin .add (.t 82) (.t 83), none, []⟩, ⟨some 85, .build [.string ⟨⟨[]⟩⟩, .int .i64 (0), .int .i64 (0)] [(0, 1, .t 80), (1, 1, .t 81), (2, 1, .t 84)], none, []⟩, ⟨some 86, .call 38 [.t 79, .t 85], none, []⟩, ⟨some 87, .fieldAddr 1 (.t 16), none, []⟩, ⟨none, .store 1 (.t 87) (.t 86), none, []⟩]).seq ((ACode.region false [⟨some 88, .fieldAddr 1 (.t 16), none, []⟩, ⟨some 89, .load 1 false (.t 88), none, []⟩, ⟨some 90, .len (.t 89), none, []⟩, ⟨some 91, .bin .gtr (.t 90) (.c (.int .i64 (16))), none, []⟩]).seq (ACode.cond (.t 91) ((ACode.region false [⟨some 10, .mv (.c (.slice none 0 0)), none, []⟩, ⟨some 11, .mv (.c (.int .i64 (12))), none, []⟩]).seq ACode.ret) ACode.skip))) ACode.skip)).seq (ACode.region false [⟨some 92, .mv (.t 14), none, []⟩, ⟨some 93, .load 2 true (.t 16), none, []⟩, ⟨some 94, .buildSlice 47 2 [.t 93], none, []⟩, ⟨some 95, .append 47 2 40 (.t 92) (.t 94), none, []⟩, ⟨some 14, .mv (.t 95), none, []⟩])))).seq (ACode.region false [⟨some 60, .mv (.t 15), none, []⟩, ⟨some 61, .bin .add (.t 60) (.c (.int .i64 (1))), none, []⟩, ⟨some 15, .mv (.t 61), none, []⟩]))).loop)).seq ((ACode.region false [⟨some 96, .mv (.t 14), none, []⟩, ⟨some 10, .mv (.t 96), none, []⟩, ⟨some 11, .mv (.c (.int .i64 (0))), none, []⟩]).seq ACode.ret)))))))))
theorem Try.F21 : FnFacts Try.prog 21 Try.f21 Try.ac21 97 [.tmp 10, .tmp 11] := ⟨Try.func21, by kernel_rfl, by kernel_rfl, by kernel_rfl, by kernel_rfl, by kernel_rfl, by kernel_rfl, by kernel_rfl⟩
def Try.ac22 : ACode := ((ACode.region false [⟨some 4, .mv (.c (.bool false)), none, []⟩]).seq (((ACode.region false [⟨some 7, .mv (.t 0), none, []⟩, ⟨some 8, .len (.t 7), none, []⟩, ⟨some 9, .mv (.t 1), none, []⟩, ⟨some 10, .len (.t 9), none, []⟩, ⟨some 11, .bin .neq (.t 8) (.t 10), none, []⟩]).seq (ACode.cond (.t 11) ((ACode.region false [⟨some 4, .mv (.c (.bool false)), none, []⟩]).seq ACode.ret) ACode.skip)).seq (((ACode.region false [⟨some 5, .mv (.c (.int .i64 (0))), none, []⟩]).seq (ACode.block 0 (((ACode.region false [⟨some 12, .mv (.t 5), none, []⟩, ⟨some 13, .mv (.t 0), none, []⟩, ⟨some 14, .len (.t 13), none, []⟩, ⟨some 15, .bin .lss (.t 12) (.t 14), none, []⟩]).seq (ACode.cond (.t 15) ACode.skip (ACode.exit 0))).seq ((ACode.block 1 (((ACode.region true [⟨some 18, .mv (.t 0), none, []⟩, ⟨some 19, .mv (.t 5), none, []⟩, ⟨some 20, .idxAddr 2 (.t 18) (.t 19), none, [0, 1]⟩, ⟨some 21, .fieldAddr 0 (.t 20), none, [2]⟩, ⟨some 22, .load 1 false (.t 21), none, [3]⟩, ⟨some 23, .mv (.t 1), none, []⟩, ⟨some 24, .mv (.t 5), none, []⟩, ⟨some 25, .idxAddr 2 (.t 23) (.t 24), none, [5, 6]⟩, ⟨some 26, .fieldAddr 0 (.t 25), none, [7]⟩, ⟨some 27, .load 1 false (.t 26), none, [8]⟩, ⟨some 28, .bin .neq (.t 22) (.t 27), none, [4, 9]⟩, ⟨some 29, .mv (.t 28), none, [10]⟩, ⟨some 30, .mv (.t 0), some (29, false), [11]⟩, ⟨some 31, .mv (.t 5), some (29, false), [11]⟩, ⟨some 32, .idxAddr 2 (.t 30) (.t 31), some (29, false), [12, 13, 11]⟩, ⟨some 33, .fieldAddr 1 (.t 32), some (29, false), [14, 11]⟩, ⟨some 34, .load 1 false (.t 33), some (29, false), [15, 11]⟩, ⟨some 35, .len (.t 34), some (29, false), [16, 11]⟩, ⟨some 36, .mv (.t 1), some (29, false), [11]⟩, ⟨some 37, .mv (.t 5), some (29, false), [11]⟩, ⟨some 38, .idxAddr 2 (.t 36) (.t 37), some (29, false), [18, 19, 11]⟩, ⟨some 39, .fieldAddr 1 (.t 38), some (29, false), [20, 11]⟩, ⟨some 40, .load 1 false (.t 39), some (29, false), [21, 11]⟩, ⟨some 41, .len (.t 40), some (29, false), [22, 11]⟩, ⟨some 42, .bin .neq (.t 35) (.t 41), some (29, false), [17, 23, 11]⟩, ⟨some 43, .pick (.t 29) (.c (.bool true)) (.t 42), none, [11, 24]⟩]).seq (ACode.cond (.t 43) ((ACode.region false [⟨some 4, .mv (.c (.bool false)), none, []⟩]).seq ACode.ret) ACode.skip)).seq ((ACode.region false [⟨some 6, .mv (.c (.int .i64 (0))), none, []⟩]).seq (ACode.block 2 (((ACode.region false [⟨some 44, .mv (.t 6), none, []⟩, ⟨some 45, .mv (.t 0), none, []⟩, ⟨some 46, .mv (.t 5), none, []⟩, ⟨some 47, .idxAddr 2 (.t 45) (.t 46), none, []⟩, ⟨some 48, .fieldAddr 1 (.t 47), none, []⟩, ⟨some 49, .load 1 false (.t 48), none, []⟩, ⟨some 50, .len (.t 49), none, []⟩, ⟨some 51, .bin .lss (.t 44) (.t 50), none, []⟩]).seq (ACode.cond (.t 51) ACode.skip (ACode.exit 2))).seq ((ACode.block 3 ((ACode.region true [⟨some 54, .mv (.t 0), none, []⟩, ⟨some 55, .mv (.t 5), none, []⟩, ⟨some 56, .idxAddr 2 (.t 54) (.t 55), none, [0, 1]⟩, ⟨some 57, .fieldAddr 1 (.t 56), none, [2]⟩, ⟨some 58, .load 1 false (.t 57), none, [3]⟩, ⟨some 59, .mv (.t 6), none, []⟩, ⟨some 60, .idxAddr 3 (.t 58) (.t 59), none, [4, 5]⟩, ⟨some 61, .load 3 true (.t 60), none, [6]⟩, ⟨some 62, .mv (.t 1), none, []⟩, ⟨some 63, .mv (.t 5), none, []⟩, ⟨some 64, .idxAddr 2 (.t 62) (.t 63), none, [8, 9]⟩, ⟨some 65, .fieldAddr 1 (.t 64), none, [10]⟩, ⟨some 66, .load 1 false (.t 65), none, [11]⟩, ⟨some 67, .mv (.t 6), none, []⟩, ⟨some 68, .idxAddr 3 (.t 66) (.t 67), none, [12, 13]⟩, ⟨some 69, .load 3 true (.t 68), none, [14]⟩, ⟨some 70, .eqAgg true [2, 0, 0] (.t 61) (.t 69), none, [7, 15]⟩]).seq (ACode.cond (.t 70) ((ACode.region false [⟨some 4, .mv (.c (.bool false)), none, []⟩]).seq ACode.ret) ACode.skip))).seq (ACode.region false [⟨some 52, .mv (.t 6), none, []⟩, ⟨some 53, .bin .add (.t 52) (.c (.int .i64 (1))), none, []⟩, ⟨some 6, .mv (.t 53), none, []⟩]))).loop)))).seq (ACode.region false [⟨some 16, .mv (.t 5), none, []⟩, ⟨some 17, .bin .add (.t 16) (.c (.int .i64 (1))), none, []⟩, ⟨some 5, .mv (.t 17), none, []⟩]))).loop)).seq ((ACode.region false [⟨some 4, .mv (.c (.bool true)), none, []⟩]).seq ACode.ret))))
theorem Try.F22 : FnFacts Try.prog 22 Try.f22 Try.ac22 71 [.tmp 4] := ⟨Try.func22, by kernel_rfl, by kernel_rfl, by kernel_rfl, by kernel_rfl, by kernel_rfl, by kernel_rfl, by kernel_rfl⟩
def Try.ac23 : ACode := ((ACode.region false [⟨some 4, .mv (.c (.bool false)), none, []⟩]).seq (((ACode.region false [⟨some 6, .mv (.t 0), none, []⟩, ⟨some 7, .len (.t 6), none, []⟩, ⟨some 8, .mv (.t 1), none, []⟩, ⟨some 9, .len (.t 8), none, []⟩, ⟨some 10, .bin .neq (.t 7) (.t 9), none, []⟩]).seq (ACode.cond (.t 10) ((ACode.region false [⟨some 4, .mv (.c (.bool false)), none, []⟩]).seq ACode.ret) ACode.skip)).seq (((ACode.region false [⟨some 5, .mv (.c (.int .i64 (0))), none, []⟩]).seq (ACode.block 0 (((ACode.region false [⟨some 11, .mv (.t 5), none, []⟩, ⟨some 12, .mv (.t 0), none, []⟩, ⟨some 13, .len (.t 12), none, []⟩, ⟨some 14, .bin .lss (.t 11) (.t 13), none, []⟩]).seq (ACode.cond (.t 14) ACode.skip (ACode.exit 0))).seq ((ACode.block 1 ((ACode.region true [⟨some 17, .mv (.t 0), none, []⟩, ⟨some 18, .mv (.t 5), none, []⟩, ⟨some 19, .idxAddr 2 (.t 17) (.t 18), none, [0, 1]⟩, ⟨some 20, .load 2 true (.t 19), none, [2]⟩, ⟨some 21, .mv (.t 1), none, []⟩, ⟨some 22, .mv (.t 5), none, []⟩, ⟨some 23, .idxAddr 2 (.t 21) (.t 22), none, [4, 5]⟩, ⟨some 24, .load 2 true (.t 23), none, [6]⟩, ⟨some 25, .eqAgg true [0, 0] (.t 20) (.t 24), none, [3, 7]⟩]).seq (ACode.cond (.t 25) ((ACode.region false [⟨some 4, .mv (.c (.bool false)), none, []⟩]).seq ACode.ret) ACode.skip))).seq (ACode.region false [⟨some 15, .mv (.t 5), none, []⟩, ⟨some 16, .bin .add (.t 15) (.c (.int .i64 (1))), none, []⟩, ⟨some 5, .mv (.t 16), none, []⟩]))).loop)).seq ((ACode.region false [⟨some 4, .mv (.c (.bool true)), none, []⟩]).seq ACode.ret))))
theorem Try.F23 : FnFacts Try.prog 23 Try.f23 Try.ac23 26 [.tmp 4] := ⟨Try.func23, by kernel_rfl, by kernel_rfl, by kernel_rfl, by kernel_rfl, by kernel_rfl, by kernel_rfl, by kernel_rfl⟩
def Try.ac24 : ACode := ((ACode.region false [⟨some 5, .box 2 (.t 2), none, []⟩, ⟨some 6, .mv (.c (.slice none 0 0)), none, []⟩]).seq ((ACode.region false [⟨some 7, .mv (.c (.slice none 0 0)), none, []⟩]).seq (((ACode.region false [⟨some 12, .mv (.t 0), none, []⟩, ⟨some 13, .len (.t 12), none, []⟩, ⟨some 14, .mv (.c (.int .i64 (0))), none, []⟩]).seq (ACode.block 0 ((ACode.region false [⟨some 15, .bin .lss (.t 14) (.t 13), none, []⟩]).seq ((ACode.cond (.t 15) ACode.skip (ACode.exit 0)).seq ((ACode.block 1 ((ACode.region false [⟨some 16, .idxAddr 2 (.t 12) (.t 14), none, []⟩, ⟨some 17, .load 2 true (.t 16), none, []⟩, ⟨some 9, .alloc [.string ⟨⟨[]⟩⟩, .slice none 0 0], none, []⟩, ⟨none, .store 2 (.t 9) (.t 17), none, []⟩]).seq ((ACode.region false [⟨some 18, .fieldAddr 1 (.t 9), none, []⟩, ⟨some 19, .load 1 false (.t 18), none, []⟩, ⟨some 20, .len (.t 19), none, []⟩, ⟨some 21, .mv (.c (.int .i64 (0))), none, []⟩]).seq (ACode.block 2 ((ACode.region false [⟨some 22, .bin .lss (.t 21) (.t 20), none, []⟩]).seq ((ACode.cond (.t 22) ACode.skip (ACode.exit 2)).seq ((ACode.block 3 ((ACode.region false [⟨some 23, .idxAddr 3 (.t 19) (.t 21), none, []⟩, ⟨some 24, .load 3 true (.t 23), none, []⟩, ⟨some 11, .alloc [.string ⟨⟨[]⟩⟩, .int .i64 (0), .int .i64 (0)], none, []⟩, ⟨none, .store 3 (.t 11) (.t 24), none, []⟩]).seq ((ACode.region false [⟨some 25, .fieldAddr 0 (.t 11), none, []⟩, ⟨some 26, .load 1 false (.t 25), none, []⟩, ⟨some 27, .mv (.t 1), none, []⟩, ⟨some 28, .bin .eql (.t 26) (.t 27), none, []⟩]).seq (ACode.cond (.t 28) (ACode.region false [⟨some 29, .mv (.t 7), none, []⟩, ⟨some 30, .fieldAddr 1 (.t 11), none, []⟩, ⟨some 31, .load 1 false (.t 30), none, []⟩, ⟨some 32, .fieldAddr 2 (.t 11), none, []⟩, ⟨some 33, .load 1 false (.t 32), none, []⟩, ⟨some 34, .build [.int .i64 (0), .int .i64 (0)] [(0, 1, .t 31), (1, 1, .t 33)], none, []⟩, ⟨some 35, .buildSlice 37 2 [.t 34], none, []⟩, ⟨some 36, .append 37 2 16 (.t 29) (.t 35), none, []⟩, ⟨some 7, .mv (.t 36), none, []⟩]) ACode.skip)))).seq (ACode.region false [⟨some 37, .bin .add (.t 21) (.c (.int .i64 (1))), none, []⟩, ⟨some 21, .mv (.t 37), none, []⟩])))).loop)))).seq (ACode.region false [⟨some 38, .bin .add (.t 14) (.c (.int .i64 (1))), none, []⟩, ⟨some 14, .mv (.t 38), none, []⟩])))).loop)).seq ((ACode.region false [⟨some 39, .mv (.t 7), none, []⟩, ⟨some 40, .load 2 true (.t 5), none, []⟩, ⟨some 41, .call 39 [.t 39, .t 40], none, []⟩, ⟨some 6, .mv (.t 41), none, []⟩]).seq ACode.ret))))
theorem Try.F24 : FnFacts Try.prog 24 Try.f24 Try.ac24 42 [.tmp 6] := ⟨Try.func24, by kernel_rfl, by kernel_rfl, by kernel_rfl, by kernel_rfl, by kernel_rfl, by kernel_rfl, by kernel_rfl⟩
def Try.ac25 : ACode := ((ACode.region false [⟨some 5, .box 2 (.t 2), none, []⟩, ⟨some 6, .mv (.c (.slice none 0 0)), none, []⟩]).seq ((ACode.region false [⟨some 7, .mv (.c (.slice none 0 0)), none, []⟩]).seq (((ACode.region false [⟨some 12, .fieldAddr 0 (.t 5), none, []⟩, ⟨some 13, .load 1 false (.t 12), none, []⟩, ⟨some 8, .mv (.t 13), none, []⟩]).seq (ACode.block 0 (((ACode.region false [⟨some 14, .mv (.t 8), none, []⟩, ⟨some 15, .fieldAddr 1 (.t 5), none, []⟩, ⟨some 16, .load 1 false (.t 15), none, []⟩, ⟨some 17, .bin .lss (.t 14) (.t 16), none, []⟩]).seq (ACode.cond (.t 17) ACode.skip (ACode.exit 0))).seq ((ACode.block 1 ((ACode.region false [⟨some 24, .mv (.t 0), none, []⟩, ⟨some 25, .mv (.t 1), none, []⟩, ⟨some 26, .mv (.t 8), none, []⟩, ⟨some 27, .fieldAddr 1 (.t 5), none, []⟩, ⟨some 28, .load 1 false (.t 27), none, []⟩, ⟨some 29, .call 40 [.t 24, .t 25, .t 26, .t 28], none, []⟩, ⟨some 9, .mv (.t 29), none, []⟩]).seq (((ACode.region false [⟨some 31, .mv (.t 0), none, []⟩, ⟨some 32, .mv (.t 1), none, []⟩, ⟨some 33, .mv (.t 8), none, []⟩, ⟨some 34, .call 17 [.t 31, .t 32, .t 33], none, []⟩, ⟨some 30, .mv (.t 34), none, []⟩, ⟨some 35, .extract (.t 30) 0, none, []⟩, ⟨some 36, .extract (.t 30) 1, none, []⟩, ⟨some 10, .mv (.t 35), none, []⟩, ⟨some 11, .mv (.t 36), none, []⟩]).seq ((ACode.region false [⟨some 37, .mv (.t 11), none, []⟩]).seq (ACode.cond (.t 37) (ACode.exit 1) ACode.skip))).seq ((ACode.region false [⟨some 38, .mv (.t 7), none, []⟩, ⟨some 39, .len (.t 38), none, []⟩, ⟨some 40, .bin .gtr (.t 39) (.c (.int .i64 (0))), none, []⟩, ⟨some 41, .mv (.t 40), none, []⟩, ⟨some 42, .mv (.t 7), some (41, true), []⟩, ⟨some 43, .mv (.t 7), some (41, true), []⟩, ⟨some 44, .len (.t 43), some (41, true), []⟩, ⟨some 45, .bin .sub (.t 44) (.c (.int .i64 (1))), some (41, true), []⟩, ⟨some 46, .idxAddr 2 (.t 42) (.t 45), some (41, true), []⟩, ⟨some 47, .fieldAddr 1 (.t 46), some (41, true), []⟩, ⟨some 48, .load 1 false (.t 47), some (41, true), []⟩, ⟨some 49, .mv (.t 8), some (41, true), []⟩, ⟨some 50, .bin .eql (.t 48) (.t 49), some (41, true), []⟩, ⟨some 51, .pick (.t 41) (.t 50) (.c (.bool false)), none, []⟩]).seq (ACode.cond (.t 51) (ACode.region false [⟨some 52, .mv (.t 7), none, []⟩, ⟨some 53, .mv (.t 7), none, []⟩, ⟨some 54, .len (.t 53), none, []⟩, ⟨some 55, .bin .sub (.t 54) (.c (.int .i64 (1))), none, []⟩, ⟨some 56, .mv (.t 9), none, []⟩, ⟨some 57, .idxAddr 2 (.t 52) (.t 55), none, []⟩, ⟨some 58, .fieldAddr 1 (.t 57), none, []⟩, ⟨none, .store 1 (.t 58) (.t 56), none, []⟩]) (ACode.region false [⟨some 59, .mv (.t 7), none, []⟩, ⟨some 60, .mv (.t 8), none, []⟩, ⟨some 61, .mv (.t 9), none, []⟩, ⟨some 62, .build [.int .i64 (0), .int .i64 (0)] [(0, 1, .t 60), (1, 1, .t 61)], none, []⟩, ⟨some 63, .buildSlice 37 2 [.t 62], none, []⟩, ⟨some 64, .append 37 2 16 (.t 59) (.t 63), none, []⟩, ⟨some 7, .mv (.t 64), none, []⟩])))))).seq (ACode.region false [⟨some 18, .mv (.t 0), none, []⟩, ⟨some 19, .mv (.t 1), none, []⟩, ⟨some 20, .mv (.t 8), none, []⟩, ⟨some 21, .fieldAddr 1 (.t 5), none, []⟩, ⟨some 22, .load 1 false (.t 21), none, []⟩, ⟨some 23, .call 40 [.t 18, .t 19, .t 20, .t 22], none, []⟩, ⟨some 8, .mv (.t 23), none, []⟩]))).loop)).seq ((ACode.region false [⟨some 65, .mv (.t 7), none, []⟩, ⟨some 6, .mv (.t 65), none, []⟩]).seq ACode.ret))))
theorem Try.F25 : FnFacts Try.prog 25 Try.f25 Try.ac25 66 [.tmp 6] := ⟨Try.func25, by kernel_rfl, by kernel_rfl, by kernel_rfl, by kernel_rfl, by kernel_rfl, by kernel_rfl, by kernel_rfl⟩
def Try.ac26 : ACode := ((ACode.region false [⟨some 2, .mv (.c (.bool false)), none, []⟩]).seq (((ACode.region false [⟨some 7, .mv (.t 0), none, []⟩, ⟨some 8, .bin .eql (.t 7) (.c (.string ⟨⟨[]⟩⟩)), none, []⟩, ⟨some 9, .mv (.t 8), none, []⟩, ⟨some 10, .mv (.t 0), some (9, false), []⟩, ⟨some 11, .lenStr (.t 10), some (9, false), []⟩, ⟨some 12, .bin .gtr (.t 11) (.c (.int .i64 (16))), some (9, false), []⟩, ⟨some 13, .pick (.t 9) (.c (.bool true)) (.t 12), none, []⟩]).seq (ACode.cond (.t 13) ((ACode.region false [⟨some 2, .mv (.c (.bool false)), none, []⟩]).seq ACode.ret) ACode.skip)).seq (((ACode.region false [⟨some 14, .mv (.t 0), none, []⟩, ⟨some 15, .range (.t 14), none, []⟩]).seq (ACode.block 0 ((ACode.region false [⟨some 16, .next (.t 15), none, []⟩, ⟨some 17, .extract (.t 16) 0, none, []⟩]).seq ((ACode.cond (.t 17) ACode.skip (ACode.exit 0)).seq (ACode.block 1 ((ACode.region false [⟨some 18, .extract (.t 16) 1, none, []⟩, ⟨some 19, .extract (.t 16) 2, none, []⟩, ⟨some 3, .mv (.t 18), none, []⟩, ⟨some 4, .mv (.t 19), none, []⟩]).seq ((ACode.region false [⟨some 20, .mv (.t 4), none, []⟩, ⟨some 21, .bin .geq (.t 20) (.c (.int .i32 (65))), none, []⟩, ⟨some 22, .mv (.t 21), none, []⟩, ⟨some 23, .mv (.t 4), some (22, true), []⟩, ⟨some 24, .bin .leq (.t 23) (.c (.int .i32 (90))), some (22, true), []⟩, ⟨some 25, .pick (.t 22) (.t 24) (.c (.bool false)), none, []⟩, ⟨some 26, .mv (.t 25), none, []⟩, ⟨some 27, .mv (.t 4), some (26, false), []⟩, ⟨some 28, .bin .geq (.t 27) (.c (.int .i32 (97))), some (26, false), []⟩, ⟨some 29, .mv (.t 28), some (26, false), []⟩, ⟨some 30, .mv (.t 4), some (29, true), []⟩, ⟨some 31, .bin .leq (.t 30) (.c (.int .i32 (122))), some (29, true), []⟩, ⟨some 32, .pick (.t 29) (.t 31) (.c (.bool false)), some (26, false), []⟩, ⟨some 33, .pick (.t 26) (.c (.bool true)) (.t 32), none, []⟩, ⟨some 5, .mv (.t 33), none, []⟩]).seq ((ACode.region false [⟨some 34, .mv (.t 4), none, []⟩, ⟨some 35, .bin .geq (.t 34) (.c (.int .i32 (48))), none, []⟩, ⟨some 36, .mv (.t 35), none, []⟩, ⟨some 37, .mv (.t 4), some (36, true), []⟩, ⟨some 38, .bin .leq (.t 37) (.c (.int .i32 (57))), some (36, true), []⟩, ⟨some 39, .pick (.t 36) (.t 38) (.c (.bool false)), none, []⟩, ⟨some 40, .mv (.t 39), none, []⟩, ⟨some 41, .mv (.t 4), some (40, false), []⟩, ⟨some 42, .bin .eql (.t 41) (.c (.int .i32 (95))), some (40, false), []⟩, ⟨some 43, .pick (.t 40) (.c (.bool true)) (.t 42), none, []⟩, ⟨some 44, .mv (.t 43), none, []⟩, ⟨some 45, .mv (.t 4), some (44, false), []⟩, ⟨some 46, .bin .eql (.t 45) (.c (.int .i32 (45))), some (44, false), []⟩, ⟨some 47, .pick (.t 44) (.c (.bool true)) (.t 46), none, []⟩, ⟨some 6, .mv (.t 47), none, []⟩]).seq ((ACode.region false [⟨some 48, .mv (.t 5), none, []⟩, ⟨some 49, .un .not (.t 48), none, []⟩, ⟨some 50, .mv (.t 49), none, []⟩, ⟨some 51, .mv (.t 3), some (50, true), []⟩, ⟨some 52, .bin .eql (.t 51) (.c (.int .i64 (0))), some (50, true), []⟩, ⟨some 53, .mv (.t 52), some (50, true), []⟩, ⟨some 54, .mv (.t 6), some (53, false), []⟩, ⟨some 55, .un .not (.t 54), some (53, false), []⟩, ⟨some 56, .pick (.t 53) (.c (.bool true)) (.t 55), some (50, true), []⟩, ⟨some 57, .pick (.t 50) (.t 56) (.c (.bool false)), none, []⟩]).seq (ACode.cond (.t 57) ((ACode.region false [⟨some 2, .mv (.c (.bool false)), none, []⟩]).seq ACode.ret) ACode.skip)))))))).loop)).seq ((ACode.region false [⟨some 2, .mv (.c (.bool true)), none, []⟩]).seq ACode.ret))))
theorem Try.F26 : FnFacts Try.prog 26 Try.f26 Try.ac26 58 [.tmp 2] := ⟨Try.func26, by kernel_rfl, by kernel_rfl, by kernel_rfl, by kernel_rfl, by kernel_rfl, by kernel_rfl, by kernel_rfl⟩
def Try.ac27 : ACode := ((ACode.region false [⟨some 2, .mv (.c (.int .i64 (0))), none, []⟩]).seq (((ACode.region false [⟨some 5, .mv (.t 0), none, []⟩, ⟨some 6, .len (.t 5), none, []⟩, ⟨some 7, .mv (.c (.int .i64 (0))), none, []⟩]).seq (ACode.block 0 ((ACode.region false [⟨some 8, .bin .lss (.t 7) (.t 6), none, []⟩]).seq ((ACode.cond (.t 8) ACode.skip (ACode.exit 0)).seq ((ACode.block 1 ((ACode.region false [⟨some 9, .mv (.t 7), none, []⟩, ⟨some 10, .idxAddr 3 (.t 5) (.t 7), none, []⟩, ⟨some 11, .load 3 true (.t 10), none, []⟩, ⟨some 4, .alloc [.string ⟨⟨[]⟩⟩, .int .i64 (0), .int .i64 (0)], none, []⟩, ⟨some 3, .mv (.t 9), none, []⟩, ⟨none, .store 3 (.t 4) (.t 11), none, []⟩]).seq (((ACode.region false [⟨some 12, .fieldAddr 0 (.t 4), none, []⟩, ⟨some 13, .load 1 false (.t 12), none, []⟩, ⟨some 14, .call 26 [.t 13], none, []⟩, ⟨some 15, .un .not (.t 14), none, []⟩]).seq (ACode.cond (.t 15) ((ACode.region false [⟨some 2, .mv (.c (.int .i64 (6))), none, []⟩]).seq ACode.ret) ACode.skip)).seq (((ACode.region false [⟨some 16, .fieldAddr 1 (.t 4), none, []⟩, ⟨some 17, .load 1 false (.t 16), none, []⟩, ⟨some 18, .bin .lss (.t 17) (.c (.int .i64 (0))), none, []⟩, ⟨some 19, .mv (.t 18), none, []⟩, ⟨some 20, .fieldAddr 1 (.t 4), some (19, false), []⟩, ⟨some 21, .load 1 false (.t 20), some (19, false), []⟩, ⟨some 22, .fieldAddr 2 (.t 4), some (19, false), []⟩, ⟨some 23, .load 1 false (.t 22), some (19, false), []⟩, ⟨some 24, .bin .geq (.t 21) (.t 23), some (19, false), []⟩, ⟨some 25, .pick (.t 19) (.c (.bool true)) (.t 24), none, []⟩, ⟨some 26, .mv (.t 25), none, []⟩, ⟨some 27, .fieldAddr 2 (.t 4), some (26, false), []⟩, ⟨some 28, .load 1 false (.t 27), some (26, false), []⟩, ⟨some 29, .bin .gtr (.t 28) (.c (.int .i64 (1048576))), some (26, false), []⟩, ⟨some 30, .pick (.t 26) (.c (.bool true)) (.t 29), none, []⟩]).seq (ACode.cond (.t 30) ((ACode.region false [⟨some 2, .mv (.c (.int .i64 (9))), none, []⟩]).seq ACode.ret) ACode.skip)).seq ((ACode.region true [⟨some 31, .mv (.t 3), none, []⟩, ⟨some 32, .bin .gtr (.t 31) (.c (.int .i64 (0))), none, [0]⟩, ⟨some 33, .mv (.t 32), none, [1]⟩, ⟨some 34, .fieldAddr 0 (.t 4), some (33, true), [2]⟩, ⟨some 35, .load 1 false (.t 34), some (33, true), [3, 2]⟩, ⟨some 36, .mv (.t 0), some (33, true), [2]⟩, ⟨some 37, .mv (.t 3), some (33, true), [2]⟩, ⟨some 38, .bin .sub (.t 37) (.c (.int .i64 (1))), some (33, true), [6, 2]⟩, ⟨some 39, .idxAddr 3 (.t 36) (.t 38), some (33, true), [5, 7, 2]⟩, ⟨some 40, .fieldAddr 0 (.t 39), some (33, true), [8, 2]⟩, ⟨some 41, .load 1 false (.t 40), some (33, true), [9, 2]⟩, ⟨some 42, .bin .lss (.t 35) (.t 41), some (33, true), [4, 10, 2]⟩, ⟨some 43, .mv (.t 42), some (33, true), [11, 2, 2]⟩, ⟨some 44, .fieldAddr 0 (.t 4), some (43, false), [12]⟩, ⟨some 45, .load 1 false (.t 44), some (43, false), [13, 12]⟩, ⟨some 46, .mv (.t 0), some (43, false), [12]⟩, ⟨some 47, .mv (.t 3), some (43, false), [12]⟩, ⟨some 48, .bin .sub (.t 47) (.c (.int .i64 (1))), some (43, false), [16, 12]⟩, ⟨some 49, .idxAddr 3 (.t 46) (.t 48), some (43, false), [15, 17, 12]⟩, ⟨some 50, .fieldAddr 0 (.t 49), some (43, false), [18, 12]⟩, ⟨some 51, .load 1 false (.t 50), some (43, false), [19, 12]⟩, ⟨some 52, .bin .eql (.t 45) (.t 51), some (43, false), [14, 20, 12]⟩, ⟨some 53, .mv (.t 52), some (43, false), [21, 12, 12]⟩, ⟨some 54, .fieldAddr 1 (.t 4), some (53, true), [22]⟩, ⟨some 55, .load 1 false (.t 54), some (53, true), [23, 22]⟩, ⟨some 56, .mv (.t 0), some (53, true), [22]⟩, ⟨some 57, .mv (.t 3), some (53, true), [22]⟩, ⟨some 58, .bin .sub (.t 57) (.c (.int .i64 (1))), some (53, true), [26, 22]⟩, ⟨some 59, .idxAddr 3 (.t 56) (.t 58), some (53, true), [25, 27, 22]⟩, ⟨some 60, .fieldAddr 2 (.t 59), some (53, true), [28, 22]⟩, ⟨some 61, .load 1 false (.t 60), some (53, true), [29, 22]⟩, ⟨some 62, .bin .lss (.t 55) (.t 61), some (53, true), [24, 30, 22]⟩, ⟨some 63, .pick (.t 53) (.t 62) (.c (.bool false)), some (43, false), [22, 31, 12]⟩, ⟨some 64, .pick (.t 43) (.c (.bool true)) (.t 63), some (33, true), [12, 32, 2]⟩, ⟨some 65, .pick (.t 33) (.t 64) (.c (.bool false)), none, [2, 33]⟩]).seq (ACode.cond (.t 65) ((ACode.region false [⟨some 2, .mv (.c (.int .i64 (11))), none, []⟩]).seq ACode.ret) ACode.skip)))))).seq (ACode.region false [⟨some 66, .bin .add (.t 7) (.c (.int .i64 (1))), none, []⟩, ⟨some 7, .mv (.t 66), none, []⟩])))).loop)).seq ((ACode.region false [⟨some 2, .mv (.c (.int .i64 (0))), none, []⟩]).seq ACode.ret)))
theorem Try.F27 : FnFacts Try.prog 27 Try.f27 Try.ac27 67 [.tmp 2] := ⟨Try.func27, by kernel_rfl, by kernel_rfl, by kernel_rfl, by kernel_rfl, by kernel_rfl, by kernel_rfl, by kernel_rfl⟩
def Try.ac28 : ACode := ((ACode.region false [⟨some 2, .mv (.c (.bool false)), none, []⟩]).seq (((ACode.region false [⟨some 4, .mv (.t 0), none, []⟩, ⟨some 5, .bin .eql (.t 4) (.c (.string ⟨⟨[]⟩⟩)), none, []⟩, ⟨some 6, .mv (.t 5), none, []⟩, ⟨some 7, .mv (.t 0), some (6, false), []⟩, ⟨some 8, .lenStr (.t 7), some (6, false), []⟩, ⟨some 9, .bin .gtr (.t 8) (.c (.int .i64 (16))), some (6, false), []⟩, ⟨some 10, .pick (.t 6) (.c (.bool true)) (.t 9), none, []⟩, ⟨some 11, .mv (.t 10), none, []⟩, ⟨some 12, .mv (.t 0), some (11, false), []⟩, ⟨some 13, .idxStr (.t 12) (.c (.int .i64 (0))), some (11, false), []⟩, ⟨some 14, .call 41 [.t 13], some (11, false), []⟩, ⟨some 15, .un .not (.t 14), some (11, false), []⟩, ⟨some 16, .pick (.t 11) (.c (.bool true)) (.t 15), none, []⟩]).seq (ACode.cond (.t 16) ((ACode.region false [⟨some 2, .mv (.c (.bool false)), none, []⟩]).seq ACode.ret) ACode.skip)).seq (((ACode.region false [⟨some 3, .mv (.c (.int .i64 (0))), none, []⟩]).seq (ACode.block 0 (((ACode.region false [⟨some 17, .mv (.t 3), none, []⟩, ⟨some 18, .mv (.t 0), none, []⟩, ⟨some 19, .lenStr (.t 18), none, []⟩, ⟨some 20, .bin .lss (.t 17) (.t 19), none, []⟩]).seq (ACode.cond (.t 20) ACode.skip (ACode.exit 0))).seq ((ACode.block 1 ((ACode.region false [⟨some 23, .mv (.t 0), none, []⟩, ⟨some 24, .mv (.t 3), none, []⟩, ⟨some 25, .idxStr (.t 23) (.t 24), none, []⟩, ⟨some 26, .call 41 [.t 25], none, []⟩, ⟨some 27, .un .not (.t 26), none, []⟩, ⟨some 28, .mv (.t 27), none, []⟩, ⟨some 29, .mv (.t 0), some (28, true), []⟩, ⟨some 30, .mv (.t 3), some (28, true), []⟩, ⟨some 31, .idxStr (.t 29) (.t 30), some (28, true), []⟩, ⟨some 32, .call 42 [.t 31], some (28, true), []⟩, ⟨some 33, .un .not (.t 32), some (28, true), []⟩, ⟨some 34, .pick (.t 28) (.t 33) (.c (.bool false)), none, []⟩, ⟨some 35, .mv (.t 34), none, []⟩, ⟨some 36, .mv (.t 0), some (35, true), []⟩, ⟨some 37, .mv (.t 3), some (35, true), []⟩, ⟨some 38, .idxStr (.t 36) (.t 37), some (35, true), []⟩, ⟨some 39, .bin .neq (.t 38) (.c (.int .u8 (95))), some (35, true), []⟩, ⟨some 40, .pick (.t 35) (.t 39) (.c (.bool false)), none, []⟩, ⟨some 41, .mv (.t 40), none, []⟩, ⟨some 42, .mv (.t 0), some (41, true), []⟩, ⟨some 43, .mv (.t 3), some (41, true), []⟩, ⟨some 44, .idxStr (.t 42) (.t 43), some (41, true), []⟩, ⟨some 45, .bin .neq (.t 44) (.c (.int .u8 (45))), some (41, true), []⟩, ⟨some 46, .pick (.t 41) (.t 45) (.c (.bool false)), none, []⟩]).seq (ACode.cond (.t 46) ((ACode.region false [⟨some 2, .mv (.c (.bool false)), none, []⟩]).seq ACode.ret) ACode.skip))).seq (ACode.region false [⟨some 21, .mv (.t 3), none, []⟩, ⟨some 22, .bin .add (.t 21) (.c (.int .i64 (1))), none, []⟩, ⟨some 3, .mv (.t 22), none, []⟩]))).loop)).seq ((ACode.region false [⟨some 2, .mv (.c (.bool true)), none, []⟩]).seq ACode.ret))))
theorem Try.F28 : FnFacts Try.prog 28 Try.f28 Try.ac28 47 [.tmp 2] := ⟨Try.func28, by kernel_rfl, by kernel_rfl, by kernel_rfl, by kernel_rfl, by kernel_rfl, by kernel_rfl, by kernel_rfl⟩
def Try.ac29 : ACode := ((ACode.region false [⟨some 2, .mv (.c (.int .i64 (0))), none, []⟩]).seq (((ACode.region false [⟨some 5, .mv (.t 0), none, []⟩, ⟨some 6, .len (.t 5), none, []⟩, ⟨some 7, .bin .gtr (.t 6) (.c (.int .i64 (16))), none, []⟩]).seq (ACode.cond (.t 7) ((ACode.region false [⟨some 2, .mv (.c (.int .i64 (4))), none, []⟩]).seq ACode.ret) ACode.skip)).seq (((ACode.region false [⟨some 3, .mv (.c (.int .i64 (0))), none, []⟩]).seq (ACode.block 0 (((ACode.region false [⟨some 8, .mv (.t 3), none, []⟩, ⟨some 9, .mv (.t 0), none, []⟩, ⟨some 10, .len (.t 9), none, []⟩, ⟨some 11, .bin .lss (.t 8) (.t 10), none, []⟩]).seq (ACode.cond (.t 11) ACode.skip (ACode.exit 0))).seq ((ACode.block 1 ((ACode.region false [⟨some 14, .mv (.t 0), none, []⟩, ⟨some 15, .mv (.t 3), none, []⟩, ⟨some 16, .idxAddr 3 (.t 14) (.t 15), none, []⟩, ⟨some 17, .load 3 true (.t 16), none, []⟩, ⟨some 4, .alloc [.string ⟨⟨[]⟩⟩, .int .i64 (0), .int .i64 (0)], none, []⟩, ⟨none, .store 3 (.t 4) (.t 17), none, []⟩]).seq (((ACode.region false [⟨some 18, .fieldAddr 0 (.t 4), none, []⟩, ⟨some 19, .load 1 false (.t 18), none, []⟩, ⟨some 20, .call 28 [.t 19], none, []⟩, ⟨some 21, .un .not (.t 20), none, []⟩]).seq (ACode.cond (.t 21) ((ACode.region false [⟨some 2, .mv (.c (.int .i64 (6))), none, []⟩]).seq ACode.ret) ACode.skip)).seq (((ACode.region false [⟨some 22, .fieldAddr 1 (.t 4), none, []⟩, ⟨some 23, .load 1 false (.t 22), none, []⟩, ⟨some 24, .bin .lss (.t 23) (.c (.int .i64 (0))), none, []⟩, ⟨some 25, .mv (.t 24), none, []⟩, ⟨some 26, .fieldAddr 1 (.t 4), some (25, false), []⟩, ⟨some 27, .load 1 false (.t 26), some (25, false), []⟩, ⟨some 28, .fieldAddr 2 (.t 4), some (25, false), []⟩, ⟨some 29, .load 1 false (.t 28), some (25, false), []⟩, ⟨some 30, .bin .geq (.t 27) (.t 29), some (25, false), []⟩, ⟨some 31, .pick (.t 25) (.c (.bool true)) (.t 30), none, []⟩, ⟨some 32, .mv (.t 31), none, []⟩, ⟨some 33, .fieldAddr 2 (.t 4), some (32, false), []⟩, ⟨some 34, .load 1 false (.t 33), some (32, false), []⟩, ⟨some 35, .bin .gtr (.t 34) (.c (.int .i64 (1048576))), some (32, false), []⟩, ⟨some 36, .pick (.t 32) (.c (.bool true)) (.t 35), none, []⟩]).seq (ACode.cond (.t 36) ((ACode.region false [⟨some 2, .mv (.c (.int .i64 (9))), none, []⟩]).seq ACode.ret) ACode.skip)).seq ((ACode.region true [⟨some 37, .mv (.t 3), none, []⟩, ⟨some 38, .bin .gtr (.t 37) (.c (.int .i64 (0))), none, [0]⟩, ⟨some 39, .mv (.t 38), none, [1]⟩, ⟨some 40, .fieldAddr 0 (.t 4), some (39, true), [2]⟩, ⟨some 41, .load 1 false (.t 40), some (39, true), [3, 2]⟩, ⟨some 42, .mv (.t 0), some (39, true), [2]⟩, ⟨some 43, .mv (.t 3), some (39, true), [2]⟩, ⟨some 44, .bin .sub (.t 43) (.c (.int .i64 (1))), some (39, true), [6, 2]⟩, ⟨some 45, .idxAddr 3 (.t 42) (.t 44), some (39, true), [5, 7, 2]⟩, ⟨some 46, .fieldAddr 0 (.t 45), some (39, true), [8, 2]⟩, ⟨some 47, .load 1 false (.t 46), some (39, true), [9, 2]⟩, ⟨some 48, .bin .lss (.t 41) (.t 47), some (39, true), [4, 10, 2]⟩, ⟨some 49, .mv (.t 48), some (39, true), [11, 2, 2]⟩, ⟨some 50, .fieldAddr 0 (.t 4), some (49, false), [12]⟩, ⟨some 51, .load 1 false (.t 50), some (49, false), [13, 12]⟩, ⟨some 52, .mv (.t 0), some (49, false), [12]⟩, ⟨some 53, .mv (.t 3), some (49, false), [12]⟩, ⟨some 54, .bin .sub (.t 53) (.c (.int .i64 (1))), some (49, false), [16, 12]⟩, ⟨some 55, .idxAddr 3 (.t 52) (.t 54), some (49, false), [15, 17, 12]⟩, ⟨some 56, .fieldAddr 0 (.t 55), some (49, false), [18, 12]⟩, ⟨some 57, .load 1 false (.t 56), some (49, false), [19, 12]⟩, ⟨some 58, .bin .eql (.t 51) (.t 57), some (49, false), [14, 20, 12]⟩, ⟨some 59, .mv (.t 58), some (49, false), [21, 12, 12]⟩, ⟨some 60, .fieldAddr 1 (.t 4), some (59, true), [22]⟩, ⟨some 61, .load 1 false (.t 60), some (59, true), [23, 22]⟩, ⟨some 62, .mv (.t 0), some (59, true), [22]⟩, ⟨some 63, .mv (.t 3), some (59, true), [22]⟩, ⟨some 64, .bin .sub (.t 63) (.c (.int .i64 (1))), some (59, true), [26, 22]⟩, ⟨some 65, .idxAddr 3 (.t 62) (.t 64), some (59, true), [25, 27, 22]⟩, ⟨some 66, .fieldAddr 2 (.t 65), some (59, true), [28, 22]⟩, ⟨some 67, .load 1 false (.t 66), some (59, true), [29, 22]⟩, ⟨some 68, .bin .lss (.t 61) (.t 67), some (59, true), [24, 30, 22]⟩, ⟨some 69, .pick (.t 59) (.t 68) (.c (.bool false)), some (49, false), [22, 31, 12]⟩, ⟨some 70, .pick (.t 49) (.c (.bool true)) (.t 69), some (39, true), [12, 32, 2]⟩, ⟨some 71, .pick (.t 39) (.t 70) (.c (.bool false)), none, [2, 33]⟩]).seq (ACode.cond (.t 71) ((ACode.region false [⟨some 2, .mv (.c (.int .i64 (11))), none, []⟩]).seq ACode.ret) ACode.skip)))))).seq (ACode.region false [⟨some 12, .mv (.t 3), none, []⟩, ⟨some 13, .bin .add (.t 12) (.c (.int .i64 (1))), none, []⟩, ⟨some 3, .mv (.t 13), none, []⟩]))).loop)).seq ((ACode.region false [⟨some 2, .mv (.c (.int .i64 (0))), none, []⟩]).seq ACode.ret))))
theorem Try.F29 : FnFacts Try.prog 29 Try.f29 Try.ac29 72 [.tmp 2] := ⟨Try.func29, by kernel_rfl, by kernel_rfl, by kernel_rfl, by kernel_rfl, by kernel_rfl, by kernel_rfl, by kernel_rfl⟩
def Try.ac30 : ACode := ((ACode.region false [⟨some 0, .mv (.c (.slice none 0 0)), none, []⟩]).seq ((ACode.region false [⟨some 1, .build [.string ⟨⟨[]⟩⟩, .int .i64 (0), .int .i64 (0)] [(0, 1, .c (.string ⟨⟨[(80 : UInt8)]⟩⟩)), (2, 1, .c (.int .i64 (5)))], none, []⟩, ⟨some 2, .build [.string ⟨⟨[]⟩⟩, .int .i64 (0), .int .i64 (0)] [(0, 1, .c (.string ⟨⟨[(80 : UInt8)]⟩⟩)), (1, 1, .c (.int .i64 (9))), (2, 1, .c (.int .i64 (12)))], none, []⟩, ⟨some 3, .buildSlice 50 3 [.t 1, .t 2], none, []⟩, ⟨some 4, .build [.string ⟨⟨[]⟩⟩, .slice none 0 0] [(0, 1, .c (.string ⟨⟨[(65 : UInt8), (110 : UInt8), (110 : UInt8)]⟩⟩)), (1, 1, .t 3)], none, []⟩, ⟨some 5, .build [.string ⟨⟨[]⟩⟩, .int .i64 (0), .int .i64 (0)] [(0, 1, .c (.string ⟨⟨[(80 : UInt8)]⟩⟩)), (1, 1, .c (.int .i64 (4))), (2, 1, .c (.int .i64 (6)))], none, []⟩, ⟨some 6, .buildSlice 50 3 [.t 5], none, []⟩, ⟨some 7, .build [.string ⟨⟨[]⟩⟩, .slice none 0 0] [(0, 1, .c (.string ⟨⟨[(66 : UInt8), (111 : UInt8), (98 : UInt8)]⟩⟩)), (1, 1, .t 6)], none, []⟩, ⟨some 8, .buildSlice 47 2 [.t 4, .t 7], none, []⟩, ⟨some 0, .mv (.t 8), none, []⟩]).seq ACode.ret))
theorem Try.F30 : FnFacts Try.prog 30 Try.f30 Try.ac30 9 [.tmp 0] := ⟨Try.func30, by kernel_rfl, by kernel_rfl, by kernel_rfl, by kernel_rfl, by kernel_rfl, by kernel_rfl, by kernel_rfl⟩
def Try.ac31 : ACode := ((ACode.region false [⟨some 3, .box 2 (.t 0), none, []⟩, ⟨some 4, .box 1 (.t 1), none, []⟩, ⟨some 5, .box 1 (.t 2), none, []⟩, ⟨some 6, .mv (.c (.bool false)), none, []⟩]).seq ((ACode.region false [⟨some 7, .fieldAddr 1 (.t 3), none, []⟩, ⟨some 8, .load 1 false (.t 7), none, []⟩, ⟨some 9, .mkfn 44 [.t 4, .t 5], none, []⟩, ⟨some 10, .call 43 [.t 8, .t 9], none, []⟩, ⟨some 6, .mv (.t 10), none, []⟩]).seq ACode.ret))
theorem Try.F31 : FnFacts Try.prog 31 Try.f31 Try.ac31 11 [.tmp 6] := ⟨Try.func31, by kernel_rfl, by kernel_rfl, by kernel_rfl, by kernel_rfl, by kernel_rfl, by kernel_rfl, by kernel_rfl⟩
def Try.ac32 : ACode := ((ACode.region false [⟨some 3, .box 2 (.t 0), none, []⟩, ⟨some 6, .mv (.c (.bool false)), none, []⟩]).seq (((ACode.region false [⟨some 7, .mv (.c (.int .i64 (0))), none, []⟩]).seq (ACode.block 0 (((ACode.region false [⟨some 9, .mv (.t 7), none, []⟩, ⟨some 10, .fieldAddr 1 (.t 3), none, []⟩, ⟨some 11, .load 1 false (.t 10), none, []⟩, ⟨some 12, .len (.t 11), none, []⟩, ⟨some 13, .bin .lss (.t 9) (.t 12), none, []⟩]).seq (ACode.cond (.t 13) ACode.skip (ACode.exit 0))).seq ((ACode.block 1 ((ACode.region false [⟨some 16, .fieldAddr 1 (.t 3), none, []⟩, ⟨some 17, .load 1 false (.t 16), none, []⟩, ⟨some 18, .mv (.t 7), none, []⟩, ⟨some 19, .idxAddr 3 (.t 17) (.t 18), none, []⟩, ⟨some 20, .load 3 true (.t 19), none, []⟩, ⟨some 8, .alloc [.string ⟨⟨[]⟩⟩, .int .i64 (0), .int .i64 (0)], none, []⟩, ⟨none, .store 3 (.t 8) (.t 20), none, []⟩]).seq ((ACode.region false [⟨some 21, .fieldAddr 0 (.t 8), none, []⟩, ⟨some 22, .load 1 false (.t 21), none, []⟩, ⟨some 23, .mv (.t 1), none, []⟩, ⟨some 24, .bin .eql (.t 22) (.t 23), none, []⟩, ⟨some 25, .mv (.t 24), none, []⟩, ⟨some 26, .fieldAddr 1 (.t 8), some (25, true), []⟩, ⟨some 27, .load 1 false (.t 26), some (25, true), []⟩, ⟨some 28, .mv (.t 2), some (25, true), []⟩, ⟨some 29, .bin .leq (.t 27) (.t 28), some (25, true), []⟩, ⟨some 30, .pick (.t 25) (.t 29) (.c (.bool false)), none, []⟩, ⟨some 31, .mv (.t 30), none, []⟩, ⟨some 32, .mv (.t 2), some (31, true), []⟩, ⟨some 33, .fieldAddr 2 (.t 8), some (31, true), []⟩, ⟨some 34, .load 1 false (.t 33), some (31, true), []⟩, ⟨some 35, .bin .lss (.t 32) (.t 34), some (31, true), []⟩, ⟨some 36, .pick (.t 31) (.t 35) (.c (.bool false)), none, []⟩]).seq (ACode.cond (.t 36) ((ACode.region false [⟨some 6, .mv (.c (.bool true)), none, []⟩]).seq ACode.ret) ACode.skip)))).seq (ACode.region false [⟨some 14, .mv (.t 7), none, []⟩, ⟨some 15, .bin .add (.t 14) (.c (.int .i64 (1))), none, []⟩, ⟨some 7, .mv (.t 15), none, []⟩]))).loop)).seq ((ACode.region false [⟨some 6, .mv (.c (.bool false)), none, []⟩]).seq ACode.ret)))
theorem Try.F32 : FnFacts Try.prog 32 Try.f32 Try.ac32 37 [.tmp 6] := ⟨Try.func32, by kernel_rfl, by kernel_rfl, by kernel_rfl, by kernel_rfl, by kernel_rfl, by kernel_rfl, by kernel_rfl⟩
def Try.ac33 : ACode := ((ACode.region false [⟨some 4, .mv (.c (.bool false)), none, []⟩]).seq ((ACode.region false [⟨some 5, .mv (.t 0), none, []⟩, ⟨some 6, .mv (.t 1), none, []⟩, ⟨some 7, .call 35 [.t 5, .t 6], none, []⟩, ⟨some 8, .bin .geq (.t 7) (.c (.int .i64 (0))), none, []⟩, ⟨some 4, .mv (.t 8), none, []⟩]).seq ACode.ret))
theorem Try.F33 : FnFacts Try.prog 33 Try.f33 Try.ac33 9 [.tmp 4] := ⟨Try.func33, by kernel_rfl, by kernel_rfl, by kernel_rfl, by kernel_rfl, by kernel_rfl, by kernel_rfl, by kernel_rfl⟩
def Try.ac34 : ACode := ((ACode.region false [⟨some 4, .box 2 (.t 0), none, []⟩, ⟨some 5, .mv (.c (.bool false)), none, []⟩]).seq ((ACode.region false [⟨some 6, .fieldAddr 0 (.t 4), none, []⟩, ⟨some 7, .load 1 false (.t 6), none, []⟩, ⟨some 8, .load 1 false (.t 1), none, []⟩, ⟨some 9, .bin .eql (.t 7) (.t 8), none, []⟩, ⟨some 10, .mv (.t 9), none, []⟩, ⟨some 11, .load 2 true (.t 4), some (10, true), []⟩, ⟨some 12, .load 1 false (.t 2), some (10, true), []⟩, ⟨some 13, .load 1 false (.t 3), some (10, true), []⟩, ⟨some 14, .call 31 [.t 11, .t 12, .t 13], some (10, true), []⟩, ⟨some 15, .pick (.t 10) (.t 14) (.c (.bool false)), none, []⟩, ⟨some 5, .mv (.t 15), none, []⟩]).seq ACode.ret))
theorem Try.F34 : FnFacts Try.prog 34 Try.f34 Try.ac34 16 [.tmp 5] := ⟨Try.func34, by kernel_rfl, by kernel_rfl, by kernel_rfl, by kernel_rfl, by kernel_rfl, by kernel_rfl, by kernel_rfl⟩
def Try.ac35 : ACode := ((ACode.region false [⟨some 4, .mv (.c (.int .i64 (0))), none, []⟩]).seq (((ACode.region false [⟨some 6, .mv (.t 0), none, []⟩, ⟨some 7, .len (.t 6), none, []⟩, ⟨some 8, .mv (.c (.int .i64 (0))), none, []⟩]).seq (ACode.block 0 ((ACode.region false [⟨some 9, .bin .lss (.t 8) (.t 7), none, []⟩]).seq ((ACode.cond (.t 9) ACode.skip (ACode.exit 0)).seq ((ACode.block 1 ((ACode.region false [⟨some 10, .mv (.t 8), none, []⟩, ⟨some 5, .mv (.t 10), none, []⟩]).seq ((ACode.region false [⟨some 11, .mv (.t 1), none, []⟩, ⟨some 12, .mv (.t 0), none, []⟩, ⟨some 13, .mv (.t 5), none, []⟩, ⟨some 14, .idxAddr 2 (.t 12) (.t 13), none, []⟩, ⟨some 15, .load 2 true (.t 14), none, []⟩, ⟨some 16, .callv (.t 11) [.t 15], none, []⟩]).seq (ACode.cond (.t 16) ((ACode.region false [⟨some 17, .mv (.t 5), none, []⟩, ⟨some 4, .mv (.t 17), none, []⟩]).seq ACode.ret) ACode.skip)))).seq (ACode.region false [⟨some 18, .bin .add (.t 8) (.c (.int .i64 (1))), none, []⟩, ⟨some 8, .mv (.t 18), none, []⟩])))).loop)).seq ((ACode.region false [⟨some 4, .mv (.c (.int .i64 (Int.negSucc 0))), none, []⟩]).seq ACode.ret)))
theorem Try.F35 : FnFacts Try.prog 35 Try.f35 Try.ac35 19 [.tmp 4] := ⟨Try.func35, by kernel_rfl, by kernel_rfl, by kernel_rfl, by kernel_rfl, by kernel_rfl, by kernel_rfl, by kernel_rfl⟩
def Try.ac36 : ACode := ((ACode.region false [⟨some 2, .box 2 (.t 0), none, []⟩, ⟨some 3, .mv (.c (.bool false)), none, []⟩]).seq ((ACode.region false [⟨some 4, .fieldAddr 0 (.t 2), none, []⟩, ⟨some 5, .load 1 false (.t 4), none, []⟩, ⟨some 6, .load 1 false (.t 1), none, []⟩, ⟨some 7, .bin .eql (.t 5) (.t 6), none, []⟩, ⟨some 3, .mv (.t 7), none, []⟩]).seq ACode.ret))
theorem Try.F36 : FnFacts Try.prog 36 Try.f36 Try.ac36 8 [.tmp 3] := ⟨Try.func36, by kernel_rfl, by kernel_rfl, by kernel_rfl, by kernel_rfl, by kernel_rfl, by kernel_rfl, by kernel_rfl⟩
def Try.ac37 : ACode := ((ACode.region false [⟨some 3, .box 3 (.t 1), none, []⟩, ⟨some 4, .mv (.c (.slice none 0 0)), none, []⟩]).seq ((ACode.region false [⟨some 5, .mv (.c (.slice none 0 0)), none, []⟩]).seq ((ACode.region true [⟨some 10, .fieldAddr 1 (.t 3), none, []⟩, ⟨some 11, .load 1 false (.t 10), none, [0]⟩, ⟨some 12, .fieldAddr 2 (.t 3), none, []⟩, ⟨some 13, .load 1 false (.t 12), none, [2]⟩, ⟨some 6, .mv (.t 11), none, [1, 0, 1]⟩, ⟨some 7, .mv (.t 13), none, [3, 4, 0, 1, 2, 3, 4]⟩]).seq (((ACode.region false [⟨some 14, .mv (.t 0), none, []⟩, ⟨some 15, .len (.t 14), none, []⟩, ⟨some 16, .mv (.c (.int .i64 (0))), none, []⟩]).seq (ACode.block 0 ((ACode.region false [⟨some 17, .bin .lss (.t 16) (.t 15), none, []⟩]).seq ((ACode.cond (.t 17) ACode.skip (ACode.exit 0)).seq ((ACode.block 1 ((ACode.region false [⟨some 18, .idxAddr 3 (.t 14) (.t 16), none, []⟩, ⟨some 19, .load 3 true (.t 18), none, []⟩, ⟨some 9, .alloc [.string ⟨⟨[]⟩⟩, .int .i64 (0), .int .i64 (0)], none, []⟩, ⟨none, .store 3 (.t 9) (.t 19), none, []⟩]).seq (((ACode.region false [⟨some 20, .fieldAddr 0 (.t 9), none, []⟩, ⟨some 21, .load 1 false (.t 20), none, []⟩, ⟨some 22, .fieldAddr 0 (.t 3), none, []⟩, ⟨some 23, .load 1 false (.t 22), none, []⟩, ⟨some 24, .bin .eql (.t 21) (.t 23), none, []⟩, ⟨some 25, .mv (.t 24), none, []⟩, ⟨some 26, .fieldAddr 1 (.t 9), some (25, true), []⟩, ⟨some 27, .load 1 false (.t 26), some (25, true), []⟩, ⟨some 28, .mv (.t 7), some (25, true), []⟩, ⟨some 29, .bin .leq (.t 27) (.t 28), some (25, true), []⟩, ⟨some 30, .pick (.t 25) (.t 29) (.c (.bool false)), none, []⟩, ⟨some 31, .mv (.t 30), none, []⟩, ⟨some 32, .mv (.t 6), some (31, true), []⟩, ⟨some 33, .fieldAddr 2 (.t 9), some (31, true), []⟩, ⟨some 34, .load 1 false (.t 33), some (31, true), []⟩, ⟨some 35, .bin .leq (.t 32) (.t 34), some (31, true), []⟩, ⟨some 36, .pick (.t 31) (.t 35) (.c (.bool false)), none, []⟩]).seq (ACode.cond (.t 36) ((ACode.region true [⟨some 37, .fieldAddr 1 (.t 3), none, []⟩, ⟨some 38, .load 1 false (.t 37), none, [0]⟩, ⟨some 39, .fieldAddr 1 (.t 9), none, []⟩, ⟨some 40, .load 1 false (.t 39), none, [2]⟩, ⟨some 41, .minmax false (.t 38) (.t 40), none, [1, 3]⟩, ⟨some 42, .fieldAddr 2 (.t 3), none, []⟩, ⟨some 43, .load 1 false (.t 42), none, [5]⟩, ⟨some 44, .fieldAddr 2 (.t 9), none, []⟩, ⟨some 45, .load 1 false (.t 44), none, [7]⟩, ⟨some 46, .minmax true (.t 43) (.t 45), none, [6, 8]⟩, ⟨some 47, .fieldAddr 1 (.t 3), none, [0, 1, 2, 3, 4, 5, 6]⟩, ⟨none, .store 1 (.t 47) (.t 41), none, [10, 4, 0, 1, 2, 3, 4, 5, 6]⟩, ⟨some 48, .fieldAddr 2 (.t 3), none, [0, 1, 2, 3, 4, 5, 6, 7, 8, 9, 10, 11]⟩, ⟨none, .store 1 (.t 48) (.t 46), none, [12, 9, 11, 0, 1, 2, 3, 4, 5, 6, 7, 8, 9, 10, 11]⟩]).seq (ACode.exit 1)) ACode.skip)).seq (ACode.region false [⟨some 49, .mv (.t 5), none, []⟩, ⟨some 50, .load 3 true (.t 9), none, []⟩, ⟨some 51, .buildSlice 50 3 [.t 50], none, []⟩, ⟨some 52, .append 50 3 32 (.t 49) (.t 51), none, []⟩, ⟨some 5, .mv (.t 52), none, []⟩])))).seq (ACode.region false [⟨some 53, .bin .add (.t 16) (.c (.int .i64 (1))), none, []⟩, ⟨some 16, .mv (.t 53), none, []⟩])))).loop)).seq ((ACode.region false [⟨some 54, .mv (.t 5), none, []⟩, ⟨some 55, .load 3 true (.t 3), none, []⟩, ⟨some 56, .buildSlice 50 3 [.t 55], none, []⟩, ⟨some 57, .append 50 3 32 (.t 54) (.t 56), none, []⟩, ⟨some 5, .mv (.t 57), none, []⟩]).seq ((ACode.region false [⟨some 58, .mv (.t 5), none, []⟩, ⟨some 59, .call 45 [.t 58, .f 46], none, []⟩]).seq ((ACode.region false [⟨some 60, .mv (.t 5), none, []⟩, ⟨some 4, .mv (.t 60), none, []⟩]).seq ACode.ret)))))))
theorem Try.F37 : FnFacts Try.prog 37 Try.f37 Try.ac37 61 [.tmp 4] := ⟨Try.func37, by kernel_rfl, by kernel_rfl, by kernel_rfl, by kernel_rfl, by kernel_rfl, by kernel_rfl, by kernel_rfl⟩
def Try.ac38 : ACode := ((ACode.region false [⟨some 3, .box 3 (.t 1), none, []⟩, ⟨some 4, .mv (.c (.slice none 0 0)), none, []⟩]).seq ((ACode.region false [⟨some 5, .mv (.c (.slice none 0 0)), none, []⟩]).seq ((ACode.region false [⟨some 11, .load 3 true (.t 3), none, []⟩, ⟨some 6, .alloc [.string ⟨⟨[]⟩⟩, .int .i64 (0), .int .i64 (0)], none, []⟩, ⟨none, .store 3 (.t 6) (.t 11), none, []⟩]).seq (((ACode.region false [⟨some 7, .mv (.c (.int .i64 (0))), none, []⟩]).seq (ACode.block 0 (((ACode.region false [⟨some 12, .mv (.t 7), none, []⟩, ⟨some 13, .mv (.t 0), none, []⟩, ⟨some 14, .len (.t 13), none, []⟩, ⟨some 15, .bin .lss (.t 12) (.t 14), none, []⟩]).seq (ACode.cond (.t 15) ACode.skip (ACode.exit 0))).seq ((ACode.block 1 ((ACode.region true [⟨some 18, .mv (.t 0), none, []⟩, ⟨some 19, .mv (.t 7), none, []⟩, ⟨some 20, .idxAddr 3 (.t 18) (.t 19), none, [0, 1]⟩, ⟨some 21, .fieldAddr 0 (.t 20), none, [2]⟩, ⟨some 22, .load 1 false (.t 21), none, [3]⟩, ⟨some 23, .fieldAddr 0 (.t 3), none, []⟩, ⟨some 24, .load 1 false (.t 23), none, [5]⟩, ⟨some 25, .bin .eql (.t 22) (.t 24), none, [4, 6]⟩, ⟨some 26, .mv (.t 25), none, [7]⟩, ⟨some 27, .mv (.t 0), some (26, true), [8]⟩, ⟨some 28, .mv (.t 7), some (26, true), [8]⟩, ⟨some 29, .idxAddr 3 (.t 27) (.t 28), some (26, true), [9, 10, 8]⟩, ⟨some 30, .fieldAddr 1 (.t 29), some (26, true), [11, 8]⟩, ⟨some 31, .load 1 false (.t 30), some (26, true), [12, 8]⟩, ⟨some 32, .fieldAddr 2 (.t 6), some (26, true), [8]⟩, ⟨some 33, .load 1 false (.t 32), some (26, true), [14, 8]⟩, ⟨some 34, .bin .leq (.t 31) (.t 33), some (26, true), [13, 15, 8]⟩, ⟨some 35, .pick (.t 26) (.t 34) (.c (.bool false)), none, [8, 16]⟩, ⟨some 36, .mv (.t 35), none, [17, 8]⟩, ⟨some 37, .fieldAddr 1 (.t 6), some (36, true), [18]⟩, ⟨some 38, .load 1 false (.t 37), some (36, true), [19, 18]⟩, ⟨some 39, .mv (.t 0), some (36, true), [18]⟩, ⟨some 40, .mv (.t 7), some (36, true), [18]⟩, ⟨some 41, .idxAddr 3 (.t 39) (.t 40), some (36, true), [21, 22, 18]⟩, ⟨some 42, .fieldAddr 2 (.t 41), some (36, true), [23, 18]⟩, ⟨some 43, .load 1 false (.t 42), some (36, true), [24, 18]⟩, ⟨some 44, .bin .leq (.t 38) (.t 43), some (36, true), [20, 25, 18]⟩, ⟨some 45, .pick (.t 36) (.t 44) (.c (.bool false)), none, [18, 26]⟩]).seq (ACode.cond (.t 45) ((ACode.region true [⟨some 46, .fieldAddr 1 (.t 3), none, []⟩, ⟨some 47, .load 1 false (.t 46), none, [0]⟩, ⟨some 48, .mv (.t 0), none, []⟩, ⟨some 49, .mv (.t 7), none, []⟩, ⟨some 50, .idxAddr 3 (.t 48) (.t 49), none, [2, 3]⟩, ⟨some 51, .fieldAddr 1 (.t 50), none, [4]⟩, ⟨some 52, .load 1 false (.t 51), none, [5]⟩, ⟨some 53, .minmax false (.t 47) (.t 52), none, [1, 6]⟩, ⟨some 54, .fieldAddr 1 (.t 3), none, [0, 1, 2, 3, 4, 5, 6, 7]⟩, ⟨none, .store 1 (.t 54) (.t 53), none, [8, 7, 0, 1, 2, 3, 4, 5, 6, 7]⟩]).seq (ACode.region true [⟨some 55, .fieldAddr 2 (.t 3), none, []⟩, ⟨some 56, .load 1 false (.t 55), none, [0]⟩, ⟨some 57, .mv (.t 0), none, []⟩, ⟨some 58, .mv (.t 7), none, []⟩, ⟨some 59, .idxAddr 3 (.t 57) (.t 58), none, [2, 3]⟩, ⟨some 60, .fieldAddr 2 (.t 59), none, [4]⟩, ⟨some 61, .load 1 false (.t 60), none, [5]⟩, ⟨some 62, .minmax true (.t 56) (.t 61), none, [1, 6]⟩, ⟨some 63, .fieldAddr 2 (.t 3), none, [0, 1, 2, 3, 4, 5, 6, 7]⟩, ⟨none, .store 1 (.t 63) (.t 62), none, [8, 7, 0, 1, 2, 3, 4, 5, 6, 7]⟩])) (ACode.region false [⟨some 64, .mv (.t 5), none, []⟩, ⟨some 65, .mv (.t 0), none, []⟩, ⟨some 66, .mv (.t 7), none, []⟩, ⟨some 67, .idxAddr 3 (.t 65) (.t 66), none, []⟩, ⟨some 68, .load 3 true (.t 67), none, []⟩, ⟨some 69, .buildSlice 50 3 [.t 68], none, []⟩, ⟨some 70, .append 50 3 32 (.t 64) (.t 69), none, []⟩, ⟨some 5, .mv (.t 70), none, []⟩])))).seq (ACode.region false [⟨some 16, .mv (.t 7), none, []⟩, ⟨some 17, .bin .add (.t 16) (.c (.int .i64 (1))), none, []⟩, ⟨some 7, .mv (.t 17), none, []⟩]))).loop)).seq ((ACode.region false [⟨some 8, .mv (.c (.slice none 0 0)), none, []⟩]).seq ((ACode.region false [⟨some 9, .mv (.c (.bool false)), none, []⟩]).seq (((ACode.region false [⟨some 10, .mv (.c (.int .i64 (0))), none, []⟩]).seq (ACode.block 2 (((ACode.region false [⟨some 71, .mv (.t 10), none, []⟩, ⟨some 72, .mv (.t 5), none, []⟩, ⟨some 73, .len (.t 72), none, []⟩, ⟨some 74, .bin .lss (.t 71) (.t 73), none, []⟩]).seq (ACode.cond (.t 74) ACode.skip (ACode.exit 2))).seq ((ACode.block 3 (((ACode.region true [⟨some 77, .mv (.t 9), none, []⟩, ⟨some 78, .un .not (.t 77), none, [0]⟩, ⟨some 79, .mv (.t 78), none, [1]⟩, ⟨some 80, .mv (.t 5), some (79, true), [2]⟩, ⟨some 81, .mv (.t 10), some (79, true), [2]⟩, ⟨some 82, .idxAddr 3 (.t 80) (.t 81), some (79, true), [3, 4, 2]⟩, ⟨some 83, .fieldAddr 0 (.t 82), some (79, true), [5, 2]⟩, ⟨some 84, .load 1 false (.t 83), some (79, true), [6, 2]⟩, ⟨some 85, .fieldAddr 0 (.t 3), some (79, true), [2]⟩, ⟨some 86, .load 1 false (.t 85), some (79, true), [8, 2]⟩, ⟨some 87, .bin .gtr (.t 84) (.t 86), some (79, true), [7, 9, 2]⟩, ⟨some 88, .mv (.t 87), some (79, true), [10, 2, 2]⟩, ⟨some 89, .mv (.t 5), some (88, false), [11]⟩, ⟨some 90, .mv (.t 10), some (88, false), [11]⟩, ⟨some 91, .idxAddr 3 (.t 89) (.t 90), some (88, false), [12, 13, 11]⟩, ⟨some 92, .fieldAddr 0 (.t 91), some (88, false), [14, 11]⟩, ⟨some 93, .load 1 false (.t 92), some (88, false), [15, 11]⟩, ⟨some 94, .fieldAddr 0 (.t 3), some (88, false), [11]⟩, ⟨some 95, .load 1 false (.t 94), some (88, false), [17, 11]⟩, ⟨some 96, .bin .eql (.t 93) (.t 95), some (88, false), [16, 18, 11]⟩, ⟨some 97, .mv (.t 96), some (88, false), [19, 11, 11]⟩, ⟨some 98, .mv (.t 5), some (97, true), [20]⟩, ⟨some 99, .mv (.t 10), some (97, true), [20]⟩, ⟨some 100, .idxAddr 3 (.t 98) (.t 99), some (97, true), [21, 22, 20]⟩, ⟨some 101, .fieldAddr 1 (.t 100), some (97, true), [23, 20]⟩, ⟨some 102, .load 1 false (.t 101), some (97, true), [24, 20]⟩, ⟨some 103, .fieldAddr 1 (.t 3), some (97, true), [20]⟩, ⟨some 104, .load 1 false (.t 103), some (97, true), [26, 20]⟩, ⟨some 105, .bin .gtr (.t 102) (.t 104), some (97, true), [25, 27, 20]⟩, ⟨some 106, .pick (.t 97) (.t 105) (.c (.bool false)), some (88, false), [20, 28, 11]⟩, ⟨some 107, .pick (.t 88) (.c (.bool true)) (.t 106), some (79, true), [11, 29, 2]⟩, ⟨some 108, .pick (.t 79) (.t 107) (.c (.bool false)), none, [2, 30]⟩]).seq (ACode.cond (.t 108) ((ACode.region false [⟨some 109, .mv (.t 8), none, []⟩, ⟨some 110, .load 3 true (.t 3), none, []⟩, ⟨some 111, .buildSlice 50 3 [.t 110], none, []⟩, ⟨some 112, .append 50 3 32 (.t 109) (.t 111), none, []⟩, ⟨some 8, .mv (.t 112), none, []⟩]).seq (ACode.region false [⟨some 9, .mv (.c (.bool true)), none, []⟩])) ACode.skip)).seq (ACode.region false [⟨some 113, .mv (.t 8), none, []⟩, ⟨some 114, .mv (.t 5), none, []⟩, ⟨some 115, .mv (.t 10), none, []⟩, ⟨some 116, .idxAddr 3 (.t 114) (.t 115), none, []⟩, ⟨some 117, .load 3 true (.t 116), none, []⟩, ⟨some 118, .buildSlice 50 3 [.t 117], none, []⟩, ⟨some 119, .append 50 3 32 (.t 113) (.t 118), none, []⟩, ⟨some 8, .mv (.t 119), none, []⟩]))).seq (ACode.region false [⟨some 75, .mv (.t 10), none, []⟩, ⟨some 76, .bin .add (.t 75) (.c (.int .i64 (1))), none, []⟩, ⟨some 10, .mv (.t 76), none, []⟩]))).loop)).seq (((ACode.region false [⟨some 120, .mv (.t 9), none, []⟩, ⟨some 121, .un .not (.t 120), none, []⟩]).seq (ACode.cond (.t 121) (ACode.region false [⟨some 122, .mv (.t 8), none, []⟩, ⟨some 123, .load 3 true (.t 3), none, []⟩, ⟨some 124, .buildSlice 50 3 [.t 123], none, []⟩, ⟨some 125, .append 50 3 32 (.t 122) (.t 124), none, []⟩, ⟨some 8, .mv (.t 125), none, []⟩]) ACode.skip)).seq ((ACode.region false [⟨some 126, .mv (.t 8), none, []⟩, ⟨some 4, .mv (.t 126), none, []⟩]).seq ACode.ret)))))))))
theorem Try.F38 : FnFacts Try.prog 38 Try.f38 Try.ac38 127 [.tmp 4] := ⟨Try.func38, by kernel_rfl, by kernel_rfl, by kernel_rfl, by kernel_rfl, by kernel_rfl, by kernel_rfl, by kernel_rfl⟩
def Try.ac39 : ACode := ((ACode.region false [⟨some 3, .box 2 (.t 1), none, []⟩, ⟨some 4, .mv (.c (.slice none 0 0)), none, []⟩]).seq ((ACode.region false [⟨some 5, .load 2 true (.t 3), none, []⟩, ⟨some 6, .buildSlice 37 2 [.t 5], none, []⟩, ⟨some 7, .mv (.t 0), none, []⟩, ⟨some 8, .call 49 [.t 6, .t 7], none, []⟩, ⟨some 4, .mv (.t 8), none, []⟩]).seq ACode.ret))
theorem Try.F39 : FnFacts Try.prog 39 Try.f39 Try.ac39 9 [.tmp 4] := ⟨Try.func39, by kernel_rfl, by kernel_rfl, by kernel_rfl, by kernel_rfl, by kernel_rfl, by kernel_rfl, by kernel_rfl⟩
def Try.ac40 : ACode := ((ACode.region false [⟨some 8, .mv (.c (.int .i64 (0))), none, []⟩]).seq (((ACode.region false [⟨some 9, .mv (.c (.int .i64 (0))), none, []⟩]).seq (ACode.block 0 (((ACode.region false [⟨some 12, .mv (.t 9), none, []⟩, ⟨some 13, .mv (.t 0), none, []⟩, ⟨some 14, .len (.t 13), none, []⟩, ⟨some 15, .bin .lss (.t 12) (.t 14), none, []⟩]).seq (ACode.cond (.t 15) ACode.skip (ACode.exit 0))).seq ((ACode.block 1 ((ACode.region false [⟨some 10, .mv (.c (.int .i64 (0))), none, []⟩]).seq (ACode.block 2 (((ACode.region false [⟨some 18, .mv (.t 10), none, []⟩, ⟨some 19, .mv (.t 0), none, []⟩, ⟨some 20, .mv (.t 9), none, []⟩, ⟨some 21, .idxAddr 2 (.t 19) (.t 20), none, []⟩, ⟨some 22, .fieldAddr 1 (.t 21), none, []⟩, ⟨some 23, .load 1 false (.t 22), none, []⟩, ⟨some 24, .len (.t 23), none, []⟩, ⟨some 25, .bin .lss (.t 18) (.t 24), none, []⟩]).seq (ACode.cond (.t 25) ACode.skip (ACode.exit 2))).seq ((ACode.block 3 ((ACode.region false [⟨some 28, .mv (.t 0), none, []⟩, ⟨some 29, .mv (.t 9), none, []⟩, ⟨some 30, .idxAddr 2 (.t 28) (.t 29), none, []⟩, ⟨some 31, .fieldAddr 1 (.t 30), none, []⟩, ⟨some 32, .load 1 false (.t 31), none, []⟩, ⟨some 33, .mv (.t 10), none, []⟩, ⟨some 34, .idxAddr 3 (.t 32) (.t 33), none, []⟩, ⟨some 35, .load 3 true (.t 34), none, []⟩, ⟨some 11, .alloc [.string ⟨⟨[]⟩⟩, .int .i64 (0), .int .i64 (0)], none, []⟩, ⟨none, .store 3 (.t 11) (.t 35), none, []⟩]).seq (((ACode.region false [⟨some 36, .fieldAddr 0 (.t 11), none, []⟩, ⟨some 37, .load 1 false (.t 36), none, []⟩, ⟨some 38, .mv (.t 1), none, []⟩, ⟨some 39, .bin .eql (.t 37) (.t 38), none, []⟩, ⟨some 40, .mv (.t 39), none, []⟩, ⟨some 41, .fieldAddr 1 (.t 11), some (40, true), []⟩, ⟨some 42, .load 1 false (.t 41), some (40, true), []⟩, ⟨some 43, .mv (.t 2), some (40, true), []⟩, ⟨some 44, .bin .gtr (.t 42) (.t 43), some (40, true), []⟩, ⟨some 45, .pick (.t 40) (.t 44) (.c (.bool false)), none, []⟩, ⟨some 46, .mv (.t 45), none, []⟩, ⟨some 47, .fieldAddr 1 (.t 11), some (46, true), []⟩, ⟨some 48, .load 1 false (.t 47), some (46, true), []⟩, ⟨some 49, .mv (.t 3), some (46, true), []⟩, ⟨some 50, .bin .lss (.t 48) (.t 49), some (46, true), []⟩, ⟨some 51, .pick (.t 46) (.t 50) (.c (.bool false)), none, []⟩]).seq (ACode.cond (.t 51) (ACode.region false [⟨some 52, .fieldAddr 1 (.t 11), none, []⟩, ⟨some 53, .load 1 false (.t 52), none, []⟩, ⟨some 3, .mv (.t 53), none, []⟩]) ACode.skip)).seq ((ACode.region false [⟨some 54, .fieldAddr 0 (.t 11), none, []⟩, ⟨some 55, .load 1 false (.t 54), none, []⟩, ⟨some 56, .mv (.t 1), none, []⟩, ⟨some 57, .bin .eql (.t 55) (.t 56), none, []⟩, ⟨some 58, .mv (.t 57), none, []⟩, ⟨some 59, .fieldAddr 2 (.t 11), some (58, true), []⟩, ⟨some 60, .load 1 false (.t 59), some (58, true), []⟩, ⟨some 61, .mv (.t 2), some (58, true), []⟩, ⟨some 62, .bin .gtr (.t 60) (.t 61), some (58, true), []⟩, ⟨some 63, .pick (.t 58) (.t 62) (.c (.bool false)), none, []⟩, ⟨some 64, .mv (.t 63), none, []⟩, ⟨some 65, .fieldAddr 2 (.t 11), some (64, true), []⟩, ⟨some 66, .load 1 false (.t 65), some (64, true), []⟩, ⟨some 67, .mv (.t 3), some (64, true), []⟩, ⟨some 68, .bin .lss (.t 66) (.t 67), some (64, true), []⟩, ⟨some 69, .pick (.t 64) (.t 68) (.c (.bool false)), none, []⟩]).seq (ACode.cond (.t 69) (ACode.region false [⟨some 70, .fieldAddr 2 (.t 11), none, []⟩, ⟨some 71, .load 1 false (.t 70), none, []⟩, ⟨some 3, .mv (.t 71), none, []⟩]) ACode.skip))))).seq (ACode.region false [⟨some 26, .mv (.t 10), none, []⟩, ⟨some 27, .bin .add (.t 26) (.c (.int .i64 (1))), none, []⟩, ⟨some 10, .mv (.t 27), none, []⟩]))).loop))).seq (ACode.region false [⟨some 16, .mv (.t 9), none, []⟩, ⟨some 17, .bin .add (.t 16) (.c (.int .i64 (1))), none, []⟩, ⟨some 9, .mv (.t 17), none, []⟩]))).loop)).seq ((ACode.region false [⟨some 72, .mv (.t 3), none, []⟩, ⟨some 8, .mv (.t 72), none, []⟩]).seq ACode.ret)))
theorem Try.F40 : FnFacts Try.prog 40 Try.f40 Try.ac40 73 [.tmp 8] := ⟨Try.func40, by kernel_rfl, by kernel_rfl, by kernel_rfl, by kernel_rfl, by kernel_rfl, by kernel_rfl, by kernel_rfl⟩
def Try.ac41 : ACode := ((ACode.region false [⟨some 2, .mv (.c (.bool false)), none, []⟩]).seq ((ACode.region false [⟨some 3, .mv (.t 0), none, []⟩, ⟨some 4, .bin .geq (.t 3) (.c (.int .u8 (97))), none, []⟩, ⟨some 5, .mv (.t 4), none, []⟩, ⟨some 6, .mv (.t 0), some (5, true), []⟩, ⟨some 7, .bin .leq (.t 6) (.c (.int .u8 (122))), some (5, true), []⟩, ⟨some 8, .pick (.t 5) (.t 7) (.c (.bool false)), none, []⟩, ⟨some 9, .mv (.t 8), none, []⟩, ⟨some 10, .mv (.t 0), some (9, false), []⟩, ⟨some 11, .bin .geq (.t 10) (.c (.int .u8 (65))), some (9, false), []⟩, ⟨some 12, .mv (.t 11), some (9, false), []⟩, ⟨some 13, .mv (.t 0), some (12, true), []⟩, ⟨some 14, .bin .leq (.t 13) (.c (.int .u8 (90))), some (12, true), []⟩, ⟨some 15, .pick (.t 12) (.t 14) (.c (.bool false)), some (9, false), []⟩, ⟨some 16, .pick (.t 9) (.c (.bool true)) (.t 15), none, []⟩, ⟨some 2, .mv (.t 16), none, []⟩]).seq ACode.ret))
theorem Try.F41 : FnFacts Try.prog 41 Try.f41 Try.ac41 17 [.tmp 2] := ⟨Try.func41, by kernel_rfl, by kernel_rfl, by kernel_rfl, by kernel_rfl, by kernel_rfl, by kernel_rfl, by kernel_rfl⟩
def Try.ac42 : ACode := ((ACode.region false [⟨some 2, .mv (.c (.bool false)), none, []⟩]).seq ((ACode.region false [⟨some 3, .mv (.t 0), none, []⟩, ⟨some 4, .bin .geq (.t 3) (.c (.int .u8 (48))), none, []⟩, ⟨some 5, .mv (.t 4), none, []⟩, ⟨some 6, .mv (.t 0), some (5, true), []⟩, ⟨some 7, .bin .leq (.t 6) (.c (.int .u8 (57))), some (5, true), []⟩, ⟨some 8, .pick (.t 5) (.t 7) (.c (.bool false)), none, []⟩, ⟨some 2, .mv (.t 8), none, []⟩]).seq ACode.ret))
theorem Try.F42 : FnFacts Try.prog 42 Try.f42 Try.ac42 9 [.tmp 2] := ⟨Try.func42, by kernel_rfl, by kernel_rfl, by kernel_rfl, by kernel_rfl, by kernel_rfl, by kernel_rfl, by kernel_rfl⟩
def Try.ac43 : ACode := ((ACode.region false [⟨some 4, .mv (.c (.bool false)), none, []⟩]).seq ((ACode.region false [⟨some 5, .mv (.t 0), none, []⟩, ⟨some 6, .mv (.t 1), none, []⟩, ⟨some 7, .call 50 [.t 5, .t 6], none, []⟩, ⟨some 8, .bin .geq (.t 7) (.c (.int .i64 (0))), none, []⟩, ⟨some 4, .mv (.t 8), none, []⟩]).seq ACode.ret))
theorem Try.F43 : FnFacts Try.prog 43 Try.f43 Try.ac43 9 [.tmp 4] := ⟨Try.func43, by kernel_rfl, by kernel_rfl, by kernel_rfl, by kernel_rfl, by kernel_rfl, by kernel_rfl, by kernel_rfl⟩
def Try.ac44 : ACode := ((ACode.region false [⟨some 3, .box 3 (.t 0), none, []⟩, ⟨some 4, .mv (.c (.bool false)), none, []⟩]).seq ((ACode.region false [⟨some 5, .fieldAddr 0 (.t 3), none, []⟩, ⟨some 6, .load 1 false (.t 5), none, []⟩, ⟨some 7, .load 1 false (.t 1), none, []⟩, ⟨some 8, .bin .eql (.t 6) (.t 7), none, []⟩, ⟨some 9, .mv (.t 8), none, []⟩, ⟨some 10, .fieldAddr 1 (.t 3), some (9, true), []⟩, ⟨some 11, .load 1 false (.t 10), some (9, true), []⟩, ⟨some 12, .load 1 false (.t 2), some (9, true), []⟩, ⟨some 13, .bin .leq (.t 11) (.t 12), some (9, true), []⟩, ⟨some 14, .pick (.t 9) (.t 13) (.c (.bool false)), none, []⟩, ⟨some 15, .mv (.t 14), none, []⟩, ⟨some 16, .load 1 false (.t 2), some (15, true), []⟩, ⟨some 17, .fieldAddr 2 (.t 3), some (15, true), []⟩, ⟨some 18, .load 1 false (.t 17), some (15, true), []⟩, ⟨some 19, .bin .lss (.t 16) (.t 18), some (15, true), []⟩, ⟨some 20, .pick (.t 15) (.t 19) (.c (.bool false)), none, []⟩, ⟨some 4, .mv (.t 20), none, []⟩]).seq ACode.ret))
theorem Try.F44 : FnFacts Try.prog 44 Try.f44 Try.ac44 21 [.tmp 4] := ⟨Try.func44, by kernel_rfl, by kernel_rfl, by kernel_rfl, by kernel_rfl, by kernel_rfl, by kernel_rfl, by kernel_rfl⟩
def Try.ac46 : ACode := ((ACode.region false [⟨some 2, .box 3 (.t 0), none, []⟩, ⟨some 3, .box 3 (.t 1), none, []⟩, ⟨some 4, .mv (.c (.int .i64 (0))), none, []⟩]).seq ((ACode.region true [⟨some 5, .fieldAddr 0 (.t 2), none, []⟩, ⟨some 6, .load 1 false (.t 5), none, [0]⟩, ⟨some 7, .fieldAddr 0 (.t 3), none, []⟩, ⟨some 8, .load 1 false (.t 7), none, [2]⟩, ⟨some 9, .call 48 [.t 6, .t 8], none, [1, 3]⟩, ⟨some 10, .fieldAddr 1 (.t 2), none, []⟩, ⟨some 11, .load 1 false (.t 10), none, [5]⟩, ⟨some 12, .fieldAddr 1 (.t 3), none, []⟩, ⟨some 13, .load 1 false (.t 12), none, [7]⟩, ⟨some 14, .bin .sub (.t 11) (.t 13), none, [6, 8]⟩, ⟨some 15, .buildSlice 3 1 [.t 9, .t 14], none, [4, 9]⟩, ⟨some 16, .call 47 [.t 15], none, [10, 4]⟩, ⟨some 4, .mv (.t 16), none, [11, 11, 0, 1, 2, 3, 4, 5, 6, 7, 8, 9, 10, 11]⟩]).seq ACode.ret))
theorem Try.F46 : FnFacts Try.prog 46 Try.f46 Try.ac46 17 [.tmp 4] := ⟨Try.func46, by kernel_rfl, by kernel_rfl, by kernel_rfl, by kernel_rfl, by kernel_rfl, by kernel_rfl, by kernel_rfl⟩
def Try.ac47 : ACode := ((ACode.region false [⟨some 2, .mv (.c (.int .i64 (0))), none, []⟩]).seq ((ACode.region false [⟨some 3, .mv (.c (.int .i64 (0))), none, []⟩]).seq (((ACode.region false [⟨some 6, .mv (.t 0), none, []⟩, ⟨some 7, .len (.t 6), none, []⟩, ⟨some 8, .mv (.c (.int .i64 (0))), none, []⟩]).seq (ACode.block 0 ((ACode.region false [⟨some 9, .bin .lss (.t 8) (.t 7), none, []⟩]).seq ((ACode.cond (.t 9) ACode.skip (ACode.exit 0)).seq ((ACode.block 1 ((ACode.region false [⟨some 10, .idxAddr 1 (.t 6) (.t 8), none, []⟩, ⟨some 11, .load 1 false (.t 10), none, []⟩, ⟨some 5, .mv (.t 11), none, []⟩]).seq ((ACode.region false [⟨some 12, .mv (.t 5), none, []⟩, ⟨some 13, .mv (.t 3), none, []⟩, ⟨some 14, .bin .neq (.t 12) (.t 13), none, []⟩]).seq (ACode.cond (.t 14) ((ACode.region false [⟨some 15, .mv (.t 5), none, []⟩, ⟨some 2, .mv (.t 15), none, []⟩]).seq ACode.ret) ACode.skip)))).seq (ACode.region false [⟨some 16, .bin .add (.t 8) (.c (.int .i64 (1))), none, []⟩, ⟨some 8, .mv (.t 16), none, []⟩])))).loop)).seq ((ACode.region false [⟨some 17, .mv (.t 3), none, []⟩, ⟨some 2, .mv (.t 17), none, []⟩]).seq ACode.ret))))
theorem Try.F47 : FnFacts Try.prog 47 Try.f47 Try.ac47 18 [.tmp 2] := ⟨Try.func47, by kernel_rfl, by kernel_rfl, by kernel_rfl, by kernel_rfl, by kernel_rfl, by kernel_rfl, by kernel_rfl⟩
def Try.ac48 : ACode := ((ACode.region false [⟨some 4, .mv (.c (.int .i64 (0))), none, []⟩]).seq ((ACode.region false [⟨some 7, .mv (.t 0), none, []⟩, ⟨some 8, .call 53 [.t 7], none, []⟩, ⟨some 5, .mv (.t 8), none, []⟩]).seq ((ACode.region false [⟨some 9, .mv (.t 1), none, []⟩, ⟨some 10, .call 53 [.t 9], none, []⟩, ⟨some 6, .mv (.t 10), none, []⟩]).seq (((ACode.region false [⟨some 11, .mv (.t 5), none, []⟩]).seq (ACode.cond (.t 11) (((ACode.region false [⟨some 12, .mv (.t 6), none, []⟩]).seq (ACode.cond (.t 12) ((ACode.region false [⟨some 4, .mv (.c (.int .i64 (0))), none, []⟩]).seq ACode.ret) ACode.skip)).seq ((ACode.region false [⟨some 4, .mv (.c (.int .i64 (Int.negSucc 0))), none, []⟩]).seq ACode.ret)) ACode.skip)).seq (((ACode.region false [⟨some 13, .mv (.t 6), none, []⟩]).seq (ACode.cond (.t 13) ((ACode.region false [⟨some 4, .mv (.c (.int .i64 (1))), none, []⟩]).seq ACode.ret) ACode.skip)).seq (((ACode.region false [⟨some 14, .mv (.t 0), none, []⟩, ⟨some 15, .mv (.t 1), none, []⟩, ⟨some 16, .bin .lss (.t 14) (.t 15), none, []⟩]).seq (ACode.cond (.t 16) ((ACode.region false [⟨some 4, .mv (.c (.int .i64 (Int.negSucc 0))), none, []⟩]).seq ACode.ret) ACode.skip)).seq (((ACode.region false [⟨some 17, .mv (.t 0), none, []⟩, ⟨some 18, .mv (.t 1), none, []⟩, ⟨some 19, .bin .gtr (.t 17) (.t 18), none, []⟩]).seq (ACode.cond (.t 19) ((ACode.region false [⟨some 4, .mv (.c (.int .i64 (1))), none, []⟩]).seq ACode.ret) ACode.skip)).seq ((ACode.region false [⟨some 4, .mv (.c (.int .i64 (0))), none, []⟩]).seq ACode.ret))))))))
theorem Try.F48 : FnFacts Try.prog 48 Try.f48 Try.ac48 20 [.tmp 4] := ⟨Try.func48, by kernel_rfl, by kernel_rfl, by kernel_rfl, by kernel_rfl, by kernel_rfl, by kernel_rfl, by kernel_rfl⟩
def Try.ac49 : ACode := ((ACode.region false [⟨some 4, .mv (.c (.slice none 0 0)), none, []⟩]).seq ((ACode.region false [⟨some 5, .mv (.t 0), none, []⟩, ⟨some 6, .mv (.t 1), none, []⟩, ⟨some 7, .call 54 [.t 5, .t 6, .f 55], none, []⟩, ⟨some 4, .mv (.t 7), none, []⟩]).seq ACode.ret))
theorem Try.F49 : FnFacts Try.prog 49 Try.f49 Try.ac49 8 [.tmp 4] := ⟨Try.func49, by kernel_rfl, by kernel_rfl, by kernel_rfl, by kernel_rfl, by kernel_rfl, by kernel_rfl, by kernel_rfl⟩
def Try.ac50 : ACode := ((ACode.region false [⟨some 4, .mv (.c (.int .i64 (0))), none, []⟩]).seq (((ACode.region false [⟨some 6, .mv (.t 0), none, []⟩, ⟨some 7, .len (.t 6), none, []⟩, ⟨some 8, .mv (.c (.int .i64 (0))), none, []⟩]).seq (ACode.block 0 ((ACode.region false [⟨some 9, .bin .lss (.t 8) (.t 7), none, []⟩]).seq ((ACode.cond (.t 9) ACode.skip (ACode.exit 0)).seq ((ACode.block 1 ((ACode.region false [⟨some 10, .mv (.t 8), none, []⟩, ⟨some 5, .mv (.t 10), none, []⟩]).seq ((ACode.region false [⟨some 11, .mv (.t 1), none, []⟩, ⟨some 12, .mv (.t 0), none, []⟩, ⟨some 13, .mv (.t 5), none, []⟩, ⟨some 14, .idxAddr 3 (.t 12) (.t 13), none, []⟩, ⟨some 15, .load 3 true (.t 14), none, []⟩, ⟨some 16, .callv (.t 11) [.t 15], none, []⟩]).seq (ACode.cond (.t 16) ((ACode.region false [⟨some 17, .mv (.t 5), none, []⟩, ⟨some 4, .mv (.t 17), none, []⟩]).seq ACode.ret) ACode.skip)))).seq (ACode.region false [⟨some 18, .bin .add (.t 8) (.c (.int .i64 (1))), none, []⟩, ⟨some 8, .mv (.t 18), none, []⟩])))).loop)).seq ((ACode.region false [⟨some 4, .mv (.c (.int .i64 (Int.negSucc 0))), none, []⟩]).seq ACode.ret)))
theorem Try.F50 : FnFacts Try.prog 50 Try.f50 Try.ac50 19 [.tmp 4] := ⟨Try.func50, by kernel_rfl, by kernel_rfl, by kernel_rfl, by kernel_rfl, by kernel_rfl, by kernel_rfl, by kernel_rfl⟩
def Try.ac53 : ACode := ((ACode.region false [⟨some 2, .mv (.c (.bool false)), none, []⟩]).seq ((ACode.region false [⟨some 3, .mv (.t 0), none, []⟩, ⟨some 4, .mv (.t 0), none, []⟩, ⟨some 5, .bin .neq (.t 3) (.t 4), none, []⟩, ⟨some 2, .mv (.t 5), none, []⟩]).seq ACode.ret))
theorem Try.F53 : FnFacts Try.prog 53 Try.f53 Try.ac53 6 [.tmp 2] := ⟨Try.func53, by kernel_rfl, by kernel_rfl, by kernel_rfl, by kernel_rfl, by kernel_rfl, by kernel_rfl, by kernel_rfl⟩
def Try.ac54 : ACode := ((ACode.region false [⟨some 3, .box 1 (.t 0), none, []⟩, ⟨some 4, .box 1 (.t 1), none, []⟩, ⟨some 5, .box 1 (.t 2), none, []⟩, ⟨some 6, .mv (.c (.slice none 0 0)), none, []⟩]).seq ((ACode.region true [⟨some 15, .load 1 false (.t 3), none, []⟩, ⟨some 16, .call 66 [.t 15], none, [0]⟩, ⟨some 17, .load 1 false (.t 4), none, []⟩, ⟨some 18, .call 66 [.t 17], none, [2, 1]⟩, ⟨none, .store 1 (.t 3) (.t 16), none, [1, 3, 0, 1]⟩, ⟨none, .store 1 (.t 4) (.t 18), none, [3, 4, 0, 1, 2, 3, 4]⟩]).seq ((ACode.region false [⟨some 7, .mv (.c (.slice none 0 0)), none, []⟩]).seq (((ACode.region false [⟨some 19, .load 1 false (.t 3), none, []⟩, ⟨some 20, .load 1 false (.t 4), none, []⟩, ⟨some 21, .buildSlice 39 1 [.t 19, .t 20], none, []⟩, ⟨some 22, .call 67 [.t 21], none, []⟩, ⟨some 23, .len (.t 22), none, []⟩, ⟨some 24, .mv (.c (.int .i64 (0))), none, []⟩]).seq (ACode.block 0 ((ACode.region false [⟨some 25, .bin .lss (.t 24) (.t 23), none, []⟩]).seq ((ACode.cond (.t 25) ACode.skip (ACode.exit 0)).seq ((ACode.block 1 ((ACode.region false [⟨some 26, .idxAddr 2 (.t 22) (.t 24), none, []⟩, ⟨some 27, .load 2 true (.t 26), none, []⟩, ⟨some 9, .alloc [.int .i64 (0), .int .i64 (0)], none, []⟩, ⟨none, .store 2 (.t 9) (.t 27), none, []⟩]).seq (ACode.region false [⟨some 28, .mv (.t 7), none, []⟩, ⟨some 29, .fieldAddr 0 (.t 9), none, []⟩, ⟨some 30, .load 1 false (.t 29), none, []⟩, ⟨some 31, .fieldAddr 1 (.t 9), none, []⟩, ⟨some 32, .load 1 false (.t 31), none, []⟩, ⟨some 33, .buildSlice 3 1 [.t 30, .t 32], none, []⟩, ⟨some 34, .append 3 1 8 (.t 28) (.t 33), none, []⟩, ⟨some 7, .mv (.t 34), none, []⟩]))).seq (ACode.region false [⟨some 35, .bin .add (.t 24) (.c (.int .i64 (1))), none, []⟩, ⟨some 24, .mv (.t 35), none, []⟩])))).loop)).seq ((ACode.region false [⟨some 36, .mv (.t 7), none, []⟩, ⟨some 37, .call 68 [.t 36], none, []⟩]).seq ((ACode.region false [⟨some 38, .mv (.t 7), none, []⟩, ⟨some 39, .call 69 [.t 38], none, []⟩, ⟨some 7, .mv (.t 39), none, []⟩]).seq ((ACode.region false [⟨some 10, .alloc [.slice none 0 0], none, []⟩]).seq ((ACode.region false [⟨some 11, .alloc [.int .i64 (0)], none, []⟩, ⟨some 12, .alloc [.int .i64 (0)], none, []⟩, ⟨none, .store 1 (.t 11) (.c (.int .i64 (0))), none, []⟩, ⟨none, .store 1 (.t 12) (.c (.int .i64 (0))), none, []⟩]).seq ((ACode.region false [⟨some 40, .mkfn 70 [.t 11, .t 3, .t 12, .t 4, .t 5, .t 10], none, []⟩, ⟨some 13, .mv (.t 40), none, []⟩]).seq (((ACode.region false [⟨some 14, .mv (.c (.int .i64 (1))), none, []⟩]).seq (ACode.block 2 (((ACode.region false [⟨some 41, .mv (.t 14), none, []⟩, ⟨some 42, .mv (.t 7), none, []⟩, ⟨some 43, .len (.t 42), none, []⟩, ⟨some 44, .bin .lss (.t 41) (.t 43), none, []⟩]).seq (ACode.cond (.t 44) ACode.skip (ACode.exit 2))).seq ((ACode.block 3 (ACode.region true [⟨some 47, .mv (.t 13), none, []⟩, ⟨some 48, .mv (.t 7), none, []⟩, ⟨some 49, .mv (.t 14), none, []⟩, ⟨some 50, .bin .sub (.t 49) (.c (.int .i64 (1))), none, [2]⟩, ⟨some 51, .idxAddr 1 (.t 48) (.t 50), none, [1, 3]⟩, ⟨some 52, .load 1 false (.t 51), none, [4]⟩, ⟨some 53, .mv (.t 7), none, []⟩, ⟨some 54, .mv (.t 14), none, []⟩, ⟨some 55, .idxAddr 1 (.t 53) (.t 54), none, [6, 7]⟩, ⟨some 56, .load 1 false (.t 55), none, [8]⟩, ⟨some 57, .callv (.t 47) [.t 52, .t 56], none, [0, 5, 9]⟩])).seq (ACode.region false [⟨some 45, .mv (.t 14), none, []⟩, ⟨some 46, .bin .add (.t 45) (.c (.int .i64 (1))), none, []⟩, ⟨some 14, .mv (.t 46), none, []⟩]))).loop)).seq ((ACode.region false [⟨some 58, .load 1 false (.t 10), none, []⟩, ⟨some 59, .call 66 [.t 58], none, []⟩, ⟨some 6, .mv (.t 59), none, []⟩]).seq ACode.ret)))))))))))
theorem Try.F54 : FnFacts Try.prog 54 Try.f54 Try.ac54 60 [.tmp 6] := ⟨Try.func54, by kernel_rfl, by kernel_rfl, by kernel_rfl, by kernel_rfl, by kernel_rfl, by kernel_rfl, by kernel_rfl⟩
def Try.ac55 : ACode := ((ACode.region false [⟨some 4, .mv (.c (.bool false)), none, []⟩]).seq ((ACode.region false [⟨some 5, .mv (.t 0), none, []⟩, ⟨some 6, .mv (.t 5), none, []⟩, ⟨some 7, .mv (.t 1), some (6, true), []⟩, ⟨some 8, .un .not (.t 7), some (6, true), []⟩, ⟨some 9, .pick (.t 6) (.t 8) (.c (.bool false)), none, []⟩, ⟨some 4, .mv (.t 9), none, []⟩]).seq ACode.ret))
theorem Try.F55 : FnFacts Try.prog 55 Try.f55 Try.ac55 10 [.tmp 4] := ⟨Try.func55, by kernel_rfl, by kernel_rfl, by kernel_rfl, by kernel_rfl, by kernel_rfl, by kernel_rfl, by kernel_rfl⟩
def Try.ac66 : ACode := ((ACode.region false [⟨some 2, .mv (.c (.slice none 0 0)), none, []⟩]).seq ((ACode.region false [⟨some 8, .mv (.t 0), none, []⟩, ⟨some 9, .call 77 [.t 8], none, []⟩, ⟨some 10, .call 76 [.t 9, .f 78], none, []⟩, ⟨some 3, .mv (.t 10), none, []⟩]).seq ((ACode.region false [⟨some 11, .mv (.t 3), none, []⟩, ⟨some 12, .call 79 [.t 11, .f 80], none, []⟩]).seq ((ACode.region false [⟨some 4, .mv (.c (.slice none 0 0)), none, []⟩]).seq (((ACode.region false [⟨some 13, .mv (.t 3), none, []⟩, ⟨some 14, .len (.t 13), none, []⟩, ⟨some 15, .mv (.c (.int .i64 (0))), none, []⟩]).seq (ACode.block 0 ((ACode.region false [⟨some 16, .bin .lss (.t 15) (.t 14), none, []⟩]).seq ((ACode.cond (.t 16) ACode.skip (ACode.exit 0)).seq ((ACode.block 1 ((ACode.region false [⟨some 17, .idxAddr 2 (.t 13) (.t 15), none, []⟩, ⟨some 18, .load 2 true (.t 17), none, []⟩, ⟨some 6, .alloc [.int .i64 (0), .int .i64 (0)], none, []⟩, ⟨none, .store 2 (.t 6) (.t 18), none, []⟩]).seq ((ACode.region false [⟨some 19, .mv (.t 4), none, []⟩, ⟨some 20, .len (.t 19), none, []⟩, ⟨some 7, .mv (.t 20), none, []⟩]).seq ((ACode.region true [⟨some 21, .mv (.t 7), none, []⟩, ⟨some 22, .bin .gtr (.t 21) (.c (.int .i64 (0))), none, [0]⟩, ⟨some 23, .mv (.t 22), none, [1]⟩, ⟨some 24, .fieldAddr 0 (.t 6), some (23, true), [2]⟩, ⟨some 25, .load 1 false (.t 24), some (23, true), [3, 2]⟩, ⟨some 26, .mv (.t 4), some (23, true), [2]⟩, ⟨some 27, .mv (.t 7), some (23, true), [2]⟩, ⟨some 28, .bin .sub (.t 27) (.c (.int .i64 (1))), some (23, true), [6, 2]⟩, ⟨some 29, .idxAddr 2 (.t 26) (.t 28), some (23, true), [5, 7, 2]⟩, ⟨some 30, .fieldAddr 1 (.t 29), some (23, true), [8, 2]⟩, ⟨some 31, .load 1 false (.t 30), some (23, true), [9, 2]⟩, ⟨some 32, .bin .leq (.t 25) (.t 31), some (23, true), [4, 10, 2]⟩, ⟨some 33, .pick (.t 23) (.t 32) (.c (.bool false)), none, [2, 11]⟩]).seq (ACode.cond (.t 33) (ACode.region true [⟨some 34, .mv (.t 4), none, []⟩, ⟨some 35, .mv (.t 7), none, []⟩, ⟨some 36, .bin .sub (.t 35) (.c (.int .i64 (1))), none, [1]⟩, ⟨some 37, .mv (.t 4), none, []⟩, ⟨some 38, .mv (.t 7), none, []⟩, ⟨some 39, .bin .sub (.t 38) (.c (.int .i64 (1))), none, [4]⟩, ⟨some 40, .idxAddr 2 (.t 37) (.t 39), none, [3, 5]⟩, ⟨some 41, .fieldAddr 1 (.t 40), none, [6]⟩, ⟨some 42, .load 1 false (.t 41), none, [7]⟩, ⟨some 43, .fieldAddr 1 (.t 6), none, []⟩, ⟨some 44, .load 1 false (.t 43), none, [9]⟩, ⟨some 45, .minmax true (.t 42) (.t 44), none, [8, 10]⟩, ⟨some 46, .idxAddr 2 (.t 34) (.t 36), none, [0, 2, 0, 1, 2, 3, 4, 5, 6, 7, 8, 9, 10, 11]⟩, ⟨some 47, .fieldAddr 1 (.t 46), none, [12, 0, 1, 2, 3, 4, 5, 6, 7, 8, 9, 10, 11]⟩, ⟨none, .store 1 (.t 47) (.t 45), none, [13, 11, 0, 1, 2, 3, 4, 5, 6, 7, 8, 9, 10, 11]⟩]) (ACode.region false [⟨some 48, .mv (.t 4), none, []⟩, ⟨some 49, .load 2 true (.t 6), none, []⟩, ⟨some 50, .buildSlice 37 2 [.t 49], none, []⟩, ⟨some 51, .append 37 2 16 (.t 48) (.t 50), none, []⟩, ⟨some 4, .mv (.t 51), none, []⟩])))))).seq (ACode.region false [⟨some 52, .bin .add (.t 15) (.c (.int .i64 (1))), none, []⟩, ⟨some 15, .mv (.t 52), none, []⟩])))).loop)).seq ((ACode.region false [⟨some 53, .mv (.t 4), none, []⟩, ⟨some 2, .mv (.t 53), none, []⟩]).seq ACode.ret))))))
theorem Try.F66 : FnFacts Try.prog 66 Try.f66 Try.ac66 54 [.tmp 2] := ⟨Try.func66, by kernel_rfl, by kernel_rfl, by kernel_rfl, by kernel_rfl, by kernel_rfl, by kernel_rfl, by kernel_rfl⟩
def Try.ac67 : ACode := ((ACode.region false [⟨some 2, .mv (.c (.slice none 0 0)), none, []⟩]).seq ((ACode.region false [⟨some 3, .mv (.c (.int .i64 (0))), none, []⟩]).seq (((ACode.region false [⟨some 9, .mv (.t 0), none, []⟩, ⟨some 10, .len (.t 9), none, []⟩, ⟨some 11, .mv (.c (.int .i64 (0))), none, []⟩]).seq (ACode.block 0 ((ACode.region false [⟨some 12, .bin .lss (.t 11) (.t 10), none, []⟩]).seq ((ACode.cond (.t 12) ACode.skip (ACode.exit 0)).seq ((ACode.block 1 ((ACode.region false [⟨some 13, .idxAddr 1 (.t 9) (.t 11), none, []⟩, ⟨some 14, .load 1 false (.t 13), none, []⟩, ⟨some 5, .mv (.t 14), none, []⟩]).seq ((ACode.region false [⟨some 15, .mv (.t 3), none, []⟩, ⟨some 16, .mv (.t 5), none, []⟩, ⟨some 17, .len (.t 16), none, []⟩, ⟨some 18, .bin .add (.t 15) (.t 17), none, []⟩, ⟨some 3, .mv (.t 18), none, []⟩]).seq ((ACode.region false [⟨some 19, .mv (.t 3), none, []⟩, ⟨some 20, .bin .lss (.t 19) (.c (.int .i64 (0))), none, []⟩]).seq (ACode.cond (.t 20) (ACode.region false [⟨some 21, .bad, none, []⟩, ⟨none, .bad, none, []⟩]) ACode.skip))))).seq (ACode.region false [⟨some 22, .bin .add (.t 11) (.c (.int .i64 (1))), none, []⟩, ⟨some 11, .mv (.t 22), none, []⟩])))).loop)).seq ((ACode.region false [⟨some 23, .mv (.t 3), none, []⟩, ⟨some 24, .call 82 [.c (.slice none 0 0), .t 23], none, []⟩, ⟨some 6, .mv (.t 24), none, []⟩]).seq (((ACode.region false [⟨some 25, .mv (.t 0), none, []⟩, ⟨some 26, .len (.t 25), none, []⟩, ⟨some 27, .mv (.c (.int .i64 (0))), none, []⟩]).seq (ACode.block 2 ((ACode.region false [⟨some 28, .bin .lss (.t 27) (.t 26), none, []⟩]).seq ((ACode.cond (.t 28) ACode.skip (ACode.exit 2)).seq ((ACode.block 3 ((ACode.region false [⟨some 29, .idxAddr 1 (.t 25) (.t 27), none, []⟩, ⟨some 30, .load 1 false (.t 29), none, []⟩, ⟨some 8, .mv (.t 30), none, []⟩]).seq (ACode.region false [⟨some 31, .mv (.t 6), none, []⟩, ⟨some 32, .mv (.t 8), none, []⟩, ⟨some 33, .append 37 2 16 (.t 31) (.t 32), none, []⟩, ⟨some 6, .mv (.t 33), none, []⟩]))).seq (ACode.region false [⟨some 34, .bin .add (.t 27) (.c (.int .i64 (1))), none, []⟩, ⟨some 27, .mv (.t 34), none, []⟩])))).loop)).seq ((ACode.region false [⟨some 35, .mv (.t 6), none, []⟩, ⟨some 2, .mv (.t 35), none, []⟩]).seq ACode.ret))))))
theorem Try.F67 : FnFacts Try.prog 67 Try.f67 Try.ac67 36 [.tmp 2] := ⟨Try.func67, by kernel_rfl, by kernel_rfl, by kernel_rfl, by kernel_rfl, by kernel_rfl, by kernel_rfl, by kernel_rfl⟩
def Try.ac70 : ACode := ((ACode.block 0 (((ACode.region false [⟨some 10, .load 1 false (.t 2), none, []⟩, ⟨some 11, .load 1 false (.t 3), none, []⟩, ⟨some 12, .len (.t 11), none, []⟩, ⟨some 13, .bin .lss (.t 10) (.t 12), none, []⟩, ⟨some 14, .mv (.t 13), none, []⟩, ⟨some 15, .load 1 false (.t 3), some (14, true), []⟩, ⟨some 16, .load 1 false (.t 2), some (14, true), []⟩, ⟨some 17, .idxAddr 2 (.t 15) (.t 16), some (14, true), []⟩, ⟨some 18, .fieldAddr 1 (.t 17), some (14, true), []⟩, ⟨some 19, .load 1 false (.t 18), some (14, true), []⟩, ⟨some 20, .mv (.t 0), some (14, true), []⟩, ⟨some 21, .bin .leq (.t 19) (.t 20), some (14, true), []⟩, ⟨some 22, .pick (.t 14) (.t 21) (.c (.bool false)), none, []⟩]).seq (ACode.cond (.t 22) ACode.skip (ACode.exit 0))).seq (ACode.block 1 (ACode.region false [⟨some 23, .load 1 false (.t 2), none, []⟩, ⟨some 24, .bin .add (.t 23) (.c (.int .i64 (1))), none, []⟩, ⟨none, .store 1 (.t 2) (.t 24), none, []⟩]))).loop).seq ((ACode.block 2 (((ACode.region false [⟨some 25, .load 1 false (.t 4), none, []⟩, ⟨some 26, .load 1 false (.t 5), none, []⟩, ⟨some 27, .len (.t 26), none, []⟩, ⟨some 28, .bin .lss (.t 25) (.t 27), none, []⟩, ⟨some 29, .mv (.t 28), none, []⟩, ⟨some 30, .load 1 false (.t 5), some (29, true), []⟩, ⟨some 31, .load 1 false (.t 4), some (29, true), []⟩, ⟨some 32, .idxAddr 2 (.t 30) (.t 31), some (29, true), []⟩, ⟨some 33, .fieldAddr 1 (.t 32), some (29, true), []⟩, ⟨some 34, .load 1 false (.t 33), some (29, true), []⟩, ⟨some 35, .mv (.t 0), some (29, true), []⟩, ⟨some 36, .bin .leq (.t 34) (.t 35), some (29, true), []⟩, ⟨some 37, .pick (.t 29) (.t 36) (.c (.bool false)), none, []⟩]).seq (ACode.cond (.t 37) ACode.skip (ACode.exit 2))).seq (ACode.block 3 (ACode.region false [⟨some 38, .load 1 false (.t 4), none, []⟩, ⟨some 39, .bin .add (.t 38) (.c (.int .i64 (1))), none, []⟩, ⟨none, .store 1 (.t 4) (.t 39), none, []⟩]))).loop).seq ((ACode.region true [⟨some 40, .load 1 false (.t 6), none, []⟩, ⟨some 41, .load 1 false (.t 2), none, []⟩, ⟨some 42, .load 1 false (.t 3), none, []⟩, ⟨some 43, .len (.t 42), none, [2]⟩, ⟨some 44, .bin .lss (.t 41) (.t 43), none, [1, 3]⟩, ⟨some 45, .mv (.t 44), none, [4]⟩, ⟨some 46, .load 1 false (.t 3), some (45, true), [5]⟩, ⟨some 47, .load 1 false (.t 2), some (45, true), [5]⟩, ⟨some 48, .idxAddr 2 (.t 46) (.t 47), some (45, true), [6, 7, 5]⟩, ⟨some 49, .fieldAddr 0 (.t 48), some (45, true), [8, 5]⟩, ⟨some 50, .load 1 false (.t 49), some (45, true), [9, 5]⟩, ⟨some 51, .mv (.t 0), some (45, true), [5]⟩, ⟨some 52, .bin .leq (.t 50) (.t 51), some (45, true), [10, 11, 5]⟩, ⟨some 53, .pick (.t 45) (.t 52) (.c (.bool false)), none, [5, 12]⟩, ⟨some 54, .load 1 false (.t 4), none, []⟩, ⟨some 55, .load 1 false (.t 5), none, []⟩, ⟨some 56, .len (.t 55), none, [15]⟩, ⟨some 57, .bin .lss (.t 54) (.t 56), none, [14, 16]⟩, ⟨some 58, .mv (.t 57), none, [17, 5]⟩, ⟨some 59, .load 1 false (.t 5), some (58, true), [18]⟩, ⟨some 60, .load 1 false (.t 4), some (58, true), [18]⟩, ⟨some 61, .idxAddr 2 (.t 59) (.t 60), some (58, true), [19, 20, 18]⟩, ⟨some 62, .fieldAddr 0 (.t 61), some (58, true), [21, 18]⟩, ⟨some 63, .load 1 false (.t 62), some (58, true), [22, 18]⟩, ⟨some 64, .mv (.t 0), some (58, true), [18]⟩, ⟨some 65, .bin .leq (.t 63) (.t 64), some (58, true), [23, 24, 18]⟩, ⟨some 66, .pick (.t 58) (.t 65) (.c (.bool false)), none, [18, 25]⟩, ⟨some 67, .callv (.t 40) [.t 53, .t 66], none, [0, 13, 26, 18]⟩]).seq (ACode.cond (.t 67) (ACode.region false [⟨some 68, .load 1 false (.t 7), none, []⟩, ⟨some 69, .mv (.t 0), none, []⟩, ⟨some 70, .mv (.t 1), none, []⟩, ⟨some 71, .build [.int .i64 (0), .int .i64 (0)] [(0, 1, .t 69), (1, 1, .t 70)], none, []⟩, ⟨some 72, .buildSlice 37 2 [.t 71], none, []⟩, ⟨some 73, .append 37 2 16 (.t 68) (.t 72), none, []⟩, ⟨none, .store 1 (.t 7) (.t 73), none, []⟩]) ACode.skip))))
theorem Try.F70 : FnFacts Try.prog 70 Try.f70 Try.ac70 74 [] := ⟨Try.func70, by kernel_rfl, by kernel_rfl, by kernel_rfl, by kernel_rfl, by kernel_rfl, by kernel_rfl, by kernel_rfl⟩
def Try.ac76 : ACode := ((ACode.region false [⟨some 4, .mv (.c (.slice none 0 0)), none, []⟩]).seq ((ACode.region false [⟨some 8, .mv (.t 0), none, []⟩, ⟨some 9, .mv (.t 1), none, []⟩, ⟨some 10, .call 85 [.t 8, .t 9], none, []⟩, ⟨some 5, .mv (.t 10), none, []⟩]).seq (((ACode.region false [⟨some 11, .mv (.t 5), none, []⟩, ⟨some 12, .bin .eql (.t 11) (.c (.int .i64 (Int.negSucc 0))), none, []⟩]).seq (ACode.cond (.t 12) ((ACode.region false [⟨some 13, .mv (.t 0), none, []⟩, ⟨some 4, .mv (.t 13), none, []⟩]).seq ACode.ret) ACode.skip)).seq (((ACode.region false [⟨some 14, .mv (.t 5), none, []⟩, ⟨some 15, .bin .add (.t 14) (.c (.int .i64 (1))), none, []⟩, ⟨some 6, .mv (.t 15), none, []⟩]).seq (ACode.block 0 (((ACode.region false [⟨some 16, .mv (.t 6), none, []⟩, ⟨some 17, .mv (.t 0), none, []⟩, ⟨some 18, .len (.t 17), none, []⟩, ⟨some 19, .bin .lss (.t 16) (.t 18), none, []⟩]).seq (ACode.cond (.t 19) ACode.skip (ACode.exit 0))).seq ((ACode.block 1 ((ACode.region false [⟨some 22, .mv (.t 0), none, []⟩, ⟨some 23, .mv (.t 6), none, []⟩, ⟨some 24, .idxAddr 2 (.t 22) (.t 23), none, []⟩, ⟨some 25, .load 2 true (.t 24), none, []⟩, ⟨some 7, .alloc [.int .i64 (0), .int .i64 (0)], none, []⟩, ⟨none, .store 2 (.t 7) (.t 25), none, []⟩]).seq ((ACode.region false [⟨some 26, .mv (.t 1), none, []⟩, ⟨some 27, .load 2 true (.t 7), none, []⟩, ⟨some 28, .callv (.t 26) [.t 27], none, []⟩, ⟨some 29, .un .not (.t 28), none, []⟩]).seq (ACode.cond (.t 29) ((ACode.region false [⟨some 30, .mv (.t 0), none, []⟩, ⟨some 31, .mv (.t 5), none, []⟩, ⟨some 32, .load 2 true (.t 7), none, []⟩, ⟨some 33, .idxAddr 2 (.t 30) (.t 31), none, []⟩, ⟨none, .store 2 (.t 33) (.t 32), none, []⟩]).seq (ACode.region false [⟨some 34, .mv (.t 5), none, []⟩, ⟨some 35, .bin .add (.t 34) (.c (.int .i64 (1))), none, []⟩, ⟨some 5, .mv (.t 35), none, []⟩])) ACode.skip)))).seq (ACode.region false [⟨some 20, .mv (.t 6), none, []⟩, ⟨some 21, .bin .add (.t 20) (.c (.int .i64 (1))), none, []⟩, ⟨some 6, .mv (.t 21), none, []⟩]))).loop)).seq ((ACode.region false [⟨some 36, .mv (.t 0), none, []⟩, ⟨some 37, .mv (.t 5), none, []⟩, ⟨some 38, .slice 2 (.t 36) (some (.t 37)) none, none, []⟩, ⟨none, .clear 2 [.int .i64 (0), .int .i64 (0)] (.t 38), none, []⟩]).seq ((ACode.region false [⟨some 39, .mv (.t 0), none, []⟩, ⟨some 40, .mv (.t 5), none, []⟩, ⟨some 41, .slice 2 (.t 39) none (some (.t 40)), none, []⟩, ⟨some 4, .mv (.t 41), none, []⟩]).seq ACode.ret))))))
theorem Try.F76 : FnFacts Try.prog 76 Try.f76 Try.ac76 42 [.tmp 4] := ⟨Try.func76, by kernel_rfl, by kernel_rfl, by kernel_rfl, by kernel_rfl, by kernel_rfl, by kernel_rfl, by kernel_rfl⟩
def Try.ac78 : ACode := ((ACode.region false [⟨some 1, .box 2 (.t 0), none, []⟩, ⟨some 2, .mv (.c (.bool false)), none, []⟩]).seq ((ACode.region false [⟨some 3, .fieldAddr 0 (.t 1), none, []⟩, ⟨some 4, .load 1 false (.t 3), none, []⟩, ⟨some 5, .fieldAddr 1 (.t 1), none, []⟩, ⟨some 6, .load 1 false (.t 5), none, []⟩, ⟨some 7, .bin .geq (.t 4) (.t 6), none, []⟩, ⟨some 2, .mv (.t 7), none, []⟩]).seq ACode.ret))
theorem Try.F78 : FnFacts Try.prog 78 Try.f78 Try.ac78 8 [.tmp 2] := ⟨Try.func78, by kernel_rfl, by kernel_rfl, by kernel_rfl, by kernel_rfl, by kernel_rfl, by kernel_rfl, by kernel_rfl⟩
def Try.ac80 : ACode := ((ACode.region false [⟨some 2, .box 2 (.t 0), none, []⟩, ⟨some 3, .box 2 (.t 1), none, []⟩, ⟨some 4, .mv (.c (.int .i64 (0))), none, []⟩]).seq ((ACode.region false [⟨some 5, .fieldAddr 0 (.t 2), none, []⟩, ⟨some 6, .load 1 false (.t 5), none, []⟩, ⟨some 7, .fieldAddr 0 (.t 3), none, []⟩, ⟨some 8, .load 1 false (.t 7), none, []⟩, ⟨some 9, .call 81 [.t 6, .t 8], none, []⟩, ⟨some 4, .mv (.t 9), none, []⟩]).seq ACode.ret))
theorem Try.F80 : FnFacts Try.prog 80 Try.f80 Try.ac80 10 [.tmp 4] := ⟨Try.func80, by kernel_rfl, by kernel_rfl, by kernel_rfl, by kernel_rfl, by kernel_rfl, by kernel_rfl, by kernel_rfl⟩
def Try.ac85 : ACode := ((ACode.region false [⟨some 4, .mv (.c (.int .i64 (0))), none, []⟩]).seq (((ACode.region false [⟨some 6, .mv (.t 0), none, []⟩, ⟨some 7, .len (.t 6), none, []⟩, ⟨some 8, .mv (.c (.int .i64 (0))), none, []⟩]).seq (ACode.block 0 ((ACode.region false [⟨some 9, .bin .lss (.t 8) (.t 7), none, []⟩]).seq ((ACode.cond (.t 9) ACode.skip (ACode.exit 0)).seq ((ACode.block 1 ((ACode.region false [⟨some 10, .mv (.t 8), none, []⟩, ⟨some 5, .mv (.t 10), none, []⟩]).seq ((ACode.region false [⟨some 11, .mv (.t 1), none, []⟩, ⟨some 12, .mv (.t 0), none, []⟩, ⟨some 13, .mv (.t 5), none, []⟩, ⟨some 14, .idxAddr 2 (.t 12) (.t 13), none, []⟩, ⟨some 15, .load 2 true (.t 14), none, []⟩, ⟨some 16, .callv (.t 11) [.t 15], none, []⟩]).seq (ACode.cond (.t 16) ((ACode.region false [⟨some 17, .mv (.t 5), none, []⟩, ⟨some 4, .mv (.t 17), none, []⟩]).seq ACode.ret) ACode.skip)))).seq (ACode.region false [⟨some 18, .bin .add (.t 8) (.c (.int .i64 (1))), none, []⟩, ⟨some 8, .mv (.t 18), none, []⟩])))).loop)).seq ((ACode.region false [⟨some 4, .mv (.c (.int .i64 (Int.negSucc 0))), none, []⟩]).seq ACode.ret)))
theorem Try.F85 : FnFacts Try.prog 85 Try.f85 Try.ac85 19 [.tmp 4] := ⟨Try.func85, by kernel_rfl, by kernel_rfl, by kernel_rfl, by kernel_rfl, by kernel_rfl, by kernel_rfl, by kernel_rfl⟩
end Go.Proofs
end
section
set_option linter.unusedVariables false
set_option linter.unusedSimpArgs false
namespace Go.Ab

@[go_sem] theorem range_s (nm : Nat) (s : ByteArray) : effRange nm (.v (.string s)) = ⟨True, .bp nm 0, [(nm, some (.iter s 0))], []⟩ := rfl
def nextO (b : Nat) : Option Blk → Eff
  | some (.iter s pos) => ⟨True, nextV s pos, [(b, some (.iter s (nextPos s pos)))], [b]⟩
  | _ => .fail
@[go_sem] theorem next_bp (h : Nat → Option Blk) (b : Nat) : effNext h (.bp b 0) = nextO b (h b) := by
  simp only [effNext]; unfold nextO; cases h b with
  | none => rfl
  | some y => cases y <;> rfl
@[go_sem] theorem nextO_iter (b : Nat) (s : ByteArray) (pos : Nat) : nextO b (some (.iter s pos)) = ⟨True, nextV s pos, [(b, some (.iter s (nextPos s pos)))], [b]⟩ := rfl
theorem nextV_in {s : ByteArray} {pos : Nat} (h : pos < s.size) : nextV s pos = .tup [.v (.bool true), .v (.int .i64 pos), .v (.int .i32 ((Utf8.decode s pos).1 : Nat))] := by simp [nextV, h]
theorem nextV_end {s : ByteArray} {pos : Nat} (h : ¬ pos < s.size) : nextV s pos = .tup [.v (.bool false)] := by simp [nextV, h]
theorem nextPos_in {s : ByteArray} {pos : Nat} (h : pos < s.size) : nextPos s pos = pos + (Utf8.decode s pos).2 := by simp [nextPos, h]
theorem nextPos_end {s : ByteArray} {pos : Nat} (h : ¬ pos < s.size) : nextPos s pos = pos := by simp [nextPos, h]

theorem callP_nil {P : Program} {f : FuncId} {S : AState} {nm : Nat} {lv : List AV} {K : AV → Prop} {r : AV} (h : Pure P f lv r) (hk : K r) : CallP P f S nm lv [] K := ⟨r, h, by simp, .inl rfl, hk⟩
theorem callP_dry {P : Program} {f : FuncId} {S : AState} {nm : Nat} {lv : List AV} {names : List Nat} {K : AV → Prop} {r : AV} (h : Pure P f lv r) (hn : nm ∉ names) (hd : Dry r) (hk : K r) : CallP P f S nm lv names K := ⟨r, h, hn, .inr hd, hk⟩
theorem callO_nil {P : Program} {f : FuncId} {S : AState} {nm : Nat} {lv : List AV} {K : List (List AV) → Nat → TypeId → Prop} {es : List (List AV)} {sz : Nat} {ty : TypeId} (h : PureOwn P f lv es sz ty) (hk : K es sz ty) : CallO P f S nm lv [] K := ⟨es, sz, ty, h, by simp, .inl rfl, hk⟩
theorem callO_dry {P : Program} {f : FuncId} {S : AState} {nm : Nat} {lv : List AV} {names : List Nat} {K : List (List AV) → Nat → TypeId → Prop} {es : List (List AV)} {sz : Nat} {ty : TypeId} (h : PureOwn P f lv es sz ty) (hn : nm ∉ names) (hd : ∀ y ∈ es, ∀ c ∈ y, Dry c) (hk : K es sz ty) : CallO P f S nm lv names K := ⟨es, sz, ty, h, hn, .inr hd, hk⟩

@[go_sem] theorem flat_v (x : Value) : (AV.v x).flat = true := rfl
@[go_sem] theorem flat_nils : AV.nils.flat = true := rfl
@[go_sem] theorem flat_sl (es : List (List AV)) : (AV.sl es).flat = true := rfl
@[go_sem] theorem flat_rp (es : List AV) : (AV.rp es).flat = true := rfl
@[go_sem] theorem all_cons {α : Type} (p : α → Prop) (x : α) (l : List α) : (∀ c ∈ x :: l, p c) = (p x ∧ ∀ c ∈ l, p c) := by simp
@[go_sem] theorem all_nil {α : Type} (p : α → Prop) : (∀ c ∈ ([] : List α), p c) = True := by simp

attribute [go_sem] Bool.true_and Bool.and_true Bool.false_and Bool.and_false Bool.true_or Bool.or_true Bool.false_or Bool.or_false List.flatMap_cons List.flatMap_nil

theorem Lower.ownE {h : Nat → Option Blk} {b : Nat} {es es' : List (List AV)} {sz : Nat} {e : TypeId} (hb : h b = some (.row es sz e)) (he : es = es') : Lower h (.own b) (.sl es') := by subst he; exact .own hb
theorem Lower.nilE {h : Nat → Option Blk} {es : List (List AV)} (he : es = []) : Lower h .nils (.sl es) := by subst he; exact .nil0
theorem Lower.slE' {h : Nat → Option Blk} {es es' : List (List AV)} (he : es = es') : Lower h (.sl es) (.sl es') := by subst he; exact .same _ rfl
theorem Lower.str {h : Nat → Option Blk} {s s' : ByteArray} (he : s = s') : Lower h (.v (.string s)) (.v (.string s')) := by subst he; exact .same _ rfl
inductive All2 (R : AV → AV → Prop) : List AV → List AV → Prop
  | nil : All2 R [] []
  | cons {x y xs ys} : R x y → All2 R xs ys → All2 R (x :: xs) (y :: ys)
theorem lowerAll_agg {h : Nat → Option Blk} {cs cs' : List AV} (p : All2 (Lower h) cs cs') : cs.length = cs'.length ∧ ∀ j, j < cs.length → Lower h (av cs j) (av cs' j) := by
  induction p with
  | nil => exact ⟨rfl, fun j hj => by simp at hj⟩
  | cons h1 _ ih =>
    refine ⟨by simp [ih.1], fun j hj => ?_⟩
    cases j with
    | zero => exact h1
    | succ j => exact ih.2 j (by simpa using hj)
theorem Lower.aggF {h : Nat → Option Blk} {cs cs' : List AV} (p : All2 (Lower h) cs cs') : Lower h (.agg cs) (.agg cs') := .agg (lowerAll_agg p).1 (lowerAll_agg p).2
theorem Lower.tupF {h : Nat → Option Blk} {cs cs' : List AV} (p : All2 (Lower h) cs cs') : Lower h (.tup cs) (.tup cs') := .tup (lowerAll_agg p).1 (lowerAll_agg p).2

/-- A value that is there only if 'b'. -/
def opt (b : Bool) (x : AV) : AV := if b then x else .tup []
@[go_sem] theorem opt_t (x : AV) : opt true x = x := rfl
@[go_sem] theorem opt_f (x : AV) : opt false x = .tup [] := rfl
@[go_sem] theorem pick_and (c p : Bool) : effPick (.v (.bool c)) (opt c (.v (.bool p))) (.v (.bool false)) = ⟨True, .v (.bool (c && p)), [], []⟩ := by cases c <;> rfl
@[go_sem] theorem pick_or (c p : Bool) : effPick (.v (.bool c)) (.v (.bool true)) (opt (!c) (.v (.bool p))) = ⟨True, .v (.bool (c || p)), [], []⟩ := by cases c <;> rfl
/-- Is it wanted? -/
def wantB (want b : Bool) : Bool := if want then b else !b
@[go_sem] theorem wantB_t (b : Bool) : wantB true b = b := rfl
@[go_sem] theorem wantB_f (b : Bool) : wantB false b = !b := rfl
def gB (want : Bool) : AV → Option Bool
  | .v (.bool b) => some (wantB want b)
  | .tup [] => some false
  | _ => none
theorem gB_v (want b : Bool) : gB want (.v (.bool b)) = some (wantB want b) := rfl
theorem gB_opt (want c b : Bool) : gB want (opt c (.v (.bool b))) = some (c && wantB want b) := by cases c <;> rfl
theorem gB_u (want : Bool) : gB want (.tup []) = some false := rfl
attribute [go_sem] gB_v gB_opt gB_u

theorem Awp.sreg {P : Program} {n bs nx nx' : Nat} {S : AState} {Q : AExit → Nat → AState → Prop} {l : List AOper} {y : ACode} (hn : nx + l.length = nx') (hk : aops P l nx S fun S' => Awp P n bs y nx' S' Q) : Awp P n bs (.seq (.region false l) y) nx S Q := by
  subst hn; exact Awp.seq_region hk
theorem Awp.sdraw {P : Program} {n bs nx nx' : Nat} {S : AState} {Q : AExit → Nat → AState → Prop} {l : List AOper} {y : ACode} (hn : nx + l.length = nx') (hk : aopsL P l nx S [] fun S' es => drawOk (l.map (·.deps)) es = true ∧ Awp P n bs y nx' S' Q) : Awp P n bs (.seq (.region true l) y) nx S Q := by
  subst hn; exact Awp.seq_draw hk
theorem Awp.reg {P : Program} {n bs nx nx' : Nat} {S : AState} {Q : AExit → Nat → AState → Prop} {l : List AOper} (hn : nx + l.length = nx') (hk : aops P l nx S fun S' => Q .normal nx' S') : Awp P n bs (.region false l) nx S Q := by
  subst hn; exact Awp.region hk

theorem BView.boxF {hd : Nat → Option Blk} {ρ : Nat → Nat} {nx : Nat} {cs : List AV} (h : cs.all AV.flat = true) : BView hd ρ nx (.box cs) (.box cs) := .box rfl fun j hj => .low (.same _ (List.all_eq_true.1 h _ (av_mem hj)))
theorem BView.rowE {hd : Nat → Option Blk} {ρ : Nat → Nat} {nx : Nat} {es es' : List (List AV)} {sz : Nat} {e : TypeId} (h : es = es') : BView hd ρ nx (.row es sz e) (.row es' sz e) := by subst h; exact .row _ _ _
theorem BView.iterE {hd : Nat → Option Blk} {ρ : Nat → Nat} {nx : Nat} {s : ByteArray} {i j : Nat} (h : i = j) : BView hd ρ nx (.iter s i) (.iter s j) := by subst h; exact .iter _ _

@[go_sem] theorem str_empty (s : ByteArray) : (s.toList == ByteArray.toList ⟨⟨[]⟩⟩) = (s.size == 0) := by
  have h0 : ByteArray.toList ⟨⟨[]⟩⟩ = [] := by rw [ByteArray.toList_eq]
  have h1 : s.toList.length = s.size := by rw [ByteArray.toList_eq]; rfl
  rw [h0]
  cases h : s.toList with
  | nil => rw [h] at h1; simp at h1; simp [← h1]
  | cons a l => rw [h] at h1; simp at h1; simp [← h1]

theorem View.str {hd : Nat → Option Blk} {ρ : Nat → Nat} {nx : Nat} {x y : ByteArray} (e : x = y) : View hd ρ nx (.v (.string x)) (.v (.string y)) := by subst e; exact .low (.same _ rfl)
theorem View.slE {hd : Nat → Option Blk} {ρ : Nat → Nat} {nx : Nat} {x y : List (List AV)} (e : x = y) : View hd ρ nx (.sl x) (.sl y) := by subst e; exact .low (.same _ rfl)

theorem op_callC_of {P : Program} {o : AOper} {r : List AOper} {nm : Nat} {S : AState} {K : AState → Prop} (h : aopsC P o r nm S K) : aops P (o :: r) nm S K := h
section steps
variable {P : Program} {d : Option Nat} {op : AOp} {deps : List Nat} {r : List AOper} {nm : Nat} {t : Nat → AV} {h : Nat → Option Blk} {K : AState → Prop} {p : Prop} {v : AV} {rd : List Nat}
theorem st_u {u : Upd} (he : op.eff P nm ⟨t, h⟩ default = ⟨p, v, u, rd⟩) (hc : op.isCall = false) (hp : p) (hk : aops P r (nm + 1) ⟨putT t d v, updL h u⟩ K) : aops P (⟨d, op, none, deps⟩ :: r) nm ⟨t, h⟩ K := by
  cases hch : op.choosy
  · rw [aops_op, hch, bcase_f, he]
    exact ⟨hp, hk⟩
  · exact aops_call (P := P) default hch (by rw [he]; exact hp) (by rw [he]; exact hk)
/-- A store into a row that may put a ghost name there. -/
theorem st_sx {n : Nat} {q x : AOpd} {u : Upd} {h' : Nat → Option Blk} (he : effStoreX h n (evo ⟨t, h⟩ q) (evo ⟨t, h⟩ x) = ⟨p, v, u, rd⟩) (hu : updL h u = h') (hp : p) (hk : aops P r (nm + 1) ⟨putT t d v, h'⟩ K) : aops P (⟨d, .store n q x, none, deps⟩ :: r) nm ⟨t, h⟩ K := by
  subst hu
  refine aops_call (P := P) ⟨.nils, [], []⟩ rfl ?_ ?_
  · simp only [AOp.eff, pickB, he]
    exact hp
  · simp only [AOp.eff, pickB, he]
    exact hk
/-- A slice literal whose row nobody writes. -/
theorem st_full {e : TypeId} {sz : Nat} {ps : List AOpd} {es : List (List AV)} (hr : rowE ⟨t, h⟩ sz ps = (p, es)) (hn : ps ≠ []) (hp : p) (hk : aops P r (nm + 1) ⟨putT t d (.slf es sz e), h⟩ K) : aops P (⟨d, .buildSlice e sz ps, none, deps⟩ :: r) nm ⟨t, h⟩ K := by
  refine aops_call (P := P) ⟨.nils, [], []⟩ rfl ?_ ?_
  · simp only [AOp.eff, pickB, hr]
    exact ⟨hn, hp⟩
  · simp only [AOp.eff, pickB, hr]
    exact hk
theorem st_a {u : Upd} {h' : Nat → Option Blk} (he : op.eff P nm ⟨t, h⟩ default = ⟨p, v, u, rd⟩) (hc : op.isCall = false) (hu : updL h u = h') (hp : p) (hk : aops P r (nm + 1) ⟨putT t d v, h'⟩ K) : aops P (⟨d, op, none, deps⟩ :: r) nm ⟨t, h⟩ K := by
  subst hu; exact st_u he hc hp hk
theorem st_t (he : op.eff P nm ⟨t, h⟩ default = ⟨True, v, [], rd⟩) (hc : op.isCall = false) (hk : aops P r (nm + 1) ⟨putT t d v, h⟩ K) : aops P (⟨d, op, none, deps⟩ :: r) nm ⟨t, h⟩ K := st_u he hc trivial hk
theorem st_p (he : op.eff P nm ⟨t, h⟩ default = ⟨p, v, [], rd⟩) (hc : op.isCall = false) (hp : p) (hk : aops P r (nm + 1) ⟨putT t d v, h⟩ K) : aops P (⟨d, op, none, deps⟩ :: r) nm ⟨t, h⟩ K := st_u he hc hp hk
theorem st_t1 {b : Nat} {x : Option Blk} (he : op.eff P nm ⟨t, h⟩ default = ⟨True, v, [(b, x)], rd⟩) (hc : op.isCall = false) (hk : aops P r (nm + 1) ⟨putT t d v, upd h b x⟩ K) : aops P (⟨d, op, none, deps⟩ :: r) nm ⟨t, h⟩ K := st_u he hc trivial hk
theorem st_p1 {b : Nat} {x : Option Blk} (he : op.eff P nm ⟨t, h⟩ default = ⟨p, v, [(b, x)], rd⟩) (hc : op.isCall = false) (hp : p) (hk : aops P r (nm + 1) ⟨putT t d v, upd h b x⟩ K) : aops P (⟨d, op, none, deps⟩ :: r) nm ⟨t, h⟩ K := st_u he hc hp hk
theorem st_p2 {b b' : Nat} {x x' : Option Blk} (he : op.eff P nm ⟨t, h⟩ default = ⟨p, v, [(b, x), (b', x')], rd⟩) (hc : op.isCall = false) (hp : p) (hk : aops P r (nm + 1) ⟨putT t d v, upd (upd h b x) b' x'⟩ K) : aops P (⟨d, op, none, deps⟩ :: r) nm ⟨t, h⟩ K := st_u he hc hp hk
theorem st_nil {S : AState} (hk : K S) : aops P [] nm S K := hk
theorem st_g {q : Nat} {want b : Bool} (hv : t q = .v (.bool b)) (h1 : b = want → aops P (⟨d, op, none, deps⟩ :: r) nm ⟨t, h⟩ K) (h2 : b = (!want) → aops P r (nm + 1) ⟨putT t d (.tup []), h⟩ K) : aops P (⟨d, op, some (q, want), deps⟩ :: r) nm ⟨t, h⟩ K := by
  rw [aops_g]; show gval (t q) _ _ _; rw [hv]; exact ⟨h1, h2⟩
theorem st_m {q : Nat} {want b : Bool} (hg : gB want (t q) = some b) (he : b = true → op.eff P nm ⟨t, h⟩ default = ⟨p, v, [], rd⟩) (hc : op.isCall = false) (hp : b = true → p) (hk : aops P r (nm + 1) ⟨putT t d (opt b v), h⟩ K) : aops P (⟨d, op, some (q, want), deps⟩ :: r) nm ⟨t, h⟩ K := by
  rw [aops_g]
  show gval (t q) _ _ _
  cases hx : t q with
  | v x =>
    rw [hx] at hg
    cases x with
    | bool c =>
      simp only [gB, Option.some.injEq] at hg
      subst hg
      refine ⟨fun e => ?_, fun e => ?_⟩
      · have hb : wantB want c = true := by subst e; cases c <;> rfl
        rw [hb] at hk
        exact st_u (he hb) hc (hp hb) hk
      · have hb : wantB want c = false := by subst e; cases want <;> rfl
        rw [hb] at hk
        exact hk
    | _ => cases hg
  | tup l =>
    rw [hx] at hg
    cases l with
    | nil =>
      simp only [gB, Option.some.injEq] at hg
      subst hg
      exact hk
    | cons a l => cases hg
  | _ => rw [hx] at hg; cases hg
theorem st_gu {q : Nat} {want : Bool} (hv : t q = .tup []) (h2 : aops P r (nm + 1) ⟨putT t d (.tup []), h⟩ K) : aops P (⟨d, op, some (q, want), deps⟩ :: r) nm ⟨t, h⟩ K := by
  rw [aops_g]; show gval (t q) _ _ _; rw [hv]; exact h2
theorem st_c {f : FuncId} {vs lv : List AV} {x : AV} (hc : callee ⟨t, h⟩ op = some (f, vs)) (hl : lows ⟨t, h⟩ vs = lv) (hn : hls ⟨t, h⟩ vs = []) (hp : Pure P f lv x) (hk : aops P r (nm + 1) ⟨putT t d x, h⟩ K) : aops P (⟨d, op, none, deps⟩ :: r) nm ⟨t, h⟩ K :=
  aops_low hc (by rw [hl, hn]; exact callP_nil hp hk)
theorem st_mc {q : Nat} {want b : Bool} {f : FuncId} {vs lv : List AV} {x : AV} (hop : op.isCall = true) (hg : gB want (t q) = some b) (hc : b = true → callee ⟨t, h⟩ op = some (f, vs)) (hl : b = true → lows ⟨t, h⟩ vs = lv) (hn : b = true → hls ⟨t, h⟩ vs = []) (hp : b = true → Pure P f lv x) (hk : aops P r (nm + 1) ⟨putT t d (opt b x), h⟩ K) : aops P (⟨d, op, some (q, want), deps⟩ :: r) nm ⟨t, h⟩ K := by
  rw [aops_g]
  show gval (t q) _ _ _
  cases hx : t q with
  | v x =>
    rw [hx] at hg
    cases x with
    | bool c =>
      simp only [gB, Option.some.injEq] at hg
      subst hg
      refine ⟨fun e => ?_, fun e => ?_⟩
      · have hb : wantB want c = true := by subst e; cases c <;> rfl
        rw [hb] at hk
        exact st_c (hc hb) (hl hb) (hn hb) (hp hb) hk
      · have hb : wantB want c = false := by subst e; cases want <;> rfl
        rw [hb] at hk
        exact hk
    | _ => cases hg
  | tup l =>
    rw [hx] at hg
    cases l with
    | nil =>
      simp only [gB, Option.some.injEq] at hg
      subst hg
      exact hk
    | cons a l => cases hg
  | _ => rw [hx] at hg; cases hg
theorem st_cc {f : FuncId} {vs : List AV} {x : AV} {hl : List (Nat × Blk)} {u : Upd} {h' : Nat → Option Blk} (hc : callee ⟨t, h⟩ op = some (f, vs)) (hcc : CallC P f vs hl nm x u) (hh : ∀ p ∈ hl, h p.1 = some p.2) (hu : ∀ p ∈ u, p.1 = nm ∨ p.1 ∈ hl.map (·.1)) (hm : nm ∉ hl.map (·.1)) (hw : updL h u = h') (hk : aops P r (nm + 1) ⟨putT t d x, h'⟩ K) : aops P (⟨d, op, none, deps⟩ :: r) nm ⟨t, h⟩ K := by
  subst hw
  obtain ⟨e1, e2⟩ := eff_callee (P := P) (nm := nm) (an := ⟨x, u, hl⟩) hc
  exact op_callC_of (aops_call ⟨x, u, hl⟩ (choosy_of_call e2) (by rw [e1]; exact ⟨hh, hu, hm, hcc⟩) (by rw [e1]; exact hk))
theorem st_cd {f : FuncId} {vs lv : List AV} {ns : List (Nat × Blk)} {x : AV} (hc : callee ⟨t, h⟩ op = some (f, vs)) (hl : lows ⟨t, h⟩ vs = lv) (hn : hls ⟨t, h⟩ vs = ns) (hp : Pure P f lv x) (hd : Dry x) (hm : nm ∉ ns.map (·.1)) (hk : aops P r (nm + 1) ⟨putT t d x, h⟩ K) : aops P (⟨d, op, none, deps⟩ :: r) nm ⟨t, h⟩ K :=
  aops_low hc (by rw [hl, hn]; exact callP_dry hp hm hd hk)
theorem st_co {f : FuncId} {vs lv : List AV} {es : List (List AV)} {sz : Nat} {ty : TypeId} (hc : callee ⟨t, h⟩ op = some (f, vs)) (hl : lows ⟨t, h⟩ vs = lv) (hn : hls ⟨t, h⟩ vs = []) (hp : PureOwn P f lv es sz ty) (hk : aops P r (nm + 1) ⟨putT t d (.own nm), upd h nm (some (.row es sz ty))⟩ K) : aops P (⟨d, op, none, deps⟩ :: r) nm ⟨t, h⟩ K :=
  aops_lowO hc (by rw [hl, hn]; exact callO_nil hp hk)
variable {KL : AState → List Ent → Prop} {es : List Ent}
theorem sl_u {u : Upd} (he : op.eff P nm ⟨t, h⟩ default = ⟨p, v, u, rd⟩) (hc : op.isCall = false) (hp : p) (hk : aopsL P r (nm + 1) ⟨putT t d v, updL h u⟩ (es ++ [⟨op.temps, rd, d, u.map (·.1)⟩]) KL) : aopsL P (⟨d, op, none, deps⟩ :: r) nm ⟨t, h⟩ es KL := by
  cases hch : op.choosy
  · rw [aopsL_op, hch, bcase_f, he]
    exact ⟨hp, hk⟩
  · exact aopsL_call (P := P) default hch (by rw [he]; exact hp) (by rw [he]; exact hk)
theorem sl_a {u : Upd} {h' : Nat → Option Blk} {l : List Nat} (he : op.eff P nm ⟨t, h⟩ default = ⟨p, v, u, rd⟩) (hc : op.isCall = false) (hu : updL h u = h') (hl : u.map (·.1) = l) (hp : p) (hk : aopsL P r (nm + 1) ⟨putT t d v, h'⟩ (es ++ [⟨op.temps, rd, d, l⟩]) KL) : aopsL P (⟨d, op, none, deps⟩ :: r) nm ⟨t, h⟩ es KL := by
  subst hu; subst hl; exact sl_u he hc hp hk
theorem sl_t (he : op.eff P nm ⟨t, h⟩ default = ⟨True, v, [], rd⟩) (hc : op.isCall = false) (hk : aopsL P r (nm + 1) ⟨putT t d v, h⟩ (es ++ [⟨op.temps, rd, d, []⟩]) KL) : aopsL P (⟨d, op, none, deps⟩ :: r) nm ⟨t, h⟩ es KL := sl_u he hc trivial hk
theorem sl_p (he : op.eff P nm ⟨t, h⟩ default = ⟨p, v, [], rd⟩) (hc : op.isCall = false) (hp : p) (hk : aopsL P r (nm + 1) ⟨putT t d v, h⟩ (es ++ [⟨op.temps, rd, d, []⟩]) KL) : aopsL P (⟨d, op, none, deps⟩ :: r) nm ⟨t, h⟩ es KL := sl_u he hc hp hk
theorem sl_p1 {b : Nat} {x : Option Blk} (he : op.eff P nm ⟨t, h⟩ default = ⟨p, v, [(b, x)], rd⟩) (hc : op.isCall = false) (hp : p) (hk : aopsL P r (nm + 1) ⟨putT t d v, upd h b x⟩ (es ++ [⟨op.temps, rd, d, [b]⟩]) KL) : aopsL P (⟨d, op, none, deps⟩ :: r) nm ⟨t, h⟩ es KL := sl_u he hc hp hk
theorem sl_p2 {b b' : Nat} {x x' : Option Blk} (he : op.eff P nm ⟨t, h⟩ default = ⟨p, v, [(b, x), (b', x')], rd⟩) (hc : op.isCall = false) (hp : p) (hk : aopsL P r (nm + 1) ⟨putT t d v, upd (upd h b x) b' x'⟩ (es ++ [⟨op.temps, rd, d, [b, b']⟩]) KL) : aopsL P (⟨d, op, none, deps⟩ :: r) nm ⟨t, h⟩ es KL := sl_u he hc hp hk
theorem sl_nil {S : AState} (hk : KL S es) : aopsL P [] nm S es KL := hk
theorem sl_g {q : Nat} {want b : Bool} (hb : op.isCall = false) (hv : t q = .v (.bool b)) {u : Upd} (he : b = want → op.eff P nm ⟨t, h⟩ default = ⟨p, v, u, rd⟩) (hp : b = want → p) (h1 : b = want → aopsL P r (nm + 1) ⟨putT t d v, updL h u⟩ (es ++ [⟨q :: op.temps, rd, d, u.map (·.1)⟩]) KL) (h2 : b = (!want) → aopsL P r (nm + 1) ⟨putT t d (.tup []), h⟩ (es ++ [⟨[q], [], d, []⟩]) KL) : aopsL P (⟨d, op, some (q, want), deps⟩ :: r) nm ⟨t, h⟩ es KL := by
  cases hch : op.choosy
  · rw [aopsL_g, hch, bcase_f]; show gval (t q) _ _ _; rw [hv]
    exact ⟨fun e => by rw [he e]; exact ⟨hp e, h1 e⟩, h2⟩
  · refine aopsL_callg (P := P) hch ?_
    show gval (t q) _ _ _
    rw [hv]
    exact ⟨fun e => ⟨default, by rw [he e]; exact hp e, by rw [he e]; exact h1 e⟩, h2⟩
theorem sl_gy {q : Nat} {want : Bool} (hb : op.isCall = false) (hv : t q = .v (.bool want)) {u : Upd} (he : op.eff P nm ⟨t, h⟩ default = ⟨p, v, u, rd⟩) (hp : p) (h1 : aopsL P r (nm + 1) ⟨putT t d v, updL h u⟩ (es ++ [⟨q :: op.temps, rd, d, u.map (·.1)⟩]) KL) : aopsL P (⟨d, op, some (q, want), deps⟩ :: r) nm ⟨t, h⟩ es KL :=
  sl_g hb hv (fun _ => he) (fun _ => hp) (fun _ => h1) (fun e => by cases want <;> cases e)
theorem sl_ga {q : Nat} {want : Bool} {h' : Nat → Option Blk} {l : List Nat} (hb : op.isCall = false) (hv : t q = .v (.bool want)) {u : Upd} (he : op.eff P nm ⟨t, h⟩ default = ⟨p, v, u, rd⟩) (hu : updL h u = h') (hl : u.map (·.1) = l) (hp : p) (h1 : aopsL P r (nm + 1) ⟨putT t d v, h'⟩ (es ++ [⟨q :: op.temps, rd, d, l⟩]) KL) : aopsL P (⟨d, op, some (q, want), deps⟩ :: r) nm ⟨t, h⟩ es KL := by
  subst hu; subst hl; exact sl_gy hb hv he hp h1
theorem sl_gn {q : Nat} {want b : Bool} (hv : t q = .v (.bool b)) (hbw : b = !want) (h2 : aopsL P r (nm + 1) ⟨putT t d (.tup []), h⟩ (es ++ [⟨[q], [], d, []⟩]) KL) : aopsL P (⟨d, op, some (q, want), deps⟩ :: r) nm ⟨t, h⟩ es KL := by
  cases hb : op.choosy
  · rw [aopsL_g, hb, bcase_f]; show gval (t q) _ _ _; rw [hv]
    refine gval_intro (fun e => ?_) (fun _ => h2)
    subst e; cases b <;> cases hbw
  · refine aopsL_callg (P := P) hb ?_
    show gval (t q) _ _ _
    rw [hv]
    refine gval_intro (fun e => ?_) (fun _ => h2)
    subst e; cases b <;> cases hbw
theorem sl_gu {q : Nat} {want : Bool} (hv : t q = .tup []) (h2 : aopsL P r (nm + 1) ⟨putT t d (.tup []), h⟩ (es ++ [⟨[q], [], d, []⟩]) KL) : aopsL P (⟨d, op, some (q, want), deps⟩ :: r) nm ⟨t, h⟩ es KL := by
  cases hb : op.choosy
  · rw [aopsL_g, hb, bcase_f]; show gval (t q) _ _ _; rw [hv]; exact h2
  · refine aopsL_callg (P := P) hb ?_
    show gval (t q) _ _ _
    rw [hv]; exact h2
theorem sl_case {q : Nat} {want b : Bool} (hv : t q = .v (.bool b)) (h1 : b = want → aopsL P (⟨d, op, some (q, want), deps⟩ :: r) nm ⟨t, h⟩ es KL) (h2 : b = (!want) → aopsL P (⟨d, op, some (q, want), deps⟩ :: r) nm ⟨t, h⟩ es KL) : aopsL P (⟨d, op, some (q, want), deps⟩ :: r) nm ⟨t, h⟩ es KL := by
  cases b <;> cases want
  · exact h1 rfl
  · exact h2 rfl
  · exact h2 rfl
  · exact h1 rfl
theorem sl_c {f : FuncId} {vs lv : List AV} {x : AV} {ns : List (Nat × Blk)} (hc : callee ⟨t, h⟩ op = some (f, vs)) (hl : lows ⟨t, h⟩ vs = lv) (hn : hls ⟨t, h⟩ vs = ns) (hp : Pure P f lv x) (hd : ns = [] ∨ Dry x) (hm : nm ∉ ns.map (·.1)) (hk : aopsL P r (nm + 1) ⟨putT t d x, h⟩ (es ++ [⟨op.temps, ns.map (·.1), d, []⟩]) KL) : aopsL P (⟨d, op, none, deps⟩ :: r) nm ⟨t, h⟩ es KL :=
  aopsL_low hc (by rw [hl, hn]; exact ⟨x, hp, hm, hd.imp (fun e => by rw [e]; rfl) id, hk⟩)
theorem sl_co {f : FuncId} {vs lv : List AV} {ys : List (List AV)} {sz : Nat} {ty : TypeId} (hc : callee ⟨t, h⟩ op = some (f, vs)) (hl : lows ⟨t, h⟩ vs = lv) (hn : hls ⟨t, h⟩ vs = []) (hp : PureOwn P f lv ys sz ty) (hk : aopsL P r (nm + 1) ⟨putT t d (.own nm), upd h nm (some (.row ys sz ty))⟩ (es ++ [⟨op.temps, [], d, [nm]⟩]) KL) : aopsL P (⟨d, op, none, deps⟩ :: r) nm ⟨t, h⟩ es KL :=
  aopsL_lowO hc (by rw [hl, hn]; exact callO_nil hp hk)
theorem sl_cg {q : Nat} {want : Bool} {f : FuncId} {vs lv : List AV} {x : AV} {ns : List (Nat × Blk)} (hop : op.isCall = true) (hv : t q = .v (.bool want)) (hc : callee ⟨t, h⟩ op = some (f, vs)) (hl : lows ⟨t, h⟩ vs = lv) (hn : hls ⟨t, h⟩ vs = ns) (hp : Pure P f lv x) (hd : ns = [] ∨ Dry x) (hm : nm ∉ ns.map (·.1)) (hk : aopsL P r (nm + 1) ⟨putT t d x, h⟩ (es ++ [⟨q :: op.temps, ns.map (·.1), d, []⟩]) KL) : aopsL P (⟨d, op, some (q, want), deps⟩ :: r) nm ⟨t, h⟩ es KL :=
  aopsL_lowG hop hv (fun _ => ⟨f, vs, hc, by rw [hl, hn]; exact ⟨x, hp, hm, hd.imp (fun e => by rw [e]; rfl) id, hk⟩⟩) (fun e => by cases want <;> cases e)
end steps
theorem op_callC {P : Program} {o : AOper} {r : List AOper} {nm : Nat} {S : AState} {K : AState → Prop} (h : aopsC P o r nm S K) : aops P (o :: r) nm S K := h
theorem op_callLC {P : Program} {o : AOper} {r : List AOper} {nm : Nat} {S : AState} {es : List Ent} {K : AState → List Ent → Prop} (h : aopsLC P o r nm S es K) : aopsL P (o :: r) nm S es K := h
end Go.Ab
end
section
set_option linter.unusedVariables false
set_option linter.unusedSimpArgs false
attribute [go_sem] Nat.reduceAdd Nat.reduceEqDiff Nat.reduceMul Nat.reduceLeDiff Nat.reduceLT Nat.reduceSub reduceIte reduceCtorEq Nat.reduceBEq Nat.reduceBNe Int.reduceToNat Int.reduceLT Int.reduceLE Int.reduceEq Int.reduceNe Int.reduceBEq Int.reduceBNe Int.reduceAdd Int.reduceSub Int.reduceNeg decide_true decide_false Bool.not_true Bool.not_false
namespace Go.Ab
@[go_sem] theorem eqAgg_a (neg : Bool) (ks : List Nat) (x y : List AV) : effEqAgg neg ks (.agg x) (.agg y) = ⟨(eqCells ks x y).1, .v (.bool (neg ^^ (eqCells ks x y).2)), [], []⟩ := rfl
@[go_sem] theorem eqCells_nil : eqCells [] [] [] = (True, true) := rfl
@[go_sem] theorem eqCells_cons (k : Nat) (ks : List Nat) (a b : AV) (x y : List AV) : eqCells (k :: ks) (a :: x) (b :: y) = ((eqCell k a b).1 ∧ (eqCells ks x y).1, (eqCell k a b).2 && (eqCells ks x y).2) := rfl
@[go_sem] theorem eqCell_i (k k' : IntKind) (a b : Int) : eqCell 0 (.v (.int k a)) (.v (.int k' b)) = (k = k', a == b) := rfl
@[go_sem] theorem eqCell_b (a b : Bool) : eqCell 1 (.v (.bool a)) (.v (.bool b)) = (True, a == b) := rfl
@[go_sem] theorem eqCell_s (a b : ByteArray) : eqCell 2 (.v (.string a)) (.v (.string b)) = (True, a.toList == b.toList) := rfl
@[go_sem] theorem idxPtr_bp (len sz b o : Nat) (k : IntKind) (n : Int) : effIdxPtr len sz (.v (.int k n)) (.bp b o) = ⟨0 ≤ n ∧ n < len, .bp b (o + n.toNat * sz), [], []⟩ := rfl
@[go_sem] theorem idxPtr_rp (len sz : Nat) (cs : List AV) (k : IntKind) (n : Int) : effIdxPtr len sz (.v (.int k n)) (.rp cs) = ⟨0 ≤ n ∧ n < len ∧ n.toNat * sz < cs.length, .rp (cs.drop (n.toNat * sz)), [], []⟩ := rfl
end Go.Ab
example : (if 2 + 3 = 5 then 1 else 2) = 1 := by simp only [go_sem]
end
section
set_option linter.unusedVariables false
set_option linter.unusedSimpArgs false
namespace Go.Proofs
open Go Go.Ab
set_option maxHeartbeats 1000000
set_option maxRecDepth 100000
set_option linter.unusedSimpArgs false
set_option linter.unusedVariables false
attribute [local irreducible] Awp aops aopsL Go.Ab.Pure PureOwn
def ints (l : List Int) : List (List AV) := l.map fun n => [.v (.int .i64 n)]
theorem ints_len (l : List Int) : (ints l).length = l.length := by simp [ints]
attribute [go_sem] ints_len
@[go_sem] theorem ints_at (l : List Int) (i : Nat) (h : i < l.length) : (ints l).getD i [] = [.v (.int .i64 (l.getD i 0))] := by
  simp [ints, List.getD_eq_getElem?_getD, h]
@[go_sem] theorem neg1 : Int.negSucc 0 = -1 := rfl
end Go.Proofs
end
section
set_option linter.unusedVariables false
set_option linter.unusedSimpArgs false
namespace Go.Proofs
open Go Go.Ab
set_option maxHeartbeats 1000000
set_option maxRecDepth 100000
set_option linter.unusedSimpArgs false
set_option linter.unusedVariables false
attribute [local irreducible] Awp aops aopsL Go.Ab.Pure PureOwn
theorem letter_ok (c : Int) : Pure Try.prog 41 [.v (.int .u8 c)] (.v (.bool (decide (97 ≤ c) && decide (c ≤ 122) || decide (65 ≤ c) && decide (c ≤ 90)))) := by
  refine fn_pure Try.F41 (Nat.le_of_ble_eq_true rfl) ?_; unfold Try.ac41
  repeat' (first
    | (apply Awp.sreg; (case hn => (simp only [List.length_cons, List.length_nil, Nat.reduceAdd] <;> rfl)))
    | (refine st_nil ?_)
    | (apply st_a; (case hc => rfl); (case he => (simp only [go_sem, *] <;> rfl)); (case hu => (simp only [updL_nil, updL_cons] <;> rfl)); (case hp => first | trivial))
    | (apply st_m; (case hc => rfl); (case hg => (simp only [go_sem, *] <;> rfl)); (case he => (intro hQz; (try simp only [wantB_t, wantB_f, Bool.and_eq_true, Bool.not_eq_true', Bool.not_true, Bool.not_false, and_true, true_and] at hQz); simp only [go_sem, *] <;> rfl)); (case hp => (intro hQz; (try simp only [wantB_t, wantB_f, Bool.and_eq_true, Bool.not_eq_true', Bool.or_eq_false_iff, decide_eq_true_eq, decide_eq_false_iff_not, beq_iff_eq, beq_eq_false_iff_ne, bne_iff_ne, bne_eq_false_iff_eq, Int.not_lt, Int.not_le, Int.ofNat_lt, Int.ofNat_le] at hQz); first | trivial)))
    | (refine Awp.ret ?_; try simp only [go_sem, *]))
  all_goals repeat' (first | exact Lower.bool (by first | rfl | (simp only [true_and, Bool.true_and, Bool.false_and, Bool.and_true, Bool.and_false, Bool.true_or, Bool.false_or, reduceIte, Bool.false_eq_true, *]; done) | (simp only [true_and, reduceIte, Bool.false_eq_true, *] <;> rfl) | (simp [true_and]; done) | (simp_all [true_and]; done) | omega))
theorem digit_ok (c : Int) : Pure Try.prog 42 [.v (.int .u8 c)] (.v (.bool (decide (48 ≤ c) && decide (c ≤ 57)))) := by
  refine fn_pure Try.F42 (Nat.le_of_ble_eq_true rfl) ?_; unfold Try.ac42
  repeat' (first
    | (apply Awp.sreg; (case hn => (simp only [List.length_cons, List.length_nil, Nat.reduceAdd] <;> rfl)))
    | (refine st_nil ?_)
    | (apply st_a; (case hc => rfl); (case he => (simp only [go_sem, *] <;> rfl)); (case hu => (simp only [updL_nil, updL_cons] <;> rfl)); (case hp => first | trivial))
    | (apply st_m; (case hc => rfl); (case hg => (simp only [go_sem, *] <;> rfl)); (case he => (intro hQz; (try simp only [wantB_t, wantB_f, Bool.and_eq_true, Bool.not_eq_true', Bool.not_true, Bool.not_false, and_true, true_and] at hQz); simp only [go_sem, *] <;> rfl)); (case hp => (intro hQz; (try simp only [wantB_t, wantB_f, Bool.and_eq_true, Bool.not_eq_true', Bool.or_eq_false_iff, decide_eq_true_eq, decide_eq_false_iff_not, beq_iff_eq, beq_eq_false_iff_ne, bne_iff_ne, bne_eq_false_iff_eq, Int.not_lt, Int.not_le, Int.ofNat_lt, Int.ofNat_le] at hQz); first | trivial)))
    | (refine Awp.ret ?_; try simp only [go_sem, *]))
  all_goals repeat' (first | exact Lower.bool (by first | rfl | (simp only [true_and, Bool.true_and, Bool.false_and, Bool.and_true, Bool.and_false, Bool.true_or, Bool.false_or, reduceIte, Bool.false_eq_true, *]; done) | (simp only [true_and, reduceIte, Bool.false_eq_true, *] <;> rfl) | (simp [true_and]; done) | (simp_all [true_and]; done) | omega))
def byteAt (s : ByteArray) (i : Nat) : Int := (s.data.getD i 0).toNat
def letB (c : Int) : Bool := decide (97 ≤ c) && decide (c ≤ 122) || decide (65 ≤ c) && decide (c ≤ 90)
def digB (c : Int) : Bool := decide (48 ≤ c) && decide (c ≤ 57)
def okB (c : Int) : Bool := letB c || digB c || c == 95 || c == 45
def nameB (s : ByteArray) : Bool := !(s.size == 0) && decide (s.size ≤ 16) && letB (byteAt s 0) && (List.range s.size).all fun i => okB (byteAt s i)
theorem byteAt_def (s : ByteArray) (i : Nat) : ((s.data.getD i 0).toNat : Int) = byteAt s i := rfl
attribute [go_sem] byteAt_def
theorem letter2_ok (c : Int) : Pure Try.prog 41 [.v (.int .u8 c)] (.v (.bool (letB c))) := letter_ok c
theorem digit2_ok (c : Int) : Pure Try.prog 42 [.v (.int .u8 c)] (.v (.bool (digB c))) := digit_ok c
theorem okN (c : Int) : (!letB c && !digB c && c != 95 && c != 45) = !okB c := by
  simp only [okB, Bool.not_or, bne]
theorem nameB_head {s : ByteArray} (h : (s.size == 0 || decide (16 < (s.size : Int)) || !letB (byteAt s 0)) = true) : nameB s = false := by
  simp only [Bool.or_eq_true, beq_iff_eq, decide_eq_true_eq, Bool.not_eq_true'] at h
  rcases h with (h | h) | h
  · simp [nameB, h]
  · have : ¬ s.size ≤ 16 := by omega
    simp [nameB, this]
  · simp [nameB, h]
theorem nameB_bad {s : ByteArray} {i : Nat} (h : i < s.size) (e : okB (byteAt s i) = false) : nameB s = false := by
  have : ((List.range s.size).all fun i => okB (byteAt s i)) = false := by
    simp only [List.all_eq_false, List.mem_range]
    exact ⟨i, h, by simp [e]⟩
  simp [nameB, this]
theorem nameB_end {s : ByteArray} {i : Nat} (h0 : s.size ≠ 0) (h1 : (s.size : Int) ≤ 16) (h2 : letB (byteAt s 0) = true) (h : ∀ j, j < i → okB (byteAt s j) = true) (hi : s.size ≤ i) : nameB s = true := by
  have : ((List.range s.size).all fun i => okB (byteAt s i)) = true := by
    simp only [List.all_eq_true, List.mem_range]
    exact fun j hj => h j (by omega)
  have h3 : s.size ≤ 16 := by omega
  simp [nameB, this, h0, h3, h2]
theorem ltSucc {P : Nat → Prop} {i : Nat} (h : ∀ j, j < i → P j) (hi : P i) : ∀ j, j < i + 1 → P j := fun j hj => by
  rcases Nat.lt_succ_iff_lt_or_eq.1 hj with h' | rfl
  · exact h j h'
  · exact hi
theorem rname_ok (s : ByteArray) : Pure Try.prog 28 [.v (.string s)] (.v (.bool (nameB s))) := by
  refine fn_pure Try.F28 (Nat.le_of_ble_eq_true rfl) ?_; unfold Try.ac28
  repeat' (first
    | (apply Awp.sreg; (case hn => (simp only [List.length_cons, List.length_nil, Nat.reduceAdd] <;> rfl)))
    | (refine st_nil ?_)
    | (apply st_a; (case hc => rfl); (case he => (simp only [go_sem, *] <;> rfl)); (case hu => (simp only [updL_nil, updL_cons] <;> rfl)); (case hp => first | trivial))
    | (apply st_m; (case hc => rfl); (case hg => (simp only [go_sem, *] <;> rfl)); (case he => (intro hQz; (try simp only [wantB_t, wantB_f, Bool.and_eq_true, Bool.not_eq_true', Bool.not_true, Bool.not_false, and_true, true_and] at hQz); simp only [go_sem, *] <;> rfl)); (case hp => (intro hQz; (try simp only [wantB_t, wantB_f, Bool.and_eq_true, Bool.not_eq_true', Bool.or_eq_false_iff, decide_eq_true_eq, decide_eq_false_iff_not, beq_iff_eq, beq_eq_false_iff_ne, bne_iff_ne, bne_eq_false_iff_eq, Int.not_lt, Int.not_le, Int.ofNat_lt, Int.ofNat_le] at hQz); first | trivial | omega)))
    | (apply st_mc; (case hop => rfl); (case hg => (simp only [go_sem, *] <;> rfl)); (case hc => (intro hQz; (try simp only [wantB_t, wantB_f, Bool.and_eq_true, Bool.not_eq_true', Bool.not_true, Bool.not_false, and_true, true_and] at hQz); simp only [go_sem, *] <;> rfl)); (case hl => (intro hQz; (try simp only [wantB_t, wantB_f, Bool.and_eq_true, Bool.not_eq_true', Bool.not_true, Bool.not_false, and_true, true_and] at hQz); simp only [go_sem, *] <;> rfl)); (case hn => (intro hQz; (try simp only [wantB_t, wantB_f, Bool.and_eq_true, Bool.not_eq_true', Bool.not_true, Bool.not_false, and_true, true_and] at hQz); simp only [go_sem, *] <;> rfl)); (case hp => intro hQz; first | exact letter2_ok _ | (have hXz := letter2_ok _; simp only [go_sem, *] at hXz; exact hXz)))
    | (refine Awp.ret ?_; try simp only [go_sem, *])
    | (refine Awp.skip ?_; try simp only [go_sem, *])
    | refine Awp.block ?_
    | (apply Awp.cond; (case hc => (simp only [go_sem, *] <;> rfl)); all_goals (intro hg; (try simp only [Bool.not_true, Bool.not_false, reduceCtorEq] at hg); (try have hg' := hg); (try simp only [decide_eq_true_eq, decide_eq_false_iff_not, Bool.and_eq_true, Bool.or_eq_false_iff, bne_iff_ne, bne_eq_false_iff_eq, beq_iff_eq, beq_eq_false_iff_ne, Int.not_lt, Int.not_le, Int.ofNat_lt, Int.ofNat_le, Int.natCast_inj] at hg')))
    | refine Awp.seq ?_)
  · exact Lower.bool (nameB_head hg).symm
  · have h0 := hg'
    refine Awp.loop (fun i : Nat => i ≤ s.size ∧ ∀ j, j < i → okB (byteAt s j) = true) 0 (fun i => mkS [(0, .v (.string s)), (3, .v (.int .i64 i))] []) (fun i => s.size - i) 0 (by simp) ?_ ?_
    · (apply Ghost.mk [] []; (case hdead => rfl); (case hinj => rfl); (case hV => (simp only [go_sem, *]) <;> (repeat' (first | exact View.int (by first | rfl | omega | (simp; done) | (rw [wrap_i64] <;> (try simp only [Int.natCast_add]) <;> omega) | (simp [*]; done))))); (case hB => (simp only [go_sem, *]) <;> (repeat' (first | skip; done))))
    · intro i ⟨hi, hj⟩
      repeat' (first
    | (apply Awp.sreg; (case hn => (simp only [List.length_cons, List.length_nil, Nat.reduceAdd] <;> rfl)))
    | (refine st_nil ?_)
    | (apply st_a; (case hc => rfl); (case he => (simp only [go_sem, *] <;> rfl)); (case hu => (simp only [updL_nil, updL_cons] <;> rfl)); (case hp => first | trivial | omega))
    | (apply st_m; (case hc => rfl); (case hg => (simp only [go_sem, *] <;> rfl)); (case he => (intro hQz; (try simp only [wantB_t, wantB_f, Bool.and_eq_true, Bool.not_eq_true', Bool.not_true, Bool.not_false, and_true, true_and] at hQz); simp only [go_sem, *] <;> rfl)); (case hp => (intro hQz; (try simp only [wantB_t, wantB_f, Bool.and_eq_true, Bool.not_eq_true', Bool.or_eq_false_iff, decide_eq_true_eq, decide_eq_false_iff_not, beq_iff_eq, beq_eq_false_iff_ne, bne_iff_ne, bne_eq_false_iff_eq, Int.not_lt, Int.not_le, Int.ofNat_lt, Int.ofNat_le] at hQz); first | trivial | omega)))
    | (apply st_c; (case hc => (simp only [go_sem, *] <;> rfl)); (case hl => (simp only [go_sem, *] <;> rfl)); (case hn => (simp only [go_sem, *] <;> rfl)); (case hp => first | exact letter2_ok _ | (have hXz := letter2_ok _; simp only [go_sem, *] at hXz; exact hXz)))
    | (apply st_mc; (case hop => rfl); (case hg => (simp only [go_sem, *] <;> rfl)); (case hc => (intro hQz; (try simp only [wantB_t, wantB_f, Bool.and_eq_true, Bool.not_eq_true', Bool.not_true, Bool.not_false, and_true, true_and] at hQz); simp only [go_sem, *] <;> rfl)); (case hl => (intro hQz; (try simp only [wantB_t, wantB_f, Bool.and_eq_true, Bool.not_eq_true', Bool.not_true, Bool.not_false, and_true, true_and] at hQz); simp only [go_sem, *] <;> rfl)); (case hn => (intro hQz; (try simp only [wantB_t, wantB_f, Bool.and_eq_true, Bool.not_eq_true', Bool.not_true, Bool.not_false, and_true, true_and] at hQz); simp only [go_sem, *] <;> rfl)); (case hp => intro hQz; first | exact digit2_ok _ | (have hXz := digit2_ok _; simp only [go_sem, *] at hXz; exact hXz)))
    | (apply Awp.reg; (case hn => (simp only [List.length_cons, List.length_nil, Nat.reduceAdd] <;> rfl)))
    | (refine Awp.ret ?_; try simp only [go_sem, *])
    | (refine Awp.skip ?_; try simp only [go_sem, *])
    | (refine Awp.exit ?_; try simp only [go_sem, *])
    | refine Awp.block ?_
    | (apply Awp.cond; (case hc => (simp only [go_sem, *] <;> rfl)); all_goals (intro hg; (try simp only [Bool.not_true, Bool.not_false, reduceCtorEq] at hg); (try have hg' := hg); (try simp only [decide_eq_true_eq, decide_eq_false_iff_not, Bool.and_eq_true, Bool.or_eq_false_iff, bne_iff_ne, bne_eq_false_iff_eq, beq_iff_eq, beq_eq_false_iff_ne, Int.not_lt, Int.not_le, Int.ofNat_lt, Int.ofNat_le, Int.natCast_inj] at hg')))
    | refine Awp.seq ?_)
      · rw [okN] at hg
        exact Lower.bool (nameB_bad (i := i) (by assumption) (by simpa using hg)).symm
      · rw [okN] at hg
        refine ⟨i + 1, ⟨by omega, ltSucc hj (by simpa using hg)⟩, by omega, ?_⟩
        (apply Ghost.mk [] []; (case hdead => rfl); (case hinj => rfl); (case hV => (simp only [go_sem, *]) <;> (repeat' (first | exact View.int (by first | rfl | omega | (simp; done) | (rw [wrap_i64] <;> (try simp only [Int.natCast_add]) <;> omega) | (simp [*]; done))))); (case hB => (simp only [go_sem, *]) <;> (repeat' (first | skip; done))))
      · exact Lower.bool (nameB_end h0.1.1 h0.1.2 (by simpa using h0.2) hj (by omega)).symm
theorem get_byteAt (s : ByteArray) (i : Nat) : ((s.get! i).toNat : Int) = byteAt s i := by
  show ((s.data[i]!).toNat : Int) = _
  rw [Array.getElem!_eq_getD]
  rfl
theorem decode_lo {s : ByteArray} {i : Nat} (h : byteAt s i < 128) : ((Utf8.decode s i).1 : Int) = byteAt s i ∧ (Utf8.decode s i).2 = 1 := by
  have h1 := get_byteAt s i
  have h2 : (s.get! i).toNat < 128 := by omega
  simp only [Utf8.decode, h2, if_true, Nat.add_zero]
  exact ⟨h1, trivial⟩
theorem decode_hi {s : ByteArray} {i : Nat} (h : 128 ≤ byteAt s i) : (128 : Int) ≤ ((Utf8.decode s i).1 : Int) := by
  have h1 := get_byteAt s i
  have h2 : ¬ (s.get! i).toNat < 128 := by omega
  have h3 : 128 ≤ (Utf8.decode s i).1 := by
    simp only [Utf8.decode, Nat.add_zero, h2, if_false, Utf8.runeError]
    repeat' split
    all_goals simp_all
    all_goals omega
  omega
def nmC (c : Int) (i : Nat) : Bool := !(decide (65 ≤ c) && decide (c ≤ 90) || decide (97 ≤ c) && decide (c ≤ 122)) && ((i : Int) == 0 || !(decide (48 ≤ c) && decide (c ≤ 57) || c == 95 || c == 45))
theorem nm_bad {s : ByteArray} {i : Nat} (hi : i < s.size) (h : nmC ((Utf8.decode s i).1 : Nat) i = true) : nameB s = false := by
  rcases Int.lt_or_le (byteAt s i) 128 with hb | hb
  · rw [(decode_lo hb).1] at h
    by_cases h0 : i = 0
    · subst h0
      refine nameB_head ?_
      simp only [nmC, Bool.and_eq_true, Bool.not_eq_true'] at h
      simp only [Bool.or_eq_true, Bool.not_eq_true', letB]
      refine .inr ?_
      rw [Bool.or_comm]
      exact h.1
    · refine nameB_bad hi ?_
      simp [nmC, okB, letB, digB, h0] at h ⊢
      omega
  · have := decode_hi hb
    refine nameB_bad hi ?_
    simp [okB, letB, digB]
    omega
theorem nm_good {s : ByteArray} {i : Nat} (h : nmC ((Utf8.decode s i).1 : Nat) i = false) : (Utf8.decode s i).2 = 1 ∧ okB (byteAt s i) = true ∧ (i = 0 → letB (byteAt s 0) = true) := by
  rcases Int.lt_or_le (byteAt s i) 128 with hb | hb
  · rw [(decode_lo hb).1] at h
    refine ⟨(decode_lo hb).2, ?_, fun h0 => ?_⟩
    · simp [nmC, okB, letB, digB] at h ⊢
      omega
    · subst h0
      simp [nmC, letB] at h ⊢
      omega
  · have h1 := decode_hi hb
    generalize ((Utf8.decode s i).1 : Int) = c at *
    simp [nmC] at h
    omega
theorem name_ok (s : ByteArray) : Pure Try.prog 26 [.v (.string s)] (.v (.bool (nameB s))) := by
  refine fn_pure Try.F26 (Nat.le_of_ble_eq_true rfl) ?_; unfold Try.ac26
  repeat' (first
    | (apply Awp.sreg; (case hn => (simp only [List.length_cons, List.length_nil, Nat.reduceAdd] <;> rfl)))
    | (refine st_nil ?_)
    | (apply st_a; (case hc => rfl); (case he => (simp only [go_sem, *] <;> rfl)); (case hu => (simp only [updL_nil, updL_cons] <;> rfl)); (case hp => first | trivial))
    | (apply st_m; (case hc => rfl); (case hg => (simp only [go_sem, *] <;> rfl)); (case he => (intro hQz; (try simp only [wantB_t, wantB_f, Bool.and_eq_true, Bool.not_eq_true', Bool.not_true, Bool.not_false, and_true, true_and] at hQz); simp only [go_sem, *] <;> rfl)); (case hp => (intro hQz; (try simp only [wantB_t, wantB_f, Bool.and_eq_true, Bool.not_eq_true', Bool.or_eq_false_iff, decide_eq_true_eq, decide_eq_false_iff_not, beq_iff_eq, beq_eq_false_iff_ne, bne_iff_ne, bne_eq_false_iff_eq, Int.not_lt, Int.not_le, Int.ofNat_lt, Int.ofNat_le] at hQz); first | trivial)))
    | (refine Awp.ret ?_; try simp only [go_sem, *])
    | (refine Awp.skip ?_; try simp only [go_sem, *])
    | refine Awp.block ?_
    | (apply Awp.cond; (case hc => (simp only [go_sem, *] <;> rfl)); all_goals (intro hg; (try simp only [Bool.not_true, Bool.not_false, reduceCtorEq] at hg); (try have hg' := hg); (try simp only [decide_eq_true_eq, decide_eq_false_iff_not, Bool.and_eq_true, Bool.or_eq_false_iff, bne_iff_ne, bne_eq_false_iff_eq, beq_iff_eq, beq_eq_false_iff_ne, Int.not_lt, Int.not_le, Int.ofNat_lt, Int.ofNat_le, Int.natCast_inj] at hg')))
    | refine Awp.seq ?_)
  · refine Lower.bool (nameB_head ?_).symm
    rw [hg]; rfl
  · have h0 := hg'
    refine Awp.loop (fun i : Nat => i ≤ s.size ∧ (0 < i → letB (byteAt s 0) = true) ∧ ∀ j, j < i → okB (byteAt s j) = true) 10 (fun i => mkS [(0, .v (.string s)), (15, .bp 9 0)] [(9, .iter s i)]) (fun i => s.size - i) 0 (by simp) ?_ ?_
    · (apply Ghost.mk [] []; (case hdead => rfl); (case hinj => rfl); (case hV => (simp only [go_sem, *]) <;> (repeat' (first | exact .bp rfl (by decide)))); (case hB => (simp only [go_sem, *]) <;> (repeat' (first | exact ⟨_, rfl, .iterE (by first | rfl | omega | (simp; done) | (rw [wrap_i64] <;> (try simp only [Int.natCast_add]) <;> omega) | (simp [*]; done))⟩))))
    · intro i ⟨hi, hl, hj⟩
      by_cases hs : i < s.size
      · have e1 := nextV_in hs
        have e2 := nextPos_in hs
        repeat' (first
    | (apply Awp.sreg; (case hn => (simp only [List.length_cons, List.length_nil, Nat.reduceAdd] <;> rfl)))
    | (refine st_nil ?_)
    | (apply st_a; (case hc => rfl); (case he => (simp only [go_sem, *] <;> rfl)); (case hu => (simp only [updL_nil, updL_cons] <;> rfl)); (case hp => first | trivial))
    | (apply st_m; (case hc => rfl); (case hg => (simp only [go_sem, *] <;> rfl)); (case he => (intro hQz; (try simp only [wantB_t, wantB_f, Bool.and_eq_true, Bool.not_eq_true', Bool.not_true, Bool.not_false, and_true, true_and] at hQz); simp only [go_sem, *] <;> rfl)); (case hp => (intro hQz; (try simp only [wantB_t, wantB_f, Bool.and_eq_true, Bool.not_eq_true', Bool.or_eq_false_iff, decide_eq_true_eq, decide_eq_false_iff_not, beq_iff_eq, beq_eq_false_iff_ne, bne_iff_ne, bne_eq_false_iff_eq, Int.not_lt, Int.not_le, Int.ofNat_lt, Int.ofNat_le] at hQz); first | trivial)))
    | (refine Awp.ret ?_; try simp only [go_sem, *])
    | (refine Awp.skip ?_; try simp only [go_sem, *])
    | refine Awp.block ?_
    | (apply Awp.cond; (case hc => (simp only [go_sem, *] <;> rfl)); all_goals (intro hg; (try simp only [Bool.not_true, Bool.not_false, reduceCtorEq] at hg); (try have hg' := hg); (try simp only [decide_eq_true_eq, decide_eq_false_iff_not, Bool.and_eq_true, Bool.or_eq_false_iff, bne_iff_ne, bne_eq_false_iff_eq, beq_iff_eq, beq_eq_false_iff_ne, Int.not_lt, Int.not_le, Int.ofNat_lt, Int.ofNat_le, Int.natCast_inj] at hg')))
    | refine Awp.seq ?_)
        · exact Lower.bool (nm_bad hs hg).symm
        · obtain ⟨g1, g2, g3⟩ := nm_good (s := s) (i := i) hg
          rw [g1] at e2
          refine ⟨i + 1, ⟨by omega, fun _ => ?_, ltSucc hj g2⟩, by omega, ?_⟩
          · rcases Nat.eq_zero_or_pos i with h | h
            · exact g3 h
            · exact hl h
          · (apply Ghost.mk [] []; (case hdead => rfl); (case hinj => rfl); (case hV => (simp only [go_sem, *]) <;> (repeat' (first | exact .bp rfl (by decide)))); (case hB => (simp only [go_sem, *]) <;> (repeat' (first | exact ⟨_, rfl, .iterE (by first | rfl | omega | (simp; done) | (rw [wrap_i64] <;> (try simp only [Int.natCast_add]) <;> omega) | (simp [*]; done))⟩))))
      · have e1 := nextV_end hs
        have e2 := nextPos_end hs
        repeat' (first
    | (apply Awp.sreg; (case hn => (simp only [List.length_cons, List.length_nil, Nat.reduceAdd] <;> rfl)))
    | (refine st_nil ?_)
    | (apply st_a; (case hc => rfl); (case he => (simp only [go_sem, *] <;> rfl)); (case hu => (simp only [updL_nil, updL_cons] <;> rfl)); (case hp => first | trivial))
    | (refine Awp.ret ?_; try simp only [go_sem, *])
    | (refine Awp.exit ?_; try simp only [go_sem, *])
    | (apply Awp.cond; (case hc => (simp only [go_sem, *] <;> rfl)); all_goals (intro hg; (try simp only [Bool.not_true, Bool.not_false, reduceCtorEq] at hg); (try have hg' := hg); (try simp only [decide_eq_true_eq, decide_eq_false_iff_not, Bool.and_eq_true, Bool.or_eq_false_iff, bne_iff_ne, bne_eq_false_iff_eq, beq_iff_eq, beq_eq_false_iff_ne, Int.not_lt, Int.not_le, Int.ofNat_lt, Int.ofNat_le, Int.natCast_inj] at hg')))
    | refine Awp.seq ?_)
        all_goals exact Lower.bool (nameB_end h0.1 h0.2 (hl (by omega)) hj (by omega)).symm
end Go.Proofs
end
section
set_option linter.unusedVariables false
set_option linter.unusedSimpArgs false
namespace Go.Proofs
open Go.Shelf
def Try.lays128_ren : Go.Shelf.Ren := ⟨fun | 128 => 64 | n => n, fun | 51 => 85 | 3 => 3 | 4 => 4 | 46 => 72 | 5 => 5 | 9 => 9 | n => n, fun | n => n⟩
theorem Try.lays128 : Go.Proofs.Lays.n128 Try.prog Try.lays128_ren := {
  mixed := by kernel_rfl
  f128 := Try.func64.trans (congrArg some (by kernel_rfl))
  t3 := Try.underlying3
  a3 := Try.isAgg3
  z3 := Try.sizeOf3
  v3 := Try.zeroValue3
  t4 := Try.underlying4
  a4 := Try.isAgg4
  z4 := Try.sizeOf4
  v4 := Try.zeroValue4
  t5 := Try.underlying5
  a5 := Try.isAgg5
  z5 := Try.sizeOf5
  v5 := Try.zeroValue5
  t9 := Try.underlying9
  a9 := Try.isAgg9
  z9 := Try.sizeOf9
  v9 := Try.zeroValue9
  t46 := Try.underlying72
  a46 := Try.isAgg72
  z46 := Try.sizeOf72
  v46 := Try.zeroValue72
  t51 := Try.underlying85
  a51 := Try.isAgg85
  z51 := Try.sizeOf85
  v51 := Try.zeroValue85 }
/-- bits.Len32: "Len32 returns the minimum number of bits required to represent x; the result is 0 for x == 0.": IT RETURNS 'Lib.bitLen x'; the world is as it was. ('h0', 'h1': x is a uint32.) (LAID: no walk: one application.) -/
theorem Try.bits_Len32 (x : Int) (w : World) (h0 : 0 ≤ x) (h1 : x ≤ 4294967295) :
    Calls Try.prog 64 #[.int .u32 x] w fun e w' => e = .returned (.int .i64 (Lib.bitLen x.toNat)) ∧ w' = w := Any.bits_Len32 Try.lays128 x w h0 h1
def Try.lays125_ren : Go.Shelf.Ren := ⟨fun | 125 => 52 | 128 => 64 | 129 => 65 | n => n, fun | 46 => 72 | 3 => 3 | 51 => 85 | 53 => 87 | 4 => 4 | 5 => 5 | 9 => 9 | n => n, fun | n => n⟩
theorem Try.lays125 : Go.Proofs.Lays.n125 Try.prog Try.lays125_ren := {
  mixed := by kernel_rfl
  f125 := Try.func52.trans (congrArg some (by kernel_rfl))
  f128 := Try.func64.trans (congrArg some (by kernel_rfl))
  f129 := Try.func65.trans (congrArg some (by kernel_rfl))
  t3 := Try.underlying3
  a3 := Try.isAgg3
  z3 := Try.sizeOf3
  v3 := Try.zeroValue3
  t4 := Try.underlying4
  a4 := Try.isAgg4
  z4 := Try.sizeOf4
  v4 := Try.zeroValue4
  t5 := Try.underlying5
  a5 := Try.isAgg5
  z5 := Try.sizeOf5
  v5 := Try.zeroValue5
  t9 := Try.underlying9
  a9 := Try.isAgg9
  z9 := Try.sizeOf9
  v9 := Try.zeroValue9
  t46 := Try.underlying72
  a46 := Try.isAgg72
  z46 := Try.sizeOf72
  v46 := Try.zeroValue72
  t51 := Try.underlying85
  a51 := Try.isAgg85
  z51 := Try.sizeOf85
  v51 := Try.zeroValue85
  t53 := Try.underlying87
  a53 := Try.isAgg87
  z53 := Try.sizeOf87
  v53 := Try.zeroValue87 }
/-- bits.Len: "Len returns the minimum number of bits required to represent x; the result is 0 for x == 0.": IT RETURNS 'Lib.bitLen x'; the world is as it was. (A uint has 64 bits in the model.) ITS CALLEE bits.Len64 IS MET BY ITS OWN CONTRACT OFF THE SHELF (lay that first). (LAID: no walk: one application.) -/
theorem Try.bits_Len (x : Int) (w : World) (h0 : 0 ≤ x) (h1 : x ≤ 18446744073709551615) :
    Calls Try.prog 52 #[.int .u64 x] w fun e w' => e = .returned (.int .i64 (Lib.bitLen x.toNat)) ∧ w' = w := Any.bits_Len Try.lays125 x w h0 h1
def Try.lays215_ren : Go.Shelf.Ren := ⟨fun | 215 => 87 | n => n, fun | 3 => 3 | 4 => 4 | n => n, fun | n => n⟩
theorem Try.lays215 : Go.Proofs.Lays.n215 Try.prog Try.lays215_ren := {
  mixed := by kernel_rfl
  f215 := Try.func87.trans (congrArg some (by kernel_rfl))
  t3 := Try.underlying3
  a3 := Try.isAgg3
  z3 := Try.sizeOf3
  v3 := Try.zeroValue3
  t4 := Try.underlying4
  a4 := Try.isAgg4
  z4 := Try.sizeOf4
  v4 := Try.zeroValue4 }
open Go.RowKit in
/-- cmp.isNaN at int: 'x != x': false. (LAID: no walk: one application.) -/
theorem Try.cmp_isNaN_int (x : Int) (w : World) :
    Calls Try.prog 87 #[.int .i64 x] w fun e w' => e = .returned (.bool false) ∧ w' = w := Any.cmp_isNaN_int Try.lays215 x w
def Try.lays122_ren : Go.Shelf.Ren := ⟨fun | 122 => 81 | 215 => 87 | n => n, fun | 3 => 3 | 4 => 4 | n => n, fun | n => n⟩
theorem Try.lays122 : Go.Proofs.Lays.n122 Try.prog Try.lays122_ren := {
  mixed := by kernel_rfl
  f122 := Try.func81.trans (congrArg some (by kernel_rfl))
  f215 := Try.func87.trans (congrArg some (by kernel_rfl))
  t3 := Try.underlying3
  a3 := Try.isAgg3
  z3 := Try.sizeOf3
  v3 := Try.zeroValue3
  t4 := Try.underlying4
  a4 := Try.isAgg4
  z4 := Try.sizeOf4
  v4 := Try.zeroValue4 }
open Go.RowKit in
/-- cmp.Compare at int: "Compare returns -1 if x is less than y, 0 if x equals y, +1 if x is greater than y.": IT RETURNS 'Lib.compareInt x y'; the world is as it was. (LAID: no walk: one application.) -/
theorem Try.cmp_Compare_int (x y : Int) (w : World) :
    Calls Try.prog 81 #[.int .i64 x, .int .i64 y] w fun e w' => e = .returned (.int .i64 (Lib.compareInt x y)) ∧ w' = w := Any.cmp_Compare_int Try.lays122 x y w
def Try.lays129_ren : Go.Shelf.Ren := ⟨fun | 129 => 65 | n => n, fun | 53 => 87 | 3 => 3 | 4 => 4 | 46 => 72 | 5 => 5 | 9 => 9 | n => n, fun | n => n⟩
theorem Try.lays129 : Go.Proofs.Lays.n129 Try.prog Try.lays129_ren := {
  mixed := by kernel_rfl
  f129 := Try.func65.trans (congrArg some (by kernel_rfl))
  t3 := Try.underlying3
  a3 := Try.isAgg3
  z3 := Try.sizeOf3
  v3 := Try.zeroValue3
  t4 := Try.underlying4
  a4 := Try.isAgg4
  z4 := Try.sizeOf4
  v4 := Try.zeroValue4
  t5 := Try.underlying5
  a5 := Try.isAgg5
  z5 := Try.sizeOf5
  v5 := Try.zeroValue5
  t9 := Try.underlying9
  a9 := Try.isAgg9
  z9 := Try.sizeOf9
  v9 := Try.zeroValue9
  t46 := Try.underlying72
  a46 := Try.isAgg72
  z46 := Try.sizeOf72
  v46 := Try.zeroValue72
  t53 := Try.underlying87
  a53 := Try.isAgg87
  z53 := Try.sizeOf87
  v53 := Try.zeroValue87 }
/-- bits.Len64: "Len64 returns the minimum number of bits required to represent x; the result is 0 for x == 0.": IT RETURNS 'Lib.bitLen x'; the world is as it was. ('h0', 'h1': x is a uint64.) (LAID: no walk: one application.) -/
theorem Try.bits_Len64 (x : Int) (w : World) (h0 : 0 ≤ x) (h1 : x ≤ 18446744073709551615) :
    Calls Try.prog 65 #[.int .u64 x] w fun e w' => e = .returned (.int .i64 (Lib.bitLen x.toNat)) ∧ w' = w := Any.bits_Len64 Try.lays129 x w h0 h1
def Try.lays189_ren : Go.Shelf.Ren := ⟨fun | 189 => 68 | 125 => 52 | 257 => 83 | 128 => 64 | 129 => 65 | 294 => 88 | 295 => 89 | 296 => 90 | 297 => 91 | 298 => 92 | 299 => 93 | 216 => 94 | 300 => 95 | 301 => 96 | 328 => 105 | 329 => 72 | 330 => 73 | 331 => 106 | 332 => 107 | 215 => 87 | 343 => 111 | n => n, fun | 28 => 73 | 3 => 3 | 46 => 72 | 0 => 0 | 51 => 85 | 53 => 87 | 4 => 4 | 183 => 78 | 182 => 77 | 131 => 82 | 5 => 5 | 9 => 9 | 218 => 93 | 222 => 97 | 228 => 107 | 229 => 108 | n => n, fun | n => n⟩
theorem Try.lays189 : Go.Proofs.Lays.n189 Try.prog Try.lays189_ren := {
  mixed := by kernel_rfl
  f125 := Try.func52.trans (congrArg some (by kernel_rfl))
  f128 := Try.func64.trans (congrArg some (by kernel_rfl))
  f129 := Try.func65.trans (congrArg some (by kernel_rfl))
  f189 := Try.func68.trans (congrArg some (by kernel_rfl))
  f215 := Try.func87.trans (congrArg some (by kernel_rfl))
  f216 := Try.func94.trans (congrArg some (by kernel_rfl))
  f257 := Try.func83.trans (congrArg some (by kernel_rfl))
  f294 := Try.func88.trans (congrArg some (by kernel_rfl))
  f295 := Try.func89.trans (congrArg some (by kernel_rfl))
  f296 := Try.func90.trans (congrArg some (by kernel_rfl))
  f297 := Try.func91.trans (congrArg some (by kernel_rfl))
  f298 := Try.func92.trans (congrArg some (by kernel_rfl))
  f299 := Try.func93.trans (congrArg some (by kernel_rfl))
  f300 := Try.func95.trans (congrArg some (by kernel_rfl))
  f301 := Try.func96.trans (congrArg some (by kernel_rfl))
  f328 := Try.func105.trans (congrArg some (by kernel_rfl))
  f329 := Try.func72.trans (congrArg some (by kernel_rfl))
  f330 := Try.func73.trans (congrArg some (by kernel_rfl))
  f331 := Try.func106.trans (congrArg some (by kernel_rfl))
  f332 := Try.func107.trans (congrArg some (by kernel_rfl))
  f343 := Try.func111.trans (congrArg some (by kernel_rfl))
  t0 := Try.underlying0
  a0 := Try.isAgg0
  z0 := Try.sizeOf0
  v0 := Try.zeroValue0
  t3 := Try.underlying3
  a3 := Try.isAgg3
  z3 := Try.sizeOf3
  v3 := Try.zeroValue3
  t4 := Try.underlying4
  a4 := Try.isAgg4
  z4 := Try.sizeOf4
  v4 := Try.zeroValue4
  t5 := Try.underlying5
  a5 := Try.isAgg5
  z5 := Try.sizeOf5
  v5 := Try.zeroValue5
  t9 := Try.underlying9
  a9 := Try.isAgg9
  z9 := Try.sizeOf9
  v9 := Try.zeroValue9
  t28 := Try.underlying73
  a28 := Try.isAgg73
  z28 := Try.sizeOf73
  v28 := Try.zeroValue73
  t46 := Try.underlying72
  a46 := Try.isAgg72
  z46 := Try.sizeOf72
  v46 := Try.zeroValue72
  t51 := Try.underlying85
  a51 := Try.isAgg85
  z51 := Try.sizeOf85
  v51 := Try.zeroValue85
  t53 := Try.underlying87
  a53 := Try.isAgg87
  z53 := Try.sizeOf87
  v53 := Try.zeroValue87
  t131 := Try.underlying82
  a131 := Try.isAgg82
  z131 := Try.sizeOf82
  v131 := Try.zeroValue82
  t182 := Try.underlying77
  a182 := Try.isAgg77
  z182 := Try.sizeOf77
  v182 := Try.zeroValue77
  t183 := Try.underlying78
  a183 := Try.isAgg78
  z183 := Try.sizeOf78
  v183 := Try.zeroValue78
  t218 := Try.underlying93
  a218 := Try.isAgg93
  z218 := Try.sizeOf93
  v218 := Try.zeroValue93
  t222 := Try.underlying97
  a222 := Try.isAgg97
  z222 := Try.sizeOf97
  v222 := Try.zeroValue97
  t228 := Try.underlying107
  a228 := Try.isAgg107
  z228 := Try.sizeOf107
  v228 := Try.zeroValue107
  t229 := Try.underlying108
  a229 := Try.isAgg108
  z229 := Try.sizeOf108
  v229 := Try.zeroValue108 }
open Go.Sort Go.RowKit in
theorem Try.slices_Sort_int (blk off cap : Nat) (zs : List Int) (w : World) (hH : Holds (Value.int .i64) w blk off zs.toArray) (hblk : blk < w.heap.size) (hsz : zs.length < 4611686018427387904) :
    Calls Try.prog 68 #[.slice (some ⟨blk, off, none⟩) zs.length cap] w fun e w' =>
      e = .returned (.tuple #[]) ∧ ∃ n os, w' = grow (putRow (Value.int .i64) (Sort.ahead w n) blk off (zs.mergeSort fun x y => decide (x ≤ y)).toArray) os := Any.slices_Sort_int Try.lays189 blk off cap zs w hH hblk hsz
def Try.laysNm220_ren : Go.Shelf.Ren := ⟨fun | 20 => 69 | n => n, fun | 22 => 73 | 3 => 3 | 4 => 4 | 0 => 0 | n => n, fun | n => n⟩
theorem Try.laysNm220 : Go.Proofs.Lays2.n20 Try.prog Try.laysNm220_ren := {
  mixed := by kernel_rfl
  f20 := Try.func69.trans (congrArg some (by kernel_rfl))
  t0 := Try.underlying0
  a0 := Try.isAgg0
  z0 := Try.sizeOf0
  v0 := Try.zeroValue0
  t3 := Try.underlying3
  a3 := Try.isAgg3
  z3 := Try.sizeOf3
  v3 := Try.zeroValue3
  t4 := Try.underlying4
  a4 := Try.isAgg4
  z4 := Try.sizeOf4
  v4 := Try.zeroValue4
  t22 := Try.underlying73
  a22 := Try.isAgg73
  z22 := Try.sizeOf73
  v22 := Try.zeroValue73
  i3 := by kernel_rfl }
open Go.RowKit Go.Lib Go.Sort in
/-- slices.Compact at []int, over an array: the library's two loops are walked. (LAID: no walk: one application.) -/
theorem Try.slices_Compact_int_arr (blk off cap : Nat) (d : Array Int) (w : World) (hH : Holds encI w blk off d) (hsz : d.size ≤ 9223372036854775807) (hcap : d.size ≤ cap) :
    Calls Try.prog 69 #[.slice (some ⟨blk, off, none⟩) d.size cap] w fun e w' => e = .returned (.slice (some ⟨blk, off, none⟩) (compactUpTo d d.size).length cap) ∧ ∃ q, w' = putRow encI (Sort.ahead w q) blk off (compactUpTo d d.size ++ List.replicate (d.size - (compactUpTo d d.size).length) 0).toArray := Any.slices_Compact_int_arr Try.laysNm220 blk off cap d w hH hsz hcap
open Go.RowKit Go.Lib Go.Sort in
/-- slices.Compact at []int: "Compact replaces consecutive runs of equal elements with a single copy. This is like the uniq command found on Unix. Compact modifies the contents of the slice s and returns the modified slice, which may have a smaller length. Compact zeroes the elements between the new length and the original length. The result preserves the nilness of s.": IT RETURNS THE SLICE CUT TO 'Lib.compact zs'; ITS CELLS HOLD 'Lib.compact zs', THEN ZERO VALUES up to the old length; all else is as it was, but for the count of draws. IN THE WORDS OF slices.Sort's CONTRACT ('Holds', 'putRow'): so the everyday 'slices.Sort(xs); xs = slices.Compact(xs)' goes from the one contract to the other. It asks 'zs.length ≤ cap' (every slice's: the reslicing 's[:k]' looks at it). Length 0, nil: '.._empty'. (LAID: no walk: one application.) -/
theorem Try.slices_Compact_int (blk off cap : Nat) (zs : List Int) (w : World) (hH : Holds (Value.int .i64) w blk off zs.toArray) (hsz : zs.length ≤ 9223372036854775807) (hcap : zs.length ≤ cap) :
    Calls Try.prog 69 #[.slice (some ⟨blk, off, none⟩) zs.length cap] w fun e w' => e = .returned (.slice (some ⟨blk, off, none⟩) (Lib.compact zs).length cap) ∧ ∃ q, w' = putRow (Value.int .i64) (Sort.ahead w q) blk off (Lib.compact zs ++ List.replicate (zs.length - (Lib.compact zs).length) 0).toArray := Any.slices_Compact_int Try.laysNm220 blk off cap zs w hH hsz hcap
open Go.RowKit Go.Lib Go.Sort in
/-- The same at a slice of length 0, a nil one too: it comes back as it is. (LAID: no walk: one application.) -/
theorem Try.slices_Compact_int_empty (a : Option Addr) (cap : Nat) (w : World) :
    Calls Try.prog 69 #[.slice a 0 cap] w fun e w' => e = .returned (.slice a 0 cap) ∧ w' = w := Any.slices_Compact_int_empty Try.laysNm220 a cap w
def Try.laysNm237_ren : Go.Shelf.Ren := ⟨fun | 37 => 87 | n => n, fun | 3 => 3 | 4 => 4 | n => n, fun | n => n⟩
theorem Try.laysNm237 : Go.Proofs.Lays2.n37 Try.prog Try.laysNm237_ren := {
  mixed := by kernel_rfl
  f37 := Try.func87.trans (congrArg some (by kernel_rfl))
  t3 := Try.underlying3
  a3 := Try.isAgg3
  z3 := Try.sizeOf3
  v3 := Try.zeroValue3
  t4 := Try.underlying4
  a4 := Try.isAgg4
  z4 := Try.sizeOf4
  v4 := Try.zeroValue4 }
open Go.RowKit Go.Lib in
/-- cmp.isNaN[int]: 'x != x': false. (LAID: no walk: one application.) -/
theorem Try.cmp_isNaN_int2 (x : Int) (w : World) :
    Calls Try.prog 87 #[.int .i64 x] w fun e w' => e = .returned (.bool false) ∧ w' = w := Any.cmp_isNaN_int2 Try.laysNm237 x w
def Try.laysNm231_ren : Go.Shelf.Ren := ⟨fun | 31 => 94 | 37 => 87 | n => n, fun | 3 => 3 | 4 => 4 | n => n, fun | n => n⟩
theorem Try.laysNm231 : Go.Proofs.Lays2.n31 Try.prog Try.laysNm231_ren := {
  mixed := by kernel_rfl
  f31 := Try.func94.trans (congrArg some (by kernel_rfl))
  f37 := Try.func87.trans (congrArg some (by kernel_rfl))
  t3 := Try.underlying3
  a3 := Try.isAgg3
  z3 := Try.sizeOf3
  v3 := Try.zeroValue3
  t4 := Try.underlying4
  a4 := Try.isAgg4
  z4 := Try.sizeOf4
  v4 := Try.zeroValue4 }
open Go.RowKit Go.Lib in
/-- cmp.Less[int]: "Less reports whether x is less than y.": 'x < y'; the world is as it was. (LAID: no walk: one application.) -/
theorem Try.cmp_Less_int2 (x y : Int) (w : World) :
    Calls Try.prog 94 #[.int .i64 x, .int .i64 y] w fun e w' => e = .returned (.bool (decide (x < y))) ∧ w' = w := Any.cmp_Less_int2 Try.laysNm231 x y w
open Go.RowKit Go.Lib Go.Sort in
/-- slices.Compact at []int, of an argument: the slice cut to 'Lib.compact (elements)'; the n cells hold that, then zeros. (LAID: no walk: one application.) -/
theorem Try.slices_Compact_int_cells (b off n c : Nat) (zs : List Int) (w : World) (hz : n ≤ zs.length) (hbig : n ≤ 9223372036854775807) (hcap : n ≤ c) (hc : ∀ j, j < zs.length → w.cell? ⟨b, off + j, none⟩ = some (.int .i64 (zs.getD j 0))) (hf : ∀ j, j < n → w.frozen? ⟨b, off + j, none⟩ = false) :
    Calls Try.prog 69 #[.slice (some ⟨b, off, none⟩) n c] w fun e w' => e = .returned (.slice (some ⟨b, off, none⟩) (Lib.compact (zs.take n)).length c) ∧ ∃ q, w' = (w.drewN q).setCells b off ((Lib.compact (zs.take n) ++ List.replicate (n - (Lib.compact (zs.take n)).length) 0).map (Value.int .i64)) := Any.slices_Compact_int_cells Try.laysNm220 b off n c zs w hz hbig hcap hc hf
open Go.RowKit Go.Sort in
/-- .. and plain. (LAID: no walk: one application.) -/
theorem Try.slices_Sort_int_none (p : Option Addr) (cap : Nat) (w : World) :
    Calls Try.prog 68 #[.slice p 0 cap] w fun e w' => e = .returned (.tuple #[]) ∧ w' = w := Any.slices_Sort_int_none Try.lays189 p cap w
end Go.Proofs
end
section
set_option linter.unusedVariables false
set_option linter.unusedSimpArgs false
namespace Go.Proofs
open Go Go.Ab Go.RowKit
set_option maxHeartbeats 1000000
set_option maxRecDepth 100000
set_option linter.unusedSimpArgs false
set_option linter.unusedVariables false
def sortI (l : List Int) : List Int := l.mergeSort fun x y => decide (x ≤ y)
theorem sortI_len (l : List Int) : (sortI l).length = l.length := List.length_mergeSort _
theorem fits_ints {st : Nat → Prop} {w : World} {l : List Int} {e : TypeId} {c : Value} {xs : List Value} (h : RowFits st w (ints l) 1 e c xs) : xs = l.map (Value.int .i64) := by
  have hlen : xs.length = l.length := by rw [h.row.len, ints_len]; omega
  apply List.ext_getElem (by simpa using hlen)
  intro i h1 h2
  have hi : i < (ints l).length := by rw [ints_len]; omega
  have h3 := h.cell i 0 hi (by omega)
  rw [ints_at l i (by omega)] at h3
  simp only [av_zero, Nat.mul_one, Nat.add_zero, cv, List.getD_eq_getElem?_getD, List.getElem?_eq_getElem h1, Option.getD_some] at h3
  generalize xs[i] = q at h3 ⊢
  cases h3
  have : i < l.length := by omega
  simp [this]
theorem ints_fits {st : Nat → Prop} {w : World} {l : List Int} {e : TypeId} {c : Value} (h : RowRep w e 1 c l.length (l.map (Value.int .i64))) : RowFits st w (ints l) 1 e c (l.map (Value.int .i64)) := by
  refine ⟨by simp [ints], by omega, by rw [ints_len]; exact h, by simp [Value.oneCell'], fun i j hi hj => ?_⟩
  rw [ints_len] at hi
  obtain rfl : j = 0 := by omega
  rw [ints_at l i hi]
  have e1 : cv (l.map (Value.int .i64)) (i * 1 + 0) = .int .i64 (l.getD i 0) := by
    simp [cv, List.getD_eq_getElem?_getD, hi]
  rw [e1]
  exact .v _
theorem sort_cc (l : List Int) (b nm : Nat) (e : TypeId) (hl : l.length < 1000000) : CallC Try.prog 68 [.own b] [(b, .row (ints l) 1 e)] nm (.tup []) [(b, some (.row (ints (sortI l)) 1 e))] := by
  refine ⟨⟨_, Try.func68, by kernel_rfl, by kernel_rfl⟩, fun prov β w cs hn hb hi hv => ?_⟩
  have hlk : ∀ n, updL (listH [(b, Blk.row (ints l) 1 e)]) [(b, some (Blk.row (ints (sortI l)) 1 e))] n = if n = b then some (.row (ints (sortI l)) 1 e) else none := by
    intro n; simp only [updL, upd, listH]; split <;> simp
  have hB := hb b (.row (ints l) 1 e) (by simp [listH])
  obtain ⟨xs, hf⟩ := hB
  obtain rfl := fits_ints hf
  obtain ⟨hlen, hv⟩ := hv
  match cs, hlen with
  | [c], _ =>
  have h1 := hv 0 (by simp)
  simp only [av_zero, cv, List.getD_cons_zero] at h1
  obtain ⟨rfl, _⟩ := h1.own_inv
  have tail : ∀ w', Value.tuple #[] = Value.tuple #[] → w.grownBy w' (blkOf (β b)) → RowRep w' e 1 (β b) (sortI l).length ((sortI l).map (Value.int .i64)) →
      ∃ c β', Ending.returned (Value.tuple #[]) = .returned c ∧ w'.os = w.os ∧ w'.tape = w.tape ∧ w'.output = w.output ∧ w.heap.size ≤ w'.heap.size ∧ Grows β β' ∧ (∀ n, n ≠ nm → β' n = β n) ∧
      (∀ g, g < w.heap.size → (∀ n b', listH [(b, Blk.row (ints l) 1 e)] n = some b' → n ∈ [(b, some (Blk.row (ints (sortI l)) 1 e))].map (·.1) → blkOf (β n) ≠ some g) → w'.heap[g]? = w.heap[g]?) ∧
      SimV (stb (fun g => prov g ∨ w.heap.size ≤ g) w' β' (updL (listH [(b, Blk.row (ints l) 1 e)]) [(b, some (Blk.row (ints (sortI l)) 1 e))])) β' w' (.tup []) c ∧
      (∀ n b', updL (listH [(b, Blk.row (ints l) 1 e)]) [(b, some (Blk.row (ints (sortI l)) 1 e))] n = some b' → n ∈ [(b, some (Blk.row (ints (sortI l)) 1 e))].map (·.1) → BlkRep (stb (fun g => prov g ∨ w.heap.size ≤ g) w' β' (updL (listH [(b, Blk.row (ints l) 1 e)]) [(b, some (Blk.row (ints (sortI l)) 1 e))])) β' w' b' (β' n) ∧
        ∀ g, blkOf (β' n) = some g → w.heap.size ≤ g ∨ ∃ m b', listH [(b, Blk.row (ints l) 1 e)] m = some b' ∧ m ∈ [(b, some (Blk.row (ints (sortI l)) 1 e))].map (·.1) ∧ blkOf (β m) = some g) ∧
      Inj β' (updL (listH [(b, Blk.row (ints l) 1 e)]) [(b, some (Blk.row (ints (sortI l)) 1 e))]) := by
    intro w' _ hg hr
    refine ⟨_, β, rfl, hg.os, hg.tape, hg.output, hg.size, Grows.refl _, fun _ _ => rfl, fun g hgl hno => ?_, .pure (.tup [] [] rfl (fun j hj => by simp at hj)), fun n b' hb' _ => ?_, ?_⟩
    · exact hg.block g hgl (fun e' => hno b (.row (ints l) 1 e) (by simp [listH]) (by simp) e'.symm)
    · rw [hlk] at hb'
      split at hb'
      · rename_i hnb; subst hnb
        simp at hb'; subst hb'
        exact ⟨⟨_, ints_fits hr⟩, fun g hgb => .inr ⟨n, .row (ints l) 1 e, by simp [listH], by simp, hgb⟩⟩
      · cases hb'
    · intro n m b1 b2 g h1 h2 _ _
      rw [hlk] at h1 h2
      split at h1
      · split at h2
        · simp_all
        · cases h2
      · cases h1
  rcases hf.row with ⟨a, hc, h0, hx⟩ | ⟨g, cap, hc, h0, hrow⟩
  · have hnil : l = [] := by rw [ints_len] at h0; exact List.eq_nil_of_length_eq_zero h0
    subst hnil
    rw [hc]
    refine (Try.slices_Sort_int_none a 0 w).mono fun e' w' ⟨he, hw⟩ => ?_
    subst he; subst hw
    have := tail w' rfl ⟨rfl, rfl, rfl, Nat.le_refl _, fun _ _ _ => rfl⟩ (.inl ⟨a, hc, by simp [sortI], by simp [sortI]⟩)
    exact this
  · rcases hrow.2 with ⟨h', _⟩ | ⟨g', cap', cur, h', _, hg, hn1, hn2, hn3, hn4⟩
    · rw [hc] at h'; cases h'
    · rw [hc] at h'
      simp only [Value.slice.injEq, Option.some.injEq, Addr.mk.injEq, and_true, true_and] at h'
      obtain ⟨rfl, rfl⟩ := h'
      rw [ints_len] at hn1 hn4 hc
      rw [Nat.mul_one] at hn4
      rw [hc]
      have hlt : g < w.heap.size := (Array.getElem?_eq_some_iff.1 hg).1
      refine (Try.slices_Sort_int g 0 cap l w (holds_of_blockI hg hn4) hlt (by omega)).mono fun e' w' ⟨he, n, os, hw⟩ => ?_
      subst he; subst hw
      refine tail _ rfl ?_ ?_
      · have : blkOf (β b) = some g := by rw [hc]; simp [blkOf]; omega
        rw [this]
        exact grownBy_sortedI _
      · refine .inr ⟨g, cap, by rw [hc, sortI_len], h0, ?_⟩
        have := ownsRow_sortedI (w := w) (base := 0) (g := g) (cap := cap) (n := n) (e := e) (os := os) (cur := cur) (ss := l) (ts := sortI l) (sortI_len l) (Nat.zero_le _) hg hn1 hn2 hn3
        rw [hc, sortI_len]
        exact this
end Go.Proofs
end
section
set_option linter.unusedVariables false
set_option linter.unusedSimpArgs false
namespace Go.Proofs
open Go Go.Ab Go.RowKit
set_option maxHeartbeats 1000000
theorem compact_len (l : List Int) : (Lib.compact l).length ≤ l.length := by
  unfold Lib.compact Lib.compactUpTo
  rw [List.length_map]
  exact Nat.le_trans (List.length_filter_le _ _) (by simp)
theorem compact_cc (l : List Int) (b nm : Nat) (e : TypeId) (hnb : nm ≠ b) (hl : l.length < 1000000) : CallC Try.prog 69 [.own b] [(b, .row (ints l) 1 e)] nm (.own nm) [(b, none), (nm, some (.row (ints (Lib.compact l)) 1 e))] := by
  refine ⟨⟨_, Try.func69, by kernel_rfl, by kernel_rfl⟩, fun prov β w cs hn hb hi hv => ?_⟩
  have hlk : ∀ n, updL (listH [(b, Blk.row (ints l) 1 e)]) [(b, none), (nm, some (Blk.row (ints (Lib.compact l)) 1 e))] n = if n = nm then some (.row (ints (Lib.compact l)) 1 e) else none := by
    intro n; simp only [updL, upd, listH]; split
    · rfl
    · split <;> rfl
  have hB := hb b (.row (ints l) 1 e) (by simp [listH])
  obtain ⟨xs, hf⟩ := hB
  obtain rfl := fits_ints hf
  obtain ⟨hlen, hv⟩ := hv
  match cs, hlen with
  | [c], _ =>
  have h1 := hv 0 (by simp)
  simp only [av_zero, cv, List.getD_cons_zero] at h1
  obtain ⟨rfl, _⟩ := h1.own_inv
  have hgr : ∀ c', Grows β (upd β nm c') := fun c' k hk => by
    unfold upd; split
    · rename_i h; subst h; exact absurd hn hk
    · rfl
  have tail : ∀ w' c', (∃ a n cap, c' = .slice a n cap) → w.grownBy w' (blkOf (β b)) → RowRep w' e 1 c' (Lib.compact l).length ((Lib.compact l).map (Value.int .i64)) → (∀ g, blkOf c' = some g → blkOf (β b) = some g) →
      ∃ c β', Ending.returned c' = .returned c ∧ w'.os = w.os ∧ w'.tape = w.tape ∧ w'.output = w.output ∧ w.heap.size ≤ w'.heap.size ∧ Grows β β' ∧ (∀ n, n ≠ nm → β' n = β n) ∧
      (∀ g, g < w.heap.size → (∀ n b', listH [(b, Blk.row (ints l) 1 e)] n = some b' → n ∈ [(b, none), (nm, some (Blk.row (ints (Lib.compact l)) 1 e))].map (·.1) → blkOf (β n) ≠ some g) → w'.heap[g]? = w.heap[g]?) ∧
      SimV (stb (fun g => prov g ∨ w.heap.size ≤ g) w' β' (updL (listH [(b, Blk.row (ints l) 1 e)]) [(b, none), (nm, some (Blk.row (ints (Lib.compact l)) 1 e))])) β' w' (.own nm) c ∧
      (∀ n b', updL (listH [(b, Blk.row (ints l) 1 e)]) [(b, none), (nm, some (Blk.row (ints (Lib.compact l)) 1 e))] n = some b' → n ∈ [(b, none), (nm, some (Blk.row (ints (Lib.compact l)) 1 e))].map (·.1) → BlkRep (stb (fun g => prov g ∨ w.heap.size ≤ g) w' β' (updL (listH [(b, Blk.row (ints l) 1 e)]) [(b, none), (nm, some (Blk.row (ints (Lib.compact l)) 1 e))])) β' w' b' (β' n) ∧
        ∀ g, blkOf (β' n) = some g → w.heap.size ≤ g ∨ ∃ m b', listH [(b, Blk.row (ints l) 1 e)] m = some b' ∧ m ∈ [(b, none), (nm, some (Blk.row (ints (Lib.compact l)) 1 e))].map (·.1) ∧ blkOf (β m) = some g) ∧
      Inj β' (updL (listH [(b, Blk.row (ints l) 1 e)]) [(b, none), (nm, some (Blk.row (ints (Lib.compact l)) 1 e))]) := by
    intro w' c' ⟨a, n0, cap, hc'⟩ hg hr hbk
    refine ⟨_, upd β nm c', rfl, hg.os, hg.tape, hg.output, hg.size, hgr c', fun n hne => by simp [upd, hne], fun g hgl hno => ?_, ?_, fun n b' hb' _ => ?_, ?_⟩
    · exact hg.block g hgl (fun e' => hno b (.row (ints l) 1 e) (by simp [listH]) (by simp) e'.symm)
    · subst hc'; exact .own nm (by simp [upd])
    · rw [hlk] at hb'
      split at hb'
      · rename_i hnn; subst hnn
        simp at hb'; subst hb'
        have hu : upd β n c' n = c' := by simp [upd]
        rw [hu]
        exact ⟨⟨_, ints_fits hr⟩, fun g hgb => .inr ⟨b, .row (ints l) 1 e, by simp [listH], by simp, hbk g hgb⟩⟩
      · cases hb'
    · intro n m b1 b2 g h1 h2 _ _
      rw [hlk] at h1 h2
      split at h1
      · split at h2
        · simp_all
        · cases h2
      · cases h1
  rcases hf.row with ⟨a, hc, h0, hx⟩ | ⟨g, cap, hc, h0, hrow⟩
  · have hnil : l = [] := by rw [ints_len] at h0; exact List.eq_nil_of_length_eq_zero h0
    subst hnil
    rw [hc]
    refine (Try.slices_Compact_int_empty a 0 w).mono fun e' w' ⟨he, hw⟩ => ?_
    subst he; subst hw
    exact tail w' _ ⟨_, _, _, rfl⟩ ⟨rfl, rfl, rfl, Nat.le_refl _, fun _ _ _ => rfl⟩ (.inl ⟨a, rfl, rfl, rfl⟩) (fun g hg => by rw [hc]; exact hg)
  · rcases hrow.2 with ⟨h', _⟩ | ⟨g', cap', cur, h', _, hg, hn1, hn2, hn3, hn4⟩
    · rw [hc] at h'; cases h'
    · rw [hc] at h'
      simp only [Value.slice.injEq, Option.some.injEq, Addr.mk.injEq, and_true, true_and] at h'
      obtain ⟨rfl, rfl⟩ := h'
      rw [ints_len] at hn1 hn4 hc
      rw [Nat.mul_one] at hn4
      rw [hc]
      have hcl : (Lib.compact l).length ≤ l.length := compact_len l
      refine (Try.slices_Compact_int g 0 cap l w (holds_of_blockI hg hn4) (by omega) hn1).mono fun e' w' ⟨he, q, hw⟩ => ?_
      subst he
      have hw2 : w' = Sort.grow (Sort.putRow (Value.int .i64) (Sort.ahead w q) g 0 (Lib.compact l ++ List.replicate (l.length - (Lib.compact l).length) 0).toArray) #[] := by rw [hw, Sort.grow_empty]
      subst hw2
      have hbk : blkOf (β b) = some g := by rw [hc]; simp [blkOf]; omega
      refine tail _ _ ⟨_, _, _, rfl⟩ (by rw [hbk]; exact grownBy_sortedI _) (.inr ⟨g, cap, rfl, h0, by simp, .inr ⟨g, cap, _, rfl, Nat.zero_le _, heap_sortedI _ hg, by omega, hn2, by simp [Sort.putCells, hn3], ?_⟩⟩) (fun g' hg' => ?_)
      · rw [Nat.mul_one]
        have ht := take_putCellsI cur (Lib.compact l ++ List.replicate (l.length - (Lib.compact l).length) 0) (by simp; omega)
        have ht2 := congrArg (List.take (Lib.compact l).length) ht
        rw [List.take_take, Nat.min_eq_left (by simp)] at ht2
        rw [ht2, List.map_append]
        exact List.take_left' (by simp)
      · rw [hbk]
        simp only [blkOf] at hg'
        split at hg'
        · cases hg'
        · exact hg'
end Go.Proofs
end
section
set_option linter.unusedVariables false
set_option linter.unusedSimpArgs false
namespace Go.Ab

def bitsOf (acc : List Nat) : List Nat → Nat
  | [] => 0
  | j :: r => 2 ^ j ||| acc.getD j 0 ||| bitsOf acc r
def masks : List (List Nat) → List Nat → List Nat
  | [], acc => acc
  | d :: r, acc => masks r (acc ++ [bitsOf acc d])
def chk (e : Ent) (m : Nat) : List Ent → Nat → Bool
  | [], _ => true
  | x :: r, j => (m.testBit j || freeE x e) && chk e m r (j + 1)
def chkAll : List Ent → List Ent → List Nat → Bool
  | _, [], _ => true
  | pre, e :: r, m :: ms => chk e m pre 0 && chkAll (pre ++ [e]) r ms
  | _, _ :: _, [] => false
def drawOk' (deps : List (List Nat)) (es : List Ent) : Bool := depsLow deps 0 && chkAll [] es (masks deps [])

theorem bitsOf_spec {acc : List Nat} {accL : List (List Nat)} (h : ∀ i j, (acc.getD i 0).testBit j = true → j ∈ accL.getD i []) : ∀ (d : List Nat) (j : Nat), (bitsOf acc d).testBit j = true → j ∈ d ++ d.flatMap fun k => accL.getD k []
  | [], j, hj => by simp [bitsOf] at hj
  | k :: r, j, hj => by
    simp only [bitsOf, Nat.testBit_or, Bool.or_eq_true] at hj
    simp only [List.mem_append, List.mem_cons, List.flatMap_cons]
    rcases hj with (hj | hj) | hj
    · rw [Nat.testBit_two_pow] at hj
      exact .inl (.inl (by simpa using (of_decide_eq_true hj).symm))
    · exact .inr (.inl (h k j hj))
    · rcases List.mem_append.1 (bitsOf_spec h r j hj) with h1 | h1
      · exact .inl (.inr h1)
      · exact .inr (.inr h1)

theorem masks_spec : ∀ (deps : List (List Nat)) (acc : List Nat) (accL : List (List Nat)), acc.length = accL.length → (∀ i j, (acc.getD i 0).testBit j = true → j ∈ accL.getD i []) →
    ∀ i j, ((masks deps acc).getD i 0).testBit j = true → j ∈ (befs deps accL).getD i []
  | [], _, _, _, h => h
  | d :: r, acc, accL, hl, h => by
    refine masks_spec r _ _ (by simp [hl]) fun i j hj => ?_
    simp only [List.getD_eq_getElem?_getD] at hj ⊢
    by_cases hi : i < acc.length
    · rw [List.getElem?_append_left hi] at hj
      rw [List.getElem?_append_left (by omega)]
      have := h i j (by simpa [List.getD_eq_getElem?_getD] using hj)
      simpa [List.getD_eq_getElem?_getD] using this
    · by_cases e : i = acc.length
      · subst e
        simp only [List.getElem?_append_right (Nat.le_refl _), Nat.sub_self, List.getElem?_cons_zero, Option.getD_some] at hj
        rw [hl, List.getElem?_append_right (Nat.le_refl _)]
        simp only [Nat.sub_self, List.getElem?_cons_zero, Option.getD_some]
        have := bitsOf_spec h d j hj
        simpa [List.getD_eq_getElem?_getD] using this
      · rw [List.getElem?_eq_none (by simp; omega)] at hj
        simp at hj

theorem chk_spec {e : Ent} {m : Nat} : ∀ (pre : List Ent) (o : Nat), chk e m pre o = true → ∀ j, j < pre.length → (m.testBit (o + j) || freeE (pre.getD j default) e) = true
  | x :: r, o, h, j, hj => by
    simp only [chk, Bool.and_eq_true] at h
    match j with
    | 0 => exact h.1
    | j + 1 =>
      have := chk_spec r (o + 1) h.2 j (by simpa using hj)
      rwa [show o + 1 + j = o + (j + 1) by omega] at this

theorem chkAll_spec : ∀ (es pre : List Ent) (ms : List Nat), chkAll pre es ms = true → ∀ i, i < es.length → ∀ j, j < pre.length + i →
    ((ms.getD i 0).testBit j || freeE ((pre ++ es).getD j default) (es.getD i default)) = true
  | e :: r, pre, m :: ms, h, i, hi, j, hj => by
    simp only [chkAll, Bool.and_eq_true] at h
    match i with
    | 0 =>
      have := chk_spec pre 0 h.1 j (by omega)
      rw [Nat.zero_add] at this
      have e1 : (pre ++ e :: r).getD j default = pre.getD j default := by
        simp only [List.getD_eq_getElem?_getD]; rw [List.getElem?_append_left (by omega)]
      rw [e1]
      exact this
    | i + 1 =>
      have := chkAll_spec r (pre ++ [e]) ms h.2 i (by simpa using hi) j (by simp; omega)
      rw [List.append_assoc] at this
      exact this
  | _ :: _, _, [], h, _, _, _, _ => by simp [chkAll] at h

theorem drawOk_of {deps : List (List Nat)} {es : List Ent} (h : drawOk' deps es = true) : drawOk deps es = true := by
  simp only [drawOk', Bool.and_eq_true] at h
  simp only [drawOk, Bool.and_eq_true, List.all_eq_true, List.mem_range]
  refine ⟨h.1, fun i hi j hj => ?_⟩
  have h1 := chkAll_spec es [] _ h.2 i hi j (by simpa using hj)
  rw [List.nil_append] at h1
  rcases Bool.or_eq_true_iff.1 h1 with h2 | h2
  · have := masks_spec deps [] [] rfl (fun i j h => by simp at h) i j h2
    rw [Bool.or_eq_true]
    exact .inl (by simpa using this)
  · rw [Bool.or_eq_true]; exact .inr h2
end Go.Ab
end
section
set_option linter.unusedVariables false
set_option linter.unusedSimpArgs false
namespace Go.Ab

inductive CView (ns : List Nat) (ρ : Nat → Nat) : AV → AV → Prop
  | low {x y} (h : Lower (fun _ => none) x y) : CView ns ρ x y
  | agg {cs cs'} (hl : cs.length = cs'.length) (hr : ∀ j, j < cs.length → CView ns ρ (av cs j) (av cs' j)) : CView ns ρ (.agg cs) (.agg cs')
  | tup {cs cs'} (hl : cs.length = cs'.length) (hr : ∀ j, j < cs.length → CView ns ρ (av cs j) (av cs' j)) : CView ns ρ (.tup cs) (.tup cs')
  | fn {f cs cs'} (hl : cs.length = cs'.length) (hr : ∀ j, j < cs.length → CView ns ρ (av cs j) (av cs' j)) : CView ns ρ (.fn f cs) (.fn f cs')
  | own {b n} (hb : ρ n = b) (hn : n ∈ ns) : CView ns ρ (.own b) (.own n)
  | pre {b n k} (hb : ρ n = b) (hn : n ∈ ns) : CView ns ρ (.pre b k) (.pre n k)
  | bp {b n o} (hb : ρ n = b) (hn : n ∈ ns) : CView ns ρ (.bp b o) (.bp n o)
  | ep {b n sz i o} (hb : ρ n = b) (hn : n ∈ ns) : CView ns ρ (.ep b sz i o) (.ep n sz i o)
  | mapv {b n} (hb : ρ n = b) (hn : n ∈ ns) : CView ns ρ (.mapv b) (.mapv n)

inductive CBView (ns : List Nat) (ρ : Nat → Nat) : Blk → Blk → Prop
  | box {cs cs'} (hl : cs.length = cs'.length) (hr : ∀ j, j < cs.length → CView ns ρ (av cs j) (av cs' j)) : CBView ns ρ (.box cs) (.box cs')
  | row {es es' sz e} (h : es = es') : CBView ns ρ (.row es sz e) (.row es' sz e)
  | iter (s pos) : CBView ns ρ (.iter s pos) (.iter s pos)
  | map {ks vs ks' vs'} (h : ks = ks') (h' : vs = vs') : CBView ns ρ (.map ks vs) (.map ks' vs')

theorem CView.sound {st st' : Nat → Prop} {β β' : Nat → Value} {w : World} {ns : List Nat} {ρ : Nat → Nat} (hst : ∀ g, st g → st' g) (hn : ∀ n, n ∈ ns → β' n = β (ρ n)) {x y : AV}
    (p : CView ns ρ x y) : ∀ {c}, SimV st β w x c → SimV st' β' w y c := by
  induction p with
  | low h => exact fun s => .pure (h.sound (β := β) (st := st) (fun n b hb => by simp at hb) hst (fun n b g hb => by simp at hb) s)
  | agg hlen hr ih =>
    intro c s
    obtain ⟨xs, rfl, h1, h2, h3⟩ := s.agg_inv
    exact .agg _ xs (by omega) h2 fun j hj => ih j (by omega) (h3 j (by omega))
  | tup hlen hr ih =>
    intro c s
    obtain ⟨xs, rfl, h1, h3⟩ := s.tup_inv
    exact .tup _ xs (by omega) fun j hj => ih j (by omega) (h3 j (by omega))
  | fn hlen hr ih =>
    intro c s
    obtain ⟨xs, rfl, h1, h3⟩ := s.fn_inv
    exact .fn _ _ xs (by omega) fun j hj => ih j (by omega) (h3 j (by omega))
  | @own b n hbn hm =>
    intro c s
    obtain ⟨h1, a, m, cap, rfl⟩ := s.own_inv
    exact .own n (by rw [hn n hm, hbn]; exact h1.symm)
  | @pre b n k hbn hm =>
    intro c s
    obtain ⟨a, m, cap, cap', h1, rfl, h2, h3⟩ := s.pre_inv
    exact .pre n k (by rw [hn n hm, hbn]; exact h1) h2 h3
  | @bp b n o hbn hm =>
    intro c s
    obtain ⟨g, h1, rfl⟩ := s.bp_inv
    exact .bp n o (by rw [hn n hm, hbn]; exact h1)
  | @ep b n sz i o hbn hm =>
    intro c s
    obtain ⟨g, m, cap, h1, rfl⟩ := s.ep_inv
    exact .ep n sz i o (by rw [hn n hm, hbn]; exact h1)
  | @mapv b n hbn hm =>
    intro c s
    obtain ⟨g, h1, rfl⟩ := s.mapv_inv
    exact .mapv n (by rw [hn n hm, hbn]; exact h1)

theorem CBView.sound {st st' : Nat → Prop} {β β' : Nat → Value} {w : World} {ns : List Nat} {ρ : Nat → Nat} (hst : ∀ g, st g → st' g) (hn : ∀ n, n ∈ ns → β' n = β (ρ n)) {x y : Blk}
    (p : CBView ns ρ x y) {c : Value} (s : BlkRep st β w x c) : BlkRep st' β' w y c := by
  cases p with
  | box hl hv =>
    obtain ⟨g, ty, xs, f1, f2, f3, f4, f5⟩ := s
    exact ⟨g, ty, xs, f1, f2, by omega, f4, fun j hj => (hv j (by omega)).sound hst hn (f5 j (by omega))⟩
  | row e =>
    subst e
    obtain ⟨xs, f1, f2, f3, f4, f5⟩ := s
    exact ⟨xs, f1, f2, f3, f4, fun i j hi hj => (f5 i j hi hj).mono fun g hg => ⟨hst g hg, rfl⟩⟩
  | iter q p => exact s
  | map e e' =>
    subst e; subst e'
    obtain ⟨g, f, f1, f2, f3, f4⟩ := s
    exact ⟨g, f, f1, f2, f3, fun i hi => (f4 i hi).mono fun g hg => ⟨hst g hg, rfl⟩⟩

def rn (nm m k : Nat) : Nat := if k = nm then m else k

theorem updL_none {α : Type} {f : Nat → Option α} : ∀ {u : List (Nat × Option α)} {k : Nat} {b : α}, updL f u k = some b → (∃ b', f k = some b') ∨ k ∈ u.map (·.1)
  | [], _, b, h => .inl ⟨b, h⟩
  | (i, x) :: u, k, b, h => by
    rcases updL_none (u := u) h with ⟨b', hb⟩ | h'
    · by_cases e : k = i
      · exact .inr (by simp [e])
      · simp only [upd, if_neg e] at hb; exact .inl ⟨b', hb⟩
    · exact .inr (by simp [h'])

theorem BlkRep.ne {st : Nat → Prop} {β : Nat → Value} {w : World} {b : Blk} {c : Value} (h : BlkRep st β w b c) : c ≠ undef := by
  cases b with
  | box cs => obtain ⟨g, ty, xs, rfl, _⟩ := h; simp [undef]
  | row es sz e =>
    obtain ⟨xs, _, _, hr, _⟩ := h
    rcases hr with ⟨a, rfl, _⟩ | ⟨g', cap, rfl, _⟩ <;> simp [undef]
  | iter s pos => obtain ⟨g, rfl, _⟩ := h; simp [undef]
  | rowX es sz e =>
    obtain ⟨xs, _, _, hr, _⟩ := h
    rcases hr with ⟨a, rfl, _⟩ | ⟨g', cap, rfl, _⟩ <;> simp [undef]
  | map ks vs => obtain ⟨g, f, rfl, _⟩ := h; simp [undef]

variable {P : Program} {f : FuncId} {fn : Func} {ac : ACode} {n : Nat} {rs : List ResultVar} {args : List AV}

theorem fn_cc (F : FnFacts P f fn ac n rs) (hn : args.length ≤ n) {hl : List (Nat × Blk)} {ups : Upd} {nm bs : Nat} {r : AV} (hlb : ∀ p ∈ hl, p.1 < bs) (hnm : nm ∉ hl.map (·.1))
    (hu : ∀ p ∈ ups, p.1 = nm ∨ p.1 ∈ hl.map (·.1)) (hall : ∀ p ∈ hl, p.1 ∈ ups.map (·.1)) (hbx : ∀ p ∈ hl, CBView (hl.map (·.1)) id p.2 p.2) (ha : ∀ j, j < args.length → CView (hl.map (·.1)) id (av args j) (av args j))
    (h : Awp P n bs ac bs ⟨fun t => av args t, listH hl⟩ fun e _ S => (e = .normal ∨ e = .ret) ∧ resSide P S rs ∧ ∃ m, bs ≤ m ∧
      CView (nm :: hl.map (·.1)) (rn nm m) (resV (resVals P S rs)) r ∧ ∀ k b', updL (listH hl) ups k = some b' → ∃ blk, S.h (rn nm m k) = some blk ∧ CBView (nm :: hl.map (·.1)) (rn nm m) blk b') :
    CallC P f args hl nm r ups := by
  obtain ⟨code, hbody, hcomp⟩ := F.code
  refine ⟨F.callable, fun prov β w cs hβ hb hinj hv => ?_⟩
  refine calls_of_wp F.at_ hbody ?_
  rw [F.nt]
  have hmem : ∀ k b, listH hl k = some b → k ∈ hl.map (·.1) := fun k b hk => List.mem_map.2 ⟨_, listH_mem hk, rfl⟩
  have hmem' : ∀ k, k ∈ hl.map (·.1) → k < bs := fun k hk => by obtain ⟨p, hp, rfl⟩ := List.mem_map.1 hk; exact hlb p hp
  have hdef : ∀ k, k ∈ hl.map (·.1) → β k ≠ undef := fun k hk => by
    have : ∃ b, listH hl k = some b := by
      clear hb hinj hv h ha hbx hall hu hnm hlb hmem hmem'
      induction hl with
      | nil => simp at hk
      | cons p hl ih =>
        simp only [listH]
        by_cases e : k = p.1
        · exact ⟨p.2, by rw [if_pos e]⟩
        · rw [if_neg e]; exact ih (by simpa [e] using hk)
    obtain ⟨b, hkb⟩ := this
    exact (hb k b hkb).ne
  let β0 : Nat → Value := fun k => if k ∈ hl.map (·.1) then β k else undef
  have β0_at : ∀ k, k ∈ hl.map (·.1) → β0 k = β k := fun k hk => if_pos hk
  let E : Entry := { w0 := w, β0 := β0, prov := prov, may := fun g => ∃ k b, listH hl k = some b ∧ blkOf (β k) = some g, n := n }
  have hfit : E.fits bs := ⟨fun k hk => if_neg fun h' => by have := hmem' k h'; omega, fun h0 g ⟨k, b, hk, _⟩ => by have := hmem' k (hmem k b hk); omega⟩
  have hst0 : ∀ g, stb prov w β (listH hl) g → E.st w β0 (listH hl) g := fun g ⟨h1, h2, h3⟩ => ⟨h1, .inl h2, fun k b hk => by rw [β0_at k (hmem k b hk)]; exact h3 k b hk⟩
  have s0 : Sim E (fun k => bs ≤ k) ⟨fun t => av args t, listH hl⟩ β0 { tmps := cs.toArray ++ Array.replicate (n - cs.toArray.size) undef, defers := [] } w := by
    refine ⟨fun t => ?_, ?_, rfl, fun k b hk => ?_, fun k m b b' g hk hm hg hg' => ?_, fun k hk => hfit.1 k hk, fun k b g hk hg => .inl ⟨k, b, hk, ?_⟩, rfl, rfl, rfl, Nat.le_refl _, fun _ _ _ => rfl, fun _ _ => rfl⟩
    · by_cases ht : t < args.length
      · have h1 := hv.2 t ht
        have e : (cs.toArray ++ Array.replicate (n - cs.toArray.size) undef).getD t undef = cv cs t := by
          have hl : t < cs.length := by rw [← hv.1]; exact ht
          rw [Array.getD_eq_getD_getElem?, Array.getElem?_append_left (by simpa using hl)]
          simp [cv, List.getD_eq_getElem?_getD]
        show SimV _ _ _ _ ((cs.toArray ++ Array.replicate (n - cs.toArray.size) undef).getD t undef)
        rw [e]
        exact (ha t ht).sound hst0 (fun k hk => β0_at k hk) h1
      · have : av args t = .any := by simp [av, List.getD_eq_getElem?_getD, Nat.le_of_not_lt ht]
        show SimV _ _ _ (av args t) _
        rw [this]
        exact .pure (.any _)
    · have := hv.1
      simp
      show _ = n
      omega
    · have h1 := hb k b hk
      rw [β0_at k (hmem k b hk)]
      exact (hbx _ (listH_mem hk)).sound hst0 (fun k hk => β0_at k hk) h1
    · change blkOf (β0 k) = some g at hg
      change blkOf (β0 m) = some g at hg'
      rw [β0_at k (hmem k b hk)] at hg
      rw [β0_at m (hmem m b' hm)] at hg'
      exact hinj k m b b' g hk hm hg hg'
    · rw [β0_at k (hmem k b hk)] at hg; exact hg
  refine h code hcomp F.ok F.mixed E _ _ w rfl hfit s0 _ fun e nx S βs a w' ⟨he, hs, m, hm, hrv, hbs⟩ s => ?_
  obtain ⟨c, hc, hv'⟩ := results_run (f := fn) s (by rw [F.rseq]; exact F.res) (by rw [F.rseq]; exact hs)
  rw [F.rseq] at hv'
  let β2 : Nat → Value := fun k => if k = nm then βs m else β k
  have hag : ∀ k, k ∈ nm :: hl.map (·.1) → β2 k = βs (rn nm m k) := by
    intro k hk
    by_cases e : k = nm
    · simp only [β2, rn, if_pos e]
    · have hk' : k ∈ hl.map (·.1) := by simpa [e] using hk
      simp only [β2, rn, if_neg e]
      have := s.grow k (by show β0 k ≠ undef; rw [β0_at k hk']; exact hdef k hk')
      rw [this]
      exact (β0_at k hk').symm
  have hdom : ∀ k b, updL (listH hl) ups k = some b → k ∈ nm :: hl.map (·.1) := by
    intro k b hk
    rcases updL_none hk with ⟨b', hb'⟩ | h'
    · exact List.mem_cons.2 (.inr (hmem k b' hb'))
    · obtain ⟨p, hp, rfl⟩ := List.mem_map.1 h'
      rcases hu p hp with e | e
      · exact List.mem_cons.2 (.inl e)
      · exact List.mem_cons.2 (.inr e)
  have hst2 : ∀ g, E.st w' βs S.h g → stb (fun g => prov g ∨ w.heap.size ≤ g) w' β2 (updL (listH hl) ups) g := by
    intro g ⟨h1, h2, h3⟩
    refine ⟨h1, h2, fun k b hk => ?_⟩
    obtain ⟨blk, hblk, _⟩ := hbs k b hk
    rw [hag k (hdom k b hk)]
    exact h3 _ _ hblk
  have fin : a.defers = [] ∧ ∃ v, (results fn a.tmps).run P w' = .ok v w' ∧ ∃ c β', Ending.returned v = .returned c ∧ w'.os = w.os ∧ w'.tape = w.tape ∧ w'.output = w.output ∧ w.heap.size ≤ w'.heap.size ∧ Grows β β' ∧ (∀ n, n ≠ nm → β' n = β n) ∧
      (∀ g, g < w.heap.size → (∀ n b, listH hl n = some b → n ∈ ups.map (·.1) → blkOf (β n) ≠ some g) → w'.heap[g]? = w.heap[g]?) ∧
      SimV (stb (fun g => prov g ∨ w.heap.size ≤ g) w' β' (updL (listH hl) ups)) β' w' r c ∧
      (∀ n b, updL (listH hl) ups n = some b → n ∈ ups.map (·.1) → BlkRep (stb (fun g => prov g ∨ w.heap.size ≤ g) w' β' (updL (listH hl) ups)) β' w' b (β' n) ∧
        ∀ g, blkOf (β' n) = some g → w.heap.size ≤ g ∨ ∃ m b', listH hl m = some b' ∧ m ∈ ups.map (·.1) ∧ blkOf (β m) = some g) ∧
      Inj β' (updL (listH hl) ups) := by
    refine ⟨s.df, c, hc, c, β2, rfl, s.os, s.tape, s.out, s.size, fun k hk => ?_, fun k hk => if_neg hk, fun g hg hno => s.keep g hg fun ⟨k, b, hk, hg'⟩ => ?_, hrv.sound hst2 hag hv', fun k b hk hku => ?_, fun k k' b b' g hk hk' hg hg' => ?_⟩
    · by_cases e : k = nm
      · subst e; exact absurd hβ hk
      · simp only [β2, if_neg e]
    · obtain ⟨p, hp, e⟩ := List.mem_map.1 (hmem k b hk)
      exact hno k b hk (e ▸ hall p hp) hg'
    · obtain ⟨blk, hblk, hv2⟩ := hbs k b hk
      rw [hag k (hdom k b hk)]
      refine ⟨hv2.sound hst2 hag (s.bl _ _ hblk), fun g hg => ?_⟩
      rcases s.mine _ _ g hblk hg with ⟨k', b', h1, h2⟩ | h1
      · obtain ⟨p, hp, e⟩ := List.mem_map.1 (hmem k' b' h1)
        exact .inr ⟨k', b', h1, e ▸ hall p hp, h2⟩
      · exact .inl h1
    · obtain ⟨blk, hblk, _⟩ := hbs k b hk
      obtain ⟨blk', hblk', _⟩ := hbs k' b' hk'
      rw [hag k (hdom k b hk)] at hg
      rw [hag k' (hdom k' b' hk')] at hg'
      have e := s.inj _ _ _ _ g hblk hblk' hg hg'
      have h1 := hdom k b hk
      have h2 := hdom k' b' hk'
      simp only [rn] at e
      by_cases e1 : k = nm <;> by_cases e2 : k' = nm
      · rw [e1, e2]
      · rw [if_pos e1, if_neg e2] at e
        have := hmem' k' (by simpa [e2] using h2)
        omega
      · rw [if_neg e1, if_pos e2] at e
        have := hmem' k (by simpa [e1] using h1)
        omega
      · rw [if_neg e1, if_neg e2] at e; exact e
  rcases he with rfl | rfl <;> exact fin
end Go.Ab
end
section
set_option linter.unusedVariables false
set_option linter.unusedSimpArgs false
namespace Go.Ab
open Go.RowKit

theorem Ghost.nameBox {bs nx : Nat} {S : AState} (c sz : Nat) (e : TypeId) (hc : S.h c = some (.box [.nils])) (h0 : 0 < sz) : Ghost bs nx S (nx + 1) ⟨S.t, upd (upd S.h c (some (.box [.own nx]))) nx (some (.row [] sz e))⟩ := by
  intro E β a w hE s
  obtain ⟨g0, ty, xs, f1, f2, f3, f4, f5⟩ := s.bl c _ hc
  have hv := f5 0 (by simp)
  simp only [av_zero] at hv
  obtain ⟨ad, hcv⟩ := hv.nils_inv
  have hβ : β nx = undef := s.fresh nx (Nat.le_refl _)
  have hcn : c ≠ nx := fun e => by subst e; exact (s.bl c _ hc).ne hβ
  have hg : Grows β (upd β nx (.slice ad 0 0)) := fun n hn => by
    unfold upd; split
    · rename_i h; subst h; exact absurd hβ hn
    · rfl
  have hb0 : ∀ g, blkOf (Value.slice ad 0 0) ≠ some g := fun g => by cases ad <;> simp [blkOf]
  have hs := s.step (fr' := fun k => nx + 1 ≤ k) (S' := ⟨S.t, upd (upd S.h c (some (.box [.own nx]))) nx (some (.row [] sz e))⟩) (β' := upd β nx (.slice ad 0 0)) (a' := a) (w' := w) (fun g => blkOf (β c) = some g) (fun g h => ⟨c, _, hc, h⟩) rfl rfl rfl (Nat.le_refl _) (fun _ _ _ => rfl) hg
    (fun n hn => by unfold upd; rw [if_neg (by omega)]; exact s.fresh n (by omega)) (fun n b hb => ?_) ?_ rfl s.df (fun hst => fun q => (s.tm q).mono hg hst)
  · exact ⟨_, hs⟩
  · simp only [upd] at hb
    split at hb
    · rename_i h; subst h
      simp only [Option.some.injEq] at hb; subst hb
      refine .inr ⟨fun _ => ?_, fun g hg => by simp only [upd, if_true] at hg; exact absurd hg (hb0 g)⟩
      simp only [upd, if_true]
      exact ⟨[], by simp, h0, .inl ⟨ad, rfl, rfl, rfl⟩, by simp, fun i j hi => by simp at hi⟩
    · rename_i hnn
      split at hb
      · rename_i h; subst h
        simp only [Option.some.injEq] at hb; subst hb
        refine .inr ⟨fun hst => ?_, fun g hg => .inr (by simp only [upd, if_neg hnn] at hg; exact hg)⟩
        simp only [upd, if_neg hnn]
        refine ⟨g0, ty, xs, f1, f2, by simpa using f3, f4, fun j hj => ?_⟩
        have : j = 0 := by simp at hj; omega
        subst this
        rw [hcv]
        simp only [av_zero]
        exact .own nx (by simp [upd])
      · rename_i hnc
        refine .inl ⟨hb, fun g hg hg' => hnc (s.inj n c _ _ g hb hc hg hg')⟩
  · intro n m b1 b2 g h1 h2 g1 g2
    simp only [upd] at h1 h2 g1 g2
    by_cases e1 : n = nx
    · rw [if_pos e1] at g1; exact absurd g1 (hb0 g)
    · by_cases e2 : m = nx
      · rw [if_pos e2] at g2; exact absurd g2 (hb0 g)
      · simp only [if_neg e1, if_neg e2] at h1 h2 g1 g2
        have k1 : ∃ b, S.h n = some b := by
          split at h1
          · rename_i h; exact ⟨_, h ▸ hc⟩
          · exact ⟨_, h1⟩
        have k2 : ∃ b, S.h m = some b := by
          split at h2
          · rename_i h; exact ⟨_, h ▸ hc⟩
          · exact ⟨_, h2⟩
        obtain ⟨_, k1⟩ := k1
        obtain ⟨_, k2⟩ := k2
        exact s.inj n m _ _ g k1 k2 g1 g2
theorem View.fn3 {hd : Nat → Option Blk} {ρ : Nat → Nat} {nx f a b c a' b' c' : Nat} (ha : ρ a' = a) (hb : ρ b' = b) (hc : ρ c' = c) (h : a' < nx ∧ b' < nx ∧ c' < nx) : View hd ρ nx (.fn f [.bp a 0, .bp b 0, .bp c 0]) (.fn f [.bp a' 0, .bp b' 0, .bp c' 0]) :=
  .fn rfl fun j hj => by match j, hj with | 0, _ => exact .bp ha h.1 | 1, _ => exact .bp hb h.2.1 | 2, _ => exact .bp hc h.2.2
theorem BView.own1 {hd : Nat → Option Blk} {ρ : Nat → Nat} {nx b n : Nat} (hb : ρ n = b) (hn : n < nx) : BView hd ρ nx (.box [.own b]) (.box [.own n]) :=
  .box rfl fun j hj => by match j, hj with | 0, _ => exact .own hb hn
end Go.Ab
end
section
set_option linter.unusedVariables false
set_option linter.unusedSimpArgs false
namespace Go.Ab
open Go
theorem st_cod {P : Program} {d : Option Nat} {op : AOp} {deps : List Nat} {r : List AOper} {nm : Nat} {t : Nat → AV} {h : Nat → Option Blk} {K : AState → Prop} {f : FuncId} {vs lv : List AV} {ns : List (Nat × Blk)} {es : List (List AV)} {sz : Nat} {ty : TypeId} (hc : callee ⟨t, h⟩ op = some (f, vs)) (hl : lows ⟨t, h⟩ vs = lv) (hn : hls ⟨t, h⟩ vs = ns) (hp : PureOwn P f lv es sz ty) (hd : ∀ y ∈ es, ∀ c ∈ y, Dry c) (hm : nm ∉ ns.map (·.1)) (hk : aops P r (nm + 1) ⟨putT t d (.own nm), upd h nm (some (.row es sz ty))⟩ K) : aops P (⟨d, op, none, deps⟩ :: r) nm ⟨t, h⟩ K :=
  aops_lowO hc (by rw [hl, hn]; exact callO_dry hp hm hd hk)
end Go.Ab
end
section
set_option linter.unusedVariables false
set_option linter.unusedSimpArgs false
namespace Go.Ab
open Go.RowKit
theorem lk_out {α : Type} {d : α} : ∀ {l : List (Nat × α)} {n : Nat}, n ∉ l.map (·.1) → lk d l n = d
  | [], _, _ => rfl
  | (k, x) :: l, n, h => by
    simp only [List.map_cons, List.mem_cons, not_or] at h
    simp only [lk]
    rw [if_neg h.1]
    exact lk_out h.2
theorem Ghost.mkB {bs nx nx' : Nat} {S : AState} {ts : List (Nat × AV)} {hs : List (Nat × Blk)} (ns : List (Nat × Nat)) (hnb : (ns.all fun p => decide (bs ≤ p.1)) = true) (hbx : bs ≤ nx')
    (hinj : (hs.all fun p => hs.all fun q => ren ns p.1 != ren ns q.1 || p.1 == q.1) = true)
    (hV : AllV S (deadH S []) (ren ns) nx' ts) (hB : AllB S (deadH S []) (ren ns) nx' hs) : Ghost bs nx S nx' (mkS ts hs) := by
  refine Ghost.view (ren ns) (deadH S []) (fun n hn => ⟨lk_out fun h => ?_, by omega⟩) (fun b blk hb => by simp [deadH] at hb) (allV_spec hV) (allB_spec hB) (fun n m b b' hb hb' he => ?_)
  · obtain ⟨p, hp, rfl⟩ := List.mem_map.1 h
    have := List.all_eq_true.1 hnb p hp
    simp only [decide_eq_true_eq] at this
    omega
  · have h1 := List.all_eq_true.1 hinj _ (listH_mem hb)
    have h2 := List.all_eq_true.1 h1 _ (listH_mem hb')
    simp only [Bool.or_eq_true, bne_iff_ne, ne_eq, beq_iff_eq] at h2
    rcases h2 with h2 | h2
    · exact absurd he h2
    · exact h2
theorem CallC.ownPre {P : Program} {f : FuncId} {args : List AV} {hl : List (Nat × Blk)} {nm b : Nat} {ups : List (Nat × Option Blk)} {es : List (List AV)} {sz : Nat} {e : TypeId} (h : CallC P f args hl nm (.own b) ups)
    (hu : updL (listH hl) ups b = some (.row es sz e)) (hm : b ∈ ups.map (·.1)) : CallC P f args hl nm (.pre b es.length) ups := by
  refine ⟨h.1, fun prov β w cs h1 h2 h3 h4 => (h.2 prov β w cs h1 h2 h3 h4).mono ?_⟩
  rintro e' w' ⟨c, β', he, a1, a2, a3, a4, a5, a6, a7, hv, a8, a9⟩
  obtain ⟨e1, ad, n, cap, e2⟩ := hv.own_inv
  obtain ⟨xs, hf⟩ := (a8 b _ hu hm).1
  rw [← e1, e2] at hf
  obtain ⟨hn, hnc, hcm, _⟩ := row_cap hf
  refine ⟨c, β', he, a1, a2, a3, a4, a5, a6, a7, ?_, a8, a9⟩
  rw [e2, hn]
  exact .pre b _ (n := n) (by rw [← e1, e2]) (by omega) hcm
theorem BView.lowO {hd : Nat → Option Blk} {ρ : Nat → Nat} {nx b : Nat} {es es' : List (List AV)} {sz : Nat} {e : TypeId} (hb : hd b = some (.row es sz e)) (he : es = es') : BView hd ρ nx (.box [.own b]) (.box [.sl es']) :=
  .box rfl fun j hj => by match j, hj with | 0, _ => exact .low (he ▸ Lower.own hb)
theorem BView.fn0 {hd : Nat → Option Blk} {ρ : Nat → Nat} {nx g : Nat} : BView hd ρ nx (.box [.fn g []]) (.box [.fn g []]) :=
  .box rfl fun j hj => by match j, hj with | 0, _ => exact .fn rfl fun j hj => by simp at hj
theorem View.fn0 {hd : Nat → Option Blk} {ρ : Nat → Nat} {nx g : Nat} : View hd ρ nx (.fn g []) (.fn g []) := .fn rfl fun j hj => by simp at hj
theorem View.fn6 {hd : Nat → Option Blk} {ρ : Nat → Nat} {nx f a b c d e g a' b' c' d' e' g' : Nat} (ha : ρ a' = a) (hb : ρ b' = b) (hc : ρ c' = c) (hd' : ρ d' = d) (he : ρ e' = e) (hg : ρ g' = g) (h : a' < nx ∧ b' < nx ∧ c' < nx ∧ d' < nx ∧ e' < nx ∧ g' < nx) :
    View hd ρ nx (.fn f [.bp a 0, .bp b 0, .bp c 0, .bp d 0, .bp e 0, .bp g 0]) (.fn f [.bp a' 0, .bp b' 0, .bp c' 0, .bp d' 0, .bp e' 0, .bp g' 0]) :=
  .fn rfl fun j hj => by match j, hj with | 0, _ => exact .bp ha h.1 | 1, _ => exact .bp hb h.2.1 | 2, _ => exact .bp hc h.2.2.1 | 3, _ => exact .bp hd' h.2.2.2.1 | 4, _ => exact .bp he h.2.2.2.2.1 | 5, _ => exact .bp hg h.2.2.2.2.2
theorem sl_cc {P : Program} {d : Option Nat} {op : AOp} {deps : List Nat} {r : List AOper} {nm : Nat} {t : Nat → AV} {h : Nat → Option Blk} {es : List Ent} {KL : AState → List Ent → Prop} {f : FuncId} {vs : List AV} {x : AV} {hl : List (Nat × Blk)} {u : List (Nat × Option Blk)} {h' : Nat → Option Blk}
    (hc : callee ⟨t, h⟩ op = some (f, vs)) (hcc : CallC P f vs hl nm x u) (hh : ∀ p ∈ hl, h p.1 = some p.2) (hu : ∀ p ∈ u, p.1 = nm ∨ p.1 ∈ hl.map (·.1)) (hm : nm ∉ hl.map (·.1)) (hw : updL h u = h')
    (hk : aopsL P r (nm + 1) ⟨putT t d x, h'⟩ (es ++ [⟨op.temps, hl.map (·.1), d, u.map (·.1)⟩]) KL) : aopsL P (⟨d, op, none, deps⟩ :: r) nm ⟨t, h⟩ es KL := by
  subst hw
  obtain ⟨e1, e2⟩ := eff_callee (P := P) (nm := nm) (an := ⟨x, u, hl⟩) hc
  exact aopsL_call ⟨x, u, hl⟩ (choosy_of_call e2) (by rw [e1]; exact ⟨hh, hu, hm, hcc⟩) (by rw [e1]; exact hk)
end Go.Ab
end
section
set_option linter.unusedVariables false
set_option linter.unusedSimpArgs false
namespace Go.Ab
open Go.RowKit
section
variable {P : Program} {d : Option Nat} {op : AOp} {deps : List Nat} {r : List AOper} {nm : Nat} {t : Nat → AV} {h : Nat → Option Blk} {es : List Ent} {KL : AState → List Ent → Prop}
theorem sl_cod {f : FuncId} {vs lv : List AV} {ns : List (Nat × Blk)} {ys : List (List AV)} {sz : Nat} {ty : TypeId} (hc : callee ⟨t, h⟩ op = some (f, vs)) (hl : lows ⟨t, h⟩ vs = lv) (hn : hls ⟨t, h⟩ vs = ns) (hp : PureOwn P f lv ys sz ty)
    (hd : ∀ y ∈ ys, ∀ c ∈ y, Dry c) (hm : nm ∉ ns.map (·.1)) (hk : aopsL P r (nm + 1) ⟨putT t d (.own nm), upd h nm (some (.row ys sz ty))⟩ (es ++ [⟨op.temps, ns.map (·.1), d, [nm]⟩]) KL) : aopsL P (⟨d, op, none, deps⟩ :: r) nm ⟨t, h⟩ es KL := by
  subst hn
  exact aopsL_lowO hc (by rw [hl]; exact callO_dry hp hm hd hk)
theorem sl_cog {q : Nat} {want : Bool} {f : FuncId} {vs lv : List AV} {ns : List (Nat × Blk)} {ys : List (List AV)} {sz : Nat} {ty : TypeId} (hop : op.isCall = true) (hv : t q = .v (.bool want)) (hc : callee ⟨t, h⟩ op = some (f, vs)) (hl : lows ⟨t, h⟩ vs = lv) (hn : hls ⟨t, h⟩ vs = ns)
    (hp : PureOwn P f lv ys sz ty) (hd : ∀ y ∈ ys, ∀ c ∈ y, Dry c) (hm : nm ∉ ns.map (·.1)) (hk : aopsL P r (nm + 1) ⟨putT t d (.own nm), upd h nm (some (.row ys sz ty))⟩ (es ++ [⟨q :: op.temps, ns.map (·.1), d, [nm]⟩]) KL) :
    aopsL P (⟨d, op, some (q, want), deps⟩ :: r) nm ⟨t, h⟩ es KL := by
  subst hn
  subst hl
  refine aopsL_callg (S := ⟨t, h⟩) (choosy_of_call hop) ?_
  show gval (t q) want _ _
  rw [hv]
  refine gval_intro (fun _ => ?_) (fun e => by cases want <;> cases e)
  obtain ⟨e1, e2⟩ := eff_callee (P := P) (nm := nm) (an := ⟨.own nm, [(nm, some (.row ys sz ty))], hls ⟨t, h⟩ vs⟩) hc
  exact ⟨⟨.own nm, [(nm, some (.row ys sz ty))], hls ⟨t, h⟩ vs⟩, by rw [e1]; exact callO_of hp hm (.inr hd), by rw [e1]; exact hk⟩
end
end Go.Ab
end
section
set_option linter.unusedVariables false
set_option linter.unusedSimpArgs false
namespace Go.Ab
open Go.RowKit
open Go
def PureTwo (P : Program) (f : FuncId) (args : List AV) (es : List (List AV)) (sz : Nat) (ty : TypeId) (y : Value) : Prop :=
  Callable P f ∧ ∀ (ok : Nat → Prop) (w : World) (cs : List Value), PArgs ok w args cs →
    Calls P f cs.toArray w fun e w' => ∃ c, e = .returned (.tuple #[c, y]) ∧ Keeps w w' ∧ (∃ a n cap, c = .slice a n cap) ∧ (∃ xs, RowFits (fun g => g < w'.heap.size ∧ (ok g ∨ w.heap.size ≤ g) ∧ blkOf c ≠ some g) w' es sz ty c xs) ∧ ∀ g, blkOf c = some g → w.heap.size ≤ g
theorem PureTwo.pure {P : Program} {f : FuncId} {args : List AV} {es : List (List AV)} {sz : Nat} {ty : TypeId} {y : Value} (h : PureTwo P f args es sz ty y) : Pure P f args (.tup [.sl es, .v y]) := by
  refine ⟨h.1, fun ok w cs ha => (h.2 ok w cs ha).mono fun e w' ⟨c, he, hk, hs, ⟨xs, hf⟩, hb⟩ => ⟨_, he, hk, ?_⟩⟩
  have h2 : RowFits (fun g => g < w'.heap.size ∧ (ok g ∨ w.heap.size ≤ g)) w' es sz ty c xs := ⟨hf.z, hf.pos, hf.row, hf.one, fun i j hi hj => (hf.cell i j hi hj).mono fun g hg => ⟨⟨hg.1, hg.2.1⟩, rfl⟩⟩
  have hB : BlkRep (fun g => g < w'.heap.size ∧ (ok g ∨ w.heap.size ≤ g)) (fun _ => c) w' (.row es sz ty) c := ⟨xs, h2⟩
  have hp := pure_of_row h2 fun g hg => ⟨hB.lt hg, .inr (hb g hg)⟩
  refine .tup [.sl es, .v y] [c, y] rfl fun j hj => ?_
  match j, hj with
  | 0, _ => exact hp
  | 1, _ => exact .v _
section use
variable {P : Program} {f : FuncId} {args args' : List AV} {hl : List (Nat × Blk)} {nm : Nat}
theorem CallC.two {es : List (List AV)} {sz : Nat} {ty : TypeId} {y : Value} (h : PureTwo P f args' es sz ty y) (hlen : args.length = args'.length) (hlow : ∀ j, j < args.length → Lower (listH hl) (av args j) (av args' j)) (hnm : nm ∉ hl.map (·.1)) (hd : hl = [] ∨ ∀ y ∈ es, ∀ c ∈ y, Dry c) :
    CallC P f args hl nm (.tup [.own nm, .v y]) [(nm, some (.row es sz ty))] := by
  refine ⟨h.1, fun prov β w cs hn hb hi hv => ?_⟩
  refine (h.2 _ w cs (lower_args hb hv hlen hlow)).mono fun e w' ⟨c, he, hk, ⟨a, m, cap, hc⟩, ⟨xs, hf⟩, hnew⟩ => ?_
  have hg : Grows β (upd β nm c) := fun k hk => by
    unfold upd; split
    · rename_i h; subst h; exact absurd hn hk
    · rfl
  have hlk : ∀ n, updL (listH hl) [(nm, some (Blk.row es sz ty))] n = if n = nm then some (.row es sz ty) else listH hl n := fun n => rfl
  have hne : ∀ n b, listH hl n = some b → n ≠ nm := fun n b h e => hnm (by subst e; exact List.mem_map.2 ⟨_, listH_mem h, rfl⟩)
  refine ⟨.tuple #[c, y], upd β nm c, he, hk.os, hk.tape, hk.out, hk.size, hg, fun n hn' => by simp [upd, hn'], fun g hg _ => hk.heap g hg, ?_, fun n b hb' hm => ?_, ?_⟩
  · subst hc
    refine .tup [.own nm, .v y] [_, y] rfl fun j hj => ?_
    match j, hj with
    | 0, _ => exact .own nm (by simp [upd, cv])
    | 1, _ => exact .pure (.v _)
  · have hm' : n = nm := by simpa using hm
    rw [hm'] at hb' ⊢
    rw [hlk, if_pos rfl] at hb'
    simp at hb'
    subst hb'
    simp only [upd, if_true]
    refine ⟨⟨xs, hf.z, hf.pos, hf.row, hf.one, fun i j hi' hj => ?_⟩, fun g hg => .inl (hnew g hg)⟩
    have hp := hf.cell i j hi' hj
    rcases hd with rfl | hd
    · refine hp.mono fun g ⟨h1, h2, h3⟩ => ⟨⟨h1, h2.imp (fun h => h.elim id fun ⟨n, b, h3, _⟩ => by simp [listH] at h3) id, fun n b hb' => ?_⟩, rfl⟩
      rw [hlk] at hb'
      by_cases hnn : n = nm
      · rw [hnn]; simp only [upd, if_true]; exact h3
      · rw [if_neg hnn] at hb'; simp [listH] at hb'
    · have hel : es.getD i [] ∈ es := by simp [List.getD_eq_getElem?_getD, hi']
      exact (hd _ hel _ (av_mem (by rw [hf.z _ hel]; exact hj))).mono hp
  · intro n m b b' g h1 h2 g1 g2
    rw [hlk] at h1 h2
    by_cases e1 : n = nm <;> by_cases e2 : m = nm
    · rw [e1, e2]
    · rw [if_neg e2] at h2
      simp only [upd, if_pos e1, if_neg e2] at g1 g2
      have := hnew g g1
      have := (hb m b' h2).lt g2
      omega
    · rw [if_neg e1] at h1
      simp only [upd, if_neg e1, if_pos e2] at g1 g2
      have := hnew g g2
      have := (hb n b h1).lt g1
      omega
    · rw [if_neg e1] at h1
      rw [if_neg e2] at h2
      simp only [upd, if_neg e1, if_neg e2] at g1 g2
      exact hi n m b b' g h1 h2 g1 g2
end use
section fns
variable {P : Program} {f : FuncId} {fn : Func} {ac : ACode} {n : Nat} {rs : List ResultVar} {args : List AV}
theorem fn_two (F : FnFacts P f fn ac n rs) (hn : args.length ≤ n) {es : List (List AV)} {sz : Nat} {ty : TypeId} {y : Value}
    (h : Awp P n 0 ac 0 (S0 args) fun e _ S => (e = .normal ∨ e = .ret) ∧ resSide P S rs ∧ ∃ b, resV (resVals P S rs) = .tup [.own b, .v y] ∧ S.h b = some (.row es sz ty)) : PureTwo P f args es sz ty y := by
  obtain ⟨code, hbody, hcomp⟩ := F.code
  refine ⟨F.callable, fun ok w cs ha => ?_⟩
  refine calls_of_wp F.at_ hbody ?_
  rw [F.nt]
  have s0 := sim_start ha n hn
  refine h code hcomp F.ok F.mixed { w0 := w, β0 := fun _ => undef, prov := ok, may := fun _ => False, n := n } _ _ w rfl ⟨fun _ _ => rfl, fun _ _ h => h⟩ s0 _ fun e nx S β a w' ⟨he, hs, b, hb, hB⟩ s => ?_
  obtain ⟨c, hc, hv⟩ := results_run (f := fn) s (by rw [F.rseq]; exact F.res) (by rw [F.rseq]; exact hs)
  rw [F.rseq] at hv
  rw [hb] at hv
  obtain ⟨xs, hcx, hxl, hxr⟩ := hv.tup_inv
  match xs, hxl with
  | [c1, c2], _ =>
  have h0 := hxr 0 (by simp)
  have h1 := hxr 1 (by simp)
  simp only [av_zero, av_succ, cv, List.getD_cons_zero, List.getD_cons_succ] at h0 h1
  have hy : c2 = y := h1.v_inv
  rw [hy] at hcx
  obtain ⟨hcβ, ad, m, cap, hcs⟩ := h0.own_inv
  have fin : a.defers = [] ∧ ∃ v, (results fn a.tmps).run P w' = .ok v w' ∧ ∃ c, Ending.returned v = .returned (.tuple #[c, y]) ∧ Keeps w w' ∧ (∃ a n cap, c = .slice a n cap) ∧
      (∃ xs, RowFits (fun g => g < w'.heap.size ∧ (ok g ∨ w.heap.size ≤ g) ∧ blkOf c ≠ some g) w' es sz ty c xs) ∧ ∀ g, blkOf c = some g → w.heap.size ≤ g := by
    refine ⟨s.df, c, hc, c1, by rw [hcx], ⟨s.os, s.tape, s.out, s.size, fun g hg => s.keep g hg id⟩, ⟨_, _, _, hcs⟩, ?_, fun g hg => ?_⟩
    · obtain ⟨xs, hf⟩ := s.bl b _ hB
      rw [← hcβ] at hf
      exact ⟨xs, hf.z, hf.pos, hf.row, hf.one, fun i j hi hj => (hf.cell i j hi hj).mono fun g hg => ⟨⟨hg.1, hg.2.1, by rw [hcβ]; exact hg.2.2 b _ hB⟩, rfl⟩⟩
    · rw [hcβ] at hg
      rcases s.mine b _ g hB hg with h | h
      · exact h.elim
      · exact h
  rcases he with rfl | rfl <;> exact fin
end fns
theorem callT_of {P : Program} {f : FuncId} {S : AState} {nm : Nat} {vs : List AV} {es : List (List AV)} {sz : Nat} {ty : TypeId} {y : Value} (h1 : PureTwo P f (lows S vs) es sz ty y) (h2 : nm ∉ (hls S vs).map (·.1)) (h3 : (hls S vs).map (·.1) = [] ∨ ∀ y ∈ es, ∀ c ∈ y, Dry c) :
    (effCall P S nm ⟨.tup [.own nm, .v y], [(nm, some (.row es sz ty))], hls S vs⟩ f vs).side := by
  have hs : ∀ p ∈ hls S vs, S.h p.1 = some p.2 := fun p hp => by
    obtain ⟨x, _, hx⟩ := List.mem_flatMap.1 hp
    exact hlOf_spec S.h 8 x p hx
  refine ⟨hs, fun p hp => by simp at hp; exact .inl (by rw [hp]), h2, CallC.two h1 (by simp [lows]) (fun j hj => ?_) h2 (h3.imp (fun e => by simpa using e) id)⟩
  have e : av (lows S vs) j = low S.h 8 (av vs j) := by simp [lows, av, List.getD_eq_getElem?_getD, hj]
  rw [e]
  exact lower_low S.h hs 8 _ fun p hp => List.mem_flatMap.2 ⟨_, av_mem hj, hp⟩
theorem st_ct {P : Program} {d : Option Nat} {op : AOp} {deps : List Nat} {r : List AOper} {nm : Nat} {t : Nat → AV} {h : Nat → Option Blk} {K : AState → Prop} {f : FuncId} {vs lv : List AV} {ns : List (Nat × Blk)} {es : List (List AV)} {sz : Nat} {ty : TypeId} {y : Value} (hc : callee ⟨t, h⟩ op = some (f, vs)) (hl : lows ⟨t, h⟩ vs = lv) (hn : hls ⟨t, h⟩ vs = ns) (hp : PureTwo P f lv es sz ty y) (hd : ns = [] ∨ ∀ y ∈ es, ∀ c ∈ y, Dry c) (hm : nm ∉ ns.map (·.1)) (hk : aops P r (nm + 1) ⟨putT t d (.tup [.own nm, .v y]), upd h nm (some (.row es sz ty))⟩ K) : aops P (⟨d, op, none, deps⟩ :: r) nm ⟨t, h⟩ K := by
  subst hl; subst hn
  obtain ⟨e1, e2⟩ := eff_callee (P := P) (nm := nm) (an := ⟨.tup [.own nm, .v y], [(nm, some (.row es sz ty))], hls ⟨t, h⟩ vs⟩) hc
  exact aops_call (P := P) ⟨.tup [.own nm, .v y], [(nm, some (.row es sz ty))], hls ⟨t, h⟩ vs⟩ (choosy_of_call e2) (by rw [e1]; exact callT_of hp hm (hd.imp (fun e => by rw [e]; rfl) id)) (by rw [e1]; exact hk)
end Go.Ab
end
