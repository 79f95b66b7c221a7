import Derived.Test.YtadpljebgkfeoaaGreatDoorPZB
import Derived.Shelf.Small.Bits
import Derived.Shelf.Small.Wraps
import Derived.Shelf.Utf8.RuneCount
import Derived.Shelf.Strconv.Itoa0
import Derived.Shelf.Strings.Search1
import Derived.Shelf.Strings.Search2
import Derived.Shelf.Strings.Search3
import Derived.Shelf.Strings.Count
import Derived.Shelf.LaysM
import Derived.Shelf.Strings.Shaped
import Derived.Shelf.Sort.Plain
import Derived.Shelf.Strings.Split
import Derived.Shelf.Strings.SplitShaped
import Derived.Shelf.Unicode.Decode
import Derived.Shelf.Strings.RuneCount
import Derived.Shelf.Strings.Explode
import Derived.Shelf.Unicode.DecodeSlow
import Derived.Shelf.Unicode.DecodeAny
import Derived.Ground.Names2Prog
import Derived.Shelf.Slices.CompactI
import Derived.Shelf.Slices.SearchI
import Derived.Shelf.Slices.Cells
import Derived.Shelf.Slices.In.SortNone
import Derived.Test.YtadpljebgkfeoaaGreatDoorProg
import Derived.Sort.OwnSortedInts
import Derived.Lib.SlicesCompact
set_option linter.unusedVariables false
set_option linter.unusedSimpArgs false
namespace Go.Proofs
open Go Go.Ab
def Tryz.ac7 : ACode := ((AR [AO 3 (.box 2 (.t 0)), AO 4 (.box 8 (.t 1)), AO 5 (.box 2 (.t 2)), AO 6 (.mv (.c (.bool false)))]).seq ((ACode.region true [AO 13 (.idxPtr 2 1 (.t 5) (.c (.int .i64 (0)))), ⟨some 14, .load 1 false (.t 13), none, [0]⟩, AO 15 (.idxPtr 2 1 (.t 5) (.c (.int .i64 (1)))), ⟨some 16, .load 1 false (.t 15), none, [2]⟩, ⟨some 7, .mv (.t 14), none, [1, 0, 1]⟩, ⟨some 8, .mv (.t 16), none, [3, 4, 0, 1, 2, 3, 4]⟩]).seq (((AR [AO 17 (.fieldAddr 0 (.t 3)), AO 18 (.load 1 false (.t 17)), AO 19 (.fieldAddr 1 (.t 3)), AO 20 (.load 1 false (.t 19)), AO 21 (.call 10 [.t 18, .t 20, .c (.int .i64 (9))]), AO 22 (.un .not (.t 21)), AM 23 22, ⟨some 24, .fieldAddr 0 (.t 4), some (23, false), []⟩, ⟨some 25, .load 1 false (.t 24), some (23, false), []⟩, ⟨some 26, .lenStr (.t 25), some (23, false), []⟩, ⟨some 27, .bin .gtr (.t 26) (.c (.int .i64 (100))), some (23, false), []⟩, AO 28 (.pick (.t 23) (.c (.bool true)) (.t 27)), AM 29 28, ⟨some 30, .fieldAddr 1 (.t 4), some (29, false), []⟩, ⟨some 31, .load 1 false (.t 30), some (29, false), []⟩, ⟨some 32, .lenStr (.t 31), some (29, false), []⟩, ⟨some 33, .bin .gtr (.t 32) (.c (.int .i64 (100))), some (29, false), []⟩, AO 34 (.pick (.t 29) (.c (.bool true)) (.t 33)), AM 35 34, ⟨some 36, .mv (.t 8), some (35, false), []⟩, ⟨some 37, .bin .lss (.t 36) (.c (.int .i64 (1))), some (35, false), []⟩, AO 38 (.pick (.t 35) (.c (.bool true)) (.t 37)), AM 39 38, ⟨some 40, .mv (.t 8), some (39, false), []⟩, ⟨some 41, .bin .gtr (.t 40) (.c (.int .i64 (1048576))), some (39, false), []⟩, AO 42 (.pick (.t 39) (.c (.bool true)) (.t 41)), AM 43 42, ⟨some 44, .mv (.t 7), some (43, false), []⟩, ⟨some 45, .bin .lss (.t 44) (.c (.int .i64 (0))), some (43, false), []⟩, AO 46 (.pick (.t 43) (.c (.bool true)) (.t 45)), AM 47 46, ⟨some 48, .mv (.t 7), some (47, false), []⟩, ⟨some 49, .bin .gtr (.t 48) (.c (.int .i64 (1048576))), some (47, false), []⟩, AO 50 (.pick (.t 47) (.c (.bool true)) (.t 49))]).seq (ACode.cond (.t 50) ((AR [AO 51 (.call 11 []), AM 6 51]).seq ACode.ret) ACode.skip)).seq ((AR [AO 52 (.buildSlice 43 8 []), AO 53 (.fieldAddr 1 (.t 3)), AO 54 (.load 1 false (.t 53)), AO 55 (.append 43 8 80 (.t 52) (.t 54)), AM 9 55]).seq ((AR [AO 57 (.fieldAddr 0 (.t 3)), AO 58 (.load 1 false (.t 57)), AM 59 9, AO 60 (.fieldAddr 0 (.t 4)), AO 61 (.load 1 false (.t 60)), AO 62 (.fieldAddr 4 (.t 4)), AO 63 (.load 1 false (.t 62)), AO 64 (.fieldAddr 5 (.t 4)), AO 65 (.load 1 false (.t 64)), AM 66 7, AO 67 (.build [.int .i64 (0), .int .i64 (0)] [(0, 1, .t 66)]), AO 68 (.build [.string ⟨⟨[]⟩⟩, .string ⟨⟨[]⟩⟩, .int .i64 (0), .int .i64 (0), .int .i64 (0), .int .i64 (0), .int .i64 (0), .int .i64 (0)] [(0, 1, .t 61), (4, 1, .t 63), (5, 1, .t 65), (6, 2, .t 67)]), AM 69 8, AO 70 (.call 20 [.t 58, .t 59, .t 68, .t 69]), AM 56 70, AO 71 (.extract (.t 56) 0), AO 72 (.extract (.t 56) 1), AO 10 (.alloc [.string ⟨⟨[]⟩⟩, .string ⟨⟨[]⟩⟩, .int .i64 (0), .int .i64 (0), .int .i64 (0), .int .i64 (0), .int .i64 (0), .int .i64 (0)]), ⟨none, .store 8 (.t 10) (.t 71), none, []⟩, AM 11 72]).seq (((ACode.region true [AM 73 11, ⟨some 74, .bin .eql (.t 73) (.c (.int .i64 (0))), none, [0]⟩, ⟨some 75, .mv (.t 74), none, [1]⟩, ⟨some 76, .fieldAddr 0 (.t 3), some (75, true), [2]⟩, ⟨some 77, .load 1 false (.t 76), some (75, true), [3, 2]⟩, ⟨some 78, .mv (.t 9), some (75, true), [2]⟩, ⟨some 79, .load 8 true (.t 10), some (75, true), [2]⟩, ⟨some 80, .buildSlice 43 8 [.t 79], some (75, true), [6, 2]⟩, ⟨some 81, .append 43 8 80 (.t 78) (.t 80), some (75, true), [5, 7, 2, 2]⟩, ⟨some 82, .call 12 [.t 77, .t 81], some (75, true), [4, 8, 8, 2]⟩, ⟨some 83, .bin .neq (.t 82) (.c (.int .i64 (0))), some (75, true), [9, 2]⟩, ⟨some 84, .mv (.t 83), some (75, true), [10, 9, 2]⟩, ⟨some 85, .fieldAddr 0 (.t 10), some (84, false), [11]⟩, ⟨some 86, .load 1 false (.t 85), some (84, false), [12, 11]⟩, ⟨some 87, .fieldAddr 0 (.t 4), some (84, false), [11]⟩, ⟨some 88, .load 1 false (.t 87), some (84, false), [14, 11]⟩, ⟨some 89, .bin .neq (.t 86) (.t 88), some (84, false), [13, 15, 11]⟩, ⟨some 90, .pick (.t 84) (.c (.bool true)) (.t 89), some (75, true), [11, 16, 2]⟩, ⟨some 91, .mv (.t 90), some (75, true), [17, 11, 2]⟩, ⟨some 92, .fieldAddr 4 (.t 10), some (91, false), [18]⟩, ⟨some 93, .load 1 false (.t 92), some (91, false), [19, 18]⟩, ⟨some 94, .fieldAddr 4 (.t 4), some (91, false), [18]⟩, ⟨some 95, .load 1 false (.t 94), some (91, false), [21, 18]⟩, ⟨some 96, .bin .neq (.t 93) (.t 95), some (91, false), [20, 22, 18]⟩, ⟨some 97, .pick (.t 91) (.c (.bool true)) (.t 96), some (75, true), [18, 23, 2]⟩, ⟨some 98, .mv (.t 97), some (75, true), [24, 18, 2]⟩, ⟨some 99, .fieldAddr 5 (.t 10), some (98, false), [25]⟩, ⟨some 100, .load 1 false (.t 99), some (98, false), [26, 25]⟩, ⟨some 101, .fieldAddr 5 (.t 4), some (98, false), [25]⟩, ⟨some 102, .load 1 false (.t 101), some (98, false), [28, 25]⟩, ⟨some 103, .bin .neq (.t 100) (.t 102), some (98, false), [27, 29, 25]⟩, ⟨some 104, .pick (.t 98) (.c (.bool true)) (.t 103), some (75, true), [25, 30, 2]⟩, ⟨some 105, .mv (.t 104), some (75, true), [31, 25, 2]⟩, ⟨some 106, .fieldAddr 6 (.t 10), some (105, false), [32]⟩, ⟨some 107, .fieldAddr 0 (.t 106), some (105, false), [33, 32]⟩, ⟨some 108, .load 1 false (.t 107), some (105, false), [34, 32]⟩, ⟨some 109, .mv (.t 7), some (105, false), [32]⟩, ⟨some 110, .bin .lss (.t 108) (.t 109), some (105, false), [35, 36, 32]⟩, ⟨some 111, .pick (.t 105) (.c (.bool true)) (.t 110), some (75, true), [32, 37, 2]⟩, ⟨some 112, .mv (.t 111), some (75, true), [38, 32, 2]⟩, ⟨some 113, .fieldAddr 6 (.t 10), some (112, false), [39]⟩, ⟨some 114, .fieldAddr 1 (.t 113), some (112, false), [40, 39]⟩, ⟨some 115, .load 1 false (.t 114), some (112, false), [41, 39]⟩, ⟨some 116, .fieldAddr 6 (.t 10), some (112, false), [39]⟩, ⟨some 117, .fieldAddr 0 (.t 116), some (112, false), [43, 39]⟩, ⟨some 118, .load 1 false (.t 117), some (112, false), [44, 39]⟩, ⟨some 119, .bin .sub (.t 115) (.t 118), some (112, false), [42, 45, 39]⟩, ⟨some 120, .mv (.t 8), some (112, false), [39]⟩, ⟨some 121, .bin .lss (.t 119) (.t 120), some (112, false), [46, 47, 39]⟩, ⟨some 122, .pick (.t 112) (.c (.bool true)) (.t 121), some (75, true), [39, 48, 2]⟩, ⟨some 123, .pick (.t 75) (.t 122) (.c (.bool false)), none, [2, 49]⟩]).seq (ACode.cond (.t 123) ((AR [AO 6 (.mv (.c (.bool false)))]).seq ACode.ret) ACode.skip)).seq (((ACode.region true [AO 124 (.fieldAddr 0 (.t 3)), ⟨some 125, .load 1 false (.t 124), none, [0]⟩, AM 126 9, AO 127 (.load 8 true (.t 4)), ⟨some 128, .buildSlice 43 8 [.t 127], none, [3]⟩, ⟨some 129, .append 43 8 80 (.t 126) (.t 128), none, [2, 4]⟩, ⟨some 130, .call 12 [.t 125, .t 129], none, [1, 5, 5]⟩, ⟨some 131, .bin .neq (.t 130) (.c (.int .i64 (0))), none, [6]⟩, ⟨some 132, .mv (.t 131), none, [7, 6]⟩, ⟨some 133, .fieldAddr 6 (.t 4), some (132, false), [8]⟩, ⟨some 134, .fieldAddr 0 (.t 133), some (132, false), [9, 8]⟩, ⟨some 135, .load 1 false (.t 134), some (132, false), [10, 8]⟩, ⟨some 136, .mv (.t 7), some (132, false), [8]⟩, ⟨some 137, .bin .lss (.t 135) (.t 136), some (132, false), [11, 12, 8]⟩, ⟨some 138, .pick (.t 132) (.c (.bool true)) (.t 137), none, [8, 13]⟩, ⟨some 139, .mv (.t 138), none, [14, 8]⟩, ⟨some 140, .fieldAddr 6 (.t 4), some (139, false), [15]⟩, ⟨some 141, .fieldAddr 1 (.t 140), some (139, false), [16, 15]⟩, ⟨some 142, .load 1 false (.t 141), some (139, false), [17, 15]⟩, ⟨some 143, .fieldAddr 6 (.t 4), some (139, false), [15]⟩, ⟨some 144, .fieldAddr 0 (.t 143), some (139, false), [19, 15]⟩, ⟨some 145, .load 1 false (.t 144), some (139, false), [20, 15]⟩, ⟨some 146, .bin .sub (.t 142) (.t 145), some (139, false), [18, 21, 15]⟩, ⟨some 147, .mv (.t 8), some (139, false), [15]⟩, ⟨some 148, .bin .lss (.t 146) (.t 147), some (139, false), [22, 23, 15]⟩, ⟨some 149, .pick (.t 139) (.c (.bool true)) (.t 148), none, [15, 24]⟩]).seq (ACode.cond (.t 149) ((AR [AO 150 (.call 11 []), AM 6 150]).seq ACode.ret) ACode.skip)).seq (((AR [AM 151 11, AO 152 (.bin .neq (.t 151) (.c (.int .i64 (0)))), AM 153 152, ⟨some 154, .fieldAddr 6 (.t 10), some (153, false), []⟩, ⟨some 155, .fieldAddr 0 (.t 154), some (153, false), []⟩, ⟨some 156, .load 1 false (.t 155), some (153, false), []⟩, ⟨some 157, .fieldAddr 6 (.t 4), some (153, false), []⟩, ⟨some 158, .fieldAddr 0 (.t 157), some (153, false), []⟩, ⟨some 159, .load 1 false (.t 158), some (153, false), []⟩, ⟨some 160, .bin .gtr (.t 156) (.t 159), some (153, false), []⟩, AO 161 (.pick (.t 153) (.c (.bool true)) (.t 160))]).seq (ACode.cond (.t 161) ((AR [AO 6 (.mv (.c (.bool false)))]).seq ACode.ret) ACode.skip)).seq (((AR [AO 12 (.mv (.c (.int .i64 (0))))]).seq (ACode.block 0 (((ACode.region true [AM 162 12, AO 163 (.fieldAddr 0 (.t 3)), ⟨some 164, .load 1 false (.t 163), none, [1]⟩, ⟨some 165, .len (.t 164), none, [2]⟩, ⟨some 166, .bin .lss (.t 162) (.t 165), none, [0, 3]⟩, ⟨some 167, .mv (.t 166), none, [4]⟩, ⟨some 168, .fieldAddr 6 (.t 10), some (167, true), [5]⟩, ⟨some 169, .fieldAddr 0 (.t 168), some (167, true), [6, 5]⟩, ⟨some 170, .load 1 false (.t 169), some (167, true), [7, 5]⟩, ⟨some 171, .fieldAddr 6 (.t 4), some (167, true), [5]⟩, ⟨some 172, .fieldAddr 0 (.t 171), some (167, true), [9, 5]⟩, ⟨some 173, .load 1 false (.t 172), some (167, true), [10, 5]⟩, ⟨some 174, .bin .eql (.t 170) (.t 173), some (167, true), [8, 11, 5]⟩, ⟨some 175, .pick (.t 167) (.t 174) (.c (.bool false)), none, [5, 12]⟩, ⟨some 176, .mv (.t 175), none, [13, 5]⟩, ⟨some 177, .fieldAddr 0 (.t 3), some (176, true), [14]⟩, ⟨some 178, .load 1 false (.t 177), some (176, true), [15, 14]⟩, ⟨some 179, .mv (.t 12), some (176, true), [14]⟩, ⟨some 180, .idxAddr 3 (.t 178) (.t 179), some (176, true), [16, 17, 14]⟩, ⟨some 181, .fieldAddr 0 (.t 180), some (176, true), [18, 14]⟩, ⟨some 182, .load 1 false (.t 181), some (176, true), [19, 14]⟩, ⟨some 183, .fieldAddr 1 (.t 10), some (176, true), [14]⟩, ⟨some 184, .load 1 false (.t 183), some (176, true), [21, 14]⟩, ⟨some 185, .bin .neq (.t 182) (.t 184), some (176, true), [20, 22, 14]⟩, ⟨some 186, .pick (.t 176) (.t 185) (.c (.bool false)), none, [14, 23]⟩]).seq (ACode.cond (.t 186) ACode.skip (ACode.exit 0))).seq ((ACode.block 1 ((ACode.region true [AO 189 (.fieldAddr 0 (.t 3)), ⟨some 190, .load 1 false (.t 189), none, [0]⟩, AM 191 12, ⟨some 192, .idxAddr 3 (.t 190) (.t 191), none, [1, 2]⟩, ⟨some 193, .fieldAddr 0 (.t 192), none, [3]⟩, ⟨some 194, .load 1 false (.t 193), none, [4]⟩, AO 195 (.fieldAddr 1 (.t 4)), ⟨some 196, .load 1 false (.t 195), none, [6]⟩, ⟨some 197, .bin .eql (.t 194) (.t 196), none, [5, 7]⟩]).seq (ACode.cond (.t 197) ((AR [AO 6 (.mv (.c (.bool false)))]).seq ACode.ret) ACode.skip))).seq (AR [AM 187 12, AO 188 (.bin .add (.t 187) (.c (.int .i64 (1)))), AM 12 188]))).loop)).seq ((AR [AO 198 (.fieldAddr 6 (.t 10)), AO 199 (.fieldAddr 0 (.t 198)), AO 200 (.load 1 false (.t 199)), AO 201 (.fieldAddr 6 (.t 4)), AO 202 (.fieldAddr 0 (.t 201)), AO 203 (.load 1 false (.t 202)), AO 204 (.bin .lss (.t 200) (.t 203)), AM 205 204, ⟨some 206, .fieldAddr 1 (.t 10), some (205, false), []⟩, ⟨some 207, .load 1 false (.t 206), some (205, false), []⟩, ⟨some 208, .fieldAddr 1 (.t 4), some (205, false), []⟩, ⟨some 209, .load 1 false (.t 208), some (205, false), []⟩, ⟨some 210, .bin .neq (.t 207) (.t 209), some (205, false), []⟩, AO 211 (.pick (.t 205) (.c (.bool true)) (.t 210)), AM 212 211, ⟨some 213, .fieldAddr 6 (.t 10), some (212, false), []⟩, ⟨some 214, .fieldAddr 1 (.t 213), some (212, false), []⟩, ⟨some 215, .load 1 false (.t 214), some (212, false), []⟩, ⟨some 216, .fieldAddr 6 (.t 4), some (212, false), []⟩, ⟨some 217, .fieldAddr 1 (.t 216), some (212, false), []⟩, ⟨some 218, .load 1 false (.t 217), some (212, false), []⟩, ⟨some 219, .bin .leq (.t 215) (.t 218), some (212, false), []⟩, AO 220 (.pick (.t 212) (.c (.bool true)) (.t 219)), AM 221 220, ⟨some 222, .call 11 [], some (221, true), []⟩, AO 223 (.pick (.t 221) (.t 222) (.c (.bool false))), AM 6 223]).seq ACode.ret))))))))))
theorem Tryz.F7 : FnFacts Tryz.prog 7 Tryz.f7 Tryz.ac7 224 [.tmp 6] := ⟨Tryz.func7, by kernel_rfl, by kernel_rfl, by kernel_rfl, by kernel_rfl, by kernel_rfl, by kernel_rfl, by kernel_rfl⟩
def Tryz.ac10 : ACode := ((AR [AO 6 (.mv (.c (.bool false)))]).seq (((AR [AM 9 0, AO 10 (.len (.t 9)), AO 11 (.bin .gtr (.t 10) (.c (.int .i64 (9)))), AM 12 11, ⟨some 13, .mv (.t 1), some (12, false), []⟩, ⟨some 14, .len (.t 13), some (12, false), []⟩, ⟨some 15, .mv (.t 2), some (12, false), []⟩, ⟨some 16, .bin .gtr (.t 14) (.t 15), some (12, false), []⟩, AO 17 (.pick (.t 12) (.c (.bool true)) (.t 16))]).seq (ACode.cond (.t 17) ((AR [AO 6 (.mv (.c (.bool false)))]).seq ACode.ret) ACode.skip)).seq (((AR [AO 7 (.mv (.c (.int .i64 (0))))]).seq (ACode.block 0 (((AR [AM 18 7, AM 19 0, AO 20 (.len (.t 19)), AO 21 (.bin .lss (.t 18) (.t 20))]).seq (ACode.cond (.t 21) ACode.skip (ACode.exit 0))).seq ((ACode.block 1 ((AR [AM 24 0, AM 25 7, AO 26 (.idxAddr 3 (.t 24) (.t 25)), AO 27 (.fieldAddr 0 (.t 26)), AO 28 (.load 1 false (.t 27)), AO 29 (.lenStr (.t 28)), AO 30 (.bin .gtr (.t 29) (.c (.int .i64 (100))))]).seq (ACode.cond (.t 30) ((AR [AO 6 (.mv (.c (.bool false)))]).seq ACode.ret) ACode.skip))).seq (AR [AM 22 7, AO 23 (.bin .add (.t 22) (.c (.int .i64 (1)))), AM 7 23]))).loop)).seq (((AR [AO 8 (.mv (.c (.int .i64 (0))))]).seq (ACode.block 2 (((AR [AM 31 8, AM 32 1, AO 33 (.len (.t 32)), AO 34 (.bin .lss (.t 31) (.t 33))]).seq (ACode.cond (.t 34) ACode.skip (ACode.exit 2))).seq ((ACode.block 3 ((AR [AM 37 1, AM 38 8, AO 39 (.idxAddr 8 (.t 37) (.t 38)), AO 40 (.fieldAddr 0 (.t 39)), AO 41 (.load 1 false (.t 40)), AO 42 (.lenStr (.t 41)), AO 43 (.bin .gtr (.t 42) (.c (.int .i64 (100)))), AM 44 43, ⟨some 45, .mv (.t 1), some (44, false), []⟩, ⟨some 46, .mv (.t 8), some (44, false), []⟩, ⟨some 47, .idxAddr 8 (.t 45) (.t 46), some (44, false), []⟩, ⟨some 48, .fieldAddr 1 (.t 47), some (44, false), []⟩, ⟨some 49, .load 1 false (.t 48), some (44, false), []⟩, ⟨some 50, .lenStr (.t 49), some (44, false), []⟩, ⟨some 51, .bin .gtr (.t 50) (.c (.int .i64 (100))), some (44, false), []⟩, AO 52 (.pick (.t 44) (.c (.bool true)) (.t 51))]).seq (ACode.cond (.t 52) ((AR [AO 6 (.mv (.c (.bool false)))]).seq ACode.ret) ACode.skip))).seq (AR [AM 35 8, AO 36 (.bin .add (.t 35) (.c (.int .i64 (1)))), AM 8 36]))).loop)).seq ((AR [AO 6 (.mv (.c (.bool true)))]).seq ACode.ret)))))
theorem Tryz.F10 : FnFacts Tryz.prog 10 Tryz.f10 Tryz.ac10 53 [.tmp 6] := ⟨Tryz.func10, by kernel_rfl, by kernel_rfl, by kernel_rfl, by kernel_rfl, by kernel_rfl, by kernel_rfl, by kernel_rfl⟩
def Tryz.ac11 : ACode := ((AR [AO 0 (.mv (.c (.bool false)))]).seq ((AR [AO 12 (.build [.string ⟨⟨[]⟩⟩, .int .i64 (0), .int .i64 (0)] [(0, 1, .c (.string ⟨⟨[(68 : UInt8)]⟩⟩)), (1, 1, .c (.int .i64 (300))), (2, 1, .c (.int .i64 (50)))]), AO 13 (.buildSlice 53 3 [.t 12]), AM 1 13]).seq ((AR [AO 14 (.build [.int .i64 (0), .int .i64 (0)] [(0, 1, .c (.int .i64 (0))), (1, 1, .c (.int .i64 (100)))]), AO 15 (.build [.string ⟨⟨[]⟩⟩, .string ⟨⟨[]⟩⟩, .int .i64 (0), .int .i64 (0), .int .i64 (0), .int .i64 (0), .int .i64 (0), .int .i64 (0)] [(0, 1, .c (.string ⟨⟨[(72 : UInt8), (49 : UInt8)]⟩⟩)), (1, 1, .c (.string ⟨⟨[(68 : UInt8)]⟩⟩)), (4, 1, .c (.int .i64 (200))), (5, 1, .c (.int .i64 (30))), (6, 2, .t 14)]), AO 16 (.buildSlice 43 8 [.t 15]), AM 2 16]).seq ((AR [AO 17 (.build [.int .i64 (0), .int .i64 (0)] [(0, 1, .c (.int .i64 (20)))]), AO 18 (.build [.string ⟨⟨[]⟩⟩, .string ⟨⟨[]⟩⟩, .int .i64 (0), .int .i64 (0), .int .i64 (0), .int .i64 (0), .int .i64 (0), .int .i64 (0)] [(0, 1, .c (.string ⟨⟨[(72 : UInt8), (50 : UInt8)]⟩⟩)), (4, 1, .c (.int .i64 (100))), (5, 1, .c (.int .i64 (30))), (6, 2, .t 17)]), AO 3 (.alloc [.string ⟨⟨[]⟩⟩, .string ⟨⟨[]⟩⟩, .int .i64 (0), .int .i64 (0), .int .i64 (0), .int .i64 (0), .int .i64 (0), .int .i64 (0)]), ⟨none, .store 8 (.t 3) (.t 18), none, []⟩]).seq ((AR [AM 20 1, AM 21 2, AO 22 (.load 8 true (.t 3)), AO 23 (.call 20 [.t 20, .t 21, .t 22, .c (.int .i64 (60))]), AM 19 23, AO 24 (.extract (.t 19) 0), AO 25 (.extract (.t 19) 1), AO 4 (.alloc [.string ⟨⟨[]⟩⟩, .string ⟨⟨[]⟩⟩, .int .i64 (0), .int .i64 (0), .int .i64 (0), .int .i64 (0), .int .i64 (0), .int .i64 (0)]), ⟨none, .store 8 (.t 4) (.t 24), none, []⟩, AM 5 25]).seq ((AR [AM 27 1, AM 28 2, AO 29 (.load 8 true (.t 3)), AO 30 (.call 20 [.t 27, .t 28, .t 29, .c (.int .i64 (90))]), AM 26 30, AO 31 (.extract (.t 26) 0), AO 32 (.extract (.t 26) 1), AO 6 (.alloc [.string ⟨⟨[]⟩⟩, .string ⟨⟨[]⟩⟩, .int .i64 (0), .int .i64 (0), .int .i64 (0), .int .i64 (0), .int .i64 (0), .int .i64 (0)]), ⟨none, .store 8 (.t 6) (.t 31), none, []⟩, AM 7 32]).seq (((AR [AM 33 5, AO 34 (.bin .neq (.t 33) (.c (.int .i64 (0)))), AM 35 34, ⟨some 36, .mv (.t 7), some (35, false), []⟩, ⟨some 37, .bin .neq (.t 36) (.c (.int .i64 (0))), some (35, false), []⟩, AO 38 (.pick (.t 35) (.c (.bool true)) (.t 37)), AM 39 38, ⟨some 40, .load 8 true (.t 4), some (39, false), []⟩, ⟨some 41, .build [.int .i64 (0), .int .i64 (0)] [(0, 1, .c (.int .i64 (200)))], some (39, false), []⟩, ⟨some 42, .build [.int .i64 (0), .int .i64 (0)] [(0, 1, .c (.int .i64 (20))), (1, 1, .c (.int .i64 (100)))], some (39, false), []⟩, ⟨some 43, .build [.string ⟨⟨[]⟩⟩, .string ⟨⟨[]⟩⟩, .int .i64 (0), .int .i64 (0), .int .i64 (0), .int .i64 (0), .int .i64 (0), .int .i64 (0)] [(0, 1, .c (.string ⟨⟨[(72 : UInt8), (50 : UInt8)]⟩⟩)), (1, 1, .c (.string ⟨⟨[(68 : UInt8)]⟩⟩)), (2, 2, .t 41), (4, 1, .c (.int .i64 (100))), (5, 1, .c (.int .i64 (30))), (6, 2, .t 42)], some (39, false), []⟩, ⟨some 44, .eqAgg true [2, 2, 0, 0, 0, 0, 0, 0] (.t 40) (.t 43), some (39, false), []⟩, AO 45 (.pick (.t 39) (.c (.bool true)) (.t 44)), AM 46 45, ⟨some 47, .fieldAddr 2 (.t 6), some (46, false), []⟩, ⟨some 48, .load 2 true (.t 47), some (46, false), []⟩, ⟨some 49, .build [.int .i64 (0), .int .i64 (0)] [], some (46, false), []⟩, ⟨some 50, .eqAgg true [0, 0] (.t 48) (.t 49), some (46, false), []⟩, AO 51 (.pick (.t 46) (.c (.bool true)) (.t 50)), AM 52 51, ⟨some 53, .fieldAddr 6 (.t 6), some (52, false), []⟩, ⟨some 54, .load 2 true (.t 53), some (52, false), []⟩, ⟨some 55, .build [.int .i64 (0), .int .i64 (0)] [(0, 1, .c (.int .i64 (100))), (1, 1, .c (.int .i64 (190)))], some (52, false), []⟩, ⟨some 56, .eqAgg true [0, 0] (.t 54) (.t 55), some (52, false), []⟩, AO 57 (.pick (.t 52) (.c (.bool true)) (.t 56))]).seq (ACode.cond (.t 57) ((AR [AO 0 (.mv (.c (.bool false)))]).seq ACode.ret) ACode.skip)).seq ((AR [AM 58 2, AO 59 (.load 8 true (.t 4)), AO 60 (.buildSlice 43 8 [.t 59]), AO 61 (.append 43 8 80 (.t 58) (.t 60)), AM 8 61]).seq ((AR [AM 63 1, AM 64 8, AO 65 (.call 22 [.t 63, .t 64, .c (.string ⟨⟨[(72 : UInt8), (49 : UInt8)]⟩⟩), .c (.int .i64 (10))]), AM 62 65, AO 66 (.extract (.t 62) 0), AO 67 (.extract (.t 62) 1), AM 9 66, AM 10 67]).seq ((AR [AO 68 (.load 8 true (.t 4)), AO 11 (.alloc [.string ⟨⟨[]⟩⟩, .string ⟨⟨[]⟩⟩, .int .i64 (0), .int .i64 (0), .int .i64 (0), .int .i64 (0), .int .i64 (0), .int .i64 (0)]), ⟨none, .store 8 (.t 11) (.t 68), none, []⟩]).seq ((AR [AO 69 (.fieldAddr 6 (.t 11)), AO 70 (.fieldAddr 1 (.t 69)), ⟨none, .store 1 (.t 70) (.c (.int .i64 (80))), none, []⟩]).seq ((AR [AM 71 10, AO 72 (.bin .eql (.t 71) (.c (.int .i64 (0)))), AM 73 72, ⟨some 74, .mv (.t 9), some (73, true), []⟩, ⟨some 75, .len (.t 74), some (73, true), []⟩, ⟨some 76, .bin .eql (.t 75) (.c (.int .i64 (2))), some (73, true), []⟩, AO 77 (.pick (.t 73) (.t 76) (.c (.bool false))), AM 78 77, ⟨some 79, .mv (.t 9), some (78, true), []⟩, ⟨some 80, .idxAddr 8 (.t 79) (.c (.int .i64 (0))), some (78, true), []⟩, ⟨some 81, .fieldAddr 6 (.t 80), some (78, true), []⟩, ⟨some 82, .fieldAddr 1 (.t 81), some (78, true), []⟩, ⟨some 83, .load 1 false (.t 82), some (78, true), []⟩, ⟨some 84, .bin .eql (.t 83) (.c (.int .i64 (110))), some (78, true), []⟩, AO 85 (.pick (.t 78) (.t 84) (.c (.bool false))), AM 86 85, ⟨some 87, .mv (.t 9), some (86, true), []⟩, ⟨some 88, .idxAddr 8 (.t 87) (.c (.int .i64 (1))), some (86, true), []⟩, ⟨some 89, .fieldAddr 6 (.t 88), some (86, true), []⟩, ⟨some 90, .fieldAddr 1 (.t 89), some (86, true), []⟩, ⟨some 91, .load 1 false (.t 90), some (86, true), []⟩, ⟨some 92, .bin .eql (.t 91) (.c (.int .i64 (110))), some (86, true), []⟩, AO 93 (.pick (.t 86) (.t 92) (.c (.bool false))), AM 94 93, ⟨some 95, .mv (.t 1), some (94, true), []⟩, ⟨some 96, .mv (.t 2), some (94, true), []⟩, ⟨some 97, .load 8 true (.t 11), some (94, true), []⟩, ⟨some 98, .buildSlice 43 8 [.t 97], some (94, true), []⟩, ⟨some 99, .append 43 8 80 (.t 96) (.t 98), some (94, true), []⟩, ⟨some 100, .call 12 [.t 95, .t 99], some (94, true), []⟩, ⟨some 101, .bin .eql (.t 100) (.c (.int .i64 (14))), some (94, true), []⟩, AO 102 (.pick (.t 94) (.t 101) (.c (.bool false))), AM 103 102, ⟨some 104, .mv (.t 8), some (103, true), []⟩, ⟨some 105, .call 15 [.t 104, .c (.string ⟨⟨[(68 : UInt8)]⟩⟩)], some (103, true), []⟩, ⟨some 106, .buildSlice 3 1 [.c (.int .i64 (100))], some (103, true), []⟩, ⟨some 107, .call 14 [.t 105, .t 106], some (103, true), []⟩, AO 108 (.pick (.t 103) (.t 107) (.c (.bool false))), AM 109 108, ⟨some 110, .mv (.t 8), some (109, true), []⟩, ⟨some 111, .load 8 true (.t 6), some (109, true), []⟩, ⟨some 112, .buildSlice 43 8 [.t 111], some (109, true), []⟩, ⟨some 113, .append 43 8 80 (.t 110) (.t 112), some (109, true), []⟩, ⟨some 114, .build [.int .i64 (0), .int .i64 (0)] [(0, 1, .c (.int .i64 (10))), (1, 1, .c (.int .i64 (120)))], some (109, true), []⟩, ⟨some 115, .call 18 [.t 113, .c (.string ⟨⟨[(68 : UInt8)]⟩⟩), .t 114], some (109, true), []⟩, ⟨some 116, .build [.int .i64 (0), .int .i64 (0)] [(0, 1, .c (.int .i64 (10))), (1, 1, .c (.int .i64 (100)))], some (109, true), []⟩, ⟨some 117, .build [.int .i64 (0), .int .i64 (0)] [(0, 1, .c (.int .i64 (101))), (1, 1, .c (.int .i64 (120)))], some (109, true), []⟩, ⟨some 118, .buildSlice 30 2 [.t 116, .t 117], some (109, true), []⟩, ⟨some 119, .call 17 [.t 115, .t 118], some (109, true), []⟩, AO 120 (.pick (.t 109) (.t 119) (.c (.bool false))), AM 0 120]).seq ACode.ret))))))))))))
theorem Tryz.F11 : FnFacts Tryz.prog 11 Tryz.f11 Tryz.ac11 121 [.tmp 0] := ⟨Tryz.func11, by kernel_rfl, by kernel_rfl, by kernel_rfl, by kernel_rfl, by kernel_rfl, by kernel_rfl, by kernel_rfl⟩
def Tryz.ac12 : ACode := ((AR [AO 4 (.mv (.c (.int .i64 (0))))]).seq (((AR [AM 12 0, AM 13 1, AO 14 (.call 27 [.t 13]), AO 15 (.call 26 [.t 12, .t 14]), AM 5 15]).seq ((AR [AM 16 5, AO 17 (.bin .neq (.t 16) (.c (.int .i64 (0))))]).seq (ACode.cond (.t 17) ((AR [AM 18 5, AM 4 18]).seq ACode.ret) ACode.skip))).seq (((AR [AM 19 1, AO 20 (.len (.t 19)), AO 21 (.mv (.c (.int .i64 (0))))]).seq (ACode.block 0 ((AR [AO 22 (.bin .lss (.t 21) (.t 20))]).seq ((ACode.cond (.t 22) ACode.skip (ACode.exit 0)).seq ((ACode.block 1 ((AR [AM 23 21, AO 24 (.idxAddr 8 (.t 19) (.t 21)), AO 25 (.load 8 true (.t 24)), AO 7 (.alloc [.string ⟨⟨[]⟩⟩, .string ⟨⟨[]⟩⟩, .int .i64 (0), .int .i64 (0), .int .i64 (0), .int .i64 (0), .int .i64 (0), .int .i64 (0)]), AM 6 23, ⟨none, .store 8 (.t 7) (.t 25), none, []⟩]).seq ((AR [AM 26 1, AM 27 6, AO 28 (.slice 8 (.t 26) none (some (.t 27))), AO 29 (.mkfn 29 [.t 7]), AO 30 (.call 28 [.t 28, .t 29])]).seq (ACode.cond (.t 30) ((AR [AO 4 (.mv (.c (.int .i64 (7))))]).seq ACode.ret) ACode.skip)))).seq (AR [AO 31 (.bin .add (.t 21) (.c (.int .i64 (1)))), AM 21 31])))).loop)).seq (((AR [AM 32 1, AO 33 (.len (.t 32)), AO 34 (.mv (.c (.int .i64 (0))))]).seq (ACode.block 2 ((AR [AO 35 (.bin .lss (.t 34) (.t 33))]).seq ((ACode.cond (.t 35) ACode.skip (ACode.exit 2)).seq ((ACode.block 3 ((AR [AO 36 (.idxAddr 8 (.t 32) (.t 34)), AO 37 (.load 8 true (.t 36)), AO 9 (.alloc [.string ⟨⟨[]⟩⟩, .string ⟨⟨[]⟩⟩, .int .i64 (0), .int .i64 (0), .int .i64 (0), .int .i64 (0), .int .i64 (0), .int .i64 (0)]), ⟨none, .store 8 (.t 9) (.t 37), none, []⟩]).seq ((AR [AM 38 1, AO 39 (.len (.t 38)), AO 40 (.mv (.c (.int .i64 (0))))]).seq (ACode.block 4 ((AR [AO 41 (.bin .lss (.t 40) (.t 39))]).seq ((ACode.cond (.t 41) ACode.skip (ACode.exit 4)).seq ((ACode.block 5 ((AR [AO 42 (.idxAddr 8 (.t 38) (.t 40)), AO 43 (.load 8 true (.t 42)), AO 11 (.alloc [.string ⟨⟨[]⟩⟩, .string ⟨⟨[]⟩⟩, .int .i64 (0), .int .i64 (0), .int .i64 (0), .int .i64 (0), .int .i64 (0), .int .i64 (0)]), ⟨none, .store 8 (.t 11) (.t 43), none, []⟩]).seq ((AR [AO 44 (.fieldAddr 1 (.t 11)), AO 45 (.load 1 false (.t 44)), AO 46 (.fieldAddr 1 (.t 9)), AO 47 (.load 1 false (.t 46)), AO 48 (.bin .eql (.t 45) (.t 47)), AM 49 48, ⟨some 50, .fieldAddr 6 (.t 11), some (49, true), []⟩, ⟨some 51, .fieldAddr 1 (.t 50), some (49, true), []⟩, ⟨some 52, .load 1 false (.t 51), some (49, true), []⟩, ⟨some 53, .fieldAddr 6 (.t 9), some (49, true), []⟩, ⟨some 54, .fieldAddr 0 (.t 53), some (49, true), []⟩, ⟨some 55, .load 1 false (.t 54), some (49, true), []⟩, ⟨some 56, .bin .gtr (.t 52) (.t 55), some (49, true), []⟩, AO 57 (.pick (.t 49) (.t 56) (.c (.bool false))), AM 58 57, ⟨some 59, .fieldAddr 6 (.t 11), some (58, true), []⟩, ⟨some 60, .fieldAddr 1 (.t 59), some (58, true), []⟩, ⟨some 61, .load 1 false (.t 60), some (58, true), []⟩, ⟨some 62, .fieldAddr 6 (.t 9), some (58, true), []⟩, ⟨some 63, .fieldAddr 1 (.t 62), some (58, true), []⟩, ⟨some 64, .load 1 false (.t 63), some (58, true), []⟩, ⟨some 65, .bin .lss (.t 61) (.t 64), some (58, true), []⟩, AO 66 (.pick (.t 58) (.t 65) (.c (.bool false)))]).seq (ACode.cond (.t 66) ((AR [AO 4 (.mv (.c (.int .i64 (14))))]).seq ACode.ret) ACode.skip)))).seq (AR [AO 67 (.bin .add (.t 40) (.c (.int .i64 (1)))), AM 40 67])))).loop)))).seq (AR [AO 68 (.bin .add (.t 34) (.c (.int .i64 (1)))), AM 34 68])))).loop)).seq ((AR [AO 4 (.mv (.c (.int .i64 (0))))]).seq ACode.ret)))))
theorem Tryz.F12 : FnFacts Tryz.prog 12 Tryz.f12 Tryz.ac12 69 [.tmp 4] := ⟨Tryz.func12, by kernel_rfl, by kernel_rfl, by kernel_rfl, by kernel_rfl, by kernel_rfl, by kernel_rfl, by kernel_rfl⟩
def Tryz.ac14 : ACode := ((AR [AO 4 (.mv (.c (.bool false)))]).seq (((AR [AM 6 0, AO 7 (.len (.t 6)), AM 8 1, AO 9 (.len (.t 8)), AO 10 (.bin .neq (.t 7) (.t 9))]).seq (ACode.cond (.t 10) ((AR [AO 4 (.mv (.c (.bool false)))]).seq ACode.ret) ACode.skip)).seq (((AR [AO 5 (.mv (.c (.int .i64 (0))))]).seq (ACode.block 0 (((AR [AM 11 5, AM 12 0, AO 13 (.len (.t 12)), AO 14 (.bin .lss (.t 11) (.t 13))]).seq (ACode.cond (.t 14) ACode.skip (ACode.exit 0))).seq ((ACode.block 1 ((ACode.region true [AM 17 0, AM 18 5, ⟨some 19, .idxAddr 1 (.t 17) (.t 18), none, [0, 1]⟩, ⟨some 20, .load 1 false (.t 19), none, [2]⟩, AM 21 1, AM 22 5, ⟨some 23, .idxAddr 1 (.t 21) (.t 22), none, [4, 5]⟩, ⟨some 24, .load 1 false (.t 23), none, [6]⟩, ⟨some 25, .bin .neq (.t 20) (.t 24), none, [3, 7]⟩]).seq (ACode.cond (.t 25) ((AR [AO 4 (.mv (.c (.bool false)))]).seq ACode.ret) ACode.skip))).seq (AR [AM 15 5, AO 16 (.bin .add (.t 15) (.c (.int .i64 (1)))), AM 5 16]))).loop)).seq ((AR [AO 4 (.mv (.c (.bool true)))]).seq ACode.ret))))
theorem Tryz.F14 : FnFacts Tryz.prog 14 Tryz.f14 Tryz.ac14 26 [.tmp 4] := ⟨Tryz.func14, by kernel_rfl, by kernel_rfl, by kernel_rfl, by kernel_rfl, by kernel_rfl, by kernel_rfl, by kernel_rfl⟩
def Tryz.ac15 : ACode := ((AR [AO 4 (.mv (.c (.slice none 0 0)))]).seq ((AR [AO 5 (.mv (.c (.slice none 0 0)))]).seq (((AR [AM 8 0, AO 9 (.len (.t 8)), AO 10 (.mv (.c (.int .i64 (0))))]).seq (ACode.block 0 ((AR [AO 11 (.bin .lss (.t 10) (.t 9))]).seq ((ACode.cond (.t 11) ACode.skip (ACode.exit 0)).seq ((ACode.block 1 ((AR [AO 12 (.idxAddr 8 (.t 8) (.t 10)), AO 13 (.load 8 true (.t 12)), AO 7 (.alloc [.string ⟨⟨[]⟩⟩, .string ⟨⟨[]⟩⟩, .int .i64 (0), .int .i64 (0), .int .i64 (0), .int .i64 (0), .int .i64 (0), .int .i64 (0)]), ⟨none, .store 8 (.t 7) (.t 13), none, []⟩]).seq ((AR [AO 14 (.fieldAddr 1 (.t 7)), AO 15 (.load 1 false (.t 14)), AM 16 1, AO 17 (.bin .eql (.t 15) (.t 16))]).seq (ACode.cond (.t 17) (AR [AM 18 5, AO 19 (.fieldAddr 6 (.t 7)), AO 20 (.fieldAddr 1 (.t 19)), AO 21 (.load 1 false (.t 20)), AO 22 (.buildSlice 3 1 [.t 21]), AO 23 (.append 3 1 8 (.t 18) (.t 22)), AM 5 23]) ACode.skip)))).seq (AR [AO 24 (.bin .add (.t 10) (.c (.int .i64 (1)))), AM 10 24])))).loop)).seq ((AR [AM 25 5, AO 26 (.call 33 [.t 25])]).seq ((AR [AM 27 5, AO 28 (.call 34 [.t 27]), AM 4 28]).seq ACode.ret)))))
theorem Tryz.F15 : FnFacts Tryz.prog 15 Tryz.f15 Tryz.ac15 29 [.tmp 4] := ⟨Tryz.func15, by kernel_rfl, by kernel_rfl, by kernel_rfl, by kernel_rfl, by kernel_rfl, by kernel_rfl, by kernel_rfl⟩
def Tryz.ac17 : ACode := ((AR [AO 4 (.mv (.c (.bool false)))]).seq (((AR [AM 6 0, AO 7 (.len (.t 6)), AM 8 1, AO 9 (.len (.t 8)), AO 10 (.bin .neq (.t 7) (.t 9))]).seq (ACode.cond (.t 10) ((AR [AO 4 (.mv (.c (.bool false)))]).seq ACode.ret) ACode.skip)).seq (((AR [AO 5 (.mv (.c (.int .i64 (0))))]).seq (ACode.block 0 (((AR [AM 11 5, AM 12 0, AO 13 (.len (.t 12)), AO 14 (.bin .lss (.t 11) (.t 13))]).seq (ACode.cond (.t 14) ACode.skip (ACode.exit 0))).seq ((ACode.block 1 ((ACode.region true [AM 17 0, AM 18 5, ⟨some 19, .idxAddr 2 (.t 17) (.t 18), none, [0, 1]⟩, ⟨some 20, .load 2 true (.t 19), none, [2]⟩, AM 21 1, AM 22 5, ⟨some 23, .idxAddr 2 (.t 21) (.t 22), none, [4, 5]⟩, ⟨some 24, .load 2 true (.t 23), none, [6]⟩, ⟨some 25, .eqAgg true [0, 0] (.t 20) (.t 24), none, [3, 7]⟩]).seq (ACode.cond (.t 25) ((AR [AO 4 (.mv (.c (.bool false)))]).seq ACode.ret) ACode.skip))).seq (AR [AM 15 5, AO 16 (.bin .add (.t 15) (.c (.int .i64 (1)))), AM 5 16]))).loop)).seq ((AR [AO 4 (.mv (.c (.bool true)))]).seq ACode.ret))))
theorem Tryz.F17 : FnFacts Tryz.prog 17 Tryz.f17 Tryz.ac17 26 [.tmp 4] := ⟨Tryz.func17, by kernel_rfl, by kernel_rfl, by kernel_rfl, by kernel_rfl, by kernel_rfl, by kernel_rfl, by kernel_rfl⟩
def Tryz.ac18 : ACode := ((AR [AO 5 (.box 2 (.t 2)), AO 6 (.mv (.c (.slice none 0 0)))]).seq ((AR [AO 7 (.mv (.c (.slice none 0 0))), AO 8 (.mv (.c (.slice none 0 0)))]).seq (((AR [AM 13 0, AO 14 (.len (.t 13)), AO 15 (.mv (.c (.int .i64 (0))))]).seq (ACode.block 0 ((AR [AO 16 (.bin .lss (.t 15) (.t 14))]).seq ((ACode.cond (.t 16) ACode.skip (ACode.exit 0)).seq ((ACode.block 1 ((AR [AO 17 (.idxAddr 8 (.t 13) (.t 15)), AO 18 (.load 8 true (.t 17)), AO 10 (.alloc [.string ⟨⟨[]⟩⟩, .string ⟨⟨[]⟩⟩, .int .i64 (0), .int .i64 (0), .int .i64 (0), .int .i64 (0), .int .i64 (0), .int .i64 (0)]), ⟨none, .store 8 (.t 10) (.t 18), none, []⟩]).seq ((AR [AO 19 (.fieldAddr 1 (.t 10)), AO 20 (.load 1 false (.t 19)), AM 21 1, AO 22 (.bin .eql (.t 20) (.t 21))]).seq (ACode.cond (.t 22) (AR [AM 23 7, AO 24 (.fieldAddr 6 (.t 10)), AO 25 (.load 2 true (.t 24)), AO 26 (.buildSlice 30 2 [.t 25]), AO 27 (.append 30 2 16 (.t 23) (.t 26)), AM 7 27]) ACode.skip)))).seq (AR [AO 28 (.bin .add (.t 15) (.c (.int .i64 (1)))), AM 15 28])))).loop)).seq (((AR [AM 29 0, AM 30 1, AO 31 (.call 15 [.t 29, .t 30]), AO 32 (.len (.t 31)), AO 33 (.mv (.c (.int .i64 (0))))]).seq (ACode.block 2 ((AR [AO 34 (.bin .lss (.t 33) (.t 32))]).seq ((ACode.cond (.t 34) ACode.skip (ACode.exit 2)).seq ((ACode.block 3 ((AR [AO 35 (.idxAddr 1 (.t 31) (.t 33)), AO 36 (.load 1 false (.t 35)), AM 12 36]).seq ((AR [AM 37 12, AO 38 (.bin .lss (.t 37) (.c (.int .i64 (9223372036854775807))))]).seq (ACode.cond (.t 38) (AR [AM 39 8, AM 40 12, AM 41 12, AO 42 (.bin .add (.t 41) (.c (.int .i64 (1)))), AO 43 (.build [.int .i64 (0), .int .i64 (0)] [(0, 1, .t 40), (1, 1, .t 42)]), AO 44 (.buildSlice 30 2 [.t 43]), AO 45 (.append 30 2 16 (.t 39) (.t 44)), AM 8 45]) ACode.skip)))).seq (AR [AO 46 (.bin .add (.t 33) (.c (.int .i64 (1)))), AM 33 46])))).loop)).seq ((AR [AM 47 7, AO 48 (.load 2 true (.t 5)), AO 49 (.buildSlice 30 2 [.t 48]), AO 50 (.call 37 [.t 47, .t 49]), AM 51 8, AO 52 (.call 36 [.t 50, .t 51]), AM 6 52]).seq ACode.ret)))))
theorem Tryz.F18 : FnFacts Tryz.prog 18 Tryz.f18 Tryz.ac18 53 [.tmp 6] := ⟨Tryz.func18, by kernel_rfl, by kernel_rfl, by kernel_rfl, by kernel_rfl, by kernel_rfl, by kernel_rfl, by kernel_rfl⟩
def Tryz.ac20 : ACode := ((AR [AO 6 (.box 8 (.t 2)), AO 8 (.alloc [.string ⟨⟨[]⟩⟩, .string ⟨⟨[]⟩⟩, .int .i64 (0), .int .i64 (0), .int .i64 (0), .int .i64 (0), .int .i64 (0), .int .i64 (0)]), AO 9 (.mv (.c (.int .i64 (0))))]).seq (((AR [AM 20 0, AM 21 1, AO 22 (.call 12 [.t 20, .t 21]), AM 10 22]).seq ((AR [AM 23 10, AO 24 (.bin .neq (.t 23) (.c (.int .i64 (0))))]).seq (ACode.cond (.t 24) ((AR [AO 25 (.build [.string ⟨⟨[]⟩⟩, .string ⟨⟨[]⟩⟩, .int .i64 (0), .int .i64 (0), .int .i64 (0), .int .i64 (0), .int .i64 (0), .int .i64 (0)] []), AM 26 10, ⟨none, .store 8 (.t 8) (.t 25), none, []⟩, AM 9 26]).seq ACode.ret) ACode.skip))).seq ((ACode.block 0 ((AR [AO 28 (.fieldAddr 0 (.t 6)), AO 29 (.load 1 false (.t 28)), AO 30 (.call 40 [.t 29]), AO 31 (.un .not (.t 30)), AM 27 31]).seq (ACode.cond (.t 27) ((AR [AO 32 (.build [.string ⟨⟨[]⟩⟩, .string ⟨⟨[]⟩⟩, .int .i64 (0), .int .i64 (0), .int .i64 (0), .int .i64 (0), .int .i64 (0), .int .i64 (0)] []), ⟨none, .store 8 (.t 8) (.t 32), none, []⟩, AO 9 (.mv (.c (.int .i64 (6))))]).seq ACode.ret) ((AR [AM 34 1, AO 35 (.mkfn 41 [.t 6]), AO 36 (.call 28 [.t 34, .t 35]), AM 33 36]).seq (ACode.cond (.t 33) ((AR [AO 37 (.build [.string ⟨⟨[]⟩⟩, .string ⟨⟨[]⟩⟩, .int .i64 (0), .int .i64 (0), .int .i64 (0), .int .i64 (0), .int .i64 (0), .int .i64 (0)] []), ⟨none, .store 8 (.t 8) (.t 37), none, []⟩, AO 9 (.mv (.c (.int .i64 (7))))]).seq ACode.ret) ((AR [AO 39 (.fieldAddr 4 (.t 6)), AO 40 (.load 1 false (.t 39)), AO 41 (.call 42 [.t 40, .c (.int .i64 (1)), .c (.int .i64 (524288))]), AO 42 (.un .not (.t 41)), AM 43 42, ⟨some 44, .fieldAddr 5 (.t 6), some (43, false), []⟩, ⟨some 45, .load 1 false (.t 44), some (43, false), []⟩, ⟨some 46, .call 42 [.t 45, .c (.int .i64 (1)), .c (.int .i64 (524288))], some (43, false), []⟩, ⟨some 47, .un .not (.t 46), some (43, false), []⟩, AO 48 (.pick (.t 43) (.c (.bool true)) (.t 47)), AM 49 48, ⟨some 50, .mv (.t 3), some (49, false), []⟩, ⟨some 51, .call 42 [.t 50, .c (.int .i64 (1)), .c (.int .i64 (1048576))], some (49, false), []⟩, ⟨some 52, .un .not (.t 51), some (49, false), []⟩, AO 53 (.pick (.t 49) (.c (.bool true)) (.t 52)), AM 54 53, ⟨some 55, .fieldAddr 6 (.t 6), some (54, false), []⟩, ⟨some 56, .fieldAddr 0 (.t 55), some (54, false), []⟩, ⟨some 57, .load 1 false (.t 56), some (54, false), []⟩, ⟨some 58, .call 42 [.t 57, .c (.int .i64 (0)), .c (.int .i64 (1048576))], some (54, false), []⟩, ⟨some 59, .un .not (.t 58), some (54, false), []⟩, AO 60 (.pick (.t 54) (.c (.bool true)) (.t 59)), AM 38 60]).seq (ACode.cond (.t 38) ((AR [AO 61 (.build [.string ⟨⟨[]⟩⟩, .string ⟨⟨[]⟩⟩, .int .i64 (0), .int .i64 (0), .int .i64 (0), .int .i64 (0), .int .i64 (0), .int .i64 (0)] []), ⟨none, .store 8 (.t 8) (.t 61), none, []⟩, AO 9 (.mv (.c (.int .i64 (9))))]).seq ACode.ret) ((AR [AM 63 1, AO 64 (.len (.t 63)), AO 65 (.bin .geq (.t 64) (.c (.int .i64 (128)))), AM 62 65]).seq (ACode.cond (.t 62) ((AR [AO 66 (.build [.string ⟨⟨[]⟩⟩, .string ⟨⟨[]⟩⟩, .int .i64 (0), .int .i64 (0), .int .i64 (0), .int .i64 (0), .int .i64 (0), .int .i64 (0)] []), ⟨none, .store 8 (.t 8) (.t 66), none, []⟩, AO 9 (.mv (.c (.int .i64 (12))))]).seq ACode.ret) ACode.skip))))))))).seq (((AR [AM 67 1, AO 68 (.fieldAddr 6 (.t 6)), AO 69 (.fieldAddr 0 (.t 68)), AO 70 (.load 1 false (.t 69)), AO 71 (.call 43 [.t 67, .t 70]), AO 72 (.len (.t 71)), AO 73 (.mv (.c (.int .i64 (0))))]).seq (ACode.block 1 ((AR [AO 74 (.bin .lss (.t 73) (.t 72))]).seq ((ACode.cond (.t 74) ACode.skip (ACode.exit 1)).seq ((ACode.block 2 ((AR [AO 75 (.idxAddr 1 (.t 71) (.t 73)), AO 76 (.load 1 false (.t 75)), AM 12 76]).seq ((AR [AM 77 0, AO 78 (.len (.t 77)), AO 79 (.mv (.c (.int .i64 (0))))]).seq (ACode.block 3 ((AR [AO 80 (.bin .lss (.t 79) (.t 78))]).seq ((ACode.cond (.t 80) ACode.skip (ACode.exit 3)).seq ((ACode.block 4 ((AR [AO 81 (.idxAddr 3 (.t 77) (.t 79)), AO 82 (.load 3 true (.t 81)), AO 14 (.alloc [.string ⟨⟨[]⟩⟩, .int .i64 (0), .int .i64 (0)]), ⟨none, .store 3 (.t 14) (.t 82), none, []⟩]).seq ((AR [AM 83 1, AM 84 12, AM 85 3, AO 86 (.bin .add (.t 84) (.t 85)), AO 87 (.call 43 [.t 83, .t 86]), AO 88 (.len (.t 87)), AO 89 (.mv (.c (.int .i64 (0))))]).seq (ACode.block 5 ((AR [AO 90 (.bin .lss (.t 89) (.t 88))]).seq ((ACode.cond (.t 90) ACode.skip (ACode.exit 5)).seq ((ACode.block 6 ((AR [AO 91 (.idxAddr 1 (.t 87) (.t 89)), AO 92 (.load 1 false (.t 91)), AM 16 92]).seq ((AR [AO 93 (.fieldAddr 0 (.t 6)), AO 94 (.load 1 false (.t 93)), AO 95 (.fieldAddr 0 (.t 14)), AO 96 (.load 1 false (.t 95)), AO 97 (.fieldAddr 4 (.t 6)), AO 98 (.load 1 false (.t 97)), AO 99 (.fieldAddr 5 (.t 6)), AO 100 (.load 1 false (.t 99)), AM 101 12, AM 102 16, AO 103 (.build [.int .i64 (0), .int .i64 (0)] [(0, 1, .t 101), (1, 1, .t 102)]), AO 104 (.build [.string ⟨⟨[]⟩⟩, .string ⟨⟨[]⟩⟩, .int .i64 (0), .int .i64 (0), .int .i64 (0), .int .i64 (0), .int .i64 (0), .int .i64 (0)] [(0, 1, .t 94), (1, 1, .t 96), (4, 1, .t 98), (5, 1, .t 100), (6, 2, .t 103)]), AO 17 (.alloc [.string ⟨⟨[]⟩⟩, .string ⟨⟨[]⟩⟩, .int .i64 (0), .int .i64 (0), .int .i64 (0), .int .i64 (0), .int .i64 (0), .int .i64 (0)]), ⟨none, .store 8 (.t 17) (.t 104), none, []⟩]).seq (((AR [AM 105 16, AO 106 (.bin .gtr (.t 105) (.c (.int .i64 (1048576))))]).seq (ACode.cond (.t 106) (ACode.exit 6) ACode.skip)).seq ((AR [AO 108 (.load 3 true (.t 14)), AM 109 1, AO 110 (.load 8 true (.t 17)), AO 111 (.call 44 [.t 108, .t 109, .t 110]), AM 107 111, AO 112 (.extract (.t 107) 0), AO 113 (.extract (.t 107) 1), AO 18 (.alloc [.string ⟨⟨[]⟩⟩, .string ⟨⟨[]⟩⟩, .int .i64 (0), .int .i64 (0), .int .i64 (0), .int .i64 (0), .int .i64 (0), .int .i64 (0)]), ⟨none, .store 8 (.t 18) (.t 112), none, []⟩, AM 19 113]).seq ((AR [AM 114 19]).seq (ACode.cond (.t 114) ((AR [AO 115 (.load 8 true (.t 18)), ⟨none, .store 8 (.t 8) (.t 115), none, []⟩, AO 9 (.mv (.c (.int .i64 (0))))]).seq ACode.ret) ACode.skip))))))).seq (AR [AO 116 (.bin .add (.t 89) (.c (.int .i64 (1)))), AM 89 116])))).loop)))).seq (AR [AO 117 (.bin .add (.t 79) (.c (.int .i64 (1)))), AM 79 117])))).loop)))).seq (AR [AO 118 (.bin .add (.t 73) (.c (.int .i64 (1)))), AM 73 118])))).loop)).seq ((AR [AO 119 (.build [.string ⟨⟨[]⟩⟩, .string ⟨⟨[]⟩⟩, .int .i64 (0), .int .i64 (0), .int .i64 (0), .int .i64 (0), .int .i64 (0), .int .i64 (0)] []), ⟨none, .store 8 (.t 8) (.t 119), none, []⟩, AO 9 (.mv (.c (.int .i64 (18))))]).seq ACode.ret)))))
theorem Tryz.F20 : FnFacts Tryz.prog 20 Tryz.f20 Tryz.ac20 120 [.cell 8 43, .tmp 9] := ⟨Tryz.func20, by kernel_rfl, by kernel_rfl, by kernel_rfl, by kernel_rfl, by kernel_rfl, by kernel_rfl, by kernel_rfl⟩
def Tryz.ac22 : ACode := ((AR [AO 6 (.box 1 (.t 2)), AO 8 (.mv (.c (.slice none 0 0))), AO 9 (.mv (.c (.int .i64 (0))))]).seq (((AR [AM 15 0, AM 16 1, AO 17 (.call 12 [.t 15, .t 16]), AM 10 17]).seq ((AR [AM 18 10, AO 19 (.bin .neq (.t 18) (.c (.int .i64 (0))))]).seq (ACode.cond (.t 19) ((AR [AM 20 10, AO 8 (.mv (.c (.slice none 0 0))), AM 9 20]).seq ACode.ret) ACode.skip))).seq ((AR [AM 21 1, AO 22 (.mkfn 48 [.t 6]), AO 23 (.call 47 [.t 21, .t 22]), AM 11 23]).seq (((AR [AM 24 11, AO 25 (.bin .lss (.t 24) (.c (.int .i64 (0))))]).seq (ACode.cond (.t 25) ((AR [AO 8 (.mv (.c (.slice none 0 0))), AO 9 (.mv (.c (.int .i64 (8))))]).seq ACode.ret) ACode.skip)).seq (((AR [AM 26 3, AO 27 (.call 42 [.t 26, .c (.int .i64 (0)), .c (.int .i64 (1048576))]), AO 28 (.un .not (.t 27))]).seq (ACode.cond (.t 28) ((AR [AO 8 (.mv (.c (.slice none 0 0))), AO 9 (.mv (.c (.int .i64 (9))))]).seq ACode.ret) ACode.skip)).seq ((AR [AM 29 1, AO 30 (.len (.t 29)), AO 31 (.make 43 8 80 [.string ⟨⟨[]⟩⟩, .string ⟨⟨[]⟩⟩, .int .i64 (0), .int .i64 (0), .int .i64 (0), .int .i64 (0), .int .i64 (0), .int .i64 (0)] (.t 30)), AM 12 31]).seq ((AR [AM 32 12, AM 33 1, AO 34 (.copy 8 (.t 32) (.t 33))]).seq (((AR [AM 35 1, AO 36 (.len (.t 35)), AO 37 (.mv (.c (.int .i64 (0))))]).seq (ACode.block 0 ((AR [AO 38 (.bin .lss (.t 37) (.t 36))]).seq ((ACode.cond (.t 38) ACode.skip (ACode.exit 0)).seq ((ACode.block 1 ((AR [AM 39 37, AO 40 (.idxAddr 8 (.t 35) (.t 37)), AO 41 (.load 8 true (.t 40)), AO 14 (.alloc [.string ⟨⟨[]⟩⟩, .string ⟨⟨[]⟩⟩, .int .i64 (0), .int .i64 (0), .int .i64 (0), .int .i64 (0), .int .i64 (0), .int .i64 (0)]), AM 13 39, ⟨none, .store 8 (.t 14) (.t 41), none, []⟩]).seq ((ACode.region true [AO 42 (.fieldAddr 1 (.t 14)), ⟨some 43, .load 1 false (.t 42), none, [0]⟩, AM 44 1, AM 45 11, ⟨some 46, .idxAddr 8 (.t 44) (.t 45), none, [2, 3]⟩, ⟨some 47, .fieldAddr 1 (.t 46), none, [4]⟩, ⟨some 48, .load 1 false (.t 47), none, [5]⟩, ⟨some 49, .bin .eql (.t 43) (.t 48), none, [1, 6]⟩, ⟨some 50, .mv (.t 49), none, [7]⟩, ⟨some 51, .fieldAddr 6 (.t 14), some (50, true), [8]⟩, ⟨some 52, .fieldAddr 1 (.t 51), some (50, true), [9, 8]⟩, ⟨some 53, .load 1 false (.t 52), some (50, true), [10, 8]⟩, ⟨some 54, .mv (.t 1), some (50, true), [8]⟩, ⟨some 55, .mv (.t 11), some (50, true), [8]⟩, ⟨some 56, .idxAddr 8 (.t 54) (.t 55), some (50, true), [12, 13, 8]⟩, ⟨some 57, .fieldAddr 6 (.t 56), some (50, true), [14, 8]⟩, ⟨some 58, .fieldAddr 1 (.t 57), some (50, true), [15, 8]⟩, ⟨some 59, .load 1 false (.t 58), some (50, true), [16, 8]⟩, ⟨some 60, .bin .eql (.t 53) (.t 59), some (50, true), [11, 17, 8]⟩, ⟨some 61, .pick (.t 50) (.t 60) (.c (.bool false)), none, [8, 18]⟩]).seq (ACode.cond (.t 61) (AR [AM 62 12, AM 63 13, AO 64 (.idxAddr 8 (.t 62) (.t 63)), AO 65 (.fieldAddr 6 (.t 64)), AO 66 (.fieldAddr 1 (.t 65)), AO 67 (.load 1 false (.t 66)), AM 68 3, AO 69 (.bin .add (.t 67) (.t 68)), AO 70 (.idxAddr 8 (.t 62) (.t 63)), AO 71 (.fieldAddr 6 (.t 70)), AO 72 (.fieldAddr 1 (.t 71)), ⟨none, .store 1 (.t 72) (.t 69), none, []⟩]) ACode.skip)))).seq (AR [AO 73 (.bin .add (.t 37) (.c (.int .i64 (1)))), AM 37 73])))).loop)).seq (((AR [AM 74 0, AM 75 12, AO 76 (.call 12 [.t 74, .t 75]), AO 77 (.bin .neq (.t 76) (.c (.int .i64 (0))))]).seq (ACode.cond (.t 77) ((AR [AO 8 (.mv (.c (.slice none 0 0))), AO 9 (.mv (.c (.int .i64 (19))))]).seq ACode.ret) ACode.skip)).seq ((AR [AM 78 12, AM 8 78, AO 9 (.mv (.c (.int .i64 (0))))]).seq ACode.ret))))))))))
theorem Tryz.F22 : FnFacts Tryz.prog 22 Tryz.f22 Tryz.ac22 79 [.tmp 8, .tmp 9] := ⟨Tryz.func22, by kernel_rfl, by kernel_rfl, by kernel_rfl, by kernel_rfl, by kernel_rfl, by kernel_rfl, by kernel_rfl⟩
def Tryz.ac26 : ACode := ((AR [AO 4 (.mv (.c (.int .i64 (0))))]).seq (((AR [AM 12 0, AO 13 (.len (.t 12)), AO 14 (.bin .gtr (.t 13) (.c (.int .i64 (8)))), AM 15 14, ⟨some 16, .mv (.t 1), some (15, false), []⟩, ⟨some 17, .len (.t 16), some (15, false), []⟩, ⟨some 18, .bin .gtr (.t 17) (.c (.int .i64 (128))), some (15, false), []⟩, AO 19 (.pick (.t 15) (.c (.bool true)) (.t 18))]).seq (ACode.cond (.t 19) ((AR [AO 4 (.mv (.c (.int .i64 (4))))]).seq ACode.ret) ACode.skip)).seq (((AR [AM 20 0, AO 21 (.len (.t 20)), AO 22 (.mv (.c (.int .i64 (0))))]).seq (ACode.block 0 ((AR [AO 23 (.bin .lss (.t 22) (.t 21))]).seq ((ACode.cond (.t 23) ACode.skip (ACode.exit 0)).seq ((ACode.block 1 ((AR [AM 24 22, AO 25 (.idxAddr 3 (.t 20) (.t 22)), AO 26 (.load 3 true (.t 25)), AO 6 (.alloc [.string ⟨⟨[]⟩⟩, .int .i64 (0), .int .i64 (0)]), AM 5 24, ⟨none, .store 3 (.t 6) (.t 26), none, []⟩]).seq (((AR [AO 27 (.fieldAddr 0 (.t 6)), AO 28 (.load 1 false (.t 27)), AO 29 (.call 49 [.t 28]), AO 30 (.un .not (.t 29))]).seq (ACode.cond (.t 30) ((AR [AO 4 (.mv (.c (.int .i64 (6))))]).seq ACode.ret) ACode.skip)).seq (((AR [AO 31 (.fieldAddr 1 (.t 6)), AO 32 (.load 1 false (.t 31)), AO 33 (.call 50 [.t 32]), AO 34 (.un .not (.t 33)), AM 35 34, ⟨some 36, .fieldAddr 2 (.t 6), some (35, false), []⟩, ⟨some 37, .load 1 false (.t 36), some (35, false), []⟩, ⟨some 38, .call 50 [.t 37], some (35, false), []⟩, ⟨some 39, .un .not (.t 38), some (35, false), []⟩, AO 40 (.pick (.t 35) (.c (.bool true)) (.t 39))]).seq (ACode.cond (.t 40) ((AR [AO 4 (.mv (.c (.int .i64 (9))))]).seq ACode.ret) ACode.skip)).seq ((ACode.region true [AM 42 0, AM 43 5, ⟨some 44, .slice 3 (.t 42) none (some (.t 43)), none, [0, 1]⟩, AO 45 (.fieldAddr 0 (.t 6)), ⟨some 46, .load 1 false (.t 45), none, [3]⟩, ⟨some 47, .call 51 [.t 44, .t 46], none, [2, 4]⟩, ⟨some 41, .mv (.t 47), none, [5]⟩, ⟨some 48, .extract (.t 41) 0, none, [6]⟩, ⟨some 49, .extract (.t 41) 1, none, [6]⟩, AO 7 (.alloc [.string ⟨⟨[]⟩⟩, .int .i64 (0), .int .i64 (0)]), ⟨none, .store 3 (.t 7) (.t 48), none, [9, 7, 5, 0, 1, 2, 3, 4, 5, 6, 7, 9]⟩, ⟨some 8, .mv (.t 49), none, [8, 10, 0, 1, 2, 3, 4, 5, 6, 7, 8, 9, 10]⟩]).seq ((AR [AM 50 8]).seq (ACode.cond (.t 50) ((AR [AO 4 (.mv (.c (.int .i64 (7))))]).seq ACode.ret) ACode.skip))))))).seq (AR [AO 51 (.bin .add (.t 22) (.c (.int .i64 (1)))), AM 22 51])))).loop)).seq (((AR [AM 52 1, AO 53 (.len (.t 52)), AO 54 (.mv (.c (.int .i64 (0))))]).seq (ACode.block 2 ((AR [AO 55 (.bin .lss (.t 54) (.t 53))]).seq ((ACode.cond (.t 55) ACode.skip (ACode.exit 2)).seq ((ACode.block 3 ((AR [AM 56 54, AO 57 (.idxAddr 8 (.t 52) (.t 54)), AO 58 (.load 8 true (.t 57)), AO 10 (.alloc [.string ⟨⟨[]⟩⟩, .string ⟨⟨[]⟩⟩, .int .i64 (0), .int .i64 (0), .int .i64 (0), .int .i64 (0), .int .i64 (0), .int .i64 (0)]), AM 9 56, ⟨none, .store 8 (.t 10) (.t 58), none, []⟩]).seq ((ACode.region true [AM 59 0, AM 60 1, AM 61 9, ⟨some 62, .slice 8 (.t 60) none (some (.t 61)), none, [1, 2]⟩, AO 63 (.load 8 true (.t 10)), ⟨some 64, .call 52 [.t 59, .t 62, .t 63], none, [0, 3, 4]⟩, ⟨some 11, .mv (.t 64), none, [5, 5, 0, 1, 2, 3, 4, 5]⟩]).seq ((AR [AM 65 11, AO 66 (.bin .neq (.t 65) (.c (.int .i64 (0))))]).seq (ACode.cond (.t 66) ((AR [AM 67 11, AM 4 67]).seq ACode.ret) ACode.skip))))).seq (AR [AO 68 (.bin .add (.t 54) (.c (.int .i64 (1)))), AM 54 68])))).loop)).seq ((AR [AO 4 (.mv (.c (.int .i64 (0))))]).seq ACode.ret)))))
theorem Tryz.F26 : FnFacts Tryz.prog 26 Tryz.f26 Tryz.ac26 69 [.tmp 4] := ⟨Tryz.func26, by kernel_rfl, by kernel_rfl, by kernel_rfl, by kernel_rfl, by kernel_rfl, by kernel_rfl, by kernel_rfl⟩
def Tryz.ac27 : ACode := ((AR [AO 2 (.mv (.c (.slice none 0 0)))]).seq ((AR [AO 3 (.mv (.c (.slice none 0 0)))]).seq (((AR [AM 6 0, AO 7 (.len (.t 6)), AO 8 (.mv (.c (.int .i64 (0))))]).seq (ACode.block 0 ((AR [AO 9 (.bin .lss (.t 8) (.t 7))]).seq ((ACode.cond (.t 9) ACode.skip (ACode.exit 0)).seq ((ACode.block 1 ((AR [AO 10 (.idxAddr 8 (.t 6) (.t 8)), AO 11 (.load 8 true (.t 10)), AO 5 (.alloc [.string ⟨⟨[]⟩⟩, .string ⟨⟨[]⟩⟩, .int .i64 (0), .int .i64 (0), .int .i64 (0), .int .i64 (0), .int .i64 (0), .int .i64 (0)]), ⟨none, .store 8 (.t 5) (.t 11), none, []⟩]).seq (AR [AM 12 3, AO 13 (.fieldAddr 0 (.t 5)), AO 14 (.load 1 false (.t 13)), AO 15 (.fieldAddr 1 (.t 5)), AO 16 (.load 1 false (.t 15)), AO 17 (.fieldAddr 2 (.t 5)), AO 18 (.load 2 true (.t 17)), AO 19 (.fieldAddr 4 (.t 5)), AO 20 (.load 1 false (.t 19)), AO 21 (.fieldAddr 5 (.t 5)), AO 22 (.load 1 false (.t 21)), AO 23 (.fieldAddr 6 (.t 5)), AO 24 (.load 2 true (.t 23)), AO 25 (.build [.string ⟨⟨[]⟩⟩, .string ⟨⟨[]⟩⟩, .int .i64 (0), .int .i64 (0), .int .i64 (0), .int .i64 (0), .int .i64 (0), .int .i64 (0)] [(0, 1, .t 14), (1, 1, .t 16), (2, 2, .t 18), (4, 1, .t 20), (5, 1, .t 22), (6, 2, .t 24)]), AO 26 (.buildSlice 78 8 [.t 25]), AO 27 (.append 78 8 80 (.t 12) (.t 26)), AM 3 27]))).seq (AR [AO 28 (.bin .add (.t 8) (.c (.int .i64 (1)))), AM 8 28])))).loop)).seq ((AR [AM 29 3, AM 2 29]).seq ACode.ret))))
theorem Tryz.F27 : FnFacts Tryz.prog 27 Tryz.f27 Tryz.ac27 30 [.tmp 2] := ⟨Tryz.func27, by kernel_rfl, by kernel_rfl, by kernel_rfl, by kernel_rfl, by kernel_rfl, by kernel_rfl, by kernel_rfl⟩
def Tryz.ac28 : ACode := ((AR [AO 4 (.mv (.c (.bool false)))]).seq ((AR [AM 5 0, AM 6 1, AO 7 (.call 47 [.t 5, .t 6]), AO 8 (.bin .geq (.t 7) (.c (.int .i64 (0)))), AM 4 8]).seq ACode.ret))
theorem Tryz.F28 : FnFacts Tryz.prog 28 Tryz.f28 Tryz.ac28 9 [.tmp 4] := ⟨Tryz.func28, by kernel_rfl, by kernel_rfl, by kernel_rfl, by kernel_rfl, by kernel_rfl, by kernel_rfl, by kernel_rfl⟩
def Tryz.ac29 : ACode := ((AR [AO 2 (.box 8 (.t 0)), AO 3 (.mv (.c (.bool false)))]).seq ((AR [AO 4 (.fieldAddr 0 (.t 2)), AO 5 (.load 1 false (.t 4)), AO 6 (.fieldAddr 0 (.t 1)), AO 7 (.load 1 false (.t 6)), AO 8 (.bin .eql (.t 5) (.t 7)), AM 3 8]).seq ACode.ret))
theorem Tryz.F29 : FnFacts Tryz.prog 29 Tryz.f29 Tryz.ac29 9 [.tmp 3] := ⟨Tryz.func29, by kernel_rfl, by kernel_rfl, by kernel_rfl, by kernel_rfl, by kernel_rfl, by kernel_rfl, by kernel_rfl⟩
def Tryz.ac36 : ACode := ((AR [AO 4 (.mv (.c (.slice none 0 0)))]).seq ((AR [AM 5 0, AM 6 1, AO 7 (.call 57 [.t 5, .t 6, .f 58]), AM 4 7]).seq ACode.ret))
theorem Tryz.F36 : FnFacts Tryz.prog 36 Tryz.f36 Tryz.ac36 8 [.tmp 4] := ⟨Tryz.func36, by kernel_rfl, by kernel_rfl, by kernel_rfl, by kernel_rfl, by kernel_rfl, by kernel_rfl, by kernel_rfl⟩
def Tryz.ac37 : ACode := ((AR [AO 4 (.mv (.c (.slice none 0 0)))]).seq ((AR [AM 5 0, AM 6 1, AO 7 (.call 57 [.t 5, .t 6, .f 59]), AM 4 7]).seq ACode.ret))
theorem Tryz.F37 : FnFacts Tryz.prog 37 Tryz.f37 Tryz.ac37 8 [.tmp 4] := ⟨Tryz.func37, by kernel_rfl, by kernel_rfl, by kernel_rfl, by kernel_rfl, by kernel_rfl, by kernel_rfl, by kernel_rfl⟩
def Tryz.ac40 : ACode := ((AR [AO 2 (.mv (.c (.bool false)))]).seq ((AR [AM 3 0, AO 4 (.lenStr (.t 3)), AO 5 (.bin .leq (.t 4) (.c (.int .i64 (64)))), AM 6 5, ⟨some 7, .mv (.t 0), some (6, true), []⟩, ⟨some 8, .call 62 [.t 7, .c (.string ⟨⟨[(46 : UInt8)]⟩⟩)], some (6, true), []⟩, ⟨some 9, .call 61 [.t 8], some (6, true), []⟩, AO 10 (.pick (.t 6) (.t 9) (.c (.bool false))), AM 2 10]).seq ACode.ret))
theorem Tryz.F40 : FnFacts Tryz.prog 40 Tryz.f40 Tryz.ac40 11 [.tmp 2] := ⟨Tryz.func40, by kernel_rfl, by kernel_rfl, by kernel_rfl, by kernel_rfl, by kernel_rfl, by kernel_rfl, by kernel_rfl⟩
def Tryz.ac41 : ACode := ((AR [AO 2 (.box 8 (.t 0)), AO 3 (.mv (.c (.bool false)))]).seq ((AR [AO 4 (.fieldAddr 0 (.t 2)), AO 5 (.load 1 false (.t 4)), AO 6 (.fieldAddr 0 (.t 1)), AO 7 (.load 1 false (.t 6)), AO 8 (.bin .eql (.t 5) (.t 7)), AM 3 8]).seq ACode.ret))
theorem Tryz.F41 : FnFacts Tryz.prog 41 Tryz.f41 Tryz.ac41 9 [.tmp 3] := ⟨Tryz.func41, by kernel_rfl, by kernel_rfl, by kernel_rfl, by kernel_rfl, by kernel_rfl, by kernel_rfl, by kernel_rfl⟩
def Tryz.ac42 : ACode := ((AR [AO 6 (.mv (.c (.bool false)))]).seq ((AR [AM 7 0, AM 8 1, AO 9 (.bin .geq (.t 7) (.t 8)), AM 10 9, ⟨some 11, .mv (.t 0), some (10, true), []⟩, ⟨some 12, .mv (.t 2), some (10, true), []⟩, ⟨some 13, .bin .leq (.t 11) (.t 12), some (10, true), []⟩, AO 14 (.pick (.t 10) (.t 13) (.c (.bool false))), AM 6 14]).seq ACode.ret))
theorem Tryz.F42 : FnFacts Tryz.prog 42 Tryz.f42 Tryz.ac42 15 [.tmp 6] := ⟨Tryz.func42, by kernel_rfl, by kernel_rfl, by kernel_rfl, by kernel_rfl, by kernel_rfl, by kernel_rfl, by kernel_rfl⟩
def Tryz.ac43 : ACode := ((AR [AO 4 (.mv (.c (.slice none 0 0)))]).seq ((AR [AM 8 1, AO 9 (.buildSlice 3 1 [.t 8]), AM 5 9]).seq (((AR [AM 10 0, AO 11 (.len (.t 10)), AO 12 (.mv (.c (.int .i64 (0))))]).seq (ACode.block 0 ((AR [AO 13 (.bin .lss (.t 12) (.t 11))]).seq ((ACode.cond (.t 13) ACode.skip (ACode.exit 0)).seq ((ACode.block 1 ((AR [AO 14 (.idxAddr 8 (.t 10) (.t 12)), AO 15 (.load 8 true (.t 14)), AO 7 (.alloc [.string ⟨⟨[]⟩⟩, .string ⟨⟨[]⟩⟩, .int .i64 (0), .int .i64 (0), .int .i64 (0), .int .i64 (0), .int .i64 (0), .int .i64 (0)]), ⟨none, .store 8 (.t 7) (.t 15), none, []⟩]).seq ((AR [AO 16 (.fieldAddr 6 (.t 7)), AO 17 (.fieldAddr 1 (.t 16)), AO 18 (.load 1 false (.t 17)), AM 19 1, AO 20 (.bin .gtr (.t 18) (.t 19))]).seq (ACode.cond (.t 20) (AR [AM 21 5, AO 22 (.fieldAddr 6 (.t 7)), AO 23 (.fieldAddr 1 (.t 22)), AO 24 (.load 1 false (.t 23)), AO 25 (.buildSlice 3 1 [.t 24]), AO 26 (.append 3 1 8 (.t 21) (.t 25)), AM 5 26]) ACode.skip)))).seq (AR [AO 27 (.bin .add (.t 12) (.c (.int .i64 (1)))), AM 12 27])))).loop)).seq ((AR [AM 28 5, AO 29 (.call 33 [.t 28])]).seq ((AR [AM 30 5, AO 31 (.call 34 [.t 30]), AM 4 31]).seq ACode.ret)))))
theorem Tryz.F43 : FnFacts Tryz.prog 43 Tryz.f43 Tryz.ac43 32 [.tmp 4] := ⟨Tryz.func43, by kernel_rfl, by kernel_rfl, by kernel_rfl, by kernel_rfl, by kernel_rfl, by kernel_rfl, by kernel_rfl⟩
def Tryz.ac44 : ACode := ((AR [AO 3 (.box 3 (.t 0)), AO 5 (.box 8 (.t 2)), AO 6 (.alloc [.string ⟨⟨[]⟩⟩, .string ⟨⟨[]⟩⟩, .int .i64 (0), .int .i64 (0), .int .i64 (0), .int .i64 (0), .int .i64 (0), .int .i64 (0)]), AO 7 (.mv (.c (.bool false)))]).seq ((AR [AO 8 (.mv (.c (.slice none 0 0)))]).seq ((AR [AO 18 (.buildSlice 3 1 [.c (.int .i64 (0))]), AO 19 (.buildSlice 3 1 [.c (.int .i64 (0))]), AM 9 18, AM 10 19]).seq (((AR [AM 20 1, AO 21 (.len (.t 20)), AO 22 (.mv (.c (.int .i64 (0))))]).seq (ACode.block 0 ((AR [AO 23 (.bin .lss (.t 22) (.t 21))]).seq ((ACode.cond (.t 23) ACode.skip (ACode.exit 0)).seq ((ACode.block 1 ((AR [AO 24 (.idxAddr 8 (.t 20) (.t 22)), AO 25 (.load 8 true (.t 24)), AO 12 (.alloc [.string ⟨⟨[]⟩⟩, .string ⟨⟨[]⟩⟩, .int .i64 (0), .int .i64 (0), .int .i64 (0), .int .i64 (0), .int .i64 (0), .int .i64 (0)]), ⟨none, .store 8 (.t 12) (.t 25), none, []⟩]).seq (((AR [AO 26 (.fieldAddr 1 (.t 12)), AO 27 (.load 1 false (.t 26)), AO 28 (.fieldAddr 0 (.t 3)), AO 29 (.load 1 false (.t 28)), AO 30 (.bin .neq (.t 27) (.t 29)), AM 31 30, ⟨some 32, .fieldAddr 6 (.t 12), some (31, false), []⟩, ⟨some 33, .fieldAddr 1 (.t 32), some (31, false), []⟩, ⟨some 34, .load 1 false (.t 33), some (31, false), []⟩, ⟨some 35, .fieldAddr 6 (.t 5), some (31, false), []⟩, ⟨some 36, .fieldAddr 0 (.t 35), some (31, false), []⟩, ⟨some 37, .load 1 false (.t 36), some (31, false), []⟩, ⟨some 38, .bin .leq (.t 34) (.t 37), some (31, false), []⟩, AO 39 (.pick (.t 31) (.c (.bool true)) (.t 38)), AM 40 39, ⟨some 41, .fieldAddr 6 (.t 12), some (40, false), []⟩, ⟨some 42, .fieldAddr 0 (.t 41), some (40, false), []⟩, ⟨some 43, .load 1 false (.t 42), some (40, false), []⟩, ⟨some 44, .fieldAddr 6 (.t 5), some (40, false), []⟩, ⟨some 45, .fieldAddr 1 (.t 44), some (40, false), []⟩, ⟨some 46, .load 1 false (.t 45), some (40, false), []⟩, ⟨some 47, .bin .geq (.t 43) (.t 46), some (40, false), []⟩, AO 48 (.pick (.t 40) (.c (.bool true)) (.t 47))]).seq (ACode.cond (.t 48) (ACode.exit 1) ACode.skip)).seq (((AR [AO 49 (.fieldAddr 6 (.t 12)), AO 50 (.fieldAddr 1 (.t 49)), AO 51 (.load 1 false (.t 50)), AO 52 (.fieldAddr 6 (.t 5)), AO 53 (.fieldAddr 1 (.t 52)), AO 54 (.load 1 false (.t 53)), AO 55 (.bin .neq (.t 51) (.t 54))]).seq (ACode.cond (.t 55) ((AR [AO 56 (.build [.string ⟨⟨[]⟩⟩, .string ⟨⟨[]⟩⟩, .int .i64 (0), .int .i64 (0), .int .i64 (0), .int .i64 (0), .int .i64 (0), .int .i64 (0)] []), ⟨none, .store 8 (.t 6) (.t 56), none, []⟩, AO 7 (.mv (.c (.bool false)))]).seq ACode.ret) ACode.skip)).seq ((AR [AM 57 8, AO 58 (.load 8 true (.t 12)), AO 59 (.buildSlice 43 8 [.t 58]), AO 60 (.append 43 8 80 (.t 57) (.t 59)), AM 8 60]).seq ((AR [AM 61 9, AO 62 (.fieldAddr 2 (.t 12)), AO 63 (.fieldAddr 0 (.t 62)), AO 64 (.load 1 false (.t 63)), AO 65 (.fieldAddr 4 (.t 12)), AO 66 (.load 1 false (.t 65)), AO 67 (.bin .add (.t 64) (.t 66)), AO 68 (.buildSlice 3 1 [.t 67]), AO 69 (.append 3 1 8 (.t 61) (.t 68)), AM 9 69]).seq (AR [AM 70 10, AO 71 (.fieldAddr 2 (.t 12)), AO 72 (.fieldAddr 1 (.t 71)), AO 73 (.load 1 false (.t 72)), AO 74 (.fieldAddr 5 (.t 12)), AO 75 (.load 1 false (.t 74)), AO 76 (.bin .add (.t 73) (.t 75)), AO 77 (.buildSlice 3 1 [.t 76]), AO 78 (.append 3 1 8 (.t 70) (.t 77)), AM 10 78]))))))).seq (AR [AO 79 (.bin .add (.t 22) (.c (.int .i64 (1)))), AM 22 79])))).loop)).seq ((AR [AM 80 9, AO 81 (.call 33 [.t 80])]).seq ((AR [AM 82 10, AO 83 (.call 33 [.t 82])]).seq (((AR [AM 84 10, AO 85 (.len (.t 84)), AO 86 (.mv (.c (.int .i64 (0))))]).seq (ACode.block 2 ((AR [AO 87 (.bin .lss (.t 86) (.t 85))]).seq ((ACode.cond (.t 87) ACode.skip (ACode.exit 2)).seq ((ACode.block 3 ((AR [AO 88 (.idxAddr 1 (.t 84) (.t 86)), AO 89 (.load 1 false (.t 88)), AM 14 89]).seq ((AR [AM 90 9, AO 91 (.len (.t 90)), AO 92 (.mv (.c (.int .i64 (0))))]).seq (ACode.block 4 ((AR [AO 93 (.bin .lss (.t 92) (.t 91))]).seq ((ACode.cond (.t 93) ACode.skip (ACode.exit 4)).seq ((ACode.block 5 ((AR [AO 94 (.idxAddr 1 (.t 90) (.t 92)), AO 95 (.load 1 false (.t 94)), AM 16 95]).seq ((AR [AM 96 16, AM 97 14, AO 98 (.build [.int .i64 (0), .int .i64 (0)] [(0, 1, .t 96), (1, 1, .t 97)]), AO 99 (.fieldAddr 2 (.t 5)), ⟨none, .store 2 (.t 99) (.t 98), none, []⟩]).seq ((AR [AM 100 8, AO 101 (.mkfn 63 [.t 5]), AO 102 (.call 28 [.t 100, .t 101]), AM 17 102]).seq ((AR [AM 103 17, AO 104 (.un .not (.t 103)), AM 105 104, ⟨some 106, .mv (.t 16), some (105, true), []⟩, ⟨some 107, .fieldAddr 4 (.t 5), some (105, true), []⟩, ⟨some 108, .load 1 false (.t 107), some (105, true), []⟩, ⟨some 109, .bin .add (.t 106) (.t 108), some (105, true), []⟩, ⟨some 110, .fieldAddr 1 (.t 3), some (105, true), []⟩, ⟨some 111, .load 1 false (.t 110), some (105, true), []⟩, ⟨some 112, .bin .leq (.t 109) (.t 111), some (105, true), []⟩, AO 113 (.pick (.t 105) (.t 112) (.c (.bool false))), AM 114 113, ⟨some 115, .mv (.t 14), some (114, true), []⟩, ⟨some 116, .fieldAddr 5 (.t 5), some (114, true), []⟩, ⟨some 117, .load 1 false (.t 116), some (114, true), []⟩, ⟨some 118, .bin .add (.t 115) (.t 117), some (114, true), []⟩, ⟨some 119, .fieldAddr 2 (.t 3), some (114, true), []⟩, ⟨some 120, .load 1 false (.t 119), some (114, true), []⟩, ⟨some 121, .bin .leq (.t 118) (.t 120), some (114, true), []⟩, AO 122 (.pick (.t 114) (.t 121) (.c (.bool false)))]).seq (ACode.cond (.t 122) ((AR [AO 123 (.load 8 true (.t 5)), ⟨none, .store 8 (.t 6) (.t 123), none, []⟩, AO 7 (.mv (.c (.bool true)))]).seq ACode.ret) ACode.skip)))))).seq (AR [AO 124 (.bin .add (.t 92) (.c (.int .i64 (1)))), AM 92 124])))).loop)))).seq (AR [AO 125 (.bin .add (.t 86) (.c (.int .i64 (1)))), AM 86 125])))).loop)).seq ((AR [AO 126 (.build [.string ⟨⟨[]⟩⟩, .string ⟨⟨[]⟩⟩, .int .i64 (0), .int .i64 (0), .int .i64 (0), .int .i64 (0), .int .i64 (0), .int .i64 (0)] []), ⟨none, .store 8 (.t 6) (.t 126), none, []⟩, AO 7 (.mv (.c (.bool false)))]).seq ACode.ret))))))))
theorem Tryz.F44 : FnFacts Tryz.prog 44 Tryz.f44 Tryz.ac44 127 [.cell 6 43, .tmp 7] := ⟨Tryz.func44, by kernel_rfl, by kernel_rfl, by kernel_rfl, by kernel_rfl, by kernel_rfl, by kernel_rfl, by kernel_rfl⟩
def Tryz.ac47 : ACode := ((AR [AO 4 (.mv (.c (.int .i64 (0))))]).seq (((AR [AM 6 0, AO 7 (.len (.t 6)), AO 8 (.mv (.c (.int .i64 (0))))]).seq (ACode.block 0 ((AR [AO 9 (.bin .lss (.t 8) (.t 7))]).seq ((ACode.cond (.t 9) ACode.skip (ACode.exit 0)).seq ((ACode.block 1 ((AR [AM 10 8, AM 5 10]).seq ((AR [AM 11 1, AM 12 0, AM 13 5, AO 14 (.idxAddr 8 (.t 12) (.t 13)), AO 15 (.load 8 true (.t 14)), AO 16 (.callv (.t 11) [.t 15])]).seq (ACode.cond (.t 16) ((AR [AM 17 5, AM 4 17]).seq ACode.ret) ACode.skip)))).seq (AR [AO 18 (.bin .add (.t 8) (.c (.int .i64 (1)))), AM 8 18])))).loop)).seq ((AR [AO 4 (.mv (.c (.int .i64 (Int.negSucc 0))))]).seq ACode.ret)))
theorem Tryz.F47 : FnFacts Tryz.prog 47 Tryz.f47 Tryz.ac47 19 [.tmp 4] := ⟨Tryz.func47, by kernel_rfl, by kernel_rfl, by kernel_rfl, by kernel_rfl, by kernel_rfl, by kernel_rfl, by kernel_rfl⟩
def Tryz.ac48 : ACode := ((AR [AO 2 (.box 8 (.t 0)), AO 3 (.mv (.c (.bool false)))]).seq ((AR [AO 4 (.fieldAddr 0 (.t 2)), AO 5 (.load 1 false (.t 4)), AO 6 (.load 1 false (.t 1)), AO 7 (.bin .eql (.t 5) (.t 6)), AM 3 7]).seq ACode.ret))
theorem Tryz.F48 : FnFacts Tryz.prog 48 Tryz.f48 Tryz.ac48 8 [.tmp 3] := ⟨Tryz.func48, by kernel_rfl, by kernel_rfl, by kernel_rfl, by kernel_rfl, by kernel_rfl, by kernel_rfl, by kernel_rfl⟩
end Go.Proofs
namespace Go.Ab

@[go_sem] theorem range_s (nm : Nat) (s : ByteArray) : effRange nm (.v (.string s)) = ⟨True, .bp nm 0, [(nm, some (.iter s 0))], []⟩ := rfl
def nextO (b : Nat) : Option Blk → Eff
  | some (.iter s pos) => ⟨True, nextV s pos, [(b, some (.iter s (nextPos s pos)))], [b]⟩
  | _ => .fail
@[go_sem] theorem next_bp (h : Nat → Option Blk) (b : Nat) : effNext h (.bp b 0) = nextO b (h b) := by
  simp only [effNext]; unfold nextO; cases h b with
  | none => rfl
  | some y => cases y <;> rfl
@[go_sem] theorem nextO_iter (b : Nat) (s : ByteArray) (pos : Nat) : nextO b (some (.iter s pos)) = ⟨True, nextV s pos, [(b, some (.iter s (nextPos s pos)))], [b]⟩ := rfl
theorem nextV_in {s : ByteArray} {pos : Nat} (h : pos < s.size) : nextV s pos = .tup [.v (.bool true), .v (.int .i64 pos), .v (.int .i32 ((Utf8.decode s pos).1 : Nat))] := by simp [nextV, h]
theorem nextV_end {s : ByteArray} {pos : Nat} (h : ¬ pos < s.size) : nextV s pos = .tup [.v (.bool false)] := by simp [nextV, h]
theorem nextPos_in {s : ByteArray} {pos : Nat} (h : pos < s.size) : nextPos s pos = pos + (Utf8.decode s pos).2 := by simp [nextPos, h]
theorem nextPos_end {s : ByteArray} {pos : Nat} (h : ¬ pos < s.size) : nextPos s pos = pos := by simp [nextPos, h]

theorem callP_nil {P : Program} {f : FuncId} {S : AState} {nm : Nat} {lv : List AV} {K : AV → Prop} {r : AV} (h : Pure P f lv r) (hk : K r) : CallP P f S nm lv [] K := ⟨r, h, by simp, .inl rfl, hk⟩
theorem callP_dry {P : Program} {f : FuncId} {S : AState} {nm : Nat} {lv : List AV} {names : List Nat} {K : AV → Prop} {r : AV} (h : Pure P f lv r) (hn : nm ∉ names) (hd : Dry r) (hk : K r) : CallP P f S nm lv names K := ⟨r, h, hn, .inr hd, hk⟩
theorem callO_nil {P : Program} {f : FuncId} {S : AState} {nm : Nat} {lv : List AV} {K : List (List AV) → Nat → TypeId → Prop} {es : List (List AV)} {sz : Nat} {ty : TypeId} (h : PureOwn P f lv es sz ty) (hk : K es sz ty) : CallO P f S nm lv [] K := ⟨es, sz, ty, h, by simp, .inl rfl, hk⟩
theorem callO_dry {P : Program} {f : FuncId} {S : AState} {nm : Nat} {lv : List AV} {names : List Nat} {K : List (List AV) → Nat → TypeId → Prop} {es : List (List AV)} {sz : Nat} {ty : TypeId} (h : PureOwn P f lv es sz ty) (hn : nm ∉ names) (hd : ∀ y ∈ es, ∀ c ∈ y, Dry c) (hk : K es sz ty) : CallO P f S nm lv names K := ⟨es, sz, ty, h, hn, .inr hd, hk⟩

@[go_sem] theorem flat_v (x : Value) : (AV.v x).flat = true := rfl
@[go_sem] theorem flat_nils : AV.nils.flat = true := rfl
@[go_sem] theorem flat_sl (es : List (List AV)) : (AV.sl es).flat = true := rfl
@[go_sem] theorem flat_rp (es : List AV) : (AV.rp es).flat = true := rfl
@[go_sem] theorem all_cons {α : Type} (p : α → Prop) (x : α) (l : List α) : (∀ c ∈ x :: l, p c) = (p x ∧ ∀ c ∈ l, p c) := by simp
attribute [go_sem] Bool.true_and Bool.and_true Bool.false_and Bool.and_false Bool.true_or Bool.or_true Bool.false_or Bool.or_false List.flatMap_cons List.flatMap_nil

theorem Lower.str {h : Nat → Option Blk} {s s' : ByteArray} (he : s = s') : Lower h (.v (.string s)) (.v (.string s')) := by subst he; exact .same _ rfl
inductive All2 (R : AV → AV → Prop) : List AV → List AV → Prop
  | nil : All2 R [] []
  | cons {x y xs ys} : R x y → All2 R xs ys → All2 R (x :: xs) (y :: ys)
theorem lowerAll_agg {h : Nat → Option Blk} {cs cs' : List AV} (p : All2 (Lower h) cs cs') : cs.length = cs'.length ∧ ∀ j, j < cs.length → Lower h (av cs j) (av cs' j) := by
  induction p with
  | nil => exact ⟨rfl, fun j hj => by simp at hj⟩
  | cons h1 _ ih =>
    refine ⟨by simp [ih.1], fun j hj => ?_⟩
    cases j with
    | zero => exact h1
    | succ j => exact ih.2 j (by simpa using hj)
theorem Lower.aggF {h : Nat → Option Blk} {cs cs' : List AV} (p : All2 (Lower h) cs cs') : Lower h (.agg cs) (.agg cs') := .agg (lowerAll_agg p).1 (lowerAll_agg p).2
theorem Lower.tupF {h : Nat → Option Blk} {cs cs' : List AV} (p : All2 (Lower h) cs cs') : Lower h (.tup cs) (.tup cs') := .tup (lowerAll_agg p).1 (lowerAll_agg p).2

/-- A value that is there only if 'b'. -/
def opt (b : Bool) (x : AV) : AV := if b then x else .tup []
@[go_sem] theorem opt_t (x : AV) : opt true x = x := rfl
@[go_sem] theorem opt_f (x : AV) : opt false x = .tup [] := rfl
@[go_sem] theorem pick_and (c p : Bool) : effPick (.v (.bool c)) (opt c (.v (.bool p))) (.v (.bool false)) = ⟨True, .v (.bool (c && p)), [], []⟩ := by cases c <;> rfl
@[go_sem] theorem pick_or (c p : Bool) : effPick (.v (.bool c)) (.v (.bool true)) (opt (!c) (.v (.bool p))) = ⟨True, .v (.bool (c || p)), [], []⟩ := by cases c <;> rfl
/-- Is it wanted? -/
def wantB (want b : Bool) : Bool := if want then b else !b
@[go_sem] theorem wantB_t (b : Bool) : wantB true b = b := rfl
@[go_sem] theorem wantB_f (b : Bool) : wantB false b = !b := rfl
def gB (want : Bool) : AV → Option Bool
  | .v (.bool b) => some (wantB want b)
  | .tup [] => some false
  | _ => none
theorem gB_v (want b : Bool) : gB want (.v (.bool b)) = some (wantB want b) := rfl
theorem gB_opt (want c b : Bool) : gB want (opt c (.v (.bool b))) = some (c && wantB want b) := by cases c <;> rfl
theorem gB_u (want : Bool) : gB want (.tup []) = some false := rfl
attribute [go_sem] gB_v gB_opt gB_u

theorem Awp.sreg {P : Program} {n bs nx nx' : Nat} {S : AState} {Q : AExit → Nat → AState → Prop} {l : List AOper} {y : ACode} (hn : nx + l.length = nx') (hk : aops P l nx S fun S' => Awp P n bs y nx' S' Q) : Awp P n bs (.seq (.region false l) y) nx S Q := by
  subst hn; exact Awp.seq_region hk
theorem Awp.sdraw {P : Program} {n bs nx nx' : Nat} {S : AState} {Q : AExit → Nat → AState → Prop} {l : List AOper} {y : ACode} (hn : nx + l.length = nx') (hk : aopsL P l nx S [] fun S' es => drawOk (l.map (·.deps)) es = true ∧ Awp P n bs y nx' S' Q) : Awp P n bs (.seq (.region true l) y) nx S Q := by
  subst hn; exact Awp.seq_draw hk
theorem Awp.reg {P : Program} {n bs nx nx' : Nat} {S : AState} {Q : AExit → Nat → AState → Prop} {l : List AOper} (hn : nx + l.length = nx') (hk : aops P l nx S fun S' => Q .normal nx' S') : Awp P n bs (.region false l) nx S Q := by
  subst hn; exact Awp.region hk

theorem BView.boxF {hd : Nat → Option Blk} {ρ : Nat → Nat} {nx : Nat} {cs : List AV} (h : cs.all AV.flat = true) : BView hd ρ nx (.box cs) (.box cs) := .box rfl fun j hj => .low (.same _ (List.all_eq_true.1 h _ (av_mem hj)))
theorem BView.rowE {hd : Nat → Option Blk} {ρ : Nat → Nat} {nx : Nat} {es es' : List (List AV)} {sz : Nat} {e : TypeId} (h : es = es') : BView hd ρ nx (.row es sz e) (.row es' sz e) := by subst h; exact .row _ _ _
theorem BView.iterE {hd : Nat → Option Blk} {ρ : Nat → Nat} {nx : Nat} {s : ByteArray} {i j : Nat} (h : i = j) : BView hd ρ nx (.iter s i) (.iter s j) := by subst h; exact .iter _ _

@[go_sem] theorem str_empty (s : ByteArray) : (s.toList == ByteArray.toList ⟨⟨[]⟩⟩) = (s.size == 0) := by
  have h0 : ByteArray.toList ⟨⟨[]⟩⟩ = [] := by rw [ByteArray.toList_eq]
  have h1 : s.toList.length = s.size := by rw [ByteArray.toList_eq]; rfl
  rw [h0]
  cases h : s.toList with
  | nil => rw [h] at h1; simp at h1; simp [← h1]
  | cons a l => rw [h] at h1; simp at h1; simp [← h1]

theorem View.str {hd : Nat → Option Blk} {ρ : Nat → Nat} {nx : Nat} {x y : ByteArray} (e : x = y) : View hd ρ nx (.v (.string x)) (.v (.string y)) := by subst e; exact .low (.same _ rfl)
theorem op_callC_of {P : Program} {o : AOper} {r : List AOper} {nm : Nat} {S : AState} {K : AState → Prop} (h : aopsC P o r nm S K) : aops P (o :: r) nm S K := h
section steps
variable {P : Program} {d : Option Nat} {op : AOp} {deps : List Nat} {r : List AOper} {nm : Nat} {t : Nat → AV} {h : Nat → Option Blk} {K : AState → Prop} {p : Prop} {v : AV} {rd : List Nat}
theorem st_u {u : Upd} (he : op.eff P nm ⟨t, h⟩ default = ⟨p, v, u, rd⟩) (hc : op.isCall = false) (hp : p) (hk : aops P r (nm + 1) ⟨putT t d v, updL h u⟩ K) : aops P (⟨d, op, none, deps⟩ :: r) nm ⟨t, h⟩ K := by
  cases hch : op.choosy
  · rw [aops_op, hch, bcase_f, he]
    exact ⟨hp, hk⟩
  · exact aops_call (P := P) default hch (by rw [he]; exact hp) (by rw [he]; exact hk)
/-- A slice literal whose row nobody writes. -/
theorem st_full {e : TypeId} {sz : Nat} {ps : List AOpd} {es : List (List AV)} (hr : rowE ⟨t, h⟩ sz ps = (p, es)) (hn : ps ≠ []) (hp : p) (hk : aops P r (nm + 1) ⟨putT t d (.slf es sz e), h⟩ K) : aops P (⟨d, .buildSlice e sz ps, none, deps⟩ :: r) nm ⟨t, h⟩ K := by
  refine aops_call (P := P) ⟨.nils, [], []⟩ rfl ?_ ?_
  · simp only [AOp.eff, pickB, hr]
    exact ⟨hn, hp⟩
  · simp only [AOp.eff, pickB, hr]
    exact hk
theorem st_a {u : Upd} {h' : Nat → Option Blk} (he : op.eff P nm ⟨t, h⟩ default = ⟨p, v, u, rd⟩) (hc : op.isCall = false) (hu : updL h u = h') (hp : p) (hk : aops P r (nm + 1) ⟨putT t d v, h'⟩ K) : aops P (⟨d, op, none, deps⟩ :: r) nm ⟨t, h⟩ K := by
  subst hu; exact st_u he hc hp hk
theorem st_nil {S : AState} (hk : K S) : aops P [] nm S K := hk
theorem st_g {q : Nat} {want b : Bool} (hv : t q = .v (.bool b)) (h1 : b = want → aops P (⟨d, op, none, deps⟩ :: r) nm ⟨t, h⟩ K) (h2 : b = (!want) → aops P r (nm + 1) ⟨putT t d (.tup []), h⟩ K) : aops P (⟨d, op, some (q, want), deps⟩ :: r) nm ⟨t, h⟩ K := by
  rw [aops_g]; show gval (t q) _ _ _; rw [hv]; exact ⟨h1, h2⟩
theorem st_m {q : Nat} {want b : Bool} (hg : gB want (t q) = some b) (he : b = true → op.eff P nm ⟨t, h⟩ default = ⟨p, v, [], rd⟩) (hc : op.isCall = false) (hp : b = true → p) (hk : aops P r (nm + 1) ⟨putT t d (opt b v), h⟩ K) : aops P (⟨d, op, some (q, want), deps⟩ :: r) nm ⟨t, h⟩ K := by
  rw [aops_g]
  show gval (t q) _ _ _
  cases hx : t q with
  | v x =>
    rw [hx] at hg
    cases x with
    | bool c =>
      simp only [gB, Option.some.injEq] at hg
      subst hg
      refine ⟨fun e => ?_, fun e => ?_⟩
      · have hb : wantB want c = true := by subst e; cases c <;> rfl
        rw [hb] at hk
        exact st_u (he hb) hc (hp hb) hk
      · have hb : wantB want c = false := by subst e; cases want <;> rfl
        rw [hb] at hk
        exact hk
    | _ => cases hg
  | tup l =>
    rw [hx] at hg
    cases l with
    | nil =>
      simp only [gB, Option.some.injEq] at hg
      subst hg
      exact hk
    | cons a l => cases hg
  | _ => rw [hx] at hg; cases hg
theorem st_c {f : FuncId} {vs lv : List AV} {x : AV} (hc : callee ⟨t, h⟩ op = some (f, vs)) (hl : lows ⟨t, h⟩ vs = lv) (hn : hls ⟨t, h⟩ vs = []) (hp : Pure P f lv x) (hk : aops P r (nm + 1) ⟨putT t d x, h⟩ K) : aops P (⟨d, op, none, deps⟩ :: r) nm ⟨t, h⟩ K :=
  aops_low hc (by rw [hl, hn]; exact callP_nil hp hk)
theorem st_mc {q : Nat} {want b : Bool} {f : FuncId} {vs lv : List AV} {x : AV} (hop : op.isCall = true) (hg : gB want (t q) = some b) (hc : b = true → callee ⟨t, h⟩ op = some (f, vs)) (hl : b = true → lows ⟨t, h⟩ vs = lv) (hn : b = true → hls ⟨t, h⟩ vs = []) (hp : b = true → Pure P f lv x) (hk : aops P r (nm + 1) ⟨putT t d (opt b x), h⟩ K) : aops P (⟨d, op, some (q, want), deps⟩ :: r) nm ⟨t, h⟩ K := by
  rw [aops_g]
  show gval (t q) _ _ _
  cases hx : t q with
  | v x =>
    rw [hx] at hg
    cases x with
    | bool c =>
      simp only [gB, Option.some.injEq] at hg
      subst hg
      refine ⟨fun e => ?_, fun e => ?_⟩
      · have hb : wantB want c = true := by subst e; cases c <;> rfl
        rw [hb] at hk
        exact st_c (hc hb) (hl hb) (hn hb) (hp hb) hk
      · have hb : wantB want c = false := by subst e; cases want <;> rfl
        rw [hb] at hk
        exact hk
    | _ => cases hg
  | tup l =>
    rw [hx] at hg
    cases l with
    | nil =>
      simp only [gB, Option.some.injEq] at hg
      subst hg
      exact hk
    | cons a l => cases hg
  | _ => rw [hx] at hg; cases hg
theorem st_cc {f : FuncId} {vs : List AV} {x : AV} {hl : List (Nat × Blk)} {u : Upd} {h' : Nat → Option Blk} (hc : callee ⟨t, h⟩ op = some (f, vs)) (hcc : CallC P f vs hl nm x u) (hh : ∀ p ∈ hl, h p.1 = some p.2) (hu : ∀ p ∈ u, p.1 = nm ∨ p.1 ∈ hl.map (·.1)) (hm : nm ∉ hl.map (·.1)) (hw : updL h u = h') (hk : aops P r (nm + 1) ⟨putT t d x, h'⟩ K) : aops P (⟨d, op, none, deps⟩ :: r) nm ⟨t, h⟩ K := by
  subst hw
  obtain ⟨e1, e2⟩ := eff_callee (P := P) (nm := nm) (an := ⟨x, u, hl⟩) hc
  exact op_callC_of (aops_call ⟨x, u, hl⟩ (choosy_of_call e2) (by rw [e1]; exact ⟨hh, hu, hm, hcc⟩) (by rw [e1]; exact hk))
theorem st_cd {f : FuncId} {vs lv : List AV} {ns : List (Nat × Blk)} {x : AV} (hc : callee ⟨t, h⟩ op = some (f, vs)) (hl : lows ⟨t, h⟩ vs = lv) (hn : hls ⟨t, h⟩ vs = ns) (hp : Pure P f lv x) (hd : Dry x) (hm : nm ∉ ns.map (·.1)) (hk : aops P r (nm + 1) ⟨putT t d x, h⟩ K) : aops P (⟨d, op, none, deps⟩ :: r) nm ⟨t, h⟩ K :=
  aops_low hc (by rw [hl, hn]; exact callP_dry hp hm hd hk)
theorem st_co {f : FuncId} {vs lv : List AV} {es : List (List AV)} {sz : Nat} {ty : TypeId} (hc : callee ⟨t, h⟩ op = some (f, vs)) (hl : lows ⟨t, h⟩ vs = lv) (hn : hls ⟨t, h⟩ vs = []) (hp : PureOwn P f lv es sz ty) (hk : aops P r (nm + 1) ⟨putT t d (.own nm), upd h nm (some (.row es sz ty))⟩ K) : aops P (⟨d, op, none, deps⟩ :: r) nm ⟨t, h⟩ K :=
  aops_lowO hc (by rw [hl, hn]; exact callO_nil hp hk)
variable {KL : AState → List Ent → Prop} {es : List Ent}
theorem sl_u {u : Upd} (he : op.eff P nm ⟨t, h⟩ default = ⟨p, v, u, rd⟩) (hc : op.isCall = false) (hp : p) (hk : aopsL P r (nm + 1) ⟨putT t d v, updL h u⟩ (es ++ [⟨op.temps, rd, d, u.map (·.1)⟩]) KL) : aopsL P (⟨d, op, none, deps⟩ :: r) nm ⟨t, h⟩ es KL := by
  cases hch : op.choosy
  · rw [aopsL_op, hch, bcase_f, he]
    exact ⟨hp, hk⟩
  · exact aopsL_call (P := P) default hch (by rw [he]; exact hp) (by rw [he]; exact hk)
theorem sl_a {u : Upd} {h' : Nat → Option Blk} {l : List Nat} (he : op.eff P nm ⟨t, h⟩ default = ⟨p, v, u, rd⟩) (hc : op.isCall = false) (hu : updL h u = h') (hl : u.map (·.1) = l) (hp : p) (hk : aopsL P r (nm + 1) ⟨putT t d v, h'⟩ (es ++ [⟨op.temps, rd, d, l⟩]) KL) : aopsL P (⟨d, op, none, deps⟩ :: r) nm ⟨t, h⟩ es KL := by
  subst hu; subst hl; exact sl_u he hc hp hk
theorem sl_nil {S : AState} (hk : KL S es) : aopsL P [] nm S es KL := hk
theorem sl_g {q : Nat} {want b : Bool} (hb : op.isCall = false) (hv : t q = .v (.bool b)) {u : Upd} (he : b = want → op.eff P nm ⟨t, h⟩ default = ⟨p, v, u, rd⟩) (hp : b = want → p) (h1 : b = want → aopsL P r (nm + 1) ⟨putT t d v, updL h u⟩ (es ++ [⟨q :: op.temps, rd, d, u.map (·.1)⟩]) KL) (h2 : b = (!want) → aopsL P r (nm + 1) ⟨putT t d (.tup []), h⟩ (es ++ [⟨[q], [], d, []⟩]) KL) : aopsL P (⟨d, op, some (q, want), deps⟩ :: r) nm ⟨t, h⟩ es KL := by
  cases hch : op.choosy
  · rw [aopsL_g, hch, bcase_f]; show gval (t q) _ _ _; rw [hv]
    exact ⟨fun e => by rw [he e]; exact ⟨hp e, h1 e⟩, h2⟩
  · refine aopsL_callg (P := P) hch ?_
    show gval (t q) _ _ _
    rw [hv]
    exact ⟨fun e => ⟨default, by rw [he e]; exact hp e, by rw [he e]; exact h1 e⟩, h2⟩
theorem sl_gy {q : Nat} {want : Bool} (hb : op.isCall = false) (hv : t q = .v (.bool want)) {u : Upd} (he : op.eff P nm ⟨t, h⟩ default = ⟨p, v, u, rd⟩) (hp : p) (h1 : aopsL P r (nm + 1) ⟨putT t d v, updL h u⟩ (es ++ [⟨q :: op.temps, rd, d, u.map (·.1)⟩]) KL) : aopsL P (⟨d, op, some (q, want), deps⟩ :: r) nm ⟨t, h⟩ es KL :=
  sl_g hb hv (fun _ => he) (fun _ => hp) (fun _ => h1) (fun e => by cases want <;> cases e)
theorem sl_ga {q : Nat} {want : Bool} {h' : Nat → Option Blk} {l : List Nat} (hb : op.isCall = false) (hv : t q = .v (.bool want)) {u : Upd} (he : op.eff P nm ⟨t, h⟩ default = ⟨p, v, u, rd⟩) (hu : updL h u = h') (hl : u.map (·.1) = l) (hp : p) (h1 : aopsL P r (nm + 1) ⟨putT t d v, h'⟩ (es ++ [⟨q :: op.temps, rd, d, l⟩]) KL) : aopsL P (⟨d, op, some (q, want), deps⟩ :: r) nm ⟨t, h⟩ es KL := by
  subst hu; subst hl; exact sl_gy hb hv he hp h1
theorem sl_gn {q : Nat} {want b : Bool} (hv : t q = .v (.bool b)) (hbw : b = !want) (h2 : aopsL P r (nm + 1) ⟨putT t d (.tup []), h⟩ (es ++ [⟨[q], [], d, []⟩]) KL) : aopsL P (⟨d, op, some (q, want), deps⟩ :: r) nm ⟨t, h⟩ es KL := by
  cases hb : op.choosy
  · rw [aopsL_g, hb, bcase_f]; show gval (t q) _ _ _; rw [hv]
    refine gval_intro (fun e => ?_) (fun _ => h2)
    subst e; cases b <;> cases hbw
  · refine aopsL_callg (P := P) hb ?_
    show gval (t q) _ _ _
    rw [hv]
    refine gval_intro (fun e => ?_) (fun _ => h2)
    subst e; cases b <;> cases hbw
theorem sl_gu {q : Nat} {want : Bool} (hv : t q = .tup []) (h2 : aopsL P r (nm + 1) ⟨putT t d (.tup []), h⟩ (es ++ [⟨[q], [], d, []⟩]) KL) : aopsL P (⟨d, op, some (q, want), deps⟩ :: r) nm ⟨t, h⟩ es KL := by
  cases hb : op.choosy
  · rw [aopsL_g, hb, bcase_f]; show gval (t q) _ _ _; rw [hv]; exact h2
  · refine aopsL_callg (P := P) hb ?_
    show gval (t q) _ _ _
    rw [hv]; exact h2
theorem sl_case {q : Nat} {want b : Bool} (hv : t q = .v (.bool b)) (h1 : b = want → aopsL P (⟨d, op, some (q, want), deps⟩ :: r) nm ⟨t, h⟩ es KL) (h2 : b = (!want) → aopsL P (⟨d, op, some (q, want), deps⟩ :: r) nm ⟨t, h⟩ es KL) : aopsL P (⟨d, op, some (q, want), deps⟩ :: r) nm ⟨t, h⟩ es KL := by
  cases b <;> cases want
  · exact h1 rfl
  · exact h2 rfl
  · exact h2 rfl
  · exact h1 rfl
theorem sl_c {f : FuncId} {vs lv : List AV} {x : AV} {ns : List (Nat × Blk)} (hc : callee ⟨t, h⟩ op = some (f, vs)) (hl : lows ⟨t, h⟩ vs = lv) (hn : hls ⟨t, h⟩ vs = ns) (hp : Pure P f lv x) (hd : ns = [] ∨ Dry x) (hm : nm ∉ ns.map (·.1)) (hk : aopsL P r (nm + 1) ⟨putT t d x, h⟩ (es ++ [⟨op.temps, ns.map (·.1), d, []⟩]) KL) : aopsL P (⟨d, op, none, deps⟩ :: r) nm ⟨t, h⟩ es KL :=
  aopsL_low hc (by rw [hl, hn]; exact ⟨x, hp, hm, hd.imp (fun e => by rw [e]; rfl) id, hk⟩)
theorem sl_co {f : FuncId} {vs lv : List AV} {ys : List (List AV)} {sz : Nat} {ty : TypeId} (hc : callee ⟨t, h⟩ op = some (f, vs)) (hl : lows ⟨t, h⟩ vs = lv) (hn : hls ⟨t, h⟩ vs = []) (hp : PureOwn P f lv ys sz ty) (hk : aopsL P r (nm + 1) ⟨putT t d (.own nm), upd h nm (some (.row ys sz ty))⟩ (es ++ [⟨op.temps, [], d, [nm]⟩]) KL) : aopsL P (⟨d, op, none, deps⟩ :: r) nm ⟨t, h⟩ es KL :=
  aopsL_lowO hc (by rw [hl, hn]; exact callO_nil hp hk)
theorem sl_cg {q : Nat} {want : Bool} {f : FuncId} {vs lv : List AV} {x : AV} {ns : List (Nat × Blk)} (hop : op.isCall = true) (hv : t q = .v (.bool want)) (hc : callee ⟨t, h⟩ op = some (f, vs)) (hl : lows ⟨t, h⟩ vs = lv) (hn : hls ⟨t, h⟩ vs = ns) (hp : Pure P f lv x) (hd : ns = [] ∨ Dry x) (hm : nm ∉ ns.map (·.1)) (hk : aopsL P r (nm + 1) ⟨putT t d x, h⟩ (es ++ [⟨q :: op.temps, ns.map (·.1), d, []⟩]) KL) : aopsL P (⟨d, op, some (q, want), deps⟩ :: r) nm ⟨t, h⟩ es KL :=
  aopsL_lowG hop hv (fun _ => ⟨f, vs, hc, by rw [hl, hn]; exact ⟨x, hp, hm, hd.imp (fun e => by rw [e]; rfl) id, hk⟩⟩) (fun e => by cases want <;> cases e)
end steps
end Go.Ab
attribute [go_sem] Nat.reduceAdd Nat.reduceEqDiff Nat.reduceMul Nat.reduceLeDiff Nat.reduceLT Nat.reduceSub reduceIte reduceCtorEq Nat.reduceBEq Nat.reduceBNe Int.reduceToNat Int.reduceLT Int.reduceLE Int.reduceEq Int.reduceNe Int.reduceBEq Int.reduceBNe Int.reduceAdd Int.reduceSub Int.reduceNeg decide_true decide_false Bool.not_true Bool.not_false
namespace Go.Ab
@[go_sem] theorem eqAgg_a (neg : Bool) (ks : List Nat) (x y : List AV) : effEqAgg neg ks (.agg x) (.agg y) = ⟨(eqCells ks x y).1, .v (.bool (neg ^^ (eqCells ks x y).2)), [], []⟩ := rfl
@[go_sem] theorem eqCells_nil : eqCells [] [] [] = (True, true) := rfl
@[go_sem] theorem eqCells_cons (k : Nat) (ks : List Nat) (a b : AV) (x y : List AV) : eqCells (k :: ks) (a :: x) (b :: y) = ((eqCell k a b).1 ∧ (eqCells ks x y).1, (eqCell k a b).2 && (eqCells ks x y).2) := rfl
@[go_sem] theorem eqCell_i (k k' : IntKind) (a b : Int) : eqCell 0 (.v (.int k a)) (.v (.int k' b)) = (k = k', a == b) := rfl
@[go_sem] theorem eqCell_b (a b : Bool) : eqCell 1 (.v (.bool a)) (.v (.bool b)) = (True, a == b) := rfl
@[go_sem] theorem eqCell_s (a b : ByteArray) : eqCell 2 (.v (.string a)) (.v (.string b)) = (True, a.toList == b.toList) := rfl
@[go_sem] theorem idxPtr_bp (len sz b o : Nat) (k : IntKind) (n : Int) : effIdxPtr len sz (.v (.int k n)) (.bp b o) = ⟨0 ≤ n ∧ n < len, .bp b (o + n.toNat * sz), [], []⟩ := rfl
@[go_sem] theorem idxPtr_rp (len sz : Nat) (cs : List AV) (k : IntKind) (n : Int) : effIdxPtr len sz (.v (.int k n)) (.rp cs) = ⟨0 ≤ n ∧ n < len ∧ n.toNat * sz < cs.length, .rp (cs.drop (n.toNat * sz)), [], []⟩ := rfl
end Go.Ab
example : (if 2 + 3 = 5 then 1 else 2) = 1 := by simp only [go_sem]
namespace Go.Proofs
open Go Go.Ab
set_option maxHeartbeats 1000000
set_option maxRecDepth 100000
attribute [local irreducible] Awp aops aopsL Go.Ab.Pure PureOwn
def ints (l : List Int) : List (List AV) := l.map fun n => [.v (.int .i64 n)]
theorem ints_len (l : List Int) : (ints l).length = l.length := by simp [ints]
attribute [go_sem] ints_len
@[go_sem] theorem ints_at (l : List Int) (i : Nat) (h : i < l.length) : (ints l).getD i [] = [.v (.int .i64 (l.getD i 0))] := by
  simp [ints, List.getD_eq_getElem?_getD, h]
@[go_sem] theorem neg1 : Int.negSucc 0 = -1 := rfl
def byteAt (s : ByteArray) (i : Nat) : Int := (s.data.getD i 0).toNat
def letB (c : Int) : Bool := decide (97 ≤ c) && decide (c ≤ 122) || decide (65 ≤ c) && decide (c ≤ 90)
def digB (c : Int) : Bool := decide (48 ≤ c) && decide (c ≤ 57)
def okB (c : Int) : Bool := letB c || digB c || c == 95 || c == 45
def nameB (s : ByteArray) : Bool := !(s.size == 0) && decide (s.size ≤ 16) && letB (byteAt s 0) && (List.range s.size).all fun i => okB (byteAt s i)
theorem byteAt_def (s : ByteArray) (i : Nat) : ((s.data.getD i 0).toNat : Int) = byteAt s i := rfl
attribute [go_sem] byteAt_def
theorem nameB_head {s : ByteArray} (h : (s.size == 0 || decide (16 < (s.size : Int)) || !letB (byteAt s 0)) = true) : nameB s = false := by
  simp only [Bool.or_eq_true, beq_iff_eq, decide_eq_true_eq, Bool.not_eq_true'] at h
  rcases h with (h | h) | h
  · simp [nameB, h]
  · have : ¬ s.size ≤ 16 := by omega
    simp [nameB, this]
  · simp [nameB, h]
theorem nameB_bad {s : ByteArray} {i : Nat} (h : i < s.size) (e : okB (byteAt s i) = false) : nameB s = false := by
  have : ((List.range s.size).all fun i => okB (byteAt s i)) = false := by
    simp only [List.all_eq_false, List.mem_range]
    exact ⟨i, h, by simp [e]⟩
  simp [nameB, this]
theorem nameB_end {s : ByteArray} {i : Nat} (h0 : s.size ≠ 0) (h1 : (s.size : Int) ≤ 16) (h2 : letB (byteAt s 0) = true) (h : ∀ j, j < i → okB (byteAt s j) = true) (hi : s.size ≤ i) : nameB s = true := by
  have : ((List.range s.size).all fun i => okB (byteAt s i)) = true := by
    simp only [List.all_eq_true, List.mem_range]
    exact fun j hj => h j (by omega)
  have h3 : s.size ≤ 16 := by omega
  simp [nameB, this, h0, h3, h2]
theorem ltSucc {P : Nat → Prop} {i : Nat} (h : ∀ j, j < i → P j) (hi : P i) : ∀ j, j < i + 1 → P j := fun j hj => by
  rcases Nat.lt_succ_iff_lt_or_eq.1 hj with h' | rfl
  · exact h j h'
  · exact hi
theorem get_byteAt (s : ByteArray) (i : Nat) : ((s.get! i).toNat : Int) = byteAt s i := by
  show ((s.data[i]!).toNat : Int) = _
  rw [Array.getElem!_eq_getD]
  rfl
theorem decode_lo {s : ByteArray} {i : Nat} (h : byteAt s i < 128) : ((Utf8.decode s i).1 : Int) = byteAt s i ∧ (Utf8.decode s i).2 = 1 := by
  have h1 := get_byteAt s i
  have h2 : (s.get! i).toNat < 128 := by omega
  simp only [Utf8.decode, h2, if_true, Nat.add_zero]
  exact ⟨h1, trivial⟩
theorem decode_hi {s : ByteArray} {i : Nat} (h : 128 ≤ byteAt s i) : (128 : Int) ≤ ((Utf8.decode s i).1 : Int) := by
  have h1 := get_byteAt s i
  have h2 : ¬ (s.get! i).toNat < 128 := by omega
  have h3 : 128 ≤ (Utf8.decode s i).1 := by
    simp only [Utf8.decode, Nat.add_zero, h2, if_false, Utf8.runeError]
    repeat' split
    all_goals simp_all
    all_goals omega
  omega
def nmC (c : Int) (i : Nat) : Bool := !(decide (65 ≤ c) && decide (c ≤ 90) || decide (97 ≤ c) && decide (c ≤ 122)) && ((i : Int) == 0 || !(decide (48 ≤ c) && decide (c ≤ 57) || c == 95 || c == 45))
theorem nm_bad {s : ByteArray} {i : Nat} (hi : i < s.size) (h : nmC ((Utf8.decode s i).1 : Nat) i = true) : nameB s = false := by
  rcases Int.lt_or_le (byteAt s i) 128 with hb | hb
  · rw [(decode_lo hb).1] at h
    by_cases h0 : i = 0
    · subst h0
      refine nameB_head ?_
      simp only [nmC, Bool.and_eq_true, Bool.not_eq_true'] at h
      simp only [Bool.or_eq_true, Bool.not_eq_true', letB]
      refine .inr ?_
      rw [Bool.or_comm]
      exact h.1
    · refine nameB_bad hi ?_
      simp [nmC, okB, letB, digB, h0] at h ⊢
      omega
  · have := decode_hi hb
    refine nameB_bad hi ?_
    simp [okB, letB, digB]
    omega
theorem nm_good {s : ByteArray} {i : Nat} (h : nmC ((Utf8.decode s i).1 : Nat) i = false) : (Utf8.decode s i).2 = 1 ∧ okB (byteAt s i) = true ∧ (i = 0 → letB (byteAt s 0) = true) := by
  rcases Int.lt_or_le (byteAt s i) 128 with hb | hb
  · rw [(decode_lo hb).1] at h
    refine ⟨(decode_lo hb).2, ?_, fun h0 => ?_⟩
    · simp [nmC, okB, letB, digB] at h ⊢
      omega
    · subst h0
      simp [nmC, letB] at h ⊢
      omega
  · have h1 := decode_hi hb
    generalize ((Utf8.decode s i).1 : Int) = c at *
    simp [nmC] at h
    omega
theorem name_ok (s : ByteArray) : Pure Tryz.prog 49 [.v (.string s)] (.v (.bool (nameB s))) := by
  refine fn_pure Tryz.F49 (Nat.le_of_ble_eq_true rfl) ?_; unfold Tryz.ac49 AR AM AO
  repeat' (first
 | (apply Awp.sreg; (case hn => (simp only [List.length_cons, List.length_nil, Nat.reduceAdd] <;> rfl)))
 | (refine st_nil ?_)
 | (apply st_a; (case hc => rfl); (case he => (simp only [go_sem, *] <;> rfl)); (case hu => (simp only [updL_nil, updL_cons] <;> rfl)); (case hp => first | trivial))
 | (apply st_m; (case hc => rfl); (case hg => (simp only [go_sem, *] <;> rfl)); (case he => (intro hQz; (try simp only [wantB_t, wantB_f, Bool.and_eq_true, Bool.not_eq_true', Bool.not_true, Bool.not_false, and_true, true_and] at hQz); simp only [go_sem, *] <;> rfl)); (case hp => (intro hQz; (try simp only [wantB_t, wantB_f, Bool.and_eq_true, Bool.not_eq_true', Bool.or_eq_false_iff, decide_eq_true_eq, decide_eq_false_iff_not, beq_iff_eq, beq_eq_false_iff_ne, bne_iff_ne, bne_eq_false_iff_eq, Int.not_lt, Int.not_le, Int.ofNat_lt, Int.ofNat_le] at hQz); first | trivial)))
 | (refine Awp.ret ?_; try simp only [go_sem, *])
 | (refine Awp.skip ?_; try simp only [go_sem, *])
 | refine Awp.block ?_
 | (apply Awp.cond; (case hc => (simp only [go_sem, *] <;> rfl)); all_goals (intro hg; (try simp only [Bool.not_true, Bool.not_false, reduceCtorEq] at hg); (try have hg' := hg); (try simp only [decide_eq_true_eq, decide_eq_false_iff_not, Bool.and_eq_true, Bool.or_eq_false_iff, bne_iff_ne, bne_eq_false_iff_eq, beq_iff_eq, beq_eq_false_iff_ne, Int.not_lt, Int.not_le, Int.ofNat_lt, Int.ofNat_le, Int.natCast_inj] at hg')))
 | refine Awp.seq ?_)
  · refine Lower.bool (nameB_head ?_).symm
    rw [hg]; rfl
  · have h0 := hg'
    refine Awp.loop (fun i : Nat => i ≤ s.size ∧ (0 < i → letB (byteAt s 0) = true) ∧ ∀ j, j < i → okB (byteAt s j) = true) 10 (fun i => mkS [(0, .v (.string s)), (15, .bp 9 0)] [(9, .iter s i)]) (fun i => s.size - i) 0 (by simp) ?_ ?_
    · (apply Ghost.mk [] []; (case hdead => rfl); (case hinj => rfl); (case hV => (simp only [go_sem, *]) <;> (repeat' (first | exact .bp rfl (by decide)))); (case hB => (simp only [go_sem, *]) <;> (repeat' (first | exact ⟨_, rfl, .iterE (by first | rfl | omega | (simp; done) | (rw [wrap_i64] <;> (try simp only [Int.natCast_add]) <;> omega) | (simp [*]; done))⟩))))
    · intro i ⟨hi, hl, hj⟩
      by_cases hs : i < s.size
      · have e1 := nextV_in hs
        have e2 := nextPos_in hs
        repeat' (first
 | (apply Awp.sreg; (case hn => (simp only [List.length_cons, List.length_nil, Nat.reduceAdd] <;> rfl)))
 | (refine st_nil ?_)
 | (apply st_a; (case hc => rfl); (case he => (simp only [go_sem, *] <;> rfl)); (case hu => (simp only [updL_nil, updL_cons] <;> rfl)); (case hp => first | trivial))
 | (apply st_m; (case hc => rfl); (case hg => (simp only [go_sem, *] <;> rfl)); (case he => (intro hQz; (try simp only [wantB_t, wantB_f, Bool.and_eq_true, Bool.not_eq_true', Bool.not_true, Bool.not_false, and_true, true_and] at hQz); simp only [go_sem, *] <;> rfl)); (case hp => (intro hQz; (try simp only [wantB_t, wantB_f, Bool.and_eq_true, Bool.not_eq_true', Bool.or_eq_false_iff, decide_eq_true_eq, decide_eq_false_iff_not, beq_iff_eq, beq_eq_false_iff_ne, bne_iff_ne, bne_eq_false_iff_eq, Int.not_lt, Int.not_le, Int.ofNat_lt, Int.ofNat_le] at hQz); first | trivial)))
 | (refine Awp.ret ?_; try simp only [go_sem, *])
 | (refine Awp.skip ?_; try simp only [go_sem, *])
 | refine Awp.block ?_
 | (apply Awp.cond; (case hc => (simp only [go_sem, *] <;> rfl)); all_goals (intro hg; (try simp only [Bool.not_true, Bool.not_false, reduceCtorEq] at hg); (try have hg' := hg); (try simp only [decide_eq_true_eq, decide_eq_false_iff_not, Bool.and_eq_true, Bool.or_eq_false_iff, bne_iff_ne, bne_eq_false_iff_eq, beq_iff_eq, beq_eq_false_iff_ne, Int.not_lt, Int.not_le, Int.ofNat_lt, Int.ofNat_le, Int.natCast_inj] at hg')))
 | refine Awp.seq ?_)
        · exact Lower.bool (nm_bad hs hg).symm
        · obtain ⟨g1, g2, g3⟩ := nm_good (s := s) (i := i) hg
          rw [g1] at e2
          refine ⟨i + 1, ⟨by omega, fun _ => ?_, ltSucc hj g2⟩, by omega, ?_⟩
          · rcases Nat.eq_zero_or_pos i with h | h
            · exact g3 h
            · exact hl h
          · (apply Ghost.mk [] []; (case hdead => rfl); (case hinj => rfl); (case hV => (simp only [go_sem, *]) <;> (repeat' (first | exact .bp rfl (by decide)))); (case hB => (simp only [go_sem, *]) <;> (repeat' (first | exact ⟨_, rfl, .iterE (by first | rfl | omega | (simp; done) | (rw [wrap_i64] <;> (try simp only [Int.natCast_add]) <;> omega) | (simp [*]; done))⟩))))
      · have e1 := nextV_end hs
        have e2 := nextPos_end hs
        repeat' (first
 | (apply Awp.sreg; (case hn => (simp only [List.length_cons, List.length_nil, Nat.reduceAdd] <;> rfl)))
 | (refine st_nil ?_)
 | (apply st_a; (case hc => rfl); (case he => (simp only [go_sem, *] <;> rfl)); (case hu => (simp only [updL_nil, updL_cons] <;> rfl)); (case hp => first | trivial))
 | (refine Awp.ret ?_; try simp only [go_sem, *])
 | (refine Awp.exit ?_; try simp only [go_sem, *])
 | (apply Awp.cond; (case hc => (simp only [go_sem, *] <;> rfl)); all_goals (intro hg; (try simp only [Bool.not_true, Bool.not_false, reduceCtorEq] at hg); (try have hg' := hg); (try simp only [decide_eq_true_eq, decide_eq_false_iff_not, Bool.and_eq_true, Bool.or_eq_false_iff, bne_iff_ne, bne_eq_false_iff_eq, beq_iff_eq, beq_eq_false_iff_ne, Int.not_lt, Int.not_le, Int.ofNat_lt, Int.ofNat_le, Int.natCast_inj] at hg')))
 | refine Awp.seq ?_)
        all_goals exact Lower.bool (nameB_end h0.1 h0.2 (hl (by omega)) hj (by omega)).symm
end Go.Proofs
namespace Go.Proofs
open Go.Shelf
def Tryz.lays219_ren : Go.Shelf.Ren := ⟨fun | 219 => 116 | 217 => 126 | 225 => 127 | 224 => 128 | 267 => 129 | 266 => 133 | 314 => 134 | n => n, fun | 9 => 9 | 3 => 3 | 4 => 4 | 5 => 5 | 46 => 83 | 146 => 153 | 51 => 108 | n => n, fun | 1 => 0 | n => n⟩
def Tryz.lays143_ren : Go.Shelf.Ren := ⟨fun | 143 => 109 | 219 => 116 | 217 => 126 | 225 => 127 | 224 => 128 | 267 => 129 | 266 => 133 | 314 => 134 | n => n, fun | 9 => 9 | 3 => 3 | 4 => 4 | 5 => 5 | 46 => 83 | 146 => 153 | 51 => 108 | n => n, fun | 1 => 0 | n => n⟩
theorem Tryz.lays143 : Go.Proofs.Lays.n143 Tryz.prog Tryz.lays143_ren := {
  mixed := by kernel_rfl
  f143 := Tryz.func109.trans (congrArg some (by kernel_rfl))
  f217 := Tryz.func126.trans (congrArg some (by kernel_rfl))
  f219 := Tryz.func116.trans (congrArg some (by kernel_rfl))
  f224 := Tryz.func128.trans (congrArg some (by kernel_rfl))
  f225 := Tryz.func127.trans (congrArg some (by kernel_rfl))
  f266 := Tryz.func133.trans (congrArg some (by kernel_rfl))
  f267 := Tryz.func129.trans (congrArg some (by kernel_rfl))
  f314 := Tryz.func134.trans (congrArg some (by kernel_rfl))
  t3 := Tryz.underlying3
  a3 := Tryz.isAgg3
  z3 := Tryz.sizeOf3
  v3 := Tryz.zeroValue3
  t4 := Tryz.underlying4
  a4 := Tryz.isAgg4
  z4 := Tryz.sizeOf4
  v4 := Tryz.zeroValue4
  t5 := Tryz.underlying5
  a5 := Tryz.isAgg5
  z5 := Tryz.sizeOf5
  v5 := Tryz.zeroValue5
  t9 := Tryz.underlying9
  a9 := Tryz.isAgg9
  z9 := Tryz.sizeOf9
  v9 := Tryz.zeroValue9
  t46 := Tryz.underlying83
  a46 := Tryz.isAgg83
  z46 := Tryz.sizeOf83
  v46 := Tryz.zeroValue83
  t51 := Tryz.underlying108
  a51 := Tryz.isAgg108
  z51 := Tryz.sizeOf108
  v51 := Tryz.zeroValue108
  t146 := Tryz.underlying153
  a146 := Tryz.isAgg153
  z146 := Tryz.sizeOf153
  v146 := Tryz.zeroValue153
  g1 := by kernel_rfl }
open Go.RowKit Go.Lib in
/-- strings.Index: "Index returns the index of the first instance of substr in s, or -1 if substr is not present in s.": AT A substr OF ONE BYTE c: IT RETURNS 'Lib.indexByte s c'; the world is as it was. (LAID: no walk: one application.) -/
theorem Tryz.strings_Index_one (s : ByteArray) (c : UInt8) (w : World) :
    Calls Tryz.prog 109 #[.string s, .string ⟨#[c]⟩] w fun e w' => e = .returned (.int .i64 (Lib.indexByte s.data.toList c)) ∧ w' = w := Any.strings_Index_one Tryz.lays143 s c w
def Tryz.lays138_ren : Go.Shelf.Ren := ⟨fun | 138 => 108 | 195 => 113 | 218 => 115 | 143 => 109 | 219 => 116 | 217 => 126 | 225 => 127 | 224 => 128 | 267 => 129 | 266 => 133 | 314 => 134 | n => n, fun | 9 => 9 | 3 => 3 | 4 => 4 | 5 => 5 | 0 => 0 | 46 => 83 | 146 => 153 | 51 => 108 | n => n, fun | 1 => 0 | n => n⟩
theorem Tryz.lays138 : Go.Proofs.Lays.n138 Tryz.prog Tryz.lays138_ren := {
  mixed := by kernel_rfl
  f138 := Tryz.func108.trans (congrArg some (by kernel_rfl))
  f143 := Tryz.func109.trans (congrArg some (by kernel_rfl))
  f195 := Tryz.func113.trans (congrArg some (by kernel_rfl))
  f217 := Tryz.func126.trans (congrArg some (by kernel_rfl))
  f218 := Tryz.func115.trans (congrArg some (by kernel_rfl))
  f219 := Tryz.func116.trans (congrArg some (by kernel_rfl))
  f224 := Tryz.func128.trans (congrArg some (by kernel_rfl))
  f225 := Tryz.func127.trans (congrArg some (by kernel_rfl))
  f266 := Tryz.func133.trans (congrArg some (by kernel_rfl))
  f267 := Tryz.func129.trans (congrArg some (by kernel_rfl))
  f314 := Tryz.func134.trans (congrArg some (by kernel_rfl))
  t0 := Tryz.underlying0
  a0 := Tryz.isAgg0
  z0 := Tryz.sizeOf0
  v0 := Tryz.zeroValue0
  t3 := Tryz.underlying3
  a3 := Tryz.isAgg3
  z3 := Tryz.sizeOf3
  v3 := Tryz.zeroValue3
  t4 := Tryz.underlying4
  a4 := Tryz.isAgg4
  z4 := Tryz.sizeOf4
  v4 := Tryz.zeroValue4
  t5 := Tryz.underlying5
  a5 := Tryz.isAgg5
  z5 := Tryz.sizeOf5
  v5 := Tryz.zeroValue5
  t9 := Tryz.underlying9
  a9 := Tryz.isAgg9
  z9 := Tryz.sizeOf9
  v9 := Tryz.zeroValue9
  t46 := Tryz.underlying83
  a46 := Tryz.isAgg83
  z46 := Tryz.sizeOf83
  v46 := Tryz.zeroValue83
  t51 := Tryz.underlying108
  a51 := Tryz.isAgg108
  z51 := Tryz.sizeOf108
  v51 := Tryz.zeroValue108
  t146 := Tryz.underlying153
  a146 := Tryz.isAgg153
  z146 := Tryz.sizeOf153
  v146 := Tryz.zeroValue153
  g1 := by kernel_rfl }
open Go.RowKit Go.Lib in
/-- strings.Count AT A substr OF ONE BYTE ('hp'): "Count counts the number of non-overlapping instances of substr in s.": IT RETURNS 'Lib.countByte s (that byte)'; the world is as it was. ✋ NO CONTRACT HERE YET at an empty substr (utf8.RuneCountInString) or at a longer one (a loop over strings.Index). (LAID: no walk: one application.) -/
theorem Tryz.strings_Count_one (s : ByteArray) (c : UInt8) (w : World) :
    Calls Tryz.prog 108 #[.string s, .string ⟨#[c]⟩] w fun e w' => e = .returned (.int .i64 (Lib.countByte s.data.toList c)) ∧ w' = w := Any.strings_Count_one Tryz.lays138 s c w
def Tryz.lays189_ren : Go.Shelf.Ren := ⟨fun | 189 => 33 | 125 => 56 | 257 => 55 | 128 => 84 | 129 => 85 | 294 => 75 | 295 => 76 | 296 => 77 | 297 => 78 | 298 => 79 | 299 => 80 | 216 => 81 | 300 => 82 | 301 => 83 | 328 => 94 | 329 => 95 | 330 => 96 | 331 => 97 | 332 => 98 | 215 => 99 | 343 => 110 | n => n, fun | 28 => 32 | 3 => 3 | 46 => 83 | 0 => 0 | 51 => 108 | 53 => 110 | 4 => 4 | 183 => 100 | 182 => 99 | 131 => 105 | 5 => 5 | 9 => 9 | 218 => 117 | 222 => 121 | 228 => 132 | 229 => 133 | n => n, fun | n => n⟩
theorem Tryz.lays189 : Go.Proofs.Lays.n189 Tryz.prog Tryz.lays189_ren := {
  mixed := by kernel_rfl
  f125 := Tryz.func56.trans (congrArg some (by kernel_rfl))
  f128 := Tryz.func84.trans (congrArg some (by kernel_rfl))
  f129 := Tryz.func85.trans (congrArg some (by kernel_rfl))
  f189 := Tryz.func33.trans (congrArg some (by kernel_rfl))
  f215 := Tryz.func99.trans (congrArg some (by kernel_rfl))
  f216 := Tryz.func81.trans (congrArg some (by kernel_rfl))
  f257 := Tryz.func55.trans (congrArg some (by kernel_rfl))
  f294 := Tryz.func75.trans (congrArg some (by kernel_rfl))
  f295 := Tryz.func76.trans (congrArg some (by kernel_rfl))
  f296 := Tryz.func77.trans (congrArg some (by kernel_rfl))
  f297 := Tryz.func78.trans (congrArg some (by kernel_rfl))
  f298 := Tryz.func79.trans (congrArg some (by kernel_rfl))
  f299 := Tryz.func80.trans (congrArg some (by kernel_rfl))
  f300 := Tryz.func82.trans (congrArg some (by kernel_rfl))
  f301 := Tryz.func83.trans (congrArg some (by kernel_rfl))
  f328 := Tryz.func94.trans (congrArg some (by kernel_rfl))
  f329 := Tryz.func95.trans (congrArg some (by kernel_rfl))
  f330 := Tryz.func96.trans (congrArg some (by kernel_rfl))
  f331 := Tryz.func97.trans (congrArg some (by kernel_rfl))
  f332 := Tryz.func98.trans (congrArg some (by kernel_rfl))
  f343 := Tryz.func110.trans (congrArg some (by kernel_rfl))
  t0 := Tryz.underlying0
  a0 := Tryz.isAgg0
  z0 := Tryz.sizeOf0
  v0 := Tryz.zeroValue0
  t3 := Tryz.underlying3
  a3 := Tryz.isAgg3
  z3 := Tryz.sizeOf3
  v3 := Tryz.zeroValue3
  t4 := Tryz.underlying4
  a4 := Tryz.isAgg4
  z4 := Tryz.sizeOf4
  v4 := Tryz.zeroValue4
  t5 := Tryz.underlying5
  a5 := Tryz.isAgg5
  z5 := Tryz.sizeOf5
  v5 := Tryz.zeroValue5
  t9 := Tryz.underlying9
  a9 := Tryz.isAgg9
  z9 := Tryz.sizeOf9
  v9 := Tryz.zeroValue9
  t28 := Tryz.underlying32
  a28 := Tryz.isAgg32
  z28 := Tryz.sizeOf32
  v28 := Tryz.zeroValue32
  t46 := Tryz.underlying83
  a46 := Tryz.isAgg83
  z46 := Tryz.sizeOf83
  v46 := Tryz.zeroValue83
  t51 := Tryz.underlying108
  a51 := Tryz.isAgg108
  z51 := Tryz.sizeOf108
  v51 := Tryz.zeroValue108
  t53 := Tryz.underlying110
  a53 := Tryz.isAgg110
  z53 := Tryz.sizeOf110
  v53 := Tryz.zeroValue110
  t131 := Tryz.underlying105
  a131 := Tryz.isAgg105
  z131 := Tryz.sizeOf105
  v131 := Tryz.zeroValue105
  t182 := Tryz.underlying99
  a182 := Tryz.isAgg99
  z182 := Tryz.sizeOf99
  v182 := Tryz.zeroValue99
  t183 := Tryz.underlying100
  a183 := Tryz.isAgg100
  z183 := Tryz.sizeOf100
  v183 := Tryz.zeroValue100
  t218 := Tryz.underlying117
  a218 := Tryz.isAgg117
  z218 := Tryz.sizeOf117
  v218 := Tryz.zeroValue117
  t222 := Tryz.underlying121
  a222 := Tryz.isAgg121
  z222 := Tryz.sizeOf121
  v222 := Tryz.zeroValue121
  t228 := Tryz.underlying132
  a228 := Tryz.isAgg132
  z228 := Tryz.sizeOf132
  v228 := Tryz.zeroValue132
  t229 := Tryz.underlying133
  a229 := Tryz.isAgg133
  z229 := Tryz.sizeOf133
  v229 := Tryz.zeroValue133 }
open Go.Sort Go.RowKit in
theorem Tryz.slices_Sort_int (blk off cap : Nat) (zs : List Int) (w : World) (hH : Holds (Value.int .i64) w blk off zs.toArray) (hblk : blk < w.heap.size) (hsz : zs.length < 4611686018427387904) :
    Calls Tryz.prog 33 #[.slice (some ⟨blk, off, none⟩) zs.length cap] w fun e w' =>
      e = .returned (.tuple #[]) ∧ ∃ n os, w' = grow (putRow (Value.int .i64) (Sort.ahead w n) blk off (zs.mergeSort fun x y => decide (x ≤ y)).toArray) os := Any.slices_Sort_int Tryz.lays189 blk off cap zs w hH hblk hsz
def Tryz.laysNm220_ren : Go.Shelf.Ren := ⟨fun | 20 => 34 | n => n, fun | 22 => 32 | 3 => 3 | 4 => 4 | 0 => 0 | n => n, fun | n => n⟩
theorem Tryz.laysNm220 : Go.Proofs.Lays2.n20 Tryz.prog Tryz.laysNm220_ren := {
  mixed := by kernel_rfl
  f20 := Tryz.func34.trans (congrArg some (by kernel_rfl))
  t0 := Tryz.underlying0
  a0 := Tryz.isAgg0
  z0 := Tryz.sizeOf0
  v0 := Tryz.zeroValue0
  t3 := Tryz.underlying3
  a3 := Tryz.isAgg3
  z3 := Tryz.sizeOf3
  v3 := Tryz.zeroValue3
  t4 := Tryz.underlying4
  a4 := Tryz.isAgg4
  z4 := Tryz.sizeOf4
  v4 := Tryz.zeroValue4
  t22 := Tryz.underlying32
  a22 := Tryz.isAgg32
  z22 := Tryz.sizeOf32
  v22 := Tryz.zeroValue32
  i3 := by kernel_rfl }
open Go.RowKit Go.Lib Go.Sort in
/-- slices.Compact at []int: "Compact replaces consecutive runs of equal elements with a single copy. This is like the uniq command found on Unix. Compact modifies the contents of the slice s and returns the modified slice, which may have a smaller length. Compact zeroes the elements between the new length and the original length. The result preserves the nilness of s.": IT RETURNS THE SLICE CUT TO 'Lib.compact zs'; ITS CELLS HOLD 'Lib.compact zs', THEN ZERO VALUES up to the old length; all else is as it was, but for the count of draws. IN THE WORDS OF slices.Sort's CONTRACT ('Holds', 'putRow'): so the everyday 'slices.Sort(xs); xs = slices.Compact(xs)' goes from the one contract to the other. It asks 'zs.length ≤ cap' (every slice's: the reslicing 's[:k]' looks at it). Length 0, nil: '.._empty'. (LAID: no walk: one application.) -/
theorem Tryz.slices_Compact_int (blk off cap : Nat) (zs : List Int) (w : World) (hH : Holds (Value.int .i64) w blk off zs.toArray) (hsz : zs.length ≤ 9223372036854775807) (hcap : zs.length ≤ cap) :
    Calls Tryz.prog 34 #[.slice (some ⟨blk, off, none⟩) zs.length cap] w fun e w' => e = .returned (.slice (some ⟨blk, off, none⟩) (Lib.compact zs).length cap) ∧ ∃ q, w' = putRow (Value.int .i64) (Sort.ahead w q) blk off (Lib.compact zs ++ List.replicate (zs.length - (Lib.compact zs).length) 0).toArray := Any.slices_Compact_int Tryz.laysNm220 blk off cap zs w hH hsz hcap
open Go.RowKit Go.Lib Go.Sort in
/-- The same at a slice of length 0, a nil one too: it comes back as it is. (LAID: no walk: one application.) -/
theorem Tryz.slices_Compact_int_empty (a : Option Addr) (cap : Nat) (w : World) :
    Calls Tryz.prog 34 #[.slice a 0 cap] w fun e w' => e = .returned (.slice a 0 cap) ∧ w' = w := Any.slices_Compact_int_empty Tryz.laysNm220 a cap w
open Go.RowKit Go.Sort in
/-- .. and plain. (LAID: no walk: one application.) -/
theorem Tryz.slices_Sort_int_none (p : Option Addr) (cap : Nat) (w : World) :
    Calls Tryz.prog 33 #[.slice p 0 cap] w fun e w' => e = .returned (.tuple #[]) ∧ w' = w := Any.slices_Sort_int_none Tryz.lays189 p cap w
end Go.Proofs
namespace Go.Proofs
open Go Go.Ab
set_option maxHeartbeats 1000000
set_option maxRecDepth 100000
theorem pure_two {P : Program} {f : FuncId} {x y v : Value} (hc : Callable P f) (h : ∀ w, Calls P f #[x, y] w fun e w' => e = .returned v ∧ w' = w) : Go.Ab.Pure P f [.v x, .v y] (.v v) := by
  refine ⟨hc, fun ok w cs ha => ?_⟩
  obtain ⟨hl, hv⟩ := ha
  match cs, hl with
  | [a, b], _ =>
    have h1 := hv 0 (by simp)
    have h2 := hv 1 (by simp)
    simp only [av_zero, av_succ, cv, List.getD_cons_zero, List.getD_cons_succ] at h1 h2
    cases h1; cases h2
    refine (h w).mono fun e w' ⟨he, hw⟩ => ⟨v, he, ?_, .v _⟩
    subst hw
    exact ⟨rfl, rfl, rfl, Nat.le_refl _, fun _ _ => rfl⟩
theorem count_ok (s : ByteArray) : Go.Ab.Pure Tryz.prog 108 [.v (.string s), .v (.string ⟨⟨[46]⟩⟩)] (.v (.int .i64 (Lib.countByte s.data.toList 46 : Nat))) :=
  pure_two ⟨_, Tryz.func108, by kernel_rfl, by kernel_rfl⟩ fun w => Tryz.strings_Count_one s 46 w
theorem indexS_ok (s : ByteArray) : Go.Ab.Pure Tryz.prog 109 [.v (.string s), .v (.string ⟨⟨[46]⟩⟩)] (.v (.int .i64 (Lib.indexByte s.data.toList 46))) :=
  pure_two ⟨_, Tryz.func109, by kernel_rfl, by kernel_rfl⟩ fun w => Tryz.strings_Index_one s 46 w
attribute [local irreducible] Awp aops aopsL Go.Ab.Pure PureOwn
def strs (l : List ByteArray) : List (List AV) := l.map fun s => [.v (.string s)]
@[go_sem] theorem strs_len (l : List ByteArray) : (strs l).length = l.length := by simp [strs]
@[go_sem] theorem strs_at (l : List ByteArray) (i : Nat) (h : i < l.length) : (strs l).getD i [] = [.v (.string (l.getD i ⟨#[]⟩))] := by
  simp [strs, List.getD_eq_getElem?_getD, h]
def parF (s : ByteArray) : Nat → Nat → Nat → List ByteArray
  | 0, _, _ => []
  | n + 1, i, fr => if i == s.size || byteAt s i == 46 then s.extract fr i :: parF s n (i + 1) (i + 1) else parF s n (i + 1) fr
def parts (s : ByteArray) : List ByteArray := parF s (s.size + 1) 0 0
theorem ext_ext (s : ByteArray) (a b c d : Nat) : (s.extract a b).extract c d = s.extract (a + c) (min (a + d) b) := by
  apply ByteArray.ext
  simp [Array.extract_extract]
theorem ext_size (s : ByteArray) (a b : Nat) : (s.extract a b).size = min b s.size - a := by
  exact ByteArray.size_extract
end Go.Proofs
namespace Go.Proofs
open Go Go.Ab
set_option maxHeartbeats 1000000
set_option maxRecDepth 100000
attribute [local irreducible] Awp aops aopsL Go.Ab.Pure PureOwn
theorem ix_some : ∀ (l : List UInt8), 0 < l.count 46 → ∃ m : Nat, Lib.indexByte l 46 = (m : Int) ∧ m < l.length ∧ l.getD m 0 = 46 ∧ (∀ j, j < m → l.getD j 0 ≠ 46) ∧ l.count 46 = (l.drop (m + 1)).count 46 + 1
  | [], h => by simp at h
  | b :: l, h => by
    by_cases hb : b = 46
    · subst hb
      exact ⟨0, by simp [Lib.indexByte], by simp, by simp, fun j hj => by omega, by simp⟩
    · have hc : (b :: l).count 46 = l.count 46 := by rw [List.count_cons]; simp [hb]
      rw [hc] at h
      obtain ⟨m, h1, h2, h3, h4, h5⟩ := ix_some l h
      refine ⟨m + 1, ?_, by simp; omega, by simpa using h3, fun j hj => ?_, by rw [hc, h5]; simp⟩
      · have : ¬ ((m : Int) = -1) := by omega
        simp [Lib.indexByte, hb, h1, this]
      · cases j with
        | zero => simpa using hb
        | succ j => simpa using h4 j (by omega)
theorem byteAt_list (s : ByteArray) (i : Nat) : byteAt s i = ((s.data.toList.getD i 0).toNat : Int) := by
  unfold byteAt
  rw [Array.getD_eq_getD_getElem?, List.getD_eq_getElem?_getD, Array.getElem?_toList]
theorem byteAt_dot {s : ByteArray} {i : Nat} : byteAt s i = 46 ↔ s.data.toList.getD i 0 = 46 := by
  rw [byteAt_list]
  constructor
  · intro h
    have : (s.data.toList.getD i 0).toNat = 46 := by omega
    exact UInt8.toNat_inj.1 this
  · intro h; rw [h]; rfl
theorem ext_list (s : ByteArray) (fr : Nat) : (s.extract fr s.size).data.toList = s.data.toList.drop fr := by
  rw [ByteArray.data_extract, Array.toList_extract]
  show List.take (s.data.size - fr) (List.drop fr s.data.toList) = _
  exact List.take_of_length_le (by simp)
theorem ext_all (s : ByteArray) : s = s.extract 0 s.size := by simp
theorem parF_run (s : ByteArray) (fr : Nat) : ∀ (m i : Nat), i + m ≤ s.size → (∀ j, j < m → byteAt s (i + j) ≠ 46) → parF s (s.size + 1 - i) i fr = parF s (s.size + 1 - (i + m)) (i + m) fr
  | 0, i, _, _ => rfl
  | m + 1, i, h, hj => by
    have h0 := hj 0 (by omega)
    rw [show s.size + 1 - i = s.size + 1 - (i + 1) + 1 by omega, parF, if_neg (by simp only [Bool.or_eq_true, beq_iff_eq, not_or]; exact ⟨by omega, h0⟩)]
    rw [parF_run s fr m (i + 1) (by omega) (fun j hj' => by rw [show i + 1 + j = i + (j + 1) by omega]; exact hj (j + 1) (by omega))]
    rw [show i + 1 + m = i + (m + 1) by omega]
theorem parF_dot {s : ByteArray} {fr m : Nat} (h : fr + m < s.size) (hm : byteAt s (fr + m) = 46) (hj : ∀ j, j < m → byteAt s (fr + j) ≠ 46) : parF s (s.size + 1 - fr) fr fr = s.extract fr (fr + m) :: parF s (s.size + 1 - (fr + m + 1)) (fr + m + 1) (fr + m + 1) := by
  rw [parF_run s fr m fr (by omega) hj, show s.size + 1 - (fr + m) = s.size + 1 - (fr + m + 1) + 1 by omega, parF, if_pos (by simp [hm])]
theorem parF_last {s : ByteArray} {fr : Nat} (h : fr ≤ s.size) (hj : ∀ j, fr ≤ j → j < s.size → byteAt s j ≠ 46) : parF s (s.size + 1 - fr) fr fr = [s.extract fr s.size] := by
  rw [parF_run s fr (s.size - fr) fr (by omega) (fun j hj' => hj _ (by omega) (by omega)), show fr + (s.size - fr) = s.size by omega, show s.size + 1 - s.size = 0 + 1 by omega, parF, if_pos (by simp), parF]
theorem count_zero {l : List UInt8} {fr : Nat} (h : (l.drop fr).count 46 = 0) : ∀ j, fr ≤ j → j < l.length → l.getD j 0 ≠ 46 := by
  intro j h1 h2 e
  rw [List.count_eq_zero] at h
  refine h ?_
  rw [← e]
  simp only [List.getD_eq_getElem?_getD, List.getElem?_eq_getElem h2, Option.getD_some]
  exact List.mem_drop_iff_getElem.2 ⟨j - fr, by omega, by congr 1; omega⟩
theorem rep_at (l : List ByteArray) (n : Nat) (z : List AV) (h : 0 < n) : (strs l ++ List.replicate n z).getD l.length [] = z := by
  simp [strs, List.getD_eq_getElem?_getD, List.getElem?_append_right, List.getElem?_replicate, h]
theorem rep_set (l : List ByteArray) (n : Nat) (z : List AV) (x : ByteArray) (h : l.length < n) : (strs l ++ List.replicate (n - l.length) z).set l.length [.v (.string x)] = strs (l ++ [x]) ++ List.replicate (n - (l ++ [x]).length) z := by
  have h1 : n - l.length = (n - (l ++ [x]).length) + 1 := by simp; omega
  rw [h1, List.replicate_succ]
  simp [strs, List.set_append_right]
theorem getD_drop (l : List UInt8) (k j : Nat) : (l.drop k).getD j 0 = l.getD (k + j) 0 := by
  simp [List.getD_eq_getElem?_getD, List.getElem?_drop]
theorem gensplit_ok (s : ByteArray) (hs : s.size < 1000000) : Pure Tryz.prog 89 [.v (.string s), .v (.string ⟨⟨[46]⟩⟩), .v (.int .i64 0), .v (.int .i64 (-1))] (.sl (strs (parts s))) := by
  obtain ⟨C, hC⟩ : ∃ C, Lib.countByte s.data.toList 46 = C := ⟨_, rfl⟩
  have hc := count_ok s
  rw [hC] at hc
  have hle : C ≤ s.size := by rw [← hC]; exact List.count_le_length
  have w1 : IntKind.i64.wrap ((C : Int) + 1) = C + 1 := wrap_i64 (by omega) (by omega)
  have w2 : IntKind.i64.wrap ((s.size : Int) + 1) = s.size + 1 := wrap_i64 (by omega) (by omega)
  have w3 : ¬ ((s.size : Int) + 1 < C + 1) := by omega
  have w4 : IntKind.i64.wrap ((C : Int) + 1 - 1) = C := by rw [wrap_i64] <;> omega
  have w5 : ((C : Int) + 1).toNat = C + 1 := by omega
  have w6 : (Array.size (⟨[46]⟩ : Array UInt8) == 0) = false := rfl
  have w7 : ((Array.size (⟨[46]⟩ : Array UInt8) : Nat) : Int) = 1 := rfl
  refine fn_pure Tryz.F89 (Nat.le_of_ble_eq_true rfl) ?_; unfold Tryz.ac89 AR AM AO
  repeat' (first
 | (apply Awp.sreg; (case hn => (simp only [List.length_cons, List.length_nil, Nat.reduceAdd] <;> rfl)))
 | (refine st_nil ?_)
 | (apply st_a; (case hc => rfl); (case he => (simp only [go_sem, *] <;> rfl)); (case hu => (simp only [updL_nil, updL_cons] <;> rfl)); (case hp => first | trivial | omega))
 | (apply st_c; (case hc => (simp only [go_sem, *] <;> rfl)); (case hl => (simp only [go_sem, *] <;> rfl)); (case hn => (simp only [go_sem, *] <;> rfl)); (case hp => first | exact hc | (have hXz := hc; simp only [go_sem, *] at hXz; exact hXz)))
 | (apply Awp.reg; (case hn => (simp only [List.length_cons, List.length_nil, Nat.reduceAdd] <;> rfl)))
 | (refine Awp.skip ?_; try simp only [go_sem, *])
 | refine Awp.block ?_
 | (apply Awp.cond; (case hc => (simp only [go_sem, *] <;> rfl)); all_goals (intro hg; (try simp only [Bool.not_true, Bool.not_false, reduceCtorEq] at hg); (try have hg' := hg); (try simp only [decide_eq_true_eq, decide_eq_false_iff_not, Bool.and_eq_true, Bool.or_eq_false_iff, bne_iff_ne, bne_eq_false_iff_eq, beq_iff_eq, beq_eq_false_iff_ne, Int.not_lt, Int.not_le, Int.ofNat_lt, Int.ofNat_le, Int.natCast_inj] at hg')))
 | refine Awp.seq ?_)
  · refine Awp.loop (fun x : Nat × List ByteArray => x.1 ≤ s.size ∧ x.2 ++ parF s (s.size + 1 - x.1) x.1 x.1 = parts s ∧ (s.data.toList.drop x.1).count 46 + x.2.length = C) 30
      (fun x => mkS [(0, .v (.string (s.extract x.1 s.size))), (1, .v (.string ⟨⟨[46]⟩⟩)), (2, .v (.int .i64 0)), (3, .v (.int .i64 C)), (9, .own 0), (10, .v (.int .i64 x.2.length))] [(0, .row (strs x.2 ++ List.replicate (C + 1 - x.2.length) [.v (.string ⟨⟨[]⟩⟩)]) 1 9)]) (fun x => C - x.2.length) (0, []) ?_ ?_ ?_
    · exact ⟨Nat.zero_le _, rfl, by rw [← hC]; rfl⟩
    · (apply Ghost.mk [(0, 19)] []; (case hdead => rfl); (case hinj => rfl); (case hV => (simp only [go_sem, *]) <;> (repeat' (first | refine And.intro ?_ ?_ | exact View.int (by first | rfl | exact ext_all s | omega | (simp; done) | (rw [wrap_i64] <;> (try simp only [Int.natCast_add]) <;> omega) | (simp [*]; done)) | exact View.str (by first | rfl | exact ext_all s | omega | (simp; done) | (rw [wrap_i64] <;> (try simp only [Int.natCast_add]) <;> omega) | (simp [*]; done)) | exact .own rfl (by decide)))); (case hB => (simp only [go_sem, *]) <;> (repeat' (first | exact ⟨_, rfl, .rowE (by first | rfl | exact ext_all s | omega | (simp; done) | (rw [wrap_i64] <;> (try simp only [Int.natCast_add]) <;> omega) | (simp [*]; done))⟩))))
    · intro ⟨fr, out⟩ ⟨h1, h2, h3⟩
      dsimp only at h1 h2 h3 ⊢
      have hl : (s.extract fr s.size).data.toList = s.data.toList.drop fr := ext_list s fr
      by_cases hlt : out.length < C
      · obtain ⟨m, m1, m2, m3, m4, m5⟩ := ix_some (s.data.toList.drop fr) (by omega)
        have hix := indexS_ok (s.extract fr s.size)
        rw [hl, m1] at hix
        have hsz : (s.extract fr s.size).size = s.size - fr := by rw [ext_size]; omega
        have hm : m < s.size - fr := by
          rw [List.length_drop] at m2
          exact m2
        have e1 : IntKind.i64.wrap ((m : Int) + 0) = m := by rw [wrap_i64] <;> omega
        have e2 : IntKind.i64.wrap ((m : Int) + 1) = (m + 1 : Nat) := by rw [wrap_i64] <;> omega
        have e3 : ((m + 1 : Nat) : Int).toNat = m + 1 := by omega
        have e0 : ¬ ((m : Int) < 0) := by omega
        have hlt' : (out.length : Int) < C := by omega
        have e4 : (strs out ++ List.replicate (C + 1 - out.length) [AV.v (.string ⟨⟨[]⟩⟩)]).length = C + 1 := by simp [strs]; omega
        have e5 : (strs out ++ List.replicate (C + 1 - out.length) [AV.v (.string ⟨⟨[]⟩⟩)]).getD out.length [] = [.v (.string ⟨⟨[]⟩⟩)] := rep_at _ _ _ (by omega)
        have e6 : (strs out ++ List.replicate (C + 1 - out.length) [AV.v (.string ⟨⟨[]⟩⟩)]).set out.length [.v (.string (s.extract fr (fr + m)))] = strs (out ++ [s.extract fr (fr + m)]) ++ List.replicate (C + 1 - (out ++ [s.extract fr (fr + m)]).length) [AV.v (.string ⟨⟨[]⟩⟩)] := rep_set _ _ _ _ (by omega)
        have e7 : (s.extract fr s.size).extract 0 m = s.extract fr (fr + m) := by rw [ext_ext, Nat.add_zero, Nat.min_eq_left (by omega)]
        have e8 : (s.extract fr s.size).extract (m + 1) (s.size - fr) = s.extract (fr + m + 1) s.size := by rw [ext_ext, show fr + (s.size - fr) = s.size by omega, Nat.min_self]; rfl
        repeat' (first
 | (apply Awp.sreg; (case hn => (simp only [List.length_cons, List.length_nil, Nat.reduceAdd] <;> rfl)))
 | (refine st_nil ?_)
 | (apply st_a; (case hc => rfl); (case he => (simp only [go_sem, *] <;> rfl)); (case hu => (simp only [updL_nil, updL_cons] <;> rfl)); (case hp => first | trivial | omega | (simp; done)))
 | (apply st_c; (case hc => (simp only [go_sem, *] <;> rfl)); (case hl => (simp only [go_sem, *] <;> rfl)); (case hn => (simp only [go_sem, *] <;> rfl)); (case hp => first | exact hix | (have hXz := hix; simp only [go_sem, *] at hXz; exact hXz)))
 | (apply Awp.reg; (case hn => (simp only [List.length_cons, List.length_nil, Nat.reduceAdd] <;> rfl)))
 | (refine Awp.skip ?_; try simp only [go_sem, *])
 | refine Awp.block ?_
 | (apply Awp.cond; (case hc => (simp only [go_sem, *] <;> rfl)); all_goals (intro hg; (try simp only [Bool.not_true, Bool.not_false, reduceCtorEq] at hg); (try have hg' := hg); (try simp only [decide_eq_true_eq, decide_eq_false_iff_not, Bool.and_eq_true, Bool.or_eq_false_iff, bne_iff_ne, bne_eq_false_iff_eq, beq_iff_eq, beq_eq_false_iff_ne, Int.not_lt, Int.not_le, Int.ofNat_lt, Int.ofNat_le, Int.natCast_inj] at hg')))
 | refine Awp.seq ?_)
        refine ⟨(fr + m + 1, out ++ [s.extract fr (fr + m)]), ⟨by dsimp only; omega, ?_, ?_⟩, by simp; omega, ?_⟩
        · dsimp only
          have hp := parF_dot (s := s) (fr := fr) (m := m) (by omega) (byteAt_dot.2 (by rw [← m3]; exact (getD_drop _ _ _).symm)) (fun j hj e => m4 j hj (by rw [getD_drop]; exact byteAt_dot.1 e))
          rw [hp] at h2
          rw [← h2]
          simp only [List.append_assoc, List.singleton_append]
        · rw [List.drop_drop] at m5
          simp only [List.length_append, List.length_singleton]
          rw [show fr + m + 1 = fr + (m + 1) by omega]
          omega
        · have e9 : ((out ++ [s.extract fr (fr + m)]).length : Int) = out.length + 1 := by simp
          (apply Ghost.mk [] []; (case hdead => rfl); (case hinj => rfl); (case hV => (simp only [go_sem, *]) <;> (repeat' (first | refine And.intro ?_ ?_ | exact View.int (by first | rfl | omega | (simp; done) | (rw [wrap_i64] <;> (try simp only [Int.natCast_add]) <;> omega) | (simp [*]; done)) | exact .own rfl (by decide)))); (case hB => (simp only [go_sem, *]) <;> (repeat' (first | exact ⟨_, rfl, .rowE (by first | rfl | omega | (simp; done) | (rw [wrap_i64] <;> (try simp only [Int.natCast_add]) <;> omega) | (simp [*]; done))⟩))))
      · have e1 : out.length = C := by omega
        have hz : (s.data.toList.drop fr).count 46 = 0 := by omega
        have hp := parF_last h1 (fun j hj1 hj2 e => count_zero hz j hj1 hj2 (byteAt_dot.1 e))
        rw [hp] at h2
        have e4 : (strs out ++ List.replicate (C + 1 - out.length) [AV.v (.string ⟨⟨[]⟩⟩)]).length = C + 1 := by simp [strs]; omega
        have e5 : (strs out ++ List.replicate (C + 1 - out.length) [AV.v (.string ⟨⟨[]⟩⟩)]).getD out.length [] = [.v (.string ⟨⟨[]⟩⟩)] := rep_at _ _ _ (by omega)
        have e6 : (strs out ++ List.replicate (C + 1 - out.length) [AV.v (.string ⟨⟨[]⟩⟩)]).set out.length [.v (.string (s.extract fr s.size))] = strs (parts s) := by
          rw [rep_set _ _ _ _ (by omega), h2, ← h2]
          have : C + 1 - (out ++ [s.extract fr s.size]).length = 0 := by simp; omega
          rw [this]; simp
        clear e1
        have hlt' : ¬ (out.length : Int) < C := by omega
        refine Awp.seq ?_
        (first | (apply Awp.sreg; (case hn => (simp only [List.length_cons, List.length_nil, Nat.reduceAdd] <;> rfl))) | (apply Awp.reg; (case hn => (simp only [List.length_cons, List.length_nil, Nat.reduceAdd] <;> rfl)))); repeat' (first
 | (refine st_nil ?_)
 | (apply st_a; (case hc => rfl); (case he => (simp only [go_sem, *] <;> rfl)); (case hu => (simp only [updL_nil, updL_cons] <;> rfl)); (case hp => first | trivial))
 | (apply st_m; (case hc => rfl); (case hg => (simp only [go_sem, *] <;> rfl)); (case he => (intro hQz; (try simp only [wantB_t, wantB_f, Bool.and_eq_true, Bool.not_eq_true', Bool.not_true, Bool.not_false, and_true, true_and] at hQz); simp only [go_sem, *] <;> rfl)); (case hp => (intro hQz; (try simp only [wantB_t, wantB_f, Bool.and_eq_true, Bool.not_eq_true', Bool.or_eq_false_iff, decide_eq_true_eq, decide_eq_false_iff_not, beq_iff_eq, beq_eq_false_iff_ne, bne_iff_ne, bne_eq_false_iff_eq, Int.not_lt, Int.not_le, Int.ofNat_lt, Int.ofNat_le] at hQz); first | skip; done)))
 | (apply st_sx; (case he => (simp only [go_sem, *] <;> rfl)); (case hu => (simp only [updL_nil, updL_cons] <;> rfl)); (case hp => first | skip; done))
 | (apply st_gu; (case hv => (simp only [go_sem, *] <;> rfl)))
 | (apply st_g; (case hv => (simp only [go_sem, *] <;> rfl)); all_goals (intro hg; (try simp only [Bool.not_true, Bool.not_false, reduceCtorEq] at hg); (try have hg' := hg); (try simp only [decide_eq_true_eq, decide_eq_false_iff_not, Bool.and_eq_true, Bool.or_eq_false_iff, bne_iff_ne, bne_eq_false_iff_eq, beq_iff_eq, beq_eq_false_iff_ne, Int.not_lt, Int.not_le, Int.ofNat_lt, Int.ofNat_le, Int.natCast_inj] at hg'))))
        (apply Awp.cond; (case hc => (simp only [go_sem, *] <;> rfl)); all_goals (intro hg; (try simp only [Bool.not_true, Bool.not_false, reduceCtorEq] at hg); (try have hg' := hg); (try simp only [decide_eq_true_eq, decide_eq_false_iff_not, Bool.and_eq_true, Bool.or_eq_false_iff, bne_iff_ne, bne_eq_false_iff_eq, beq_iff_eq, beq_eq_false_iff_ne, Int.not_lt, Int.not_le, Int.ofNat_lt, Int.ofNat_le, Int.natCast_inj] at hg')))
        (refine Awp.exit ?_; simp only [go_sem, *])
        (first | (apply Awp.sreg; (case hn => (simp only [List.length_cons, List.length_nil, Nat.reduceAdd] <;> rfl))) | (apply Awp.reg; (case hn => (simp only [List.length_cons, List.length_nil, Nat.reduceAdd] <;> rfl)))); repeat' (first
 | (refine st_nil ?_)
 | (apply st_a; (case hc => rfl); (case he => (simp only [go_sem, *] <;> rfl)); (case hu => (simp only [updL_nil, updL_cons] <;> rfl)); (case hp => first | trivial | omega | (simp; omega)))
 | (apply st_m; (case hc => rfl); (case hg => (simp only [go_sem, *] <;> rfl)); (case he => (intro hQz; (try simp only [wantB_t, wantB_f, Bool.and_eq_true, Bool.not_eq_true', Bool.not_true, Bool.not_false, and_true, true_and] at hQz); simp only [go_sem, *] <;> rfl)); (case hp => (intro hQz; (try simp only [wantB_t, wantB_f, Bool.and_eq_true, Bool.not_eq_true', Bool.or_eq_false_iff, decide_eq_true_eq, decide_eq_false_iff_not, beq_iff_eq, beq_eq_false_iff_ne, bne_iff_ne, bne_eq_false_iff_eq, Int.not_lt, Int.not_le, Int.ofNat_lt, Int.ofNat_le] at hQz); first | skip; done)))
 | (apply st_sx; (case he => (simp only [go_sem, *] <;> rfl)); (case hu => (simp only [updL_nil, updL_cons] <;> rfl)); (case hp => first | skip; done))
 | (apply st_gu; (case hv => (simp only [go_sem, *] <;> rfl)))
 | (apply st_g; (case hv => (simp only [go_sem, *] <;> rfl)); all_goals (intro hg; (try simp only [Bool.not_true, Bool.not_false, reduceCtorEq] at hg); (try have hg' := hg); (try simp only [decide_eq_true_eq, decide_eq_false_iff_not, Bool.and_eq_true, Bool.or_eq_false_iff, bne_iff_ne, bne_eq_false_iff_eq, beq_iff_eq, beq_eq_false_iff_ne, Int.not_lt, Int.not_le, Int.ofNat_lt, Int.ofNat_le, Int.natCast_inj] at hg'))))
        have hlen : (parts s).length = out.length + 1 := by rw [← h2]; simp
        have e10 : IntKind.i64.wrap ((out.length : Int) + 1) = (parts s).length := by rw [wrap_i64] <;> omega
        have e11 : ∀ x ∈ strs (parts s), x.length = 1 := by simp [strs]
        refine Awp.ghost (nx' := 38) (S' := mkS [(9, .sl (strs (parts s))), (10, .v (.int .i64 out.length))] []) ?_ ?_
        · refine Ghost.mk [] [0] rfl rfl ?_ ?_
          · simp only [go_sem]
            exact .low (.own rfl)
          · simp only [go_sem]
        · repeat' (first
 | (apply Awp.sreg; (case hn => (simp only [List.length_cons, List.length_nil, Nat.reduceAdd] <;> rfl)))
 | (refine st_nil ?_)
 | (apply st_a; (case hc => rfl); (case he => (simp only [go_sem, *] <;> rfl)); (case hu => (simp only [updL_nil, updL_cons] <;> rfl)); (case hp => first | trivial | ((repeat' (refine And.intro ?_ ?_)) <;> first | trivial | assumption | omega | (simp; done) | (simp; omega) | (simp [*]; done))))
 | (refine Awp.ret ?_; try simp only [go_sem, *]))
          have e12 : List.take (parts s).length (strs (parts s)) = strs (parts s) := List.take_of_length_le (by simp [strs])
          rw [← hlen, e12]
          exact .same _ rfl
theorem split_ok (s : ByteArray) (hs : s.size < 1000000) : Pure Tryz.prog 62 [.v (.string s), .v (.string ⟨⟨[46]⟩⟩)] (.sl (strs (parts s))) := by
  refine fn_pure Tryz.F62 (Nat.le_of_ble_eq_true rfl) ?_; unfold Tryz.ac62 AR AM AO
  repeat' (first
 | (apply Awp.sreg; (case hn => (simp only [List.length_cons, List.length_nil, Nat.reduceAdd] <;> rfl)))
 | (refine st_nil ?_)
 | (apply st_a; (case hc => rfl); (case he => (simp only [go_sem, *] <;> rfl)); (case hu => (simp only [updL_nil, updL_cons] <;> rfl)); (case hp => first | trivial))
 | (apply st_c; (case hc => (simp only [go_sem, *] <;> rfl)); (case hl => (simp only [go_sem, *] <;> rfl)); (case hn => (simp only [go_sem, *] <;> rfl)); (case hp => first | exact gensplit_ok _ hs | (have hXz := gensplit_ok _ hs; simp only [go_sem, *] at hXz; exact hXz)))
 | (refine Awp.ret ?_; try simp only [go_sem, *]))
  all_goals exact .same _ rfl
def sizes (l : List ByteArray) : Nat := (l.map (·.size)).sum
def namesB (l : List ByteArray) : Bool := l.all nameB && decide (1 ≤ (l.length : Int)) && decide ((l.length : Int) ≤ 8) && decide ((l.length : Int) - 1 + sizes l ≤ 64)
theorem sizes_next (l : List ByteArray) (i : Nat) (h : i < l.length) : sizes (l.take (i + 1)) = sizes (l.take i) + (l.getD i ⟨#[]⟩).size := by
  have e : l.take (i + 1) = l.take i ++ [l.getD i ⟨#[]⟩] := by
    rw [List.take_add_one, List.getElem?_eq_getElem h, List.getD_eq_getElem?_getD, List.getElem?_eq_getElem h]; rfl
  rw [e]; simp only [sizes, List.map_append, List.sum_append, List.map_cons, List.map_nil, List.sum_cons, List.sum_nil, Nat.add_zero]
theorem all_bad {l : List ByteArray} {i : Nat} (h : i < l.length) (e : nameB (l.getD i ⟨#[]⟩) = false) : l.all nameB = false := by
  simp only [List.all_eq_false]
  exact ⟨l.getD i ⟨#[]⟩, by simp [List.getD_eq_getElem?_getD, h], by rw [e]; simp⟩
theorem all_end {l : List ByteArray} {i : Nat} (h : ∀ j, j < i → nameB (l.getD j ⟨#[]⟩) = true) (h1 : l.length ≤ i) : l.all nameB = true := by
  simp only [List.all_eq_true]
  intro x hx
  obtain ⟨j, hj, rfl⟩ := List.getElem_of_mem hx
  have := h j (by omega)
  simpa [List.getD_eq_getElem?_getD, hj] using this
theorem sizes_take (l : List ByteArray) (i : Nat) : sizes (l.take i) ≤ sizes l := by
  have e := congrArg sizes (List.take_append_drop i l)
  simp only [sizes, List.map_append, List.sum_append] at e ⊢
  omega
theorem names_ok (l : List ByteArray) (hl : l.length < 1000000) (hz : sizes l < 1000000) : Pure Tryz.prog 61 [.sl (strs l)] (.v (.bool (namesB l))) := by
  have w1 : IntKind.i64.wrap ((l.length : Int) - 1) = l.length - 1 := by rw [wrap_i64] <;> omega
  refine fn_pure Tryz.F61 (Nat.le_of_ble_eq_true rfl) ?_; unfold Tryz.ac61 AR AM AO
  repeat' (first
 | (apply Awp.sreg; (case hn => (simp only [List.length_cons, List.length_nil, Nat.reduceAdd] <;> rfl)))
 | (refine st_nil ?_)
 | (apply st_a; (case hc => rfl); (case he => (simp only [go_sem, *] <;> rfl)); (case hu => (simp only [updL_nil, updL_cons] <;> rfl)); (case hp => first | trivial))
 | refine Awp.block ?_
 | refine Awp.seq ?_)
  · refine Awp.loop (fun i : Nat => i ≤ l.length ∧ ∀ j, j < i → nameB (l.getD j ⟨#[]⟩) = true) 20 (fun i => mkS [(0, .sl (strs l)), (3, .v (.int .i64 ((l.length : Int) - 1 + sizes (l.take i)))), (9, .sl (strs l)), (10, .v (.int .i64 l.length)), (11, .v (.int .i64 i))] []) (fun i => l.length - i) 0 (by simp) ?_ ?_
    · have e0 : sizes [] = 0 := rfl
      (apply Ghost.mk [] []; (case hdead => rfl); (case hinj => rfl); (case hV => (simp only [go_sem, *]) <;> (repeat' (first | refine And.intro ?_ ?_ | exact View.int (by first | rfl | omega | (simp; done) | (rw [wrap_i64] <;> (try simp only [Int.natCast_add]) <;> omega) | (simp [*]; done))))); (case hB => (simp only [go_sem, *]) <;> (repeat' (first | skip; done))))
    · intro i ⟨hi, hj⟩
      have hz1 := sizes_take l i
      have hz2 := sizes_take l (i + 1)
      by_cases hlt : i < l.length
      · have hlt' : (i : Int) < l.length := by omega
        have hn := sizes_next l i hlt
        repeat' (first
 | (apply Awp.sreg; (case hn => (simp only [List.length_cons, List.length_nil, Nat.reduceAdd] <;> rfl)))
 | (refine st_nil ?_)
 | (apply st_a; (case hc => rfl); (case he => (simp only [go_sem, *] <;> rfl)); (case hu => (simp only [updL_nil, updL_cons] <;> rfl)); (case hp => first | trivial | omega))
 | (apply st_c; (case hc => (simp only [go_sem, *] <;> rfl)); (case hl => (simp only [go_sem, *] <;> rfl)); (case hn => (simp only [go_sem, *] <;> rfl)); (case hp => first | exact name_ok _ | (have hXz := name_ok _; simp only [go_sem, *] at hXz; exact hXz)))
 | (apply Awp.reg; (case hn => (simp only [List.length_cons, List.length_nil, Nat.reduceAdd] <;> rfl)))
 | (refine Awp.ret ?_; try simp only [go_sem, *])
 | (refine Awp.skip ?_; try simp only [go_sem, *])
 | refine Awp.block ?_
 | (apply Awp.cond; (case hc => (simp only [go_sem, *] <;> rfl)); all_goals (intro hg; (try simp only [Bool.not_true, Bool.not_false, reduceCtorEq] at hg); (try have hg' := hg); (try simp only [decide_eq_true_eq, decide_eq_false_iff_not, Bool.and_eq_true, Bool.or_eq_false_iff, bne_iff_ne, bne_eq_false_iff_eq, beq_iff_eq, beq_eq_false_iff_ne, Int.not_lt, Int.not_le, Int.ofNat_lt, Int.ofNat_le, Int.natCast_inj] at hg')))
 | refine Awp.seq ?_)
        · exact Lower.bool (by rw [namesB, all_bad hlt (by simpa using hg')]; simp)
        · refine ⟨i + 1, ⟨by omega, ltSucc hj (by simpa using hg')⟩, by omega, ?_⟩
          have e1 : IntKind.i64.wrap ((l.length : Int) - 1 + (sizes (l.take i) : Int) + ((l.getD i ⟨#[]⟩).size : Int)) = (l.length : Int) - 1 + (sizes (l.take (i + 1)) : Int) := by rw [wrap_i64] <;> omega
          (apply Ghost.mk [] []; (case hdead => rfl); (case hinj => rfl); (case hV => (simp only [go_sem, *]) <;> (repeat' (first | exact View.int (by first | rfl | omega | (simp; done) | (rw [wrap_i64] <;> (try simp only [Int.natCast_add]) <;> omega) | (simp [*]; done))))); (case hB => (simp only [go_sem, *]) <;> (repeat' (first | skip; done))))
      · have hlt' : ¬ (i : Int) < l.length := by omega
        have e1 : l.take i = l := List.take_of_length_le (by omega)
        repeat' (first
 | (apply Awp.sreg; (case hn => (simp only [List.length_cons, List.length_nil, Nat.reduceAdd] <;> rfl)))
 | (refine st_nil ?_)
 | (apply st_a; (case hc => rfl); (case he => (simp only [go_sem, *] <;> rfl)); (case hu => (simp only [updL_nil, updL_cons] <;> rfl)); (case hp => first | trivial))
 | (apply st_m; (case hc => rfl); (case hg => (simp only [go_sem, *] <;> rfl)); (case he => (intro hQz; (try simp only [wantB_t, wantB_f, Bool.and_eq_true, Bool.not_eq_true', Bool.not_true, Bool.not_false, and_true, true_and] at hQz); simp only [go_sem, *] <;> rfl)); (case hp => (intro hQz; (try simp only [wantB_t, wantB_f, Bool.and_eq_true, Bool.not_eq_true', Bool.or_eq_false_iff, decide_eq_true_eq, decide_eq_false_iff_not, beq_iff_eq, beq_eq_false_iff_ne, bne_iff_ne, bne_eq_false_iff_eq, Int.not_lt, Int.not_le, Int.ofNat_lt, Int.ofNat_le] at hQz); first | trivial)))
 | (refine Awp.ret ?_; try simp only [go_sem, *])
 | (refine Awp.exit ?_; try simp only [go_sem, *])
 | (apply Awp.cond; (case hc => (simp only [go_sem, *] <;> rfl)); all_goals (intro hg; (try simp only [Bool.not_true, Bool.not_false, reduceCtorEq] at hg); (try have hg' := hg); (try simp only [decide_eq_true_eq, decide_eq_false_iff_not, Bool.and_eq_true, Bool.or_eq_false_iff, bne_iff_ne, bne_eq_false_iff_eq, beq_iff_eq, beq_eq_false_iff_ne, Int.not_lt, Int.not_le, Int.ofNat_lt, Int.ofNat_le, Int.natCast_inj] at hg')))
 | refine Awp.seq ?_)
        all_goals exact Lower.bool (by rw [namesB, all_end hj (by omega)]; simp)
theorem parF_sizes (s : ByteArray) : ∀ (n i fr : Nat), i + n = s.size + 1 → fr ≤ i → 0 < n → sizes (parF s n i fr) + (parF s n i fr).length = s.size + 1 - fr
  | 0, _, _, _, _, h => by omega
  | n + 1, i, fr, h1, h2, _ => by
    rw [parF]
    by_cases hn : n = 0
    · subst hn
      have : i = s.size := by omega
      subst this
      simp only [beq_self_eq_true, Bool.true_or, if_true, parF]
      simp [sizes, ext_size]
      omega
    · split
      · have := parF_sizes s n (i + 1) (i + 1) (by omega) (Nat.le_refl _) (by omega)
        simp only [sizes, List.map_cons, List.sum_cons, List.length_cons, ext_size] at this ⊢
        omega
      · exact parF_sizes s n (i + 1) fr (by omega) (by omega) (by omega)
theorem parts_sizes (s : ByteArray) : sizes (parts s) + (parts s).length = s.size + 1 := parF_sizes s (s.size + 1) 0 0 (by omega) (Nat.le_refl _) (by omega)
theorem parF_pos (s : ByteArray) : ∀ (n i fr : Nat), i + n = s.size + 1 → 0 < n → 0 < (parF s n i fr).length
  | 0, _, _, _, h => by omega
  | n + 1, i, fr, h1, _ => by
    rw [parF]
    split
    · simp
    · rename_i hc
      by_cases hn : n = 0
      · subst hn
        have : i = s.size := by omega
        subst this
        simp at hc
      · exact parF_pos s n (i + 1) fr (by omega) (by omega)
theorem parts_pos (s : ByteArray) : 0 < (parts s).length := parF_pos s (s.size + 1) 0 0 (by omega) (by omega)
def idB (s : ByteArray) : Bool := decide (s.size ≤ 64) && decide ((parts s).length ≤ 8) && (parts s).all nameB
theorem names_id (s : ByteArray) : (decide ((s.size : Int) ≤ 64) && namesB (parts s)) = idB s := by
  have h1 := parts_sizes s
  have h2 := parts_pos s
  unfold idB namesB
  rw [Bool.eq_iff_iff]
  simp only [Bool.and_eq_true, decide_eq_true_eq]
  constructor
  · rintro ⟨h3, ⟨⟨h4, h5⟩, h6⟩, h7⟩
    exact ⟨⟨by omega, by omega⟩, h4⟩
  · rintro ⟨⟨h3, h6⟩, h4⟩
    exact ⟨by omega, ⟨⟨h4, by omega⟩, by omega⟩, by omega⟩
theorem isid_ok (s : ByteArray) : Pure Tryz.prog 40 [.v (.string s)] (.v (.bool (idB s))) := by
  rw [← names_id]
  have h1 := parts_sizes s
  by_cases hs : s.size ≤ 64
  · refine fn_pure Tryz.F40 (Nat.le_of_ble_eq_true rfl) ?_; unfold Tryz.ac40 AR AM AO
    repeat' (first
 | (apply Awp.sreg; (case hn => (simp only [List.length_cons, List.length_nil, Nat.reduceAdd] <;> rfl)))
 | (refine st_nil ?_)
 | (apply st_a; (case hc => rfl); (case he => (simp only [go_sem, *] <;> rfl)); (case hu => (simp only [updL_nil, updL_cons] <;> rfl)); (case hp => first | trivial))
 | (apply st_m; (case hc => rfl); (case hg => (simp only [go_sem, *] <;> rfl)); (case he => (intro hQz; (try simp only [wantB_t, wantB_f, Bool.and_eq_true, Bool.not_eq_true', Bool.not_true, Bool.not_false, and_true, true_and] at hQz); simp only [go_sem, *] <;> rfl)); (case hp => (intro hQz; (try simp only [wantB_t, wantB_f, Bool.and_eq_true, Bool.not_eq_true', Bool.or_eq_false_iff, decide_eq_true_eq, decide_eq_false_iff_not, beq_iff_eq, beq_eq_false_iff_ne, bne_iff_ne, bne_eq_false_iff_eq, Int.not_lt, Int.not_le, Int.ofNat_lt, Int.ofNat_le] at hQz); first | trivial)))
 | (apply st_mc; (case hop => rfl); (case hg => (simp only [go_sem, *] <;> rfl)); (case hc => (intro hQz; (try simp only [wantB_t, wantB_f, Bool.and_eq_true, Bool.not_eq_true', Bool.not_true, Bool.not_false, and_true, true_and] at hQz); simp only [go_sem, *] <;> rfl)); (case hl => (intro hQz; (try simp only [wantB_t, wantB_f, Bool.and_eq_true, Bool.not_eq_true', Bool.not_true, Bool.not_false, and_true, true_and] at hQz); simp only [go_sem, *] <;> rfl)); (case hn => (intro hQz; (try simp only [wantB_t, wantB_f, Bool.and_eq_true, Bool.not_eq_true', Bool.not_true, Bool.not_false, and_true, true_and] at hQz); simp only [go_sem, *] <;> rfl)); (case hp => intro hQz; first | exact split_ok s (by omega) | (have hXz := split_ok s (by omega); simp only [go_sem, *] at hXz; exact hXz)))
 | (apply st_mc; (case hop => rfl); (case hg => (simp only [go_sem, *] <;> rfl)); (case hc => (intro hQz; (try simp only [wantB_t, wantB_f, Bool.and_eq_true, Bool.not_eq_true', Bool.not_true, Bool.not_false, and_true, true_and] at hQz); simp only [go_sem, *] <;> rfl)); (case hl => (intro hQz; (try simp only [wantB_t, wantB_f, Bool.and_eq_true, Bool.not_eq_true', Bool.not_true, Bool.not_false, and_true, true_and] at hQz); simp only [go_sem, *] <;> rfl)); (case hn => (intro hQz; (try simp only [wantB_t, wantB_f, Bool.and_eq_true, Bool.not_eq_true', Bool.not_true, Bool.not_false, and_true, true_and] at hQz); simp only [go_sem, *] <;> rfl)); (case hp => intro hQz; first | exact names_ok (parts s) (by omega) (by omega) | (have hXz := names_ok (parts s) (by omega) (by omega); simp only [go_sem, *] at hXz; exact hXz)))
 | (refine Awp.ret ?_; try simp only [go_sem, *]))
    all_goals repeat' (first | exact Lower.bool (by first | rfl | (simp only [true_and, Bool.true_and, Bool.false_and, Bool.and_true, Bool.and_false, Bool.true_or, Bool.false_or, reduceIte, Bool.false_eq_true, *]; done) | (simp only [true_and, reduceIte, Bool.false_eq_true, *] <;> rfl) | (simp [true_and]; done) | (simp_all [true_and]; done) | omega))
  · have hs' : ¬ (s.size : Int) ≤ 64 := by omega
    refine fn_pure Tryz.F40 (Nat.le_of_ble_eq_true rfl) ?_; unfold Tryz.ac40 AR AM AO
    repeat' (first
 | (apply Awp.sreg; (case hn => (simp only [List.length_cons, List.length_nil, Nat.reduceAdd] <;> rfl)))
 | (refine st_nil ?_)
 | (apply st_a; (case hc => rfl); (case he => (simp only [go_sem, *] <;> rfl)); (case hu => (simp only [updL_nil, updL_cons] <;> rfl)); (case hp => first | trivial))
 | (apply st_m; (case hc => rfl); (case hg => (simp only [go_sem, *] <;> rfl)); (case he => (intro hQz; (try simp only [wantB_t, wantB_f, Bool.and_eq_true, Bool.not_eq_true', Bool.not_true, Bool.not_false, and_true, true_and] at hQz); simp only [go_sem, *] <;> rfl)); (case hp => (intro hQz; (try simp only [wantB_t, wantB_f, Bool.and_eq_true, Bool.not_eq_true', Bool.or_eq_false_iff, decide_eq_true_eq, decide_eq_false_iff_not, beq_iff_eq, beq_eq_false_iff_ne, bne_iff_ne, bne_eq_false_iff_eq, Int.not_lt, Int.not_le, Int.ofNat_lt, Int.ofNat_le] at hQz); first | trivial)))
 | (apply st_g; (case hv => (simp only [go_sem, *] <;> rfl)); all_goals (intro hg; (try simp only [Bool.not_true, Bool.not_false, reduceCtorEq] at hg); (try have hg' := hg); (try simp only [decide_eq_true_eq, decide_eq_false_iff_not, Bool.and_eq_true, Bool.or_eq_false_iff, bne_iff_ne, bne_eq_false_iff_eq, beq_iff_eq, beq_eq_false_iff_ne, Int.not_lt, Int.not_le, Int.ofNat_lt, Int.ofNat_le, Int.natCast_inj] at hg')))
 | (refine Awp.ret ?_; try simp only [go_sem, *]))
    all_goals repeat' (first | exact Lower.bool (by first | rfl | (simp only [true_and, Bool.true_and, Bool.false_and, Bool.and_true, Bool.and_false, Bool.true_or, Bool.false_or, reduceIte, Bool.false_eq_true, *]; done) | (simp only [true_and, reduceIte, Bool.false_eq_true, *] <;> rfl) | (simp [true_and]; done) | (simp_all [true_and]; done) | omega))
end Go.Proofs
namespace Go.Proofs
open Go Go.Ab Go.RowKit
set_option maxHeartbeats 1000000
set_option maxRecDepth 100000
def sortI (l : List Int) : List Int := l.mergeSort fun x y => decide (x ≤ y)
theorem sortI_len (l : List Int) : (sortI l).length = l.length := List.length_mergeSort _
theorem fits_ints {st : Nat → Prop} {w : World} {l : List Int} {e : TypeId} {c : Value} {xs : List Value} (h : RowFits st w (ints l) 1 e c xs) : xs = l.map (Value.int .i64) := by
  have hlen : xs.length = l.length := by rw [h.row.len, ints_len]; omega
  apply List.ext_getElem (by simpa using hlen)
  intro i h1 h2
  have hi : i < (ints l).length := by rw [ints_len]; omega
  have h3 := h.cell i 0 hi (by omega)
  rw [ints_at l i (by omega)] at h3
  simp only [av_zero, Nat.mul_one, Nat.add_zero, cv, List.getD_eq_getElem?_getD, List.getElem?_eq_getElem h1, Option.getD_some] at h3
  generalize xs[i] = q at h3 ⊢
  cases h3
  have : i < l.length := by omega
  simp [this]
theorem ints_fits {st : Nat → Prop} {w : World} {l : List Int} {e : TypeId} {c : Value} (h : RowRep w e 1 c l.length (l.map (Value.int .i64))) : RowFits st w (ints l) 1 e c (l.map (Value.int .i64)) := by
  refine ⟨by simp [ints], by omega, by rw [ints_len]; exact h, by simp [Value.oneCell'], fun i j hi hj => ?_⟩
  rw [ints_len] at hi
  obtain rfl : j = 0 := by omega
  rw [ints_at l i hi]
  have e1 : cv (l.map (Value.int .i64)) (i * 1 + 0) = .int .i64 (l.getD i 0) := by
    simp [cv, List.getD_eq_getElem?_getD, hi]
  rw [e1]
  exact .v _
theorem sort_cc (l : List Int) (b nm : Nat) (e : TypeId) (hl : l.length < 1000000) : CallC Tryz.prog 33 [.own b] [(b, .row (ints l) 1 e)] nm (.tup []) [(b, some (.row (ints (sortI l)) 1 e))] := by
  refine ⟨⟨_, Tryz.func33, by kernel_rfl, by kernel_rfl⟩, fun prov β w cs hn hb hi hv => ?_⟩
  have hlk : ∀ n, updL (listH [(b, Blk.row (ints l) 1 e)]) [(b, some (Blk.row (ints (sortI l)) 1 e))] n = if n = b then some (.row (ints (sortI l)) 1 e) else none := by
    intro n; simp only [updL, upd, listH]; split <;> simp
  have hB := hb b (.row (ints l) 1 e) (by simp [listH])
  obtain ⟨xs, hf⟩ := hB
  obtain rfl := fits_ints hf
  obtain ⟨hlen, hv⟩ := hv
  match cs, hlen with
  | [c], _ =>
  have h1 := hv 0 (by simp)
  simp only [av_zero, cv, List.getD_cons_zero] at h1
  obtain ⟨rfl, _⟩ := h1.own_inv
  have tail : ∀ w', Value.tuple #[] = Value.tuple #[] → w.grownBy w' (blkOf (β b)) → RowRep w' e 1 (β b) (sortI l).length ((sortI l).map (Value.int .i64)) →
      ∃ c β', Ending.returned (Value.tuple #[]) = .returned c ∧ w'.os = w.os ∧ w'.tape = w.tape ∧ w'.output = w.output ∧ w.heap.size ≤ w'.heap.size ∧ Grows β β' ∧ (∀ n, n ≠ nm → β' n = β n) ∧
      (∀ g, g < w.heap.size → (∀ n b', listH [(b, Blk.row (ints l) 1 e)] n = some b' → n ∈ [(b, some (Blk.row (ints (sortI l)) 1 e))].map (·.1) → blkOf (β n) ≠ some g) → w'.heap[g]? = w.heap[g]?) ∧
      SimV (stb (fun g => prov g ∨ w.heap.size ≤ g) w' β' (updL (listH [(b, Blk.row (ints l) 1 e)]) [(b, some (Blk.row (ints (sortI l)) 1 e))])) β' w' (.tup []) c ∧
      (∀ n b', updL (listH [(b, Blk.row (ints l) 1 e)]) [(b, some (Blk.row (ints (sortI l)) 1 e))] n = some b' → n ∈ [(b, some (Blk.row (ints (sortI l)) 1 e))].map (·.1) → BlkRep (stb (fun g => prov g ∨ w.heap.size ≤ g) w' β' (updL (listH [(b, Blk.row (ints l) 1 e)]) [(b, some (Blk.row (ints (sortI l)) 1 e))])) β' w' b' (β' n) ∧
        ∀ g, blkOf (β' n) = some g → w.heap.size ≤ g ∨ ∃ m b', listH [(b, Blk.row (ints l) 1 e)] m = some b' ∧ m ∈ [(b, some (Blk.row (ints (sortI l)) 1 e))].map (·.1) ∧ blkOf (β m) = some g) ∧
      Inj β' (updL (listH [(b, Blk.row (ints l) 1 e)]) [(b, some (Blk.row (ints (sortI l)) 1 e))]) := by
    intro w' _ hg hr
    refine ⟨_, β, rfl, hg.os, hg.tape, hg.output, hg.size, Grows.refl _, fun _ _ => rfl, fun g hgl hno => ?_, .pure (.tup [] [] rfl (fun j hj => by simp at hj)), fun n b' hb' _ => ?_, ?_⟩
    · exact hg.block g hgl (fun e' => hno b (.row (ints l) 1 e) (by simp [listH]) (by simp) e'.symm)
    · rw [hlk] at hb'
      split at hb'
      · rename_i hnb; subst hnb
        simp at hb'; subst hb'
        exact ⟨⟨_, ints_fits hr⟩, fun g hgb => .inr ⟨n, .row (ints l) 1 e, by simp [listH], by simp, hgb⟩⟩
      · cases hb'
    · intro n m b1 b2 g h1 h2 _ _
      rw [hlk] at h1 h2
      split at h1
      · split at h2
        · simp_all
        · cases h2
      · cases h1
  rcases hf.row with ⟨a, hc, h0, hx⟩ | ⟨g, cap, hc, h0, hrow⟩
  · have hnil : l = [] := by rw [ints_len] at h0; exact List.eq_nil_of_length_eq_zero h0
    subst hnil
    rw [hc]
    refine (Tryz.slices_Sort_int_none a 0 w).mono fun e' w' ⟨he, hw⟩ => ?_
    subst he; subst hw
    have := tail w' rfl ⟨rfl, rfl, rfl, Nat.le_refl _, fun _ _ _ => rfl⟩ (.inl ⟨a, hc, by simp [sortI], by simp [sortI]⟩)
    exact this
  · rcases hrow.2 with ⟨h', _⟩ | ⟨g', cap', cur, h', _, hg, hn1, hn2, hn3, hn4⟩
    · rw [hc] at h'; cases h'
    · rw [hc] at h'
      simp only [Value.slice.injEq, Option.some.injEq, Addr.mk.injEq, and_true, true_and] at h'
      obtain ⟨rfl, rfl⟩ := h'
      rw [ints_len] at hn1 hn4 hc
      rw [Nat.mul_one] at hn4
      rw [hc]
      have hlt : g < w.heap.size := (Array.getElem?_eq_some_iff.1 hg).1
      refine (Tryz.slices_Sort_int g 0 cap l w (holds_of_blockI hg hn4) hlt (by omega)).mono fun e' w' ⟨he, n, os, hw⟩ => ?_
      subst he; subst hw
      refine tail _ rfl ?_ ?_
      · have : blkOf (β b) = some g := by rw [hc]; simp [blkOf]; omega
        rw [this]
        exact grownBy_sortedI _
      · refine .inr ⟨g, cap, by rw [hc, sortI_len], h0, ?_⟩
        have := ownsRow_sortedI (w := w) (base := 0) (g := g) (cap := cap) (n := n) (e := e) (os := os) (cur := cur) (ss := l) (ts := sortI l) (sortI_len l) (Nat.zero_le _) hg hn1 hn2 hn3
        rw [hc, sortI_len]
        exact this
end Go.Proofs
namespace Go.Proofs
open Go Go.Ab Go.RowKit
set_option maxHeartbeats 1000000
theorem compact_len (l : List Int) : (Lib.compact l).length ≤ l.length := by
  unfold Lib.compact Lib.compactUpTo
  rw [List.length_map]
  exact Nat.le_trans (List.length_filter_le _ _) (by simp)
theorem compact_cc (l : List Int) (b nm : Nat) (e : TypeId) (hnb : nm ≠ b) (hl : l.length < 1000000) : CallC Tryz.prog 34 [.own b] [(b, .row (ints l) 1 e)] nm (.own nm) [(b, none), (nm, some (.row (ints (Lib.compact l)) 1 e))] := by
  refine ⟨⟨_, Tryz.func34, by kernel_rfl, by kernel_rfl⟩, fun prov β w cs hn hb hi hv => ?_⟩
  have hlk : ∀ n, updL (listH [(b, Blk.row (ints l) 1 e)]) [(b, none), (nm, some (Blk.row (ints (Lib.compact l)) 1 e))] n = if n = nm then some (.row (ints (Lib.compact l)) 1 e) else none := by
    intro n; simp only [updL, upd, listH]; split
    · rfl
    · split <;> rfl
  have hB := hb b (.row (ints l) 1 e) (by simp [listH])
  obtain ⟨xs, hf⟩ := hB
  obtain rfl := fits_ints hf
  obtain ⟨hlen, hv⟩ := hv
  match cs, hlen with
  | [c], _ =>
  have h1 := hv 0 (by simp)
  simp only [av_zero, cv, List.getD_cons_zero] at h1
  obtain ⟨rfl, _⟩ := h1.own_inv
  have hgr : ∀ c', Grows β (upd β nm c') := fun c' k hk => by
    unfold upd; split
    · rename_i h; subst h; exact absurd hn hk
    · rfl
  have tail : ∀ w' c', (∃ a n cap, c' = .slice a n cap) → w.grownBy w' (blkOf (β b)) → RowRep w' e 1 c' (Lib.compact l).length ((Lib.compact l).map (Value.int .i64)) → (∀ g, blkOf c' = some g → blkOf (β b) = some g) →
      ∃ c β', Ending.returned c' = .returned c ∧ w'.os = w.os ∧ w'.tape = w.tape ∧ w'.output = w.output ∧ w.heap.size ≤ w'.heap.size ∧ Grows β β' ∧ (∀ n, n ≠ nm → β' n = β n) ∧
      (∀ g, g < w.heap.size → (∀ n b', listH [(b, Blk.row (ints l) 1 e)] n = some b' → n ∈ [(b, none), (nm, some (Blk.row (ints (Lib.compact l)) 1 e))].map (·.1) → blkOf (β n) ≠ some g) → w'.heap[g]? = w.heap[g]?) ∧
      SimV (stb (fun g => prov g ∨ w.heap.size ≤ g) w' β' (updL (listH [(b, Blk.row (ints l) 1 e)]) [(b, none), (nm, some (Blk.row (ints (Lib.compact l)) 1 e))])) β' w' (.own nm) c ∧
      (∀ n b', updL (listH [(b, Blk.row (ints l) 1 e)]) [(b, none), (nm, some (Blk.row (ints (Lib.compact l)) 1 e))] n = some b' → n ∈ [(b, none), (nm, some (Blk.row (ints (Lib.compact l)) 1 e))].map (·.1) → BlkRep (stb (fun g => prov g ∨ w.heap.size ≤ g) w' β' (updL (listH [(b, Blk.row (ints l) 1 e)]) [(b, none), (nm, some (Blk.row (ints (Lib.compact l)) 1 e))])) β' w' b' (β' n) ∧
        ∀ g, blkOf (β' n) = some g → w.heap.size ≤ g ∨ ∃ m b', listH [(b, Blk.row (ints l) 1 e)] m = some b' ∧ m ∈ [(b, none), (nm, some (Blk.row (ints (Lib.compact l)) 1 e))].map (·.1) ∧ blkOf (β m) = some g) ∧
      Inj β' (updL (listH [(b, Blk.row (ints l) 1 e)]) [(b, none), (nm, some (Blk.row (ints (Lib.compact l)) 1 e))]) := by
    intro w' c' ⟨a, n0, cap, hc'⟩ hg hr hbk
    refine ⟨_, upd β nm c', rfl, hg.os, hg.tape, hg.output, hg.size, hgr c', fun n hne => by simp [upd, hne], fun g hgl hno => ?_, ?_, fun n b' hb' _ => ?_, ?_⟩
    · exact hg.block g hgl (fun e' => hno b (.row (ints l) 1 e) (by simp [listH]) (by simp) e'.symm)
    · subst hc'; exact .own nm (by simp [upd])
    · rw [hlk] at hb'
      split at hb'
      · rename_i hnn; subst hnn
        simp at hb'; subst hb'
        have hu : upd β n c' n = c' := by simp [upd]
        rw [hu]
        exact ⟨⟨_, ints_fits hr⟩, fun g hgb => .inr ⟨b, .row (ints l) 1 e, by simp [listH], by simp, hbk g hgb⟩⟩
      · cases hb'
    · intro n m b1 b2 g h1 h2 _ _
      rw [hlk] at h1 h2
      split at h1
      · split at h2
        · simp_all
        · cases h2
      · cases h1
  rcases hf.row with ⟨a, hc, h0, hx⟩ | ⟨g, cap, hc, h0, hrow⟩
  · have hnil : l = [] := by rw [ints_len] at h0; exact List.eq_nil_of_length_eq_zero h0
    subst hnil
    rw [hc]
    refine (Tryz.slices_Compact_int_empty a 0 w).mono fun e' w' ⟨he, hw⟩ => ?_
    subst he; subst hw
    exact tail w' _ ⟨_, _, _, rfl⟩ ⟨rfl, rfl, rfl, Nat.le_refl _, fun _ _ _ => rfl⟩ (.inl ⟨a, rfl, rfl, rfl⟩) (fun g hg => by rw [hc]; exact hg)
  · rcases hrow.2 with ⟨h', _⟩ | ⟨g', cap', cur, h', _, hg, hn1, hn2, hn3, hn4⟩
    · rw [hc] at h'; cases h'
    · rw [hc] at h'
      simp only [Value.slice.injEq, Option.some.injEq, Addr.mk.injEq, and_true, true_and] at h'
      obtain ⟨rfl, rfl⟩ := h'
      rw [ints_len] at hn1 hn4 hc
      rw [Nat.mul_one] at hn4
      rw [hc]
      have hcl : (Lib.compact l).length ≤ l.length := compact_len l
      refine (Tryz.slices_Compact_int g 0 cap l w (holds_of_blockI hg hn4) (by omega) hn1).mono fun e' w' ⟨he, q, hw⟩ => ?_
      subst he
      have hw2 : w' = Sort.grow (Sort.putRow (Value.int .i64) (Sort.ahead w q) g 0 (Lib.compact l ++ List.replicate (l.length - (Lib.compact l).length) 0).toArray) #[] := by rw [hw, Sort.grow_empty]
      subst hw2
      have hbk : blkOf (β b) = some g := by rw [hc]; simp [blkOf]; omega
      refine tail _ _ ⟨_, _, _, rfl⟩ (by rw [hbk]; exact grownBy_sortedI _) (.inr ⟨g, cap, rfl, h0, by simp, .inr ⟨g, cap, _, rfl, Nat.zero_le _, heap_sortedI _ hg, by omega, hn2, by simp [Sort.putCells, hn3], ?_⟩⟩) (fun g' hg' => ?_)
      · rw [Nat.mul_one]
        have ht := take_putCellsI cur (Lib.compact l ++ List.replicate (l.length - (Lib.compact l).length) 0) (by simp; omega)
        have ht2 := congrArg (List.take (Lib.compact l).length) ht
        rw [List.take_take, Nat.min_eq_left (by simp)] at ht2
        rw [ht2, List.map_append]
        exact List.take_left' (by simp)
      · rw [hbk]
        simp only [blkOf] at hg'
        split at hg'
        · cases hg'
        · exact hg'
end Go.Proofs
namespace Go.Ab

def bitsOf (acc : List Nat) : List Nat → Nat
  | [] => 0
  | j :: r => 2 ^ j ||| acc.getD j 0 ||| bitsOf acc r
def masks : List (List Nat) → List Nat → List Nat
  | [], acc => acc
  | d :: r, acc => masks r (acc ++ [bitsOf acc d])
def chk (e : Ent) (m : Nat) : List Ent → Nat → Bool
  | [], _ => true
  | x :: r, j => (m.testBit j || freeE x e) && chk e m r (j + 1)
def chkAll : List Ent → List Ent → List Nat → Bool
  | _, [], _ => true
  | pre, e :: r, m :: ms => chk e m pre 0 && chkAll (pre ++ [e]) r ms
  | _, _ :: _, [] => false
def drawOk' (deps : List (List Nat)) (es : List Ent) : Bool := depsLow deps 0 && chkAll [] es (masks deps [])

theorem bitsOf_spec {acc : List Nat} {accL : List (List Nat)} (h : ∀ i j, (acc.getD i 0).testBit j = true → j ∈ accL.getD i []) : ∀ (d : List Nat) (j : Nat), (bitsOf acc d).testBit j = true → j ∈ d ++ d.flatMap fun k => accL.getD k []
  | [], j, hj => by simp [bitsOf] at hj
  | k :: r, j, hj => by
    simp only [bitsOf, Nat.testBit_or, Bool.or_eq_true] at hj
    simp only [List.mem_append, List.mem_cons, List.flatMap_cons]
    rcases hj with (hj | hj) | hj
    · rw [Nat.testBit_two_pow] at hj
      exact .inl (.inl (by simpa using (of_decide_eq_true hj).symm))
    · exact .inr (.inl (h k j hj))
    · rcases List.mem_append.1 (bitsOf_spec h r j hj) with h1 | h1
      · exact .inl (.inr h1)
      · exact .inr (.inr h1)

theorem masks_spec : ∀ (deps : List (List Nat)) (acc : List Nat) (accL : List (List Nat)), acc.length = accL.length → (∀ i j, (acc.getD i 0).testBit j = true → j ∈ accL.getD i []) →
    ∀ i j, ((masks deps acc).getD i 0).testBit j = true → j ∈ (befs deps accL).getD i []
  | [], _, _, _, h => h
  | d :: r, acc, accL, hl, h => by
    refine masks_spec r _ _ (by simp [hl]) fun i j hj => ?_
    simp only [List.getD_eq_getElem?_getD] at hj ⊢
    by_cases hi : i < acc.length
    · rw [List.getElem?_append_left hi] at hj
      rw [List.getElem?_append_left (by omega)]
      have := h i j (by simpa [List.getD_eq_getElem?_getD] using hj)
      simpa [List.getD_eq_getElem?_getD] using this
    · by_cases e : i = acc.length
      · subst e
        simp only [List.getElem?_append_right (Nat.le_refl _), Nat.sub_self, List.getElem?_cons_zero, Option.getD_some] at hj
        rw [hl, List.getElem?_append_right (Nat.le_refl _)]
        simp only [Nat.sub_self, List.getElem?_cons_zero, Option.getD_some]
        have := bitsOf_spec h d j hj
        simpa [List.getD_eq_getElem?_getD] using this
      · rw [List.getElem?_eq_none (by simp; omega)] at hj
        simp at hj

theorem chk_spec {e : Ent} {m : Nat} : ∀ (pre : List Ent) (o : Nat), chk e m pre o = true → ∀ j, j < pre.length → (m.testBit (o + j) || freeE (pre.getD j default) e) = true
  | x :: r, o, h, j, hj => by
    simp only [chk, Bool.and_eq_true] at h
    match j with
    | 0 => exact h.1
    | j + 1 =>
      have := chk_spec r (o + 1) h.2 j (by simpa using hj)
      rwa [show o + 1 + j = o + (j + 1) by omega] at this

theorem chkAll_spec : ∀ (es pre : List Ent) (ms : List Nat), chkAll pre es ms = true → ∀ i, i < es.length → ∀ j, j < pre.length + i →
    ((ms.getD i 0).testBit j || freeE ((pre ++ es).getD j default) (es.getD i default)) = true
  | e :: r, pre, m :: ms, h, i, hi, j, hj => by
    simp only [chkAll, Bool.and_eq_true] at h
    match i with
    | 0 =>
      have := chk_spec pre 0 h.1 j (by omega)
      rw [Nat.zero_add] at this
      have e1 : (pre ++ e :: r).getD j default = pre.getD j default := by
        simp only [List.getD_eq_getElem?_getD]; rw [List.getElem?_append_left (by omega)]
      rw [e1]
      exact this
    | i + 1 =>
      have := chkAll_spec r (pre ++ [e]) ms h.2 i (by simpa using hi) j (by simp; omega)
      rw [List.append_assoc] at this
      exact this
  | _ :: _, _, [], h, _, _, _, _ => by simp [chkAll] at h

theorem drawOk_of {deps : List (List Nat)} {es : List Ent} (h : drawOk' deps es = true) : drawOk deps es = true := by
  simp only [drawOk', Bool.and_eq_true] at h
  simp only [drawOk, Bool.and_eq_true, List.all_eq_true, List.mem_range]
  refine ⟨h.1, fun i hi j hj => ?_⟩
  have h1 := chkAll_spec es [] _ h.2 i hi j (by simpa using hj)
  rw [List.nil_append] at h1
  rcases Bool.or_eq_true_iff.1 h1 with h2 | h2
  · have := masks_spec deps [] [] rfl (fun i j h => by simp at h) i j h2
    rw [Bool.or_eq_true]
    exact .inl (by simpa using this)
  · rw [Bool.or_eq_true]; exact .inr h2
end Go.Ab
namespace Go.Proofs
open Go Go.Ab
set_option maxHeartbeats 4000000
set_option maxRecDepth 100000
attribute [local irreducible] Awp aops aopsL Go.Ab.Pure PureOwn
@[go_sem] theorem Tryz.co53 : Tryz.prog.cellsOf 53 = 3 := by kernel_rfl
@[go_sem] theorem Tryz.ag53 : isAggB Tryz.prog 53 = true := by kernel_rfl
@[go_sem] theorem Tryz.co78 : Tryz.prog.cellsOf 78 = 8 := by kernel_rfl
@[go_sem] theorem Tryz.ag78 : isAggB Tryz.prog 78 = true := by kernel_rfl
@[go_sem] theorem Tryz.co43 : Tryz.prog.cellsOf 43 = 8 := by kernel_rfl
@[go_sem] theorem Tryz.ag43 : isAggB Tryz.prog 43 = true := by kernel_rfl
structure By where
  nm : ByteArray
  len : Int
  wid : Int
structure Sty where
  item : ByteArray
  bay : ByteArray
  x : Int
  y : Int
  len : Int
  wid : Int
  a : Int
  b : Int
def By.cells (q : By) : List AV := [.v (.string q.nm), .v (.int .i64 q.len), .v (.int .i64 q.wid)]
def By.av (q : By) : AV := .agg q.cells
def Sty.cells (q : Sty) : List AV := [.v (.string q.item), .v (.string q.bay), .v (.int .i64 q.x), .v (.int .i64 q.y), .v (.int .i64 q.len), .v (.int .i64 q.wid), .v (.int .i64 q.a), .v (.int .i64 q.b)]
def Sty.av (q : Sty) : AV := .agg q.cells
attribute [go_sem] By.cells By.av Sty.cells Sty.av
def bys (l : List By) : List (List AV) := l.map By.cells
def stys (l : List Sty) : List (List AV) := l.map Sty.cells
@[go_sem] theorem bys_len (l : List By) : (bys l).length = l.length := by simp [bys]
@[go_sem] theorem stys_len (l : List Sty) : (stys l).length = l.length := by simp [stys]
def zeroBy : By := ⟨⟨#[]⟩, 0, 0⟩
def zeroSty : Sty := ⟨⟨#[]⟩, ⟨#[]⟩, 0, 0, 0, 0, 0, 0⟩
theorem bys_at (l : List By) (i : Nat) (h : i < l.length) : (bys l).getD i [] = (l.getD i zeroBy).cells := by
  simp [bys, List.getD_eq_getElem?_getD, h]
theorem stys_at (l : List Sty) (i : Nat) (h : i < l.length) : (stys l).getD i [] = (l.getD i zeroSty).cells := by
  simp [stys, List.getD_eq_getElem?_getD, h]
theorem stys_one (l : List Sty) : ∀ y ∈ stys l, y.length = 8 := by
  simp [stys, Sty.cells]
theorem bys_one (l : List By) : ∀ y ∈ bys l, y.length = 3 := by
  simp [bys, By.cells]
def idxF {α : Type} (p : α → Bool) (l : List α) : Int := if l.findIdx p < l.length then (l.findIdx p : Int) else -1
theorem idxF_in {α : Type} {p : α → Bool} {l : List α} {d : α} {i : Nat} (h : i < l.length) (hp : p (l.getD i d) = true) (hj : ∀ j, j < i → p (l.getD j d) = false) : idxF p l = i := by
  have e : l.findIdx p = i := by
    rw [List.findIdx_eq h]
    refine ⟨by simpa [List.getD_eq_getElem?_getD, h] using hp, fun j hji => ?_⟩
    have := hj j hji
    have hjl : j < l.length := by omega
    simpa [List.getD_eq_getElem?_getD, hjl] using this
  unfold idxF
  rw [e, if_pos h]
theorem idxF_out {α : Type} {p : α → Bool} {l : List α} {d : α} {i : Nat} (h : l.length ≤ i) (hj : ∀ j, j < i → p (l.getD j d) = false) : idxF p l = -1 := by
  have e : l.findIdx p = l.length := by
    rw [List.findIdx_eq_length]
    intro x hx
    obtain ⟨j, hjl, rfl⟩ := List.getElem_of_mem hx
    have := hj j (by omega)
    simpa [List.getD_eq_getElem?_getD, hjl] using this
  unfold idxF
  rw [e, if_neg (by omega)]
def sideB (n : Int) : Bool := decide (1 ≤ n) && decide (n ≤ 524288)
theorem side_ok (n : Int) : Pure Tryz.prog 50 [.v (.int .i64 n)] (.v (.bool (sideB n))) := by
  refine fn_pure Tryz.F50 (Nat.le_of_ble_eq_true rfl) ?_; unfold Tryz.ac50 AR AM AO
  repeat' (first
 | (apply Awp.sreg; (case hn => (simp only [List.length_cons, List.length_nil, Nat.reduceAdd] <;> rfl)))
 | (refine st_nil ?_)
 | (apply st_a; (case hc => rfl); (case he => (simp only [go_sem, *] <;> rfl)); (case hu => (simp only [updL_nil, updL_cons] <;> rfl)); (case hp => first | trivial))
 | (apply st_m; (case hc => rfl); (case hg => (simp only [go_sem, *] <;> rfl)); (case he => (intro hQz; (try simp only [wantB_t, wantB_f, Bool.and_eq_true, Bool.not_eq_true', Bool.not_true, Bool.not_false, and_true, true_and] at hQz); simp only [go_sem, *] <;> rfl)); (case hp => (intro hQz; (try simp only [wantB_t, wantB_f, Bool.and_eq_true, Bool.not_eq_true', Bool.or_eq_false_iff, decide_eq_true_eq, decide_eq_false_iff_not, beq_iff_eq, beq_eq_false_iff_ne, bne_iff_ne, bne_eq_false_iff_eq, Int.not_lt, Int.not_le, Int.ofNat_lt, Int.ofNat_le] at hQz); first | trivial)))
 | (refine Awp.ret ?_; try simp only [go_sem, *]))
  all_goals repeat' (first | exact Lower.bool (by first | rfl | (simp only [sideB, Bool.true_and, Bool.false_and, Bool.and_true, Bool.and_false, Bool.true_or, Bool.false_or, reduceIte, Bool.false_eq_true, *]; done) | (simp only [sideB, reduceIte, Bool.false_eq_true, *] <;> rfl) | (simp [sideB]; done) | (simp_all [sideB]; done) | omega))
def cutB (a la b lb : Int) : Bool := decide (a < IntKind.i64.wrap (b + lb)) && decide (b < IntKind.i64.wrap (a + la))
theorem cut_ok (a la b lb : Int) : Pure Tryz.prog 93 [.v (.int .i64 a), .v (.int .i64 la), .v (.int .i64 b), .v (.int .i64 lb)] (.v (.bool (cutB a la b lb))) := by
  refine fn_pure Tryz.F93 (Nat.le_of_ble_eq_true rfl) ?_; unfold Tryz.ac93 AR AM AO
  repeat' (first
 | (apply Awp.sreg; (case hn => (simp only [List.length_cons, List.length_nil, Nat.reduceAdd] <;> rfl)))
 | (refine st_nil ?_)
 | (apply st_a; (case hc => rfl); (case he => (simp only [go_sem, *] <;> rfl)); (case hu => (simp only [updL_nil, updL_cons] <;> rfl)); (case hp => first | trivial))
 | (apply st_m; (case hc => rfl); (case hg => (simp only [go_sem, *] <;> rfl)); (case he => (intro hQz; (try simp only [wantB_t, wantB_f, Bool.and_eq_true, Bool.not_eq_true', Bool.not_true, Bool.not_false, and_true, true_and] at hQz); simp only [go_sem, *] <;> rfl)); (case hp => (intro hQz; (try simp only [wantB_t, wantB_f, Bool.and_eq_true, Bool.not_eq_true', Bool.or_eq_false_iff, decide_eq_true_eq, decide_eq_false_iff_not, beq_iff_eq, beq_eq_false_iff_ne, bne_iff_ne, bne_eq_false_iff_eq, Int.not_lt, Int.not_le, Int.ofNat_lt, Int.ofNat_le] at hQz); first | trivial)))
 | (refine Awp.ret ?_; try simp only [go_sem, *]))
  all_goals repeat' (first | exact Lower.bool (by first | rfl | (simp only [cutB, Bool.true_and, Bool.false_and, Bool.and_true, Bool.and_false, Bool.true_or, Bool.false_or, reduceIte, Bool.false_eq_true, *]; done) | (simp only [cutB, reduceIte, Bool.false_eq_true, *] <;> rfl) | (simp [cutB]; done) | (simp_all [cutB]; done) | omega))
def overB (p q : Sty) : Bool := (p.bay.toList == q.bay.toList) && decide (p.a < q.b) && decide (q.a < p.b) && cutB p.x p.len q.x q.len && cutB p.y p.wid q.y q.wid
theorem over_ok (p q : Sty) : Pure Tryz.prog 71 [p.av, q.av] (.v (.bool (overB p q))) := by
  refine fn_pure Tryz.F71 (Nat.le_of_ble_eq_true rfl) ?_; unfold Tryz.ac71 AR AM AO
  repeat' (first
 | (apply Awp.sreg; (case hn => (simp only [List.length_cons, List.length_nil, Nat.reduceAdd] <;> rfl)))
 | (refine st_nil ?_)
 | (apply st_a; (case hc => rfl); (case he => (simp only [go_sem, *] <;> rfl)); (case hu => (simp only [updL_nil, updL_cons] <;> rfl)); (case hp => first | trivial))
 | (apply st_m; (case hc => rfl); (case hg => (simp only [go_sem, *] <;> rfl)); (case he => (intro hQz; (try simp only [wantB_t, wantB_f, Bool.and_eq_true, Bool.not_eq_true', Bool.not_true, Bool.not_false, and_true, true_and] at hQz); simp only [go_sem, *] <;> rfl)); (case hp => (intro hQz; (try simp only [wantB_t, wantB_f, Bool.and_eq_true, Bool.not_eq_true', Bool.or_eq_false_iff, decide_eq_true_eq, decide_eq_false_iff_not, beq_iff_eq, beq_eq_false_iff_ne, bne_iff_ne, bne_eq_false_iff_eq, Int.not_lt, Int.not_le, Int.ofNat_lt, Int.ofNat_le] at hQz); first | trivial)))
 | (apply st_mc; (case hop => rfl); (case hg => (simp only [go_sem, *] <;> rfl)); (case hc => (intro hQz; (try simp only [wantB_t, wantB_f, Bool.and_eq_true, Bool.not_eq_true', Bool.not_true, Bool.not_false, and_true, true_and] at hQz); simp only [go_sem, *] <;> rfl)); (case hl => (intro hQz; (try simp only [wantB_t, wantB_f, Bool.and_eq_true, Bool.not_eq_true', Bool.not_true, Bool.not_false, and_true, true_and] at hQz); simp only [go_sem, *] <;> rfl)); (case hn => (intro hQz; (try simp only [wantB_t, wantB_f, Bool.and_eq_true, Bool.not_eq_true', Bool.not_true, Bool.not_false, and_true, true_and] at hQz); simp only [go_sem, *] <;> rfl)); (case hp => intro hQz; first | exact cut_ok _ _ _ _ | (have hXz := cut_ok _ _ _ _; simp only [go_sem, *] at hXz; exact hXz)))
 | (refine Awp.ret ?_; try simp only [go_sem, *]))
  all_goals repeat' (first | exact Lower.bool (by first | rfl | (simp only [overB, Bool.true_and, Bool.false_and, Bool.and_true, Bool.and_false, Bool.true_or, Bool.false_or, reduceIte, Bool.false_eq_true, *]; done) | (simp only [overB, reduceIte, Bool.false_eq_true, *] <;> rfl) | (simp [overB]; done) | (simp_all [overB]; done) | omega))
theorem nameEq_ok (nm : ByteArray) (q : By) : Pure Tryz.prog 68 [q.av, .rp [.v (.string nm)]] (.v (.bool (q.nm.toList == nm.toList))) := by
  refine fn_pure Tryz.F68 (Nat.le_of_ble_eq_true rfl) ?_; unfold Tryz.ac68 AR AM AO
  repeat' (first
 | (apply Awp.sreg; (case hn => (simp only [List.length_cons, List.length_nil, Nat.reduceAdd] <;> rfl)))
 | (refine st_nil ?_)
 | (apply st_a; (case hc => rfl); (case he => (simp only [go_sem, *] <;> rfl)); (case hu => (simp only [updL_nil, updL_cons] <;> rfl)); (case hp => first | trivial))
 | (refine Awp.ret ?_; try simp only [go_sem, *]))
  all_goals repeat' (first | exact Lower.bool (by first | rfl | (simp only [true_and, Bool.true_and, Bool.false_and, Bool.and_true, Bool.and_false, Bool.true_or, Bool.false_or, reduceIte, Bool.false_eq_true, *]; done) | (simp only [true_and, reduceIte, Bool.false_eq_true, *] <;> rfl) | (simp [true_and]; done) | (simp_all [true_and]; done) | omega))
theorem overC_ok (p q : Sty) : Pure Tryz.prog 70 [q.av, .rp p.cells] (.v (.bool (overB p q))) := by
  refine fn_pure Tryz.F70 (Nat.le_of_ble_eq_true rfl) ?_; unfold Tryz.ac70 AR AM AO
  repeat' (first
 | (apply Awp.sreg; (case hn => (simp only [List.length_cons, List.length_nil, Nat.reduceAdd] <;> rfl)))
 | (refine st_nil ?_)
 | (apply st_a; (case hc => rfl); (case he => (simp only [go_sem, *] <;> rfl)); (case hu => (simp only [updL_nil, updL_cons] <;> rfl)); (case hp => first | trivial))
 | (apply st_c; (case hc => (simp only [go_sem, *] <;> rfl)); (case hl => (simp only [go_sem, *] <;> rfl)); (case hn => (simp only [go_sem, *] <;> rfl)); (case hp => first | exact over_ok _ _ | (have hXz := over_ok _ _; simp only [go_sem, *] at hXz; exact hXz)))
 | (refine Awp.ret ?_; try simp only [go_sem, *]))
  all_goals repeat' (first | exact Lower.bool (by first | rfl | (simp only [true_and, Bool.true_and, Bool.false_and, Bool.and_true, Bool.and_false, Bool.true_or, Bool.false_or, reduceIte, Bool.false_eq_true, *]; done) | (simp only [true_and, reduceIte, Bool.false_eq_true, *] <;> rfl) | (simp [true_and]; done) | (simp_all [true_and]; done) | omega))
theorem indexB_ok (l : List By) (g : Nat) (cs : List AV) (p : By → Bool) (hl : l.length < 1000000) (hp : ∀ x : By, Pure Tryz.prog g [x.av, .rp cs] (.v (.bool (p x)))) :
    Pure Tryz.prog 67 [.sl (bys l), .fn g [.rp cs]] (.v (.int .i64 (idxF p l))) := by
  refine fn_pure Tryz.F67 (Nat.le_of_ble_eq_true rfl) ?_; unfold Tryz.ac67 AR AM AO
  repeat' (first
 | (apply Awp.sreg; (case hn => (simp only [List.length_cons, List.length_nil, Nat.reduceAdd] <;> rfl)))
 | (refine st_nil ?_)
 | (apply st_a; (case hc => rfl); (case he => (simp only [go_sem, *] <;> rfl)); (case hu => (simp only [updL_nil, updL_cons] <;> rfl)); (case hp => first | trivial))
 | refine Awp.block ?_
 | refine Awp.seq ?_)
  refine Awp.loop (fun i : Nat => i ≤ l.length ∧ ∀ j, j < i → p (l.getD j zeroBy) = false) 40 (fun i => mkS [(0, .sl (bys l)), (1, .fn g [.rp cs]), (7, .v (.int .i64 l.length)), (8, .v (.int .i64 i))] []) (fun i => l.length - i) 0 (by simp) ?_ ?_
  · (apply Ghost.mk [] []; (case hdead => rfl); (case hinj => rfl); (case hV => (simp only [go_sem, *]) <;> (repeat' (first | refine And.intro ?_ ?_ | exact View.int (by first | rfl | omega | (simp; done) | (rw [wrap_i64] <;> (try simp only [Int.natCast_add]) <;> omega) | (simp [*]; done)) | (refine View.fnF ?_; (simp [AV.flat]; done))))); (case hB => (simp only [go_sem, *]) <;> (repeat' (first | skip; done))))
  · intro i ⟨hi, hj⟩
    by_cases hlt : i < l.length
    · have hlt' : (i : Int) < l.length := by omega
      have hat := bys_at l i hlt
      have hz : ((l.getD i zeroBy).cells).length = 3 := rfl
      have hpi := hp (l.getD i zeroBy)
      repeat' (first
 | (apply Awp.sreg; (case hn => (simp only [List.length_cons, List.length_nil, Nat.reduceAdd] <;> rfl)))
 | (refine st_nil ?_)
 | (apply st_a; (case hc => rfl); (case he => (simp only [go_sem, *] <;> rfl)); (case hu => (simp only [updL_nil, updL_cons] <;> rfl)); (case hp => first | trivial | omega))
 | (apply st_c; (case hc => (simp only [go_sem, *] <;> rfl)); (case hl => (simp only [go_sem, *] <;> rfl)); (case hn => (simp only [go_sem, *] <;> rfl)); (case hp => first | exact hpi | (have hXz := hpi; simp only [go_sem, *] at hXz; exact hXz)))
 | (apply Awp.reg; (case hn => (simp only [List.length_cons, List.length_nil, Nat.reduceAdd] <;> rfl)))
 | (refine Awp.ret ?_; try simp only [go_sem, *])
 | (refine Awp.skip ?_; try simp only [go_sem, *])
 | refine Awp.block ?_
 | (apply Awp.cond; (case hc => (simp only [go_sem, *] <;> rfl)); all_goals (intro hg; (try simp only [Bool.not_true, Bool.not_false, reduceCtorEq] at hg)))
 | refine Awp.seq ?_)
      · exact Lower.int (idxF_in hlt hg hj).symm
      · refine ⟨i + 1, ⟨by omega, ltSucc hj hg⟩, by omega, ?_⟩
        (apply Ghost.mk [] []; (case hdead => rfl); (case hinj => rfl); (case hV => (simp only [go_sem, *]) <;> (repeat' (first | refine And.intro ?_ ?_ | exact View.int (by first | rfl | omega | (simp; done) | (rw [wrap_i64] <;> (try simp only [Int.natCast_add]) <;> omega) | (simp [*]; done)) | (refine View.fnF ?_; (simp [AV.flat]; done))))); (case hB => (simp only [go_sem, *]) <;> (repeat' (first | skip; done))))
    · have hlt' : ¬ (i : Int) < l.length := by omega
      repeat' (first
 | (apply Awp.sreg; (case hn => (simp only [List.length_cons, List.length_nil, Nat.reduceAdd] <;> rfl)))
 | (refine st_nil ?_)
 | (apply st_a; (case hc => rfl); (case he => (simp only [go_sem, *] <;> rfl)); (case hu => (simp only [updL_nil, updL_cons] <;> rfl)); (case hp => first | trivial))
 | (refine Awp.ret ?_; try simp only [go_sem, *])
 | (refine Awp.exit ?_; try simp only [go_sem, *])
 | (apply Awp.cond; (case hc => (simp only [go_sem, *] <;> rfl)); all_goals (intro hg; (try simp only [Bool.not_true, Bool.not_false, reduceCtorEq] at hg); (try have hg' := hg); (try simp only [decide_eq_true_eq, decide_eq_false_iff_not, Bool.and_eq_true, Bool.or_eq_false_iff, bne_iff_ne, bne_eq_false_iff_eq, beq_iff_eq, beq_eq_false_iff_ne, Int.not_lt, Int.not_le, Int.ofNat_lt, Int.ofNat_le, Int.natCast_inj] at hg')))
 | refine Awp.seq ?_)
      exact Lower.int (idxF_out (Nat.le_of_not_lt hlt) hj).symm
theorem indexS_ok2 (l : List Sty) (g : Nat) (cs : List AV) (p : Sty → Bool) (hl : l.length < 1000000) (hp : ∀ x : Sty, Pure Tryz.prog g [x.av, .rp cs] (.v (.bool (p x)))) :
    Pure Tryz.prog 92 [.sl (stys l), .fn g [.rp cs]] (.v (.int .i64 (idxF p l))) := by
  refine fn_pure Tryz.F92 (Nat.le_of_ble_eq_true rfl) ?_; unfold Tryz.ac92 AR AM AO
  repeat' (first
 | (apply Awp.sreg; (case hn => (simp only [List.length_cons, List.length_nil, Nat.reduceAdd] <;> rfl)))
 | (refine st_nil ?_)
 | (apply st_a; (case hc => rfl); (case he => (simp only [go_sem, *] <;> rfl)); (case hu => (simp only [updL_nil, updL_cons] <;> rfl)); (case hp => first | trivial))
 | refine Awp.block ?_
 | refine Awp.seq ?_)
  refine Awp.loop (fun i : Nat => i ≤ l.length ∧ ∀ j, j < i → p (l.getD j zeroSty) = false) 40 (fun i => mkS [(0, .sl (stys l)), (1, .fn g [.rp cs]), (7, .v (.int .i64 l.length)), (8, .v (.int .i64 i))] []) (fun i => l.length - i) 0 (by simp) ?_ ?_
  · (apply Ghost.mk [] []; (case hdead => rfl); (case hinj => rfl); (case hV => (simp only [go_sem, *]) <;> (repeat' (first | refine And.intro ?_ ?_ | exact View.int (by first | rfl | omega | (simp; done) | (rw [wrap_i64] <;> (try simp only [Int.natCast_add]) <;> omega) | (simp [*]; done)) | (refine View.fnF ?_; (simp [AV.flat]; done))))); (case hB => (simp only [go_sem, *]) <;> (repeat' (first | skip; done))))
  · intro i ⟨hi, hj⟩
    by_cases hlt : i < l.length
    · have hlt' : (i : Int) < l.length := by omega
      have hat := stys_at l i hlt
      have hz : ((l.getD i zeroSty).cells).length = 8 := rfl
      have hpi := hp (l.getD i zeroSty)
      repeat' (first
 | (apply Awp.sreg; (case hn => (simp only [List.length_cons, List.length_nil, Nat.reduceAdd] <;> rfl)))
 | (refine st_nil ?_)
 | (apply st_a; (case hc => rfl); (case he => (simp only [go_sem, *] <;> rfl)); (case hu => (simp only [updL_nil, updL_cons] <;> rfl)); (case hp => first | trivial | omega))
 | (apply st_c; (case hc => (simp only [go_sem, *] <;> rfl)); (case hl => (simp only [go_sem, *] <;> rfl)); (case hn => (simp only [go_sem, *] <;> rfl)); (case hp => first | exact hpi | (have hXz := hpi; simp only [go_sem, *] at hXz; exact hXz)))
 | (apply Awp.reg; (case hn => (simp only [List.length_cons, List.length_nil, Nat.reduceAdd] <;> rfl)))
 | (refine Awp.ret ?_; try simp only [go_sem, *])
 | (refine Awp.skip ?_; try simp only [go_sem, *])
 | refine Awp.block ?_
 | (apply Awp.cond; (case hc => (simp only [go_sem, *] <;> rfl)); all_goals (intro hg; (try simp only [Bool.not_true, Bool.not_false, reduceCtorEq] at hg)))
 | refine Awp.seq ?_)
      · exact Lower.int (idxF_in hlt hg hj).symm
      · refine ⟨i + 1, ⟨by omega, ltSucc hj hg⟩, by omega, ?_⟩
        (apply Ghost.mk [] []; (case hdead => rfl); (case hinj => rfl); (case hV => (simp only [go_sem, *]) <;> (repeat' (first | refine And.intro ?_ ?_ | exact View.int (by first | rfl | omega | (simp; done) | (rw [wrap_i64] <;> (try simp only [Int.natCast_add]) <;> omega) | (simp [*]; done)) | (refine View.fnF ?_; (simp [AV.flat]; done))))); (case hB => (simp only [go_sem, *]) <;> (repeat' (first | skip; done))))
    · have hlt' : ¬ (i : Int) < l.length := by omega
      repeat' (first
 | (apply Awp.sreg; (case hn => (simp only [List.length_cons, List.length_nil, Nat.reduceAdd] <;> rfl)))
 | (refine st_nil ?_)
 | (apply st_a; (case hc => rfl); (case he => (simp only [go_sem, *] <;> rfl)); (case hu => (simp only [updL_nil, updL_cons] <;> rfl)); (case hp => first | trivial))
 | (refine Awp.ret ?_; try simp only [go_sem, *])
 | (refine Awp.exit ?_; try simp only [go_sem, *])
 | (apply Awp.cond; (case hc => (simp only [go_sem, *] <;> rfl)); all_goals (intro hg; (try simp only [Bool.not_true, Bool.not_false, reduceCtorEq] at hg); (try have hg' := hg); (try simp only [decide_eq_true_eq, decide_eq_false_iff_not, Bool.and_eq_true, Bool.or_eq_false_iff, bne_iff_ne, bne_eq_false_iff_eq, beq_iff_eq, beq_eq_false_iff_ne, Int.not_lt, Int.not_le, Int.ofNat_lt, Int.ofNat_le, Int.natCast_inj] at hg')))
 | refine Awp.seq ?_)
      exact Lower.int (idxF_out (Nat.le_of_not_lt hlt) hj).symm
theorem idxF_any {α : Type} (p : α → Bool) (l : List α) : decide (0 ≤ idxF p l) = l.any p := by
  unfold idxF
  by_cases h : l.findIdx p < l.length
  · rw [if_pos h]
    have h2 := List.findIdx_getElem (w := h)
    have h3 : l.any p = true := List.any_eq_true.2 ⟨_, List.getElem_mem h, h2⟩
    rw [h3, decide_eq_true_eq]
    omega
  · rw [if_neg h]
    have h3 : l.any p = false := by
      rw [Bool.eq_false_iff]
      intro h4
      obtain ⟨x, hx, hpx⟩ := List.any_eq_true.1 h4
      exact h (List.findIdx_lt_length_of_exists ⟨x, hx, hpx⟩)
    rw [h3]; rfl
theorem containsS_ok (l : List Sty) (g : Nat) (cs : List AV) (p : Sty → Bool) (hl : l.length < 1000000) (hp : ∀ x : Sty, Pure Tryz.prog g [x.av, .rp cs] (.v (.bool (p x)))) :
    Pure Tryz.prog 69 [.sl (stys l), .fn g [.rp cs]] (.v (.bool (l.any p))) := by
  have h := indexS_ok2 l g cs p hl hp
  rw [← idxF_any]
  refine fn_pure Tryz.F69 (Nat.le_of_ble_eq_true rfl) ?_; unfold Tryz.ac69 AR AM AO
  repeat' (first
 | (apply Awp.sreg; (case hn => (simp only [List.length_cons, List.length_nil, Nat.reduceAdd] <;> rfl)))
 | (refine st_nil ?_)
 | (apply st_a; (case hc => rfl); (case he => (simp only [go_sem, *] <;> rfl)); (case hu => (simp only [updL_nil, updL_cons] <;> rfl)); (case hp => first | trivial))
 | (apply st_c; (case hc => (simp only [go_sem, *] <;> rfl)); (case hl => (simp only [go_sem, *] <;> rfl)); (case hn => (simp only [go_sem, *] <;> rfl)); (case hp => first | exact h | (have hXz := h; simp only [go_sem, *] at hXz; exact hXz)))
 | (refine Awp.ret ?_; try simp only [go_sem, *]))
  all_goals repeat' (first | exact Lower.bool (by first | rfl | (simp only [true_and, Bool.true_and, Bool.false_and, Bool.and_true, Bool.and_false, Bool.true_or, Bool.false_or, reduceIte, Bool.false_eq_true, *]; done) | (simp only [true_and, reduceIte, Bool.false_eq_true, *] <;> rfl) | (simp [true_and]; done) | (simp_all [true_and]; done) | omega))
def findB (l : List By) (nm : ByteArray) : By × Bool := if decide (idxF (fun q : By => q.nm.toList == nm.toList) l < 0) then (zeroBy, false) else (l.getD (idxF (fun q : By => q.nm.toList == nm.toList) l).toNat zeroBy, true)
theorem find_ok (l : List By) (nm : ByteArray) (hl : l.length < 1000000) : Pure Tryz.prog 51 [.sl (bys l), .v (.string nm)] (.tup [(findB l nm).1.av, .v (.bool (findB l nm).2)]) := by
  have h := indexB_ok l 68 [.v (.string nm)] (fun q : By => q.nm.toList == nm.toList) hl (nameEq_ok nm)
  unfold findB
  generalize hI : idxF (fun q : By => q.nm.toList == nm.toList) l = I at *
  by_cases h0 : I < 0
  · refine fn_pure Tryz.F51 (Nat.le_of_ble_eq_true rfl) ?_; unfold Tryz.ac51 AR AM AO
    repeat' (first
 | (apply Awp.sreg; (case hn => (simp only [List.length_cons, List.length_nil, Nat.reduceAdd] <;> rfl)))
 | (refine st_nil ?_)
 | (apply st_a; (case hc => rfl); (case he => (simp only [go_sem, *] <;> rfl)); (case hu => (simp only [updL_nil, updL_cons] <;> rfl)); (case hp => first | trivial))
 | (apply st_cd; (case hc => (simp only [go_sem, *] <;> rfl)); (case hl => (simp only [go_sem, *] <;> rfl)); (case hn => (simp only [go_sem, *] <;> rfl)); (case hp => first | exact h | (have hXz := h; simp only [go_sem, *] at hXz; exact hXz)); (case hd => first | exact .v _ | exact .any | exact .nils | (repeat' (first | exact Dry.v _ | exact Dry.any | exact Dry.nils | exact Dry.slE | refine Dry.agg ?_ | refine Dry.tup ?_ | (refine List.forall_mem_cons.2 (And.intro ?_ ?_)) | (intro cQ hQ; cases hQ; done)))); (case hm => first | decide | (simp; done)))
 | (refine Awp.ret ?_; try simp only [go_sem, *])
 | (apply Awp.cond; (case hc => (simp only [go_sem, *] <;> rfl)); all_goals (intro hg; (try simp only [Bool.not_true, Bool.not_false, reduceCtorEq] at hg); (try have hg' := hg); (try simp only [decide_eq_true_eq, decide_eq_false_iff_not, Bool.and_eq_true, Bool.or_eq_false_iff, bne_iff_ne, bne_eq_false_iff_eq, beq_iff_eq, beq_eq_false_iff_ne, Int.not_lt, Int.not_le, Int.ofNat_lt, Int.ofNat_le, Int.natCast_inj] at hg')))
 | refine Awp.seq ?_)
    all_goals repeat' (first | exact Lower.bool (by first | rfl | (simp only [zeroBy, Bool.true_and, Bool.false_and, Bool.and_true, Bool.and_false, Bool.true_or, Bool.false_or, reduceIte, Bool.false_eq_true, *]; done) | (simp only [zeroBy, reduceIte, Bool.false_eq_true, *] <;> rfl) | (simp [zeroBy]; done) | (simp_all [zeroBy]; done) | omega) | exact Lower.int (by first | rfl | (simp only [zeroBy, Bool.true_and, Bool.false_and, Bool.and_true, Bool.and_false, Bool.true_or, Bool.false_or, reduceIte, Bool.false_eq_true, *]; done) | (simp only [zeroBy, reduceIte, Bool.false_eq_true, *] <;> rfl) | (simp [zeroBy]; done) | (simp_all [zeroBy]; done) | omega) | exact Lower.str (by first | rfl | (simp only [zeroBy, Bool.true_and, Bool.false_and, Bool.and_true, Bool.and_false, Bool.true_or, Bool.false_or, reduceIte, Bool.false_eq_true, *]; done) | (simp only [zeroBy, reduceIte, Bool.false_eq_true, *] <;> rfl) | (simp [zeroBy]; done) | (simp_all [zeroBy]; done) | omega) | refine Lower.aggF ?_ | refine Lower.tupF ?_ | refine All2.cons ?_ ?_ | exact All2.nil)
  · have hlt : I.toNat < l.length := by
      unfold idxF at hI
      split at hI <;> omega
    have hat := bys_at l I.toNat hlt
    have hz : ((l.getD I.toNat zeroBy).cells).length = 3 := rfl
    have hlt' : I < l.length := by omega
    refine fn_pure Tryz.F51 (Nat.le_of_ble_eq_true rfl) ?_; unfold Tryz.ac51 AR AM AO
    repeat' (first
 | (apply Awp.sreg; (case hn => (simp only [List.length_cons, List.length_nil, Nat.reduceAdd] <;> rfl)))
 | (refine st_nil ?_)
 | (apply st_a; (case hc => rfl); (case he => (simp only [go_sem, *] <;> rfl)); (case hu => (simp only [updL_nil, updL_cons] <;> rfl)); (case hp => first | trivial | omega))
 | (apply st_cd; (case hc => (simp only [go_sem, *] <;> rfl)); (case hl => (simp only [go_sem, *] <;> rfl)); (case hn => (simp only [go_sem, *] <;> rfl)); (case hp => first | exact h | (have hXz := h; simp only [go_sem, *] at hXz; exact hXz)); (case hd => first | exact .v _ | exact .any | exact .nils | (repeat' (first | exact Dry.v _ | exact Dry.any | exact Dry.nils | exact Dry.slE | refine Dry.agg ?_ | refine Dry.tup ?_ | (refine List.forall_mem_cons.2 (And.intro ?_ ?_)) | (intro cQ hQ; cases hQ; done)))); (case hm => first | decide | (simp; done)))
 | (refine Awp.ret ?_; try simp only [go_sem, *])
 | (refine Awp.skip ?_; try simp only [go_sem, *])
 | (apply Awp.cond; (case hc => (simp only [go_sem, *] <;> rfl)); all_goals (intro hg; (try simp only [Bool.not_true, Bool.not_false, reduceCtorEq] at hg); (try have hg' := hg); (try simp only [decide_eq_true_eq, decide_eq_false_iff_not, Bool.and_eq_true, Bool.or_eq_false_iff, bne_iff_ne, bne_eq_false_iff_eq, beq_iff_eq, beq_eq_false_iff_ne, Int.not_lt, Int.not_le, Int.ofNat_lt, Int.ofNat_le, Int.natCast_inj] at hg')))
 | refine Awp.seq ?_)
    all_goals repeat' (first | exact Lower.bool (by first | rfl | (simp only [true_and, Bool.true_and, Bool.false_and, Bool.and_true, Bool.and_false, Bool.true_or, Bool.false_or, reduceIte, Bool.false_eq_true, *]; done) | (simp only [true_and, reduceIte, Bool.false_eq_true, *] <;> rfl) | (simp [true_and]; done) | (simp_all [true_and]; done) | omega) | exact Lower.int (by first | rfl | (simp only [true_and, Bool.true_and, Bool.false_and, Bool.and_true, Bool.and_false, Bool.true_or, Bool.false_or, reduceIte, Bool.false_eq_true, *]; done) | (simp only [true_and, reduceIte, Bool.false_eq_true, *] <;> rfl) | (simp [true_and]; done) | (simp_all [true_and]; done) | omega) | exact Lower.str (by first | rfl | (simp only [true_and, Bool.true_and, Bool.false_and, Bool.and_true, Bool.and_false, Bool.true_or, Bool.false_or, reduceIte, Bool.false_eq_true, *]; done) | (simp only [true_and, reduceIte, Bool.false_eq_true, *] <;> rfl) | (simp [true_and]; done) | (simp_all [true_and]; done) | omega) | refine Lower.aggF ?_ | refine Lower.tupF ?_ | refine All2.cons ?_ ?_ | exact All2.nil)
def rngB (x : Sty) : Bool := !sideB x.len || !sideB x.wid || decide (x.a < 0) || decide (x.b ≤ x.a) || decide (1048576 < x.b)
def offB (q : By) (x : Sty) : Bool := decide (x.x < 0) || decide (x.y < 0) || decide (IntKind.i64.wrap (q.len - x.len) < x.x) || decide (IntKind.i64.wrap (q.wid - x.wid) < x.y)
def stayE (bs : List By) (l : List Sty) (x : Sty) : Int :=
  if !idB x.item then 6 else if !(findB bs x.bay).2 then 8 else if rngB x then 9 else if offB (findB bs x.bay).1 x then 18 else if l.any (overB x) then 19 else 0
theorem stay_ok (bs : List By) (l : List Sty) (x : Sty) (hb : bs.length < 1000000) (hl : l.length < 1000000) : Pure Tryz.prog 52 [.sl (bys bs), .sl (stys l), x.av] (.v (.int .i64 (stayE bs l x))) := by
  have c0 := find_ok bs x.bay hb
  have c1 := isid_ok x.item
  have c2 := containsS_ok l 70 x.cells (overB x) hl (overC_ok x)
  unfold stayE
  generalize findB bs x.bay = F at *
  refine fn_pure Tryz.F52 (Nat.le_of_ble_eq_true rfl) ?_; unfold Tryz.ac52 AR AM AO
  repeat' (first
 | (apply Awp.sreg; (case hn => (simp only [List.length_cons, List.length_nil, Nat.reduceAdd] <;> rfl)))
 | (refine st_nil ?_)
 | (apply st_a; (case hc => rfl); (case he => (simp only [go_sem, *] <;> rfl)); (case hu => (simp only [updL_nil, updL_cons] <;> rfl)); (case hp => first | trivial))
 | (apply st_m; (case hc => rfl); (case hg => (simp only [go_sem, *] <;> rfl)); (case he => (intro hQz; (try simp only [wantB_t, wantB_f, Bool.and_eq_true, Bool.not_eq_true', Bool.not_true, Bool.not_false, and_true, true_and] at hQz); simp only [go_sem, *] <;> rfl)); (case hp => (intro hQz; (try simp only [wantB_t, wantB_f, Bool.and_eq_true, Bool.not_eq_true', Bool.or_eq_false_iff, decide_eq_true_eq, decide_eq_false_iff_not, beq_iff_eq, beq_eq_false_iff_ne, bne_iff_ne, bne_eq_false_iff_eq, Int.not_lt, Int.not_le, Int.ofNat_lt, Int.ofNat_le] at hQz); first | trivial)))
 | (apply st_c; (case hc => (simp only [go_sem, *] <;> rfl)); (case hl => (simp only [go_sem, *] <;> rfl)); (case hn => (simp only [go_sem, *] <;> rfl)); (case hp => first | exact c0 | (have hXz := c0; simp only [go_sem, *] at hXz; exact hXz)))
 | (apply st_c; (case hc => (simp only [go_sem, *] <;> rfl)); (case hl => (simp only [go_sem, *] <;> rfl)); (case hn => (simp only [go_sem, *] <;> rfl)); (case hp => first | exact c1 | (have hXz := c1; simp only [go_sem, *] at hXz; exact hXz)))
 | (apply st_cd; (case hc => (simp only [go_sem, *] <;> rfl)); (case hl => (simp only [go_sem, *] <;> rfl)); (case hn => (simp only [go_sem, *] <;> rfl)); (case hp => first | exact c2 | (have hXz := c2; simp only [go_sem, *] at hXz; exact hXz)); (case hd => first | exact .v _ | exact .any | exact .nils | (repeat' (first | exact Dry.v _ | exact Dry.any | exact Dry.nils | exact Dry.slE | refine Dry.agg ?_ | refine Dry.tup ?_ | (refine List.forall_mem_cons.2 (And.intro ?_ ?_)) | (intro cQ hQ; cases hQ; done)))); (case hm => first | decide | (simp; done)))
 | (apply st_mc; (case hop => rfl); (case hg => (simp only [go_sem, *] <;> rfl)); (case hc => (intro hQz; (try simp only [wantB_t, wantB_f, Bool.and_eq_true, Bool.not_eq_true', Bool.not_true, Bool.not_false, and_true, true_and] at hQz); simp only [go_sem, *] <;> rfl)); (case hl => (intro hQz; (try simp only [wantB_t, wantB_f, Bool.and_eq_true, Bool.not_eq_true', Bool.not_true, Bool.not_false, and_true, true_and] at hQz); simp only [go_sem, *] <;> rfl)); (case hn => (intro hQz; (try simp only [wantB_t, wantB_f, Bool.and_eq_true, Bool.not_eq_true', Bool.not_true, Bool.not_false, and_true, true_and] at hQz); simp only [go_sem, *] <;> rfl)); (case hp => intro hQz; first | exact side_ok _ | (have hXz := side_ok _; simp only [go_sem, *] at hXz; exact hXz)))
 | (apply st_c; (case hc => (simp only [go_sem, *] <;> rfl)); (case hl => (simp only [go_sem, *] <;> rfl)); (case hn => (simp only [go_sem, *] <;> rfl)); (case hp => first | exact side_ok _ | (have hXz := side_ok _; simp only [go_sem, *] at hXz; exact hXz)))
 | (refine Awp.ret ?_; try simp only [go_sem, *])
 | (refine Awp.skip ?_; try simp only [go_sem, *])
 | refine Awp.block ?_
 | (apply Awp.cond; (case hc => (simp only [go_sem, *] <;> rfl)); all_goals (intro hg; (try simp only [Bool.not_true, Bool.not_false, reduceCtorEq] at hg)))
 | refine Awp.seq ?_)
  all_goals repeat' (first | exact Lower.int (by first | rfl | (simp only [rngB, offB, Bool.true_and, Bool.false_and, Bool.and_true, Bool.and_false, Bool.true_or, Bool.false_or, reduceIte, Bool.false_eq_true, *]; done) | (simp only [rngB, offB, reduceIte, Bool.false_eq_true, *] <;> rfl) | (simp [rngB, offB]; done) | (simp_all [rngB, offB]; done) | omega))
def firstE (f : Nat → Int) (n : Nat) : Int := match (List.range n).find? (fun i => f i != 0) with
  | some i => f i
  | none => 0
theorem firstE_bad {f : Nat → Int} {n i : Nat} (hi : i < n) (h : f i ≠ 0) (hj : ∀ j, j < i → f j = 0) : firstE f n = f i := by
  have e : (List.range n).find? (fun i => f i != 0) = some i := by
    rw [List.find?_eq_some_iff_getElem]
    refine ⟨by simpa using h, i, by simpa using hi, by simp, fun j hji => ?_⟩
    have := hj j hji
    simp [this]
  unfold firstE
  rw [e]
theorem firstE_end {f : Nat → Int} {n i : Nat} (hi : n ≤ i) (hj : ∀ j, j < i → f j = 0) : firstE f n = 0 := by
  have e : (List.range n).find? (fun i => f i != 0) = none := by
    rw [List.find?_eq_none]
    intro j hjn
    have := hj j (by have := List.mem_range.1 hjn; omega)
    simp [this]
  unfold firstE
  rw [e]
theorem bys_take (l : List By) (i : Nat) : (bys l).take i = bys (l.take i) := by simp [bys, List.map_take]
theorem stys_take (l : List Sty) (i : Nat) : (stys l).take i = stys (l.take i) := by simp [stys, List.map_take]
def bayAt (bs : List By) (i : Nat) : Int :=
  if !nameB (bs.getD i zeroBy).nm then 6 else if !sideB (bs.getD i zeroBy).len || !sideB (bs.getD i zeroBy).wid then 9 else if (findB (bs.take i) (bs.getD i zeroBy).nm).2 then 7 else 0
def checkE (bs : List By) (l : List Sty) : Int :=
  if decide ((8 : Int) < bs.length) || decide ((128 : Int) < l.length) then 4 else if firstE (bayAt bs) bs.length != 0 then firstE (bayAt bs) bs.length
  else firstE (fun i => stayE bs (l.take i) (l.getD i zeroSty)) l.length
theorem ck_bad {bs : List By} {l : List Sty} {i : Nat} {e : Int} (hL : (decide ((8 : Int) < bs.length) || decide ((128 : Int) < l.length)) = false) (hi : i < bs.length) (hj : ∀ j, j < i → bayAt bs j = 0) (h : bayAt bs i = e) (he : e ≠ 0) : e = checkE bs l := by
  have h1 := firstE_bad (f := bayAt bs) hi (by rw [h]; exact he) hj
  rw [h] at h1
  unfold checkE
  rw [if_neg (by rw [hL]; simp), h1, if_pos (by simpa using he)]
theorem ck_stay {bs : List By} {l : List Sty} {i : Nat} {e : Int} (hL : (decide ((8 : Int) < bs.length) || decide ((128 : Int) < l.length)) = false) (hb : firstE (bayAt bs) bs.length = 0) (hi : i < l.length) (hj : ∀ j, j < i → stayE bs (l.take j) (l.getD j zeroSty) = 0) (h : stayE bs (l.take i) (l.getD i zeroSty) = e) (he : e ≠ 0) : e = checkE bs l := by
  have h1 := firstE_bad (f := fun i => stayE bs (l.take i) (l.getD i zeroSty)) hi (by show stayE bs (l.take i) (l.getD i zeroSty) ≠ 0; rw [h]; exact he) hj
  rw [h] at h1
  unfold checkE
  rw [if_neg (by rw [hL]; simp), if_neg (by rw [hb]; simp), h1]
theorem ck_end {bs : List By} {l : List Sty} {i : Nat} (hL : (decide ((8 : Int) < bs.length) || decide ((128 : Int) < l.length)) = false) (hb : firstE (bayAt bs) bs.length = 0) (hi : l.length ≤ i) (hj : ∀ j, j < i → stayE bs (l.take j) (l.getD j zeroSty) = 0) : 0 = checkE bs l := by
  have h1 := firstE_end (f := fun i => stayE bs (l.take i) (l.getD i zeroSty)) hi hj
  unfold checkE
  rw [if_neg (by rw [hL]; simp), if_neg (by rw [hb]; simp), h1]
theorem check_ok (bs : List By) (l : List Sty) (hb : bs.length < 100000) (hl : l.length < 100000) : Pure Tryz.prog 26 [.sl (bys bs), .sl (stys l)] (.v (.int .i64 (checkE bs l))) := by
  by_cases hL : (decide ((8 : Int) < bs.length) || decide ((128 : Int) < l.length)) = true
  · unfold checkE
    rw [if_pos hL]
    refine fn_pure Tryz.F26 (Nat.le_of_ble_eq_true rfl) ?_; unfold Tryz.ac26 AR AM AO
    repeat' (first
 | (apply Awp.sreg; (case hn => (simp only [List.length_cons, List.length_nil, Nat.reduceAdd] <;> rfl)))
 | (refine st_nil ?_)
 | (apply st_a; (case hc => rfl); (case he => (simp only [go_sem, *] <;> rfl)); (case hu => (simp only [updL_nil, updL_cons] <;> rfl)); (case hp => first | trivial))
 | (apply st_m; (case hc => rfl); (case hg => (simp only [go_sem, *] <;> rfl)); (case he => (intro hQz; (try simp only [wantB_t, wantB_f, Bool.and_eq_true, Bool.not_eq_true', Bool.not_true, Bool.not_false, and_true, true_and] at hQz); simp only [go_sem, *] <;> rfl)); (case hp => (intro hQz; (try simp only [wantB_t, wantB_f, Bool.and_eq_true, Bool.not_eq_true', Bool.or_eq_false_iff, decide_eq_true_eq, decide_eq_false_iff_not, beq_iff_eq, beq_eq_false_iff_ne, bne_iff_ne, bne_eq_false_iff_eq, Int.not_lt, Int.not_le, Int.ofNat_lt, Int.ofNat_le] at hQz); first | trivial)))
 | (refine Awp.ret ?_; try simp only [go_sem, *])
 | (apply Awp.cond; (case hc => (simp only [go_sem, *] <;> rfl)); all_goals (intro hg; (try simp only [Bool.not_true, Bool.not_false, reduceCtorEq] at hg)))
 | refine Awp.seq ?_)
    all_goals first | repeat' (first | exact Lower.int (by first | rfl | (simp only [true_and, Bool.true_and, Bool.false_and, Bool.and_true, Bool.and_false, Bool.true_or, Bool.false_or, reduceIte, Bool.false_eq_true, *]; done) | (simp only [true_and, reduceIte, Bool.false_eq_true, *] <;> rfl) | (simp [true_and]; done) | (simp_all [true_and]; done) | omega)) | skip
    all_goals (exfalso; simp_all)
  have hL' : (decide ((8 : Int) < bs.length) || decide ((128 : Int) < l.length)) = false := by simpa using hL
  clear hL
  refine fn_pure Tryz.F26 (Nat.le_of_ble_eq_true rfl) ?_; unfold Tryz.ac26 AR AM AO
  repeat' (first
 | (apply Awp.sreg; (case hn => (simp only [List.length_cons, List.length_nil, Nat.reduceAdd] <;> rfl)))
 | (refine st_nil ?_)
 | (apply st_a; (case hc => rfl); (case he => (simp only [go_sem, *] <;> rfl)); (case hu => (simp only [updL_nil, updL_cons] <;> rfl)); (case hp => first | trivial))
 | (apply st_m; (case hc => rfl); (case hg => (simp only [go_sem, *] <;> rfl)); (case he => (intro hQz; (try simp only [wantB_t, wantB_f, Bool.and_eq_true, Bool.not_eq_true', Bool.not_true, Bool.not_false, and_true, true_and] at hQz); simp only [go_sem, *] <;> rfl)); (case hp => (intro hQz; (try simp only [wantB_t, wantB_f, Bool.and_eq_true, Bool.not_eq_true', Bool.or_eq_false_iff, decide_eq_true_eq, decide_eq_false_iff_not, beq_iff_eq, beq_eq_false_iff_ne, bne_iff_ne, bne_eq_false_iff_eq, Int.not_lt, Int.not_le, Int.ofNat_lt, Int.ofNat_le] at hQz); first | trivial)))
 | (refine Awp.skip ?_; try simp only [go_sem, *])
 | refine Awp.block ?_
 | (apply Awp.cond; (case hc => (simp only [go_sem, *] <;> rfl)); all_goals (intro hg; (try simp only [Bool.not_true, Bool.not_false, reduceCtorEq] at hg)))
 | refine Awp.seq ?_)
  refine Awp.loop (fun i : Nat => i ≤ bs.length ∧ ∀ j, j < i → bayAt bs j = 0) 40 (fun i => mkS [(0, .sl (bys bs)), (1, .sl (stys l)), (20, .sl (bys bs)), (21, .v (.int .i64 bs.length)), (22, .v (.int .i64 i))] []) (fun i => bs.length - i) 0 (by simp) ?_ ?_
  · (apply Ghost.mk [] []; (case hdead => rfl); (case hinj => rfl); (case hV => (simp only [go_sem, *]) <;> (repeat' (first | exact View.int (by first | rfl | omega | (simp; done) | (rw [wrap_i64] <;> (try simp only [Int.natCast_add]) <;> omega) | (simp [*]; done))))); (case hB => (simp only [go_sem, *]) <;> (repeat' (first | skip; done))))
  · intro i ⟨hi, hj⟩
    by_cases hlt : i < bs.length
    · have hlt' : (i : Int) < bs.length := by omega
      have hat := bys_at bs i hlt
      have hz : ((bs.getD i zeroBy).cells).length = 3 := rfl
      have h3 := bys_one bs
      have ht := bys_take bs i
      have c0 := name_ok (bs.getD i zeroBy).nm
      have c1 := find_ok (bs.take i) (bs.getD i zeroBy).nm (by simp; omega)
      have hle : (i : Int) ≤ bs.length := by omega
      have h00 : (0 : Int) ≤ i := by omega
      generalize hF : findB (bs.take i) (bs.getD i zeroBy).nm = F at c1
      repeat' (first
 | (apply Awp.sreg; (case hn => (simp only [List.length_cons, List.length_nil, Nat.reduceAdd] <;> rfl)))
 | (apply Awp.sdraw; (case hn => (simp only [List.length_cons, List.length_nil, Nat.reduceAdd] <;> rfl)))
 | (refine st_nil ?_)
 | (apply st_a; (case hc => rfl); (case he => (simp only [go_sem, *] <;> rfl)); (case hu => (simp only [updL_nil, updL_cons] <;> rfl)); (case hp => first | trivial))
 | (apply st_m; (case hc => rfl); (case hg => (simp only [go_sem, *] <;> rfl)); (case he => (intro hQz; (try simp only [wantB_t, wantB_f, Bool.and_eq_true, Bool.not_eq_true', Bool.not_true, Bool.not_false, and_true, true_and] at hQz); simp only [go_sem, *] <;> rfl)); (case hp => (intro hQz; (try simp only [wantB_t, wantB_f, Bool.and_eq_true, Bool.not_eq_true', Bool.or_eq_false_iff, decide_eq_true_eq, decide_eq_false_iff_not, beq_iff_eq, beq_eq_false_iff_ne, bne_iff_ne, bne_eq_false_iff_eq, Int.not_lt, Int.not_le, Int.ofNat_lt, Int.ofNat_le] at hQz); first | trivial)))
 | (apply st_c; (case hc => (simp only [go_sem, *] <;> rfl)); (case hl => (simp only [go_sem, *] <;> rfl)); (case hn => (simp only [go_sem, *] <;> rfl)); (case hp => first | exact c0 | (have hXz := c0; simp only [go_sem, *] at hXz; exact hXz)))
 | (apply st_mc; (case hop => rfl); (case hg => (simp only [go_sem, *] <;> rfl)); (case hc => (intro hQz; (try simp only [wantB_t, wantB_f, Bool.and_eq_true, Bool.not_eq_true', Bool.not_true, Bool.not_false, and_true, true_and] at hQz); simp only [go_sem, *] <;> rfl)); (case hl => (intro hQz; (try simp only [wantB_t, wantB_f, Bool.and_eq_true, Bool.not_eq_true', Bool.not_true, Bool.not_false, and_true, true_and] at hQz); simp only [go_sem, *] <;> rfl)); (case hn => (intro hQz; (try simp only [wantB_t, wantB_f, Bool.and_eq_true, Bool.not_eq_true', Bool.not_true, Bool.not_false, and_true, true_and] at hQz); simp only [go_sem, *] <;> rfl)); (case hp => intro hQz; first | exact side_ok _ | (have hXz := side_ok _; simp only [go_sem, *] at hXz; exact hXz)))
 | (apply st_c; (case hc => (simp only [go_sem, *] <;> rfl)); (case hl => (simp only [go_sem, *] <;> rfl)); (case hn => (simp only [go_sem, *] <;> rfl)); (case hp => first | exact side_ok _ | (have hXz := side_ok _; simp only [go_sem, *] at hXz; exact hXz)))
 | (apply Awp.reg; (case hn => (simp only [List.length_cons, List.length_nil, Nat.reduceAdd] <;> rfl)))
 | (refine Awp.ret ?_; try simp only [go_sem, *])
 | (refine Awp.skip ?_; try simp only [go_sem, *])
 | refine Awp.block ?_
 | (apply Awp.cond; (case hc => (simp only [go_sem, *] <;> rfl)); all_goals (intro hg; (try simp only [Bool.not_true, Bool.not_false, reduceCtorEq] at hg)))
 | refine Awp.seq ?_
 | (apply sl_a; (case hc => rfl); (case he => (simp only [go_sem, *] <;> rfl)); (case hu => (simp only [updL_nil, updL_cons] <;> rfl)); (case hl => (simp only [List.map_cons, List.map_nil] <;> rfl)); (case hp => first | trivial))
 | (apply sl_c; (case hc => (simp only [go_sem, *] <;> rfl)); (case hl => (simp only [go_sem, *] <;> rfl)); (case hn => (simp only [go_sem, *] <;> rfl)); (case hp => first | exact c1 | (have hXz := c1; simp only [go_sem, *] at hXz; exact hXz)); (case hd => first | exact .inl rfl | exact .inr (.v _) | exact .inr .any | exact .inr .nils); (case hm => first | decide | (simp; done)))
 | (refine sl_nil (And.intro (by first | exact drawOk_of (by decide +kernel) | (simp only [List.map_cons, List.map_nil]; exact drawOk_of (by decide +kernel)) | decide) ?_)))
      · exact Lower.int (ck_bad hL' hlt hj (by simp only [bayAt, hF, *, reduceIte, Bool.false_eq_true]) (by decide))
      · exact Lower.int (ck_bad hL' hlt hj (by simp only [bayAt, hF, *, reduceIte, Bool.false_eq_true]) (by decide))
      · exact Lower.int (ck_bad hL' hlt hj (by simp only [bayAt, hF, *, reduceIte, Bool.false_eq_true]) (by decide))
      · refine ⟨i + 1, ⟨by omega, ltSucc hj (by simp only [bayAt, hF, *, reduceIte, Bool.false_eq_true])⟩, by omega, ?_⟩
        (apply Ghost.mk [] []; (case hdead => rfl); (case hinj => rfl); (case hV => (simp only [go_sem, *]) <;> (repeat' (first | exact View.int (by first | rfl | omega | (simp; done) | (rw [wrap_i64] <;> (try simp only [Int.natCast_add]) <;> omega) | (simp [*]; done))))); (case hB => (simp only [go_sem, *]) <;> (repeat' (first | skip; done))))
    · have hlt' : ¬ (i : Int) < bs.length := by omega
      have hfe := firstE_end (Nat.le_of_not_lt hlt) hj
      clear hj
      repeat' (first
 | (apply Awp.sreg; (case hn => (simp only [List.length_cons, List.length_nil, Nat.reduceAdd] <;> rfl)))
 | (refine st_nil ?_)
 | (apply st_a; (case hc => rfl); (case he => (simp only [go_sem, *] <;> rfl)); (case hu => (simp only [updL_nil, updL_cons] <;> rfl)); (case hp => first | trivial))
 | (refine Awp.exit ?_; try simp only [go_sem, *])
 | refine Awp.block ?_
 | (apply Awp.cond; (case hc => (simp only [go_sem, *] <;> rfl)); all_goals (intro hg; (try simp only [Bool.not_true, Bool.not_false, reduceCtorEq] at hg)))
 | refine Awp.seq ?_)
      clear hlt hlt' hi
      refine Awp.loop (fun i : Nat => i ≤ l.length ∧ ∀ j, j < i → stayE bs (l.take j) (l.getD j zeroSty) = 0) 60 (fun i => mkS [(0, .sl (bys bs)), (1, .sl (stys l)), (52, .sl (stys l)), (53, .v (.int .i64 l.length)), (54, .v (.int .i64 i))] []) (fun i => l.length - i) 0 (by simp) ?_ ?_
      · (apply Ghost.mk [] []; (case hdead => rfl); (case hinj => rfl); (case hV => (simp only [go_sem, *]) <;> (repeat' (first | exact View.int (by first | rfl | omega | (simp; done) | (rw [wrap_i64] <;> (try simp only [Int.natCast_add]) <;> omega) | (simp [*]; done))))); (case hB => (simp only [go_sem, *]) <;> (repeat' (first | skip; done))))
      · intro k ⟨hi, hj⟩
        by_cases hlt : k < l.length
        · have hlt' : (k : Int) < l.length := by omega
          have hat := stys_at l k hlt
          have hz : ((l.getD k zeroSty).cells).length = 8 := rfl
          have h3 := stys_one l
          have ht := stys_take l k
          have hle : (k : Int) ≤ l.length := by omega
          have h00 : (0 : Int) ≤ k := by omega
          have c0 := stay_ok bs (l.take k) (l.getD k zeroSty) (by omega) (by simp; omega)
          generalize hE : stayE bs (l.take k) (l.getD k zeroSty) = e at c0
          repeat' (first
 | (apply Awp.sreg; (case hn => (simp only [List.length_cons, List.length_nil, Nat.reduceAdd] <;> rfl)))
 | (apply Awp.sdraw; (case hn => (simp only [List.length_cons, List.length_nil, Nat.reduceAdd] <;> rfl)))
 | (refine st_nil ?_)
 | (apply st_a; (case hc => rfl); (case he => (simp only [go_sem, *] <;> rfl)); (case hu => (simp only [updL_nil, updL_cons] <;> rfl)); (case hp => first | trivial))
 | (apply Awp.reg; (case hn => (simp only [List.length_cons, List.length_nil, Nat.reduceAdd] <;> rfl)))
 | (refine Awp.ret ?_; try simp only [go_sem, *])
 | (refine Awp.skip ?_; try simp only [go_sem, *])
 | refine Awp.block ?_
 | (apply Awp.cond; (case hc => (simp only [go_sem, *] <;> rfl)); all_goals (intro hg; (try simp only [Bool.not_true, Bool.not_false, reduceCtorEq] at hg)))
 | refine Awp.seq ?_
 | (apply sl_a; (case hc => rfl); (case he => (simp only [go_sem, *] <;> rfl)); (case hu => (simp only [updL_nil, updL_cons] <;> rfl)); (case hl => (simp only [List.map_cons, List.map_nil] <;> rfl)); (case hp => first | trivial))
 | (apply sl_c; (case hc => (simp only [go_sem, *] <;> rfl)); (case hl => (simp only [go_sem, *] <;> rfl)); (case hn => (simp only [go_sem, *] <;> rfl)); (case hp => first | exact c0 | (have hXz := c0; simp only [go_sem, *] at hXz; exact hXz)); (case hd => first | exact .inl rfl | exact .inr (.v _) | exact .inr .any | exact .inr .nils); (case hm => first | decide | (simp; done)))
 | (refine sl_nil (And.intro (by first | exact drawOk_of (by decide +kernel) | (simp only [List.map_cons, List.map_nil]; exact drawOk_of (by decide +kernel)) | decide) ?_)))
          · exact Lower.int (ck_stay hL' hfe hlt hj hE (by simpa using hg))
          · refine ⟨k + 1, ⟨by omega, ltSucc hj (by rw [hE]; simpa using hg)⟩, by omega, ?_⟩
            (apply Ghost.mk [] []; (case hdead => rfl); (case hinj => rfl); (case hV => (simp only [go_sem, *]) <;> (repeat' (first | exact View.int (by first | rfl | omega | (simp; done) | (rw [wrap_i64] <;> (try simp only [Int.natCast_add]) <;> omega) | (simp [*]; done))))); (case hB => (simp only [go_sem, *]) <;> (repeat' (first | skip; done))))
        · have hlt' : ¬ (k : Int) < l.length := by omega
          repeat' (first
 | (apply Awp.sreg; (case hn => (simp only [List.length_cons, List.length_nil, Nat.reduceAdd] <;> rfl)))
 | (refine st_nil ?_)
 | (apply st_a; (case hc => rfl); (case he => (simp only [go_sem, *] <;> rfl)); (case hu => (simp only [updL_nil, updL_cons] <;> rfl)); (case hp => first | trivial))
 | (refine Awp.ret ?_; try simp only [go_sem, *])
 | (refine Awp.exit ?_; try simp only [go_sem, *])
 | (apply Awp.cond; (case hc => (simp only [go_sem, *] <;> rfl)); all_goals (intro hg; (try simp only [Bool.not_true, Bool.not_false, reduceCtorEq] at hg)))
 | refine Awp.seq ?_)
          exact Lower.int (ck_end hL' hfe (Nat.le_of_not_lt hlt) hj)
theorem any_end {α : Type} {p : α → Bool} {l : List α} {d : α} {i : Nat} (h : l.length ≤ i) (hj : ∀ j, j < i → p (l.getD j d) = false) : l.any p = false := by
  rw [Bool.eq_false_iff]
  intro h2
  obtain ⟨x, hx, hpx⟩ := List.any_eq_true.1 h2
  obtain ⟨j, hjl, rfl⟩ := List.getElem_of_mem hx
  have := hj j (by omega)
  rw [List.getD_eq_getElem?_getD, List.getElem?_eq_getElem hjl, Option.getD_some, hpx] at this
  cases this
theorem any_in {α : Type} {p : α → Bool} {l : List α} {d : α} {i : Nat} (h : i < l.length) (hp : p (l.getD i d) = true) : l.any p = true := by
  refine List.any_eq_true.2 ⟨l[i], List.getElem_mem h, ?_⟩
  simpa [List.getD_eq_getElem?_getD, h] using hp
end Go.Proofs
namespace Go.Ab

inductive CView (ns : List Nat) (ρ : Nat → Nat) : AV → AV → Prop
  | low {x y} (h : Lower (fun _ => none) x y) : CView ns ρ x y
  | agg {cs cs'} (hl : cs.length = cs'.length) (hr : ∀ j, j < cs.length → CView ns ρ (av cs j) (av cs' j)) : CView ns ρ (.agg cs) (.agg cs')
  | tup {cs cs'} (hl : cs.length = cs'.length) (hr : ∀ j, j < cs.length → CView ns ρ (av cs j) (av cs' j)) : CView ns ρ (.tup cs) (.tup cs')
  | fn {f cs cs'} (hl : cs.length = cs'.length) (hr : ∀ j, j < cs.length → CView ns ρ (av cs j) (av cs' j)) : CView ns ρ (.fn f cs) (.fn f cs')
  | own {b n} (hb : ρ n = b) (hn : n ∈ ns) : CView ns ρ (.own b) (.own n)
  | pre {b n k} (hb : ρ n = b) (hn : n ∈ ns) : CView ns ρ (.pre b k) (.pre n k)
  | bp {b n o} (hb : ρ n = b) (hn : n ∈ ns) : CView ns ρ (.bp b o) (.bp n o)
  | ep {b n sz i o} (hb : ρ n = b) (hn : n ∈ ns) : CView ns ρ (.ep b sz i o) (.ep n sz i o)
  | mapv {b n} (hb : ρ n = b) (hn : n ∈ ns) : CView ns ρ (.mapv b) (.mapv n)

inductive CBView (ns : List Nat) (ρ : Nat → Nat) : Blk → Blk → Prop
  | box {cs cs'} (hl : cs.length = cs'.length) (hr : ∀ j, j < cs.length → CView ns ρ (av cs j) (av cs' j)) : CBView ns ρ (.box cs) (.box cs')
  | row {es es' sz e} (h : es = es') : CBView ns ρ (.row es sz e) (.row es' sz e)
  | iter (s pos) : CBView ns ρ (.iter s pos) (.iter s pos)
  | map {ks vs ks' vs'} (h : ks = ks') (h' : vs = vs') : CBView ns ρ (.map ks vs) (.map ks' vs')

theorem CView.sound {st st' : Nat → Prop} {β β' : Nat → Value} {w : World} {ns : List Nat} {ρ : Nat → Nat} (hst : ∀ g, st g → st' g) (hn : ∀ n, n ∈ ns → β' n = β (ρ n)) {x y : AV}
    (p : CView ns ρ x y) : ∀ {c}, SimV st β w x c → SimV st' β' w y c := by
  induction p with
  | low h => exact fun s => .pure (h.sound (β := β) (st := st) (fun n b hb => by simp at hb) hst (fun n b g hb => by simp at hb) s)
  | agg hlen hr ih =>
    intro c s
    obtain ⟨xs, rfl, h1, h2, h3⟩ := s.agg_inv
    exact .agg _ xs (by omega) h2 fun j hj => ih j (by omega) (h3 j (by omega))
  | tup hlen hr ih =>
    intro c s
    obtain ⟨xs, rfl, h1, h3⟩ := s.tup_inv
    exact .tup _ xs (by omega) fun j hj => ih j (by omega) (h3 j (by omega))
  | fn hlen hr ih =>
    intro c s
    obtain ⟨xs, rfl, h1, h3⟩ := s.fn_inv
    exact .fn _ _ xs (by omega) fun j hj => ih j (by omega) (h3 j (by omega))
  | @own b n hbn hm =>
    intro c s
    obtain ⟨h1, a, m, cap, rfl⟩ := s.own_inv
    exact .own n (by rw [hn n hm, hbn]; exact h1.symm)
  | @pre b n k hbn hm =>
    intro c s
    obtain ⟨a, m, cap, cap', h1, rfl, h2, h3⟩ := s.pre_inv
    exact .pre n k (by rw [hn n hm, hbn]; exact h1) h2 h3
  | @bp b n o hbn hm =>
    intro c s
    obtain ⟨g, h1, rfl⟩ := s.bp_inv
    exact .bp n o (by rw [hn n hm, hbn]; exact h1)
  | @ep b n sz i o hbn hm =>
    intro c s
    obtain ⟨g, m, cap, h1, rfl⟩ := s.ep_inv
    exact .ep n sz i o (by rw [hn n hm, hbn]; exact h1)
  | @mapv b n hbn hm =>
    intro c s
    obtain ⟨g, h1, rfl⟩ := s.mapv_inv
    exact .mapv n (by rw [hn n hm, hbn]; exact h1)

theorem CBView.sound {st st' : Nat → Prop} {β β' : Nat → Value} {w : World} {ns : List Nat} {ρ : Nat → Nat} (hst : ∀ g, st g → st' g) (hn : ∀ n, n ∈ ns → β' n = β (ρ n)) {x y : Blk}
    (p : CBView ns ρ x y) {c : Value} (s : BlkRep st β w x c) : BlkRep st' β' w y c := by
  cases p with
  | box hl hv =>
    obtain ⟨g, ty, xs, f1, f2, f3, f4, f5⟩ := s
    exact ⟨g, ty, xs, f1, f2, by omega, f4, fun j hj => (hv j (by omega)).sound hst hn (f5 j (by omega))⟩
  | row e =>
    subst e
    obtain ⟨xs, f1, f2, f3, f4, f5⟩ := s
    exact ⟨xs, f1, f2, f3, f4, fun i j hi hj => (f5 i j hi hj).mono fun g hg => ⟨hst g hg, rfl⟩⟩
  | iter q p => exact s
  | map e e' =>
    subst e; subst e'
    obtain ⟨g, f, f1, f2, f3, f4⟩ := s
    exact ⟨g, f, f1, f2, f3, fun i hi => (f4 i hi).mono fun g hg => ⟨hst g hg, rfl⟩⟩

def rn (nm m k : Nat) : Nat := if k = nm then m else k

theorem updL_none {α : Type} {f : Nat → Option α} : ∀ {u : List (Nat × Option α)} {k : Nat} {b : α}, updL f u k = some b → (∃ b', f k = some b') ∨ k ∈ u.map (·.1)
  | [], _, b, h => .inl ⟨b, h⟩
  | (i, x) :: u, k, b, h => by
    rcases updL_none (u := u) h with ⟨b', hb⟩ | h'
    · by_cases e : k = i
      · exact .inr (by simp [e])
      · simp only [upd, if_neg e] at hb; exact .inl ⟨b', hb⟩
    · exact .inr (by simp [h'])

theorem BlkRep.ne {st : Nat → Prop} {β : Nat → Value} {w : World} {b : Blk} {c : Value} (h : BlkRep st β w b c) : c ≠ undef := by
  cases b with
  | box cs => obtain ⟨g, ty, xs, rfl, _⟩ := h; simp [undef]
  | row es sz e =>
    obtain ⟨xs, _, _, hr, _⟩ := h
    rcases hr with ⟨a, rfl, _⟩ | ⟨g', cap, rfl, _⟩ <;> simp [undef]
  | iter s pos => obtain ⟨g, rfl, _⟩ := h; simp [undef]
  | rowX es sz e =>
    obtain ⟨xs, _, _, hr, _⟩ := h
    rcases hr with ⟨a, rfl, _⟩ | ⟨g', cap, rfl, _⟩ <;> simp [undef]
  | map ks vs => obtain ⟨g, f, rfl, _⟩ := h; simp [undef]
  | rowS es ys sz e =>
    obtain ⟨⟨xs, _, _, hr, _⟩, _⟩ := h
    rcases hr with ⟨a, rfl, _⟩ | ⟨g, cap, rfl, _⟩ <;> simp [undef]

variable {P : Program} {f : FuncId} {fn : Func} {ac : ACode} {n : Nat} {rs : List ResultVar} {args : List AV}

theorem fn_cc (F : FnFacts P f fn ac n rs) (hn : args.length ≤ n) {hl : List (Nat × Blk)} {ups : Upd} {nm bs : Nat} {r : AV} (hlb : ∀ p ∈ hl, p.1 < bs) (hnm : nm ∉ hl.map (·.1))
    (hu : ∀ p ∈ ups, p.1 = nm ∨ p.1 ∈ hl.map (·.1)) (hall : ∀ p ∈ hl, p.1 ∈ ups.map (·.1)) (hbx : ∀ p ∈ hl, CBView (hl.map (·.1)) id p.2 p.2) (ha : ∀ j, j < args.length → CView (hl.map (·.1)) id (av args j) (av args j))
    (h : Awp P n bs ac bs ⟨fun t => av args t, listH hl⟩ fun e _ S => (e = .normal ∨ e = .ret) ∧ resSide P S rs ∧ ∃ m, bs ≤ m ∧
      CView (nm :: hl.map (·.1)) (rn nm m) (resV (resVals P S rs)) r ∧ ∀ k b', updL (listH hl) ups k = some b' → ∃ blk, S.h (rn nm m k) = some blk ∧ CBView (nm :: hl.map (·.1)) (rn nm m) blk b') :
    CallC P f args hl nm r ups := by
  obtain ⟨code, hbody, hcomp⟩ := F.code
  refine ⟨F.callable, fun prov β w cs hβ hb hinj hv => ?_⟩
  refine calls_of_wp F.at_ hbody ?_
  rw [F.nt]
  have hmem : ∀ k b, listH hl k = some b → k ∈ hl.map (·.1) := fun k b hk => List.mem_map.2 ⟨_, listH_mem hk, rfl⟩
  have hmem' : ∀ k, k ∈ hl.map (·.1) → k < bs := fun k hk => by obtain ⟨p, hp, rfl⟩ := List.mem_map.1 hk; exact hlb p hp
  have hdef : ∀ k, k ∈ hl.map (·.1) → β k ≠ undef := fun k hk => by
    have : ∃ b, listH hl k = some b := by
      clear hb hinj hv h ha hbx hall hu hnm hlb hmem hmem'
      induction hl with
      | nil => simp at hk
      | cons p hl ih =>
        simp only [listH]
        by_cases e : k = p.1
        · exact ⟨p.2, by rw [if_pos e]⟩
        · rw [if_neg e]; exact ih (by simpa [e] using hk)
    obtain ⟨b, hkb⟩ := this
    exact (hb k b hkb).ne
  let β0 : Nat → Value := fun k => if k ∈ hl.map (·.1) then β k else undef
  have β0_at : ∀ k, k ∈ hl.map (·.1) → β0 k = β k := fun k hk => if_pos hk
  let E : Entry := { w0 := w, β0 := β0, prov := prov, may := fun g => ∃ k b, listH hl k = some b ∧ blkOf (β k) = some g, n := n }
  have hfit : E.fits bs := ⟨fun k hk => if_neg fun h' => by have := hmem' k h'; omega, fun h0 g ⟨k, b, hk, _⟩ => by have := hmem' k (hmem k b hk); omega⟩
  have hst0 : ∀ g, stb prov w β (listH hl) g → E.st w β0 (listH hl) g := fun g ⟨h1, h2, h3⟩ => ⟨h1, .inl h2, fun k b hk => by rw [β0_at k (hmem k b hk)]; exact h3 k b hk⟩
  have s0 : Sim E (fun k => bs ≤ k) ⟨fun t => av args t, listH hl⟩ β0 { tmps := cs.toArray ++ Array.replicate (n - cs.toArray.size) undef, defers := [] } w := by
    refine ⟨fun t => ?_, ?_, rfl, fun k b hk => ?_, fun k m b b' g hk hm hg hg' => ?_, fun k hk => hfit.1 k hk, fun k b g hk hg => .inl ⟨k, b, hk, ?_⟩, rfl, rfl, rfl, Nat.le_refl _, fun _ _ _ => rfl, fun _ _ => rfl⟩
    · by_cases ht : t < args.length
      · have h1 := hv.2 t ht
        have e : (cs.toArray ++ Array.replicate (n - cs.toArray.size) undef).getD t undef = cv cs t := by
          have hl : t < cs.length := by rw [← hv.1]; exact ht
          rw [Array.getD_eq_getD_getElem?, Array.getElem?_append_left (by simpa using hl)]
          simp [cv, List.getD_eq_getElem?_getD]
        show SimV _ _ _ _ ((cs.toArray ++ Array.replicate (n - cs.toArray.size) undef).getD t undef)
        rw [e]
        exact (ha t ht).sound hst0 (fun k hk => β0_at k hk) h1
      · have : av args t = .any := by simp [av, List.getD_eq_getElem?_getD, Nat.le_of_not_lt ht]
        show SimV _ _ _ (av args t) _
        rw [this]
        exact .pure (.any _)
    · have := hv.1
      simp
      show _ = n
      omega
    · have h1 := hb k b hk
      rw [β0_at k (hmem k b hk)]
      exact (hbx _ (listH_mem hk)).sound hst0 (fun k hk => β0_at k hk) h1
    · change blkOf (β0 k) = some g at hg
      change blkOf (β0 m) = some g at hg'
      rw [β0_at k (hmem k b hk)] at hg
      rw [β0_at m (hmem m b' hm)] at hg'
      exact hinj k m b b' g hk hm hg hg'
    · rw [β0_at k (hmem k b hk)] at hg; exact hg
  refine h code hcomp F.ok F.mixed E _ _ w rfl hfit s0 _ fun e nx S βs a w' ⟨he, hs, m, hm, hrv, hbs⟩ s => ?_
  obtain ⟨c, hc, hv'⟩ := results_run (f := fn) s (by rw [F.rseq]; exact F.res) (by rw [F.rseq]; exact hs)
  rw [F.rseq] at hv'
  let β2 : Nat → Value := fun k => if k = nm then βs m else β k
  have hag : ∀ k, k ∈ nm :: hl.map (·.1) → β2 k = βs (rn nm m k) := by
    intro k hk
    by_cases e : k = nm
    · simp only [β2, rn, if_pos e]
    · have hk' : k ∈ hl.map (·.1) := by simpa [e] using hk
      simp only [β2, rn, if_neg e]
      have := s.grow k (by show β0 k ≠ undef; rw [β0_at k hk']; exact hdef k hk')
      rw [this]
      exact (β0_at k hk').symm
  have hdom : ∀ k b, updL (listH hl) ups k = some b → k ∈ nm :: hl.map (·.1) := by
    intro k b hk
    rcases updL_none hk with ⟨b', hb'⟩ | h'
    · exact List.mem_cons.2 (.inr (hmem k b' hb'))
    · obtain ⟨p, hp, rfl⟩ := List.mem_map.1 h'
      rcases hu p hp with e | e
      · exact List.mem_cons.2 (.inl e)
      · exact List.mem_cons.2 (.inr e)
  have hst2 : ∀ g, E.st w' βs S.h g → stb (fun g => prov g ∨ w.heap.size ≤ g) w' β2 (updL (listH hl) ups) g := by
    intro g ⟨h1, h2, h3⟩
    refine ⟨h1, h2, fun k b hk => ?_⟩
    obtain ⟨blk, hblk, _⟩ := hbs k b hk
    rw [hag k (hdom k b hk)]
    exact h3 _ _ hblk
  have fin : a.defers = [] ∧ ∃ v, (results fn a.tmps).run P w' = .ok v w' ∧ ∃ c β', Ending.returned v = .returned c ∧ w'.os = w.os ∧ w'.tape = w.tape ∧ w'.output = w.output ∧ w.heap.size ≤ w'.heap.size ∧ Grows β β' ∧ (∀ n, n ≠ nm → β' n = β n) ∧
      (∀ g, g < w.heap.size → (∀ n b, listH hl n = some b → n ∈ ups.map (·.1) → blkOf (β n) ≠ some g) → w'.heap[g]? = w.heap[g]?) ∧
      SimV (stb (fun g => prov g ∨ w.heap.size ≤ g) w' β' (updL (listH hl) ups)) β' w' r c ∧
      (∀ n b, updL (listH hl) ups n = some b → n ∈ ups.map (·.1) → BlkRep (stb (fun g => prov g ∨ w.heap.size ≤ g) w' β' (updL (listH hl) ups)) β' w' b (β' n) ∧
        ∀ g, blkOf (β' n) = some g → w.heap.size ≤ g ∨ ∃ m b', listH hl m = some b' ∧ m ∈ ups.map (·.1) ∧ blkOf (β m) = some g) ∧
      Inj β' (updL (listH hl) ups) := by
    refine ⟨s.df, c, hc, c, β2, rfl, s.os, s.tape, s.out, s.size, fun k hk => ?_, fun k hk => if_neg hk, fun g hg hno => s.keep g hg fun ⟨k, b, hk, hg'⟩ => ?_, hrv.sound hst2 hag hv', fun k b hk hku => ?_, fun k k' b b' g hk hk' hg hg' => ?_⟩
    · by_cases e : k = nm
      · subst e; exact absurd hβ hk
      · simp only [β2, if_neg e]
    · obtain ⟨p, hp, e⟩ := List.mem_map.1 (hmem k b hk)
      exact hno k b hk (e ▸ hall p hp) hg'
    · obtain ⟨blk, hblk, hv2⟩ := hbs k b hk
      rw [hag k (hdom k b hk)]
      refine ⟨hv2.sound hst2 hag (s.bl _ _ hblk), fun g hg => ?_⟩
      rcases s.mine _ _ g hblk hg with ⟨k', b', h1, h2⟩ | h1
      · obtain ⟨p, hp, e⟩ := List.mem_map.1 (hmem k' b' h1)
        exact .inr ⟨k', b', h1, e ▸ hall p hp, h2⟩
      · exact .inl h1
    · obtain ⟨blk, hblk, _⟩ := hbs k b hk
      obtain ⟨blk', hblk', _⟩ := hbs k' b' hk'
      rw [hag k (hdom k b hk)] at hg
      rw [hag k' (hdom k' b' hk')] at hg'
      have e := s.inj _ _ _ _ g hblk hblk' hg hg'
      have h1 := hdom k b hk
      have h2 := hdom k' b' hk'
      simp only [rn] at e
      by_cases e1 : k = nm <;> by_cases e2 : k' = nm
      · rw [e1, e2]
      · rw [if_pos e1, if_neg e2] at e
        have := hmem' k' (by simpa [e2] using h2)
        omega
      · rw [if_neg e1, if_pos e2] at e
        have := hmem' k (by simpa [e1] using h1)
        omega
      · rw [if_neg e1, if_neg e2] at e; exact e
  rcases he with rfl | rfl <;> exact fin
end Go.Ab
namespace Go.Ab
open Go.RowKit

theorem Ghost.nameBox {bs nx : Nat} {S : AState} (c sz : Nat) (e : TypeId) (hc : S.h c = some (.box [.nils])) (h0 : 0 < sz) : Ghost bs nx S (nx + 1) ⟨S.t, upd (upd S.h c (some (.box [.own nx]))) nx (some (.row [] sz e))⟩ := by
  intro E β a w hE s
  obtain ⟨g0, ty, xs, f1, f2, f3, f4, f5⟩ := s.bl c _ hc
  have hv := f5 0 (by simp)
  simp only [av_zero] at hv
  obtain ⟨ad, hcv⟩ := hv.nils_inv
  have hβ : β nx = undef := s.fresh nx (Nat.le_refl _)
  have hcn : c ≠ nx := fun e => by subst e; exact (s.bl c _ hc).ne hβ
  have hg : Grows β (upd β nx (.slice ad 0 0)) := fun n hn => by
    unfold upd; split
    · rename_i h; subst h; exact absurd hβ hn
    · rfl
  have hb0 : ∀ g, blkOf (Value.slice ad 0 0) ≠ some g := fun g => by cases ad <;> simp [blkOf]
  have hs := s.step (fr' := fun k => nx + 1 ≤ k) (S' := ⟨S.t, upd (upd S.h c (some (.box [.own nx]))) nx (some (.row [] sz e))⟩) (β' := upd β nx (.slice ad 0 0)) (a' := a) (w' := w) (fun g => blkOf (β c) = some g) (fun g h => ⟨c, _, hc, h⟩) rfl rfl rfl (Nat.le_refl _) (fun _ _ _ => rfl) hg
    (fun n hn => by unfold upd; rw [if_neg (by omega)]; exact s.fresh n (by omega)) (fun n b hb => ?_) ?_ rfl s.df (fun hst => fun q => (s.tm q).mono hg hst)
  · exact ⟨_, hs⟩
  · simp only [upd] at hb
    split at hb
    · rename_i h; subst h
      simp only [Option.some.injEq] at hb; subst hb
      refine .inr ⟨fun _ => ?_, fun g hg => by simp only [upd, if_true] at hg; exact absurd hg (hb0 g)⟩
      simp only [upd, if_true]
      exact ⟨[], by simp, h0, .inl ⟨ad, rfl, rfl, rfl⟩, by simp, fun i j hi => by simp at hi⟩
    · rename_i hnn
      split at hb
      · rename_i h; subst h
        simp only [Option.some.injEq] at hb; subst hb
        refine .inr ⟨fun hst => ?_, fun g hg => .inr (by simp only [upd, if_neg hnn] at hg; exact hg)⟩
        simp only [upd, if_neg hnn]
        refine ⟨g0, ty, xs, f1, f2, by simpa using f3, f4, fun j hj => ?_⟩
        have : j = 0 := by simp at hj; omega
        subst this
        rw [hcv]
        simp only [av_zero]
        exact .own nx (by simp [upd])
      · rename_i hnc
        refine .inl ⟨hb, fun g hg hg' => hnc (s.inj n c _ _ g hb hc hg hg')⟩
  · intro n m b1 b2 g h1 h2 g1 g2
    simp only [upd] at h1 h2 g1 g2
    by_cases e1 : n = nx
    · rw [if_pos e1] at g1; exact absurd g1 (hb0 g)
    · by_cases e2 : m = nx
      · rw [if_pos e2] at g2; exact absurd g2 (hb0 g)
      · simp only [if_neg e1, if_neg e2] at h1 h2 g1 g2
        have k1 : ∃ b, S.h n = some b := by
          split at h1
          · rename_i h; exact ⟨_, h ▸ hc⟩
          · exact ⟨_, h1⟩
        have k2 : ∃ b, S.h m = some b := by
          split at h2
          · rename_i h; exact ⟨_, h ▸ hc⟩
          · exact ⟨_, h2⟩
        obtain ⟨_, k1⟩ := k1
        obtain ⟨_, k2⟩ := k2
        exact s.inj n m _ _ g k1 k2 g1 g2
theorem BView.own1 {hd : Nat → Option Blk} {ρ : Nat → Nat} {nx b n : Nat} (hb : ρ n = b) (hn : n < nx) : BView hd ρ nx (.box [.own b]) (.box [.own n]) :=
  .box rfl fun j hj => by match j, hj with | 0, _ => exact .own hb hn
end Go.Ab
namespace Go.Proofs
open Go Go.Ab
set_option maxHeartbeats 4000000
set_option maxRecDepth 100000
attribute [local irreducible] Awp aops aopsL Go.Ab.Pure PureOwn
theorem ints_snoc (l : List Int) (s : Int) : ints l ++ [[.v (.int .i64 s)]] = ints (l ++ [s]) := by simp [ints]
theorem ints_one1 (s : Int) : [[AV.v (.int .i64 s)]] = ints [s] := rfl
theorem take_snoc {α : Type} (l : List α) (d : α) (i : Nat) (h : i < l.length) : l.take (i + 1) = l.take i ++ [l.getD i d] := by
  rw [List.take_add_one, List.getElem?_eq_getElem h]
  simp [List.getD_eq_getElem?_getD, h]
def endsL (l : List Sty) (fr : Int) : List Int := fr :: (l.filter fun q => decide (fr < q.b)).map (·.b)
theorem endsL_len (l : List Sty) (fr : Int) : (endsL l fr).length ≤ l.length + 1 := by
  have := List.length_filter_le (fun q : Sty => decide (fr < q.b)) l
  simp [endsL]; omega
theorem endsL_step (l : List Sty) (fr : Int) (i : Nat) (h : i < l.length) : endsL (l.take (i + 1)) fr = endsL (l.take i) fr ++ (if decide (fr < (l.getD i zeroSty).b) = true then [(l.getD i zeroSty).b] else []) := by
  rw [take_snoc l zeroSty i h]
  unfold endsL
  rw [List.filter_append, List.map_append, List.cons_append]
  congr 1
  congr 1
  by_cases hp : decide (fr < (l.getD i zeroSty).b) = true
  · rw [if_pos hp, List.filter_cons_of_pos (by exact hp)]; rfl
  · rw [if_neg hp, List.filter_cons_of_neg (by exact hp)]; rfl
def startsZ (l : List Sty) (fr : Int) : List Int := Lib.compact (sortI (endsL l fr))
theorem starts_ok (l : List Sty) (fr : Int) (hl : l.length < 900000) : PureOwn Tryz.prog 43 [.sl (stys l), .v (.int .i64 fr)] (ints (startsZ l fr)) 1 3 := by
  have e0 := ints_one1 fr
  refine fn_own Tryz.F43 (Nat.le_of_ble_eq_true rfl) ?_; unfold Tryz.ac43 AR AM AO
  repeat' (first
 | (apply Awp.sreg; (case hn => (simp only [List.length_cons, List.length_nil, Nat.reduceAdd] <;> rfl)))
 | (refine st_nil ?_)
 | (apply st_a; (case hc => rfl); (case he => (simp only [go_sem, *] <;> rfl)); (case hu => (simp only [updL_nil, updL_cons] <;> rfl)); (case hp => first | trivial | (simp; done)))
 | refine Awp.block ?_
 | refine Awp.seq ?_)
  refine Awp.loop (fun i : Nat => i ≤ l.length) 50 (fun i => mkS [(1, .v (.int .i64 fr)), (5, .own 0), (10, .sl (stys l)), (11, .v (.int .i64 l.length)), (12, .v (.int .i64 i))] [(0, .row (ints (endsL (l.take i) fr)) 1 3)]) (fun i => l.length - i) 0 (by omega) ?_ ?_
  · have e1 : endsL (l.take 0) fr = [fr] := rfl
    (apply Ghost.mk [(0, 2)] []; (case hdead => rfl); (case hinj => rfl); (case hV => (simp only [go_sem, *]) <;> (repeat' (first | refine And.intro ?_ ?_ | exact View.int (by first | rfl | omega | (simp; done) | (rw [wrap_i64] <;> (try simp only [Int.natCast_add]) <;> omega) | (simp [*]; done)) | exact .own rfl (by decide)))); (case hB => (simp only [go_sem, *]) <;> (repeat' (first | exact ⟨_, rfl, .rowE (by first | rfl | omega | (simp; done) | (rw [wrap_i64] <;> (try simp only [Int.natCast_add]) <;> omega) | (simp [*]; done))⟩))))
  · intro i hi
    by_cases hlt : i < l.length
    · have hlt' : (i : Int) < l.length := by omega
      have hat := stys_at l i hlt
      have hz : ((l.getD i zeroSty).cells).length = 8 := rfl
      have hst := endsL_step l fr i hlt
      have hln := endsL_len (l.take i) fr
      have htl : (l.take i).length = i := List.length_take_of_le hi
      cases hB : decide (fr < (l.getD i zeroSty).b)
      · rw [hB] at hst
        simp only [Bool.false_eq_true, if_false, List.append_nil] at hst
        repeat' (first
 | (apply Awp.sreg; (case hn => (simp only [List.length_cons, List.length_nil, Nat.reduceAdd] <;> rfl)))
 | (refine st_nil ?_)
 | (apply st_a; (case hc => rfl); (case he => (simp only [go_sem, *] <;> rfl)); (case hu => (simp only [updL_nil, updL_cons] <;> rfl)); (case hp => first | trivial | omega))
 | (apply Awp.reg; (case hn => (simp only [List.length_cons, List.length_nil, Nat.reduceAdd] <;> rfl)))
 | (refine Awp.skip ?_; try simp only [go_sem, *])
 | refine Awp.block ?_
 | (apply Awp.cond; (case hc => (simp only [go_sem, *] <;> rfl)); all_goals (intro hg; (try simp only [Bool.not_true, Bool.not_false, reduceCtorEq] at hg)))
 | refine Awp.seq ?_)
        refine ⟨i + 1, by omega, by omega, ?_⟩
        (apply Ghost.mk [] []; (case hdead => rfl); (case hinj => rfl); (case hV => (simp only [go_sem, *]) <;> (repeat' (first | refine And.intro ?_ ?_ | exact View.int (by first | rfl | omega | (simp; done) | (rw [wrap_i64] <;> (try simp only [Int.natCast_add]) <;> omega) | (simp [*]; done)) | exact .own rfl (by decide)))); (case hB => (simp only [go_sem, *]) <;> (repeat' (first | exact ⟨_, rfl, .rowE (by first | rfl | omega | (simp; done) | (rw [wrap_i64] <;> (try simp only [Int.natCast_add]) <;> omega) | (simp [*]; done))⟩))))
      · rw [hB] at hst
        simp only [if_true] at hst
        repeat' (first
 | (apply Awp.sreg; (case hn => (simp only [List.length_cons, List.length_nil, Nat.reduceAdd] <;> rfl)))
 | (refine st_nil ?_)
 | (apply st_a; (case hc => rfl); (case he => (simp only [go_sem, *] <;> rfl)); (case hu => (simp only [updL_nil, updL_cons] <;> rfl)); (case hp => first | trivial | omega | (simp; done) | (simp; omega)))
 | (apply Awp.reg; (case hn => (simp only [List.length_cons, List.length_nil, Nat.reduceAdd] <;> rfl)))
 | (refine Awp.skip ?_; try simp only [go_sem, *])
 | refine Awp.block ?_
 | (apply Awp.cond; (case hc => (simp only [go_sem, *] <;> rfl)); all_goals (intro hg; (try simp only [Bool.not_true, Bool.not_false, reduceCtorEq] at hg)))
 | refine Awp.seq ?_)
        refine ⟨i + 1, by omega, by omega, ?_⟩
        (apply Ghost.mk [(0, 65)] []; (case hdead => rfl); (case hinj => rfl); (case hV => (simp only [go_sem, *]) <;> (repeat' (first | refine And.intro ?_ ?_ | exact View.int (by first | rfl | exact ints_snoc _ _ | omega | (simp; done) | (rw [wrap_i64] <;> (try simp only [Int.natCast_add]) <;> omega) | (simp [*]; done)) | exact .own rfl (by decide)))); (case hB => (simp only [go_sem, *]) <;> (repeat' (first | exact ⟨_, rfl, .rowE (by first | rfl | exact ints_snoc _ _ | omega | (simp; done) | (rw [wrap_i64] <;> (try simp only [Int.natCast_add]) <;> omega) | (simp [*]; done))⟩))))
    · have hlt' : ¬ (i : Int) < l.length := by omega
      have e1 : l.take i = l := List.take_of_length_le (by omega)
      have hln := endsL_len l fr
      have hs1 := sort_cc (endsL l fr) 0 51 3 (by omega)
      have hs2 : (sortI (endsL l fr)).length < 1000000 := by rw [sortI_len]; omega
      repeat' (first
 | (apply Awp.sreg; (case hn => (simp only [List.length_cons, List.length_nil, Nat.reduceAdd] <;> rfl)))
 | (refine st_nil ?_)
 | (apply st_a; (case hc => rfl); (case he => (simp only [go_sem, *] <;> rfl)); (case hu => (simp only [updL_nil, updL_cons] <;> rfl)); (case hp => first | trivial))
 | (apply st_cc; (case hc => (simp only [go_sem, *] <;> rfl)); (case hcc => exact sort_cc (endsL l fr) _ _ 3 (by omega)); (case hh => (first | (simp only [List.mem_singleton, forall_eq]; first | (simp only [go_sem, *] <;> rfl) | (simp only [go_sem, *]; simp [ints])) | (intro p hp; cases hp; done) | (intro p hp; simp only [List.mem_cons, List.not_mem_nil, or_false] at hp; rcases hp with rfl | rfl | rfl | rfl | rfl | rfl | rfl <;> (simp only [go_sem, *] <;> rfl)) | (intro p hp; simp only [List.mem_cons, List.not_mem_nil, or_false] at hp; rcases hp with rfl | rfl | rfl | rfl <;> (simp only [go_sem, *] <;> rfl)))); (case hu => (first | (simp; done) | decide)); (case hm => (first | decide | (simp; done))); (case hw => (simp only [updL_nil, updL_cons] <;> rfl)))
 | (apply st_cc; (case hc => (simp only [go_sem, *] <;> rfl)); (case hcc => exact compact_cc (sortI (endsL l fr)) _ _ 3 (by decide) hs2); (case hh => (first | (simp only [List.mem_singleton, forall_eq]; first | (simp only [go_sem, *] <;> rfl) | (simp only [go_sem, *]; simp [ints])) | (intro p hp; cases hp; done) | (intro p hp; simp only [List.mem_cons, List.not_mem_nil, or_false] at hp; rcases hp with rfl | rfl | rfl | rfl | rfl | rfl | rfl <;> (simp only [go_sem, *] <;> rfl)) | (intro p hp; simp only [List.mem_cons, List.not_mem_nil, or_false] at hp; rcases hp with rfl | rfl | rfl | rfl <;> (simp only [go_sem, *] <;> rfl)))); (case hu => (first | (simp; done) | decide)); (case hm => (first | decide | (simp; done))); (case hw => (simp only [updL_nil, updL_cons] <;> rfl)))
 | (refine Awp.ret ?_; try simp only [go_sem, *])
 | (refine Awp.exit ?_; try simp only [go_sem, *])
 | (apply Awp.cond; (case hc => (simp only [go_sem, *] <;> rfl)); all_goals (intro hg; (try simp only [Bool.not_true, Bool.not_false, reduceCtorEq] at hg)))
 | refine Awp.seq ?_)
      exact ⟨54, rfl, rfl⟩
def Sty.at_ (x : Sty) (X Y : Int) : Sty := ⟨x.item, x.bay, X, Y, x.len, x.wid, x.a, x.b⟩
end Go.Proofs
namespace Go.Ab
open Go

theorem compact_asc (l : List Int) (hs : l.Pairwise (· ≤ ·)) : ∀ m, m ≤ l.length →
    (Lib.compactUpTo l.toArray m).Pairwise (· < ·) ∧ ∀ x, x ∈ Lib.compactUpTo l.toArray m ↔ ∃ j, j < m ∧ l.toArray[j]! = x := by
  have le : ∀ i j, i ≤ j → j < l.length → l.toArray[i]! ≤ l.toArray[j]! := by
    intro i j hij hj
    have hi : i < l.length := by omega
    have e1 : l.toArray[i]! = l[i] := by simp [getElem!_pos, hi]
    have e2 : l.toArray[j]! = l[j] := by simp [getElem!_pos, hj]
    rw [e1, e2]
    rcases Nat.lt_or_ge i j with h | h
    · exact List.pairwise_iff_getElem.1 hs i j hi hj h
    · obtain rfl : i = j := by omega
      exact Int.le_refl _
  intro m
  induction m with
  | zero => intro _; simp [Lib.compactUpTo]
  | succ m ih =>
    intro hm
    obtain ⟨h1, h2⟩ := ih (by omega)
    rw [Lib.compactUpTo_succ]
    by_cases hk : Lib.keeps l.toArray m = true
    · rw [if_pos hk]
      refine ⟨?_, fun x => ?_⟩
      · rw [List.pairwise_append]
        refine ⟨h1, by simp, fun x hx y hy => ?_⟩
        obtain rfl : y = l.toArray[m]! := by simpa using hy
        obtain ⟨j, hj, rfl⟩ := (h2 x).1 hx
        simp only [Lib.keeps, decide_eq_true_eq] at hk
        rcases hk with hk | hk
        · omega
        · have a1 := le j (m - 1) (by omega) (by omega)
          have a2 := le (m - 1) m (by omega) (by omega)
          omega
      · rw [List.mem_append, h2]
        constructor
        · rintro (⟨j, hj, e⟩ | h)
          · exact ⟨j, by omega, e⟩
          · exact ⟨m, by omega, by simpa using (List.mem_singleton.1 h).symm⟩
        · rintro ⟨j, hj, e⟩
          rcases Nat.lt_or_ge j m with h | h
          · exact .inl ⟨j, h, e⟩
          · obtain rfl : j = m := by omega
            exact .inr (by simp [← e])
    · rw [if_neg hk, List.append_nil]
      refine ⟨h1, fun x => ?_⟩
      rw [h2]
      constructor
      · rintro ⟨j, hj, e⟩; exact ⟨j, by omega, e⟩
      · rintro ⟨j, hj, e⟩
        rcases Nat.lt_or_ge j m with h | h
        · exact ⟨j, h, e⟩
        · obtain rfl : j = m := by omega
          simp only [Lib.keeps, decide_eq_true_eq, not_or, Decidable.not_not] at hk
          exact ⟨j - 1, by omega, by rw [← hk.2, e]⟩

theorem compact_sorted (l : List Int) (hs : l.Pairwise (· ≤ ·)) : (Lib.compact l).Pairwise (· < ·) ∧ ∀ x, x ∈ Lib.compact l ↔ x ∈ l := by
  obtain ⟨h1, h2⟩ := compact_asc l hs l.length (Nat.le_refl _)
  refine ⟨h1, fun x => ?_⟩
  unfold Lib.compact
  rw [h2]
  constructor
  · rintro ⟨j, hj, rfl⟩
    simp [getElem!_pos, hj]
  · intro hx
    obtain ⟨j, hj, e⟩ := List.getElem_of_mem hx
    exact ⟨j, hj, by simp [getElem!_pos, hj, e]⟩

def sortZ (l : List Int) : List Int := l.mergeSort fun x y => decide (x ≤ y)
theorem sortZ_asc (l : List Int) : (sortZ l).Pairwise (· ≤ ·) := by
  have := List.pairwise_mergeSort (le := fun x y : Int => decide (x ≤ y)) (by intro a b c; simp; omega) (by intro a b; simp; omega) l
  simpa [sortZ] using this
theorem mem_sortZ (l : List Int) (x : Int) : x ∈ sortZ l ↔ x ∈ l := (List.mergeSort_perm l _).mem_iff

/-- The least number of a list, from a first one on. -/
def leastZ (a : Int) (l : List Int) : Int := l.foldl min a
/-- What is taken out, least first. -/
def takeZ : Nat → List Int → List Int
  | 0, _ => []
  | _ + 1, [] => []
  | k + 1, a :: l => leastZ a (a :: l) :: takeZ k ((a :: l).filter fun x => x != leastZ a (a :: l))

end Go.Ab
namespace Go.Ab
open Go

theorem find_first {P : Int → Bool} {c : List Int} {k : Nat} (hk : k < c.length) (hp : P (c.getD k 0) = true) (hj : ∀ j, j < k → P (c.getD j 0) = false) : c.find? P = some (c.getD k 0) := by
  rw [List.find?_eq_some_iff_getElem]
  refine ⟨hp, k, hk, by simp [List.getD_eq_getElem?_getD, hk], fun j hjk => ?_⟩
  have hjl : j < c.length := by omega
  have := hj j hjk
  rw [List.getD_eq_getElem?_getD, List.getElem?_eq_getElem hjl, Option.getD_some] at this
  simp [this]

theorem find_no {P : Int → Bool} {c : List Int} (hj : ∀ j, j < c.length → P (c.getD j 0) = false) : c.find? P = none := by
  rw [List.find?_eq_none]
  intro x hx
  obtain ⟨j, hjl, rfl⟩ := List.getElem_of_mem hx
  have := hj j hjl
  rw [List.getD_eq_getElem?_getD, List.getElem?_eq_getElem hjl, Option.getD_some] at this
  simp [this]

def scanE (P : Int → Int → Bool) (lw c : List Int) : Option (Int × Int) := lw.findSome? fun y => (c.find? fun x => P x y).map fun x => (x, y)
theorem scan_hit {P : Int → Int → Bool} {lw c : List Int} {i : Nat} {o : Int} (hi : i < lw.length) (hj : ∀ j, j < i → (c.find? fun x => P x (lw.getD j 0)) = none) (h : (c.find? fun x => P x (lw.getD i 0)) = some o) : scanE P lw c = some (o, lw.getD i 0) := by
  have e : lw = lw.take i ++ lw.getD i 0 :: lw.drop (i + 1) := by
    have h1 : lw.getD i 0 = lw[i] := by simp [List.getD_eq_getElem?_getD, hi]
    rw [h1, List.getElem_cons_drop, List.take_append_drop]
  have hn : (lw.take i).findSome? (fun y => (c.find? fun x => P x y).map fun x => (x, y)) = none := by
    rw [List.findSome?_eq_none_iff]
    intro y hy
    obtain ⟨j, hjl, rfl⟩ := List.getElem_of_mem hy
    have hji : j < i := by simp at hjl; omega
    have := hj j hji
    have h2 : lw.getD j 0 = (lw.take i)[j] := by
      have : j < lw.length := by omega
      simp [List.getD_eq_getElem?_getD, this]
    rw [h2] at this
    rw [this]; rfl
  unfold scanE
  rw [e, List.findSome?_append, hn, Option.none_or, List.findSome?_cons]
  rw [← e, h]
  rfl
theorem scan_no {P : Int → Int → Bool} {lw c : List Int} {i : Nat} (hi : lw.length ≤ i) (hj : ∀ j, j < i → (c.find? fun x => P x (lw.getD j 0)) = none) : scanE P lw c = none := by
  unfold scanE
  rw [List.findSome?_eq_none_iff]
  intro y hy
  obtain ⟨j, hjl, rfl⟩ := List.getElem_of_mem hy
  have := hj j (by omega)
  rw [List.getD_eq_getElem?_getD, List.getElem?_eq_getElem hjl, Option.getD_some] at this
  rw [this]; rfl
end Go.Ab
namespace Go.Proofs
open Go Go.Ab
theorem fs_hit {α β : Type} {f : α → Option β} {l : List α} {d : α} {i : Nat} {b : β} (hi : i < l.length) (hj : ∀ j, j < i → f (l.getD j d) = none) (h : f (l.getD i d) = some b) : l.findSome? f = some b := by
  have h1 : l.getD i d = l[i] := by simp [List.getD_eq_getElem?_getD, hi]
  have e : l = l.take i ++ l[i] :: l.drop (i + 1) := by rw [List.getElem_cons_drop, List.take_append_drop]
  have hn : (l.take i).findSome? f = none := by
    rw [List.findSome?_eq_none_iff]
    intro y hy
    obtain ⟨j, hjl, rfl⟩ := List.getElem_of_mem hy
    have hji : j < i := by simp at hjl; omega
    have := hj j hji
    have hjll : j < l.length := by omega
    have h2 : l.getD j d = (l.take i)[j] := by simp [List.getD_eq_getElem?_getD, hjll]
    rwa [h2] at this
  rw [h1] at h
  rw [e, List.findSome?_append, hn, Option.none_or, List.findSome?_cons, h]
theorem fs_no {α β : Type} {f : α → Option β} {l : List α} {d : α} {i : Nat} (hi : l.length ≤ i) (hj : ∀ j, j < i → f (l.getD j d) = none) : l.findSome? f = none := by
  rw [List.findSome?_eq_none_iff]
  intro y hy
  obtain ⟨j, hjl, rfl⟩ := List.getElem_of_mem hy
  have := hj j (by omega)
  rwa [List.getD_eq_getElem?_getD, List.getElem?_eq_getElem hjl, Option.getD_some] at this
theorem firstE_zero (f : Nat → Int) (n : Nat) : firstE f n = 0 ↔ ∀ i, i < n → f i = 0 := by
  constructor
  · intro h i hi
    unfold firstE at h
    cases hf : (List.range n).find? (fun i => f i != 0) with
    | none =>
      rw [List.find?_eq_none] at hf
      have := hf i (List.mem_range.2 hi)
      simpa using this
    | some j =>
      rw [hf] at h
      have := List.find?_some hf
      simp only [bne_iff_ne, ne_eq] at this
      exact absurd h this
  · intro h
    exact firstE_end (Nat.le_refl n) fun j hj => h j hj
def good (bs : List By) (x : Sty) : Bool := idB x.item && (findB bs x.bay).2 && !rngB x && !offB (findB bs x.bay).1 x
theorem stayE_zero (bs : List By) (l : List Sty) (x : Sty) : stayE bs l x = 0 ↔ good bs x = true ∧ ∀ q ∈ l, overB x q = false := by
  unfold stayE good
  cases idB x.item <;> cases (findB bs x.bay).2 <;> cases rngB x <;> cases offB (findB bs x.bay).1 x <;> simp
theorem cutB_symm (a la b lb : Int) : cutB a la b lb = cutB b lb a la := by unfold cutB; rw [Bool.and_comm]
theorem overB_symm (p q : Sty) : overB p q = overB q p := by
  unfold overB
  rw [cutB_symm p.x, cutB_symm p.y, Bool.beq_comm]
  cases (q.bay.toList == p.bay.toList) <;> cases decide (p.a < q.b) <;> cases decide (q.a < p.b) <;> rfl
def apart (p q : Sty) : Prop := overB p q = false
def baysOk (bs : List By) : Prop := bs.length ≤ 8 ∧ ∀ i, i < bs.length → bayAt bs i = 0
theorem checkE_iff (bs : List By) (l : List Sty) : checkE bs l = 0 ↔ baysOk bs ∧ l.length ≤ 128 ∧ (∀ x ∈ l, good bs x = true) ∧ l.Pairwise apart := by
  have hst : firstE (fun i => stayE bs (l.take i) (l.getD i zeroSty)) l.length = 0 ↔ (∀ x ∈ l, good bs x = true) ∧ l.Pairwise apart := by
    rw [firstE_zero]
    have hget : ∀ i (h : i < l.length), l.getD i zeroSty = l[i] := fun i h => by simp [List.getD_eq_getElem?_getD, h]
    constructor
    · intro h
      refine ⟨fun x hx => ?_, List.pairwise_iff_getElem.2 fun i j hi hj hij => ?_⟩
      · obtain ⟨i, hi, rfl⟩ := List.getElem_of_mem hx
        have := ((stayE_zero _ _ _).1 (h i hi)).1
        rwa [hget i hi] at this
      · have := ((stayE_zero _ _ _).1 (h j hj)).2 l[i] (List.mem_take_iff_getElem.2 ⟨i, by omega, rfl⟩)
        rw [hget j hj, overB_symm] at this
        exact this
    · rintro ⟨h1, h2⟩ i hi
      rw [stayE_zero, hget i hi]
      refine ⟨h1 _ (List.getElem_mem hi), fun q hq => ?_⟩
      obtain ⟨j, hj, rfl⟩ := List.mem_take_iff_getElem.1 hq
      have := List.pairwise_iff_getElem.1 h2 j i (by omega) hi (by omega)
      rw [overB_symm]
      exact this
  unfold checkE
  by_cases h1 : bs.length ≤ 8 ∧ l.length ≤ 128
  · rw [if_neg (by simp; omega)]
    by_cases h2 : firstE (bayAt bs) bs.length = 0
    · rw [if_neg (by rw [h2]; simp), hst]
      exact ⟨fun h => ⟨⟨h1.1, (firstE_zero _ _).1 h2⟩, h1.2, h⟩, fun h => h.2.2⟩
    · rw [if_pos (by simpa using h2)]
      exact ⟨fun h => absurd h h2, fun h => absurd ((firstE_zero _ _).2 h.1.2) h2⟩
  · rw [if_pos (by simp; omega)]
    exact ⟨fun h => by simp at h, fun h => absurd ⟨h.1.1, h.2.1⟩ h1⟩
theorem exists_floor (n : Int) : ∀ (L : List Int), (∃ a ∈ L, a ≤ n) → ∃ a ∈ L, a ≤ n ∧ ∀ b ∈ L, b ≤ n → b ≤ a
  | [], h => by obtain ⟨a, ha, _⟩ := h; simp at ha
  | c :: L, h => by
    by_cases hL : ∃ a ∈ L, a ≤ n
    · obtain ⟨a, ha, hn, hm⟩ := exists_floor n L hL
      by_cases hc : c ≤ n ∧ a ≤ c
      · exact ⟨c, by simp, hc.1, fun b hb hbn => by
          rcases List.mem_cons.1 hb with rfl | hb
          · exact Int.le_refl _
          · have := hm b hb hbn; omega⟩
      · exact ⟨a, by simp [ha], hn, fun b hb hbn => by
          rcases List.mem_cons.1 hb with rfl | hb
          · omega
          · exact hm b hb hbn⟩
    · obtain ⟨a, ha, hn⟩ := h
      rcases List.mem_cons.1 ha with rfl | ha
      · exact ⟨a, by simp, hn, fun b hb hbn => by
          rcases List.mem_cons.1 hb with rfl | hb
          · exact Int.le_refl _
          · exact absurd ⟨b, hb, hbn⟩ hL⟩
      · exact absurd ⟨a, ha, hn⟩ hL
theorem mem_cs (L : List Int) (Y : Int) : Y ∈ Lib.compact (sortI L) ↔ Y ∈ L := by
  show Y ∈ Lib.compact (sortZ L) ↔ Y ∈ L
  exact ((compact_sorted (sortZ L) (sortZ_asc _)).2 Y).trans (mem_sortZ _ _)
theorem starts_lt (l : List Sty) (fr : Int) : (startsZ l fr).Pairwise (· < ·) := by
  show (Lib.compact (sortZ (endsL l fr))).Pairwise (· < ·)
  exact (compact_sorted (sortZ _) (sortZ_asc _)).1
theorem scanE_some {P : Int → Int → Bool} {lw c : List Int} {o : Int × Int} (h : scanE P lw c = some o) : P o.1 o.2 = true := by
  unfold scanE at h
  obtain ⟨y, hy, hf⟩ := List.exists_of_findSome?_eq_some h
  cases hg : c.find? (fun x => P x y) with
  | none => rw [hg] at hf; simp at hf
  | some z =>
    rw [hg] at hf
    simp only [Option.map_some, Option.some.injEq] at hf
    subst hf
    exact List.find?_some (p := fun x => P x y) hg
theorem scanE_is {P : Int → Int → Bool} {lw c : List Int} {X Y : Int} (hX : X ∈ c) (hY : Y ∈ lw) (h : P X Y = true) : ∃ o, scanE P lw c = some o := by
  unfold scanE
  have : (lw.findSome? fun y => (c.find? fun x => P x y).map fun x => (x, y)).isSome = true := by
    rw [List.findSome?_isSome_iff]
    refine ⟨Y, hY, ?_⟩
    rw [Option.isSome_map, List.find?_isSome]
    exact ⟨X, hX, h⟩
  exact Option.isSome_iff_exists.1 this
theorem bay_wid {bs : List By} (h : baysOk bs) {nm : ByteArray} (hf : (findB bs nm).2 = true) : 1 ≤ (findB bs nm).1.len ∧ (findB bs nm).1.len ≤ 524288 ∧ 1 ≤ (findB bs nm).1.wid ∧ (findB bs nm).1.wid ≤ 524288 := by
  unfold findB at hf ⊢
  split at hf
  · simp at hf
  · rename_i hi
    rw [if_neg hi]
    dsimp only
    unfold idxF at hi ⊢
    split at hi
    · rename_i hlt
      rw [if_pos hlt]
      have hb := h.2 _ hlt
      rw [Int.toNat_natCast]
      generalize bs.findIdx _ = i at *
      unfold bayAt sideB at hb
      generalize bs.getD i zeroBy = q at *
      split at hb
      · simp at hb
      · split at hb
        · simp at hb
        · rename_i h2
          simp only [Bool.or_eq_true, Bool.not_eq_true', Bool.and_eq_false_iff, decide_eq_false_iff_not, not_or, Classical.not_not] at h2
          omega
    · simp at hi
theorem good_box {bs : List By} (hb : baysOk bs) {x : Sty} (h : good bs x = true) : 1 ≤ x.len ∧ 1 ≤ x.wid ∧ 0 ≤ x.x ∧ 0 ≤ x.y ∧ x.x + x.len ≤ (findB bs x.bay).1.len ∧ x.y + x.wid ≤ (findB bs x.bay).1.wid ∧ x.x + x.len ≤ 524288 ∧ x.y + x.wid ≤ 524288 ∧ 0 ≤ x.a ∧ x.a < x.b ∧ x.b ≤ 1048576 ∧ (findB bs x.bay).2 = true ∧ idB x.item = true := by
  unfold good at h
  simp only [Bool.and_eq_true, Bool.not_eq_true'] at h
  obtain ⟨⟨⟨h1, h2⟩, h3⟩, h4⟩ := h
  have hw := bay_wid hb h2
  unfold rngB sideB at h3
  unfold offB at h4
  generalize (findB bs x.bay).1 = q at *
  simp only [Bool.or_eq_false_iff, Bool.not_eq_false', Bool.and_eq_true, decide_eq_true_eq, decide_eq_false_iff_not] at h3 h4
  have e1 : IntKind.i64.wrap (q.len - x.len) = q.len - x.len := wrap_i64 (by omega) (by omega)
  have e2 : IntKind.i64.wrap (q.wid - x.wid) = q.wid - x.wid := wrap_i64 (by omega) (by omega)
  rw [e1, e2] at h4
  refine ⟨by omega, by omega, by omega, by omega, by omega, by omega, by omega, by omega, by omega, by omega, by omega, h2, h1⟩
theorem good_iff {bs : List By} (hb : baysOk bs) {x : Sty} : good bs x = true ↔ idB x.item = true ∧ (findB bs x.bay).2 = true ∧ 1 ≤ x.len ∧ 1 ≤ x.wid ∧ x.len ≤ 524288 ∧ x.wid ≤ 524288 ∧ 0 ≤ x.x ∧ 0 ≤ x.y ∧ x.x + x.len ≤ (findB bs x.bay).1.len ∧ x.y + x.wid ≤ (findB bs x.bay).1.wid ∧ 0 ≤ x.a ∧ x.a < x.b ∧ x.b ≤ 1048576 := by
  constructor
  · intro h
    obtain ⟨a1, a2, a3, a4, a5, a6, a7, a8, a9, a10, a11, a12, a13⟩ := good_box hb h
    exact ⟨a13, a12, a1, a2, by omega, by omega, a3, a4, a5, a6, a9, a10, a11⟩
  · rintro ⟨h1, h2, h3⟩
    have hw := bay_wid hb h2
    unfold good
    rw [h1, h2]
    unfold rngB sideB offB
    generalize (findB bs x.bay).1 = q at *
    have e1 : IntKind.i64.wrap (q.len - x.len) = q.len - x.len := wrap_i64 (by omega) (by omega)
    have e2 : IntKind.i64.wrap (q.wid - x.wid) = q.wid - x.wid := wrap_i64 (by omega) (by omega)
    rw [e1, e2]
    simp only [Bool.and_eq_true, Bool.or_eq_false_iff, Bool.not_eq_true', Bool.not_eq_false', decide_eq_true_eq, decide_eq_false_iff_not, true_and]
    omega
theorem cutB_plain {a la b lb : Int} (h1 : 0 ≤ a) (h2 : a + la ≤ 1048576) (h3 : 0 ≤ la) (h4 : 0 ≤ b) (h5 : b + lb ≤ 1048576) (h6 : 0 ≤ lb) : cutB a la b lb = true ↔ a < b + lb ∧ b < a + la := by
  unfold cutB
  rw [wrap_i64 (n := b + lb) (by omega) (by omega), wrap_i64 (n := a + la) (by omega) (by omega)]
  simp only [Bool.and_eq_true, decide_eq_true_eq]
theorem over_iff {bs : List By} (hb : baysOk bs) {p q : Sty} (hp : good bs p = true) (hq : good bs q = true) : overB p q = true ↔ p.bay.toList = q.bay.toList ∧ p.a < q.b ∧ q.a < p.b ∧ p.x < q.x + q.len ∧ q.x < p.x + p.len ∧ p.y < q.y + q.wid ∧ q.y < p.y + p.wid := by
  have g1 := good_box hb hp
  have g2 := good_box hb hq
  unfold overB
  simp only [Bool.and_eq_true, beq_iff_eq, decide_eq_true_eq]
  rw [cutB_plain (by omega) (by omega) (by omega) (by omega) (by omega) (by omega), cutB_plain (by omega) (by omega) (by omega) (by omega) (by omega) (by omega)]
  constructor
  · rintro ⟨⟨⟨⟨h1, h2⟩, h3⟩, h4, h5⟩, h6, h7⟩; exact ⟨h1, h2, h3, h4, h5, h6, h7⟩
  · rintro ⟨h1, h2, h3, h4, h5, h6, h7⟩; exact ⟨⟨⟨⟨h1, h2⟩, h3⟩, h4, h5⟩, h6, h7⟩
theorem findB_mem {bs : List By} {nm : ByteArray} (hf : (findB bs nm).2 = true) : ∃ q ∈ bs, q.nm.toList = nm.toList := by
  unfold findB at hf
  split at hf
  · simp at hf
  · rename_i hi
    unfold idxF at hi
    split at hi
    · rename_i hlt
      refine ⟨bs[bs.findIdx (fun q : By => q.nm.toList == nm.toList)], List.getElem_mem _, ?_⟩
      have := List.findIdx_getElem (xs := bs) (p := fun q : By => q.nm.toList == nm.toList) (w := hlt)
      simpa using this
    · simp at hi
theorem toList_inj {a b : ByteArray} (h : a.toList = b.toList) : a = b := by
  have e : ∀ c : ByteArray, c.toList = c.data.toList := fun c => by
    rw [ByteArray.toList_eq]
  rw [e, e] at h
  obtain ⟨a⟩ := a; obtain ⟨b⟩ := b; obtain ⟨a⟩ := a; obtain ⟨b⟩ := b
  simp only at h
  rw [h]
end Go.Proofs
