import Derived.Test.YtnpaijljdkpiiaaGreatDoorPCB
import Derived.Test.YtnpaijljdkpiiaaGreatDoorChecked
import Derived.Shelf.Small.Bits
import Derived.Shelf.Small.Wraps
import Derived.Shelf.Utf8.RuneCount
import Derived.Shelf.Strconv.Itoa0
import Derived.Shelf.Strings.Search1
import Derived.Shelf.Strings.Search2
import Derived.Shelf.Strings.Search3
import Derived.Shelf.Strings.Count
import Derived.Shelf.LaysM
import Derived.Shelf.Strings.Shaped
import Derived.Shelf.Sort.Plain
import Derived.Shelf.Strings.Split
import Derived.Shelf.Strings.SplitShaped
import Derived.Shelf.Unicode.Decode
import Derived.Shelf.Strings.RuneCount
import Derived.Shelf.Strings.Explode
import Derived.Shelf.Unicode.DecodeSlow
import Derived.Shelf.Unicode.DecodeAny
import Derived.Ground.Names2Prog
import Derived.Shelf.Slices.CompactI
import Derived.Shelf.Slices.SearchI
import Derived.Shelf.Slices.Cells
import Derived.Shelf.Slices.In.SortNone
import Derived.Test.YtnpaijljdkpiiaaGreatDoorProg
import Derived.Sort.OwnSortedInts
set_option linter.unusedVariables false
set_option linter.unusedSimpArgs false
namespace Go.Proofs
open Go Go.Ab
def AO (d : Nat) (o : AOp) : AOper := ⟨some d, o, none, []⟩
def AM (d n : Nat) : AOper := AO d (.mv (.t n))
def AR := ACode.region false
def Tryz.ac5 : ACode := ((AR [AO 6 (.mv (.c (.bool false)))]).seq (((AR [AM 7 0, AO 8 (.call 9 [.t 7, .c (.int .i64 (20))]), AO 9 (.un .not (.t 8)), AM 10 9, ⟨some 11, .mv (.t 1), some (10, false), []⟩, ⟨some 12, .mv (.t 2), some (10, false), []⟩, ⟨some 13, .call 16 [.t 11, .t 12], some (10, false), []⟩, ⟨some 14, .un .not (.t 13), some (10, false), []⟩, AO 15 (.pick (.t 10) (.c (.bool true)) (.t 14))]).seq (ACode.cond (.t 15) ((AR [AO 16 (.call 10 []), AM 6 16]).seq ACode.ret) ACode.skip)).seq ((AR [AM 17 0, AM 18 1, AM 19 2, AO 20 (.call 20 [.t 17, .t 18, .t 19]), AM 21 0, AM 22 1, AM 23 2, AO 24 (.call 21 [.t 21, .t 22, .t 23]), AO 25 (.bin .eql (.t 20) (.t 24)), AM 26 25, ⟨some 27, .mv (.t 2), some (26, true), []⟩, ⟨some 28, .call 22 [.t 27], some (26, true), []⟩, ⟨some 29, .mv (.t 2), some (26, true), []⟩, ⟨some 30, .call 23 [.t 29], some (26, true), []⟩, ⟨some 31, .bin .eql (.t 28) (.t 30), some (26, true), []⟩, AO 32 (.pick (.t 26) (.t 31) (.c (.bool false))), AM 33 32, ⟨some 34, .call 10 [], some (33, true), []⟩, AO 35 (.pick (.t 33) (.t 34) (.c (.bool false))), AM 6 35]).seq ACode.ret)))
theorem Tryz.F5 : FnFacts Tryz.prog 5 Tryz.f5 Tryz.ac5 36 [.tmp 6] := ⟨Tryz.func5, by kernel_rfl, by kernel_rfl, by kernel_rfl, by kernel_rfl, by kernel_rfl, by kernel_rfl, by kernel_rfl⟩
def Tryz.ac9 : ACode := ((AR [AO 4 (.mv (.c (.bool false)))]).seq (((AR [AM 6 0, AO 7 (.len (.t 6)), AM 8 1, AO 9 (.bin .gtr (.t 7) (.t 8))]).seq (ACode.cond (.t 9) ((AR [AO 4 (.mv (.c (.bool false)))]).seq ACode.ret) ACode.skip)).seq (((AR [AO 5 (.mv (.c (.int .i64 (0))))]).seq (ACode.block 0 (((AR [AM 10 5, AM 11 0, AO 12 (.len (.t 11)), AO 13 (.bin .lss (.t 10) (.t 12))]).seq (ACode.cond (.t 13) ACode.skip (ACode.exit 0))).seq ((ACode.block 1 ((AR [AM 16 0, AM 17 5, AO 18 (.idxAddr 5 (.t 16) (.t 17)), AO 19 (.fieldAddr 0 (.t 18)), AO 20 (.load 1 false (.t 19)), AO 21 (.lenStr (.t 20)), AO 22 (.bin .gtr (.t 21) (.c (.int .i64 (100)))), AM 23 22, ⟨some 24, .mv (.t 0), some (23, false), []⟩, ⟨some 25, .mv (.t 5), some (23, false), []⟩, ⟨some 26, .idxAddr 5 (.t 24) (.t 25), some (23, false), []⟩, ⟨some 27, .fieldAddr 4 (.t 26), some (23, false), []⟩, ⟨some 28, .load 1 false (.t 27), some (23, false), []⟩, ⟨some 29, .len (.t 28), some (23, false), []⟩, ⟨some 30, .bin .gtr (.t 29) (.c (.int .i64 (20))), some (23, false), []⟩, AO 31 (.pick (.t 23) (.c (.bool true)) (.t 30))]).seq (ACode.cond (.t 31) ((AR [AO 4 (.mv (.c (.bool false)))]).seq ACode.ret) ACode.skip))).seq (AR [AM 14 5, AO 15 (.bin .add (.t 14) (.c (.int .i64 (1)))), AM 5 15]))).loop)).seq ((AR [AO 4 (.mv (.c (.bool true)))]).seq ACode.ret))))
theorem Tryz.F9 : FnFacts Tryz.prog 9 Tryz.f9 Tryz.ac9 32 [.tmp 4] := ⟨Tryz.func9, by kernel_rfl, by kernel_rfl, by kernel_rfl, by kernel_rfl, by kernel_rfl, by kernel_rfl, by kernel_rfl⟩
def Tryz.ac10 : ACode := ((AR [AO 0 (.mv (.c (.bool false)))]).seq ((AR [AO 10 (.build [.string ⟨⟨[]⟩⟩, .int .i64 (0), .int .i64 (0)] [(0, 1, .c (.string ⟨⟨[(72 : UInt8)]⟩⟩)), (1, 1, .c (.int .i64 (20))), (2, 1, .c (.int .i64 (10)))]), AO 11 (.buildSlice 50 3 [.t 10]), AM 1 11]).seq ((AR [AO 12 (.build [.string ⟨⟨[]⟩⟩, .int .i64 (0), .int .i64 (0), .int .i64 (0), .slice none 0 0] [(0, 1, .c (.string ⟨⟨[(98 : UInt8)]⟩⟩)), (1, 1, .c (.int .i64 (3))), (2, 1, .c (.int .i64 (10))), (3, 1, .c (.int .i64 (10)))]), AO 13 (.buildSlice 9 1 [.c (.string ⟨⟨[(98 : UInt8)]⟩⟩)]), AO 14 (.build [.string ⟨⟨[]⟩⟩, .int .i64 (0), .int .i64 (0), .int .i64 (0), .slice none 0 0] [(0, 1, .c (.string ⟨⟨[(97 : UInt8)]⟩⟩)), (1, 1, .c (.int .i64 (5))), (2, 1, .c (.int .i64 (12))), (3, 1, .c (.int .i64 (10))), (4, 1, .t 13)]), AO 15 (.build [.string ⟨⟨[]⟩⟩, .int .i64 (0), .int .i64 (0), .int .i64 (0), .slice none 0 0] [(0, 1, .c (.string ⟨⟨[(99 : UInt8)]⟩⟩)), (1, 1, .c (.int .i64 (2))), (2, 1, .c (.int .i64 (10))), (3, 1, .c (.int .i64 (10)))]), AO 16 (.buildSlice 53 5 [.t 12, .t 14, .t 15]), AM 2 16]).seq ((AR [AM 18 2, AO 19 (.call 11 [.t 18]), AM 17 19, AO 20 (.extract (.t 17) 0), AO 21 (.extract (.t 17) 1), AM 3 20, AM 4 21]).seq ((AR [AM 23 2, AM 24 1, AO 25 (.call 17 [.t 23, .t 24]), AM 22 25, AO 26 (.extract (.t 22) 0), AO 27 (.extract (.t 22) 1), AM 5 26, AM 6 27]).seq ((AR [AM 29 2, AO 30 (.call 13 [.t 29]), AM 28 30, AO 31 (.extract (.t 28) 0), AO 32 (.extract (.t 28) 1), AM 7 31, AM 8 32]).seq ((AR [AO 33 (.build [.int .i64 (0), .int .i64 (0)] [(0, 1, .c (.int .i64 (0))), (1, 1, .c (.int .i64 (3)))]), AO 34 (.build [.string ⟨⟨[]⟩⟩, .string ⟨⟨[]⟩⟩, .int .i64 (0), .int .i64 (0), .int .i64 (0), .int .i64 (0), .int .i64 (0), .int .i64 (0)] [(0, 1, .c (.string ⟨⟨[(98 : UInt8)]⟩⟩)), (1, 1, .c (.string ⟨⟨[(72 : UInt8)]⟩⟩)), (4, 1, .c (.int .i64 (10))), (5, 1, .c (.int .i64 (10))), (6, 2, .t 33)]), AO 35 (.build [.int .i64 (0), .int .i64 (0)] [(0, 1, .c (.int .i64 (3))), (1, 1, .c (.int .i64 (8)))]), AO 36 (.build [.string ⟨⟨[]⟩⟩, .string ⟨⟨[]⟩⟩, .int .i64 (0), .int .i64 (0), .int .i64 (0), .int .i64 (0), .int .i64 (0), .int .i64 (0)] [(0, 1, .c (.string ⟨⟨[(97 : UInt8)]⟩⟩)), (1, 1, .c (.string ⟨⟨[(72 : UInt8)]⟩⟩)), (4, 1, .c (.int .i64 (12))), (5, 1, .c (.int .i64 (10))), (6, 2, .t 35)]), AO 37 (.build [.int .i64 (0), .int .i64 (0)] [(0, 1, .c (.int .i64 (10)))]), AO 38 (.build [.int .i64 (0), .int .i64 (0)] [(0, 1, .c (.int .i64 (0))), (1, 1, .c (.int .i64 (2)))]), AO 39 (.build [.string ⟨⟨[]⟩⟩, .string ⟨⟨[]⟩⟩, .int .i64 (0), .int .i64 (0), .int .i64 (0), .int .i64 (0), .int .i64 (0), .int .i64 (0)] [(0, 1, .c (.string ⟨⟨[(99 : UInt8)]⟩⟩)), (1, 1, .c (.string ⟨⟨[(72 : UInt8)]⟩⟩)), (2, 2, .t 37), (4, 1, .c (.int .i64 (10))), (5, 1, .c (.int .i64 (10))), (6, 2, .t 38)]), AO 40 (.buildSlice 48 8 [.t 34, .t 36, .t 39]), AM 9 40]).seq ((AR [AM 41 3, AO 42 (.buildSlice 9 1 [.c (.string ⟨⟨[(98 : UInt8)]⟩⟩), .c (.string ⟨⟨[(97 : UInt8)]⟩⟩), .c (.string ⟨⟨[(99 : UInt8)]⟩⟩)]), AO 43 (.call 15 [.t 41, .t 42]), AM 44 43, ⟨some 45, .mv (.t 4), some (44, true), []⟩, ⟨some 46, .bin .eql (.t 45) (.c (.int .i64 (0))), some (44, true), []⟩, AO 47 (.pick (.t 44) (.t 46) (.c (.bool false))), AM 48 47, ⟨some 49, .mv (.t 5), some (48, true), []⟩, ⟨some 50, .mv (.t 9), some (48, true), []⟩, ⟨some 51, .call 19 [.t 49, .t 50], some (48, true), []⟩, AO 52 (.pick (.t 48) (.t 51) (.c (.bool false))), AM 53 52, ⟨some 54, .mv (.t 6), some (53, true), []⟩, ⟨some 55, .bin .eql (.t 54) (.c (.int .i64 (0))), some (53, true), []⟩, AO 56 (.pick (.t 53) (.t 55) (.c (.bool false))), AM 57 56, ⟨some 58, .mv (.t 7), some (57, true), []⟩, ⟨some 59, .bin .eql (.t 58) (.c (.int .i64 (8))), some (57, true), []⟩, AO 60 (.pick (.t 57) (.t 59) (.c (.bool false))), AM 61 60, ⟨some 62, .mv (.t 8), some (61, true), []⟩, ⟨some 63, .bin .eql (.t 62) (.c (.int .i64 (0))), some (61, true), []⟩, AO 64 (.pick (.t 61) (.t 63) (.c (.bool false))), AM 65 64, ⟨some 66, .mv (.t 5), some (65, true), []⟩, ⟨some 67, .call 22 [.t 66], some (65, true), []⟩, ⟨some 68, .bin .eql (.t 67) (.c (.int .i64 (8))), some (65, true), []⟩, AO 69 (.pick (.t 65) (.t 68) (.c (.bool false))), AM 70 69, ⟨some 71, .mv (.t 2), some (70, true), []⟩, ⟨some 72, .mv (.t 1), some (70, true), []⟩, ⟨some 73, .mv (.t 5), some (70, true), []⟩, ⟨some 74, .call 20 [.t 71, .t 72, .t 73], some (70, true), []⟩, ⟨some 75, .bin .eql (.t 74) (.c (.int .i64 (0))), some (70, true), []⟩, AO 76 (.pick (.t 70) (.t 75) (.c (.bool false))), AM 77 76, ⟨some 78, .mv (.t 2), some (77, true), []⟩, ⟨some 79, .mv (.t 1), some (77, true), []⟩, ⟨some 80, .mv (.t 9), some (77, true), []⟩, ⟨some 81, .slice 8 (.t 80) none (some (.c (.int .i64 (2)))), some (77, true), []⟩, ⟨some 82, .call 20 [.t 78, .t 79, .t 81], some (77, true), []⟩, ⟨some 83, .bin .eql (.t 82) (.c (.int .i64 (17))), some (77, true), []⟩, AO 84 (.pick (.t 77) (.t 83) (.c (.bool false))), AM 0 84]).seq ACode.ret))))))))
theorem Tryz.F10 : FnFacts Tryz.prog 10 Tryz.f10 Tryz.ac10 85 [.tmp 0] := ⟨Tryz.func10, by kernel_rfl, by kernel_rfl, by kernel_rfl, by kernel_rfl, by kernel_rfl, by kernel_rfl, by kernel_rfl⟩
def Tryz.ac11 : ACode := ((AR [AO 2 (.mv (.c (.slice none 0 0))), AO 3 (.mv (.c (.int .i64 (0))))]).seq ((AR [AM 10 0, AO 11 (.call 24 [.t 10]), AM 9 11, AO 12 (.extract (.t 9) 0), AO 13 (.extract (.t 9) 1), AM 4 12, AM 5 13]).seq (((AR [AM 14 5, AO 15 (.bin .neq (.t 14) (.c (.int .i64 (0))))]).seq (ACode.cond (.t 15) ((AR [AM 16 5, AO 2 (.mv (.c (.slice none 0 0))), AM 3 16]).seq ACode.ret) ACode.skip)).seq ((AR [AO 6 (.mv (.c (.slice none 0 0)))]).seq (((AR [AM 17 4, AO 18 (.len (.t 17)), AO 19 (.mv (.c (.int .i64 (0))))]).seq (ACode.block 0 ((AR [AO 20 (.bin .lss (.t 19) (.t 18))]).seq ((ACode.cond (.t 20) ACode.skip (ACode.exit 0)).seq ((ACode.block 1 ((AR [AO 21 (.idxAddr 5 (.t 17) (.t 19)), AO 22 (.load 5 true (.t 21)), AO 8 (.alloc [.string ⟨⟨[]⟩⟩, .int .i64 (0), .int .i64 (0), .int .i64 (0), .slice none 0 0]), ⟨none, .store 5 (.t 8) (.t 22), none, []⟩]).seq (AR [AM 23 6, AO 24 (.fieldAddr 0 (.t 8)), AO 25 (.load 1 false (.t 24)), AO 26 (.buildSlice 9 1 [.t 25]), AO 27 (.append 9 1 16 (.t 23) (.t 26)), AM 6 27]))).seq (AR [AO 28 (.bin .add (.t 19) (.c (.int .i64 (1)))), AM 19 28])))).loop)).seq ((AR [AM 29 6, AM 2 29, AO 3 (.mv (.c (.int .i64 (0))))]).seq ACode.ret))))))
theorem Tryz.F11 : FnFacts Tryz.prog 11 Tryz.f11 Tryz.ac11 30 [.tmp 2, .tmp 3] := ⟨Tryz.func11, by kernel_rfl, by kernel_rfl, by kernel_rfl, by kernel_rfl, by kernel_rfl, by kernel_rfl, by kernel_rfl⟩
def Tryz.ac12 : ACode := ((AR [AO 2 (.mv (.c (.slice none 0 0))), AO 3 (.mv (.c (.int .i64 (0))))]).seq (((AR [AM 9 0, AO 10 (.call 25 [.t 9]), AM 4 10]).seq ((AR [AM 11 4, AO 12 (.bin .neq (.t 11) (.c (.int .i64 (0))))]).seq (ACode.cond (.t 12) ((AR [AM 13 4, AO 2 (.mv (.c (.slice none 0 0))), AM 3 13]).seq ACode.ret) ACode.skip))).seq ((AR [AO 5 (.mv (.c (.slice none 0 0)))]).seq ((AR [AM 14 0, AO 15 (.len (.t 14)), AO 16 (.make 4 1 1 [.bool false] (.t 15)), AM 6 16]).seq ((ACode.block 0 (((AR [AM 17 5, AO 18 (.len (.t 17)), AM 19 0, AO 20 (.len (.t 19)), AO 21 (.bin .lss (.t 18) (.t 20))]).seq (ACode.cond (.t 21) ACode.skip (ACode.exit 0))).seq (ACode.block 1 ((AR [AO 7 (.mv (.c (.int .i64 (Int.negSucc 0))))]).seq (((AR [AO 8 (.mv (.c (.int .i64 (0))))]).seq (ACode.block 2 (((AR [AM 22 8, AM 23 0, AO 24 (.len (.t 23)), AO 25 (.bin .lss (.t 22) (.t 24))]).seq (ACode.cond (.t 25) ACode.skip (ACode.exit 2))).seq ((ACode.block 3 ((ACode.region true [AM 28 6, AM 29 8, ⟨some 30, .idxAddr 1 (.t 28) (.t 29), none, [0, 1]⟩, ⟨some 31, .load 1 false (.t 30), none, [2]⟩, ⟨some 32, .un .not (.t 31), none, [3]⟩, ⟨some 33, .mv (.t 32), none, [4]⟩, ⟨some 34, .mv (.t 0), some (33, true), [5]⟩, ⟨some 35, .mv (.t 8), some (33, true), [5]⟩, ⟨some 36, .idxAddr 5 (.t 34) (.t 35), some (33, true), [6, 7, 5]⟩, ⟨some 37, .fieldAddr 4 (.t 36), some (33, true), [8, 5]⟩, ⟨some 38, .load 1 false (.t 37), some (33, true), [9, 5]⟩, ⟨some 39, .mv (.t 5), some (33, true), [5]⟩, ⟨some 40, .call 26 [.t 38, .t 39], some (33, true), [10, 11, 5, 5]⟩, ⟨some 41, .pick (.t 33) (.t 40) (.c (.bool false)), none, [5, 12]⟩, ⟨some 42, .mv (.t 41), none, [13, 12]⟩, ⟨some 43, .mv (.t 7), some (42, true), [14]⟩, ⟨some 44, .bin .lss (.t 43) (.c (.int .i64 (0))), some (42, true), [15, 14]⟩, ⟨some 45, .mv (.t 44), some (42, true), [16, 14, 14]⟩, ⟨some 46, .mv (.t 0), some (45, false), [17]⟩, ⟨some 47, .mv (.t 8), some (45, false), [17]⟩, ⟨some 48, .idxAddr 5 (.t 46) (.t 47), some (45, false), [18, 19, 17]⟩, ⟨some 49, .fieldAddr 0 (.t 48), some (45, false), [20, 17]⟩, ⟨some 50, .load 1 false (.t 49), some (45, false), [21, 17]⟩, ⟨some 51, .mv (.t 0), some (45, false), [17]⟩, ⟨some 52, .mv (.t 7), some (45, false), [17]⟩, ⟨some 53, .idxAddr 5 (.t 51) (.t 52), some (45, false), [23, 24, 17]⟩, ⟨some 54, .fieldAddr 0 (.t 53), some (45, false), [25, 17]⟩, ⟨some 55, .load 1 false (.t 54), some (45, false), [26, 17]⟩, ⟨some 56, .bin .lss (.t 50) (.t 55), some (45, false), [22, 27, 17]⟩, ⟨some 57, .pick (.t 45) (.c (.bool true)) (.t 56), some (42, true), [17, 28, 14]⟩, ⟨some 58, .pick (.t 42) (.t 57) (.c (.bool false)), none, [14, 29]⟩]).seq (ACode.cond (.t 58) (AR [AM 59 8, AM 7 59]) ACode.skip))).seq (AR [AM 26 8, AO 27 (.bin .add (.t 26) (.c (.int .i64 (1)))), AM 8 27]))).loop)).seq (((AR [AM 60 7, AO 61 (.bin .lss (.t 60) (.c (.int .i64 (0))))]).seq (ACode.cond (.t 61) ((AR [AO 2 (.mv (.c (.slice none 0 0))), AO 3 (.mv (.c (.int .i64 (20))))]).seq ACode.ret) ACode.skip)).seq ((AR [AM 62 6, AM 63 7, AO 64 (.idxAddr 1 (.t 62) (.t 63)), ⟨none, .store 1 (.t 64) (.c (.bool true)), none, []⟩]).seq (AR [AM 65 5, AM 66 0, AM 67 7, AO 68 (.idxAddr 5 (.t 66) (.t 67)), AO 69 (.fieldAddr 0 (.t 68)), AO 70 (.load 1 false (.t 69)), AO 71 (.buildSlice 9 1 [.t 70]), AO 72 (.append 9 1 16 (.t 65) (.t 71)), AM 5 72]))))))).loop).seq ((AR [AM 73 5, AM 2 73, AO 3 (.mv (.c (.int .i64 (0))))]).seq ACode.ret))))))
theorem Tryz.F12 : FnFacts Tryz.prog 12 Tryz.f12 Tryz.ac12 74 [.tmp 2, .tmp 3] := ⟨Tryz.func12, by kernel_rfl, by kernel_rfl, by kernel_rfl, by kernel_rfl, by kernel_rfl, by kernel_rfl, by kernel_rfl⟩
def Tryz.ac13 : ACode := ((AR [AO 2 (.mv (.c (.int .i64 (0)))), AO 3 (.mv (.c (.int .i64 (0))))]).seq ((AR [AM 14 0, AO 15 (.call 24 [.t 14]), AM 13 15, AO 16 (.extract (.t 13) 0), AO 17 (.extract (.t 13) 1), AM 4 16, AM 5 17]).seq (((AR [AM 18 5, AO 19 (.bin .neq (.t 18) (.c (.int .i64 (0))))]).seq (ACode.cond (.t 19) ((AR [AM 20 5, AO 2 (.mv (.c (.int .i64 (0)))), AM 3 20]).seq ACode.ret) ACode.skip)).seq ((AR [AO 6 (.mv (.c (.int .i64 (0))))]).seq ((AR [AO 21 (.mapMake), AM 7 21]).seq (((AR [AM 22 4, AO 23 (.len (.t 22)), AO 24 (.mv (.c (.int .i64 (0))))]).seq (ACode.block 0 ((AR [AO 25 (.bin .lss (.t 24) (.t 23))]).seq ((ACode.cond (.t 25) ACode.skip (ACode.exit 0)).seq ((ACode.block 1 ((AR [AO 26 (.idxAddr 5 (.t 22) (.t 24)), AO 27 (.load 5 true (.t 26)), AO 9 (.alloc [.string ⟨⟨[]⟩⟩, .int .i64 (0), .int .i64 (0), .int .i64 (0), .slice none 0 0]), ⟨none, .store 5 (.t 9) (.t 27), none, []⟩]).seq ((AR [AO 10 (.mv (.c (.int .i64 (0))))]).seq (((AR [AO 28 (.fieldAddr 4 (.t 9)), AO 29 (.load 1 false (.t 28)), AO 30 (.len (.t 29)), AO 31 (.mv (.c (.int .i64 (0))))]).seq (ACode.block 2 ((AR [AO 32 (.bin .lss (.t 31) (.t 30))]).seq ((ACode.cond (.t 32) ACode.skip (ACode.exit 2)).seq ((ACode.block 3 ((AR [AO 33 (.idxAddr 1 (.t 29) (.t 31)), AO 34 (.load 1 false (.t 33)), AM 12 34]).seq (AR [AM 35 10, AM 36 7, AM 37 12, AO 38 (.mapGet (AV.v (.int .i64 (0))) false (.t 36) (.t 37)), AO 39 (.minmax true (.t 35) (.t 38)), AM 10 39]))).seq (AR [AO 40 (.bin .add (.t 31) (.c (.int .i64 (1)))), AM 31 40])))).loop)).seq ((AR [AM 41 7, AO 42 (.fieldAddr 0 (.t 9)), AO 43 (.load 1 false (.t 42)), AM 44 10, AO 45 (.fieldAddr 1 (.t 9)), AO 46 (.load 1 false (.t 45)), AO 47 (.bin .add (.t 44) (.t 46)), ⟨none, .mapPut (.t 41) (.t 43) (.t 47), none, []⟩]).seq (AR [AM 48 6, AM 49 7, AO 50 (.fieldAddr 0 (.t 9)), AO 51 (.load 1 false (.t 50)), AO 52 (.mapGet (AV.v (.int .i64 (0))) false (.t 49) (.t 51)), AO 53 (.minmax true (.t 48) (.t 52)), AM 6 53])))))).seq (AR [AO 54 (.bin .add (.t 24) (.c (.int .i64 (1)))), AM 24 54])))).loop)).seq ((AR [AM 55 6, AM 2 55, AO 3 (.mv (.c (.int .i64 (0))))]).seq ACode.ret)))))))
theorem Tryz.F13 : FnFacts Tryz.prog 13 Tryz.f13 Tryz.ac13 56 [.tmp 2, .tmp 3] := ⟨Tryz.func13, by kernel_rfl, by kernel_rfl, by kernel_rfl, by kernel_rfl, by kernel_rfl, by kernel_rfl, by kernel_rfl⟩
def Tryz.ac15 : ACode := ((AR [AO 4 (.mv (.c (.bool false)))]).seq (((AR [AM 6 0, AO 7 (.len (.t 6)), AM 8 1, AO 9 (.len (.t 8)), AO 10 (.bin .neq (.t 7) (.t 9))]).seq (ACode.cond (.t 10) ((AR [AO 4 (.mv (.c (.bool false)))]).seq ACode.ret) ACode.skip)).seq (((AR [AO 5 (.mv (.c (.int .i64 (0))))]).seq (ACode.block 0 (((AR [AM 11 5, AM 12 0, AO 13 (.len (.t 12)), AO 14 (.bin .lss (.t 11) (.t 13))]).seq (ACode.cond (.t 14) ACode.skip (ACode.exit 0))).seq ((ACode.block 1 ((ACode.region true [AM 17 0, AM 18 5, ⟨some 19, .idxAddr 1 (.t 17) (.t 18), none, [0, 1]⟩, ⟨some 20, .load 1 false (.t 19), none, [2]⟩, AM 21 1, AM 22 5, ⟨some 23, .idxAddr 1 (.t 21) (.t 22), none, [4, 5]⟩, ⟨some 24, .load 1 false (.t 23), none, [6]⟩, ⟨some 25, .bin .neq (.t 20) (.t 24), none, [3, 7]⟩]).seq (ACode.cond (.t 25) ((AR [AO 4 (.mv (.c (.bool false)))]).seq ACode.ret) ACode.skip))).seq (AR [AM 15 5, AO 16 (.bin .add (.t 15) (.c (.int .i64 (1)))), AM 5 16]))).loop)).seq ((AR [AO 4 (.mv (.c (.bool true)))]).seq ACode.ret))))
theorem Tryz.F15 : FnFacts Tryz.prog 15 Tryz.f15 Tryz.ac15 26 [.tmp 4] := ⟨Tryz.func15, by kernel_rfl, by kernel_rfl, by kernel_rfl, by kernel_rfl, by kernel_rfl, by kernel_rfl, by kernel_rfl⟩
def Tryz.ac16 : ACode := ((AR [AO 4 (.mv (.c (.bool false)))]).seq (((AR [AO 5 (.mv (.c (.int .i64 (0))))]).seq (ACode.block 0 (((AR [AM 7 5, AM 8 0, AO 9 (.len (.t 8)), AO 10 (.bin .lss (.t 7) (.t 9)), AM 11 10, ⟨some 12, .mv (.t 5), some (11, true), []⟩, ⟨some 13, .bin .lss (.t 12) (.c (.int .i64 (13))), some (11, true), []⟩, AO 14 (.pick (.t 11) (.t 13) (.c (.bool false)))]).seq (ACode.cond (.t 14) ACode.skip (ACode.exit 0))).seq ((ACode.block 1 ((AR [AM 17 0, AM 18 5, AO 19 (.idxAddr 3 (.t 17) (.t 18)), AO 20 (.fieldAddr 0 (.t 19)), AO 21 (.load 1 false (.t 20)), AO 22 (.lenStr (.t 21)), AO 23 (.bin .gtr (.t 22) (.c (.int .i64 (100))))]).seq (ACode.cond (.t 23) ((AR [AO 4 (.mv (.c (.bool false)))]).seq ACode.ret) ACode.skip))).seq (AR [AM 15 5, AO 16 (.bin .add (.t 15) (.c (.int .i64 (1)))), AM 5 16]))).loop)).seq (((AR [AO 6 (.mv (.c (.int .i64 (0))))]).seq (ACode.block 2 (((AR [AM 24 6, AM 25 1, AO 26 (.len (.t 25)), AO 27 (.bin .lss (.t 24) (.t 26)), AM 28 27, ⟨some 29, .mv (.t 6), some (28, true), []⟩, ⟨some 30, .bin .lss (.t 29) (.c (.int .i64 (61))), some (28, true), []⟩, AO 31 (.pick (.t 28) (.t 30) (.c (.bool false)))]).seq (ACode.cond (.t 31) ACode.skip (ACode.exit 2))).seq ((ACode.block 3 ((AR [AM 34 1, AM 35 6, AO 36 (.idxAddr 8 (.t 34) (.t 35)), AO 37 (.fieldAddr 0 (.t 36)), AO 38 (.load 1 false (.t 37)), AO 39 (.lenStr (.t 38)), AO 40 (.bin .gtr (.t 39) (.c (.int .i64 (100)))), AM 41 40, ⟨some 42, .mv (.t 1), some (41, false), []⟩, ⟨some 43, .mv (.t 6), some (41, false), []⟩, ⟨some 44, .idxAddr 8 (.t 42) (.t 43), some (41, false), []⟩, ⟨some 45, .fieldAddr 1 (.t 44), some (41, false), []⟩, ⟨some 46, .load 1 false (.t 45), some (41, false), []⟩, ⟨some 47, .lenStr (.t 46), some (41, false), []⟩, ⟨some 48, .bin .gtr (.t 47) (.c (.int .i64 (100))), some (41, false), []⟩, AO 49 (.pick (.t 41) (.c (.bool true)) (.t 48))]).seq (ACode.cond (.t 49) ((AR [AO 4 (.mv (.c (.bool false)))]).seq ACode.ret) ACode.skip))).seq (AR [AM 32 6, AO 33 (.bin .add (.t 32) (.c (.int .i64 (1)))), AM 6 33]))).loop)).seq ((AR [AM 50 0, AO 51 (.len (.t 50)), AO 52 (.bin .leq (.t 51) (.c (.int .i64 (12)))), AM 53 52, ⟨some 54, .mv (.t 1), some (53, true), []⟩, ⟨some 55, .len (.t 54), some (53, true), []⟩, ⟨some 56, .bin .leq (.t 55) (.c (.int .i64 (60))), some (53, true), []⟩, AO 57 (.pick (.t 53) (.t 56) (.c (.bool false))), AM 4 57]).seq ACode.ret))))
theorem Tryz.F16 : FnFacts Tryz.prog 16 Tryz.f16 Tryz.ac16 58 [.tmp 4] := ⟨Tryz.func16, by kernel_rfl, by kernel_rfl, by kernel_rfl, by kernel_rfl, by kernel_rfl, by kernel_rfl, by kernel_rfl⟩
def Tryz.ac17 : ACode := ((AR [AO 4 (.mv (.c (.slice none 0 0))), AO 5 (.mv (.c (.int .i64 (0))))]).seq ((AR [AM 19 0, AO 20 (.call 24 [.t 19]), AM 18 20, AO 21 (.extract (.t 18) 0), AO 22 (.extract (.t 18) 1), AM 6 21, AM 7 22]).seq (((AR [AM 23 7, AO 24 (.bin .neq (.t 23) (.c (.int .i64 (0))))]).seq (ACode.cond (.t 24) ((AR [AM 25 7, AO 4 (.mv (.c (.slice none 0 0))), AM 5 25]).seq ACode.ret) ACode.skip)).seq (((AR [AM 26 1, AO 27 (.call 29 [.t 26, .c (.slice none 0 0)]), AM 8 27]).seq ((AR [AM 28 8, AO 29 (.bin .neq (.t 28) (.c (.int .i64 (0))))]).seq (ACode.cond (.t 29) ((AR [AM 30 8, AO 4 (.mv (.c (.slice none 0 0))), AM 5 30]).seq ACode.ret) ACode.skip))).seq ((AR [AO 31 (.mapMake), AM 9 31]).seq ((AR [AO 10 (.mv (.c (.slice none 0 0)))]).seq (((AR [AM 32 6, AO 33 (.len (.t 32)), AO 34 (.mv (.c (.int .i64 (0))))]).seq (ACode.block 0 ((AR [AO 35 (.bin .lss (.t 34) (.t 33))]).seq ((ACode.cond (.t 35) ACode.skip (ACode.exit 0)).seq ((ACode.block 1 ((AR [AO 36 (.idxAddr 5 (.t 32) (.t 34)), AO 37 (.load 5 true (.t 36)), AO 12 (.alloc [.string ⟨⟨[]⟩⟩, .int .i64 (0), .int .i64 (0), .int .i64 (0), .slice none 0 0]), ⟨none, .store 5 (.t 12) (.t 37), none, []⟩]).seq ((AR [AO 13 (.mv (.c (.int .i64 (0))))]).seq (((AR [AO 38 (.fieldAddr 4 (.t 12)), AO 39 (.load 1 false (.t 38)), AO 40 (.len (.t 39)), AO 41 (.mv (.c (.int .i64 (0))))]).seq (ACode.block 2 ((AR [AO 42 (.bin .lss (.t 41) (.t 40))]).seq ((ACode.cond (.t 42) ACode.skip (ACode.exit 2)).seq ((ACode.block 3 ((AR [AO 43 (.idxAddr 1 (.t 39) (.t 41)), AO 44 (.load 1 false (.t 43)), AM 15 44]).seq (AR [AM 45 13, AM 46 9, AM 47 15, AO 48 (.mapGet (AV.v (.int .i64 (0))) false (.t 46) (.t 47)), AO 49 (.minmax true (.t 45) (.t 48)), AM 13 49]))).seq (AR [AO 50 (.bin .add (.t 41) (.c (.int .i64 (1)))), AM 41 50])))).loop)).seq ((AR [AO 51 (.fieldAddr 0 (.t 12)), AO 52 (.load 1 false (.t 51)), AO 53 (.fieldAddr 2 (.t 12)), AO 54 (.load 1 false (.t 53)), AO 55 (.fieldAddr 3 (.t 12)), AO 56 (.load 1 false (.t 55)), AM 57 13, AO 58 (.build [.int .i64 (0), .int .i64 (0)] [(0, 1, .t 57)]), AO 59 (.build [.string ⟨⟨[]⟩⟩, .string ⟨⟨[]⟩⟩, .int .i64 (0), .int .i64 (0), .int .i64 (0), .int .i64 (0), .int .i64 (0), .int .i64 (0)] [(0, 1, .t 52), (4, 1, .t 54), (5, 1, .t 56), (6, 2, .t 58)]), AO 16 (.alloc [.string ⟨⟨[]⟩⟩, .string ⟨⟨[]⟩⟩, .int .i64 (0), .int .i64 (0), .int .i64 (0), .int .i64 (0), .int .i64 (0), .int .i64 (0)]), ⟨none, .store 8 (.t 16) (.t 59), none, []⟩]).seq ((AR [AM 61 1, AM 62 10, AO 63 (.load 8 true (.t 16)), AO 64 (.fieldAddr 1 (.t 12)), AO 65 (.load 1 false (.t 64)), AO 66 (.call 30 [.t 61, .t 62, .t 63, .t 65]), AM 60 66, AO 67 (.extract (.t 60) 0), AO 68 (.extract (.t 60) 1), ⟨none, .store 8 (.t 16) (.t 67), none, []⟩, AM 17 68]).seq (((AR [AM 69 17, AO 70 (.bin .neq (.t 69) (.c (.int .i64 (0))))]).seq (ACode.cond (.t 70) ((AR [AO 4 (.mv (.c (.slice none 0 0))), AO 5 (.mv (.c (.int .i64 (18))))]).seq ACode.ret) ACode.skip)).seq ((AR [AM 71 9, AO 72 (.fieldAddr 0 (.t 12)), AO 73 (.load 1 false (.t 72)), AO 74 (.fieldAddr 6 (.t 16)), AO 75 (.fieldAddr 1 (.t 74)), AO 76 (.load 1 false (.t 75)), ⟨none, .mapPut (.t 71) (.t 73) (.t 76), none, []⟩]).seq (AR [AM 77 10, AO 78 (.load 8 true (.t 16)), AO 79 (.buildSlice 48 8 [.t 78]), AO 80 (.append 48 8 80 (.t 77) (.t 79)), AM 10 80]))))))))).seq (AR [AO 81 (.bin .add (.t 34) (.c (.int .i64 (1)))), AM 34 81])))).loop)).seq ((AR [AM 82 10, AM 4 82, AO 5 (.mv (.c (.int .i64 (0))))]).seq ACode.ret))))))))
theorem Tryz.F17 : FnFacts Tryz.prog 17 Tryz.f17 Tryz.ac17 83 [.tmp 4, .tmp 5] := ⟨Tryz.func17, by kernel_rfl, by kernel_rfl, by kernel_rfl, by kernel_rfl, by kernel_rfl, by kernel_rfl, by kernel_rfl⟩
def Tryz.ac19 : ACode := ((AR [AO 4 (.mv (.c (.bool false)))]).seq (((AR [AM 6 0, AO 7 (.len (.t 6)), AM 8 1, AO 9 (.len (.t 8)), AO 10 (.bin .neq (.t 7) (.t 9))]).seq (ACode.cond (.t 10) ((AR [AO 4 (.mv (.c (.bool false)))]).seq ACode.ret) ACode.skip)).seq (((AR [AO 5 (.mv (.c (.int .i64 (0))))]).seq (ACode.block 0 (((AR [AM 11 5, AM 12 0, AO 13 (.len (.t 12)), AO 14 (.bin .lss (.t 11) (.t 13))]).seq (ACode.cond (.t 14) ACode.skip (ACode.exit 0))).seq ((ACode.block 1 ((ACode.region true [AM 17 0, AM 18 5, ⟨some 19, .idxAddr 8 (.t 17) (.t 18), none, [0, 1]⟩, ⟨some 20, .load 8 true (.t 19), none, [2]⟩, AM 21 1, AM 22 5, ⟨some 23, .idxAddr 8 (.t 21) (.t 22), none, [4, 5]⟩, ⟨some 24, .load 8 true (.t 23), none, [6]⟩, ⟨some 25, .eqAgg true [2, 2, 0, 0, 0, 0, 0, 0] (.t 20) (.t 24), none, [3, 7]⟩]).seq (ACode.cond (.t 25) ((AR [AO 4 (.mv (.c (.bool false)))]).seq ACode.ret) ACode.skip))).seq (AR [AM 15 5, AO 16 (.bin .add (.t 15) (.c (.int .i64 (1)))), AM 5 16]))).loop)).seq ((AR [AO 4 (.mv (.c (.bool true)))]).seq ACode.ret))))
theorem Tryz.F19 : FnFacts Tryz.prog 19 Tryz.f19 Tryz.ac19 26 [.tmp 4] := ⟨Tryz.func19, by kernel_rfl, by kernel_rfl, by kernel_rfl, by kernel_rfl, by kernel_rfl, by kernel_rfl, by kernel_rfl⟩
def Tryz.ac20 : ACode := ((AR [AO 6 (.mv (.c (.int .i64 (0))))]).seq ((AR [AM 22 0, AO 23 (.call 24 [.t 22]), AM 21 23, AO 24 (.extract (.t 21) 0), AO 25 (.extract (.t 21) 1), AM 7 24, AM 8 25]).seq (((AR [AM 26 8, AO 27 (.bin .neq (.t 26) (.c (.int .i64 (0))))]).seq (ACode.cond (.t 27) ((AR [AM 28 8, AM 6 28]).seq ACode.ret) ACode.skip)).seq (((AR [AM 29 1, AM 30 2, AO 31 (.call 29 [.t 29, .t 30]), AM 9 31]).seq ((AR [AM 32 9, AO 33 (.bin .neq (.t 32) (.c (.int .i64 (0))))]).seq (ACode.cond (.t 33) ((AR [AM 34 9, AM 6 34]).seq ACode.ret) ACode.skip))).seq ((AR [AO 35 (.mapMake), AM 10 35]).seq (((AR [AM 36 2, AO 37 (.len (.t 36)), AO 38 (.mv (.c (.int .i64 (0))))]).seq (ACode.block 0 ((AR [AO 39 (.bin .lss (.t 38) (.t 37))]).seq ((ACode.cond (.t 39) ACode.skip (ACode.exit 0)).seq ((ACode.block 1 ((AR [AO 40 (.idxAddr 8 (.t 36) (.t 38)), AO 41 (.load 8 true (.t 40)), AO 12 (.alloc [.string ⟨⟨[]⟩⟩, .string ⟨⟨[]⟩⟩, .int .i64 (0), .int .i64 (0), .int .i64 (0), .int .i64 (0), .int .i64 (0), .int .i64 (0)]), ⟨none, .store 8 (.t 12) (.t 41), none, []⟩]).seq (AR [AM 42 10, AO 43 (.fieldAddr 0 (.t 12)), AO 44 (.load 1 false (.t 43)), AO 45 (.load 8 true (.t 12)), ⟨none, .mapPut (.t 42) (.t 44) (.t 45), none, []⟩]))).seq (AR [AO 46 (.bin .add (.t 38) (.c (.int .i64 (1)))), AM 38 46])))).loop)).seq (((AR [AM 47 2, AO 48 (.len (.t 47)), AM 49 0, AO 50 (.len (.t 49)), AO 51 (.bin .neq (.t 48) (.t 50)), AM 52 51, ⟨some 53, .mv (.t 10), some (52, false), []⟩, ⟨some 54, .mapLen (.t 53), some (52, false), []⟩, ⟨some 55, .mv (.t 0), some (52, false), []⟩, ⟨some 56, .len (.t 55), some (52, false), []⟩, ⟨some 57, .bin .neq (.t 54) (.t 56), some (52, false), []⟩, AO 58 (.pick (.t 52) (.c (.bool true)) (.t 57))]).seq (ACode.cond (.t 58) ((AR [AO 6 (.mv (.c (.int .i64 (17))))]).seq ACode.ret) ACode.skip)).seq (((AR [AM 59 7, AO 60 (.len (.t 59)), AO 61 (.mv (.c (.int .i64 (0))))]).seq (ACode.block 2 ((AR [AO 62 (.bin .lss (.t 61) (.t 60))]).seq ((ACode.cond (.t 62) ACode.skip (ACode.exit 2)).seq ((ACode.block 3 ((AR [AO 63 (.idxAddr 5 (.t 59) (.t 61)), AO 64 (.load 5 true (.t 63)), AO 14 (.alloc [.string ⟨⟨[]⟩⟩, .int .i64 (0), .int .i64 (0), .int .i64 (0), .slice none 0 0]), ⟨none, .store 5 (.t 14) (.t 64), none, []⟩]).seq ((AR [AM 66 10, AO 67 (.fieldAddr 0 (.t 14)), AO 68 (.load 1 false (.t 67)), AO 69 (.mapGet (AV.agg [AV.v (.string ⟨⟨[]⟩⟩), AV.v (.string ⟨⟨[]⟩⟩), AV.v (.int .i64 (0)), AV.v (.int .i64 (0)), AV.v (.int .i64 (0)), AV.v (.int .i64 (0)), AV.v (.int .i64 (0)), AV.v (.int .i64 (0))]) true (.t 66) (.t 68)), AM 65 69, AO 70 (.extract (.t 65) 0), AO 71 (.extract (.t 65) 1), AO 15 (.alloc [.string ⟨⟨[]⟩⟩, .string ⟨⟨[]⟩⟩, .int .i64 (0), .int .i64 (0), .int .i64 (0), .int .i64 (0), .int .i64 (0), .int .i64 (0)]), ⟨none, .store 8 (.t 15) (.t 70), none, []⟩, AM 16 71]).seq ((AR [AM 72 16, AO 73 (.un .not (.t 72)), AM 74 73, ⟨some 75, .fieldAddr 4 (.t 15), some (74, false), []⟩, ⟨some 76, .load 1 false (.t 75), some (74, false), []⟩, ⟨some 77, .fieldAddr 2 (.t 14), some (74, false), []⟩, ⟨some 78, .load 1 false (.t 77), some (74, false), []⟩, ⟨some 79, .bin .neq (.t 76) (.t 78), some (74, false), []⟩, AO 80 (.pick (.t 74) (.c (.bool true)) (.t 79)), AM 81 80, ⟨some 82, .fieldAddr 5 (.t 15), some (81, false), []⟩, ⟨some 83, .load 1 false (.t 82), some (81, false), []⟩, ⟨some 84, .fieldAddr 3 (.t 14), some (81, false), []⟩, ⟨some 85, .load 1 false (.t 84), some (81, false), []⟩, ⟨some 86, .bin .neq (.t 83) (.t 85), some (81, false), []⟩, AO 87 (.pick (.t 81) (.c (.bool true)) (.t 86)), AM 88 87, ⟨some 89, .fieldAddr 6 (.t 15), some (88, false), []⟩, ⟨some 90, .fieldAddr 1 (.t 89), some (88, false), []⟩, ⟨some 91, .load 1 false (.t 90), some (88, false), []⟩, ⟨some 92, .fieldAddr 6 (.t 15), some (88, false), []⟩, ⟨some 93, .fieldAddr 0 (.t 92), some (88, false), []⟩, ⟨some 94, .load 1 false (.t 93), some (88, false), []⟩, ⟨some 95, .bin .sub (.t 91) (.t 94), some (88, false), []⟩, ⟨some 96, .fieldAddr 1 (.t 14), some (88, false), []⟩, ⟨some 97, .load 1 false (.t 96), some (88, false), []⟩, ⟨some 98, .bin .neq (.t 95) (.t 97), some (88, false), []⟩, AO 99 (.pick (.t 88) (.c (.bool true)) (.t 98))]).seq (ACode.cond (.t 99) ((AR [AO 6 (.mv (.c (.int .i64 (17))))]).seq ACode.ret) ACode.skip))))).seq (AR [AO 100 (.bin .add (.t 61) (.c (.int .i64 (1)))), AM 61 100])))).loop)).seq (((AR [AM 101 7, AO 102 (.len (.t 101)), AO 103 (.mv (.c (.int .i64 (0))))]).seq (ACode.block 4 ((AR [AO 104 (.bin .lss (.t 103) (.t 102))]).seq ((ACode.cond (.t 104) ACode.skip (ACode.exit 4)).seq ((ACode.block 5 ((AR [AO 105 (.idxAddr 5 (.t 101) (.t 103)), AO 106 (.load 5 true (.t 105)), AO 18 (.alloc [.string ⟨⟨[]⟩⟩, .int .i64 (0), .int .i64 (0), .int .i64 (0), .slice none 0 0]), ⟨none, .store 5 (.t 18) (.t 106), none, []⟩]).seq ((AR [AO 107 (.fieldAddr 4 (.t 18)), AO 108 (.load 1 false (.t 107)), AO 109 (.len (.t 108)), AO 110 (.mv (.c (.int .i64 (0))))]).seq (ACode.block 6 ((AR [AO 111 (.bin .lss (.t 110) (.t 109))]).seq ((ACode.cond (.t 111) ACode.skip (ACode.exit 6)).seq ((ACode.block 7 ((AR [AO 112 (.idxAddr 1 (.t 108) (.t 110)), AO 113 (.load 1 false (.t 112)), AM 20 113]).seq ((AR [AM 114 10, AO 115 (.fieldAddr 0 (.t 18)), AO 116 (.load 1 false (.t 115)), AO 117 (.mapGet (AV.agg [AV.v (.string ⟨⟨[]⟩⟩), AV.v (.string ⟨⟨[]⟩⟩), AV.v (.int .i64 (0)), AV.v (.int .i64 (0)), AV.v (.int .i64 (0)), AV.v (.int .i64 (0)), AV.v (.int .i64 (0)), AV.v (.int .i64 (0))]) false (.t 114) (.t 116)), AO 118 (.field 6 2 true (.t 117)), AO 119 (.field 0 1 false (.t 118)), AM 120 10, AM 121 20, AO 122 (.mapGet (AV.agg [AV.v (.string ⟨⟨[]⟩⟩), AV.v (.string ⟨⟨[]⟩⟩), AV.v (.int .i64 (0)), AV.v (.int .i64 (0)), AV.v (.int .i64 (0)), AV.v (.int .i64 (0)), AV.v (.int .i64 (0)), AV.v (.int .i64 (0))]) false (.t 120) (.t 121)), AO 123 (.field 6 2 true (.t 122)), AO 124 (.field 1 1 false (.t 123)), AO 125 (.bin .lss (.t 119) (.t 124))]).seq (ACode.cond (.t 125) ((AR [AO 6 (.mv (.c (.int .i64 (11))))]).seq ACode.ret) ACode.skip)))).seq (AR [AO 126 (.bin .add (.t 110) (.c (.int .i64 (1)))), AM 110 126])))).loop)))).seq (AR [AO 127 (.bin .add (.t 103) (.c (.int .i64 (1)))), AM 103 127])))).loop)).seq ((AR [AO 6 (.mv (.c (.int .i64 (0))))]).seq ACode.ret))))))))))
theorem Tryz.F20 : FnFacts Tryz.prog 20 Tryz.f20 Tryz.ac20 128 [.tmp 6] := ⟨Tryz.func20, by kernel_rfl, by kernel_rfl, by kernel_rfl, by kernel_rfl, by kernel_rfl, by kernel_rfl, by kernel_rfl⟩
def Tryz.ac21 : ACode := ((AR [AO 6 (.mv (.c (.int .i64 (0))))]).seq (((AR [AM 15 0, AO 16 (.call 12 [.t 15]), AM 14 16, AO 17 (.extract (.t 14) 0), AO 18 (.extract (.t 14) 1), AM 7 17, AM 8 18]).seq ((AR [AM 19 8, AO 20 (.bin .neq (.t 19) (.c (.int .i64 (0))))]).seq (ACode.cond (.t 20) ((AR [AM 21 8, AM 6 21]).seq ACode.ret) ACode.skip))).seq (((AR [AM 22 1, AM 23 2, AO 24 (.call 31 [.t 22, .t 23]), AM 9 24]).seq ((AR [AM 25 9, AO 26 (.bin .neq (.t 25) (.c (.int .i64 (0))))]).seq (ACode.cond (.t 26) ((AR [AM 27 9, AM 6 27]).seq ACode.ret) ACode.skip))).seq (((AR [AM 28 2, AO 29 (.len (.t 28)), AM 30 0, AO 31 (.len (.t 30)), AO 32 (.bin .neq (.t 29) (.t 31))]).seq (ACode.cond (.t 32) ((AR [AO 6 (.mv (.c (.int .i64 (17))))]).seq ACode.ret) ACode.skip)).seq (((AR [AO 10 (.mv (.c (.int .i64 (0))))]).seq (ACode.block 0 (((AR [AM 33 10, AM 34 2, AO 35 (.len (.t 34)), AO 36 (.bin .lss (.t 33) (.t 35))]).seq (ACode.cond (.t 36) ACode.skip (ACode.exit 0))).seq ((ACode.block 1 ((AR [AM 39 0, AM 40 2, AM 41 10, AO 42 (.idxAddr 8 (.t 40) (.t 41)), AO 43 (.fieldAddr 0 (.t 42)), AO 44 (.load 1 false (.t 43)), AO 45 (.call 27 [.t 39, .t 44]), AM 11 45]).seq (((ACode.region true [AM 46 11, ⟨some 47, .bin .lss (.t 46) (.c (.int .i64 (0))), none, [0]⟩, ⟨some 48, .mv (.t 47), none, [1]⟩, ⟨some 49, .mv (.t 2), some (48, false), [2]⟩, ⟨some 50, .mv (.t 10), some (48, false), [2]⟩, ⟨some 51, .idxAddr 8 (.t 49) (.t 50), some (48, false), [3, 4, 2]⟩, ⟨some 52, .fieldAddr 4 (.t 51), some (48, false), [5, 2]⟩, ⟨some 53, .load 1 false (.t 52), some (48, false), [6, 2]⟩, ⟨some 54, .mv (.t 0), some (48, false), [2]⟩, ⟨some 55, .mv (.t 11), some (48, false), [2]⟩, ⟨some 56, .idxAddr 5 (.t 54) (.t 55), some (48, false), [8, 9, 2]⟩, ⟨some 57, .fieldAddr 2 (.t 56), some (48, false), [10, 2]⟩, ⟨some 58, .load 1 false (.t 57), some (48, false), [11, 2]⟩, ⟨some 59, .bin .neq (.t 53) (.t 58), some (48, false), [7, 12, 2]⟩, ⟨some 60, .pick (.t 48) (.c (.bool true)) (.t 59), none, [2, 13]⟩, ⟨some 61, .mv (.t 60), none, [14, 2]⟩, ⟨some 62, .mv (.t 2), some (61, false), [15]⟩, ⟨some 63, .mv (.t 10), some (61, false), [15]⟩, ⟨some 64, .idxAddr 8 (.t 62) (.t 63), some (61, false), [16, 17, 15]⟩, ⟨some 65, .fieldAddr 5 (.t 64), some (61, false), [18, 15]⟩, ⟨some 66, .load 1 false (.t 65), some (61, false), [19, 15]⟩, ⟨some 67, .mv (.t 0), some (61, false), [15]⟩, ⟨some 68, .mv (.t 11), some (61, false), [15]⟩, ⟨some 69, .idxAddr 5 (.t 67) (.t 68), some (61, false), [21, 22, 15]⟩, ⟨some 70, .fieldAddr 3 (.t 69), some (61, false), [23, 15]⟩, ⟨some 71, .load 1 false (.t 70), some (61, false), [24, 15]⟩, ⟨some 72, .bin .neq (.t 66) (.t 71), some (61, false), [20, 25, 15]⟩, ⟨some 73, .pick (.t 61) (.c (.bool true)) (.t 72), none, [15, 26]⟩, ⟨some 74, .mv (.t 73), none, [27, 15]⟩, ⟨some 75, .mv (.t 2), some (74, false), [28]⟩, ⟨some 76, .mv (.t 10), some (74, false), [28]⟩, ⟨some 77, .idxAddr 8 (.t 75) (.t 76), some (74, false), [29, 30, 28]⟩, ⟨some 78, .fieldAddr 6 (.t 77), some (74, false), [31, 28]⟩, ⟨some 79, .fieldAddr 1 (.t 78), some (74, false), [32, 28]⟩, ⟨some 80, .load 1 false (.t 79), some (74, false), [33, 28]⟩, ⟨some 81, .mv (.t 2), some (74, false), [28]⟩, ⟨some 82, .mv (.t 10), some (74, false), [28]⟩, ⟨some 83, .idxAddr 8 (.t 81) (.t 82), some (74, false), [35, 36, 28]⟩, ⟨some 84, .fieldAddr 6 (.t 83), some (74, false), [37, 28]⟩, ⟨some 85, .fieldAddr 0 (.t 84), some (74, false), [38, 28]⟩, ⟨some 86, .load 1 false (.t 85), some (74, false), [39, 28]⟩, ⟨some 87, .mv (.t 0), some (74, false), [28]⟩, ⟨some 88, .mv (.t 11), some (74, false), [28]⟩, ⟨some 89, .idxAddr 5 (.t 87) (.t 88), some (74, false), [41, 42, 28]⟩, ⟨some 90, .fieldAddr 1 (.t 89), some (74, false), [43, 28]⟩, ⟨some 91, .load 1 false (.t 90), some (74, false), [44, 28]⟩, ⟨some 92, .bin .add (.t 86) (.t 91), some (74, false), [40, 45, 28]⟩, ⟨some 93, .bin .neq (.t 80) (.t 92), some (74, false), [34, 46, 28]⟩, ⟨some 94, .pick (.t 74) (.c (.bool true)) (.t 93), none, [28, 47]⟩]).seq (ACode.cond (.t 94) ((AR [AO 6 (.mv (.c (.int .i64 (17))))]).seq ACode.ret) ACode.skip)).seq ((AR [AO 12 (.mv (.c (.int .i64 (0))))]).seq (ACode.block 2 (((AR [AM 95 12, AM 96 10, AO 97 (.bin .lss (.t 95) (.t 96))]).seq (ACode.cond (.t 97) ACode.skip (ACode.exit 2))).seq ((ACode.block 3 ((ACode.region true [AM 100 2, AM 101 12, ⟨some 102, .idxAddr 8 (.t 100) (.t 101), none, [0, 1]⟩, ⟨some 103, .fieldAddr 0 (.t 102), none, [2]⟩, ⟨some 104, .load 1 false (.t 103), none, [3]⟩, AM 105 2, AM 106 10, ⟨some 107, .idxAddr 8 (.t 105) (.t 106), none, [5, 6]⟩, ⟨some 108, .fieldAddr 0 (.t 107), none, [7]⟩, ⟨some 109, .load 1 false (.t 108), none, [8]⟩, ⟨some 110, .bin .eql (.t 104) (.t 109), none, [4, 9]⟩]).seq (ACode.cond (.t 110) ((AR [AO 6 (.mv (.c (.int .i64 (17))))]).seq ACode.ret) ACode.skip))).seq (AR [AM 98 12, AO 99 (.bin .add (.t 98) (.c (.int .i64 (1)))), AM 12 99]))).loop))))).seq (AR [AM 37 10, AO 38 (.bin .add (.t 37) (.c (.int .i64 (1)))), AM 10 38]))).loop)).seq (((AR [AO 13 (.mv (.c (.int .i64 (0))))]).seq (ACode.block 4 (((AR [AM 111 13, AM 112 2, AO 113 (.len (.t 112)), AO 114 (.bin .lss (.t 111) (.t 113))]).seq (ACode.cond (.t 114) ACode.skip (ACode.exit 4))).seq ((ACode.block 5 ((ACode.region true [AM 117 2, AM 118 13, ⟨some 119, .idxAddr 8 (.t 117) (.t 118), none, [0, 1]⟩, ⟨some 120, .fieldAddr 6 (.t 119), none, [2]⟩, ⟨some 121, .fieldAddr 0 (.t 120), none, [3]⟩, ⟨some 122, .load 1 false (.t 121), none, [4]⟩, AM 123 0, AM 124 0, AM 125 2, AM 126 13, ⟨some 127, .idxAddr 8 (.t 125) (.t 126), none, [8, 9]⟩, ⟨some 128, .fieldAddr 0 (.t 127), none, [10]⟩, ⟨some 129, .load 1 false (.t 128), none, [11]⟩, ⟨some 130, .call 27 [.t 124, .t 129], none, [7, 12]⟩, ⟨some 131, .idxAddr 5 (.t 123) (.t 130), none, [6, 13]⟩, ⟨some 132, .fieldAddr 4 (.t 131), none, [14]⟩, ⟨some 133, .load 1 false (.t 132), none, [15]⟩, AM 134 2, ⟨some 135, .call 33 [.t 133, .t 134], none, [16, 17, 13]⟩, ⟨some 136, .bin .lss (.t 122) (.t 135), none, [5, 18]⟩]).seq (ACode.cond (.t 136) ((AR [AO 6 (.mv (.c (.int .i64 (11))))]).seq ACode.ret) ACode.skip))).seq (AR [AM 115 13, AO 116 (.bin .add (.t 115) (.c (.int .i64 (1)))), AM 13 116]))).loop)).seq ((AR [AO 6 (.mv (.c (.int .i64 (0))))]).seq ACode.ret)))))))
theorem Tryz.F21 : FnFacts Tryz.prog 21 Tryz.f21 Tryz.ac21 137 [.tmp 6] := ⟨Tryz.func21, by kernel_rfl, by kernel_rfl, by kernel_rfl, by kernel_rfl, by kernel_rfl, by kernel_rfl, by kernel_rfl⟩
def Tryz.ac22 : ACode := ((AR [AO 2 (.mv (.c (.int .i64 (0))))]).seq (((AR [AM 3 0, AO 4 (.len (.t 3)), AO 5 (.bin .eql (.t 4) (.c (.int .i64 (0))))]).seq (ACode.cond (.t 5) ((AR [AO 2 (.mv (.c (.int .i64 (0))))]).seq ACode.ret) ACode.skip)).seq ((AR [AM 6 0, AO 7 (.call 34 [.t 6, .f 35]), AO 8 (.field 6 2 true (.t 7)), AO 9 (.field 1 1 false (.t 8)), AM 2 9]).seq ACode.ret)))
theorem Tryz.F22 : FnFacts Tryz.prog 22 Tryz.f22 Tryz.ac22 10 [.tmp 2] := ⟨Tryz.func22, by kernel_rfl, by kernel_rfl, by kernel_rfl, by kernel_rfl, by kernel_rfl, by kernel_rfl, by kernel_rfl⟩
def Tryz.ac23 : ACode := ((AR [AO 2 (.mv (.c (.int .i64 (0))))]).seq ((AR [AO 3 (.mv (.c (.int .i64 (0))))]).seq (((AR [AO 4 (.mv (.c (.int .i64 (0))))]).seq (ACode.block 0 (((AR [AM 5 4, AM 6 0, AO 7 (.len (.t 6)), AO 8 (.bin .lss (.t 5) (.t 7))]).seq (ACode.cond (.t 8) ACode.skip (ACode.exit 0))).seq ((ACode.block 1 ((AR [AM 11 4, AO 12 (.bin .eql (.t 11) (.c (.int .i64 (0)))), AM 13 12, ⟨some 14, .mv (.t 0), some (13, false), []⟩, ⟨some 15, .mv (.t 4), some (13, false), []⟩, ⟨some 16, .idxAddr 8 (.t 14) (.t 15), some (13, false), []⟩, ⟨some 17, .fieldAddr 6 (.t 16), some (13, false), []⟩, ⟨some 18, .fieldAddr 1 (.t 17), some (13, false), []⟩, ⟨some 19, .load 1 false (.t 18), some (13, false), []⟩, ⟨some 20, .mv (.t 3), some (13, false), []⟩, ⟨some 21, .bin .gtr (.t 19) (.t 20), some (13, false), []⟩, AO 22 (.pick (.t 13) (.c (.bool true)) (.t 21))]).seq (ACode.cond (.t 22) (AR [AM 23 0, AM 24 4, AO 25 (.idxAddr 8 (.t 23) (.t 24)), AO 26 (.fieldAddr 6 (.t 25)), AO 27 (.fieldAddr 1 (.t 26)), AO 28 (.load 1 false (.t 27)), AM 3 28]) ACode.skip))).seq (AR [AM 9 4, AO 10 (.bin .add (.t 9) (.c (.int .i64 (1)))), AM 4 10]))).loop)).seq ((AR [AM 29 3, AM 2 29]).seq ACode.ret))))
theorem Tryz.F23 : FnFacts Tryz.prog 23 Tryz.f23 Tryz.ac23 30 [.tmp 2] := ⟨Tryz.func23, by kernel_rfl, by kernel_rfl, by kernel_rfl, by kernel_rfl, by kernel_rfl, by kernel_rfl, by kernel_rfl⟩
def Tryz.ac24 : ACode := ((AR [AO 2 (.mv (.c (.slice none 0 0))), AO 3 (.mv (.c (.int .i64 (0))))]).seq ((AR [AM 11 0, AO 12 (.call 37 [.t 11]), AM 10 12, AO 13 (.extract (.t 10) 0), AO 14 (.extract (.t 10) 1), AO 4 (.alloc [.map none]), ⟨none, .store 1 (.t 4) (.t 13), none, []⟩, AM 5 14]).seq (((AR [AM 15 5, AO 16 (.bin .neq (.t 15) (.c (.int .i64 (0))))]).seq (ACode.cond (.t 16) ((AR [AM 17 5, AO 2 (.mv (.c (.slice none 0 0))), AM 3 17]).seq ACode.ret) ACode.skip)).seq ((AR [AM 18 0, AO 19 (.call 39 [.t 18]), AO 20 (.call 38 [.t 19, .f 40]), AM 6 20]).seq ((AR [AO 21 (.mkfn 42 [.t 4]), AO 7 (.alloc [.nilFunc]), ⟨none, .store 1 (.t 7) (.t 21), none, []⟩]).seq ((AR [AO 8 (.mv (.c (.slice none 0 0)))]).seq ((ACode.block 0 (((AR [AO 22 (.load 1 false (.t 4)), AO 23 (.mapLen (.t 22)), AO 24 (.bin .gtr (.t 23) (.c (.int .i64 (0))))]).seq (ACode.cond (.t 24) ACode.skip (ACode.exit 0))).seq (ACode.block 1 ((AR [AM 25 6, AO 26 (.mkfn 44 [.t 7]), AO 27 (.call 43 [.t 25, .t 26]), AM 9 27]).seq (((AR [AM 28 9, AO 29 (.bin .lss (.t 28) (.c (.int .i64 (0))))]).seq (ACode.cond (.t 29) ((AR [AO 2 (.mv (.c (.slice none 0 0))), AO 3 (.mv (.c (.int .i64 (20))))]).seq ACode.ret) ACode.skip)).seq ((ACode.region true [AO 30 (.load 1 false (.t 4)), AM 31 6, AM 32 9, ⟨some 33, .idxAddr 5 (.t 31) (.t 32), none, [1, 2]⟩, ⟨some 34, .fieldAddr 0 (.t 33), none, [3]⟩, ⟨some 35, .load 1 false (.t 34), none, [4]⟩, ⟨none, .mapDel (.t 30) (.t 35), none, [0, 5]⟩]).seq (AR [AM 36 8, AM 37 6, AM 38 9, AO 39 (.idxAddr 5 (.t 37) (.t 38)), AO 40 (.load 5 true (.t 39)), AO 41 (.buildSlice 53 5 [.t 40]), AO 42 (.append 53 5 64 (.t 36) (.t 41)), AM 8 42])))))).loop).seq ((AR [AM 43 8, AM 2 43, AO 3 (.mv (.c (.int .i64 (0))))]).seq ACode.ret))))))))
theorem Tryz.F24 : FnFacts Tryz.prog 24 Tryz.f24 Tryz.ac24 44 [.tmp 2, .tmp 3] := ⟨Tryz.func24, by kernel_rfl, by kernel_rfl, by kernel_rfl, by kernel_rfl, by kernel_rfl, by kernel_rfl, by kernel_rfl⟩
def Tryz.ac25 : ACode := ((AR [AO 2 (.mv (.c (.int .i64 (0))))]).seq (((AR [AM 7 0, AO 8 (.len (.t 7)), AO 9 (.bin .gtr (.t 8) (.c (.int .i64 (128))))]).seq (ACode.cond (.t 9) ((AR [AO 2 (.mv (.c (.int .i64 (4))))]).seq ACode.ret) ACode.skip)).seq (((AR [AO 3 (.mv (.c (.int .i64 (0))))]).seq (ACode.block 0 (((AR [AM 10 3, AM 11 0, AO 12 (.len (.t 11)), AO 13 (.bin .lss (.t 10) (.t 12))]).seq (ACode.cond (.t 13) ACode.skip (ACode.exit 0))).seq ((ACode.block 1 ((AR [AM 16 0, AM 17 3, AO 18 (.idxAddr 5 (.t 16) (.t 17)), AO 19 (.load 5 true (.t 18)), AO 4 (.alloc [.string ⟨⟨[]⟩⟩, .int .i64 (0), .int .i64 (0), .int .i64 (0), .slice none 0 0]), ⟨none, .store 5 (.t 4) (.t 19), none, []⟩]).seq (((AR [AO 20 (.fieldAddr 0 (.t 4)), AO 21 (.load 1 false (.t 20)), AO 22 (.call 46 [.t 21]), AO 23 (.un .not (.t 22))]).seq (ACode.cond (.t 23) ((AR [AO 2 (.mv (.c (.int .i64 (6))))]).seq ACode.ret) ACode.skip)).seq (((AR [AM 24 0, AO 25 (.fieldAddr 0 (.t 4)), AO 26 (.load 1 false (.t 25)), AO 27 (.call 27 [.t 24, .t 26]), AM 28 3, AO 29 (.bin .lss (.t 27) (.t 28))]).seq (ACode.cond (.t 29) ((AR [AO 2 (.mv (.c (.int .i64 (7))))]).seq ACode.ret) ACode.skip)).seq ((AR [AO 30 (.fieldAddr 1 (.t 4)), AO 31 (.load 1 false (.t 30)), AO 32 (.bin .lss (.t 31) (.c (.int .i64 (1)))), AM 33 32, ⟨some 34, .fieldAddr 1 (.t 4), some (33, false), []⟩, ⟨some 35, .load 1 false (.t 34), some (33, false), []⟩, ⟨some 36, .bin .gtr (.t 35) (.c (.int .i64 (1048576))), some (33, false), []⟩, AO 37 (.pick (.t 33) (.c (.bool true)) (.t 36)), AM 38 37, ⟨some 39, .fieldAddr 2 (.t 4), some (38, false), []⟩, ⟨some 40, .load 1 false (.t 39), some (38, false), []⟩, ⟨some 41, .bin .lss (.t 40) (.c (.int .i64 (1))), some (38, false), []⟩, AO 42 (.pick (.t 38) (.c (.bool true)) (.t 41)), AM 43 42, ⟨some 44, .fieldAddr 2 (.t 4), some (43, false), []⟩, ⟨some 45, .load 1 false (.t 44), some (43, false), []⟩, ⟨some 46, .bin .gtr (.t 45) (.c (.int .i64 (524288))), some (43, false), []⟩, AO 47 (.pick (.t 43) (.c (.bool true)) (.t 46)), AM 48 47, ⟨some 49, .fieldAddr 3 (.t 4), some (48, false), []⟩, ⟨some 50, .load 1 false (.t 49), some (48, false), []⟩, ⟨some 51, .bin .lss (.t 50) (.c (.int .i64 (1))), some (48, false), []⟩, AO 52 (.pick (.t 48) (.c (.bool true)) (.t 51)), AM 53 52, ⟨some 54, .fieldAddr 3 (.t 4), some (53, false), []⟩, ⟨some 55, .load 1 false (.t 54), some (53, false), []⟩, ⟨some 56, .bin .gtr (.t 55) (.c (.int .i64 (524288))), some (53, false), []⟩, AO 57 (.pick (.t 53) (.c (.bool true)) (.t 56))]).seq (ACode.cond (.t 57) ((AR [AO 2 (.mv (.c (.int .i64 (9))))]).seq ACode.ret) ACode.skip)))))).seq (AR [AM 14 3, AO 15 (.bin .add (.t 14) (.c (.int .i64 (1)))), AM 3 15]))).loop)).seq (((AR [AO 5 (.mv (.c (.int .i64 (0))))]).seq (ACode.block 2 (((AR [AM 58 5, AM 59 0, AO 60 (.len (.t 59)), AO 61 (.bin .lss (.t 58) (.t 60))]).seq (ACode.cond (.t 61) ACode.skip (ACode.exit 2))).seq ((ACode.block 3 ((AR [AO 6 (.mv (.c (.int .i64 (0))))]).seq (ACode.block 4 (((AR [AM 64 6, AM 65 0, AM 66 5, AO 67 (.idxAddr 5 (.t 65) (.t 66)), AO 68 (.fieldAddr 4 (.t 67)), AO 69 (.load 1 false (.t 68)), AO 70 (.len (.t 69)), AO 71 (.bin .lss (.t 64) (.t 70))]).seq (ACode.cond (.t 71) ACode.skip (ACode.exit 4))).seq ((ACode.block 5 ((AR [AM 74 0, AM 75 0, AM 76 5, AO 77 (.idxAddr 5 (.t 75) (.t 76)), AO 78 (.fieldAddr 4 (.t 77)), AO 79 (.load 1 false (.t 78)), AM 80 6, AO 81 (.idxAddr 1 (.t 79) (.t 80)), AO 82 (.load 1 false (.t 81)), AO 83 (.call 27 [.t 74, .t 82]), AO 84 (.bin .lss (.t 83) (.c (.int .i64 (0))))]).seq (ACode.cond (.t 84) ((AR [AO 2 (.mv (.c (.int .i64 (8))))]).seq ACode.ret) ACode.skip))).seq (AR [AM 72 6, AO 73 (.bin .add (.t 72) (.c (.int .i64 (1)))), AM 6 73]))).loop))).seq (AR [AM 62 5, AO 63 (.bin .add (.t 62) (.c (.int .i64 (1)))), AM 5 63]))).loop)).seq ((AR [AO 2 (.mv (.c (.int .i64 (0))))]).seq ACode.ret)))))
theorem Tryz.F25 : FnFacts Tryz.prog 25 Tryz.f25 Tryz.ac25 85 [.tmp 2] := ⟨Tryz.func25, by kernel_rfl, by kernel_rfl, by kernel_rfl, by kernel_rfl, by kernel_rfl, by kernel_rfl, by kernel_rfl⟩
def Tryz.ac26 : ACode := ((AR [AO 4 (.mv (.c (.bool false)))]).seq (((AR [AO 5 (.mv (.c (.int .i64 (0))))]).seq (ACode.block 0 (((AR [AM 8 5, AM 9 0, AO 10 (.len (.t 9)), AO 11 (.bin .lss (.t 8) (.t 10))]).seq (ACode.cond (.t 11) ACode.skip (ACode.exit 0))).seq ((ACode.block 1 ((AR [AO 6 (.mv (.c (.bool false)))]).seq (((AR [AO 7 (.mv (.c (.int .i64 (0))))]).seq (ACode.block 2 (((AR [AM 14 7, AM 15 1, AO 16 (.len (.t 15)), AO 17 (.bin .lss (.t 14) (.t 16))]).seq (ACode.cond (.t 17) ACode.skip (ACode.exit 2))).seq ((ACode.block 3 (ACode.region true [AM 20 6, ⟨some 21, .mv (.t 20), none, [0]⟩, ⟨some 22, .mv (.t 1), some (21, false), [1]⟩, ⟨some 23, .mv (.t 7), some (21, false), [1]⟩, ⟨some 24, .idxAddr 1 (.t 22) (.t 23), some (21, false), [2, 3, 1]⟩, ⟨some 25, .load 1 false (.t 24), some (21, false), [4, 1]⟩, ⟨some 26, .mv (.t 0), some (21, false), [1]⟩, ⟨some 27, .mv (.t 5), some (21, false), [1]⟩, ⟨some 28, .idxAddr 1 (.t 26) (.t 27), some (21, false), [6, 7, 1]⟩, ⟨some 29, .load 1 false (.t 28), some (21, false), [8, 1]⟩, ⟨some 30, .bin .eql (.t 25) (.t 29), some (21, false), [5, 9, 1]⟩, ⟨some 31, .pick (.t 21) (.c (.bool true)) (.t 30), none, [1, 10]⟩, ⟨some 6, .mv (.t 31), none, [11, 1, 0, 1, 2, 3, 4, 5, 6, 7, 8, 9, 10, 11]⟩])).seq (AR [AM 18 7, AO 19 (.bin .add (.t 18) (.c (.int .i64 (1)))), AM 7 19]))).loop)).seq ((AR [AM 32 6, AO 33 (.un .not (.t 32))]).seq (ACode.cond (.t 33) ((AR [AO 4 (.mv (.c (.bool false)))]).seq ACode.ret) ACode.skip))))).seq (AR [AM 12 5, AO 13 (.bin .add (.t 12) (.c (.int .i64 (1)))), AM 5 13]))).loop)).seq ((AR [AO 4 (.mv (.c (.bool true)))]).seq ACode.ret)))
theorem Tryz.F26 : FnFacts Tryz.prog 26 Tryz.f26 Tryz.ac26 34 [.tmp 4] := ⟨Tryz.func26, by kernel_rfl, by kernel_rfl, by kernel_rfl, by kernel_rfl, by kernel_rfl, by kernel_rfl, by kernel_rfl⟩
def Tryz.ac27 : ACode := ((AR [AO 4 (.mv (.c (.int .i64 (0))))]).seq (((AR [AO 5 (.mv (.c (.int .i64 (0))))]).seq (ACode.block 0 (((AR [AM 6 5, AM 7 0, AO 8 (.len (.t 7)), AO 9 (.bin .lss (.t 6) (.t 8))]).seq (ACode.cond (.t 9) ACode.skip (ACode.exit 0))).seq ((ACode.block 1 ((AR [AM 12 0, AM 13 5, AO 14 (.idxAddr 5 (.t 12) (.t 13)), AO 15 (.fieldAddr 0 (.t 14)), AO 16 (.load 1 false (.t 15)), AM 17 1, AO 18 (.bin .eql (.t 16) (.t 17))]).seq (ACode.cond (.t 18) ((AR [AM 19 5, AM 4 19]).seq ACode.ret) ACode.skip))).seq (AR [AM 10 5, AO 11 (.bin .add (.t 10) (.c (.int .i64 (1)))), AM 5 11]))).loop)).seq ((AR [AO 4 (.mv (.c (.int .i64 (Int.negSucc 0))))]).seq ACode.ret)))
theorem Tryz.F27 : FnFacts Tryz.prog 27 Tryz.f27 Tryz.ac27 20 [.tmp 4] := ⟨Tryz.func27, by kernel_rfl, by kernel_rfl, by kernel_rfl, by kernel_rfl, by kernel_rfl, by kernel_rfl, by kernel_rfl⟩
def Tryz.ac29 : ACode := ((AR [AO 4 (.mv (.c (.int .i64 (0))))]).seq (((AR [AM 12 0, AO 13 (.len (.t 12)), AO 14 (.bin .gtr (.t 13) (.c (.int .i64 (8)))), AM 15 14, ⟨some 16, .mv (.t 1), some (15, false), []⟩, ⟨some 17, .len (.t 16), some (15, false), []⟩, ⟨some 18, .bin .gtr (.t 17) (.c (.int .i64 (128))), some (15, false), []⟩, AO 19 (.pick (.t 15) (.c (.bool true)) (.t 18))]).seq (ACode.cond (.t 19) ((AR [AO 4 (.mv (.c (.int .i64 (4))))]).seq ACode.ret) ACode.skip)).seq (((AR [AM 20 0, AO 21 (.len (.t 20)), AO 22 (.mv (.c (.int .i64 (0))))]).seq (ACode.block 0 ((AR [AO 23 (.bin .lss (.t 22) (.t 21))]).seq ((ACode.cond (.t 23) ACode.skip (ACode.exit 0)).seq ((ACode.block 1 ((AR [AM 24 22, AO 25 (.idxAddr 3 (.t 20) (.t 22)), AO 26 (.load 3 true (.t 25)), AO 6 (.alloc [.string ⟨⟨[]⟩⟩, .int .i64 (0), .int .i64 (0)]), AM 5 24, ⟨none, .store 3 (.t 6) (.t 26), none, []⟩]).seq (((AR [AO 27 (.fieldAddr 0 (.t 6)), AO 28 (.load 1 false (.t 27)), AO 29 (.call 48 [.t 28]), AO 30 (.un .not (.t 29))]).seq (ACode.cond (.t 30) ((AR [AO 4 (.mv (.c (.int .i64 (6))))]).seq ACode.ret) ACode.skip)).seq (((AR [AO 31 (.fieldAddr 1 (.t 6)), AO 32 (.load 1 false (.t 31)), AO 33 (.call 49 [.t 32]), AO 34 (.un .not (.t 33)), AM 35 34, ⟨some 36, .fieldAddr 2 (.t 6), some (35, false), []⟩, ⟨some 37, .load 1 false (.t 36), some (35, false), []⟩, ⟨some 38, .call 49 [.t 37], some (35, false), []⟩, ⟨some 39, .un .not (.t 38), some (35, false), []⟩, AO 40 (.pick (.t 35) (.c (.bool true)) (.t 39))]).seq (ACode.cond (.t 40) ((AR [AO 4 (.mv (.c (.int .i64 (9))))]).seq ACode.ret) ACode.skip)).seq ((ACode.region true [AM 42 0, AM 43 5, ⟨some 44, .slice 3 (.t 42) none (some (.t 43)), none, [0, 1]⟩, AO 45 (.fieldAddr 0 (.t 6)), ⟨some 46, .load 1 false (.t 45), none, [3]⟩, ⟨some 47, .call 50 [.t 44, .t 46], none, [2, 4]⟩, ⟨some 41, .mv (.t 47), none, [5]⟩, ⟨some 48, .extract (.t 41) 0, none, [6]⟩, ⟨some 49, .extract (.t 41) 1, none, [6]⟩, AO 7 (.alloc [.string ⟨⟨[]⟩⟩, .int .i64 (0), .int .i64 (0)]), ⟨none, .store 3 (.t 7) (.t 48), none, [9, 7, 5, 0, 1, 2, 3, 4, 5, 6, 7, 9]⟩, ⟨some 8, .mv (.t 49), none, [8, 10, 0, 1, 2, 3, 4, 5, 6, 7, 8, 9, 10]⟩]).seq ((AR [AM 50 8]).seq (ACode.cond (.t 50) ((AR [AO 4 (.mv (.c (.int .i64 (7))))]).seq ACode.ret) ACode.skip))))))).seq (AR [AO 51 (.bin .add (.t 22) (.c (.int .i64 (1)))), AM 22 51])))).loop)).seq (((AR [AM 52 1, AO 53 (.len (.t 52)), AO 54 (.mv (.c (.int .i64 (0))))]).seq (ACode.block 2 ((AR [AO 55 (.bin .lss (.t 54) (.t 53))]).seq ((ACode.cond (.t 55) ACode.skip (ACode.exit 2)).seq ((ACode.block 3 ((AR [AM 56 54, AO 57 (.idxAddr 8 (.t 52) (.t 54)), AO 58 (.load 8 true (.t 57)), AO 10 (.alloc [.string ⟨⟨[]⟩⟩, .string ⟨⟨[]⟩⟩, .int .i64 (0), .int .i64 (0), .int .i64 (0), .int .i64 (0), .int .i64 (0), .int .i64 (0)]), AM 9 56, ⟨none, .store 8 (.t 10) (.t 58), none, []⟩]).seq ((ACode.region true [AM 59 0, AM 60 1, AM 61 9, ⟨some 62, .slice 8 (.t 60) none (some (.t 61)), none, [1, 2]⟩, AO 63 (.load 8 true (.t 10)), ⟨some 64, .call 51 [.t 59, .t 62, .t 63], none, [0, 3, 4]⟩, ⟨some 11, .mv (.t 64), none, [5, 5, 0, 1, 2, 3, 4, 5]⟩]).seq ((AR [AM 65 11, AO 66 (.bin .neq (.t 65) (.c (.int .i64 (0))))]).seq (ACode.cond (.t 66) ((AR [AM 67 11, AM 4 67]).seq ACode.ret) ACode.skip))))).seq (AR [AO 68 (.bin .add (.t 54) (.c (.int .i64 (1)))), AM 54 68])))).loop)).seq ((AR [AO 4 (.mv (.c (.int .i64 (0))))]).seq ACode.ret)))))
theorem Tryz.F29 : FnFacts Tryz.prog 29 Tryz.f29 Tryz.ac29 69 [.tmp 4] := ⟨Tryz.func29, by kernel_rfl, by kernel_rfl, by kernel_rfl, by kernel_rfl, by kernel_rfl, by kernel_rfl, by kernel_rfl⟩
def Tryz.ac30 : ACode := ((AR [AO 6 (.box 8 (.t 2)), AO 8 (.alloc [.string ⟨⟨[]⟩⟩, .string ⟨⟨[]⟩⟩, .int .i64 (0), .int .i64 (0), .int .i64 (0), .int .i64 (0), .int .i64 (0), .int .i64 (0)]), AO 9 (.mv (.c (.int .i64 (0))))]).seq (((AR [AM 17 0, AM 18 1, AO 19 (.call 29 [.t 17, .t 18]), AM 10 19]).seq ((AR [AM 20 10, AO 21 (.bin .neq (.t 20) (.c (.int .i64 (0))))]).seq (ACode.cond (.t 21) ((AR [AO 22 (.load 8 true (.t 8)), AM 23 10, ⟨none, .store 8 (.t 8) (.t 22), none, []⟩, AM 9 23]).seq ACode.ret) ACode.skip))).seq ((ACode.block 0 ((AR [AO 25 (.fieldAddr 0 (.t 6)), AO 26 (.load 1 false (.t 25)), AO 27 (.call 52 [.t 26]), AO 28 (.un .not (.t 27)), AM 24 28]).seq (ACode.cond (.t 24) ((AR [AO 29 (.load 8 true (.t 8)), ⟨none, .store 8 (.t 8) (.t 29), none, []⟩, AO 9 (.mv (.c (.int .i64 (6))))]).seq ACode.ret) ((AR [AO 31 (.fieldAddr 4 (.t 6)), AO 32 (.load 1 false (.t 31)), AO 33 (.call 49 [.t 32]), AO 34 (.un .not (.t 33)), AM 35 34, ⟨some 36, .fieldAddr 5 (.t 6), some (35, false), []⟩, ⟨some 37, .load 1 false (.t 36), some (35, false), []⟩, ⟨some 38, .call 49 [.t 37], some (35, false), []⟩, ⟨some 39, .un .not (.t 38), some (35, false), []⟩, AO 40 (.pick (.t 35) (.c (.bool true)) (.t 39)), AM 41 40, ⟨some 42, .mv (.t 3), some (41, false), []⟩, ⟨some 43, .bin .lss (.t 42) (.c (.int .i64 (1))), some (41, false), []⟩, AO 44 (.pick (.t 41) (.c (.bool true)) (.t 43)), AM 45 44, ⟨some 46, .mv (.t 3), some (45, false), []⟩, ⟨some 47, .bin .gtr (.t 46) (.c (.int .i64 (1048576))), some (45, false), []⟩, AO 48 (.pick (.t 45) (.c (.bool true)) (.t 47)), AM 49 48, ⟨some 50, .fieldAddr 6 (.t 6), some (49, false), []⟩, ⟨some 51, .fieldAddr 0 (.t 50), some (49, false), []⟩, ⟨some 52, .load 1 false (.t 51), some (49, false), []⟩, ⟨some 53, .bin .lss (.t 52) (.c (.int .i64 (0))), some (49, false), []⟩, AO 54 (.pick (.t 49) (.c (.bool true)) (.t 53)), AM 55 54, ⟨some 56, .fieldAddr 6 (.t 6), some (55, false), []⟩, ⟨some 57, .fieldAddr 0 (.t 56), some (55, false), []⟩, ⟨some 58, .load 1 false (.t 57), some (55, false), []⟩, ⟨some 59, .bin .gtr (.t 58) (.c (.int .i64 (1048576))), some (55, false), []⟩, AO 60 (.pick (.t 55) (.c (.bool true)) (.t 59)), AM 30 60]).seq (ACode.cond (.t 30) ((AR [AO 61 (.load 8 true (.t 8)), ⟨none, .store 8 (.t 8) (.t 61), none, []⟩, AO 9 (.mv (.c (.int .i64 (9))))]).seq ACode.ret) ((AR [AM 63 1, AO 64 (.len (.t 63)), AO 65 (.bin .geq (.t 64) (.c (.int .i64 (128)))), AM 62 65]).seq (ACode.cond (.t 62) ((AR [AO 66 (.load 8 true (.t 8)), ⟨none, .store 8 (.t 8) (.t 66), none, []⟩, AO 9 (.mv (.c (.int .i64 (12))))]).seq ACode.ret) ACode.skip))))))).seq (((AR [AM 67 1, AO 68 (.fieldAddr 6 (.t 6)), AO 69 (.fieldAddr 0 (.t 68)), AO 70 (.load 1 false (.t 69)), AO 71 (.call 53 [.t 67, .t 70]), AO 72 (.len (.t 71)), AO 73 (.mv (.c (.int .i64 (0))))]).seq (ACode.block 1 ((AR [AO 74 (.bin .lss (.t 73) (.t 72))]).seq ((ACode.cond (.t 74) ACode.skip (ACode.exit 1)).seq ((ACode.block 2 ((AR [AO 75 (.idxAddr 1 (.t 71) (.t 73)), AO 76 (.load 1 false (.t 75)), AM 12 76]).seq ((AR [AM 77 0, AO 78 (.len (.t 77)), AO 79 (.mv (.c (.int .i64 (0))))]).seq (ACode.block 3 ((AR [AO 80 (.bin .lss (.t 79) (.t 78))]).seq ((ACode.cond (.t 80) ACode.skip (ACode.exit 3)).seq ((ACode.block 4 ((AR [AO 81 (.idxAddr 3 (.t 77) (.t 79)), AO 82 (.load 3 true (.t 81)), AO 14 (.alloc [.string ⟨⟨[]⟩⟩, .int .i64 (0), .int .i64 (0)]), ⟨none, .store 3 (.t 14) (.t 82), none, []⟩]).seq ((AR [AO 83 (.fieldAddr 0 (.t 14)), AO 84 (.load 1 false (.t 83)), AM 85 12, AM 86 12, AM 87 3, AO 88 (.bin .add (.t 86) (.t 87)), AO 89 (.build [.int .i64 (0), .int .i64 (0)] [(0, 1, .t 85), (1, 1, .t 88)]), AO 90 (.fieldAddr 1 (.t 6)), ⟨none, .store 1 (.t 90) (.t 84), none, []⟩, AO 91 (.fieldAddr 6 (.t 6)), ⟨none, .store 2 (.t 91) (.t 89), none, []⟩]).seq ((AR [AM 93 0, AM 94 1, AO 95 (.load 8 true (.t 6)), AO 96 (.call 54 [.t 93, .t 94, .t 95]), AM 92 96, AO 97 (.extract (.t 92) 0), AO 98 (.extract (.t 92) 1), AO 15 (.alloc [.string ⟨⟨[]⟩⟩, .string ⟨⟨[]⟩⟩, .int .i64 (0), .int .i64 (0), .int .i64 (0), .int .i64 (0), .int .i64 (0), .int .i64 (0)]), ⟨none, .store 8 (.t 15) (.t 97), none, []⟩, AM 16 98]).seq ((AR [AM 99 16]).seq (ACode.cond (.t 99) ((AR [AO 100 (.load 8 true (.t 15)), ⟨none, .store 8 (.t 8) (.t 100), none, []⟩, AO 9 (.mv (.c (.int .i64 (0))))]).seq ACode.ret) ACode.skip)))))).seq (AR [AO 101 (.bin .add (.t 79) (.c (.int .i64 (1)))), AM 79 101])))).loop)))).seq (AR [AO 102 (.bin .add (.t 73) (.c (.int .i64 (1)))), AM 73 102])))).loop)).seq ((AR [AO 103 (.load 8 true (.t 8)), ⟨none, .store 8 (.t 8) (.t 103), none, []⟩, AO 9 (.mv (.c (.int .i64 (18))))]).seq ACode.ret)))))
theorem Tryz.F30 : FnFacts Tryz.prog 30 Tryz.f30 Tryz.ac30 104 [.cell 8 48, .tmp 9] := ⟨Tryz.func30, by kernel_rfl, by kernel_rfl, by kernel_rfl, by kernel_rfl, by kernel_rfl, by kernel_rfl, by kernel_rfl⟩
def Tryz.ac31 : ACode := ((AR [AO 4 (.mv (.c (.int .i64 (0))))]).seq (((AR [AM 8 0, AO 9 (.len (.t 8)), AO 10 (.bin .gtr (.t 9) (.c (.int .i64 (8)))), AM 11 10, ⟨some 12, .mv (.t 1), some (11, false), []⟩, ⟨some 13, .len (.t 12), some (11, false), []⟩, ⟨some 14, .bin .gtr (.t 13) (.c (.int .i64 (128))), some (11, false), []⟩, AO 15 (.pick (.t 11) (.c (.bool true)) (.t 14))]).seq (ACode.cond (.t 15) ((AR [AO 4 (.mv (.c (.int .i64 (4))))]).seq ACode.ret) ACode.skip)).seq (((AR [AM 16 0, AO 17 (.call 55 [.t 16]), AM 5 17]).seq ((AR [AM 18 5, AO 19 (.bin .neq (.t 18) (.c (.int .i64 (0))))]).seq (ACode.cond (.t 19) ((AR [AM 20 5, AM 4 20]).seq ACode.ret) ACode.skip))).seq (((AR [AO 6 (.mv (.c (.int .i64 (0))))]).seq (ACode.block 0 (((AR [AM 21 6, AM 22 1, AO 23 (.len (.t 22)), AO 24 (.bin .lss (.t 21) (.t 23))]).seq (ACode.cond (.t 24) ACode.skip (ACode.exit 0))).seq ((ACode.block 1 ((ACode.region true [AM 27 0, AM 28 1, AM 29 6, ⟨some 30, .slice 8 (.t 28) none (some (.t 29)), none, [1, 2]⟩, AM 31 1, AM 32 6, ⟨some 33, .idxAddr 8 (.t 31) (.t 32), none, [4, 5]⟩, ⟨some 34, .load 8 true (.t 33), none, [6]⟩, ⟨some 35, .call 56 [.t 27, .t 30, .t 34], none, [0, 3, 7]⟩, ⟨some 7, .mv (.t 35), none, [8, 8, 0, 1, 2, 3, 4, 5, 6, 7, 8]⟩]).seq ((AR [AM 36 7, AO 37 (.bin .neq (.t 36) (.c (.int .i64 (0))))]).seq (ACode.cond (.t 37) ((AR [AM 38 7, AM 4 38]).seq ACode.ret) ACode.skip)))).seq (AR [AM 25 6, AO 26 (.bin .add (.t 25) (.c (.int .i64 (1)))), AM 6 26]))).loop)).seq ((AR [AO 4 (.mv (.c (.int .i64 (0))))]).seq ACode.ret)))))
theorem Tryz.F31 : FnFacts Tryz.prog 31 Tryz.f31 Tryz.ac31 39 [.tmp 4] := ⟨Tryz.func31, by kernel_rfl, by kernel_rfl, by kernel_rfl, by kernel_rfl, by kernel_rfl, by kernel_rfl, by kernel_rfl⟩
def Tryz.ac33 : ACode := ((AR [AO 4 (.mv (.c (.int .i64 (0))))]).seq ((AR [AO 5 (.mv (.c (.int .i64 (0))))]).seq (((AR [AO 6 (.mv (.c (.int .i64 (0))))]).seq (ACode.block 0 (((AR [AM 8 6, AM 9 0, AO 10 (.len (.t 9)), AO 11 (.bin .lss (.t 8) (.t 10))]).seq (ACode.cond (.t 11) ACode.skip (ACode.exit 0))).seq ((ACode.block 1 ((AR [AO 7 (.mv (.c (.int .i64 (0))))]).seq (ACode.block 2 (((AR [AM 14 7, AM 15 1, AO 16 (.len (.t 15)), AO 17 (.bin .lss (.t 14) (.t 16))]).seq (ACode.cond (.t 17) ACode.skip (ACode.exit 2))).seq ((ACode.block 3 ((ACode.region true [AM 20 1, AM 21 7, ⟨some 22, .idxAddr 8 (.t 20) (.t 21), none, [0, 1]⟩, ⟨some 23, .fieldAddr 0 (.t 22), none, [2]⟩, ⟨some 24, .load 1 false (.t 23), none, [3]⟩, AM 25 0, AM 26 6, ⟨some 27, .idxAddr 1 (.t 25) (.t 26), none, [5, 6]⟩, ⟨some 28, .load 1 false (.t 27), none, [7]⟩, ⟨some 29, .bin .eql (.t 24) (.t 28), none, [4, 8]⟩]).seq (ACode.cond (.t 29) (AR [AM 30 5, AM 31 1, AM 32 7, AO 33 (.idxAddr 8 (.t 31) (.t 32)), AO 34 (.fieldAddr 6 (.t 33)), AO 35 (.fieldAddr 1 (.t 34)), AO 36 (.load 1 false (.t 35)), AO 37 (.minmax true (.t 30) (.t 36)), AM 5 37]) ACode.skip))).seq (AR [AM 18 7, AO 19 (.bin .add (.t 18) (.c (.int .i64 (1)))), AM 7 19]))).loop))).seq (AR [AM 12 6, AO 13 (.bin .add (.t 12) (.c (.int .i64 (1)))), AM 6 13]))).loop)).seq ((AR [AM 38 5, AM 4 38]).seq ACode.ret))))
theorem Tryz.F33 : FnFacts Tryz.prog 33 Tryz.f33 Tryz.ac33 39 [.tmp 4] := ⟨Tryz.func33, by kernel_rfl, by kernel_rfl, by kernel_rfl, by kernel_rfl, by kernel_rfl, by kernel_rfl, by kernel_rfl⟩
def Tryz.ac34 : ACode := ((AR [AO 4 (.alloc [.string ⟨⟨[]⟩⟩, .string ⟨⟨[]⟩⟩, .int .i64 (0), .int .i64 (0), .int .i64 (0), .int .i64 (0), .int .i64 (0), .int .i64 (0)])]).seq (((AR [AM 7 0, AO 8 (.len (.t 7)), AO 9 (.bin .lss (.t 8) (.c (.int .i64 (1))))]).seq (ACode.cond (.t 9) (AR [AO 10 (.bad), ⟨none, .bad, none, []⟩]) ACode.skip)).seq ((AR [AM 11 0, AO 12 (.idxAddr 8 (.t 11) (.c (.int .i64 (0)))), AO 13 (.load 8 true (.t 12)), AO 5 (.alloc [.string ⟨⟨[]⟩⟩, .string ⟨⟨[]⟩⟩, .int .i64 (0), .int .i64 (0), .int .i64 (0), .int .i64 (0), .int .i64 (0), .int .i64 (0)]), ⟨none, .store 8 (.t 5) (.t 13), none, []⟩]).seq (((AR [AO 6 (.mv (.c (.int .i64 (1))))]).seq (ACode.block 0 (((AR [AM 14 6, AM 15 0, AO 16 (.len (.t 15)), AO 17 (.bin .lss (.t 14) (.t 16))]).seq (ACode.cond (.t 17) ACode.skip (ACode.exit 0))).seq ((ACode.block 1 ((ACode.region true [AM 20 1, AM 21 0, AM 22 6, ⟨some 23, .idxAddr 8 (.t 21) (.t 22), none, [1, 2]⟩, ⟨some 24, .load 8 true (.t 23), none, [3]⟩, AO 25 (.load 8 true (.t 5)), ⟨some 26, .callv (.t 20) [.t 24, .t 25], none, [0, 4, 5]⟩, ⟨some 27, .bin .gtr (.t 26) (.c (.int .i64 (0))), none, [6]⟩]).seq (ACode.cond (.t 27) (AR [AM 28 0, AM 29 6, AO 30 (.idxAddr 8 (.t 28) (.t 29)), AO 31 (.load 8 true (.t 30)), ⟨none, .store 8 (.t 5) (.t 31), none, []⟩]) ACode.skip))).seq (AR [AM 18 6, AO 19 (.bin .add (.t 18) (.c (.int .i64 (1)))), AM 6 19]))).loop)).seq ((AR [AO 32 (.load 8 true (.t 5)), ⟨none, .store 8 (.t 4) (.t 32), none, []⟩]).seq ACode.ret)))))
theorem Tryz.F34 : FnFacts Tryz.prog 34 Tryz.f34 Tryz.ac34 33 [.cell 4 48] := ⟨Tryz.func34, by kernel_rfl, by kernel_rfl, by kernel_rfl, by kernel_rfl, by kernel_rfl, by kernel_rfl, by kernel_rfl⟩
def Tryz.ac35 : ACode := ((AR [AO 2 (.box 8 (.t 0)), AO 3 (.box 8 (.t 1)), AO 4 (.mv (.c (.int .i64 (0))))]).seq ((AR [AO 5 (.fieldAddr 6 (.t 2)), AO 6 (.fieldAddr 1 (.t 5)), AO 7 (.load 1 false (.t 6)), AO 8 (.fieldAddr 6 (.t 3)), AO 9 (.fieldAddr 1 (.t 8)), AO 10 (.load 1 false (.t 9)), AO 11 (.call 36 [.t 7, .t 10]), AM 4 11]).seq ACode.ret))
theorem Tryz.F35 : FnFacts Tryz.prog 35 Tryz.f35 Tryz.ac35 12 [.tmp 4] := ⟨Tryz.func35, by kernel_rfl, by kernel_rfl, by kernel_rfl, by kernel_rfl, by kernel_rfl, by kernel_rfl, by kernel_rfl⟩
def Tryz.ac36 : ACode := ((AR [AO 4 (.mv (.c (.int .i64 (0))))]).seq ((AR [AM 7 0, AO 8 (.call 60 [.t 7]), AM 5 8]).seq ((AR [AM 9 1, AO 10 (.call 60 [.t 9]), AM 6 10]).seq (((AR [AM 11 5]).seq (ACode.cond (.t 11) (((AR [AM 12 6]).seq (ACode.cond (.t 12) ((AR [AO 4 (.mv (.c (.int .i64 (0))))]).seq ACode.ret) ACode.skip)).seq ((AR [AO 4 (.mv (.c (.int .i64 (Int.negSucc 0))))]).seq ACode.ret)) ACode.skip)).seq (((AR [AM 13 6]).seq (ACode.cond (.t 13) ((AR [AO 4 (.mv (.c (.int .i64 (1))))]).seq ACode.ret) ACode.skip)).seq (((AR [AM 14 0, AM 15 1, AO 16 (.bin .lss (.t 14) (.t 15))]).seq (ACode.cond (.t 16) ((AR [AO 4 (.mv (.c (.int .i64 (Int.negSucc 0))))]).seq ACode.ret) ACode.skip)).seq (((AR [AM 17 0, AM 18 1, AO 19 (.bin .gtr (.t 17) (.t 18))]).seq (ACode.cond (.t 19) ((AR [AO 4 (.mv (.c (.int .i64 (1))))]).seq ACode.ret) ACode.skip)).seq ((AR [AO 4 (.mv (.c (.int .i64 (0))))]).seq ACode.ret))))))))
theorem Tryz.F36 : FnFacts Tryz.prog 36 Tryz.f36 Tryz.ac36 20 [.tmp 4] := ⟨Tryz.func36, by kernel_rfl, by kernel_rfl, by kernel_rfl, by kernel_rfl, by kernel_rfl, by kernel_rfl, by kernel_rfl⟩
def Tryz.ac37 : ACode := ((AR [AO 2 (.mv (.c (.map none))), AO 3 (.mv (.c (.int .i64 (0))))]).seq (((AR [AM 15 0, AO 16 (.len (.t 15)), AO 17 (.bin .gtr (.t 16) (.c (.int .i64 (128))))]).seq (ACode.cond (.t 17) ((AR [AO 2 (.mv (.c (.map none))), AO 3 (.mv (.c (.int .i64 (4))))]).seq ACode.ret) ACode.skip)).seq ((AR [AO 18 (.mapMake), AM 4 18]).seq (((AR [AM 19 0, AO 20 (.len (.t 19)), AO 21 (.mv (.c (.int .i64 (0))))]).seq (ACode.block 0 ((AR [AO 22 (.bin .lss (.t 21) (.t 20))]).seq ((ACode.cond (.t 22) ACode.skip (ACode.exit 0)).seq ((ACode.block 1 ((AR [AO 23 (.idxAddr 5 (.t 19) (.t 21)), AO 24 (.load 5 true (.t 23)), AO 6 (.alloc [.string ⟨⟨[]⟩⟩, .int .i64 (0), .int .i64 (0), .int .i64 (0), .slice none 0 0]), ⟨none, .store 5 (.t 6) (.t 24), none, []⟩]).seq (((AR [AO 25 (.fieldAddr 0 (.t 6)), AO 26 (.load 1 false (.t 25)), AO 27 (.call 52 [.t 26]), AO 28 (.un .not (.t 27))]).seq (ACode.cond (.t 28) ((AR [AO 2 (.mv (.c (.map none))), AO 3 (.mv (.c (.int .i64 (6))))]).seq ACode.ret) ACode.skip)).seq (((AR [AM 30 4, AO 31 (.fieldAddr 0 (.t 6)), AO 32 (.load 1 false (.t 31)), AO 33 (.mapGet (AV.agg [AV.v (.string ⟨⟨[]⟩⟩), AV.v (.int .i64 (0)), AV.v (.int .i64 (0)), AV.v (.int .i64 (0)), AV.nils]) true (.t 30) (.t 32)), AM 29 33, AO 34 (.extract (.t 29) 0), AO 35 (.extract (.t 29) 1), AO 7 (.alloc [.string ⟨⟨[]⟩⟩, .int .i64 (0), .int .i64 (0), .int .i64 (0), .slice none 0 0]), ⟨none, .store 5 (.t 7) (.t 34), none, []⟩, AM 8 35]).seq ((AR [AM 36 8]).seq (ACode.cond (.t 36) ((AR [AO 2 (.mv (.c (.map none))), AO 3 (.mv (.c (.int .i64 (7))))]).seq ACode.ret) ACode.skip))).seq (((AR [AO 37 (.fieldAddr 1 (.t 6)), AO 38 (.load 1 false (.t 37)), AO 39 (.call 61 [.t 38, .c (.int .i64 (1)), .c (.int .i64 (1048576))]), AO 40 (.un .not (.t 39)), AM 41 40, ⟨some 42, .fieldAddr 2 (.t 6), some (41, false), []⟩, ⟨some 43, .load 1 false (.t 42), some (41, false), []⟩, ⟨some 44, .call 61 [.t 43, .c (.int .i64 (1)), .c (.int .i64 (524288))], some (41, false), []⟩, ⟨some 45, .un .not (.t 44), some (41, false), []⟩, AO 46 (.pick (.t 41) (.c (.bool true)) (.t 45)), AM 47 46, ⟨some 48, .fieldAddr 3 (.t 6), some (47, false), []⟩, ⟨some 49, .load 1 false (.t 48), some (47, false), []⟩, ⟨some 50, .call 61 [.t 49, .c (.int .i64 (1)), .c (.int .i64 (524288))], some (47, false), []⟩, ⟨some 51, .un .not (.t 50), some (47, false), []⟩, AO 52 (.pick (.t 47) (.c (.bool true)) (.t 51))]).seq (ACode.cond (.t 52) ((AR [AO 2 (.mv (.c (.map none))), AO 3 (.mv (.c (.int .i64 (9))))]).seq ACode.ret) ACode.skip)).seq (AR [AM 53 4, AO 54 (.fieldAddr 0 (.t 6)), AO 55 (.load 1 false (.t 54)), AO 56 (.load 5 true (.t 6)), ⟨none, .mapPut (.t 53) (.t 55) (.t 56), none, []⟩])))))).seq (AR [AO 57 (.bin .add (.t 21) (.c (.int .i64 (1)))), AM 21 57])))).loop)).seq (((AR [AM 58 0, AO 59 (.len (.t 58)), AO 60 (.mv (.c (.int .i64 (0))))]).seq (ACode.block 2 ((AR [AO 61 (.bin .lss (.t 60) (.t 59))]).seq ((ACode.cond (.t 61) ACode.skip (ACode.exit 2)).seq ((ACode.block 3 ((AR [AO 62 (.idxAddr 5 (.t 58) (.t 60)), AO 63 (.load 5 true (.t 62)), AO 10 (.alloc [.string ⟨⟨[]⟩⟩, .int .i64 (0), .int .i64 (0), .int .i64 (0), .slice none 0 0]), ⟨none, .store 5 (.t 10) (.t 63), none, []⟩]).seq ((AR [AO 64 (.fieldAddr 4 (.t 10)), AO 65 (.load 1 false (.t 64)), AO 66 (.len (.t 65)), AO 67 (.mv (.c (.int .i64 (0))))]).seq (ACode.block 4 ((AR [AO 68 (.bin .lss (.t 67) (.t 66))]).seq ((ACode.cond (.t 68) ACode.skip (ACode.exit 4)).seq ((ACode.block 5 ((AR [AO 69 (.idxAddr 1 (.t 65) (.t 67)), AO 70 (.load 1 false (.t 69)), AM 12 70]).seq ((AR [AM 72 4, AM 73 12, AO 74 (.mapGet (AV.agg [AV.v (.string ⟨⟨[]⟩⟩), AV.v (.int .i64 (0)), AV.v (.int .i64 (0)), AV.v (.int .i64 (0)), AV.nils]) true (.t 72) (.t 73)), AM 71 74, AO 75 (.extract (.t 71) 0), AO 76 (.extract (.t 71) 1), AO 13 (.alloc [.string ⟨⟨[]⟩⟩, .int .i64 (0), .int .i64 (0), .int .i64 (0), .slice none 0 0]), ⟨none, .store 5 (.t 13) (.t 75), none, []⟩, AM 14 76]).seq ((AR [AM 77 14, AO 78 (.un .not (.t 77))]).seq (ACode.cond (.t 78) ((AR [AO 2 (.mv (.c (.map none))), AO 3 (.mv (.c (.int .i64 (8))))]).seq ACode.ret) ACode.skip))))).seq (AR [AO 79 (.bin .add (.t 67) (.c (.int .i64 (1)))), AM 67 79])))).loop)))).seq (AR [AO 80 (.bin .add (.t 60) (.c (.int .i64 (1)))), AM 60 80])))).loop)).seq ((AR [AM 81 4, AM 2 81, AO 3 (.mv (.c (.int .i64 (0))))]).seq ACode.ret))))))
theorem Tryz.F37 : FnFacts Tryz.prog 37 Tryz.f37 Tryz.ac37 82 [.tmp 2, .tmp 3] := ⟨Tryz.func37, by kernel_rfl, by kernel_rfl, by kernel_rfl, by kernel_rfl, by kernel_rfl, by kernel_rfl, by kernel_rfl⟩
def Tryz.ac39 : ACode := ((AR [AO 1 (.box 1 (.t 0)), AO 2 (.mv (.c .nilFunc))]).seq ((AR [AO 3 (.mkfn 64 [.t 1]), AM 2 3]).seq ACode.ret))
theorem Tryz.F39 : FnFacts Tryz.prog 39 Tryz.f39 Tryz.ac39 4 [.tmp 2] := ⟨Tryz.func39, by kernel_rfl, by kernel_rfl, by kernel_rfl, by kernel_rfl, by kernel_rfl, by kernel_rfl, by kernel_rfl⟩
def Tryz.ac42 : ACode := ((AR [AO 3 (.mv (.c (.bool false)))]).seq ((AR [AO 7 (.load 1 false (.t 1)), AM 8 0, AO 9 (.mapGet (AV.agg [AV.v (.string ⟨⟨[]⟩⟩), AV.v (.int .i64 (0)), AV.v (.int .i64 (0)), AV.v (.int .i64 (0)), AV.nils]) true (.t 7) (.t 8)), AM 6 9, AO 10 (.extract (.t 6) 0), AO 11 (.extract (.t 6) 1), AO 4 (.alloc [.string ⟨⟨[]⟩⟩, .int .i64 (0), .int .i64 (0), .int .i64 (0), .slice none 0 0]), ⟨none, .store 5 (.t 4) (.t 10), none, []⟩, AM 5 11]).seq ((AR [AM 12 5, AM 3 12]).seq ACode.ret)))
theorem Tryz.F42 : FnFacts Tryz.prog 42 Tryz.f42 Tryz.ac42 13 [.tmp 3] := ⟨Tryz.func42, by kernel_rfl, by kernel_rfl, by kernel_rfl, by kernel_rfl, by kernel_rfl, by kernel_rfl, by kernel_rfl⟩
def Tryz.ac43 : ACode := ((AR [AO 4 (.mv (.c (.int .i64 (0))))]).seq (((AR [AM 6 0, AO 7 (.len (.t 6)), AO 8 (.mv (.c (.int .i64 (0))))]).seq (ACode.block 0 ((AR [AO 9 (.bin .lss (.t 8) (.t 7))]).seq ((ACode.cond (.t 9) ACode.skip (ACode.exit 0)).seq ((ACode.block 1 ((AR [AM 10 8, AM 5 10]).seq ((AR [AM 11 1, AM 12 0, AM 13 5, AO 14 (.idxAddr 5 (.t 12) (.t 13)), AO 15 (.load 5 true (.t 14)), AO 16 (.callv (.t 11) [.t 15])]).seq (ACode.cond (.t 16) ((AR [AM 17 5, AM 4 17]).seq ACode.ret) ACode.skip)))).seq (AR [AO 18 (.bin .add (.t 8) (.c (.int .i64 (1)))), AM 8 18])))).loop)).seq ((AR [AO 4 (.mv (.c (.int .i64 (Int.negSucc 0))))]).seq ACode.ret)))
theorem Tryz.F43 : FnFacts Tryz.prog 43 Tryz.f43 Tryz.ac43 19 [.tmp 4] := ⟨Tryz.func43, by kernel_rfl, by kernel_rfl, by kernel_rfl, by kernel_rfl, by kernel_rfl, by kernel_rfl, by kernel_rfl⟩
def Tryz.ac44 : ACode := ((AR [AO 2 (.box 5 (.t 0)), AO 3 (.mv (.c (.bool false)))]).seq ((AR [AO 4 (.load 1 false (.t 1)), AO 5 (.fieldAddr 0 (.t 2)), AO 6 (.load 1 false (.t 5)), AO 7 (.callv (.t 4) [.t 6]), AM 8 7, ⟨some 9, .fieldAddr 4 (.t 2), some (8, true), []⟩, ⟨some 10, .load 1 false (.t 9), some (8, true), []⟩, ⟨some 11, .load 1 false (.t 1), some (8, true), []⟩, ⟨some 12, .call 45 [.t 10, .t 11], some (8, true), []⟩, ⟨some 13, .un .not (.t 12), some (8, true), []⟩, AO 14 (.pick (.t 8) (.t 13) (.c (.bool false))), AM 3 14]).seq ACode.ret))
theorem Tryz.F44 : FnFacts Tryz.prog 44 Tryz.f44 Tryz.ac44 15 [.tmp 3] := ⟨Tryz.func44, by kernel_rfl, by kernel_rfl, by kernel_rfl, by kernel_rfl, by kernel_rfl, by kernel_rfl, by kernel_rfl⟩
def Tryz.ac45 : ACode := ((AR [AO 4 (.mv (.c (.bool false)))]).seq ((AR [AM 5 0, AM 6 1, AO 7 (.call 66 [.t 5, .t 6]), AO 8 (.bin .geq (.t 7) (.c (.int .i64 (0)))), AM 4 8]).seq ACode.ret))
theorem Tryz.F45 : FnFacts Tryz.prog 45 Tryz.f45 Tryz.ac45 9 [.tmp 4] := ⟨Tryz.func45, by kernel_rfl, by kernel_rfl, by kernel_rfl, by kernel_rfl, by kernel_rfl, by kernel_rfl, by kernel_rfl⟩
def Tryz.ac46 : ACode := ((AR [AO 2 (.mv (.c (.bool false)))]).seq ((AR [AM 5 0, AO 6 (.call 67 [.t 5]), AM 3 6]).seq (((AR [AM 7 0, AO 8 (.lenStr (.t 7)), AO 9 (.bin .gtr (.t 8) (.c (.int .i64 (64)))), AM 10 9, ⟨some 11, .mv (.t 3), some (10, false), []⟩, ⟨some 12, .len (.t 11), some (10, false), []⟩, ⟨some 13, .bin .gtr (.t 12) (.c (.int .i64 (8))), some (10, false), []⟩, AO 14 (.pick (.t 10) (.c (.bool true)) (.t 13))]).seq (ACode.cond (.t 14) ((AR [AO 2 (.mv (.c (.bool false)))]).seq ACode.ret) ACode.skip)).seq (((AR [AO 4 (.mv (.c (.int .i64 (0))))]).seq (ACode.block 0 (((AR [AM 15 4, AM 16 3, AO 17 (.len (.t 16)), AO 18 (.bin .lss (.t 15) (.t 17))]).seq (ACode.cond (.t 18) ACode.skip (ACode.exit 0))).seq ((ACode.block 1 ((AR [AM 21 3, AM 22 4, AO 23 (.idxAddr 1 (.t 21) (.t 22)), AO 24 (.load 1 false (.t 23)), AO 25 (.call 68 [.t 24]), AO 26 (.un .not (.t 25))]).seq (ACode.cond (.t 26) ((AR [AO 2 (.mv (.c (.bool false)))]).seq ACode.ret) ACode.skip))).seq (AR [AM 19 4, AO 20 (.bin .add (.t 19) (.c (.int .i64 (1)))), AM 4 20]))).loop)).seq ((AR [AO 2 (.mv (.c (.bool true)))]).seq ACode.ret)))))
theorem Tryz.F46 : FnFacts Tryz.prog 46 Tryz.f46 Tryz.ac46 27 [.tmp 2] := ⟨Tryz.func46, by kernel_rfl, by kernel_rfl, by kernel_rfl, by kernel_rfl, by kernel_rfl, by kernel_rfl, by kernel_rfl⟩
def Tryz.ac48 : ACode := ((AR [AO 2 (.mv (.c (.bool false)))]).seq (((AR [AM 7 0, AO 8 (.bin .eql (.t 7) (.c (.string ⟨⟨[]⟩⟩))), AM 9 8, ⟨some 10, .mv (.t 0), some (9, false), []⟩, ⟨some 11, .lenStr (.t 10), some (9, false), []⟩, ⟨some 12, .bin .gtr (.t 11) (.c (.int .i64 (16))), some (9, false), []⟩, AO 13 (.pick (.t 9) (.c (.bool true)) (.t 12))]).seq (ACode.cond (.t 13) ((AR [AO 2 (.mv (.c (.bool false)))]).seq ACode.ret) ACode.skip)).seq (((AR [AM 14 0, AO 15 (.range (.t 14))]).seq (ACode.block 0 ((AR [AO 16 (.next (.t 15)), AO 17 (.extract (.t 16) 0)]).seq ((ACode.cond (.t 17) ACode.skip (ACode.exit 0)).seq (ACode.block 1 ((AR [AO 18 (.extract (.t 16) 1), AO 19 (.extract (.t 16) 2), AM 3 18, AM 4 19]).seq ((AR [AM 20 4, AO 21 (.bin .geq (.t 20) (.c (.int .i32 (65)))), AM 22 21, ⟨some 23, .mv (.t 4), some (22, true), []⟩, ⟨some 24, .bin .leq (.t 23) (.c (.int .i32 (90))), some (22, true), []⟩, AO 25 (.pick (.t 22) (.t 24) (.c (.bool false))), AM 26 25, ⟨some 27, .mv (.t 4), some (26, false), []⟩, ⟨some 28, .bin .geq (.t 27) (.c (.int .i32 (97))), some (26, false), []⟩, ⟨some 29, .mv (.t 28), some (26, false), []⟩, ⟨some 30, .mv (.t 4), some (29, true), []⟩, ⟨some 31, .bin .leq (.t 30) (.c (.int .i32 (122))), some (29, true), []⟩, ⟨some 32, .pick (.t 29) (.t 31) (.c (.bool false)), some (26, false), []⟩, AO 33 (.pick (.t 26) (.c (.bool true)) (.t 32)), AM 5 33]).seq ((AR [AM 34 4, AO 35 (.bin .geq (.t 34) (.c (.int .i32 (48)))), AM 36 35, ⟨some 37, .mv (.t 4), some (36, true), []⟩, ⟨some 38, .bin .leq (.t 37) (.c (.int .i32 (57))), some (36, true), []⟩, AO 39 (.pick (.t 36) (.t 38) (.c (.bool false))), AM 40 39, ⟨some 41, .mv (.t 4), some (40, false), []⟩, ⟨some 42, .bin .eql (.t 41) (.c (.int .i32 (95))), some (40, false), []⟩, AO 43 (.pick (.t 40) (.c (.bool true)) (.t 42)), AM 44 43, ⟨some 45, .mv (.t 4), some (44, false), []⟩, ⟨some 46, .bin .eql (.t 45) (.c (.int .i32 (45))), some (44, false), []⟩, AO 47 (.pick (.t 44) (.c (.bool true)) (.t 46)), AM 6 47]).seq ((AR [AM 48 5, AO 49 (.un .not (.t 48)), AM 50 49, ⟨some 51, .mv (.t 3), some (50, true), []⟩, ⟨some 52, .bin .eql (.t 51) (.c (.int .i64 (0))), some (50, true), []⟩, ⟨some 53, .mv (.t 52), some (50, true), []⟩, ⟨some 54, .mv (.t 6), some (53, false), []⟩, ⟨some 55, .un .not (.t 54), some (53, false), []⟩, ⟨some 56, .pick (.t 53) (.c (.bool true)) (.t 55), some (50, true), []⟩, AO 57 (.pick (.t 50) (.t 56) (.c (.bool false)))]).seq (ACode.cond (.t 57) ((AR [AO 2 (.mv (.c (.bool false)))]).seq ACode.ret) ACode.skip)))))))).loop)).seq ((AR [AO 2 (.mv (.c (.bool true)))]).seq ACode.ret))))
theorem Tryz.F48 : FnFacts Tryz.prog 48 Tryz.f48 Tryz.ac48 58 [.tmp 2] := ⟨Tryz.func48, by kernel_rfl, by kernel_rfl, by kernel_rfl, by kernel_rfl, by kernel_rfl, by kernel_rfl, by kernel_rfl⟩
def Tryz.ac49 : ACode := ((AR [AO 2 (.mv (.c (.bool false)))]).seq ((AR [AM 3 0, AO 4 (.bin .geq (.t 3) (.c (.int .i64 (1)))), AM 5 4, ⟨some 6, .mv (.t 0), some (5, true), []⟩, ⟨some 7, .bin .leq (.t 6) (.c (.int .i64 (524288))), some (5, true), []⟩, AO 8 (.pick (.t 5) (.t 7) (.c (.bool false))), AM 2 8]).seq ACode.ret))
theorem Tryz.F49 : FnFacts Tryz.prog 49 Tryz.f49 Tryz.ac49 9 [.tmp 2] := ⟨Tryz.func49, by kernel_rfl, by kernel_rfl, by kernel_rfl, by kernel_rfl, by kernel_rfl, by kernel_rfl, by kernel_rfl⟩
def Tryz.ac50 : ACode := ((AR [AO 3 (.box 1 (.t 1)), AO 4 (.alloc [.string ⟨⟨[]⟩⟩, .int .i64 (0), .int .i64 (0)]), AO 5 (.mv (.c (.bool false)))]).seq ((AR [AM 7 0, AO 8 (.mkfn 71 [.t 3]), AO 9 (.call 70 [.t 7, .t 8]), AM 6 9]).seq (((AR [AM 10 6, AO 11 (.bin .lss (.t 10) (.c (.int .i64 (0))))]).seq (ACode.cond (.t 11) ((AR [AO 12 (.build [.string ⟨⟨[]⟩⟩, .int .i64 (0), .int .i64 (0)] []), ⟨none, .store 3 (.t 4) (.t 12), none, []⟩, AO 5 (.mv (.c (.bool false)))]).seq ACode.ret) ACode.skip)).seq ((AR [AM 13 0, AM 14 6, AO 15 (.idxAddr 3 (.t 13) (.t 14)), AO 16 (.load 3 true (.t 15)), ⟨none, .store 3 (.t 4) (.t 16), none, []⟩, AO 5 (.mv (.c (.bool true)))]).seq ACode.ret))))
theorem Tryz.F50 : FnFacts Tryz.prog 50 Tryz.f50 Tryz.ac50 17 [.cell 4 50, .tmp 5] := ⟨Tryz.func50, by kernel_rfl, by kernel_rfl, by kernel_rfl, by kernel_rfl, by kernel_rfl, by kernel_rfl, by kernel_rfl⟩
def Tryz.ac51 : ACode := ((AR [AO 5 (.box 8 (.t 2)), AO 6 (.mv (.c (.int .i64 (0))))]).seq ((AR [AM 10 0, AO 11 (.fieldAddr 1 (.t 5)), AO 12 (.load 1 false (.t 11)), AO 13 (.call 50 [.t 10, .t 12]), AM 9 13, AO 14 (.extract (.t 9) 0), AO 15 (.extract (.t 9) 1), AO 7 (.alloc [.string ⟨⟨[]⟩⟩, .int .i64 (0), .int .i64 (0)]), ⟨none, .store 3 (.t 7) (.t 14), none, []⟩, AM 8 15]).seq ((ACode.block 0 ((AR [AO 17 (.fieldAddr 0 (.t 5)), AO 18 (.load 1 false (.t 17)), AO 19 (.call 52 [.t 18]), AO 20 (.un .not (.t 19)), AM 16 20]).seq (ACode.cond (.t 16) ((AR [AO 6 (.mv (.c (.int .i64 (6))))]).seq ACode.ret) ((AR [AM 22 8, AO 23 (.un .not (.t 22)), AM 21 23]).seq (ACode.cond (.t 21) ((AR [AO 6 (.mv (.c (.int .i64 (8))))]).seq ACode.ret) ((AR [AO 25 (.fieldAddr 4 (.t 5)), AO 26 (.load 1 false (.t 25)), AO 27 (.call 49 [.t 26]), AO 28 (.un .not (.t 27)), AM 29 28, ⟨some 30, .fieldAddr 5 (.t 5), some (29, false), []⟩, ⟨some 31, .load 1 false (.t 30), some (29, false), []⟩, ⟨some 32, .call 49 [.t 31], some (29, false), []⟩, ⟨some 33, .un .not (.t 32), some (29, false), []⟩, AO 34 (.pick (.t 29) (.c (.bool true)) (.t 33)), AM 35 34, ⟨some 36, .fieldAddr 6 (.t 5), some (35, false), []⟩, ⟨some 37, .fieldAddr 0 (.t 36), some (35, false), []⟩, ⟨some 38, .load 1 false (.t 37), some (35, false), []⟩, ⟨some 39, .bin .lss (.t 38) (.c (.int .i64 (0))), some (35, false), []⟩, AO 40 (.pick (.t 35) (.c (.bool true)) (.t 39)), AM 41 40, ⟨some 42, .fieldAddr 6 (.t 5), some (41, false), []⟩, ⟨some 43, .fieldAddr 0 (.t 42), some (41, false), []⟩, ⟨some 44, .load 1 false (.t 43), some (41, false), []⟩, ⟨some 45, .fieldAddr 6 (.t 5), some (41, false), []⟩, ⟨some 46, .fieldAddr 1 (.t 45), some (41, false), []⟩, ⟨some 47, .load 1 false (.t 46), some (41, false), []⟩, ⟨some 48, .bin .geq (.t 44) (.t 47), some (41, false), []⟩, AO 49 (.pick (.t 41) (.c (.bool true)) (.t 48)), AM 50 49, ⟨some 51, .fieldAddr 6 (.t 5), some (50, false), []⟩, ⟨some 52, .fieldAddr 1 (.t 51), some (50, false), []⟩, ⟨some 53, .load 1 false (.t 52), some (50, false), []⟩, ⟨some 54, .bin .gtr (.t 53) (.c (.int .i64 (1048576))), some (50, false), []⟩, AO 55 (.pick (.t 50) (.c (.bool true)) (.t 54)), AM 24 55]).seq (ACode.cond (.t 24) ((AR [AO 6 (.mv (.c (.int .i64 (9))))]).seq ACode.ret) ((AR [AO 57 (.fieldAddr 2 (.t 5)), AO 58 (.fieldAddr 0 (.t 57)), AO 59 (.load 1 false (.t 58)), AO 60 (.bin .lss (.t 59) (.c (.int .i64 (0)))), AM 61 60, ⟨some 62, .fieldAddr 2 (.t 5), some (61, false), []⟩, ⟨some 63, .fieldAddr 1 (.t 62), some (61, false), []⟩, ⟨some 64, .load 1 false (.t 63), some (61, false), []⟩, ⟨some 65, .bin .lss (.t 64) (.c (.int .i64 (0))), some (61, false), []⟩, AO 66 (.pick (.t 61) (.c (.bool true)) (.t 65)), AM 67 66, ⟨some 68, .fieldAddr 2 (.t 5), some (67, false), []⟩, ⟨some 69, .fieldAddr 0 (.t 68), some (67, false), []⟩, ⟨some 70, .load 1 false (.t 69), some (67, false), []⟩, ⟨some 71, .fieldAddr 1 (.t 7), some (67, false), []⟩, ⟨some 72, .load 1 false (.t 71), some (67, false), []⟩, ⟨some 73, .fieldAddr 4 (.t 5), some (67, false), []⟩, ⟨some 74, .load 1 false (.t 73), some (67, false), []⟩, ⟨some 75, .bin .sub (.t 72) (.t 74), some (67, false), []⟩, ⟨some 76, .bin .gtr (.t 70) (.t 75), some (67, false), []⟩, AO 77 (.pick (.t 67) (.c (.bool true)) (.t 76)), AM 78 77, ⟨some 79, .fieldAddr 2 (.t 5), some (78, false), []⟩, ⟨some 80, .fieldAddr 1 (.t 79), some (78, false), []⟩, ⟨some 81, .load 1 false (.t 80), some (78, false), []⟩, ⟨some 82, .fieldAddr 2 (.t 7), some (78, false), []⟩, ⟨some 83, .load 1 false (.t 82), some (78, false), []⟩, ⟨some 84, .fieldAddr 5 (.t 5), some (78, false), []⟩, ⟨some 85, .load 1 false (.t 84), some (78, false), []⟩, ⟨some 86, .bin .sub (.t 83) (.t 85), some (78, false), []⟩, ⟨some 87, .bin .gtr (.t 81) (.t 86), some (78, false), []⟩, AO 88 (.pick (.t 78) (.c (.bool true)) (.t 87)), AM 56 88]).seq (ACode.cond (.t 56) ((AR [AO 6 (.mv (.c (.int .i64 (18))))]).seq ACode.ret) ((AR [AM 90 1, AO 91 (.mkfn 73 [.t 5]), AO 92 (.call 72 [.t 90, .t 91]), AM 89 92]).seq (ACode.cond (.t 89) ((AR [AO 6 (.mv (.c (.int .i64 (19))))]).seq ACode.ret) ACode.skip))))))))))).seq ((AR [AO 6 (.mv (.c (.int .i64 (0))))]).seq ACode.ret))))
theorem Tryz.F51 : FnFacts Tryz.prog 51 Tryz.f51 Tryz.ac51 93 [.tmp 6] := ⟨Tryz.func51, by kernel_rfl, by kernel_rfl, by kernel_rfl, by kernel_rfl, by kernel_rfl, by kernel_rfl, by kernel_rfl⟩
def Tryz.ac52 : ACode := ((AR [AO 2 (.mv (.c (.bool false)))]).seq ((AR [AM 3 0, AO 4 (.lenStr (.t 3)), AO 5 (.bin .leq (.t 4) (.c (.int .i64 (64)))), AM 6 5, ⟨some 7, .mv (.t 0), some (6, true), []⟩, ⟨some 8, .call 76 [.t 7, .c (.string ⟨⟨[(46 : UInt8)]⟩⟩)], some (6, true), []⟩, ⟨some 9, .call 75 [.t 8], some (6, true), []⟩, AO 10 (.pick (.t 6) (.t 9) (.c (.bool false))), AM 2 10]).seq ACode.ret))
theorem Tryz.F52 : FnFacts Tryz.prog 52 Tryz.f52 Tryz.ac52 11 [.tmp 2] := ⟨Tryz.func52, by kernel_rfl, by kernel_rfl, by kernel_rfl, by kernel_rfl, by kernel_rfl, by kernel_rfl, by kernel_rfl⟩
def Tryz.ac53 : ACode := ((AR [AO 4 (.mv (.c (.slice none 0 0)))]).seq ((AR [AM 8 1, AO 9 (.buildSlice 3 1 [.t 8]), AM 5 9]).seq (((AR [AM 10 0, AO 11 (.len (.t 10)), AO 12 (.mv (.c (.int .i64 (0))))]).seq (ACode.block 0 ((AR [AO 13 (.bin .lss (.t 12) (.t 11))]).seq ((ACode.cond (.t 13) ACode.skip (ACode.exit 0)).seq ((ACode.block 1 ((AR [AO 14 (.idxAddr 8 (.t 10) (.t 12)), AO 15 (.load 8 true (.t 14)), AO 7 (.alloc [.string ⟨⟨[]⟩⟩, .string ⟨⟨[]⟩⟩, .int .i64 (0), .int .i64 (0), .int .i64 (0), .int .i64 (0), .int .i64 (0), .int .i64 (0)]), ⟨none, .store 8 (.t 7) (.t 15), none, []⟩]).seq ((AR [AO 16 (.fieldAddr 6 (.t 7)), AO 17 (.fieldAddr 1 (.t 16)), AO 18 (.load 1 false (.t 17)), AM 19 1, AO 20 (.bin .gtr (.t 18) (.t 19))]).seq (ACode.cond (.t 20) (AR [AM 21 5, AO 22 (.fieldAddr 6 (.t 7)), AO 23 (.fieldAddr 1 (.t 22)), AO 24 (.load 1 false (.t 23)), AO 25 (.buildSlice 3 1 [.t 24]), AO 26 (.append 3 1 8 (.t 21) (.t 25)), AM 5 26]) ACode.skip)))).seq (AR [AO 27 (.bin .add (.t 12) (.c (.int .i64 (1)))), AM 12 27])))).loop)).seq ((AR [AM 28 5, AO 29 (.call 77 [.t 28])]).seq ((AR [AM 30 5, AO 31 (.call 78 [.t 30]), AM 4 31]).seq ACode.ret)))))
theorem Tryz.F53 : FnFacts Tryz.prog 53 Tryz.f53 Tryz.ac53 32 [.tmp 4] := ⟨Tryz.func53, by kernel_rfl, by kernel_rfl, by kernel_rfl, by kernel_rfl, by kernel_rfl, by kernel_rfl, by kernel_rfl⟩
def Tryz.ac54 : ACode := ((AR [AO 3 (.box 1 (.t 0)), AO 5 (.box 8 (.t 2)), AO 6 (.alloc [.string ⟨⟨[]⟩⟩, .string ⟨⟨[]⟩⟩, .int .i64 (0), .int .i64 (0), .int .i64 (0), .int .i64 (0), .int .i64 (0), .int .i64 (0)]), AO 7 (.mv (.c (.bool false)))]).seq ((AR [AO 8 (.alloc [.slice none 0 0])]).seq ((AR [AO 18 (.buildSlice 3 1 [.c (.int .i64 (0))]), AO 19 (.buildSlice 3 1 [.c (.int .i64 (0))]), AM 9 18, AM 10 19]).seq (((AR [AM 20 1, AO 21 (.len (.t 20)), AO 22 (.mv (.c (.int .i64 (0))))]).seq (ACode.block 0 ((AR [AO 23 (.bin .lss (.t 22) (.t 21))]).seq ((ACode.cond (.t 23) ACode.skip (ACode.exit 0)).seq ((ACode.block 1 ((AR [AO 24 (.idxAddr 8 (.t 20) (.t 22)), AO 25 (.load 8 true (.t 24)), AO 12 (.alloc [.string ⟨⟨[]⟩⟩, .string ⟨⟨[]⟩⟩, .int .i64 (0), .int .i64 (0), .int .i64 (0), .int .i64 (0), .int .i64 (0), .int .i64 (0)]), ⟨none, .store 8 (.t 12) (.t 25), none, []⟩]).seq ((AR [AO 26 (.fieldAddr 1 (.t 12)), AO 27 (.load 1 false (.t 26)), AO 28 (.fieldAddr 1 (.t 5)), AO 29 (.load 1 false (.t 28)), AO 30 (.bin .eql (.t 27) (.t 29)), AM 31 30, ⟨some 32, .fieldAddr 6 (.t 5), some (31, true), []⟩, ⟨some 33, .fieldAddr 0 (.t 32), some (31, true), []⟩, ⟨some 34, .load 1 false (.t 33), some (31, true), []⟩, ⟨some 35, .fieldAddr 6 (.t 12), some (31, true), []⟩, ⟨some 36, .fieldAddr 1 (.t 35), some (31, true), []⟩, ⟨some 37, .load 1 false (.t 36), some (31, true), []⟩, ⟨some 38, .bin .lss (.t 34) (.t 37), some (31, true), []⟩, AO 39 (.pick (.t 31) (.t 38) (.c (.bool false))), AM 40 39, ⟨some 41, .fieldAddr 6 (.t 12), some (40, true), []⟩, ⟨some 42, .fieldAddr 0 (.t 41), some (40, true), []⟩, ⟨some 43, .load 1 false (.t 42), some (40, true), []⟩, ⟨some 44, .fieldAddr 6 (.t 5), some (40, true), []⟩, ⟨some 45, .fieldAddr 1 (.t 44), some (40, true), []⟩, ⟨some 46, .load 1 false (.t 45), some (40, true), []⟩, ⟨some 47, .bin .lss (.t 43) (.t 46), some (40, true), []⟩, AO 48 (.pick (.t 40) (.t 47) (.c (.bool false)))]).seq (ACode.cond (.t 48) ((AR [AO 49 (.load 1 false (.t 8)), AO 50 (.load 8 true (.t 12)), AO 51 (.buildSlice 48 8 [.t 50]), AO 52 (.append 48 8 80 (.t 49) (.t 51)), ⟨none, .store 1 (.t 8) (.t 52), none, []⟩]).seq (ACode.region true [AM 53 9, AO 54 (.fieldAddr 2 (.t 12)), ⟨some 55, .fieldAddr 1 (.t 54), none, [1]⟩, ⟨some 56, .load 1 false (.t 55), none, [2]⟩, AO 57 (.fieldAddr 5 (.t 12)), ⟨some 58, .load 1 false (.t 57), none, [4]⟩, ⟨some 59, .bin .add (.t 56) (.t 58), none, [3, 5]⟩, ⟨some 60, .buildSlice 3 1 [.t 59], none, [6]⟩, ⟨some 61, .append 3 1 8 (.t 53) (.t 60), none, [0, 7]⟩, AM 62 10, AO 63 (.fieldAddr 2 (.t 12)), ⟨some 64, .fieldAddr 0 (.t 63), none, [10]⟩, ⟨some 65, .load 1 false (.t 64), none, [11]⟩, AO 66 (.fieldAddr 4 (.t 12)), ⟨some 67, .load 1 false (.t 66), none, [13]⟩, ⟨some 68, .bin .add (.t 65) (.t 67), none, [12, 14]⟩, ⟨some 69, .buildSlice 3 1 [.t 68], none, [15]⟩, ⟨some 70, .append 3 1 8 (.t 62) (.t 69), none, [9, 16, 8]⟩, ⟨some 9, .mv (.t 61), none, [8, 17, 0, 1, 2, 3, 4, 5, 6, 7, 8]⟩, ⟨some 10, .mv (.t 70), none, [17, 18, 0, 1, 2, 3, 4, 5, 6, 7, 8, 9, 10, 11, 12, 13, 14, 15, 16, 17, 18]⟩])) ACode.skip)))).seq (AR [AO 71 (.bin .add (.t 22) (.c (.int .i64 (1)))), AM 22 71])))).loop)).seq ((AR [AM 72 9, AO 73 (.call 77 [.t 72])]).seq ((AR [AM 74 10, AO 75 (.call 77 [.t 74])]).seq ((AR [AO 76 (.mkfn 79 [.t 5, .t 3, .t 8]), AM 13 76]).seq (((AR [AM 77 9, AO 78 (.call 78 [.t 77]), AO 79 (.len (.t 78)), AO 80 (.mv (.c (.int .i64 (0))))]).seq (ACode.block 2 ((AR [AO 81 (.bin .lss (.t 80) (.t 79))]).seq ((ACode.cond (.t 81) ACode.skip (ACode.exit 2)).seq ((ACode.block 3 ((AR [AO 82 (.idxAddr 1 (.t 78) (.t 80)), AO 83 (.load 1 false (.t 82)), AM 15 83]).seq ((AR [AM 84 10, AO 85 (.call 78 [.t 84]), AO 86 (.len (.t 85)), AO 87 (.mv (.c (.int .i64 (0))))]).seq (ACode.block 4 ((AR [AO 88 (.bin .lss (.t 87) (.t 86))]).seq ((ACode.cond (.t 88) ACode.skip (ACode.exit 4)).seq ((ACode.block 5 ((AR [AO 89 (.idxAddr 1 (.t 85) (.t 87)), AO 90 (.load 1 false (.t 89)), AM 17 90]).seq ((AR [AM 91 13, AM 92 17, AM 93 15, AO 94 (.build [.int .i64 (0), .int .i64 (0)] [(0, 1, .t 92), (1, 1, .t 93)]), AO 95 (.callv (.t 91) [.t 94])]).seq (ACode.cond (.t 95) ((AR [AO 96 (.load 8 true (.t 5)), ⟨none, .store 8 (.t 6) (.t 96), none, []⟩, AO 7 (.mv (.c (.bool true)))]).seq ACode.ret) ACode.skip)))).seq (AR [AO 97 (.bin .add (.t 87) (.c (.int .i64 (1)))), AM 87 97])))).loop)))).seq (AR [AO 98 (.bin .add (.t 80) (.c (.int .i64 (1)))), AM 80 98])))).loop)).seq ((AR [AO 99 (.build [.string ⟨⟨[]⟩⟩, .string ⟨⟨[]⟩⟩, .int .i64 (0), .int .i64 (0), .int .i64 (0), .int .i64 (0), .int .i64 (0), .int .i64 (0)] []), ⟨none, .store 8 (.t 6) (.t 99), none, []⟩, AO 7 (.mv (.c (.bool false)))]).seq ACode.ret)))))))))
theorem Tryz.F54 : FnFacts Tryz.prog 54 Tryz.f54 Tryz.ac54 100 [.cell 6 48, .tmp 7] := ⟨Tryz.func54, by kernel_rfl, by kernel_rfl, by kernel_rfl, by kernel_rfl, by kernel_rfl, by kernel_rfl, by kernel_rfl⟩
def Tryz.ac55 : ACode := ((AR [AO 2 (.mv (.c (.int .i64 (0))))]).seq (((AR [AO 3 (.mv (.c (.int .i64 (0))))]).seq (ACode.block 0 (((AR [AM 5 3, AM 6 0, AO 7 (.len (.t 6)), AO 8 (.bin .lss (.t 5) (.t 7))]).seq (ACode.cond (.t 8) ACode.skip (ACode.exit 0))).seq ((ACode.block 1 ((AR [AM 11 0, AM 12 3, AO 13 (.idxAddr 3 (.t 11) (.t 12)), AO 14 (.load 3 true (.t 13)), AO 4 (.alloc [.string ⟨⟨[]⟩⟩, .int .i64 (0), .int .i64 (0)]), ⟨none, .store 3 (.t 4) (.t 14), none, []⟩]).seq (((AR [AO 15 (.fieldAddr 0 (.t 4)), AO 16 (.load 1 false (.t 15)), AO 17 (.call 68 [.t 16]), AO 18 (.un .not (.t 17))]).seq (ACode.cond (.t 18) ((AR [AO 2 (.mv (.c (.int .i64 (6))))]).seq ACode.ret) ACode.skip)).seq (((AR [AO 19 (.fieldAddr 1 (.t 4)), AO 20 (.load 1 false (.t 19)), AO 21 (.call 57 [.t 20, .c (.int .i64 (1)), .c (.int .i64 (524288))]), AO 22 (.un .not (.t 21)), AM 23 22, ⟨some 24, .fieldAddr 2 (.t 4), some (23, false), []⟩, ⟨some 25, .load 1 false (.t 24), some (23, false), []⟩, ⟨some 26, .call 57 [.t 25, .c (.int .i64 (1)), .c (.int .i64 (524288))], some (23, false), []⟩, ⟨some 27, .un .not (.t 26), some (23, false), []⟩, AO 28 (.pick (.t 23) (.c (.bool true)) (.t 27))]).seq (ACode.cond (.t 28) ((AR [AO 2 (.mv (.c (.int .i64 (9))))]).seq ACode.ret) ACode.skip)).seq ((ACode.region true [AM 29 0, AM 30 3, ⟨some 31, .slice 3 (.t 29) none (some (.t 30)), none, [0, 1]⟩, AO 32 (.fieldAddr 0 (.t 4)), ⟨some 33, .load 1 false (.t 32), none, [3]⟩, ⟨some 34, .call 80 [.t 31, .t 33], none, [2, 4]⟩, ⟨some 35, .bin .geq (.t 34) (.c (.int .i64 (0))), none, [5]⟩]).seq (ACode.cond (.t 35) ((AR [AO 2 (.mv (.c (.int .i64 (7))))]).seq ACode.ret) ACode.skip)))))).seq (AR [AM 9 3, AO 10 (.bin .add (.t 9) (.c (.int .i64 (1)))), AM 3 10]))).loop)).seq ((AR [AO 2 (.mv (.c (.int .i64 (0))))]).seq ACode.ret)))
theorem Tryz.F55 : FnFacts Tryz.prog 55 Tryz.f55 Tryz.ac55 36 [.tmp 2] := ⟨Tryz.func55, by kernel_rfl, by kernel_rfl, by kernel_rfl, by kernel_rfl, by kernel_rfl, by kernel_rfl, by kernel_rfl⟩
def Tryz.ac56 : ACode := ((AR [AO 5 (.box 8 (.t 2)), AO 6 (.mv (.c (.int .i64 (0))))]).seq (((AR [AO 9 (.fieldAddr 0 (.t 5)), AO 10 (.load 1 false (.t 9)), AO 11 (.call 46 [.t 10]), AO 12 (.un .not (.t 11))]).seq (ACode.cond (.t 12) ((AR [AO 6 (.mv (.c (.int .i64 (6))))]).seq ACode.ret) ACode.skip)).seq ((AR [AM 13 0, AO 14 (.fieldAddr 1 (.t 5)), AO 15 (.load 1 false (.t 14)), AO 16 (.call 80 [.t 13, .t 15]), AM 7 16]).seq (((AR [AM 17 7, AO 18 (.bin .lss (.t 17) (.c (.int .i64 (0))))]).seq (ACode.cond (.t 18) ((AR [AO 6 (.mv (.c (.int .i64 (8))))]).seq ACode.ret) ACode.skip)).seq (((AR [AO 19 (.fieldAddr 4 (.t 5)), AO 20 (.load 1 false (.t 19)), AO 21 (.call 57 [.t 20, .c (.int .i64 (1)), .c (.int .i64 (524288))]), AO 22 (.un .not (.t 21)), AM 23 22, ⟨some 24, .fieldAddr 5 (.t 5), some (23, false), []⟩, ⟨some 25, .load 1 false (.t 24), some (23, false), []⟩, ⟨some 26, .call 57 [.t 25, .c (.int .i64 (1)), .c (.int .i64 (524288))], some (23, false), []⟩, ⟨some 27, .un .not (.t 26), some (23, false), []⟩, AO 28 (.pick (.t 23) (.c (.bool true)) (.t 27)), AM 29 28, ⟨some 30, .fieldAddr 6 (.t 5), some (29, false), []⟩, ⟨some 31, .fieldAddr 0 (.t 30), some (29, false), []⟩, ⟨some 32, .load 1 false (.t 31), some (29, false), []⟩, ⟨some 33, .bin .lss (.t 32) (.c (.int .i64 (0))), some (29, false), []⟩, AO 34 (.pick (.t 29) (.c (.bool true)) (.t 33)), AM 35 34, ⟨some 36, .fieldAddr 6 (.t 5), some (35, false), []⟩, ⟨some 37, .fieldAddr 0 (.t 36), some (35, false), []⟩, ⟨some 38, .load 1 false (.t 37), some (35, false), []⟩, ⟨some 39, .fieldAddr 6 (.t 5), some (35, false), []⟩, ⟨some 40, .fieldAddr 1 (.t 39), some (35, false), []⟩, ⟨some 41, .load 1 false (.t 40), some (35, false), []⟩, ⟨some 42, .bin .geq (.t 38) (.t 41), some (35, false), []⟩, AO 43 (.pick (.t 35) (.c (.bool true)) (.t 42)), AM 44 43, ⟨some 45, .fieldAddr 6 (.t 5), some (44, false), []⟩, ⟨some 46, .fieldAddr 1 (.t 45), some (44, false), []⟩, ⟨some 47, .load 1 false (.t 46), some (44, false), []⟩, ⟨some 48, .bin .gtr (.t 47) (.c (.int .i64 (1048576))), some (44, false), []⟩, AO 49 (.pick (.t 44) (.c (.bool true)) (.t 48))]).seq (ACode.cond (.t 49) ((AR [AO 6 (.mv (.c (.int .i64 (9))))]).seq ACode.ret) ACode.skip)).seq (((ACode.region true [AO 50 (.fieldAddr 2 (.t 5)), ⟨some 51, .fieldAddr 0 (.t 50), none, [0]⟩, ⟨some 52, .load 1 false (.t 51), none, [1]⟩, AM 53 0, AM 54 7, ⟨some 55, .idxAddr 3 (.t 53) (.t 54), none, [3, 4]⟩, ⟨some 56, .fieldAddr 1 (.t 55), none, [5]⟩, ⟨some 57, .load 1 false (.t 56), none, [6]⟩, AO 58 (.fieldAddr 4 (.t 5)), ⟨some 59, .load 1 false (.t 58), none, [8]⟩, ⟨some 60, .bin .sub (.t 57) (.t 59), none, [7, 9]⟩, ⟨some 61, .call 57 [.t 52, .c (.int .i64 (0)), .t 60], none, [2, 10]⟩, ⟨some 62, .un .not (.t 61), none, [11]⟩, ⟨some 63, .mv (.t 62), none, [12, 11]⟩, ⟨some 64, .fieldAddr 2 (.t 5), some (63, false), [13]⟩, ⟨some 65, .fieldAddr 1 (.t 64), some (63, false), [14, 13]⟩, ⟨some 66, .load 1 false (.t 65), some (63, false), [15, 13]⟩, ⟨some 67, .mv (.t 0), some (63, false), [13]⟩, ⟨some 68, .mv (.t 7), some (63, false), [13]⟩, ⟨some 69, .idxAddr 3 (.t 67) (.t 68), some (63, false), [17, 18, 13]⟩, ⟨some 70, .fieldAddr 2 (.t 69), some (63, false), [19, 13]⟩, ⟨some 71, .load 1 false (.t 70), some (63, false), [20, 13]⟩, ⟨some 72, .fieldAddr 5 (.t 5), some (63, false), [13]⟩, ⟨some 73, .load 1 false (.t 72), some (63, false), [22, 13]⟩, ⟨some 74, .bin .sub (.t 71) (.t 73), some (63, false), [21, 23, 13]⟩, ⟨some 75, .call 57 [.t 66, .c (.int .i64 (0)), .t 74], some (63, false), [16, 24, 13, 13]⟩, ⟨some 76, .un .not (.t 75), some (63, false), [25, 13]⟩, ⟨some 77, .pick (.t 63) (.c (.bool true)) (.t 76), none, [13, 26]⟩]).seq (ACode.cond (.t 77) ((AR [AO 6 (.mv (.c (.int .i64 (18))))]).seq ACode.ret) ACode.skip)).seq (((AR [AO 8 (.mv (.c (.int .i64 (0))))]).seq (ACode.block 0 (((AR [AM 78 8, AM 79 1, AO 80 (.len (.t 79)), AO 81 (.bin .lss (.t 78) (.t 80))]).seq (ACode.cond (.t 81) ACode.skip (ACode.exit 0))).seq ((ACode.block 1 ((ACode.region true [AM 84 1, AM 85 8, ⟨some 86, .idxAddr 8 (.t 84) (.t 85), none, [0, 1]⟩, ⟨some 87, .load 8 true (.t 86), none, [2]⟩, AO 88 (.load 8 true (.t 5)), ⟨some 89, .call 81 [.t 87, .t 88], none, [3, 4]⟩]).seq (ACode.cond (.t 89) ((AR [AO 6 (.mv (.c (.int .i64 (19))))]).seq ACode.ret) ACode.skip))).seq (AR [AM 82 8, AO 83 (.bin .add (.t 82) (.c (.int .i64 (1)))), AM 8 83]))).loop)).seq ((AR [AO 6 (.mv (.c (.int .i64 (0))))]).seq ACode.ret))))))))
theorem Tryz.F56 : FnFacts Tryz.prog 56 Tryz.f56 Tryz.ac56 90 [.tmp 6] := ⟨Tryz.func56, by kernel_rfl, by kernel_rfl, by kernel_rfl, by kernel_rfl, by kernel_rfl, by kernel_rfl, by kernel_rfl⟩
def Tryz.ac57 : ACode := ((AR [AO 6 (.mv (.c (.bool false)))]).seq ((AR [AM 7 0, AM 8 1, AO 9 (.bin .geq (.t 7) (.t 8)), AM 10 9, ⟨some 11, .mv (.t 0), some (10, true), []⟩, ⟨some 12, .mv (.t 2), some (10, true), []⟩, ⟨some 13, .bin .leq (.t 11) (.t 12), some (10, true), []⟩, AO 14 (.pick (.t 10) (.t 13) (.c (.bool false))), AM 6 14]).seq ACode.ret))
theorem Tryz.F57 : FnFacts Tryz.prog 57 Tryz.f57 Tryz.ac57 15 [.tmp 6] := ⟨Tryz.func57, by kernel_rfl, by kernel_rfl, by kernel_rfl, by kernel_rfl, by kernel_rfl, by kernel_rfl, by kernel_rfl⟩
def Tryz.ac61 : ACode := ((AR [AO 6 (.mv (.c (.bool false)))]).seq ((AR [AM 7 0, AM 8 1, AO 9 (.bin .geq (.t 7) (.t 8)), AM 10 9, ⟨some 11, .mv (.t 0), some (10, true), []⟩, ⟨some 12, .mv (.t 2), some (10, true), []⟩, ⟨some 13, .bin .leq (.t 11) (.t 12), some (10, true), []⟩, AO 14 (.pick (.t 10) (.t 13) (.c (.bool false))), AM 6 14]).seq ACode.ret))
theorem Tryz.F61 : FnFacts Tryz.prog 61 Tryz.f61 Tryz.ac61 15 [.tmp 6] := ⟨Tryz.func61, by kernel_rfl, by kernel_rfl, by kernel_rfl, by kernel_rfl, by kernel_rfl, by kernel_rfl, by kernel_rfl⟩
def Tryz.ac66 : ACode := ((AR [AO 4 (.mv (.c (.int .i64 (0))))]).seq (((AR [AM 6 0, AO 7 (.len (.t 6)), AO 8 (.mv (.c (.int .i64 (0))))]).seq (ACode.block 0 ((AR [AO 9 (.bin .lss (.t 8) (.t 7))]).seq ((ACode.cond (.t 9) ACode.skip (ACode.exit 0)).seq ((ACode.block 1 ((AR [AM 10 8, AM 5 10]).seq ((AR [AM 11 1, AM 12 0, AM 13 5, AO 14 (.idxAddr 1 (.t 12) (.t 13)), AO 15 (.load 1 false (.t 14)), AO 16 (.callv (.t 11) [.t 15])]).seq (ACode.cond (.t 16) ((AR [AM 17 5, AM 4 17]).seq ACode.ret) ACode.skip)))).seq (AR [AO 18 (.bin .add (.t 8) (.c (.int .i64 (1)))), AM 8 18])))).loop)).seq ((AR [AO 4 (.mv (.c (.int .i64 (Int.negSucc 0))))]).seq ACode.ret)))
theorem Tryz.F66 : FnFacts Tryz.prog 66 Tryz.f66 Tryz.ac66 19 [.tmp 4] := ⟨Tryz.func66, by kernel_rfl, by kernel_rfl, by kernel_rfl, by kernel_rfl, by kernel_rfl, by kernel_rfl, by kernel_rfl⟩
def Tryz.ac67 : ACode := ((AR [AO 2 (.mv (.c (.slice none 0 0)))]).seq ((AR [AO 3 (.mv (.c (.slice none 0 0)))]).seq ((AR [AO 4 (.mv (.c (.int .i64 (0))))]).seq (((AR [AO 5 (.mv (.c (.int .i64 (0))))]).seq (ACode.block 0 (((AR [AM 6 5, AM 7 0, AO 8 (.lenStr (.t 7)), AO 9 (.bin .leq (.t 6) (.t 8))]).seq (ACode.cond (.t 9) ACode.skip (ACode.exit 0))).seq ((ACode.block 1 ((AR [AM 12 5, AM 13 0, AO 14 (.lenStr (.t 13)), AO 15 (.bin .eql (.t 12) (.t 14)), AM 16 15, ⟨some 17, .mv (.t 0), some (16, false), []⟩, ⟨some 18, .mv (.t 5), some (16, false), []⟩, ⟨some 19, .idxStr (.t 17) (.t 18), some (16, false), []⟩, ⟨some 20, .bin .eql (.t 19) (.c (.int .u8 (46))), some (16, false), []⟩, AO 21 (.pick (.t 16) (.c (.bool true)) (.t 20))]).seq (ACode.cond (.t 21) ((AR [AM 22 3, AM 23 0, AM 24 4, AM 25 5, AO 26 (.sliceStr (.t 23) (some (.t 24)) (some (.t 25))), AO 27 (.buildSlice 9 1 [.t 26]), AO 28 (.append 9 1 16 (.t 22) (.t 27)), AM 3 28]).seq (AR [AM 29 5, AO 30 (.bin .add (.t 29) (.c (.int .i64 (1)))), AM 4 30])) ACode.skip))).seq (AR [AM 10 5, AO 11 (.bin .add (.t 10) (.c (.int .i64 (1)))), AM 5 11]))).loop)).seq ((AR [AM 31 3, AM 2 31]).seq ACode.ret)))))
theorem Tryz.F67 : FnFacts Tryz.prog 67 Tryz.f67 Tryz.ac67 32 [.tmp 2] := ⟨Tryz.func67, by kernel_rfl, by kernel_rfl, by kernel_rfl, by kernel_rfl, by kernel_rfl, by kernel_rfl, by kernel_rfl⟩
def Tryz.ac68 : ACode := ((AR [AO 2 (.mv (.c (.bool false)))]).seq (((AR [AM 4 0, AO 5 (.bin .eql (.t 4) (.c (.string ⟨⟨[]⟩⟩))), AM 6 5, ⟨some 7, .mv (.t 0), some (6, false), []⟩, ⟨some 8, .lenStr (.t 7), some (6, false), []⟩, ⟨some 9, .bin .gtr (.t 8) (.c (.int .i64 (16))), some (6, false), []⟩, AO 10 (.pick (.t 6) (.c (.bool true)) (.t 9)), AM 11 10, ⟨some 12, .mv (.t 0), some (11, false), []⟩, ⟨some 13, .idxStr (.t 12) (.c (.int .i64 (0))), some (11, false), []⟩, ⟨some 14, .call 85 [.t 13], some (11, false), []⟩, ⟨some 15, .un .not (.t 14), some (11, false), []⟩, AO 16 (.pick (.t 11) (.c (.bool true)) (.t 15))]).seq (ACode.cond (.t 16) ((AR [AO 2 (.mv (.c (.bool false)))]).seq ACode.ret) ACode.skip)).seq (((AR [AO 3 (.mv (.c (.int .i64 (0))))]).seq (ACode.block 0 (((AR [AM 17 3, AM 18 0, AO 19 (.lenStr (.t 18)), AO 20 (.bin .lss (.t 17) (.t 19))]).seq (ACode.cond (.t 20) ACode.skip (ACode.exit 0))).seq ((ACode.block 1 ((AR [AM 23 0, AM 24 3, AO 25 (.idxStr (.t 23) (.t 24)), AO 26 (.call 85 [.t 25]), AO 27 (.un .not (.t 26)), AM 28 27, ⟨some 29, .mv (.t 0), some (28, true), []⟩, ⟨some 30, .mv (.t 3), some (28, true), []⟩, ⟨some 31, .idxStr (.t 29) (.t 30), some (28, true), []⟩, ⟨some 32, .call 86 [.t 31], some (28, true), []⟩, ⟨some 33, .un .not (.t 32), some (28, true), []⟩, AO 34 (.pick (.t 28) (.t 33) (.c (.bool false))), AM 35 34, ⟨some 36, .mv (.t 0), some (35, true), []⟩, ⟨some 37, .mv (.t 3), some (35, true), []⟩, ⟨some 38, .idxStr (.t 36) (.t 37), some (35, true), []⟩, ⟨some 39, .bin .neq (.t 38) (.c (.int .u8 (95))), some (35, true), []⟩, AO 40 (.pick (.t 35) (.t 39) (.c (.bool false))), AM 41 40, ⟨some 42, .mv (.t 0), some (41, true), []⟩, ⟨some 43, .mv (.t 3), some (41, true), []⟩, ⟨some 44, .idxStr (.t 42) (.t 43), some (41, true), []⟩, ⟨some 45, .bin .neq (.t 44) (.c (.int .u8 (45))), some (41, true), []⟩, AO 46 (.pick (.t 41) (.t 45) (.c (.bool false)))]).seq (ACode.cond (.t 46) ((AR [AO 2 (.mv (.c (.bool false)))]).seq ACode.ret) ACode.skip))).seq (AR [AM 21 3, AO 22 (.bin .add (.t 21) (.c (.int .i64 (1)))), AM 3 22]))).loop)).seq ((AR [AO 2 (.mv (.c (.bool true)))]).seq ACode.ret))))
theorem Tryz.F68 : FnFacts Tryz.prog 68 Tryz.f68 Tryz.ac68 47 [.tmp 2] := ⟨Tryz.func68, by kernel_rfl, by kernel_rfl, by kernel_rfl, by kernel_rfl, by kernel_rfl, by kernel_rfl, by kernel_rfl⟩
def Tryz.ac70 : ACode := ((AR [AO 4 (.mv (.c (.int .i64 (0))))]).seq (((AR [AM 6 0, AO 7 (.len (.t 6)), AO 8 (.mv (.c (.int .i64 (0))))]).seq (ACode.block 0 ((AR [AO 9 (.bin .lss (.t 8) (.t 7))]).seq ((ACode.cond (.t 9) ACode.skip (ACode.exit 0)).seq ((ACode.block 1 ((AR [AM 10 8, AM 5 10]).seq ((AR [AM 11 1, AM 12 0, AM 13 5, AO 14 (.idxAddr 3 (.t 12) (.t 13)), AO 15 (.load 3 true (.t 14)), AO 16 (.callv (.t 11) [.t 15])]).seq (ACode.cond (.t 16) ((AR [AM 17 5, AM 4 17]).seq ACode.ret) ACode.skip)))).seq (AR [AO 18 (.bin .add (.t 8) (.c (.int .i64 (1)))), AM 8 18])))).loop)).seq ((AR [AO 4 (.mv (.c (.int .i64 (Int.negSucc 0))))]).seq ACode.ret)))
theorem Tryz.F70 : FnFacts Tryz.prog 70 Tryz.f70 Tryz.ac70 19 [.tmp 4] := ⟨Tryz.func70, by kernel_rfl, by kernel_rfl, by kernel_rfl, by kernel_rfl, by kernel_rfl, by kernel_rfl, by kernel_rfl⟩
def Tryz.ac71 : ACode := ((AR [AO 2 (.box 3 (.t 0)), AO 3 (.mv (.c (.bool false)))]).seq ((AR [AO 4 (.fieldAddr 0 (.t 2)), AO 5 (.load 1 false (.t 4)), AO 6 (.load 1 false (.t 1)), AO 7 (.bin .eql (.t 5) (.t 6)), AM 3 7]).seq ACode.ret))
theorem Tryz.F71 : FnFacts Tryz.prog 71 Tryz.f71 Tryz.ac71 8 [.tmp 3] := ⟨Tryz.func71, by kernel_rfl, by kernel_rfl, by kernel_rfl, by kernel_rfl, by kernel_rfl, by kernel_rfl, by kernel_rfl⟩
def Tryz.ac72 : ACode := ((AR [AO 4 (.mv (.c (.bool false)))]).seq ((AR [AM 5 0, AM 6 1, AO 7 (.call 88 [.t 5, .t 6]), AO 8 (.bin .geq (.t 7) (.c (.int .i64 (0)))), AM 4 8]).seq ACode.ret))
theorem Tryz.F72 : FnFacts Tryz.prog 72 Tryz.f72 Tryz.ac72 9 [.tmp 4] := ⟨Tryz.func72, by kernel_rfl, by kernel_rfl, by kernel_rfl, by kernel_rfl, by kernel_rfl, by kernel_rfl, by kernel_rfl⟩
def Tryz.ac73 : ACode := ((AR [AO 2 (.box 8 (.t 0)), AO 3 (.mv (.c (.bool false)))]).seq ((AR [AO 4 (.load 8 true (.t 1)), AO 5 (.load 8 true (.t 2)), AO 6 (.call 74 [.t 4, .t 5]), AM 3 6]).seq ACode.ret))
theorem Tryz.F73 : FnFacts Tryz.prog 73 Tryz.f73 Tryz.ac73 7 [.tmp 3] := ⟨Tryz.func73, by kernel_rfl, by kernel_rfl, by kernel_rfl, by kernel_rfl, by kernel_rfl, by kernel_rfl, by kernel_rfl⟩
def Tryz.ac74 : ACode := ((AR [AO 2 (.box 8 (.t 0)), AO 3 (.box 8 (.t 1)), AO 4 (.mv (.c (.bool false)))]).seq ((AR [AO 5 (.fieldAddr 1 (.t 2)), AO 6 (.load 1 false (.t 5)), AO 7 (.fieldAddr 1 (.t 3)), AO 8 (.load 1 false (.t 7)), AO 9 (.bin .eql (.t 6) (.t 8)), AM 10 9, ⟨some 11, .fieldAddr 6 (.t 2), some (10, true), []⟩, ⟨some 12, .fieldAddr 0 (.t 11), some (10, true), []⟩, ⟨some 13, .load 1 false (.t 12), some (10, true), []⟩, ⟨some 14, .fieldAddr 6 (.t 3), some (10, true), []⟩, ⟨some 15, .fieldAddr 1 (.t 14), some (10, true), []⟩, ⟨some 16, .load 1 false (.t 15), some (10, true), []⟩, ⟨some 17, .bin .lss (.t 13) (.t 16), some (10, true), []⟩, AO 18 (.pick (.t 10) (.t 17) (.c (.bool false))), AM 19 18, ⟨some 20, .fieldAddr 6 (.t 3), some (19, true), []⟩, ⟨some 21, .fieldAddr 0 (.t 20), some (19, true), []⟩, ⟨some 22, .load 1 false (.t 21), some (19, true), []⟩, ⟨some 23, .fieldAddr 6 (.t 2), some (19, true), []⟩, ⟨some 24, .fieldAddr 1 (.t 23), some (19, true), []⟩, ⟨some 25, .load 1 false (.t 24), some (19, true), []⟩, ⟨some 26, .bin .lss (.t 22) (.t 25), some (19, true), []⟩, AO 27 (.pick (.t 19) (.t 26) (.c (.bool false))), AM 28 27, ⟨some 29, .fieldAddr 2 (.t 2), some (28, true), []⟩, ⟨some 30, .fieldAddr 0 (.t 29), some (28, true), []⟩, ⟨some 31, .load 1 false (.t 30), some (28, true), []⟩, ⟨some 32, .fieldAddr 4 (.t 2), some (28, true), []⟩, ⟨some 33, .load 1 false (.t 32), some (28, true), []⟩, ⟨some 34, .fieldAddr 2 (.t 3), some (28, true), []⟩, ⟨some 35, .fieldAddr 0 (.t 34), some (28, true), []⟩, ⟨some 36, .load 1 false (.t 35), some (28, true), []⟩, ⟨some 37, .fieldAddr 4 (.t 3), some (28, true), []⟩, ⟨some 38, .load 1 false (.t 37), some (28, true), []⟩, ⟨some 39, .call 89 [.t 31, .t 33, .t 36, .t 38], some (28, true), []⟩, AO 40 (.pick (.t 28) (.t 39) (.c (.bool false))), AM 41 40, ⟨some 42, .fieldAddr 2 (.t 2), some (41, true), []⟩, ⟨some 43, .fieldAddr 1 (.t 42), some (41, true), []⟩, ⟨some 44, .load 1 false (.t 43), some (41, true), []⟩, ⟨some 45, .fieldAddr 5 (.t 2), some (41, true), []⟩, ⟨some 46, .load 1 false (.t 45), some (41, true), []⟩, ⟨some 47, .fieldAddr 2 (.t 3), some (41, true), []⟩, ⟨some 48, .fieldAddr 1 (.t 47), some (41, true), []⟩, ⟨some 49, .load 1 false (.t 48), some (41, true), []⟩, ⟨some 50, .fieldAddr 5 (.t 3), some (41, true), []⟩, ⟨some 51, .load 1 false (.t 50), some (41, true), []⟩, ⟨some 52, .call 89 [.t 44, .t 46, .t 49, .t 51], some (41, true), []⟩, AO 53 (.pick (.t 41) (.t 52) (.c (.bool false))), AM 4 53]).seq ACode.ret))
theorem Tryz.F74 : FnFacts Tryz.prog 74 Tryz.f74 Tryz.ac74 54 [.tmp 4] := ⟨Tryz.func74, by kernel_rfl, by kernel_rfl, by kernel_rfl, by kernel_rfl, by kernel_rfl, by kernel_rfl, by kernel_rfl⟩
def Tryz.ac75 : ACode := ((AR [AO 2 (.mv (.c (.bool false)))]).seq ((AR [AM 6 0, AO 7 (.len (.t 6)), AO 8 (.bin .sub (.t 7) (.c (.int .i64 (1)))), AM 3 8]).seq (((AR [AM 9 0, AO 10 (.len (.t 9)), AO 11 (.mv (.c (.int .i64 (0))))]).seq (ACode.block 0 ((AR [AO 12 (.bin .lss (.t 11) (.t 10))]).seq ((ACode.cond (.t 12) ACode.skip (ACode.exit 0)).seq ((ACode.block 1 ((AR [AO 13 (.idxAddr 1 (.t 9) (.t 11)), AO 14 (.load 1 false (.t 13)), AM 5 14]).seq (((AR [AM 15 5, AO 16 (.call 48 [.t 15]), AO 17 (.un .not (.t 16))]).seq (ACode.cond (.t 17) ((AR [AO 2 (.mv (.c (.bool false)))]).seq ACode.ret) ACode.skip)).seq (AR [AM 18 3, AM 19 5, AO 20 (.lenStr (.t 19)), AO 21 (.bin .add (.t 18) (.t 20)), AM 3 21])))).seq (AR [AO 22 (.bin .add (.t 11) (.c (.int .i64 (1)))), AM 11 22])))).loop)).seq ((AR [AM 23 0, AO 24 (.len (.t 23)), AO 25 (.bin .geq (.t 24) (.c (.int .i64 (1)))), AM 26 25, ⟨some 27, .mv (.t 0), some (26, true), []⟩, ⟨some 28, .len (.t 27), some (26, true), []⟩, ⟨some 29, .bin .leq (.t 28) (.c (.int .i64 (8))), some (26, true), []⟩, AO 30 (.pick (.t 26) (.t 29) (.c (.bool false))), AM 31 30, ⟨some 32, .mv (.t 3), some (31, true), []⟩, ⟨some 33, .bin .leq (.t 32) (.c (.int .i64 (64))), some (31, true), []⟩, AO 34 (.pick (.t 31) (.t 33) (.c (.bool false))), AM 2 34]).seq ACode.ret))))
theorem Tryz.F75 : FnFacts Tryz.prog 75 Tryz.f75 Tryz.ac75 35 [.tmp 2] := ⟨Tryz.func75, by kernel_rfl, by kernel_rfl, by kernel_rfl, by kernel_rfl, by kernel_rfl, by kernel_rfl, by kernel_rfl⟩
def Tryz.ac76 : ACode := ((AR [AO 4 (.mv (.c (.slice none 0 0)))]).seq ((AR [AM 5 0, AM 6 1, AO 7 (.call 90 [.t 5, .t 6, .c (.int .i64 (0)), .c (.int .i64 (Int.negSucc 0))]), AM 4 7]).seq ACode.ret))
theorem Tryz.F76 : FnFacts Tryz.prog 76 Tryz.f76 Tryz.ac76 8 [.tmp 4] := ⟨Tryz.func76, by kernel_rfl, by kernel_rfl, by kernel_rfl, by kernel_rfl, by kernel_rfl, by kernel_rfl, by kernel_rfl⟩
def Tryz.ac79 : ACode := ((AR [AO 4 (.box 2 (.t 0)), AO 5 (.mv (.c (.bool false)))]).seq ((AR [AO 6 (.load 2 true (.t 4)), AO 7 (.fieldAddr 2 (.t 1)), ⟨none, .store 2 (.t 7) (.t 6), none, []⟩]).seq ((AR [AO 8 (.load 1 false (.t 2)), AO 9 (.load 1 false (.t 3)), AO 10 (.load 8 true (.t 1)), AO 11 (.call 51 [.t 8, .t 9, .t 10]), AO 12 (.bin .eql (.t 11) (.c (.int .i64 (0)))), AM 5 12]).seq ACode.ret)))
theorem Tryz.F79 : FnFacts Tryz.prog 79 Tryz.f79 Tryz.ac79 13 [.tmp 5] := ⟨Tryz.func79, by kernel_rfl, by kernel_rfl, by kernel_rfl, by kernel_rfl, by kernel_rfl, by kernel_rfl, by kernel_rfl⟩
def Tryz.ac80 : ACode := ((AR [AO 4 (.mv (.c (.int .i64 (0))))]).seq (((AR [AO 5 (.mv (.c (.int .i64 (0))))]).seq (ACode.block 0 (((AR [AM 6 5, AM 7 0, AO 8 (.len (.t 7)), AO 9 (.bin .lss (.t 6) (.t 8))]).seq (ACode.cond (.t 9) ACode.skip (ACode.exit 0))).seq ((ACode.block 1 ((AR [AM 12 0, AM 13 5, AO 14 (.idxAddr 3 (.t 12) (.t 13)), AO 15 (.fieldAddr 0 (.t 14)), AO 16 (.load 1 false (.t 15)), AM 17 1, AO 18 (.bin .eql (.t 16) (.t 17))]).seq (ACode.cond (.t 18) ((AR [AM 19 5, AM 4 19]).seq ACode.ret) ACode.skip))).seq (AR [AM 10 5, AO 11 (.bin .add (.t 10) (.c (.int .i64 (1)))), AM 5 11]))).loop)).seq ((AR [AO 4 (.mv (.c (.int .i64 (Int.negSucc 0))))]).seq ACode.ret)))
theorem Tryz.F80 : FnFacts Tryz.prog 80 Tryz.f80 Tryz.ac80 20 [.tmp 4] := ⟨Tryz.func80, by kernel_rfl, by kernel_rfl, by kernel_rfl, by kernel_rfl, by kernel_rfl, by kernel_rfl, by kernel_rfl⟩
def Tryz.ac81 : ACode := ((AR [AO 2 (.box 8 (.t 0)), AO 3 (.box 8 (.t 1)), AO 4 (.mv (.c (.bool false)))]).seq ((AR [AO 5 (.fieldAddr 1 (.t 2)), AO 6 (.load 1 false (.t 5)), AO 7 (.fieldAddr 1 (.t 3)), AO 8 (.load 1 false (.t 7)), AO 9 (.bin .eql (.t 6) (.t 8)), AM 10 9, ⟨some 11, .fieldAddr 6 (.t 2), some (10, true), []⟩, ⟨some 12, .fieldAddr 0 (.t 11), some (10, true), []⟩, ⟨some 13, .load 1 false (.t 12), some (10, true), []⟩, ⟨some 14, .fieldAddr 6 (.t 3), some (10, true), []⟩, ⟨some 15, .fieldAddr 1 (.t 14), some (10, true), []⟩, ⟨some 16, .load 1 false (.t 15), some (10, true), []⟩, ⟨some 17, .bin .lss (.t 13) (.t 16), some (10, true), []⟩, AO 18 (.pick (.t 10) (.t 17) (.c (.bool false))), AM 19 18, ⟨some 20, .fieldAddr 6 (.t 3), some (19, true), []⟩, ⟨some 21, .fieldAddr 0 (.t 20), some (19, true), []⟩, ⟨some 22, .load 1 false (.t 21), some (19, true), []⟩, ⟨some 23, .fieldAddr 6 (.t 2), some (19, true), []⟩, ⟨some 24, .fieldAddr 1 (.t 23), some (19, true), []⟩, ⟨some 25, .load 1 false (.t 24), some (19, true), []⟩, ⟨some 26, .bin .lss (.t 22) (.t 25), some (19, true), []⟩, AO 27 (.pick (.t 19) (.t 26) (.c (.bool false))), AM 28 27, ⟨some 29, .fieldAddr 2 (.t 2), some (28, true), []⟩, ⟨some 30, .fieldAddr 0 (.t 29), some (28, true), []⟩, ⟨some 31, .load 1 false (.t 30), some (28, true), []⟩, ⟨some 32, .fieldAddr 2 (.t 3), some (28, true), []⟩, ⟨some 33, .fieldAddr 0 (.t 32), some (28, true), []⟩, ⟨some 34, .load 1 false (.t 33), some (28, true), []⟩, ⟨some 35, .fieldAddr 4 (.t 3), some (28, true), []⟩, ⟨some 36, .load 1 false (.t 35), some (28, true), []⟩, ⟨some 37, .bin .add (.t 34) (.t 36), some (28, true), []⟩, ⟨some 38, .bin .lss (.t 31) (.t 37), some (28, true), []⟩, AO 39 (.pick (.t 28) (.t 38) (.c (.bool false))), AM 40 39, ⟨some 41, .fieldAddr 2 (.t 3), some (40, true), []⟩, ⟨some 42, .fieldAddr 0 (.t 41), some (40, true), []⟩, ⟨some 43, .load 1 false (.t 42), some (40, true), []⟩, ⟨some 44, .fieldAddr 2 (.t 2), some (40, true), []⟩, ⟨some 45, .fieldAddr 0 (.t 44), some (40, true), []⟩, ⟨some 46, .load 1 false (.t 45), some (40, true), []⟩, ⟨some 47, .fieldAddr 4 (.t 2), some (40, true), []⟩, ⟨some 48, .load 1 false (.t 47), some (40, true), []⟩, ⟨some 49, .bin .add (.t 46) (.t 48), some (40, true), []⟩, ⟨some 50, .bin .lss (.t 43) (.t 49), some (40, true), []⟩, AO 51 (.pick (.t 40) (.t 50) (.c (.bool false))), AM 52 51, ⟨some 53, .fieldAddr 2 (.t 2), some (52, true), []⟩, ⟨some 54, .fieldAddr 1 (.t 53), some (52, true), []⟩, ⟨some 55, .load 1 false (.t 54), some (52, true), []⟩, ⟨some 56, .fieldAddr 2 (.t 3), some (52, true), []⟩, ⟨some 57, .fieldAddr 1 (.t 56), some (52, true), []⟩, ⟨some 58, .load 1 false (.t 57), some (52, true), []⟩, ⟨some 59, .fieldAddr 5 (.t 3), some (52, true), []⟩, ⟨some 60, .load 1 false (.t 59), some (52, true), []⟩, ⟨some 61, .bin .add (.t 58) (.t 60), some (52, true), []⟩, ⟨some 62, .bin .lss (.t 55) (.t 61), some (52, true), []⟩, AO 63 (.pick (.t 52) (.t 62) (.c (.bool false))), AM 64 63, ⟨some 65, .fieldAddr 2 (.t 3), some (64, true), []⟩, ⟨some 66, .fieldAddr 1 (.t 65), some (64, true), []⟩, ⟨some 67, .load 1 false (.t 66), some (64, true), []⟩, ⟨some 68, .fieldAddr 2 (.t 2), some (64, true), []⟩, ⟨some 69, .fieldAddr 1 (.t 68), some (64, true), []⟩, ⟨some 70, .load 1 false (.t 69), some (64, true), []⟩, ⟨some 71, .fieldAddr 5 (.t 2), some (64, true), []⟩, ⟨some 72, .load 1 false (.t 71), some (64, true), []⟩, ⟨some 73, .bin .add (.t 70) (.t 72), some (64, true), []⟩, ⟨some 74, .bin .lss (.t 67) (.t 73), some (64, true), []⟩, AO 75 (.pick (.t 64) (.t 74) (.c (.bool false))), AM 4 75]).seq ACode.ret))
theorem Tryz.F81 : FnFacts Tryz.prog 81 Tryz.f81 Tryz.ac81 76 [.tmp 4] := ⟨Tryz.func81, by kernel_rfl, by kernel_rfl, by kernel_rfl, by kernel_rfl, by kernel_rfl, by kernel_rfl, by kernel_rfl⟩
def Tryz.ac85 : ACode := ((AR [AO 2 (.mv (.c (.bool false)))]).seq ((AR [AM 3 0, AO 4 (.bin .geq (.t 3) (.c (.int .u8 (97)))), AM 5 4, ⟨some 6, .mv (.t 0), some (5, true), []⟩, ⟨some 7, .bin .leq (.t 6) (.c (.int .u8 (122))), some (5, true), []⟩, AO 8 (.pick (.t 5) (.t 7) (.c (.bool false))), AM 9 8, ⟨some 10, .mv (.t 0), some (9, false), []⟩, ⟨some 11, .bin .geq (.t 10) (.c (.int .u8 (65))), some (9, false), []⟩, ⟨some 12, .mv (.t 11), some (9, false), []⟩, ⟨some 13, .mv (.t 0), some (12, true), []⟩, ⟨some 14, .bin .leq (.t 13) (.c (.int .u8 (90))), some (12, true), []⟩, ⟨some 15, .pick (.t 12) (.t 14) (.c (.bool false)), some (9, false), []⟩, AO 16 (.pick (.t 9) (.c (.bool true)) (.t 15)), AM 2 16]).seq ACode.ret))
theorem Tryz.F85 : FnFacts Tryz.prog 85 Tryz.f85 Tryz.ac85 17 [.tmp 2] := ⟨Tryz.func85, by kernel_rfl, by kernel_rfl, by kernel_rfl, by kernel_rfl, by kernel_rfl, by kernel_rfl, by kernel_rfl⟩
def Tryz.ac86 : ACode := ((AR [AO 2 (.mv (.c (.bool false)))]).seq ((AR [AM 3 0, AO 4 (.bin .geq (.t 3) (.c (.int .u8 (48)))), AM 5 4, ⟨some 6, .mv (.t 0), some (5, true), []⟩, ⟨some 7, .bin .leq (.t 6) (.c (.int .u8 (57))), some (5, true), []⟩, AO 8 (.pick (.t 5) (.t 7) (.c (.bool false))), AM 2 8]).seq ACode.ret))
theorem Tryz.F86 : FnFacts Tryz.prog 86 Tryz.f86 Tryz.ac86 9 [.tmp 2] := ⟨Tryz.func86, by kernel_rfl, by kernel_rfl, by kernel_rfl, by kernel_rfl, by kernel_rfl, by kernel_rfl, by kernel_rfl⟩
def Tryz.ac88 : ACode := ((AR [AO 4 (.mv (.c (.int .i64 (0))))]).seq (((AR [AM 6 0, AO 7 (.len (.t 6)), AO 8 (.mv (.c (.int .i64 (0))))]).seq (ACode.block 0 ((AR [AO 9 (.bin .lss (.t 8) (.t 7))]).seq ((ACode.cond (.t 9) ACode.skip (ACode.exit 0)).seq ((ACode.block 1 ((AR [AM 10 8, AM 5 10]).seq ((AR [AM 11 1, AM 12 0, AM 13 5, AO 14 (.idxAddr 8 (.t 12) (.t 13)), AO 15 (.load 8 true (.t 14)), AO 16 (.callv (.t 11) [.t 15])]).seq (ACode.cond (.t 16) ((AR [AM 17 5, AM 4 17]).seq ACode.ret) ACode.skip)))).seq (AR [AO 18 (.bin .add (.t 8) (.c (.int .i64 (1)))), AM 8 18])))).loop)).seq ((AR [AO 4 (.mv (.c (.int .i64 (Int.negSucc 0))))]).seq ACode.ret)))
theorem Tryz.F88 : FnFacts Tryz.prog 88 Tryz.f88 Tryz.ac88 19 [.tmp 4] := ⟨Tryz.func88, by kernel_rfl, by kernel_rfl, by kernel_rfl, by kernel_rfl, by kernel_rfl, by kernel_rfl, by kernel_rfl⟩
def Tryz.ac89 : ACode := ((AR [AO 8 (.mv (.c (.bool false)))]).seq ((AR [AM 9 0, AM 10 2, AM 11 3, AO 12 (.bin .add (.t 10) (.t 11)), AO 13 (.bin .lss (.t 9) (.t 12)), AM 14 13, ⟨some 15, .mv (.t 2), some (14, true), []⟩, ⟨some 16, .mv (.t 0), some (14, true), []⟩, ⟨some 17, .mv (.t 1), some (14, true), []⟩, ⟨some 18, .bin .add (.t 16) (.t 17), some (14, true), []⟩, ⟨some 19, .bin .lss (.t 15) (.t 18), some (14, true), []⟩, AO 20 (.pick (.t 14) (.t 19) (.c (.bool false))), AM 8 20]).seq ACode.ret))
theorem Tryz.F89 : FnFacts Tryz.prog 89 Tryz.f89 Tryz.ac89 21 [.tmp 8] := ⟨Tryz.func89, by kernel_rfl, by kernel_rfl, by kernel_rfl, by kernel_rfl, by kernel_rfl, by kernel_rfl, by kernel_rfl⟩
def Tryz.ac90 : ACode := ((AR [AO 8 (.mv (.c (.slice none 0 0)))]).seq (((AR [AM 12 3, AO 13 (.bin .eql (.t 12) (.c (.int .i64 (0))))]).seq (ACode.cond (.t 13) ((AR [AO 8 (.mv (.c (.slice none 0 0)))]).seq ACode.ret) ACode.skip)).seq (((AR [AM 14 1, AO 15 (.bin .eql (.t 14) (.c (.string ⟨⟨[]⟩⟩)))]).seq (ACode.cond (.t 15) ((AR [AM 16 0, AM 17 3, AO 18 (.call 103 [.t 16, .t 17]), AM 8 18]).seq ACode.ret) ACode.skip)).seq (((AR [AM 19 3, AO 20 (.bin .lss (.t 19) (.c (.int .i64 (0))))]).seq (ACode.cond (.t 20) (AR [AM 21 0, AM 22 1, AO 23 (.call 104 [.t 21, .t 22]), AO 24 (.bin .add (.t 23) (.c (.int .i64 (1)))), AM 3 24]) ACode.skip)).seq ((AR [AM 25 3, AM 26 0, AO 27 (.lenStr (.t 26)), AO 28 (.bin .add (.t 27) (.c (.int .i64 (1)))), AO 29 (.minmax false (.t 25) (.t 28)), AM 3 29]).seq ((AR [AM 30 3, AO 31 (.make 9 1 16 [.string ⟨⟨[]⟩⟩] (.t 30)), AM 9 31]).seq ((AR [AM 32 3, AO 33 (.bin .sub (.t 32) (.c (.int .i64 (1)))), AM 3 33]).seq ((AR [AO 10 (.mv (.c (.int .i64 (0))))]).seq ((ACode.block 0 (((AR [AM 34 10, AM 35 3, AO 36 (.bin .lss (.t 34) (.t 35))]).seq (ACode.cond (.t 36) ACode.skip (ACode.exit 0))).seq (ACode.block 1 ((AR [AM 37 0, AM 38 1, AO 39 (.call 105 [.t 37, .t 38]), AM 11 39]).seq (((AR [AM 40 11, AO 41 (.bin .lss (.t 40) (.c (.int .i64 (0))))]).seq (ACode.cond (.t 41) (ACode.exit 0) ACode.skip)).seq ((AR [AM 42 9, AM 43 10, AM 44 0, AM 45 11, AM 46 2, AO 47 (.bin .add (.t 45) (.t 46)), AO 48 (.sliceStr (.t 44) none (some (.t 47))), AO 49 (.idxAddr 1 (.t 42) (.t 43)), ⟨none, .store 1 (.t 49) (.t 48), none, []⟩]).seq ((AR [AM 50 0, AM 51 11, AM 52 1, AO 53 (.lenStr (.t 52)), AO 54 (.bin .add (.t 51) (.t 53)), AO 55 (.sliceStr (.t 50) (some (.t 54)) none), AM 0 55]).seq (AR [AM 56 10, AO 57 (.bin .add (.t 56) (.c (.int .i64 (1)))), AM 10 57]))))))).loop).seq ((AR [AM 58 9, AM 59 10, AM 60 0, AO 61 (.idxAddr 1 (.t 58) (.t 59)), ⟨none, .store 1 (.t 61) (.t 60), none, []⟩]).seq ((AR [AM 62 9, AM 63 10, AO 64 (.bin .add (.t 63) (.c (.int .i64 (1)))), AO 65 (.slice 1 (.t 62) none (some (.t 64))), AM 8 65]).seq ACode.ret)))))))))))
theorem Tryz.F90 : FnFacts Tryz.prog 90 Tryz.f90 Tryz.ac90 66 [.tmp 8] := ⟨Tryz.func90, by kernel_rfl, by kernel_rfl, by kernel_rfl, by kernel_rfl, by kernel_rfl, by kernel_rfl, by kernel_rfl⟩
end Go.Proofs
namespace Go.Ab

@[go_sem] theorem range_s (nm : Nat) (s : ByteArray) : effRange nm (.v (.string s)) = ⟨True, .bp nm 0, [(nm, some (.iter s 0))], []⟩ := rfl
def nextO (b : Nat) : Option Blk → Eff
  | some (.iter s pos) => ⟨True, nextV s pos, [(b, some (.iter s (nextPos s pos)))], [b]⟩
  | _ => .fail
@[go_sem] theorem next_bp (h : Nat → Option Blk) (b : Nat) : effNext h (.bp b 0) = nextO b (h b) := by
  simp only [effNext]; unfold nextO; cases h b with
  | none => rfl
  | some y => cases y <;> rfl
@[go_sem] theorem nextO_iter (b : Nat) (s : ByteArray) (pos : Nat) : nextO b (some (.iter s pos)) = ⟨True, nextV s pos, [(b, some (.iter s (nextPos s pos)))], [b]⟩ := rfl
theorem nextV_in {s : ByteArray} {pos : Nat} (h : pos < s.size) : nextV s pos = .tup [.v (.bool true), .v (.int .i64 pos), .v (.int .i32 ((Utf8.decode s pos).1 : Nat))] := by simp [nextV, h]
theorem nextV_end {s : ByteArray} {pos : Nat} (h : ¬ pos < s.size) : nextV s pos = .tup [.v (.bool false)] := by simp [nextV, h]
theorem nextPos_in {s : ByteArray} {pos : Nat} (h : pos < s.size) : nextPos s pos = pos + (Utf8.decode s pos).2 := by simp [nextPos, h]
theorem nextPos_end {s : ByteArray} {pos : Nat} (h : ¬ pos < s.size) : nextPos s pos = pos := by simp [nextPos, h]

theorem callP_nil {P : Program} {f : FuncId} {S : AState} {nm : Nat} {lv : List AV} {K : AV → Prop} {r : AV} (h : Pure P f lv r) (hk : K r) : CallP P f S nm lv [] K := ⟨r, h, by simp, .inl rfl, hk⟩
theorem callP_dry {P : Program} {f : FuncId} {S : AState} {nm : Nat} {lv : List AV} {names : List Nat} {K : AV → Prop} {r : AV} (h : Pure P f lv r) (hn : nm ∉ names) (hd : Dry r) (hk : K r) : CallP P f S nm lv names K := ⟨r, h, hn, .inr hd, hk⟩
theorem callO_nil {P : Program} {f : FuncId} {S : AState} {nm : Nat} {lv : List AV} {K : List (List AV) → Nat → TypeId → Prop} {es : List (List AV)} {sz : Nat} {ty : TypeId} (h : PureOwn P f lv es sz ty) (hk : K es sz ty) : CallO P f S nm lv [] K := ⟨es, sz, ty, h, by simp, .inl rfl, hk⟩
@[go_sem] theorem flat_v (x : Value) : (AV.v x).flat = true := rfl
@[go_sem] theorem flat_nils : AV.nils.flat = true := rfl
@[go_sem] theorem flat_sl (es : List (List AV)) : (AV.sl es).flat = true := rfl
@[go_sem] theorem flat_rp (es : List AV) : (AV.rp es).flat = true := rfl
@[go_sem] theorem all_cons {α : Type} (p : α → Prop) (x : α) (l : List α) : (∀ c ∈ x :: l, p c) = (p x ∧ ∀ c ∈ l, p c) := by simp
attribute [go_sem] Bool.true_and Bool.and_true Bool.false_and Bool.and_false Bool.true_or Bool.or_true Bool.false_or Bool.or_false List.flatMap_cons List.flatMap_nil

theorem Lower.ownE {h : Nat → Option Blk} {b : Nat} {es es' : List (List AV)} {sz : Nat} {e : TypeId} (hb : h b = some (.row es sz e)) (he : es = es') : Lower h (.own b) (.sl es') := by subst he; exact .own hb
theorem Lower.nilE {h : Nat → Option Blk} {es : List (List AV)} (he : es = []) : Lower h .nils (.sl es) := by subst he; exact .nil0
theorem Lower.str {h : Nat → Option Blk} {s s' : ByteArray} (he : s = s') : Lower h (.v (.string s)) (.v (.string s')) := by subst he; exact .same _ rfl
inductive All2 (R : AV → AV → Prop) : List AV → List AV → Prop
  | nil : All2 R [] []
  | cons {x y xs ys} : R x y → All2 R xs ys → All2 R (x :: xs) (y :: ys)
theorem lowerAll_agg {h : Nat → Option Blk} {cs cs' : List AV} (p : All2 (Lower h) cs cs') : cs.length = cs'.length ∧ ∀ j, j < cs.length → Lower h (av cs j) (av cs' j) := by
  induction p with
  | nil => exact ⟨rfl, fun j hj => by simp at hj⟩
  | cons h1 _ ih =>
    refine ⟨by simp [ih.1], fun j hj => ?_⟩
    cases j with
    | zero => exact h1
    | succ j => exact ih.2 j (by simpa using hj)
theorem Lower.aggF {h : Nat → Option Blk} {cs cs' : List AV} (p : All2 (Lower h) cs cs') : Lower h (.agg cs) (.agg cs') := .agg (lowerAll_agg p).1 (lowerAll_agg p).2
theorem Lower.tupF {h : Nat → Option Blk} {cs cs' : List AV} (p : All2 (Lower h) cs cs') : Lower h (.tup cs) (.tup cs') := .tup (lowerAll_agg p).1 (lowerAll_agg p).2

/-- A value that is there only if 'b'. -/
def opt (b : Bool) (x : AV) : AV := if b then x else .tup []
@[go_sem] theorem opt_t (x : AV) : opt true x = x := rfl
@[go_sem] theorem opt_f (x : AV) : opt false x = .tup [] := rfl
@[go_sem] theorem pick_and (c p : Bool) : effPick (.v (.bool c)) (opt c (.v (.bool p))) (.v (.bool false)) = ⟨True, .v (.bool (c && p)), [], []⟩ := by cases c <;> rfl
@[go_sem] theorem pick_or (c p : Bool) : effPick (.v (.bool c)) (.v (.bool true)) (opt (!c) (.v (.bool p))) = ⟨True, .v (.bool (c || p)), [], []⟩ := by cases c <;> rfl
/-- Is it wanted? -/
def wantB (want b : Bool) : Bool := if want then b else !b
@[go_sem] theorem wantB_t (b : Bool) : wantB true b = b := rfl
@[go_sem] theorem wantB_f (b : Bool) : wantB false b = !b := rfl
def gB (want : Bool) : AV → Option Bool
  | .v (.bool b) => some (wantB want b)
  | .tup [] => some false
  | _ => none
theorem gB_v (want b : Bool) : gB want (.v (.bool b)) = some (wantB want b) := rfl
theorem gB_opt (want c b : Bool) : gB want (opt c (.v (.bool b))) = some (c && wantB want b) := by cases c <;> rfl
theorem gB_u (want : Bool) : gB want (.tup []) = some false := rfl
attribute [go_sem] gB_v gB_opt gB_u

theorem Awp.sreg {P : Program} {n bs nx nx' : Nat} {S : AState} {Q : AExit → Nat → AState → Prop} {l : List AOper} {y : ACode} (hn : nx + l.length = nx') (hk : aops P l nx S fun S' => Awp P n bs y nx' S' Q) : Awp P n bs (.seq (.region false l) y) nx S Q := by
  subst hn; exact Awp.seq_region hk
theorem Awp.sdraw {P : Program} {n bs nx nx' : Nat} {S : AState} {Q : AExit → Nat → AState → Prop} {l : List AOper} {y : ACode} (hn : nx + l.length = nx') (hk : aopsL P l nx S [] fun S' es => drawOk (l.map (·.deps)) es = true ∧ Awp P n bs y nx' S' Q) : Awp P n bs (.seq (.region true l) y) nx S Q := by
  subst hn; exact Awp.seq_draw hk
theorem Awp.reg {P : Program} {n bs nx nx' : Nat} {S : AState} {Q : AExit → Nat → AState → Prop} {l : List AOper} (hn : nx + l.length = nx') (hk : aops P l nx S fun S' => Q .normal nx' S') : Awp P n bs (.region false l) nx S Q := by
  subst hn; exact Awp.region hk

theorem BView.boxF {hd : Nat → Option Blk} {ρ : Nat → Nat} {nx : Nat} {cs : List AV} (h : cs.all AV.flat = true) : BView hd ρ nx (.box cs) (.box cs) := .box rfl fun j hj => .low (.same _ (List.all_eq_true.1 h _ (av_mem hj)))
theorem BView.rowE {hd : Nat → Option Blk} {ρ : Nat → Nat} {nx : Nat} {es es' : List (List AV)} {sz : Nat} {e : TypeId} (h : es = es') : BView hd ρ nx (.row es sz e) (.row es' sz e) := by subst h; exact .row _ _ _
theorem BView.iterE {hd : Nat → Option Blk} {ρ : Nat → Nat} {nx : Nat} {s : ByteArray} {i j : Nat} (h : i = j) : BView hd ρ nx (.iter s i) (.iter s j) := by subst h; exact .iter _ _

@[go_sem] theorem str_empty (s : ByteArray) : (s.toList == ByteArray.toList ⟨⟨[]⟩⟩) = (s.size == 0) := by
  have h0 : ByteArray.toList ⟨⟨[]⟩⟩ = [] := by rw [ByteArray.toList_eq]
  have h1 : s.toList.length = s.size := by rw [ByteArray.toList_eq]; rfl
  rw [h0]
  cases h : s.toList with
  | nil => rw [h] at h1; simp at h1; simp [← h1]
  | cons a l => rw [h] at h1; simp at h1; simp [← h1]

theorem View.str {hd : Nat → Option Blk} {ρ : Nat → Nat} {nx : Nat} {x y : ByteArray} (e : x = y) : View hd ρ nx (.v (.string x)) (.v (.string y)) := by subst e; exact .low (.same _ rfl)
theorem op_callC_of {P : Program} {o : AOper} {r : List AOper} {nm : Nat} {S : AState} {K : AState → Prop} (h : aopsC P o r nm S K) : aops P (o :: r) nm S K := h
section steps
variable {P : Program} {d : Option Nat} {op : AOp} {deps : List Nat} {r : List AOper} {nm : Nat} {t : Nat → AV} {h : Nat → Option Blk} {K : AState → Prop} {p : Prop} {v : AV} {rd : List Nat}
theorem st_u {u : Upd} (he : op.eff P nm ⟨t, h⟩ default = ⟨p, v, u, rd⟩) (hc : op.isCall = false) (hp : p) (hk : aops P r (nm + 1) ⟨putT t d v, updL h u⟩ K) : aops P (⟨d, op, none, deps⟩ :: r) nm ⟨t, h⟩ K := by
  cases hch : op.choosy
  · rw [aops_op, hch, bcase_f, he]
    exact ⟨hp, hk⟩
  · exact aops_call (P := P) default hch (by rw [he]; exact hp) (by rw [he]; exact hk)
/-- A slice literal whose row nobody writes. -/
theorem st_full {e : TypeId} {sz : Nat} {ps : List AOpd} {es : List (List AV)} (hr : rowE ⟨t, h⟩ sz ps = (p, es)) (hn : ps ≠ []) (hp : p) (hk : aops P r (nm + 1) ⟨putT t d (.slf es sz e), h⟩ K) : aops P (⟨d, .buildSlice e sz ps, none, deps⟩ :: r) nm ⟨t, h⟩ K := by
  refine aops_call (P := P) ⟨.nils, [], []⟩ rfl ?_ ?_
  · simp only [AOp.eff, pickB, hr]
    exact ⟨hn, hp⟩
  · simp only [AOp.eff, pickB, hr]
    exact hk
theorem st_a {u : Upd} {h' : Nat → Option Blk} (he : op.eff P nm ⟨t, h⟩ default = ⟨p, v, u, rd⟩) (hc : op.isCall = false) (hu : updL h u = h') (hp : p) (hk : aops P r (nm + 1) ⟨putT t d v, h'⟩ K) : aops P (⟨d, op, none, deps⟩ :: r) nm ⟨t, h⟩ K := by
  subst hu; exact st_u he hc hp hk
theorem st_nil {S : AState} (hk : K S) : aops P [] nm S K := hk
theorem st_g {q : Nat} {want b : Bool} (hv : t q = .v (.bool b)) (h1 : b = want → aops P (⟨d, op, none, deps⟩ :: r) nm ⟨t, h⟩ K) (h2 : b = (!want) → aops P r (nm + 1) ⟨putT t d (.tup []), h⟩ K) : aops P (⟨d, op, some (q, want), deps⟩ :: r) nm ⟨t, h⟩ K := by
  rw [aops_g]; show gval (t q) _ _ _; rw [hv]; exact ⟨h1, h2⟩
theorem st_m {q : Nat} {want b : Bool} (hg : gB want (t q) = some b) (he : b = true → op.eff P nm ⟨t, h⟩ default = ⟨p, v, [], rd⟩) (hc : op.isCall = false) (hp : b = true → p) (hk : aops P r (nm + 1) ⟨putT t d (opt b v), h⟩ K) : aops P (⟨d, op, some (q, want), deps⟩ :: r) nm ⟨t, h⟩ K := by
  rw [aops_g]
  show gval (t q) _ _ _
  cases hx : t q with
  | v x =>
    rw [hx] at hg
    cases x with
    | bool c =>
      simp only [gB, Option.some.injEq] at hg
      subst hg
      refine ⟨fun e => ?_, fun e => ?_⟩
      · have hb : wantB want c = true := by subst e; cases c <;> rfl
        rw [hb] at hk
        exact st_u (he hb) hc (hp hb) hk
      · have hb : wantB want c = false := by subst e; cases want <;> rfl
        rw [hb] at hk
        exact hk
    | _ => cases hg
  | tup l =>
    rw [hx] at hg
    cases l with
    | nil =>
      simp only [gB, Option.some.injEq] at hg
      subst hg
      exact hk
    | cons a l => cases hg
  | _ => rw [hx] at hg; cases hg
theorem st_c {f : FuncId} {vs lv : List AV} {x : AV} (hc : callee ⟨t, h⟩ op = some (f, vs)) (hl : lows ⟨t, h⟩ vs = lv) (hn : hls ⟨t, h⟩ vs = []) (hp : Pure P f lv x) (hk : aops P r (nm + 1) ⟨putT t d x, h⟩ K) : aops P (⟨d, op, none, deps⟩ :: r) nm ⟨t, h⟩ K :=
  aops_low hc (by rw [hl, hn]; exact callP_nil hp hk)
theorem st_mc {q : Nat} {want b : Bool} {f : FuncId} {vs lv : List AV} {x : AV} (hop : op.isCall = true) (hg : gB want (t q) = some b) (hc : b = true → callee ⟨t, h⟩ op = some (f, vs)) (hl : b = true → lows ⟨t, h⟩ vs = lv) (hn : b = true → hls ⟨t, h⟩ vs = []) (hp : b = true → Pure P f lv x) (hk : aops P r (nm + 1) ⟨putT t d (opt b x), h⟩ K) : aops P (⟨d, op, some (q, want), deps⟩ :: r) nm ⟨t, h⟩ K := by
  rw [aops_g]
  show gval (t q) _ _ _
  cases hx : t q with
  | v x =>
    rw [hx] at hg
    cases x with
    | bool c =>
      simp only [gB, Option.some.injEq] at hg
      subst hg
      refine ⟨fun e => ?_, fun e => ?_⟩
      · have hb : wantB want c = true := by subst e; cases c <;> rfl
        rw [hb] at hk
        exact st_c (hc hb) (hl hb) (hn hb) (hp hb) hk
      · have hb : wantB want c = false := by subst e; cases want <;> rfl
        rw [hb] at hk
        exact hk
    | _ => cases hg
  | tup l =>
    rw [hx] at hg
    cases l with
    | nil =>
      simp only [gB, Option.some.injEq] at hg
      subst hg
      exact hk
    | cons a l => cases hg
  | _ => rw [hx] at hg; cases hg
theorem st_cc {f : FuncId} {vs : List AV} {x : AV} {hl : List (Nat × Blk)} {u : Upd} {h' : Nat → Option Blk} (hc : callee ⟨t, h⟩ op = some (f, vs)) (hcc : CallC P f vs hl nm x u) (hh : ∀ p ∈ hl, h p.1 = some p.2) (hu : ∀ p ∈ u, p.1 = nm ∨ p.1 ∈ hl.map (·.1)) (hm : nm ∉ hl.map (·.1)) (hw : updL h u = h') (hk : aops P r (nm + 1) ⟨putT t d x, h'⟩ K) : aops P (⟨d, op, none, deps⟩ :: r) nm ⟨t, h⟩ K := by
  subst hw
  obtain ⟨e1, e2⟩ := eff_callee (P := P) (nm := nm) (an := ⟨x, u, hl⟩) hc
  exact op_callC_of (aops_call ⟨x, u, hl⟩ (choosy_of_call e2) (by rw [e1]; exact ⟨hh, hu, hm, hcc⟩) (by rw [e1]; exact hk))
theorem st_cd {f : FuncId} {vs lv : List AV} {ns : List (Nat × Blk)} {x : AV} (hc : callee ⟨t, h⟩ op = some (f, vs)) (hl : lows ⟨t, h⟩ vs = lv) (hn : hls ⟨t, h⟩ vs = ns) (hp : Pure P f lv x) (hd : Dry x) (hm : nm ∉ ns.map (·.1)) (hk : aops P r (nm + 1) ⟨putT t d x, h⟩ K) : aops P (⟨d, op, none, deps⟩ :: r) nm ⟨t, h⟩ K :=
  aops_low hc (by rw [hl, hn]; exact callP_dry hp hm hd hk)
theorem st_co {f : FuncId} {vs lv : List AV} {es : List (List AV)} {sz : Nat} {ty : TypeId} (hc : callee ⟨t, h⟩ op = some (f, vs)) (hl : lows ⟨t, h⟩ vs = lv) (hn : hls ⟨t, h⟩ vs = []) (hp : PureOwn P f lv es sz ty) (hk : aops P r (nm + 1) ⟨putT t d (.own nm), upd h nm (some (.row es sz ty))⟩ K) : aops P (⟨d, op, none, deps⟩ :: r) nm ⟨t, h⟩ K :=
  aops_lowO hc (by rw [hl, hn]; exact callO_nil hp hk)
variable {KL : AState → List Ent → Prop} {es : List Ent}
theorem sl_u {u : Upd} (he : op.eff P nm ⟨t, h⟩ default = ⟨p, v, u, rd⟩) (hc : op.isCall = false) (hp : p) (hk : aopsL P r (nm + 1) ⟨putT t d v, updL h u⟩ (es ++ [⟨op.temps, rd, d, u.map (·.1)⟩]) KL) : aopsL P (⟨d, op, none, deps⟩ :: r) nm ⟨t, h⟩ es KL := by
  cases hch : op.choosy
  · rw [aopsL_op, hch, bcase_f, he]
    exact ⟨hp, hk⟩
  · exact aopsL_call (P := P) default hch (by rw [he]; exact hp) (by rw [he]; exact hk)
theorem sl_a {u : Upd} {h' : Nat → Option Blk} {l : List Nat} (he : op.eff P nm ⟨t, h⟩ default = ⟨p, v, u, rd⟩) (hc : op.isCall = false) (hu : updL h u = h') (hl : u.map (·.1) = l) (hp : p) (hk : aopsL P r (nm + 1) ⟨putT t d v, h'⟩ (es ++ [⟨op.temps, rd, d, l⟩]) KL) : aopsL P (⟨d, op, none, deps⟩ :: r) nm ⟨t, h⟩ es KL := by
  subst hu; subst hl; exact sl_u he hc hp hk
theorem sl_nil {S : AState} (hk : KL S es) : aopsL P [] nm S es KL := hk
theorem sl_g {q : Nat} {want b : Bool} (hb : op.isCall = false) (hv : t q = .v (.bool b)) {u : Upd} (he : b = want → op.eff P nm ⟨t, h⟩ default = ⟨p, v, u, rd⟩) (hp : b = want → p) (h1 : b = want → aopsL P r (nm + 1) ⟨putT t d v, updL h u⟩ (es ++ [⟨q :: op.temps, rd, d, u.map (·.1)⟩]) KL) (h2 : b = (!want) → aopsL P r (nm + 1) ⟨putT t d (.tup []), h⟩ (es ++ [⟨[q], [], d, []⟩]) KL) : aopsL P (⟨d, op, some (q, want), deps⟩ :: r) nm ⟨t, h⟩ es KL := by
  cases hch : op.choosy
  · rw [aopsL_g, hch, bcase_f]; show gval (t q) _ _ _; rw [hv]
    exact ⟨fun e => by rw [he e]; exact ⟨hp e, h1 e⟩, h2⟩
  · refine aopsL_callg (P := P) hch ?_
    show gval (t q) _ _ _
    rw [hv]
    exact ⟨fun e => ⟨default, by rw [he e]; exact hp e, by rw [he e]; exact h1 e⟩, h2⟩
theorem sl_gy {q : Nat} {want : Bool} (hb : op.isCall = false) (hv : t q = .v (.bool want)) {u : Upd} (he : op.eff P nm ⟨t, h⟩ default = ⟨p, v, u, rd⟩) (hp : p) (h1 : aopsL P r (nm + 1) ⟨putT t d v, updL h u⟩ (es ++ [⟨q :: op.temps, rd, d, u.map (·.1)⟩]) KL) : aopsL P (⟨d, op, some (q, want), deps⟩ :: r) nm ⟨t, h⟩ es KL :=
  sl_g hb hv (fun _ => he) (fun _ => hp) (fun _ => h1) (fun e => by cases want <;> cases e)
theorem sl_ga {q : Nat} {want : Bool} {h' : Nat → Option Blk} {l : List Nat} (hb : op.isCall = false) (hv : t q = .v (.bool want)) {u : Upd} (he : op.eff P nm ⟨t, h⟩ default = ⟨p, v, u, rd⟩) (hu : updL h u = h') (hl : u.map (·.1) = l) (hp : p) (h1 : aopsL P r (nm + 1) ⟨putT t d v, h'⟩ (es ++ [⟨q :: op.temps, rd, d, l⟩]) KL) : aopsL P (⟨d, op, some (q, want), deps⟩ :: r) nm ⟨t, h⟩ es KL := by
  subst hu; subst hl; exact sl_gy hb hv he hp h1
theorem sl_gn {q : Nat} {want b : Bool} (hv : t q = .v (.bool b)) (hbw : b = !want) (h2 : aopsL P r (nm + 1) ⟨putT t d (.tup []), h⟩ (es ++ [⟨[q], [], d, []⟩]) KL) : aopsL P (⟨d, op, some (q, want), deps⟩ :: r) nm ⟨t, h⟩ es KL := by
  cases hb : op.choosy
  · rw [aopsL_g, hb, bcase_f]; show gval (t q) _ _ _; rw [hv]
    refine gval_intro (fun e => ?_) (fun _ => h2)
    subst e; cases b <;> cases hbw
  · refine aopsL_callg (P := P) hb ?_
    show gval (t q) _ _ _
    rw [hv]
    refine gval_intro (fun e => ?_) (fun _ => h2)
    subst e; cases b <;> cases hbw
theorem sl_gu {q : Nat} {want : Bool} (hv : t q = .tup []) (h2 : aopsL P r (nm + 1) ⟨putT t d (.tup []), h⟩ (es ++ [⟨[q], [], d, []⟩]) KL) : aopsL P (⟨d, op, some (q, want), deps⟩ :: r) nm ⟨t, h⟩ es KL := by
  cases hb : op.choosy
  · rw [aopsL_g, hb, bcase_f]; show gval (t q) _ _ _; rw [hv]; exact h2
  · refine aopsL_callg (P := P) hb ?_
    show gval (t q) _ _ _
    rw [hv]; exact h2
theorem sl_case {q : Nat} {want b : Bool} (hv : t q = .v (.bool b)) (h1 : b = want → aopsL P (⟨d, op, some (q, want), deps⟩ :: r) nm ⟨t, h⟩ es KL) (h2 : b = (!want) → aopsL P (⟨d, op, some (q, want), deps⟩ :: r) nm ⟨t, h⟩ es KL) : aopsL P (⟨d, op, some (q, want), deps⟩ :: r) nm ⟨t, h⟩ es KL := by
  cases b <;> cases want
  · exact h1 rfl
  · exact h2 rfl
  · exact h2 rfl
  · exact h1 rfl
theorem sl_c {f : FuncId} {vs lv : List AV} {x : AV} {ns : List (Nat × Blk)} (hc : callee ⟨t, h⟩ op = some (f, vs)) (hl : lows ⟨t, h⟩ vs = lv) (hn : hls ⟨t, h⟩ vs = ns) (hp : Pure P f lv x) (hd : ns = [] ∨ Dry x) (hm : nm ∉ ns.map (·.1)) (hk : aopsL P r (nm + 1) ⟨putT t d x, h⟩ (es ++ [⟨op.temps, ns.map (·.1), d, []⟩]) KL) : aopsL P (⟨d, op, none, deps⟩ :: r) nm ⟨t, h⟩ es KL :=
  aopsL_low hc (by rw [hl, hn]; exact ⟨x, hp, hm, hd.imp (fun e => by rw [e]; rfl) id, hk⟩)
theorem sl_cg {q : Nat} {want : Bool} {f : FuncId} {vs lv : List AV} {x : AV} {ns : List (Nat × Blk)} (hop : op.isCall = true) (hv : t q = .v (.bool want)) (hc : callee ⟨t, h⟩ op = some (f, vs)) (hl : lows ⟨t, h⟩ vs = lv) (hn : hls ⟨t, h⟩ vs = ns) (hp : Pure P f lv x) (hd : ns = [] ∨ Dry x) (hm : nm ∉ ns.map (·.1)) (hk : aopsL P r (nm + 1) ⟨putT t d x, h⟩ (es ++ [⟨q :: op.temps, ns.map (·.1), d, []⟩]) KL) : aopsL P (⟨d, op, some (q, want), deps⟩ :: r) nm ⟨t, h⟩ es KL :=
  aopsL_lowG hop hv (fun _ => ⟨f, vs, hc, by rw [hl, hn]; exact ⟨x, hp, hm, hd.imp (fun e => by rw [e]; rfl) id, hk⟩⟩) (fun e => by cases want <;> cases e)
end steps
end Go.Ab
attribute [go_sem] Nat.reduceAdd Nat.reduceEqDiff Nat.reduceMul Nat.reduceLeDiff Nat.reduceLT Nat.reduceSub reduceIte reduceCtorEq Nat.reduceBEq Nat.reduceBNe Int.reduceToNat Int.reduceLT Int.reduceLE Int.reduceEq Int.reduceNe Int.reduceBEq Int.reduceBNe Int.reduceAdd Int.reduceSub Int.reduceNeg decide_true decide_false Bool.not_true Bool.not_false
namespace Go.Ab
@[go_sem] theorem eqAgg_a (neg : Bool) (ks : List Nat) (x y : List AV) : effEqAgg neg ks (.agg x) (.agg y) = ⟨(eqCells ks x y).1, .v (.bool (neg ^^ (eqCells ks x y).2)), [], []⟩ := rfl
@[go_sem] theorem eqCells_nil : eqCells [] [] [] = (True, true) := rfl
@[go_sem] theorem eqCells_cons (k : Nat) (ks : List Nat) (a b : AV) (x y : List AV) : eqCells (k :: ks) (a :: x) (b :: y) = ((eqCell k a b).1 ∧ (eqCells ks x y).1, (eqCell k a b).2 && (eqCells ks x y).2) := rfl
@[go_sem] theorem eqCell_i (k k' : IntKind) (a b : Int) : eqCell 0 (.v (.int k a)) (.v (.int k' b)) = (k = k', a == b) := rfl
@[go_sem] theorem eqCell_b (a b : Bool) : eqCell 1 (.v (.bool a)) (.v (.bool b)) = (True, a == b) := rfl
@[go_sem] theorem eqCell_s (a b : ByteArray) : eqCell 2 (.v (.string a)) (.v (.string b)) = (True, a.toList == b.toList) := rfl
@[go_sem] theorem idxPtr_bp (len sz b o : Nat) (k : IntKind) (n : Int) : effIdxPtr len sz (.v (.int k n)) (.bp b o) = ⟨0 ≤ n ∧ n < len, .bp b (o + n.toNat * sz), [], []⟩ := rfl
@[go_sem] theorem idxPtr_rp (len sz : Nat) (cs : List AV) (k : IntKind) (n : Int) : effIdxPtr len sz (.v (.int k n)) (.rp cs) = ⟨0 ≤ n ∧ n < len ∧ n.toNat * sz < cs.length, .rp (cs.drop (n.toNat * sz)), [], []⟩ := rfl
end Go.Ab
example : (if 2 + 3 = 5 then 1 else 2) = 1 := by simp only [go_sem]
namespace Go.Proofs
open Go Go.Ab
set_option maxHeartbeats 1000000
set_option maxRecDepth 100000
attribute [local irreducible] Awp aops aopsL Go.Ab.Pure PureOwn
def ints (l : List Int) : List (List AV) := l.map fun n => [.v (.int .i64 n)]
theorem ints_len (l : List Int) : (ints l).length = l.length := by simp [ints]
attribute [go_sem] ints_len
@[go_sem] theorem ints_at (l : List Int) (i : Nat) (h : i < l.length) : (ints l).getD i [] = [.v (.int .i64 (l.getD i 0))] := by
  simp [ints, List.getD_eq_getElem?_getD, h]
@[go_sem] theorem neg1 : Int.negSucc 0 = -1 := rfl
theorem letter_ok (c : Int) : Pure Tryz.prog 85 [.v (.int .u8 c)] (.v (.bool (decide (97 ≤ c) && decide (c ≤ 122) || decide (65 ≤ c) && decide (c ≤ 90)))) := by
  refine fn_pure Tryz.F85 (Nat.le_of_ble_eq_true rfl) ?_; unfold Tryz.ac85 AR AM AO
  repeat' (first
 | (apply Awp.sreg; (case hn => (simp only [List.length_cons, List.length_nil, Nat.reduceAdd] <;> rfl)))
 | (refine st_nil ?_)
 | (apply st_a; (case hc => rfl); (case he => (simp only [go_sem, *] <;> rfl)); (case hu => (simp only [updL_nil, updL_cons] <;> rfl)); (case hp => first | trivial))
 | (apply st_m; (case hc => rfl); (case hg => (simp only [go_sem, *] <;> rfl)); (case he => (intro hQz; (try simp only [wantB_t, wantB_f, Bool.and_eq_true, Bool.not_eq_true', Bool.not_true, Bool.not_false, and_true, true_and] at hQz); simp only [go_sem, *] <;> rfl)); (case hp => (intro hQz; (try simp only [wantB_t, wantB_f, Bool.and_eq_true, Bool.not_eq_true', Bool.or_eq_false_iff, decide_eq_true_eq, decide_eq_false_iff_not, beq_iff_eq, beq_eq_false_iff_ne, bne_iff_ne, bne_eq_false_iff_eq, Int.not_lt, Int.not_le, Int.ofNat_lt, Int.ofNat_le] at hQz); first | trivial)))
 | (refine Awp.ret ?_; try simp only [go_sem, *]))
  all_goals repeat' (first | exact Lower.bool (by first | rfl | (simp only [true_and, Bool.true_and, Bool.false_and, Bool.and_true, Bool.and_false, Bool.true_or, Bool.false_or, reduceIte, Bool.false_eq_true, *]; done) | (simp only [true_and, reduceIte, Bool.false_eq_true, *] <;> rfl) | (simp [true_and]; done) | (simp_all [true_and]; done) | omega))
theorem digit_ok (c : Int) : Pure Tryz.prog 86 [.v (.int .u8 c)] (.v (.bool (decide (48 ≤ c) && decide (c ≤ 57)))) := by
  refine fn_pure Tryz.F86 (Nat.le_of_ble_eq_true rfl) ?_; unfold Tryz.ac86 AR AM AO
  repeat' (first
 | (apply Awp.sreg; (case hn => (simp only [List.length_cons, List.length_nil, Nat.reduceAdd] <;> rfl)))
 | (refine st_nil ?_)
 | (apply st_a; (case hc => rfl); (case he => (simp only [go_sem, *] <;> rfl)); (case hu => (simp only [updL_nil, updL_cons] <;> rfl)); (case hp => first | trivial))
 | (apply st_m; (case hc => rfl); (case hg => (simp only [go_sem, *] <;> rfl)); (case he => (intro hQz; (try simp only [wantB_t, wantB_f, Bool.and_eq_true, Bool.not_eq_true', Bool.not_true, Bool.not_false, and_true, true_and] at hQz); simp only [go_sem, *] <;> rfl)); (case hp => (intro hQz; (try simp only [wantB_t, wantB_f, Bool.and_eq_true, Bool.not_eq_true', Bool.or_eq_false_iff, decide_eq_true_eq, decide_eq_false_iff_not, beq_iff_eq, beq_eq_false_iff_ne, bne_iff_ne, bne_eq_false_iff_eq, Int.not_lt, Int.not_le, Int.ofNat_lt, Int.ofNat_le] at hQz); first | trivial)))
 | (refine Awp.ret ?_; try simp only [go_sem, *]))
  all_goals repeat' (first | exact Lower.bool (by first | rfl | (simp only [true_and, Bool.true_and, Bool.false_and, Bool.and_true, Bool.and_false, Bool.true_or, Bool.false_or, reduceIte, Bool.false_eq_true, *]; done) | (simp only [true_and, reduceIte, Bool.false_eq_true, *] <;> rfl) | (simp [true_and]; done) | (simp_all [true_and]; done) | omega))
def byteAt (s : ByteArray) (i : Nat) : Int := (s.data.getD i 0).toNat
def letB (c : Int) : Bool := decide (97 ≤ c) && decide (c ≤ 122) || decide (65 ≤ c) && decide (c ≤ 90)
def digB (c : Int) : Bool := decide (48 ≤ c) && decide (c ≤ 57)
def okB (c : Int) : Bool := letB c || digB c || c == 95 || c == 45
def nameB (s : ByteArray) : Bool := !(s.size == 0) && decide (s.size ≤ 16) && letB (byteAt s 0) && (List.range s.size).all fun i => okB (byteAt s i)
theorem byteAt_def (s : ByteArray) (i : Nat) : ((s.data.getD i 0).toNat : Int) = byteAt s i := rfl
attribute [go_sem] byteAt_def
theorem letter2_ok (c : Int) : Pure Tryz.prog 85 [.v (.int .u8 c)] (.v (.bool (letB c))) := letter_ok c
theorem digit2_ok (c : Int) : Pure Tryz.prog 86 [.v (.int .u8 c)] (.v (.bool (digB c))) := digit_ok c
theorem okN (c : Int) : (!letB c && !digB c && c != 95 && c != 45) = !okB c := by
  simp only [okB, Bool.not_or, bne]
theorem nameB_head {s : ByteArray} (h : (s.size == 0 || decide (16 < (s.size : Int)) || !letB (byteAt s 0)) = true) : nameB s = false := by
  simp only [Bool.or_eq_true, beq_iff_eq, decide_eq_true_eq, Bool.not_eq_true'] at h
  rcases h with (h | h) | h
  · simp [nameB, h]
  · have : ¬ s.size ≤ 16 := by omega
    simp [nameB, this]
  · simp [nameB, h]
theorem nameB_bad {s : ByteArray} {i : Nat} (h : i < s.size) (e : okB (byteAt s i) = false) : nameB s = false := by
  have : ((List.range s.size).all fun i => okB (byteAt s i)) = false := by
    simp only [List.all_eq_false, List.mem_range]
    exact ⟨i, h, by simp [e]⟩
  simp [nameB, this]
theorem nameB_end {s : ByteArray} {i : Nat} (h0 : s.size ≠ 0) (h1 : (s.size : Int) ≤ 16) (h2 : letB (byteAt s 0) = true) (h : ∀ j, j < i → okB (byteAt s j) = true) (hi : s.size ≤ i) : nameB s = true := by
  have : ((List.range s.size).all fun i => okB (byteAt s i)) = true := by
    simp only [List.all_eq_true, List.mem_range]
    exact fun j hj => h j (by omega)
  have h3 : s.size ≤ 16 := by omega
  simp [nameB, this, h0, h3, h2]
theorem ltSucc {P : Nat → Prop} {i : Nat} (h : ∀ j, j < i → P j) (hi : P i) : ∀ j, j < i + 1 → P j := fun j hj => by
  rcases Nat.lt_succ_iff_lt_or_eq.1 hj with h' | rfl
  · exact h j h'
  · exact hi
theorem rname_ok (s : ByteArray) : Pure Tryz.prog 68 [.v (.string s)] (.v (.bool (nameB s))) := by
  refine fn_pure Tryz.F68 (Nat.le_of_ble_eq_true rfl) ?_; unfold Tryz.ac68 AR AM AO
  repeat' (first
 | (apply Awp.sreg; (case hn => (simp only [List.length_cons, List.length_nil, Nat.reduceAdd] <;> rfl)))
 | (refine st_nil ?_)
 | (apply st_a; (case hc => rfl); (case he => (simp only [go_sem, *] <;> rfl)); (case hu => (simp only [updL_nil, updL_cons] <;> rfl)); (case hp => first | trivial))
 | (apply st_m; (case hc => rfl); (case hg => (simp only [go_sem, *] <;> rfl)); (case he => (intro hQz; (try simp only [wantB_t, wantB_f, Bool.and_eq_true, Bool.not_eq_true', Bool.not_true, Bool.not_false, and_true, true_and] at hQz); simp only [go_sem, *] <;> rfl)); (case hp => (intro hQz; (try simp only [wantB_t, wantB_f, Bool.and_eq_true, Bool.not_eq_true', Bool.or_eq_false_iff, decide_eq_true_eq, decide_eq_false_iff_not, beq_iff_eq, beq_eq_false_iff_ne, bne_iff_ne, bne_eq_false_iff_eq, Int.not_lt, Int.not_le, Int.ofNat_lt, Int.ofNat_le] at hQz); first | trivial | omega)))
 | (apply st_mc; (case hop => rfl); (case hg => (simp only [go_sem, *] <;> rfl)); (case hc => (intro hQz; (try simp only [wantB_t, wantB_f, Bool.and_eq_true, Bool.not_eq_true', Bool.not_true, Bool.not_false, and_true, true_and] at hQz); simp only [go_sem, *] <;> rfl)); (case hl => (intro hQz; (try simp only [wantB_t, wantB_f, Bool.and_eq_true, Bool.not_eq_true', Bool.not_true, Bool.not_false, and_true, true_and] at hQz); simp only [go_sem, *] <;> rfl)); (case hn => (intro hQz; (try simp only [wantB_t, wantB_f, Bool.and_eq_true, Bool.not_eq_true', Bool.not_true, Bool.not_false, and_true, true_and] at hQz); simp only [go_sem, *] <;> rfl)); (case hp => intro hQz; first | exact letter2_ok _ | (have hXz := letter2_ok _; simp only [go_sem, *] at hXz; exact hXz)))
 | (refine Awp.ret ?_; try simp only [go_sem, *])
 | (refine Awp.skip ?_; try simp only [go_sem, *])
 | refine Awp.block ?_
 | (apply Awp.cond; (case hc => (simp only [go_sem, *] <;> rfl)); all_goals (intro hg; (try simp only [Bool.not_true, Bool.not_false, reduceCtorEq] at hg); (try have hg' := hg); (try simp only [decide_eq_true_eq, decide_eq_false_iff_not, Bool.and_eq_true, Bool.or_eq_false_iff, bne_iff_ne, bne_eq_false_iff_eq, beq_iff_eq, beq_eq_false_iff_ne, Int.not_lt, Int.not_le, Int.ofNat_lt, Int.ofNat_le, Int.natCast_inj] at hg')))
 | refine Awp.seq ?_)
  · exact Lower.bool (nameB_head hg).symm
  · have h0 := hg'
    refine Awp.loop (fun i : Nat => i ≤ s.size ∧ ∀ j, j < i → okB (byteAt s j) = true) 0 (fun i => mkS [(0, .v (.string s)), (3, .v (.int .i64 i))] []) (fun i => s.size - i) 0 (by simp) ?_ ?_
    · (apply Ghost.mk [] []; (case hdead => rfl); (case hinj => rfl); (case hV => (simp only [go_sem, *]) <;> (repeat' (first | exact View.int (by first | rfl | omega | (simp; done) | (rw [wrap_i64] <;> (try simp only [Int.natCast_add]) <;> omega) | (simp [*]; done))))); (case hB => (simp only [go_sem, *]) <;> (repeat' (first | skip; done))))
    · intro i ⟨hi, hj⟩
      repeat' (first
 | (apply Awp.sreg; (case hn => (simp only [List.length_cons, List.length_nil, Nat.reduceAdd] <;> rfl)))
 | (refine st_nil ?_)
 | (apply st_a; (case hc => rfl); (case he => (simp only [go_sem, *] <;> rfl)); (case hu => (simp only [updL_nil, updL_cons] <;> rfl)); (case hp => first | trivial | omega))
 | (apply st_m; (case hc => rfl); (case hg => (simp only [go_sem, *] <;> rfl)); (case he => (intro hQz; (try simp only [wantB_t, wantB_f, Bool.and_eq_true, Bool.not_eq_true', Bool.not_true, Bool.not_false, and_true, true_and] at hQz); simp only [go_sem, *] <;> rfl)); (case hp => (intro hQz; (try simp only [wantB_t, wantB_f, Bool.and_eq_true, Bool.not_eq_true', Bool.or_eq_false_iff, decide_eq_true_eq, decide_eq_false_iff_not, beq_iff_eq, beq_eq_false_iff_ne, bne_iff_ne, bne_eq_false_iff_eq, Int.not_lt, Int.not_le, Int.ofNat_lt, Int.ofNat_le] at hQz); first | trivial | omega)))
 | (apply st_c; (case hc => (simp only [go_sem, *] <;> rfl)); (case hl => (simp only [go_sem, *] <;> rfl)); (case hn => (simp only [go_sem, *] <;> rfl)); (case hp => first | exact letter2_ok _ | (have hXz := letter2_ok _; simp only [go_sem, *] at hXz; exact hXz)))
 | (apply st_mc; (case hop => rfl); (case hg => (simp only [go_sem, *] <;> rfl)); (case hc => (intro hQz; (try simp only [wantB_t, wantB_f, Bool.and_eq_true, Bool.not_eq_true', Bool.not_true, Bool.not_false, and_true, true_and] at hQz); simp only [go_sem, *] <;> rfl)); (case hl => (intro hQz; (try simp only [wantB_t, wantB_f, Bool.and_eq_true, Bool.not_eq_true', Bool.not_true, Bool.not_false, and_true, true_and] at hQz); simp only [go_sem, *] <;> rfl)); (case hn => (intro hQz; (try simp only [wantB_t, wantB_f, Bool.and_eq_true, Bool.not_eq_true', Bool.not_true, Bool.not_false, and_true, true_and] at hQz); simp only [go_sem, *] <;> rfl)); (case hp => intro hQz; first | exact digit2_ok _ | (have hXz := digit2_ok _; simp only [go_sem, *] at hXz; exact hXz)))
 | (apply Awp.reg; (case hn => (simp only [List.length_cons, List.length_nil, Nat.reduceAdd] <;> rfl)))
 | (refine Awp.ret ?_; try simp only [go_sem, *])
 | (refine Awp.skip ?_; try simp only [go_sem, *])
 | (refine Awp.exit ?_; try simp only [go_sem, *])
 | refine Awp.block ?_
 | (apply Awp.cond; (case hc => (simp only [go_sem, *] <;> rfl)); all_goals (intro hg; (try simp only [Bool.not_true, Bool.not_false, reduceCtorEq] at hg); (try have hg' := hg); (try simp only [decide_eq_true_eq, decide_eq_false_iff_not, Bool.and_eq_true, Bool.or_eq_false_iff, bne_iff_ne, bne_eq_false_iff_eq, beq_iff_eq, beq_eq_false_iff_ne, Int.not_lt, Int.not_le, Int.ofNat_lt, Int.ofNat_le, Int.natCast_inj] at hg')))
 | refine Awp.seq ?_)
      · rw [okN] at hg
        exact Lower.bool (nameB_bad (i := i) (by assumption) (by simpa using hg)).symm
      · rw [okN] at hg
        refine ⟨i + 1, ⟨by omega, ltSucc hj (by simpa using hg)⟩, by omega, ?_⟩
        (apply Ghost.mk [] []; (case hdead => rfl); (case hinj => rfl); (case hV => (simp only [go_sem, *]) <;> (repeat' (first | exact View.int (by first | rfl | omega | (simp; done) | (rw [wrap_i64] <;> (try simp only [Int.natCast_add]) <;> omega) | (simp [*]; done))))); (case hB => (simp only [go_sem, *]) <;> (repeat' (first | skip; done))))
      · exact Lower.bool (nameB_end h0.1.1 h0.1.2 (by simpa using h0.2) hj (by omega)).symm
theorem get_byteAt (s : ByteArray) (i : Nat) : ((s.get! i).toNat : Int) = byteAt s i := by
  show ((s.data[i]!).toNat : Int) = _
  rw [Array.getElem!_eq_getD]
  rfl
theorem decode_lo {s : ByteArray} {i : Nat} (h : byteAt s i < 128) : ((Utf8.decode s i).1 : Int) = byteAt s i ∧ (Utf8.decode s i).2 = 1 := by
  have h1 := get_byteAt s i
  have h2 : (s.get! i).toNat < 128 := by omega
  simp only [Utf8.decode, h2, if_true, Nat.add_zero]
  exact ⟨h1, trivial⟩
theorem decode_hi {s : ByteArray} {i : Nat} (h : 128 ≤ byteAt s i) : (128 : Int) ≤ ((Utf8.decode s i).1 : Int) := by
  have h1 := get_byteAt s i
  have h2 : ¬ (s.get! i).toNat < 128 := by omega
  have h3 : 128 ≤ (Utf8.decode s i).1 := by
    simp only [Utf8.decode, Nat.add_zero, h2, if_false, Utf8.runeError]
    repeat' split
    all_goals simp_all
    all_goals omega
  omega
def nmC (c : Int) (i : Nat) : Bool := !(decide (65 ≤ c) && decide (c ≤ 90) || decide (97 ≤ c) && decide (c ≤ 122)) && ((i : Int) == 0 || !(decide (48 ≤ c) && decide (c ≤ 57) || c == 95 || c == 45))
theorem nm_bad {s : ByteArray} {i : Nat} (hi : i < s.size) (h : nmC ((Utf8.decode s i).1 : Nat) i = true) : nameB s = false := by
  rcases Int.lt_or_le (byteAt s i) 128 with hb | hb
  · rw [(decode_lo hb).1] at h
    by_cases h0 : i = 0
    · subst h0
      refine nameB_head ?_
      simp only [nmC, Bool.and_eq_true, Bool.not_eq_true'] at h
      simp only [Bool.or_eq_true, Bool.not_eq_true', letB]
      refine .inr ?_
      rw [Bool.or_comm]
      exact h.1
    · refine nameB_bad hi ?_
      simp [nmC, okB, letB, digB, h0] at h ⊢
      omega
  · have := decode_hi hb
    refine nameB_bad hi ?_
    simp [okB, letB, digB]
    omega
theorem nm_good {s : ByteArray} {i : Nat} (h : nmC ((Utf8.decode s i).1 : Nat) i = false) : (Utf8.decode s i).2 = 1 ∧ okB (byteAt s i) = true ∧ (i = 0 → letB (byteAt s 0) = true) := by
  rcases Int.lt_or_le (byteAt s i) 128 with hb | hb
  · rw [(decode_lo hb).1] at h
    refine ⟨(decode_lo hb).2, ?_, fun h0 => ?_⟩
    · simp [nmC, okB, letB, digB] at h ⊢
      omega
    · subst h0
      simp [nmC, letB] at h ⊢
      omega
  · have h1 := decode_hi hb
    generalize ((Utf8.decode s i).1 : Int) = c at *
    simp [nmC] at h
    omega
theorem name_ok (s : ByteArray) : Pure Tryz.prog 48 [.v (.string s)] (.v (.bool (nameB s))) := by
  refine fn_pure Tryz.F48 (Nat.le_of_ble_eq_true rfl) ?_; unfold Tryz.ac48 AR AM AO
  repeat' (first
 | (apply Awp.sreg; (case hn => (simp only [List.length_cons, List.length_nil, Nat.reduceAdd] <;> rfl)))
 | (refine st_nil ?_)
 | (apply st_a; (case hc => rfl); (case he => (simp only [go_sem, *] <;> rfl)); (case hu => (simp only [updL_nil, updL_cons] <;> rfl)); (case hp => first | trivial))
 | (apply st_m; (case hc => rfl); (case hg => (simp only [go_sem, *] <;> rfl)); (case he => (intro hQz; (try simp only [wantB_t, wantB_f, Bool.and_eq_true, Bool.not_eq_true', Bool.not_true, Bool.not_false, and_true, true_and] at hQz); simp only [go_sem, *] <;> rfl)); (case hp => (intro hQz; (try simp only [wantB_t, wantB_f, Bool.and_eq_true, Bool.not_eq_true', Bool.or_eq_false_iff, decide_eq_true_eq, decide_eq_false_iff_not, beq_iff_eq, beq_eq_false_iff_ne, bne_iff_ne, bne_eq_false_iff_eq, Int.not_lt, Int.not_le, Int.ofNat_lt, Int.ofNat_le] at hQz); first | trivial)))
 | (refine Awp.ret ?_; try simp only [go_sem, *])
 | (refine Awp.skip ?_; try simp only [go_sem, *])
 | refine Awp.block ?_
 | (apply Awp.cond; (case hc => (simp only [go_sem, *] <;> rfl)); all_goals (intro hg; (try simp only [Bool.not_true, Bool.not_false, reduceCtorEq] at hg); (try have hg' := hg); (try simp only [decide_eq_true_eq, decide_eq_false_iff_not, Bool.and_eq_true, Bool.or_eq_false_iff, bne_iff_ne, bne_eq_false_iff_eq, beq_iff_eq, beq_eq_false_iff_ne, Int.not_lt, Int.not_le, Int.ofNat_lt, Int.ofNat_le, Int.natCast_inj] at hg')))
 | refine Awp.seq ?_)
  · refine Lower.bool (nameB_head ?_).symm
    rw [hg]; rfl
  · have h0 := hg'
    refine Awp.loop (fun i : Nat => i ≤ s.size ∧ (0 < i → letB (byteAt s 0) = true) ∧ ∀ j, j < i → okB (byteAt s j) = true) 10 (fun i => mkS [(0, .v (.string s)), (15, .bp 9 0)] [(9, .iter s i)]) (fun i => s.size - i) 0 (by simp) ?_ ?_
    · (apply Ghost.mk [] []; (case hdead => rfl); (case hinj => rfl); (case hV => (simp only [go_sem, *]) <;> (repeat' (first | exact .bp rfl (by decide)))); (case hB => (simp only [go_sem, *]) <;> (repeat' (first | exact ⟨_, rfl, .iterE (by first | rfl | omega | (simp; done) | (rw [wrap_i64] <;> (try simp only [Int.natCast_add]) <;> omega) | (simp [*]; done))⟩))))
    · intro i ⟨hi, hl, hj⟩
      by_cases hs : i < s.size
      · have e1 := nextV_in hs
        have e2 := nextPos_in hs
        repeat' (first
 | (apply Awp.sreg; (case hn => (simp only [List.length_cons, List.length_nil, Nat.reduceAdd] <;> rfl)))
 | (refine st_nil ?_)
 | (apply st_a; (case hc => rfl); (case he => (simp only [go_sem, *] <;> rfl)); (case hu => (simp only [updL_nil, updL_cons] <;> rfl)); (case hp => first | trivial))
 | (apply st_m; (case hc => rfl); (case hg => (simp only [go_sem, *] <;> rfl)); (case he => (intro hQz; (try simp only [wantB_t, wantB_f, Bool.and_eq_true, Bool.not_eq_true', Bool.not_true, Bool.not_false, and_true, true_and] at hQz); simp only [go_sem, *] <;> rfl)); (case hp => (intro hQz; (try simp only [wantB_t, wantB_f, Bool.and_eq_true, Bool.not_eq_true', Bool.or_eq_false_iff, decide_eq_true_eq, decide_eq_false_iff_not, beq_iff_eq, beq_eq_false_iff_ne, bne_iff_ne, bne_eq_false_iff_eq, Int.not_lt, Int.not_le, Int.ofNat_lt, Int.ofNat_le] at hQz); first | trivial)))
 | (refine Awp.ret ?_; try simp only [go_sem, *])
 | (refine Awp.skip ?_; try simp only [go_sem, *])
 | refine Awp.block ?_
 | (apply Awp.cond; (case hc => (simp only [go_sem, *] <;> rfl)); all_goals (intro hg; (try simp only [Bool.not_true, Bool.not_false, reduceCtorEq] at hg); (try have hg' := hg); (try simp only [decide_eq_true_eq, decide_eq_false_iff_not, Bool.and_eq_true, Bool.or_eq_false_iff, bne_iff_ne, bne_eq_false_iff_eq, beq_iff_eq, beq_eq_false_iff_ne, Int.not_lt, Int.not_le, Int.ofNat_lt, Int.ofNat_le, Int.natCast_inj] at hg')))
 | refine Awp.seq ?_)
        · exact Lower.bool (nm_bad hs hg).symm
        · obtain ⟨g1, g2, g3⟩ := nm_good (s := s) (i := i) hg
          rw [g1] at e2
          refine ⟨i + 1, ⟨by omega, fun _ => ?_, ltSucc hj g2⟩, by omega, ?_⟩
          · rcases Nat.eq_zero_or_pos i with h | h
            · exact g3 h
            · exact hl h
          · (apply Ghost.mk [] []; (case hdead => rfl); (case hinj => rfl); (case hV => (simp only [go_sem, *]) <;> (repeat' (first | exact .bp rfl (by decide)))); (case hB => (simp only [go_sem, *]) <;> (repeat' (first | exact ⟨_, rfl, .iterE (by first | rfl | omega | (simp; done) | (rw [wrap_i64] <;> (try simp only [Int.natCast_add]) <;> omega) | (simp [*]; done))⟩))))
      · have e1 := nextV_end hs
        have e2 := nextPos_end hs
        repeat' (first
 | (apply Awp.sreg; (case hn => (simp only [List.length_cons, List.length_nil, Nat.reduceAdd] <;> rfl)))
 | (refine st_nil ?_)
 | (apply st_a; (case hc => rfl); (case he => (simp only [go_sem, *] <;> rfl)); (case hu => (simp only [updL_nil, updL_cons] <;> rfl)); (case hp => first | trivial))
 | (refine Awp.ret ?_; try simp only [go_sem, *])
 | (refine Awp.exit ?_; try simp only [go_sem, *])
 | (apply Awp.cond; (case hc => (simp only [go_sem, *] <;> rfl)); all_goals (intro hg; (try simp only [Bool.not_true, Bool.not_false, reduceCtorEq] at hg); (try have hg' := hg); (try simp only [decide_eq_true_eq, decide_eq_false_iff_not, Bool.and_eq_true, Bool.or_eq_false_iff, bne_iff_ne, bne_eq_false_iff_eq, beq_iff_eq, beq_eq_false_iff_ne, Int.not_lt, Int.not_le, Int.ofNat_lt, Int.ofNat_le, Int.natCast_inj] at hg')))
 | refine Awp.seq ?_)
        all_goals exact Lower.bool (nameB_end h0.1 h0.2 (hl (by omega)) hj (by omega)).symm
end Go.Proofs
namespace Go.Proofs
open Go.Shelf
def Tryz.lays219_ren : Go.Shelf.Ren := ⟨fun | 219 => 123 | 217 => 129 | 225 => 130 | 224 => 131 | 267 => 132 | 266 => 134 | 314 => 135 | n => n, fun | 9 => 9 | 3 => 3 | 4 => 4 | 5 => 5 | 46 => 118 | 146 => 166 | 51 => 134 | n => n, fun | 1 => 0 | n => n⟩
def Tryz.lays143_ren : Go.Shelf.Ren := ⟨fun | 143 => 105 | 219 => 123 | 217 => 129 | 225 => 130 | 224 => 131 | 267 => 132 | 266 => 134 | 314 => 135 | n => n, fun | 9 => 9 | 3 => 3 | 4 => 4 | 5 => 5 | 46 => 118 | 146 => 166 | 51 => 134 | n => n, fun | 1 => 0 | n => n⟩
theorem Tryz.lays143 : Go.Proofs.Lays.n143 Tryz.prog Tryz.lays143_ren := {
  mixed := by kernel_rfl
  f143 := Tryz.func105.trans (congrArg some (by kernel_rfl))
  f217 := Tryz.func129.trans (congrArg some (by kernel_rfl))
  f219 := Tryz.func123.trans (congrArg some (by kernel_rfl))
  f224 := Tryz.func131.trans (congrArg some (by kernel_rfl))
  f225 := Tryz.func130.trans (congrArg some (by kernel_rfl))
  f266 := Tryz.func134.trans (congrArg some (by kernel_rfl))
  f267 := Tryz.func132.trans (congrArg some (by kernel_rfl))
  f314 := Tryz.func135.trans (congrArg some (by kernel_rfl))
  t3 := Tryz.underlying3
  a3 := Tryz.isAgg3
  z3 := Tryz.sizeOf3
  v3 := Tryz.zeroValue3
  t4 := Tryz.underlying4
  a4 := Tryz.isAgg4
  z4 := Tryz.sizeOf4
  v4 := Tryz.zeroValue4
  t5 := Tryz.underlying5
  a5 := Tryz.isAgg5
  z5 := Tryz.sizeOf5
  v5 := Tryz.zeroValue5
  t9 := Tryz.underlying9
  a9 := Tryz.isAgg9
  z9 := Tryz.sizeOf9
  v9 := Tryz.zeroValue9
  t46 := Tryz.underlying118
  a46 := Tryz.isAgg118
  z46 := Tryz.sizeOf118
  v46 := Tryz.zeroValue118
  t51 := Tryz.underlying134
  a51 := Tryz.isAgg134
  z51 := Tryz.sizeOf134
  v51 := Tryz.zeroValue134
  t146 := Tryz.underlying166
  a146 := Tryz.isAgg166
  z146 := Tryz.sizeOf166
  v146 := Tryz.zeroValue166
  g1 := by kernel_rfl }
open Go.RowKit Go.Lib in
/-- strings.Index: "Index returns the index of the first instance of substr in s, or -1 if substr is not present in s.": AT A substr OF ONE BYTE c: IT RETURNS 'Lib.indexByte s c'; the world is as it was. (LAID: no walk: one application.) -/
theorem Tryz.strings_Index_one (s : ByteArray) (c : UInt8) (w : World) :
    Calls Tryz.prog 105 #[.string s, .string ⟨#[c]⟩] w fun e w' => e = .returned (.int .i64 (Lib.indexByte s.data.toList c)) ∧ w' = w := Any.strings_Index_one Tryz.lays143 s c w
def Tryz.lays138_ren : Go.Shelf.Ren := ⟨fun | 138 => 104 | 195 => 120 | 218 => 122 | 143 => 105 | 219 => 123 | 217 => 129 | 225 => 130 | 224 => 131 | 267 => 132 | 266 => 134 | 314 => 135 | n => n, fun | 9 => 9 | 3 => 3 | 4 => 4 | 5 => 5 | 0 => 0 | 46 => 118 | 146 => 166 | 51 => 134 | n => n, fun | 1 => 0 | n => n⟩
theorem Tryz.lays138 : Go.Proofs.Lays.n138 Tryz.prog Tryz.lays138_ren := {
  mixed := by kernel_rfl
  f138 := Tryz.func104.trans (congrArg some (by kernel_rfl))
  f143 := Tryz.func105.trans (congrArg some (by kernel_rfl))
  f195 := Tryz.func120.trans (congrArg some (by kernel_rfl))
  f217 := Tryz.func129.trans (congrArg some (by kernel_rfl))
  f218 := Tryz.func122.trans (congrArg some (by kernel_rfl))
  f219 := Tryz.func123.trans (congrArg some (by kernel_rfl))
  f224 := Tryz.func131.trans (congrArg some (by kernel_rfl))
  f225 := Tryz.func130.trans (congrArg some (by kernel_rfl))
  f266 := Tryz.func134.trans (congrArg some (by kernel_rfl))
  f267 := Tryz.func132.trans (congrArg some (by kernel_rfl))
  f314 := Tryz.func135.trans (congrArg some (by kernel_rfl))
  t0 := Tryz.underlying0
  a0 := Tryz.isAgg0
  z0 := Tryz.sizeOf0
  v0 := Tryz.zeroValue0
  t3 := Tryz.underlying3
  a3 := Tryz.isAgg3
  z3 := Tryz.sizeOf3
  v3 := Tryz.zeroValue3
  t4 := Tryz.underlying4
  a4 := Tryz.isAgg4
  z4 := Tryz.sizeOf4
  v4 := Tryz.zeroValue4
  t5 := Tryz.underlying5
  a5 := Tryz.isAgg5
  z5 := Tryz.sizeOf5
  v5 := Tryz.zeroValue5
  t9 := Tryz.underlying9
  a9 := Tryz.isAgg9
  z9 := Tryz.sizeOf9
  v9 := Tryz.zeroValue9
  t46 := Tryz.underlying118
  a46 := Tryz.isAgg118
  z46 := Tryz.sizeOf118
  v46 := Tryz.zeroValue118
  t51 := Tryz.underlying134
  a51 := Tryz.isAgg134
  z51 := Tryz.sizeOf134
  v51 := Tryz.zeroValue134
  t146 := Tryz.underlying166
  a146 := Tryz.isAgg166
  z146 := Tryz.sizeOf166
  v146 := Tryz.zeroValue166
  g1 := by kernel_rfl }
open Go.RowKit Go.Lib in
/-- strings.Count AT A substr OF ONE BYTE ('hp'): "Count counts the number of non-overlapping instances of substr in s.": IT RETURNS 'Lib.countByte s (that byte)'; the world is as it was. ✋ NO CONTRACT HERE YET at an empty substr (utf8.RuneCountInString) or at a longer one (a loop over strings.Index). (LAID: no walk: one application.) -/
theorem Tryz.strings_Count_one (s : ByteArray) (c : UInt8) (w : World) :
    Calls Tryz.prog 104 #[.string s, .string ⟨#[c]⟩] w fun e w' => e = .returned (.int .i64 (Lib.countByte s.data.toList c)) ∧ w' = w := Any.strings_Count_one Tryz.lays138 s c w
def Tryz.lays189_ren : Go.Shelf.Ren := ⟨fun | 189 => 77 | 125 => 84 | 257 => 91 | 128 => 100 | 129 => 101 | 294 => 106 | 295 => 107 | 296 => 108 | 297 => 109 | 298 => 110 | 299 => 111 | 216 => 112 | 300 => 113 | 301 => 114 | 328 => 124 | 329 => 116 | 330 => 117 | 331 => 125 | 332 => 126 | 215 => 60 | 343 => 133 | n => n, fun | 28 => 60 | 3 => 3 | 46 => 118 | 0 => 0 | 51 => 134 | 53 => 136 | 4 => 4 | 183 => 127 | 182 => 126 | 131 => 131 | 5 => 5 | 9 => 9 | 218 => 145 | 222 => 149 | 228 => 157 | 229 => 158 | n => n, fun | n => n⟩
theorem Tryz.lays189 : Go.Proofs.Lays.n189 Tryz.prog Tryz.lays189_ren := {
  mixed := by kernel_rfl
  f125 := Tryz.func84.trans (congrArg some (by kernel_rfl))
  f128 := Tryz.func100.trans (congrArg some (by kernel_rfl))
  f129 := Tryz.func101.trans (congrArg some (by kernel_rfl))
  f189 := Tryz.func77.trans (congrArg some (by kernel_rfl))
  f215 := Tryz.func60.trans (congrArg some (by kernel_rfl))
  f216 := Tryz.func112.trans (congrArg some (by kernel_rfl))
  f257 := Tryz.func91.trans (congrArg some (by kernel_rfl))
  f294 := Tryz.func106.trans (congrArg some (by kernel_rfl))
  f295 := Tryz.func107.trans (congrArg some (by kernel_rfl))
  f296 := Tryz.func108.trans (congrArg some (by kernel_rfl))
  f297 := Tryz.func109.trans (congrArg some (by kernel_rfl))
  f298 := Tryz.func110.trans (congrArg some (by kernel_rfl))
  f299 := Tryz.func111.trans (congrArg some (by kernel_rfl))
  f300 := Tryz.func113.trans (congrArg some (by kernel_rfl))
  f301 := Tryz.func114.trans (congrArg some (by kernel_rfl))
  f328 := Tryz.func124.trans (congrArg some (by kernel_rfl))
  f329 := Tryz.func116.trans (congrArg some (by kernel_rfl))
  f330 := Tryz.func117.trans (congrArg some (by kernel_rfl))
  f331 := Tryz.func125.trans (congrArg some (by kernel_rfl))
  f332 := Tryz.func126.trans (congrArg some (by kernel_rfl))
  f343 := Tryz.func133.trans (congrArg some (by kernel_rfl))
  t0 := Tryz.underlying0
  a0 := Tryz.isAgg0
  z0 := Tryz.sizeOf0
  v0 := Tryz.zeroValue0
  t3 := Tryz.underlying3
  a3 := Tryz.isAgg3
  z3 := Tryz.sizeOf3
  v3 := Tryz.zeroValue3
  t4 := Tryz.underlying4
  a4 := Tryz.isAgg4
  z4 := Tryz.sizeOf4
  v4 := Tryz.zeroValue4
  t5 := Tryz.underlying5
  a5 := Tryz.isAgg5
  z5 := Tryz.sizeOf5
  v5 := Tryz.zeroValue5
  t9 := Tryz.underlying9
  a9 := Tryz.isAgg9
  z9 := Tryz.sizeOf9
  v9 := Tryz.zeroValue9
  t28 := Tryz.underlying60
  a28 := Tryz.isAgg60
  z28 := Tryz.sizeOf60
  v28 := Tryz.zeroValue60
  t46 := Tryz.underlying118
  a46 := Tryz.isAgg118
  z46 := Tryz.sizeOf118
  v46 := Tryz.zeroValue118
  t51 := Tryz.underlying134
  a51 := Tryz.isAgg134
  z51 := Tryz.sizeOf134
  v51 := Tryz.zeroValue134
  t53 := Tryz.underlying136
  a53 := Tryz.isAgg136
  z53 := Tryz.sizeOf136
  v53 := Tryz.zeroValue136
  t131 := Tryz.underlying131
  a131 := Tryz.isAgg131
  z131 := Tryz.sizeOf131
  v131 := Tryz.zeroValue131
  t182 := Tryz.underlying126
  a182 := Tryz.isAgg126
  z182 := Tryz.sizeOf126
  v182 := Tryz.zeroValue126
  t183 := Tryz.underlying127
  a183 := Tryz.isAgg127
  z183 := Tryz.sizeOf127
  v183 := Tryz.zeroValue127
  t218 := Tryz.underlying145
  a218 := Tryz.isAgg145
  z218 := Tryz.sizeOf145
  v218 := Tryz.zeroValue145
  t222 := Tryz.underlying149
  a222 := Tryz.isAgg149
  z222 := Tryz.sizeOf149
  v222 := Tryz.zeroValue149
  t228 := Tryz.underlying157
  a228 := Tryz.isAgg157
  z228 := Tryz.sizeOf157
  v228 := Tryz.zeroValue157
  t229 := Tryz.underlying158
  a229 := Tryz.isAgg158
  z229 := Tryz.sizeOf158
  v229 := Tryz.zeroValue158 }
open Go.Sort Go.RowKit in
theorem Tryz.slices_Sort_int (blk off cap : Nat) (zs : List Int) (w : World) (hH : Holds (Value.int .i64) w blk off zs.toArray) (hblk : blk < w.heap.size) (hsz : zs.length < 4611686018427387904) :
    Calls Tryz.prog 77 #[.slice (some ⟨blk, off, none⟩) zs.length cap] w fun e w' =>
      e = .returned (.tuple #[]) ∧ ∃ n os, w' = grow (putRow (Value.int .i64) (Sort.ahead w n) blk off (zs.mergeSort fun x y => decide (x ≤ y)).toArray) os := Any.slices_Sort_int Tryz.lays189 blk off cap zs w hH hblk hsz
def Tryz.laysNm220_ren : Go.Shelf.Ren := ⟨fun | 20 => 78 | n => n, fun | 22 => 60 | 3 => 3 | 4 => 4 | 0 => 0 | n => n, fun | n => n⟩
theorem Tryz.laysNm220 : Go.Proofs.Lays2.n20 Tryz.prog Tryz.laysNm220_ren := {
  mixed := by kernel_rfl
  f20 := Tryz.func78.trans (congrArg some (by kernel_rfl))
  t0 := Tryz.underlying0
  a0 := Tryz.isAgg0
  z0 := Tryz.sizeOf0
  v0 := Tryz.zeroValue0
  t3 := Tryz.underlying3
  a3 := Tryz.isAgg3
  z3 := Tryz.sizeOf3
  v3 := Tryz.zeroValue3
  t4 := Tryz.underlying4
  a4 := Tryz.isAgg4
  z4 := Tryz.sizeOf4
  v4 := Tryz.zeroValue4
  t22 := Tryz.underlying60
  a22 := Tryz.isAgg60
  z22 := Tryz.sizeOf60
  v22 := Tryz.zeroValue60
  i3 := by kernel_rfl }
open Go.RowKit Go.Lib Go.Sort in
/-- slices.Compact at []int: "Compact replaces consecutive runs of equal elements with a single copy. This is like the uniq command found on Unix. Compact modifies the contents of the slice s and returns the modified slice, which may have a smaller length. Compact zeroes the elements between the new length and the original length. The result preserves the nilness of s.": IT RETURNS THE SLICE CUT TO 'Lib.compact zs'; ITS CELLS HOLD 'Lib.compact zs', THEN ZERO VALUES up to the old length; all else is as it was, but for the count of draws. IN THE WORDS OF slices.Sort's CONTRACT ('Holds', 'putRow'): so the everyday 'slices.Sort(xs); xs = slices.Compact(xs)' goes from the one contract to the other. It asks 'zs.length ≤ cap' (every slice's: the reslicing 's[:k]' looks at it). Length 0, nil: '.._empty'. (LAID: no walk: one application.) -/
theorem Tryz.slices_Compact_int (blk off cap : Nat) (zs : List Int) (w : World) (hH : Holds (Value.int .i64) w blk off zs.toArray) (hsz : zs.length ≤ 9223372036854775807) (hcap : zs.length ≤ cap) :
    Calls Tryz.prog 78 #[.slice (some ⟨blk, off, none⟩) zs.length cap] w fun e w' => e = .returned (.slice (some ⟨blk, off, none⟩) (Lib.compact zs).length cap) ∧ ∃ q, w' = putRow (Value.int .i64) (Sort.ahead w q) blk off (Lib.compact zs ++ List.replicate (zs.length - (Lib.compact zs).length) 0).toArray := Any.slices_Compact_int Tryz.laysNm220 blk off cap zs w hH hsz hcap
open Go.RowKit Go.Lib Go.Sort in
/-- The same at a slice of length 0, a nil one too: it comes back as it is. (LAID: no walk: one application.) -/
theorem Tryz.slices_Compact_int_empty (a : Option Addr) (cap : Nat) (w : World) :
    Calls Tryz.prog 78 #[.slice a 0 cap] w fun e w' => e = .returned (.slice a 0 cap) ∧ w' = w := Any.slices_Compact_int_empty Tryz.laysNm220 a cap w
open Go.RowKit Go.Sort in
/-- .. and plain. (LAID: no walk: one application.) -/
theorem Tryz.slices_Sort_int_none (p : Option Addr) (cap : Nat) (w : World) :
    Calls Tryz.prog 77 #[.slice p 0 cap] w fun e w' => e = .returned (.tuple #[]) ∧ w' = w := Any.slices_Sort_int_none Tryz.lays189 p cap w
end Go.Proofs
namespace Go.Proofs
open Go Go.Ab
set_option maxHeartbeats 1000000
set_option maxRecDepth 100000
theorem pure_two {P : Program} {f : FuncId} {x y v : Value} (hc : Callable P f) (h : ∀ w, Calls P f #[x, y] w fun e w' => e = .returned v ∧ w' = w) : Go.Ab.Pure P f [.v x, .v y] (.v v) := by
  refine ⟨hc, fun ok w cs ha => ?_⟩
  obtain ⟨hl, hv⟩ := ha
  match cs, hl with
  | [a, b], _ =>
    have h1 := hv 0 (by simp)
    have h2 := hv 1 (by simp)
    simp only [av_zero, av_succ, cv, List.getD_cons_zero, List.getD_cons_succ] at h1 h2
    cases h1; cases h2
    refine (h w).mono fun e w' ⟨he, hw⟩ => ⟨v, he, ?_, .v _⟩
    subst hw
    exact ⟨rfl, rfl, rfl, Nat.le_refl _, fun _ _ => rfl⟩
theorem count_ok (s : ByteArray) : Go.Ab.Pure Tryz.prog 104 [.v (.string s), .v (.string ⟨⟨[46]⟩⟩)] (.v (.int .i64 (Lib.countByte s.data.toList 46 : Nat))) :=
  pure_two ⟨_, Tryz.func104, by kernel_rfl, by kernel_rfl⟩ fun w => Tryz.strings_Count_one s 46 w
theorem indexS_ok (s : ByteArray) : Go.Ab.Pure Tryz.prog 105 [.v (.string s), .v (.string ⟨⟨[46]⟩⟩)] (.v (.int .i64 (Lib.indexByte s.data.toList 46))) :=
  pure_two ⟨_, Tryz.func105, by kernel_rfl, by kernel_rfl⟩ fun w => Tryz.strings_Index_one s 46 w
attribute [local irreducible] Awp aops aopsL Go.Ab.Pure PureOwn
def strs (l : List ByteArray) : List (List AV) := l.map fun s => [.v (.string s)]
@[go_sem] theorem strs_len (l : List ByteArray) : (strs l).length = l.length := by simp [strs]
@[go_sem] theorem strs_at (l : List ByteArray) (i : Nat) (h : i < l.length) : (strs l).getD i [] = [.v (.string (l.getD i ⟨#[]⟩))] := by
  simp [strs, List.getD_eq_getElem?_getD, h]
@[go_sem] theorem cast_beq (a b : Nat) : ((a : Int) == (b : Int)) = (a == b) := by
  rw [Bool.eq_iff_iff, beq_iff_eq, beq_iff_eq, Int.natCast_inj]
theorem strs_snoc (l : List ByteArray) (s : ByteArray) : strs l ++ [[.v (.string s)]] = strs (l ++ [s]) := by simp [strs]
def parF (s : ByteArray) : Nat → Nat → Nat → List ByteArray
  | 0, _, _ => []
  | n + 1, i, fr => if i == s.size || byteAt s i == 46 then s.extract fr i :: parF s n (i + 1) (i + 1) else parF s n (i + 1) fr
def parts (s : ByteArray) : List ByteArray := parF s (s.size + 1) 0 0
theorem parts_ok (s : ByteArray) (hs : s.size < 1000000) : PureOwn Tryz.prog 67 [.v (.string s)] (strs (parts s)) 1 9 := by
  refine fn_own Tryz.F67 (Nat.le_of_ble_eq_true rfl) ?_; unfold Tryz.ac67 AR AM AO
  repeat' (first
 | (apply Awp.sreg; (case hn => (simp only [List.length_cons, List.length_nil, Nat.reduceAdd] <;> rfl)))
 | (refine st_nil ?_)
 | (apply st_a; (case hc => rfl); (case he => (simp only [go_sem, *] <;> rfl)); (case hu => (simp only [updL_nil, updL_cons] <;> rfl)); (case hp => first | trivial))
 | refine Awp.block ?_
 | refine Awp.seq ?_)
  · refine Awp.loop (fun x : Nat × Nat × List ByteArray => x.1 ≤ s.size + 1 ∧ x.2.1 ≤ x.1 ∧ x.2.2.length ≤ x.1 ∧ x.2.2 ++ parF s (s.size + 1 - x.1) x.1 x.2.1 = parts s) 20
      (fun x => mkS [(0, .v (.string s)), (3, .own 0), (4, .v (.int .i64 x.2.1)), (5, .v (.int .i64 x.1))] [(0, .row (strs x.2.2) 1 9)]) (fun x => s.size + 1 - x.1) (0, 0, []) (by simp [parts]) ?_ ?_
    · refine Ghost.trans (Ghost.name 3 1 9 rfl (by decide)) ?_
      (apply Ghost.mk [(0, 4)] []; (case hdead => rfl); (case hinj => rfl); (case hV => (simp only [go_sem, *]) <;> (repeat' (first | refine And.intro ?_ ?_ | exact View.int (by first | rfl | omega | (simp; done) | (rw [wrap_i64] <;> (try simp only [Int.natCast_add]) <;> omega) | (simp [*]; done)) | exact .own rfl (by decide)))); (case hB => (simp only [go_sem, *]) <;> (repeat' (first | exact ⟨_, rfl, .rowE (by first | rfl | omega | (simp; done) | (rw [wrap_i64] <;> (try simp only [Int.natCast_add]) <;> omega) | (simp [*]; done))⟩))))
    · intro ⟨i, fr, out⟩ ⟨h1, h2, h3, h4⟩
      dsimp only at h1 h2 h3 h4 ⊢
      repeat' (first
 | (apply Awp.sreg; (case hn => (simp only [List.length_cons, List.length_nil, Nat.reduceAdd] <;> rfl)))
 | (refine st_nil ?_)
 | (apply st_a; (case hc => rfl); (case he => (simp only [go_sem, *] <;> rfl)); (case hu => (simp only [updL_nil, updL_cons] <;> rfl)); (case hp => first | trivial | omega | (simp; done) | (simp; omega)))
 | (apply st_m; (case hc => rfl); (case hg => (simp only [go_sem, *] <;> rfl)); (case he => (intro hQz; (try simp only [wantB_t, wantB_f, Bool.and_eq_true, Bool.not_eq_true', Bool.not_true, Bool.not_false, and_true, true_and] at hQz); simp only [go_sem, *] <;> rfl)); (case hp => (intro hQz; (try simp only [wantB_t, wantB_f, Bool.and_eq_true, Bool.not_eq_true', Bool.or_eq_false_iff, decide_eq_true_eq, decide_eq_false_iff_not, beq_iff_eq, beq_eq_false_iff_ne, bne_iff_ne, bne_eq_false_iff_eq, Int.not_lt, Int.not_le, Int.ofNat_lt, Int.ofNat_le] at hQz); first | trivial | omega)))
 | (apply Awp.reg; (case hn => (simp only [List.length_cons, List.length_nil, Nat.reduceAdd] <;> rfl)))
 | (refine Awp.ret ?_; try simp only [go_sem, *])
 | (refine Awp.skip ?_; try simp only [go_sem, *])
 | (refine Awp.exit ?_; try simp only [go_sem, *])
 | refine Awp.block ?_
 | (apply Awp.cond; (case hc => (simp only [go_sem, *] <;> rfl)); all_goals (intro hg; (try simp only [Bool.not_true, Bool.not_false, reduceCtorEq] at hg); (try have hg' := hg); (try simp only [decide_eq_true_eq, decide_eq_false_iff_not, Bool.and_eq_true, Bool.or_eq_false_iff, bne_iff_ne, bne_eq_false_iff_eq, beq_iff_eq, beq_eq_false_iff_ne, Int.not_lt, Int.not_le, Int.ofNat_lt, Int.ofNat_le, Int.natCast_inj] at hg')))
 | refine Awp.seq ?_)
      · refine ⟨(i + 1, i + 1, out ++ [s.extract fr i]), ⟨by dsimp only; omega, by dsimp only; omega, by simp; omega, ?_⟩, by dsimp only; omega, ?_⟩
        · dsimp only
          rw [← h4, show s.size + 1 - i = s.size + 1 - (i + 1) + 1 by omega, parF, if_pos hg]
          simp
        · (apply Ghost.mk [(0, 40)] []; (case hdead => rfl); (case hinj => rfl); (case hV => (simp only [go_sem, *]) <;> (repeat' (first | refine And.intro ?_ ?_ | exact View.int (by first | rfl | exact strs_snoc _ _ | omega | (simp; done) | (rw [wrap_i64] <;> (try simp only [Int.natCast_add]) <;> omega) | (simp [*]; done)) | exact .own rfl (by decide)))); (case hB => (simp only [go_sem, *]) <;> (repeat' (first | exact ⟨_, rfl, .rowE (by first | rfl | exact strs_snoc _ _ | omega | (simp; done) | (rw [wrap_i64] <;> (try simp only [Int.natCast_add]) <;> omega) | (simp [*]; done))⟩))))
      · refine ⟨(i + 1, fr, out), ⟨by dsimp only; omega, by dsimp only; omega, by dsimp only; omega, ?_⟩, by dsimp only; omega, ?_⟩
        · dsimp only
          rw [← h4, show s.size + 1 - i = s.size + 1 - (i + 1) + 1 by omega, parF, if_neg (by rw [hg]; decide)]
        · (apply Ghost.mk [] []; (case hdead => rfl); (case hinj => rfl); (case hV => (simp only [go_sem, *]) <;> (repeat' (first | refine And.intro ?_ ?_ | exact View.int (by first | rfl | omega | (simp; done) | (rw [wrap_i64] <;> (try simp only [Int.natCast_add]) <;> omega) | (simp [*]; done)) | exact .own rfl (by decide)))); (case hB => (simp only [go_sem, *]) <;> (repeat' (first | exact ⟨_, rfl, .rowE (by first | rfl | omega | (simp; done) | (rw [wrap_i64] <;> (try simp only [Int.natCast_add]) <;> omega) | (simp [*]; done))⟩))))
      · refine ⟨0, rfl, ?_⟩
        have : s.size + 1 - i = 0 := by omega
        rw [this, parF, List.append_nil] at h4
        rw [← h4]
        rfl
theorem ext_ext (s : ByteArray) (a b c d : Nat) : (s.extract a b).extract c d = s.extract (a + c) (min (a + d) b) := by
  apply ByteArray.ext
  simp [Array.extract_extract]
theorem ext_size (s : ByteArray) (a b : Nat) : (s.extract a b).size = min b s.size - a := by
  exact ByteArray.size_extract
end Go.Proofs
namespace Go.Proofs
open Go Go.Ab
set_option maxHeartbeats 1000000
set_option maxRecDepth 100000
attribute [local irreducible] Awp aops aopsL Go.Ab.Pure PureOwn
theorem ix_some : ∀ (l : List UInt8), 0 < l.count 46 → ∃ m : Nat, Lib.indexByte l 46 = (m : Int) ∧ m < l.length ∧ l.getD m 0 = 46 ∧ (∀ j, j < m → l.getD j 0 ≠ 46) ∧ l.count 46 = (l.drop (m + 1)).count 46 + 1
  | [], h => by simp at h
  | b :: l, h => by
    by_cases hb : b = 46
    · subst hb
      exact ⟨0, by simp [Lib.indexByte], by simp, by simp, fun j hj => by omega, by simp⟩
    · have hc : (b :: l).count 46 = l.count 46 := by rw [List.count_cons]; simp [hb]
      rw [hc] at h
      obtain ⟨m, h1, h2, h3, h4, h5⟩ := ix_some l h
      refine ⟨m + 1, ?_, by simp; omega, by simpa using h3, fun j hj => ?_, by rw [hc, h5]; simp⟩
      · have : ¬ ((m : Int) = -1) := by omega
        simp [Lib.indexByte, hb, h1, this]
      · cases j with
        | zero => simpa using hb
        | succ j => simpa using h4 j (by omega)
theorem byteAt_list (s : ByteArray) (i : Nat) : byteAt s i = ((s.data.toList.getD i 0).toNat : Int) := by
  unfold byteAt
  rw [Array.getD_eq_getD_getElem?, List.getD_eq_getElem?_getD, Array.getElem?_toList]
theorem byteAt_dot {s : ByteArray} {i : Nat} : byteAt s i = 46 ↔ s.data.toList.getD i 0 = 46 := by
  rw [byteAt_list]
  constructor
  · intro h
    have : (s.data.toList.getD i 0).toNat = 46 := by omega
    exact UInt8.toNat_inj.1 this
  · intro h; rw [h]; rfl
theorem ext_list (s : ByteArray) (fr : Nat) : (s.extract fr s.size).data.toList = s.data.toList.drop fr := by
  rw [ByteArray.data_extract, Array.toList_extract]
  show List.take (s.data.size - fr) (List.drop fr s.data.toList) = _
  exact List.take_of_length_le (by simp)
theorem ext_all (s : ByteArray) : s = s.extract 0 s.size := by simp
theorem parF_run (s : ByteArray) (fr : Nat) : ∀ (m i : Nat), i + m ≤ s.size → (∀ j, j < m → byteAt s (i + j) ≠ 46) → parF s (s.size + 1 - i) i fr = parF s (s.size + 1 - (i + m)) (i + m) fr
  | 0, i, _, _ => rfl
  | m + 1, i, h, hj => by
    have h0 := hj 0 (by omega)
    rw [show s.size + 1 - i = s.size + 1 - (i + 1) + 1 by omega, parF, if_neg (by simp only [Bool.or_eq_true, beq_iff_eq, not_or]; exact ⟨by omega, h0⟩)]
    rw [parF_run s fr m (i + 1) (by omega) (fun j hj' => by rw [show i + 1 + j = i + (j + 1) by omega]; exact hj (j + 1) (by omega))]
    rw [show i + 1 + m = i + (m + 1) by omega]
theorem parF_dot {s : ByteArray} {fr m : Nat} (h : fr + m < s.size) (hm : byteAt s (fr + m) = 46) (hj : ∀ j, j < m → byteAt s (fr + j) ≠ 46) : parF s (s.size + 1 - fr) fr fr = s.extract fr (fr + m) :: parF s (s.size + 1 - (fr + m + 1)) (fr + m + 1) (fr + m + 1) := by
  rw [parF_run s fr m fr (by omega) hj, show s.size + 1 - (fr + m) = s.size + 1 - (fr + m + 1) + 1 by omega, parF, if_pos (by simp [hm])]
theorem parF_last {s : ByteArray} {fr : Nat} (h : fr ≤ s.size) (hj : ∀ j, fr ≤ j → j < s.size → byteAt s j ≠ 46) : parF s (s.size + 1 - fr) fr fr = [s.extract fr s.size] := by
  rw [parF_run s fr (s.size - fr) fr (by omega) (fun j hj' => hj _ (by omega) (by omega)), show fr + (s.size - fr) = s.size by omega, show s.size + 1 - s.size = 0 + 1 by omega, parF, if_pos (by simp), parF]
theorem count_zero {l : List UInt8} {fr : Nat} (h : (l.drop fr).count 46 = 0) : ∀ j, fr ≤ j → j < l.length → l.getD j 0 ≠ 46 := by
  intro j h1 h2 e
  rw [List.count_eq_zero] at h
  refine h ?_
  rw [← e]
  simp only [List.getD_eq_getElem?_getD, List.getElem?_eq_getElem h2, Option.getD_some]
  exact List.mem_drop_iff_getElem.2 ⟨j - fr, by omega, by congr 1; omega⟩
theorem rep_at (l : List ByteArray) (n : Nat) (z : List AV) (h : 0 < n) : (strs l ++ List.replicate n z).getD l.length [] = z := by
  simp [strs, List.getD_eq_getElem?_getD, List.getElem?_append_right, List.getElem?_replicate, h]
theorem rep_set (l : List ByteArray) (n : Nat) (z : List AV) (x : ByteArray) (h : l.length < n) : (strs l ++ List.replicate (n - l.length) z).set l.length [.v (.string x)] = strs (l ++ [x]) ++ List.replicate (n - (l ++ [x]).length) z := by
  have h1 : n - l.length = (n - (l ++ [x]).length) + 1 := by simp; omega
  rw [h1, List.replicate_succ]
  simp [strs, List.set_append_right]
theorem getD_drop (l : List UInt8) (k j : Nat) : (l.drop k).getD j 0 = l.getD (k + j) 0 := by
  simp [List.getD_eq_getElem?_getD, List.getElem?_drop]
theorem gensplit_ok (s : ByteArray) (hs : s.size < 1000000) : Pure Tryz.prog 90 [.v (.string s), .v (.string ⟨⟨[46]⟩⟩), .v (.int .i64 0), .v (.int .i64 (-1))] (.sl (strs (parts s))) := by
  obtain ⟨C, hC⟩ : ∃ C, Lib.countByte s.data.toList 46 = C := ⟨_, rfl⟩
  have hc := count_ok s
  rw [hC] at hc
  have hle : C ≤ s.size := by rw [← hC]; exact List.count_le_length
  have w1 : IntKind.i64.wrap ((C : Int) + 1) = C + 1 := wrap_i64 (by omega) (by omega)
  have w2 : IntKind.i64.wrap ((s.size : Int) + 1) = s.size + 1 := wrap_i64 (by omega) (by omega)
  have w3 : ¬ ((s.size : Int) + 1 < C + 1) := by omega
  have w4 : IntKind.i64.wrap ((C : Int) + 1 - 1) = C := by rw [wrap_i64] <;> omega
  have w5 : ((C : Int) + 1).toNat = C + 1 := by omega
  have w6 : (Array.size (⟨[46]⟩ : Array UInt8) == 0) = false := rfl
  have w7 : ((Array.size (⟨[46]⟩ : Array UInt8) : Nat) : Int) = 1 := rfl
  refine fn_pure Tryz.F90 (Nat.le_of_ble_eq_true rfl) ?_; unfold Tryz.ac90 AR AM AO
  repeat' (first
 | (apply Awp.sreg; (case hn => (simp only [List.length_cons, List.length_nil, Nat.reduceAdd] <;> rfl)))
 | (refine st_nil ?_)
 | (apply st_a; (case hc => rfl); (case he => (simp only [go_sem, *] <;> rfl)); (case hu => (simp only [updL_nil, updL_cons] <;> rfl)); (case hp => first | trivial | omega))
 | (apply st_c; (case hc => (simp only [go_sem, *] <;> rfl)); (case hl => (simp only [go_sem, *] <;> rfl)); (case hn => (simp only [go_sem, *] <;> rfl)); (case hp => first | exact hc | (have hXz := hc; simp only [go_sem, *] at hXz; exact hXz)))
 | (apply Awp.reg; (case hn => (simp only [List.length_cons, List.length_nil, Nat.reduceAdd] <;> rfl)))
 | (refine Awp.skip ?_; try simp only [go_sem, *])
 | refine Awp.block ?_
 | (apply Awp.cond; (case hc => (simp only [go_sem, *] <;> rfl)); all_goals (intro hg; (try simp only [Bool.not_true, Bool.not_false, reduceCtorEq] at hg); (try have hg' := hg); (try simp only [decide_eq_true_eq, decide_eq_false_iff_not, Bool.and_eq_true, Bool.or_eq_false_iff, bne_iff_ne, bne_eq_false_iff_eq, beq_iff_eq, beq_eq_false_iff_ne, Int.not_lt, Int.not_le, Int.ofNat_lt, Int.ofNat_le, Int.natCast_inj] at hg')))
 | refine Awp.seq ?_)
  · refine Awp.loop (fun x : Nat × List ByteArray => x.1 ≤ s.size ∧ x.2 ++ parF s (s.size + 1 - x.1) x.1 x.1 = parts s ∧ (s.data.toList.drop x.1).count 46 + x.2.length = C) 30
      (fun x => mkS [(0, .v (.string (s.extract x.1 s.size))), (1, .v (.string ⟨⟨[46]⟩⟩)), (2, .v (.int .i64 0)), (3, .v (.int .i64 C)), (9, .own 0), (10, .v (.int .i64 x.2.length))] [(0, .row (strs x.2 ++ List.replicate (C + 1 - x.2.length) [.v (.string ⟨⟨[]⟩⟩)]) 1 9)]) (fun x => C - x.2.length) (0, []) ?_ ?_ ?_
    · exact ⟨Nat.zero_le _, rfl, by rw [← hC]; rfl⟩
    · (apply Ghost.mk [(0, 19)] []; (case hdead => rfl); (case hinj => rfl); (case hV => (simp only [go_sem, *]) <;> (repeat' (first | refine And.intro ?_ ?_ | exact View.int (by first | rfl | exact ext_all s | omega | (simp; done) | (rw [wrap_i64] <;> (try simp only [Int.natCast_add]) <;> omega) | (simp [*]; done)) | exact View.str (by first | rfl | exact ext_all s | omega | (simp; done) | (rw [wrap_i64] <;> (try simp only [Int.natCast_add]) <;> omega) | (simp [*]; done)) | exact .own rfl (by decide)))); (case hB => (simp only [go_sem, *]) <;> (repeat' (first | exact ⟨_, rfl, .rowE (by first | rfl | exact ext_all s | omega | (simp; done) | (rw [wrap_i64] <;> (try simp only [Int.natCast_add]) <;> omega) | (simp [*]; done))⟩))))
    · intro ⟨fr, out⟩ ⟨h1, h2, h3⟩
      dsimp only at h1 h2 h3 ⊢
      have hl : (s.extract fr s.size).data.toList = s.data.toList.drop fr := ext_list s fr
      by_cases hlt : out.length < C
      · obtain ⟨m, m1, m2, m3, m4, m5⟩ := ix_some (s.data.toList.drop fr) (by omega)
        have hix := indexS_ok (s.extract fr s.size)
        rw [hl, m1] at hix
        have hsz : (s.extract fr s.size).size = s.size - fr := by rw [ext_size]; omega
        have hm : m < s.size - fr := by
          rw [List.length_drop] at m2
          exact m2
        have e1 : IntKind.i64.wrap ((m : Int) + 0) = m := by rw [wrap_i64] <;> omega
        have e2 : IntKind.i64.wrap ((m : Int) + 1) = (m + 1 : Nat) := by rw [wrap_i64] <;> omega
        have e3 : ((m + 1 : Nat) : Int).toNat = m + 1 := by omega
        have e0 : ¬ ((m : Int) < 0) := by omega
        have hlt' : (out.length : Int) < C := by omega
        have e4 : (strs out ++ List.replicate (C + 1 - out.length) [AV.v (.string ⟨⟨[]⟩⟩)]).length = C + 1 := by simp [strs]; omega
        have e5 : (strs out ++ List.replicate (C + 1 - out.length) [AV.v (.string ⟨⟨[]⟩⟩)]).getD out.length [] = [.v (.string ⟨⟨[]⟩⟩)] := rep_at _ _ _ (by omega)
        have e6 : (strs out ++ List.replicate (C + 1 - out.length) [AV.v (.string ⟨⟨[]⟩⟩)]).set out.length [.v (.string (s.extract fr (fr + m)))] = strs (out ++ [s.extract fr (fr + m)]) ++ List.replicate (C + 1 - (out ++ [s.extract fr (fr + m)]).length) [AV.v (.string ⟨⟨[]⟩⟩)] := rep_set _ _ _ _ (by omega)
        have e7 : (s.extract fr s.size).extract 0 m = s.extract fr (fr + m) := by rw [ext_ext, Nat.add_zero, Nat.min_eq_left (by omega)]
        have e8 : (s.extract fr s.size).extract (m + 1) (s.size - fr) = s.extract (fr + m + 1) s.size := by rw [ext_ext, show fr + (s.size - fr) = s.size by omega, Nat.min_self]; rfl
        repeat' (first
 | (apply Awp.sreg; (case hn => (simp only [List.length_cons, List.length_nil, Nat.reduceAdd] <;> rfl)))
 | (refine st_nil ?_)
 | (apply st_a; (case hc => rfl); (case he => (simp only [go_sem, *] <;> rfl)); (case hu => (simp only [updL_nil, updL_cons] <;> rfl)); (case hp => first | trivial | omega | (simp; done)))
 | (apply st_c; (case hc => (simp only [go_sem, *] <;> rfl)); (case hl => (simp only [go_sem, *] <;> rfl)); (case hn => (simp only [go_sem, *] <;> rfl)); (case hp => first | exact hix | (have hXz := hix; simp only [go_sem, *] at hXz; exact hXz)))
 | (apply Awp.reg; (case hn => (simp only [List.length_cons, List.length_nil, Nat.reduceAdd] <;> rfl)))
 | (refine Awp.skip ?_; try simp only [go_sem, *])
 | refine Awp.block ?_
 | (apply Awp.cond; (case hc => (simp only [go_sem, *] <;> rfl)); all_goals (intro hg; (try simp only [Bool.not_true, Bool.not_false, reduceCtorEq] at hg); (try have hg' := hg); (try simp only [decide_eq_true_eq, decide_eq_false_iff_not, Bool.and_eq_true, Bool.or_eq_false_iff, bne_iff_ne, bne_eq_false_iff_eq, beq_iff_eq, beq_eq_false_iff_ne, Int.not_lt, Int.not_le, Int.ofNat_lt, Int.ofNat_le, Int.natCast_inj] at hg')))
 | refine Awp.seq ?_)
        refine ⟨(fr + m + 1, out ++ [s.extract fr (fr + m)]), ⟨by dsimp only; omega, ?_, ?_⟩, by simp; omega, ?_⟩
        · dsimp only
          have hp := parF_dot (s := s) (fr := fr) (m := m) (by omega) (byteAt_dot.2 (by rw [← m3]; exact (getD_drop _ _ _).symm)) (fun j hj e => m4 j hj (by rw [getD_drop]; exact byteAt_dot.1 e))
          rw [hp] at h2
          rw [← h2]
          simp only [List.append_assoc, List.singleton_append]
        · rw [List.drop_drop] at m5
          simp only [List.length_append, List.length_singleton]
          rw [show fr + m + 1 = fr + (m + 1) by omega]
          omega
        · have e9 : ((out ++ [s.extract fr (fr + m)]).length : Int) = out.length + 1 := by simp
          (apply Ghost.mk [] []; (case hdead => rfl); (case hinj => rfl); (case hV => (simp only [go_sem, *]) <;> (repeat' (first | refine And.intro ?_ ?_ | exact View.int (by first | rfl | omega | (simp; done) | (rw [wrap_i64] <;> (try simp only [Int.natCast_add]) <;> omega) | (simp [*]; done)) | exact .own rfl (by decide)))); (case hB => (simp only [go_sem, *]) <;> (repeat' (first | exact ⟨_, rfl, .rowE (by first | rfl | omega | (simp; done) | (rw [wrap_i64] <;> (try simp only [Int.natCast_add]) <;> omega) | (simp [*]; done))⟩))))
      · have e1 : out.length = C := by omega
        have hz : (s.data.toList.drop fr).count 46 = 0 := by omega
        have hp := parF_last h1 (fun j hj1 hj2 e => count_zero hz j hj1 hj2 (byteAt_dot.1 e))
        rw [hp] at h2
        have e4 : (strs out ++ List.replicate (C + 1 - out.length) [AV.v (.string ⟨⟨[]⟩⟩)]).length = C + 1 := by simp [strs]; omega
        have e5 : (strs out ++ List.replicate (C + 1 - out.length) [AV.v (.string ⟨⟨[]⟩⟩)]).getD out.length [] = [.v (.string ⟨⟨[]⟩⟩)] := rep_at _ _ _ (by omega)
        have e6 : (strs out ++ List.replicate (C + 1 - out.length) [AV.v (.string ⟨⟨[]⟩⟩)]).set out.length [.v (.string (s.extract fr s.size))] = strs (parts s) := by
          rw [rep_set _ _ _ _ (by omega), h2, ← h2]
          have : C + 1 - (out ++ [s.extract fr s.size]).length = 0 := by simp; omega
          rw [this]; simp
        clear e1
        have hlt' : ¬ (out.length : Int) < C := by omega
        refine Awp.seq ?_
        (first | (apply Awp.sreg; (case hn => (simp only [List.length_cons, List.length_nil, Nat.reduceAdd] <;> rfl))) | (apply Awp.reg; (case hn => (simp only [List.length_cons, List.length_nil, Nat.reduceAdd] <;> rfl)))); repeat' (first
 | (refine st_nil ?_)
 | (apply st_a; (case hc => rfl); (case he => (simp only [go_sem, *] <;> rfl)); (case hu => (simp only [updL_nil, updL_cons] <;> rfl)); (case hp => first | trivial))
 | (apply st_m; (case hc => rfl); (case hg => (simp only [go_sem, *] <;> rfl)); (case he => (intro hQz; (try simp only [wantB_t, wantB_f, Bool.and_eq_true, Bool.not_eq_true', Bool.not_true, Bool.not_false, and_true, true_and] at hQz); simp only [go_sem, *] <;> rfl)); (case hp => (intro hQz; (try simp only [wantB_t, wantB_f, Bool.and_eq_true, Bool.not_eq_true', Bool.or_eq_false_iff, decide_eq_true_eq, decide_eq_false_iff_not, beq_iff_eq, beq_eq_false_iff_ne, bne_iff_ne, bne_eq_false_iff_eq, Int.not_lt, Int.not_le, Int.ofNat_lt, Int.ofNat_le] at hQz); first | skip; done)))
 | (apply st_sx; (case he => (simp only [go_sem, *] <;> rfl)); (case hu => (simp only [updL_nil, updL_cons] <;> rfl)); (case hp => first | skip; done))
 | (apply st_gu; (case hv => (simp only [go_sem, *] <;> rfl)))
 | (apply st_g; (case hv => (simp only [go_sem, *] <;> rfl)); all_goals (intro hg; (try simp only [Bool.not_true, Bool.not_false, reduceCtorEq] at hg); (try have hg' := hg); (try simp only [decide_eq_true_eq, decide_eq_false_iff_not, Bool.and_eq_true, Bool.or_eq_false_iff, bne_iff_ne, bne_eq_false_iff_eq, beq_iff_eq, beq_eq_false_iff_ne, Int.not_lt, Int.not_le, Int.ofNat_lt, Int.ofNat_le, Int.natCast_inj] at hg'))))
        (apply Awp.cond; (case hc => (simp only [go_sem, *] <;> rfl)); all_goals (intro hg; (try simp only [Bool.not_true, Bool.not_false, reduceCtorEq] at hg); (try have hg' := hg); (try simp only [decide_eq_true_eq, decide_eq_false_iff_not, Bool.and_eq_true, Bool.or_eq_false_iff, bne_iff_ne, bne_eq_false_iff_eq, beq_iff_eq, beq_eq_false_iff_ne, Int.not_lt, Int.not_le, Int.ofNat_lt, Int.ofNat_le, Int.natCast_inj] at hg')))
        (refine Awp.exit ?_; simp only [go_sem, *])
        (first | (apply Awp.sreg; (case hn => (simp only [List.length_cons, List.length_nil, Nat.reduceAdd] <;> rfl))) | (apply Awp.reg; (case hn => (simp only [List.length_cons, List.length_nil, Nat.reduceAdd] <;> rfl)))); repeat' (first
 | (refine st_nil ?_)
 | (apply st_a; (case hc => rfl); (case he => (simp only [go_sem, *] <;> rfl)); (case hu => (simp only [updL_nil, updL_cons] <;> rfl)); (case hp => first | trivial | omega | (simp; omega)))
 | (apply st_m; (case hc => rfl); (case hg => (simp only [go_sem, *] <;> rfl)); (case he => (intro hQz; (try simp only [wantB_t, wantB_f, Bool.and_eq_true, Bool.not_eq_true', Bool.not_true, Bool.not_false, and_true, true_and] at hQz); simp only [go_sem, *] <;> rfl)); (case hp => (intro hQz; (try simp only [wantB_t, wantB_f, Bool.and_eq_true, Bool.not_eq_true', Bool.or_eq_false_iff, decide_eq_true_eq, decide_eq_false_iff_not, beq_iff_eq, beq_eq_false_iff_ne, bne_iff_ne, bne_eq_false_iff_eq, Int.not_lt, Int.not_le, Int.ofNat_lt, Int.ofNat_le] at hQz); first | skip; done)))
 | (apply st_sx; (case he => (simp only [go_sem, *] <;> rfl)); (case hu => (simp only [updL_nil, updL_cons] <;> rfl)); (case hp => first | skip; done))
 | (apply st_gu; (case hv => (simp only [go_sem, *] <;> rfl)))
 | (apply st_g; (case hv => (simp only [go_sem, *] <;> rfl)); all_goals (intro hg; (try simp only [Bool.not_true, Bool.not_false, reduceCtorEq] at hg); (try have hg' := hg); (try simp only [decide_eq_true_eq, decide_eq_false_iff_not, Bool.and_eq_true, Bool.or_eq_false_iff, bne_iff_ne, bne_eq_false_iff_eq, beq_iff_eq, beq_eq_false_iff_ne, Int.not_lt, Int.not_le, Int.ofNat_lt, Int.ofNat_le, Int.natCast_inj] at hg'))))
        have hlen : (parts s).length = out.length + 1 := by rw [← h2]; simp
        have e10 : IntKind.i64.wrap ((out.length : Int) + 1) = (parts s).length := by rw [wrap_i64] <;> omega
        have e11 : ∀ x ∈ strs (parts s), x.length = 1 := by simp [strs]
        refine Awp.ghost (nx' := 38) (S' := mkS [(9, .sl (strs (parts s))), (10, .v (.int .i64 out.length))] []) ?_ ?_
        · refine Ghost.mk [] [0] rfl rfl ?_ ?_
          · simp only [go_sem]
            exact .low (.own rfl)
          · simp only [go_sem]
        · repeat' (first
 | (apply Awp.sreg; (case hn => (simp only [List.length_cons, List.length_nil, Nat.reduceAdd] <;> rfl)))
 | (refine st_nil ?_)
 | (apply st_a; (case hc => rfl); (case he => (simp only [go_sem, *] <;> rfl)); (case hu => (simp only [updL_nil, updL_cons] <;> rfl)); (case hp => first | trivial | ((repeat' (refine And.intro ?_ ?_)) <;> first | trivial | assumption | omega | (simp; done) | (simp; omega) | (simp [*]; done))))
 | (refine Awp.ret ?_; try simp only [go_sem, *]))
          have e12 : List.take (parts s).length (strs (parts s)) = strs (parts s) := List.take_of_length_le (by simp [strs])
          rw [← hlen, e12]
          exact .same _ rfl
theorem split_ok (s : ByteArray) (hs : s.size < 1000000) : Pure Tryz.prog 76 [.v (.string s), .v (.string ⟨⟨[46]⟩⟩)] (.sl (strs (parts s))) := by
  refine fn_pure Tryz.F76 (Nat.le_of_ble_eq_true rfl) ?_; unfold Tryz.ac76 AR AM AO
  repeat' (first
 | (apply Awp.sreg; (case hn => (simp only [List.length_cons, List.length_nil, Nat.reduceAdd] <;> rfl)))
 | (refine st_nil ?_)
 | (apply st_a; (case hc => rfl); (case he => (simp only [go_sem, *] <;> rfl)); (case hu => (simp only [updL_nil, updL_cons] <;> rfl)); (case hp => first | trivial))
 | (apply st_c; (case hc => (simp only [go_sem, *] <;> rfl)); (case hl => (simp only [go_sem, *] <;> rfl)); (case hn => (simp only [go_sem, *] <;> rfl)); (case hp => first | exact gensplit_ok _ hs | (have hXz := gensplit_ok _ hs; simp only [go_sem, *] at hXz; exact hXz)))
 | (refine Awp.ret ?_; try simp only [go_sem, *]))
  all_goals exact .same _ rfl
def sizes (l : List ByteArray) : Nat := (l.map (·.size)).sum
def namesB (l : List ByteArray) : Bool := l.all nameB && decide (1 ≤ (l.length : Int)) && decide ((l.length : Int) ≤ 8) && decide ((l.length : Int) - 1 + sizes l ≤ 64)
theorem sizes_next (l : List ByteArray) (i : Nat) (h : i < l.length) : sizes (l.take (i + 1)) = sizes (l.take i) + (l.getD i ⟨#[]⟩).size := by
  have e : l.take (i + 1) = l.take i ++ [l.getD i ⟨#[]⟩] := by
    rw [List.take_add_one, List.getElem?_eq_getElem h, List.getD_eq_getElem?_getD, List.getElem?_eq_getElem h]; rfl
  rw [e]; simp only [sizes, List.map_append, List.sum_append, List.map_cons, List.map_nil, List.sum_cons, List.sum_nil, Nat.add_zero]
theorem all_bad {l : List ByteArray} {i : Nat} (h : i < l.length) (e : nameB (l.getD i ⟨#[]⟩) = false) : l.all nameB = false := by
  simp only [List.all_eq_false]
  exact ⟨l.getD i ⟨#[]⟩, by simp [List.getD_eq_getElem?_getD, h], by rw [e]; simp⟩
theorem all_end {l : List ByteArray} {i : Nat} (h : ∀ j, j < i → nameB (l.getD j ⟨#[]⟩) = true) (h1 : l.length ≤ i) : l.all nameB = true := by
  simp only [List.all_eq_true]
  intro x hx
  obtain ⟨j, hj, rfl⟩ := List.getElem_of_mem hx
  have := h j (by omega)
  simpa [List.getD_eq_getElem?_getD, hj] using this
theorem sizes_take (l : List ByteArray) (i : Nat) : sizes (l.take i) ≤ sizes l := by
  have e := congrArg sizes (List.take_append_drop i l)
  simp only [sizes, List.map_append, List.sum_append] at e ⊢
  omega
theorem names_ok (l : List ByteArray) (hl : l.length < 1000000) (hz : sizes l < 1000000) : Pure Tryz.prog 75 [.sl (strs l)] (.v (.bool (namesB l))) := by
  have w1 : IntKind.i64.wrap ((l.length : Int) - 1) = l.length - 1 := by rw [wrap_i64] <;> omega
  refine fn_pure Tryz.F75 (Nat.le_of_ble_eq_true rfl) ?_; unfold Tryz.ac75 AR AM AO
  repeat' (first
 | (apply Awp.sreg; (case hn => (simp only [List.length_cons, List.length_nil, Nat.reduceAdd] <;> rfl)))
 | (refine st_nil ?_)
 | (apply st_a; (case hc => rfl); (case he => (simp only [go_sem, *] <;> rfl)); (case hu => (simp only [updL_nil, updL_cons] <;> rfl)); (case hp => first | trivial))
 | refine Awp.block ?_
 | refine Awp.seq ?_)
  · refine Awp.loop (fun i : Nat => i ≤ l.length ∧ ∀ j, j < i → nameB (l.getD j ⟨#[]⟩) = true) 20 (fun i => mkS [(0, .sl (strs l)), (3, .v (.int .i64 ((l.length : Int) - 1 + sizes (l.take i)))), (9, .sl (strs l)), (10, .v (.int .i64 l.length)), (11, .v (.int .i64 i))] []) (fun i => l.length - i) 0 (by simp) ?_ ?_
    · have e0 : sizes [] = 0 := rfl
      (apply Ghost.mk [] []; (case hdead => rfl); (case hinj => rfl); (case hV => (simp only [go_sem, *]) <;> (repeat' (first | refine And.intro ?_ ?_ | exact View.int (by first | rfl | omega | (simp; done) | (rw [wrap_i64] <;> (try simp only [Int.natCast_add]) <;> omega) | (simp [*]; done))))); (case hB => (simp only [go_sem, *]) <;> (repeat' (first | skip; done))))
    · intro i ⟨hi, hj⟩
      have hz1 := sizes_take l i
      have hz2 := sizes_take l (i + 1)
      by_cases hlt : i < l.length
      · have hlt' : (i : Int) < l.length := by omega
        have hn := sizes_next l i hlt
        repeat' (first
 | (apply Awp.sreg; (case hn => (simp only [List.length_cons, List.length_nil, Nat.reduceAdd] <;> rfl)))
 | (refine st_nil ?_)
 | (apply st_a; (case hc => rfl); (case he => (simp only [go_sem, *] <;> rfl)); (case hu => (simp only [updL_nil, updL_cons] <;> rfl)); (case hp => first | trivial | omega))
 | (apply st_c; (case hc => (simp only [go_sem, *] <;> rfl)); (case hl => (simp only [go_sem, *] <;> rfl)); (case hn => (simp only [go_sem, *] <;> rfl)); (case hp => first | exact name_ok _ | (have hXz := name_ok _; simp only [go_sem, *] at hXz; exact hXz)))
 | (apply Awp.reg; (case hn => (simp only [List.length_cons, List.length_nil, Nat.reduceAdd] <;> rfl)))
 | (refine Awp.ret ?_; try simp only [go_sem, *])
 | (refine Awp.skip ?_; try simp only [go_sem, *])
 | refine Awp.block ?_
 | (apply Awp.cond; (case hc => (simp only [go_sem, *] <;> rfl)); all_goals (intro hg; (try simp only [Bool.not_true, Bool.not_false, reduceCtorEq] at hg); (try have hg' := hg); (try simp only [decide_eq_true_eq, decide_eq_false_iff_not, Bool.and_eq_true, Bool.or_eq_false_iff, bne_iff_ne, bne_eq_false_iff_eq, beq_iff_eq, beq_eq_false_iff_ne, Int.not_lt, Int.not_le, Int.ofNat_lt, Int.ofNat_le, Int.natCast_inj] at hg')))
 | refine Awp.seq ?_)
        · exact Lower.bool (by rw [namesB, all_bad hlt (by simpa using hg')]; simp)
        · refine ⟨i + 1, ⟨by omega, ltSucc hj (by simpa using hg')⟩, by omega, ?_⟩
          have e1 : IntKind.i64.wrap ((l.length : Int) - 1 + (sizes (l.take i) : Int) + ((l.getD i ⟨#[]⟩).size : Int)) = (l.length : Int) - 1 + (sizes (l.take (i + 1)) : Int) := by rw [wrap_i64] <;> omega
          (apply Ghost.mk [] []; (case hdead => rfl); (case hinj => rfl); (case hV => (simp only [go_sem, *]) <;> (repeat' (first | exact View.int (by first | rfl | omega | (simp; done) | (rw [wrap_i64] <;> (try simp only [Int.natCast_add]) <;> omega) | (simp [*]; done))))); (case hB => (simp only [go_sem, *]) <;> (repeat' (first | skip; done))))
      · have hlt' : ¬ (i : Int) < l.length := by omega
        have e1 : l.take i = l := List.take_of_length_le (by omega)
        repeat' (first
 | (apply Awp.sreg; (case hn => (simp only [List.length_cons, List.length_nil, Nat.reduceAdd] <;> rfl)))
 | (refine st_nil ?_)
 | (apply st_a; (case hc => rfl); (case he => (simp only [go_sem, *] <;> rfl)); (case hu => (simp only [updL_nil, updL_cons] <;> rfl)); (case hp => first | trivial))
 | (apply st_m; (case hc => rfl); (case hg => (simp only [go_sem, *] <;> rfl)); (case he => (intro hQz; (try simp only [wantB_t, wantB_f, Bool.and_eq_true, Bool.not_eq_true', Bool.not_true, Bool.not_false, and_true, true_and] at hQz); simp only [go_sem, *] <;> rfl)); (case hp => (intro hQz; (try simp only [wantB_t, wantB_f, Bool.and_eq_true, Bool.not_eq_true', Bool.or_eq_false_iff, decide_eq_true_eq, decide_eq_false_iff_not, beq_iff_eq, beq_eq_false_iff_ne, bne_iff_ne, bne_eq_false_iff_eq, Int.not_lt, Int.not_le, Int.ofNat_lt, Int.ofNat_le] at hQz); first | trivial)))
 | (refine Awp.ret ?_; try simp only [go_sem, *])
 | (refine Awp.exit ?_; try simp only [go_sem, *])
 | (apply Awp.cond; (case hc => (simp only [go_sem, *] <;> rfl)); all_goals (intro hg; (try simp only [Bool.not_true, Bool.not_false, reduceCtorEq] at hg); (try have hg' := hg); (try simp only [decide_eq_true_eq, decide_eq_false_iff_not, Bool.and_eq_true, Bool.or_eq_false_iff, bne_iff_ne, bne_eq_false_iff_eq, beq_iff_eq, beq_eq_false_iff_ne, Int.not_lt, Int.not_le, Int.ofNat_lt, Int.ofNat_le, Int.natCast_inj] at hg')))
 | refine Awp.seq ?_)
        all_goals exact Lower.bool (by rw [namesB, all_end hj (by omega)]; simp)
theorem parF_sizes (s : ByteArray) : ∀ (n i fr : Nat), i + n = s.size + 1 → fr ≤ i → 0 < n → sizes (parF s n i fr) + (parF s n i fr).length = s.size + 1 - fr
  | 0, _, _, _, _, h => by omega
  | n + 1, i, fr, h1, h2, _ => by
    rw [parF]
    by_cases hn : n = 0
    · subst hn
      have : i = s.size := by omega
      subst this
      simp only [beq_self_eq_true, Bool.true_or, if_true, parF]
      simp [sizes, ext_size]
      omega
    · split
      · have := parF_sizes s n (i + 1) (i + 1) (by omega) (Nat.le_refl _) (by omega)
        simp only [sizes, List.map_cons, List.sum_cons, List.length_cons, ext_size] at this ⊢
        omega
      · exact parF_sizes s n (i + 1) fr (by omega) (by omega) (by omega)
theorem parts_sizes (s : ByteArray) : sizes (parts s) + (parts s).length = s.size + 1 := parF_sizes s (s.size + 1) 0 0 (by omega) (Nat.le_refl _) (by omega)
theorem parF_pos (s : ByteArray) : ∀ (n i fr : Nat), i + n = s.size + 1 → 0 < n → 0 < (parF s n i fr).length
  | 0, _, _, _, h => by omega
  | n + 1, i, fr, h1, _ => by
    rw [parF]
    split
    · simp
    · rename_i hc
      by_cases hn : n = 0
      · subst hn
        have : i = s.size := by omega
        subst this
        simp at hc
      · exact parF_pos s n (i + 1) fr (by omega) (by omega)
theorem parts_pos (s : ByteArray) : 0 < (parts s).length := parF_pos s (s.size + 1) 0 0 (by omega) (by omega)
def idB (s : ByteArray) : Bool := decide (s.size ≤ 64) && decide ((parts s).length ≤ 8) && (parts s).all nameB
theorem names_id (s : ByteArray) : (decide ((s.size : Int) ≤ 64) && namesB (parts s)) = idB s := by
  have h1 := parts_sizes s
  have h2 := parts_pos s
  unfold idB namesB
  rw [Bool.eq_iff_iff]
  simp only [Bool.and_eq_true, decide_eq_true_eq]
  constructor
  · rintro ⟨h3, ⟨⟨h4, h5⟩, h6⟩, h7⟩
    exact ⟨⟨by omega, by omega⟩, h4⟩
  · rintro ⟨⟨h3, h6⟩, h4⟩
    exact ⟨by omega, ⟨⟨h4, by omega⟩, by omega⟩, by omega⟩
theorem isid_ok (s : ByteArray) : Pure Tryz.prog 52 [.v (.string s)] (.v (.bool (idB s))) := by
  rw [← names_id]
  have h1 := parts_sizes s
  by_cases hs : s.size ≤ 64
  · refine fn_pure Tryz.F52 (Nat.le_of_ble_eq_true rfl) ?_; unfold Tryz.ac52 AR AM AO
    repeat' (first
 | (apply Awp.sreg; (case hn => (simp only [List.length_cons, List.length_nil, Nat.reduceAdd] <;> rfl)))
 | (refine st_nil ?_)
 | (apply st_a; (case hc => rfl); (case he => (simp only [go_sem, *] <;> rfl)); (case hu => (simp only [updL_nil, updL_cons] <;> rfl)); (case hp => first | trivial))
 | (apply st_m; (case hc => rfl); (case hg => (simp only [go_sem, *] <;> rfl)); (case he => (intro hQz; (try simp only [wantB_t, wantB_f, Bool.and_eq_true, Bool.not_eq_true', Bool.not_true, Bool.not_false, and_true, true_and] at hQz); simp only [go_sem, *] <;> rfl)); (case hp => (intro hQz; (try simp only [wantB_t, wantB_f, Bool.and_eq_true, Bool.not_eq_true', Bool.or_eq_false_iff, decide_eq_true_eq, decide_eq_false_iff_not, beq_iff_eq, beq_eq_false_iff_ne, bne_iff_ne, bne_eq_false_iff_eq, Int.not_lt, Int.not_le, Int.ofNat_lt, Int.ofNat_le] at hQz); first | trivial)))
 | (apply st_mc; (case hop => rfl); (case hg => (simp only [go_sem, *] <;> rfl)); (case hc => (intro hQz; (try simp only [wantB_t, wantB_f, Bool.and_eq_true, Bool.not_eq_true', Bool.not_true, Bool.not_false, and_true, true_and] at hQz); simp only [go_sem, *] <;> rfl)); (case hl => (intro hQz; (try simp only [wantB_t, wantB_f, Bool.and_eq_true, Bool.not_eq_true', Bool.not_true, Bool.not_false, and_true, true_and] at hQz); simp only [go_sem, *] <;> rfl)); (case hn => (intro hQz; (try simp only [wantB_t, wantB_f, Bool.and_eq_true, Bool.not_eq_true', Bool.not_true, Bool.not_false, and_true, true_and] at hQz); simp only [go_sem, *] <;> rfl)); (case hp => intro hQz; first | exact split_ok s (by omega) | (have hXz := split_ok s (by omega); simp only [go_sem, *] at hXz; exact hXz)))
 | (apply st_mc; (case hop => rfl); (case hg => (simp only [go_sem, *] <;> rfl)); (case hc => (intro hQz; (try simp only [wantB_t, wantB_f, Bool.and_eq_true, Bool.not_eq_true', Bool.not_true, Bool.not_false, and_true, true_and] at hQz); simp only [go_sem, *] <;> rfl)); (case hl => (intro hQz; (try simp only [wantB_t, wantB_f, Bool.and_eq_true, Bool.not_eq_true', Bool.not_true, Bool.not_false, and_true, true_and] at hQz); simp only [go_sem, *] <;> rfl)); (case hn => (intro hQz; (try simp only [wantB_t, wantB_f, Bool.and_eq_true, Bool.not_eq_true', Bool.not_true, Bool.not_false, and_true, true_and] at hQz); simp only [go_sem, *] <;> rfl)); (case hp => intro hQz; first | exact names_ok (parts s) (by omega) (by omega) | (have hXz := names_ok (parts s) (by omega) (by omega); simp only [go_sem, *] at hXz; exact hXz)))
 | (refine Awp.ret ?_; try simp only [go_sem, *]))
    all_goals repeat' (first | exact Lower.bool (by first | rfl | (simp only [true_and, Bool.true_and, Bool.false_and, Bool.and_true, Bool.and_false, Bool.true_or, Bool.false_or, reduceIte, Bool.false_eq_true, *]; done) | (simp only [true_and, reduceIte, Bool.false_eq_true, *] <;> rfl) | (simp [true_and]; done) | (simp_all [true_and]; done) | omega))
  · have hs' : ¬ (s.size : Int) ≤ 64 := by omega
    refine fn_pure Tryz.F52 (Nat.le_of_ble_eq_true rfl) ?_; unfold Tryz.ac52 AR AM AO
    repeat' (first
 | (apply Awp.sreg; (case hn => (simp only [List.length_cons, List.length_nil, Nat.reduceAdd] <;> rfl)))
 | (refine st_nil ?_)
 | (apply st_a; (case hc => rfl); (case he => (simp only [go_sem, *] <;> rfl)); (case hu => (simp only [updL_nil, updL_cons] <;> rfl)); (case hp => first | trivial))
 | (apply st_m; (case hc => rfl); (case hg => (simp only [go_sem, *] <;> rfl)); (case he => (intro hQz; (try simp only [wantB_t, wantB_f, Bool.and_eq_true, Bool.not_eq_true', Bool.not_true, Bool.not_false, and_true, true_and] at hQz); simp only [go_sem, *] <;> rfl)); (case hp => (intro hQz; (try simp only [wantB_t, wantB_f, Bool.and_eq_true, Bool.not_eq_true', Bool.or_eq_false_iff, decide_eq_true_eq, decide_eq_false_iff_not, beq_iff_eq, beq_eq_false_iff_ne, bne_iff_ne, bne_eq_false_iff_eq, Int.not_lt, Int.not_le, Int.ofNat_lt, Int.ofNat_le] at hQz); first | trivial)))
 | (apply st_g; (case hv => (simp only [go_sem, *] <;> rfl)); all_goals (intro hg; (try simp only [Bool.not_true, Bool.not_false, reduceCtorEq] at hg); (try have hg' := hg); (try simp only [decide_eq_true_eq, decide_eq_false_iff_not, Bool.and_eq_true, Bool.or_eq_false_iff, bne_iff_ne, bne_eq_false_iff_eq, beq_iff_eq, beq_eq_false_iff_ne, Int.not_lt, Int.not_le, Int.ofNat_lt, Int.ofNat_le, Int.natCast_inj] at hg')))
 | (refine Awp.ret ?_; try simp only [go_sem, *]))
    all_goals repeat' (first | exact Lower.bool (by first | rfl | (simp only [true_and, Bool.true_and, Bool.false_and, Bool.and_true, Bool.and_false, Bool.true_or, Bool.false_or, reduceIte, Bool.false_eq_true, *]; done) | (simp only [true_and, reduceIte, Bool.false_eq_true, *] <;> rfl) | (simp [true_and]; done) | (simp_all [true_and]; done) | omega))
theorem risid_ok (s : ByteArray) (hs : s.size < 1000000) : Pure Tryz.prog 46 [.v (.string s)] (.v (.bool (idB s))) := by
  have h1 := parts_sizes s
  refine fn_pure Tryz.F46 (Nat.le_of_ble_eq_true rfl) ?_; unfold Tryz.ac46 AR AM AO
  repeat' (first
 | (apply Awp.sreg; (case hn => (simp only [List.length_cons, List.length_nil, Nat.reduceAdd] <;> rfl)))
 | (refine st_nil ?_)
 | (apply st_a; (case hc => rfl); (case he => (simp only [go_sem, *] <;> rfl)); (case hu => (simp only [updL_nil, updL_cons] <;> rfl)); (case hp => first | trivial))
 | (apply st_m; (case hc => rfl); (case hg => (simp only [go_sem, *] <;> rfl)); (case he => (intro hQz; (try simp only [wantB_t, wantB_f, Bool.and_eq_true, Bool.not_eq_true', Bool.not_true, Bool.not_false, and_true, true_and] at hQz); simp only [go_sem, *] <;> rfl)); (case hp => (intro hQz; (try simp only [wantB_t, wantB_f, Bool.and_eq_true, Bool.not_eq_true', Bool.or_eq_false_iff, decide_eq_true_eq, decide_eq_false_iff_not, beq_iff_eq, beq_eq_false_iff_ne, bne_iff_ne, bne_eq_false_iff_eq, Int.not_lt, Int.not_le, Int.ofNat_lt, Int.ofNat_le] at hQz); first | trivial)))
 | (apply st_co; (case hc => (simp only [go_sem, *] <;> rfl)); (case hl => (simp only [go_sem, *] <;> rfl)); (case hn => (simp only [go_sem, *] <;> rfl)); (case hp => first | exact parts_ok s hs | (have hXz := parts_ok s hs; simp only [go_sem, *] at hXz; exact hXz)))
 | (refine Awp.ret ?_; try simp only [go_sem, *])
 | (refine Awp.skip ?_; try simp only [go_sem, *])
 | refine Awp.block ?_
 | (apply Awp.cond; (case hc => (simp only [go_sem, *] <;> rfl)); all_goals (intro hg; (try simp only [Bool.not_true, Bool.not_false, reduceCtorEq] at hg); (try have hg' := hg); (try simp only [decide_eq_true_eq, decide_eq_false_iff_not, Bool.and_eq_true, Bool.or_eq_false_iff, bne_iff_ne, bne_eq_false_iff_eq, beq_iff_eq, beq_eq_false_iff_ne, Int.not_lt, Int.not_le, Int.ofNat_lt, Int.ofNat_le, Int.natCast_inj] at hg')))
 | refine Awp.seq ?_)
  · refine Lower.bool ?_
    simp only [Bool.or_eq_true, decide_eq_true_eq] at hg
    unfold idB
    symm
    rw [Bool.eq_false_iff]
    simp only [ne_eq, Bool.and_eq_true, decide_eq_true_eq]
    omega
  · have h0 := hg'
    refine Awp.loop (fun i : Nat => i ≤ (parts s).length ∧ ∀ j, j < i → nameB ((parts s).getD j ⟨#[]⟩) = true) 3 (fun i => mkS [(3, .own 2), (4, .v (.int .i64 i))] [(2, .row (strs (parts s)) 1 9)]) (fun i => (parts s).length - i) 0 (by simp) ?_ ?_
    · (apply Ghost.mk [] []; (case hdead => rfl); (case hinj => rfl); (case hV => (simp only [go_sem, *]) <;> (repeat' (first | refine And.intro ?_ ?_ | exact View.int (by first | rfl | omega | (simp; done) | (rw [wrap_i64] <;> (try simp only [Int.natCast_add]) <;> omega) | (simp [*]; done)) | exact .own rfl (by decide)))); (case hB => (simp only [go_sem, *]) <;> (repeat' (first | exact ⟨_, rfl, .rowE (by first | rfl | omega | (simp; done) | (rw [wrap_i64] <;> (try simp only [Int.natCast_add]) <;> omega) | (simp [*]; done))⟩))))
    · intro i ⟨hi, hj⟩
      by_cases hlt : i < (parts s).length
      · have hlt' : (i : Int) < (parts s).length := by omega
        repeat' (first
 | (apply Awp.sreg; (case hn => (simp only [List.length_cons, List.length_nil, Nat.reduceAdd] <;> rfl)))
 | (refine st_nil ?_)
 | (apply st_a; (case hc => rfl); (case he => (simp only [go_sem, *] <;> rfl)); (case hu => (simp only [updL_nil, updL_cons] <;> rfl)); (case hp => first | trivial | omega))
 | (apply st_c; (case hc => (simp only [go_sem, *] <;> rfl)); (case hl => (simp only [go_sem, *] <;> rfl)); (case hn => (simp only [go_sem, *] <;> rfl)); (case hp => first | exact rname_ok _ | (have hXz := rname_ok _; simp only [go_sem, *] at hXz; exact hXz)))
 | (apply Awp.reg; (case hn => (simp only [List.length_cons, List.length_nil, Nat.reduceAdd] <;> rfl)))
 | (refine Awp.ret ?_; try simp only [go_sem, *])
 | (refine Awp.skip ?_; try simp only [go_sem, *])
 | refine Awp.block ?_
 | (apply Awp.cond; (case hc => (simp only [go_sem, *] <;> rfl)); all_goals (intro hg; (try simp only [Bool.not_true, Bool.not_false, reduceCtorEq] at hg); (try have hg' := hg); (try simp only [decide_eq_true_eq, decide_eq_false_iff_not, Bool.and_eq_true, Bool.or_eq_false_iff, bne_iff_ne, bne_eq_false_iff_eq, beq_iff_eq, beq_eq_false_iff_ne, Int.not_lt, Int.not_le, Int.ofNat_lt, Int.ofNat_le, Int.natCast_inj] at hg')))
 | refine Awp.seq ?_)
        · exact Lower.bool (by rw [idB, all_bad hlt (by simpa using hg')]; simp)
        · refine ⟨i + 1, ⟨by omega, ltSucc hj (by simpa using hg')⟩, by omega, ?_⟩
          (apply Ghost.mk [] []; (case hdead => rfl); (case hinj => rfl); (case hV => (simp only [go_sem, *]) <;> (repeat' (first | refine And.intro ?_ ?_ | exact View.int (by first | rfl | omega | (simp; done) | (rw [wrap_i64] <;> (try simp only [Int.natCast_add]) <;> omega) | (simp [*]; done)) | exact .own rfl (by decide)))); (case hB => (simp only [go_sem, *]) <;> (repeat' (first | exact ⟨_, rfl, .rowE (by first | rfl | omega | (simp; done) | (rw [wrap_i64] <;> (try simp only [Int.natCast_add]) <;> omega) | (simp [*]; done))⟩))))
      · have hlt' : ¬ (i : Int) < (parts s).length := by omega
        repeat' (first
 | (apply Awp.sreg; (case hn => (simp only [List.length_cons, List.length_nil, Nat.reduceAdd] <;> rfl)))
 | (refine st_nil ?_)
 | (apply st_a; (case hc => rfl); (case he => (simp only [go_sem, *] <;> rfl)); (case hu => (simp only [updL_nil, updL_cons] <;> rfl)); (case hp => first | trivial))
 | (refine Awp.ret ?_; try simp only [go_sem, *])
 | (refine Awp.exit ?_; try simp only [go_sem, *])
 | (apply Awp.cond; (case hc => (simp only [go_sem, *] <;> rfl)); all_goals (intro hg; (try simp only [Bool.not_true, Bool.not_false, reduceCtorEq] at hg); (try have hg' := hg); (try simp only [decide_eq_true_eq, decide_eq_false_iff_not, Bool.and_eq_true, Bool.or_eq_false_iff, bne_iff_ne, bne_eq_false_iff_eq, beq_iff_eq, beq_eq_false_iff_ne, Int.not_lt, Int.not_le, Int.ofNat_lt, Int.ofNat_le, Int.natCast_inj] at hg')))
 | refine Awp.seq ?_)
        all_goals refine Lower.bool ?_
        all_goals rw [idB, all_end hj (by omega)]
        all_goals simp
        all_goals omega
end Go.Proofs
namespace Go.Proofs
open Go Go.Ab Go.RowKit
set_option maxHeartbeats 1000000
set_option maxRecDepth 100000
def sortI (l : List Int) : List Int := l.mergeSort fun x y => decide (x ≤ y)
theorem sortI_len (l : List Int) : (sortI l).length = l.length := List.length_mergeSort _
theorem fits_ints {st : Nat → Prop} {w : World} {l : List Int} {e : TypeId} {c : Value} {xs : List Value} (h : RowFits st w (ints l) 1 e c xs) : xs = l.map (Value.int .i64) := by
  have hlen : xs.length = l.length := by rw [h.row.len, ints_len]; omega
  apply List.ext_getElem (by simpa using hlen)
  intro i h1 h2
  have hi : i < (ints l).length := by rw [ints_len]; omega
  have h3 := h.cell i 0 hi (by omega)
  rw [ints_at l i (by omega)] at h3
  simp only [av_zero, Nat.mul_one, Nat.add_zero, cv, List.getD_eq_getElem?_getD, List.getElem?_eq_getElem h1, Option.getD_some] at h3
  generalize xs[i] = q at h3 ⊢
  cases h3
  have : i < l.length := by omega
  simp [this]
theorem ints_fits {st : Nat → Prop} {w : World} {l : List Int} {e : TypeId} {c : Value} (h : RowRep w e 1 c l.length (l.map (Value.int .i64))) : RowFits st w (ints l) 1 e c (l.map (Value.int .i64)) := by
  refine ⟨by simp [ints], by omega, by rw [ints_len]; exact h, by simp [Value.oneCell'], fun i j hi hj => ?_⟩
  rw [ints_len] at hi
  obtain rfl : j = 0 := by omega
  rw [ints_at l i hi]
  have e1 : cv (l.map (Value.int .i64)) (i * 1 + 0) = .int .i64 (l.getD i 0) := by
    simp [cv, List.getD_eq_getElem?_getD, hi]
  rw [e1]
  exact .v _
theorem sort_cc (l : List Int) (b nm : Nat) (e : TypeId) (hl : l.length < 1000000) : CallC Tryz.prog 77 [.own b] [(b, .row (ints l) 1 e)] nm (.tup []) [(b, some (.row (ints (sortI l)) 1 e))] := by
  refine ⟨⟨_, Tryz.func77, by kernel_rfl, by kernel_rfl⟩, fun prov β w cs hn hb hi hv => ?_⟩
  have hlk : ∀ n, updL (listH [(b, Blk.row (ints l) 1 e)]) [(b, some (Blk.row (ints (sortI l)) 1 e))] n = if n = b then some (.row (ints (sortI l)) 1 e) else none := by
    intro n; simp only [updL, upd, listH]; split <;> simp
  have hB := hb b (.row (ints l) 1 e) (by simp [listH])
  obtain ⟨xs, hf⟩ := hB
  obtain rfl := fits_ints hf
  obtain ⟨hlen, hv⟩ := hv
  match cs, hlen with
  | [c], _ =>
  have h1 := hv 0 (by simp)
  simp only [av_zero, cv, List.getD_cons_zero] at h1
  obtain ⟨rfl, _⟩ := h1.own_inv
  have tail : ∀ w', Value.tuple #[] = Value.tuple #[] → w.grownBy w' (blkOf (β b)) → RowRep w' e 1 (β b) (sortI l).length ((sortI l).map (Value.int .i64)) →
      ∃ c β', Ending.returned (Value.tuple #[]) = .returned c ∧ w'.os = w.os ∧ w'.tape = w.tape ∧ w'.output = w.output ∧ w.heap.size ≤ w'.heap.size ∧ Grows β β' ∧ (∀ n, n ≠ nm → β' n = β n) ∧
      (∀ g, g < w.heap.size → (∀ n b', listH [(b, Blk.row (ints l) 1 e)] n = some b' → n ∈ [(b, some (Blk.row (ints (sortI l)) 1 e))].map (·.1) → blkOf (β n) ≠ some g) → w'.heap[g]? = w.heap[g]?) ∧
      SimV (stb (fun g => prov g ∨ w.heap.size ≤ g) w' β' (updL (listH [(b, Blk.row (ints l) 1 e)]) [(b, some (Blk.row (ints (sortI l)) 1 e))])) β' w' (.tup []) c ∧
      (∀ n b', updL (listH [(b, Blk.row (ints l) 1 e)]) [(b, some (Blk.row (ints (sortI l)) 1 e))] n = some b' → n ∈ [(b, some (Blk.row (ints (sortI l)) 1 e))].map (·.1) → BlkRep (stb (fun g => prov g ∨ w.heap.size ≤ g) w' β' (updL (listH [(b, Blk.row (ints l) 1 e)]) [(b, some (Blk.row (ints (sortI l)) 1 e))])) β' w' b' (β' n) ∧
        ∀ g, blkOf (β' n) = some g → w.heap.size ≤ g ∨ ∃ m b', listH [(b, Blk.row (ints l) 1 e)] m = some b' ∧ m ∈ [(b, some (Blk.row (ints (sortI l)) 1 e))].map (·.1) ∧ blkOf (β m) = some g) ∧
      Inj β' (updL (listH [(b, Blk.row (ints l) 1 e)]) [(b, some (Blk.row (ints (sortI l)) 1 e))]) := by
    intro w' _ hg hr
    refine ⟨_, β, rfl, hg.os, hg.tape, hg.output, hg.size, Grows.refl _, fun _ _ => rfl, fun g hgl hno => ?_, .pure (.tup [] [] rfl (fun j hj => by simp at hj)), fun n b' hb' _ => ?_, ?_⟩
    · exact hg.block g hgl (fun e' => hno b (.row (ints l) 1 e) (by simp [listH]) (by simp) e'.symm)
    · rw [hlk] at hb'
      split at hb'
      · rename_i hnb; subst hnb
        simp at hb'; subst hb'
        exact ⟨⟨_, ints_fits hr⟩, fun g hgb => .inr ⟨n, .row (ints l) 1 e, by simp [listH], by simp, hgb⟩⟩
      · cases hb'
    · intro n m b1 b2 g h1 h2 _ _
      rw [hlk] at h1 h2
      split at h1
      · split at h2
        · simp_all
        · cases h2
      · cases h1
  rcases hf.row with ⟨a, hc, h0, hx⟩ | ⟨g, cap, hc, h0, hrow⟩
  · have hnil : l = [] := by rw [ints_len] at h0; exact List.eq_nil_of_length_eq_zero h0
    subst hnil
    rw [hc]
    refine (Tryz.slices_Sort_int_none a 0 w).mono fun e' w' ⟨he, hw⟩ => ?_
    subst he; subst hw
    have := tail w' rfl ⟨rfl, rfl, rfl, Nat.le_refl _, fun _ _ _ => rfl⟩ (.inl ⟨a, hc, by simp [sortI], by simp [sortI]⟩)
    exact this
  · rcases hrow.2 with ⟨h', _⟩ | ⟨g', cap', cur, h', _, hg, hn1, hn2, hn3, hn4⟩
    · rw [hc] at h'; cases h'
    · rw [hc] at h'
      simp only [Value.slice.injEq, Option.some.injEq, Addr.mk.injEq, and_true, true_and] at h'
      obtain ⟨rfl, rfl⟩ := h'
      rw [ints_len] at hn1 hn4 hc
      rw [Nat.mul_one] at hn4
      rw [hc]
      have hlt : g < w.heap.size := (Array.getElem?_eq_some_iff.1 hg).1
      refine (Tryz.slices_Sort_int g 0 cap l w (holds_of_blockI hg hn4) hlt (by omega)).mono fun e' w' ⟨he, n, os, hw⟩ => ?_
      subst he; subst hw
      refine tail _ rfl ?_ ?_
      · have : blkOf (β b) = some g := by rw [hc]; simp [blkOf]; omega
        rw [this]
        exact grownBy_sortedI _
      · refine .inr ⟨g, cap, by rw [hc, sortI_len], h0, ?_⟩
        have := ownsRow_sortedI (w := w) (base := 0) (g := g) (cap := cap) (n := n) (e := e) (os := os) (cur := cur) (ss := l) (ts := sortI l) (sortI_len l) (Nat.zero_le _) hg hn1 hn2 hn3
        rw [hc, sortI_len]
        exact this
end Go.Proofs
