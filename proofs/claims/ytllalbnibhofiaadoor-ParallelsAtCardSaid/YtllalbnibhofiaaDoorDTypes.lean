/- Type facts (printed by AxTypes). -/
import Derived.Test.YtllalbnibhofiaaDoorDInst
import Derived.Test.YtllalbnibhofiaaDoorAxD
namespace Go.DInst
open Go.Proofs Go.Ax
@[go_sem] theorem thawF (g : FuncId) : L.env.thaw g = false := by rfl
@[go_sem] theorem kp7_0 : L.env.keep 7 0 = [1, 2, 3, 9, 24, 25] := by kernel_rfl
@[go_sem] theorem kp7_2 : L.env.keep 7 2 = [1, 2, 9, 11, 12] := by kernel_rfl
@[go_sem] theorem kp8_0 : L.env.keep 8 0 = [1, 9, 10, 11, 12, 13, 14, 15] := by kernel_rfl
@[go_sem] theorem kp8_2 : L.env.keep 8 2 = [1, 9, 10, 11, 12, 13, 14, 15, 19, 75, 76] := by kernel_rfl
@[go_sem] theorem kp9_0 : L.env.keep 9 0 = [8, 10, 27, 28] := by kernel_rfl
@[go_sem] theorem kp10_0 : L.env.keep 10 0 = [2, 3, 31, 32, 33] := by kernel_rfl
@[go_sem] theorem kp10_2 : L.env.keep 10 2 = [3, 47, 48, 49] := by kernel_rfl
@[go_sem] theorem kp12_0 : L.env.keep 12 0 = [1, 2, 3, 4, 8, 9, 10, 11, 34, 35] := by kernel_rfl
@[go_sem] theorem kp14_0 : L.env.keep 14 0 = [3, 6, 7, 8] := by kernel_rfl
@[go_sem] theorem kp15_0 : L.env.keep 15 0 = [1, 2, 3, 6, 7, 25, 26, 27] := by kernel_rfl
@[go_sem] theorem kp15_2 : L.env.keep 15 2 = [2, 3, 6, 7, 41, 42, 43] := by kernel_rfl
@[go_sem] theorem kp15_4 : L.env.keep 15 4 = [3, 6, 7, 57, 58, 59] := by kernel_rfl
@[go_sem] theorem kp15_6 : L.env.keep 15 6 = [3, 6, 7, 99, 100, 101] := by kernel_rfl
@[go_sem] theorem kp15_8 : L.env.keep 15 8 = [3, 6, 7, 114, 115, 116] := by kernel_rfl
@[go_sem] theorem kp16_0 : L.env.keep 16 0 = [3, 4, 5, 6, 7, 8, 14, 15, 16] := by kernel_rfl
@[go_sem] theorem kp17_0 : L.env.keep 17 0 = [0, 1, 4, 9, 10] := by kernel_rfl
@[go_sem] theorem kp19_0 : L.env.keep 19 0 = [5, 15, 16, 17] := by kernel_rfl
@[go_sem] theorem kp19_2 : L.env.keep 19 2 = [5, 6, 15, 16, 17, 25, 26] := by kernel_rfl
@[go_sem] theorem kp22_0 : L.env.keep 22 0 = [4, 6, 21, 22] := by kernel_rfl
@[go_sem] theorem kp27_0 : L.env.keep 27 0 = [0, 2, 7, 14, 15] := by kernel_rfl
@[go_sem] theorem kp27_2 : L.env.keep 27 2 = [0, 2, 7, 8, 14, 15, 18, 19, 20] := by kernel_rfl
@[go_sem] theorem kp32_0 : L.env.keep 32 0 = [0, 4, 7, 33, 34, 35] := by kernel_rfl
@[go_sem] theorem kp33_0 : L.env.keep 33 0 = [1, 2, 3, 7, 16, 17, 18] := by kernel_rfl
@[go_sem] theorem kp34_0 : L.env.keep 34 0 = [2, 3, 4, 6, 10, 11, 12] := by kernel_rfl
@[go_sem] theorem kp36_0 : L.env.keep 36 0 = [5, 24] := by kernel_rfl
@[go_sem] theorem kp46_0 : L.env.keep 46 0 = [1, 5, 6, 7, 29, 30, 31] := by kernel_rfl
@[go_sem] theorem kp46_2 : L.env.keep 46 2 = [1, 5, 6, 7, 10, 11] := by kernel_rfl
@[go_sem] theorem kp46_4 : L.env.keep 46 4 = [1, 5, 6, 7, 10, 11, 12, 76, 77, 78] := by kernel_rfl
@[go_sem] theorem kp50_0 : L.env.keep 50 0 = [1, 5, 9, 10, 11] := by kernel_rfl
@[go_sem] theorem kp55_0 : L.env.keep 55 0 = [2, 3, 4, 5, 8, 9, 10] := by kernel_rfl
@[go_sem] theorem kp58_0 : L.env.keep 58 0 = [2, 3, 7, 8, 9] := by kernel_rfl
@[go_sem] theorem kp59_0 : L.env.keep 59 0 = [2, 3, 7, 8, 9] := by kernel_rfl
@[go_sem] theorem kp60_0 : L.env.keep 60 0 = [2, 3, 7, 8, 9] := by kernel_rfl
@[go_sem] theorem kp63_0 : L.env.keep 63 0 = [2, 5, 6] := by kernel_rfl
@[go_sem] theorem kp63_2 : L.env.keep 63 2 = [2, 5, 6, 45, 46, 47] := by kernel_rfl
@[go_sem] theorem kp66_1 : L.env.keep 66 1 = [1, 36, 37, 38] := by kernel_rfl
@[go_sem] theorem kp66_3 : L.env.keep 66 3 = [1, 55, 56, 57] := by kernel_rfl
@[go_sem] theorem kp68_0 : L.env.keep 68 0 = [3, 4, 18, 19, 20] := by kernel_rfl
@[go_sem] theorem kp68_2 : L.env.keep 68 2 = [3, 4, 5, 18, 19, 20, 26, 27, 28] := by kernel_rfl
@[go_sem] theorem kp68_4 : L.env.keep 68 4 = [3, 51, 52, 53] := by kernel_rfl
@[go_sem] theorem kp69_0 : L.env.keep 69 0 = [0, 1, 2, 6, 7, 8] := by kernel_rfl
@[go_sem] theorem kp69_2 : L.env.keep 69 2 = [0, 1, 2, 6] := by kernel_rfl
@[go_sem] theorem kp69_4 : L.env.keep 69 4 = [0, 1, 2, 6, 7, 8] := by kernel_rfl
@[go_sem] theorem kp73_0 : L.env.keep 73 0 = [0, 1, 7, 8] := by kernel_rfl
@[go_sem] theorem kp75_0 : L.env.keep 75 0 = [3, 8, 9, 10] := by kernel_rfl
@[go_sem] theorem kp79_0 : L.env.keep 79 0 = [0, 1, 2, 3, 8] := by kernel_rfl
@[go_sem] theorem kp79_2 : L.env.keep 79 2 = [0, 1, 2, 3, 8, 9] := by kernel_rfl
@[go_sem] theorem kp80_0 : L.env.keep 80 0 = [0, 1, 4, 10, 11] := by kernel_rfl
@[go_sem] theorem kp80_2 : L.env.keep 80 2 = [0, 10, 13] := by kernel_rfl
@[go_sem] theorem kp80_4 : L.env.keep 80 4 = [0, 2, 4, 14, 15] := by kernel_rfl
@[go_sem] theorem kp80_6 : L.env.keep 80 6 = [0, 14, 17] := by kernel_rfl
@[go_sem] theorem kp80_8 : L.env.keep 80 8 = [0, 1, 2, 3, 4, 18, 19, 20, 21, 22] := by kernel_rfl
@[go_sem] theorem kp81_0 : L.env.keep 81 0 = [0, 1, 7, 8] := by kernel_rfl
@[go_sem] theorem kp86_0 : L.env.keep 86 0 = [0, 1, 7, 8] := by kernel_rfl
@[go_sem] theorem kp88_0 : L.env.keep 88 0 = [0, 2, 4, 10, 11] := by kernel_rfl
@[go_sem] theorem kp92_0 : L.env.keep 92 0 = [0, 1, 2, 3, 10] := by kernel_rfl
@[go_sem] theorem kp93_9 : L.env.keep 93 9 = [175] := by kernel_rfl
@[go_sem] theorem kp93_1 : L.env.keep 93 1 = [0, 7, 8, 9] := by kernel_rfl
@[go_sem] theorem kp93_3 : L.env.keep 93 3 = [0, 7, 8, 9, 12] := by kernel_rfl
@[go_sem] theorem kp93_5 : L.env.keep 93 5 = [0, 7, 8, 9, 14, 15] := by kernel_rfl
@[go_sem] theorem kp93_7 : L.env.keep 93 7 = [0, 7, 8, 9, 14, 15, 16] := by kernel_rfl
@[go_sem] theorem kp99_0 : L.env.keep 99 0 = [1, 2, 10] := by kernel_rfl
@[go_sem] theorem is0 : isT L.env 0 = true := by kernel_rfl
@[go_sem] theorem sz0 : L.env.sz 0 = 1 := by kernel_rfl
@[go_sem] theorem ag0 : aggT L.env 0 = some false := by kernel_rfl
@[go_sem] theorem is1 : isT L.env 1 = true := by kernel_rfl
@[go_sem] theorem sz1 : L.env.sz 1 = 1 := by kernel_rfl
@[go_sem] theorem ag1 : aggT L.env 1 = some false := by kernel_rfl
@[go_sem] theorem ze1 : L.env.zero 1 = some [.nilfunc] := by kernel_rfl
@[go_sem] theorem is2 : isT L.env 2 = true := by kernel_rfl
@[go_sem] theorem sz2 : L.env.sz 2 = 1 := by kernel_rfl
@[go_sem] theorem ag2 : aggT L.env 2 = some false := by kernel_rfl
@[go_sem] theorem un2 : L.env.und 2 = some (.int .i64) := by kernel_rfl
@[go_sem] theorem in2 : intT L.env 2 = some .i64 := by kernel_rfl
@[go_sem] theorem ze2 : L.env.zero 2 = some [.int .i64 0] := by kernel_rfl
@[go_sem] theorem is3 : isT L.env 3 = true := by kernel_rfl
@[go_sem] theorem sz3 : L.env.sz 3 = 1 := by kernel_rfl
@[go_sem] theorem ag3 : aggT L.env 3 = some false := by kernel_rfl
@[go_sem] theorem un3 : L.env.und 3 = some (.int .i64) := by kernel_rfl
@[go_sem] theorem in3 : intT L.env 3 = some .i64 := by kernel_rfl
@[go_sem] theorem ze3 : L.env.zero 3 = some [.int .i64 0] := by kernel_rfl
@[go_sem] theorem is4 : isT L.env 4 = true := by kernel_rfl
@[go_sem] theorem sz4 : L.env.sz 4 = 1 := by kernel_rfl
@[go_sem] theorem ag4 : aggT L.env 4 = some false := by kernel_rfl
@[go_sem] theorem un4 : L.env.und 4 = some .bool := by kernel_rfl
@[go_sem] theorem ze4 : L.env.zero 4 = some [.bool false] := by kernel_rfl
@[go_sem] theorem is5 : isT L.env 5 = true := by kernel_rfl
@[go_sem] theorem sz5 : L.env.sz 5 = 1 := by kernel_rfl
@[go_sem] theorem ag5 : aggT L.env 5 = some false := by kernel_rfl
@[go_sem] theorem un5 : L.env.und 5 = some (.int .u8) := by kernel_rfl
@[go_sem] theorem in5 : intT L.env 5 = some .u8 := by kernel_rfl
@[go_sem] theorem ze5 : L.env.zero 5 = some [.int .u8 0] := by kernel_rfl
@[go_sem] theorem is6 : isT L.env 6 = true := by kernel_rfl
@[go_sem] theorem sz6 : L.env.sz 6 = 1 := by kernel_rfl
@[go_sem] theorem ag6 : aggT L.env 6 = some false := by kernel_rfl
@[go_sem] theorem un6 : L.env.und 6 = some (.int .u8) := by kernel_rfl
@[go_sem] theorem in6 : intT L.env 6 = some .u8 := by kernel_rfl
@[go_sem] theorem ze6 : L.env.zero 6 = some [.int .u8 0] := by kernel_rfl
@[go_sem] theorem is7 : isT L.env 7 = true := by kernel_rfl
@[go_sem] theorem sz7 : L.env.sz 7 = 4 := by kernel_rfl
@[go_sem] theorem ag7 : aggT L.env 7 = some true := by kernel_rfl
theorem ui7 : (L.env.und 7).isSome = true := by kernel_rfl
@[go_sem] theorem bl7 : bldT L.env 7 = true := by kernel_rfl
theorem ft7 : fieldsT L.env 7 = some [2, 3, 4, 6] := by kernel_rfl
@[go_sem] theorem fl7_0 : fldT L.env 7 0 = some (0, 2) := by kernel_rfl
@[go_sem] theorem pl7_0 : plcT L.env 7 0 = some (0, 1) := by kernel_rfl
@[go_sem] theorem fl7_1 : fldT L.env 7 1 = some (1, 3) := by kernel_rfl
@[go_sem] theorem pl7_1 : plcT L.env 7 1 = some (1, 1) := by kernel_rfl
@[go_sem] theorem fl7_2 : fldT L.env 7 2 = some (2, 4) := by kernel_rfl
@[go_sem] theorem pl7_2 : plcT L.env 7 2 = some (2, 1) := by kernel_rfl
@[go_sem] theorem fl7_3 : fldT L.env 7 3 = some (3, 6) := by kernel_rfl
@[go_sem] theorem pl7_3 : plcT L.env 7 3 = some (3, 1) := by kernel_rfl
@[go_sem] theorem ze7 : L.env.zero 7 = some [.int .i64 0, .int .i64 0, .bool false, .int .u8 0] := by kernel_rfl
@[go_sem] theorem is8 : isT L.env 8 = true := by kernel_rfl
@[go_sem] theorem sz8 : L.env.sz 8 = 4 := by kernel_rfl
@[go_sem] theorem ag8 : aggT L.env 8 = some true := by kernel_rfl
theorem ui8 : (L.env.und 8).isSome = true := by kernel_rfl
@[go_sem] theorem bl8 : bldT L.env 8 = true := by kernel_rfl
theorem ft8 : fieldsT L.env 8 = some [2, 3, 4, 6] := by kernel_rfl
@[go_sem] theorem fl8_0 : fldT L.env 8 0 = some (0, 2) := by kernel_rfl
@[go_sem] theorem pl8_0 : plcT L.env 8 0 = some (0, 1) := by kernel_rfl
@[go_sem] theorem fl8_1 : fldT L.env 8 1 = some (1, 3) := by kernel_rfl
@[go_sem] theorem pl8_1 : plcT L.env 8 1 = some (1, 1) := by kernel_rfl
@[go_sem] theorem fl8_2 : fldT L.env 8 2 = some (2, 4) := by kernel_rfl
@[go_sem] theorem pl8_2 : plcT L.env 8 2 = some (2, 1) := by kernel_rfl
@[go_sem] theorem fl8_3 : fldT L.env 8 3 = some (3, 6) := by kernel_rfl
@[go_sem] theorem pl8_3 : plcT L.env 8 3 = some (3, 1) := by kernel_rfl
@[go_sem] theorem ze8 : L.env.zero 8 = some [.int .i64 0, .int .i64 0, .bool false, .int .u8 0] := by kernel_rfl
@[go_sem] theorem is9 : isT L.env 9 = true := by kernel_rfl
@[go_sem] theorem sz9 : L.env.sz 9 = 1 := by kernel_rfl
@[go_sem] theorem ag9 : aggT L.env 9 = some false := by kernel_rfl
@[go_sem] theorem un9 : L.env.und 9 = some .string := by kernel_rfl
@[go_sem] theorem sr9 : strT L.env 9 = true := by kernel_rfl
@[go_sem] theorem ze9 : L.env.zero 9 = some [.str []] := by kernel_rfl
@[go_sem] theorem is10 : isT L.env 10 = true := by kernel_rfl
@[go_sem] theorem sz10 : L.env.sz 10 = 1 := by kernel_rfl
@[go_sem] theorem ag10 : aggT L.env 10 = some false := by kernel_rfl
@[go_sem] theorem un10 : L.env.und 10 = some .string := by kernel_rfl
@[go_sem] theorem sr10 : strT L.env 10 = true := by kernel_rfl
@[go_sem] theorem ze10 : L.env.zero 10 = some [.str []] := by kernel_rfl
@[go_sem] theorem is11 : isT L.env 11 = true := by kernel_rfl
@[go_sem] theorem sz11 : L.env.sz 11 = 1 := by kernel_rfl
@[go_sem] theorem ag11 : aggT L.env 11 = some false := by kernel_rfl
@[go_sem] theorem un11 : L.env.und 11 = some .string := by kernel_rfl
@[go_sem] theorem sr11 : strT L.env 11 = true := by kernel_rfl
@[go_sem] theorem ze11 : L.env.zero 11 = some [.str []] := by kernel_rfl
@[go_sem] theorem is12 : isT L.env 12 = true := by kernel_rfl
@[go_sem] theorem sz12 : L.env.sz 12 = 1 := by kernel_rfl
@[go_sem] theorem ag12 : aggT L.env 12 = some false := by kernel_rfl
@[go_sem] theorem un12 : L.env.und 12 = some (.int .u64) := by kernel_rfl
@[go_sem] theorem in12 : intT L.env 12 = some .u64 := by kernel_rfl
@[go_sem] theorem ze12 : L.env.zero 12 = some [.int .u64 0] := by kernel_rfl
@[go_sem] theorem is13 : isT L.env 13 = true := by kernel_rfl
@[go_sem] theorem sz13 : L.env.sz 13 = 2 := by kernel_rfl
@[go_sem] theorem ag13 : aggT L.env 13 = some true := by kernel_rfl
theorem ui13 : (L.env.und 13).isSome = true := by kernel_rfl
@[go_sem] theorem bl13 : bldT L.env 13 = true := by kernel_rfl
theorem ft13 : fieldsT L.env 13 = some [9, 12] := by kernel_rfl
@[go_sem] theorem fl13_0 : fldT L.env 13 0 = some (0, 9) := by kernel_rfl
@[go_sem] theorem pl13_0 : plcT L.env 13 0 = some (0, 1) := by kernel_rfl
@[go_sem] theorem fl13_1 : fldT L.env 13 1 = some (1, 12) := by kernel_rfl
@[go_sem] theorem pl13_1 : plcT L.env 13 1 = some (1, 1) := by kernel_rfl
@[go_sem] theorem ze13 : L.env.zero 13 = some [.str [], .int .u64 0] := by kernel_rfl
@[go_sem] theorem is14 : isT L.env 14 = true := by kernel_rfl
@[go_sem] theorem sz14 : L.env.sz 14 = 2 := by kernel_rfl
@[go_sem] theorem ag14 : aggT L.env 14 = some true := by kernel_rfl
theorem ui14 : (L.env.und 14).isSome = true := by kernel_rfl
@[go_sem] theorem bl14 : bldT L.env 14 = true := by kernel_rfl
theorem ft14 : fieldsT L.env 14 = some [9, 12] := by kernel_rfl
@[go_sem] theorem fl14_0 : fldT L.env 14 0 = some (0, 9) := by kernel_rfl
@[go_sem] theorem pl14_0 : plcT L.env 14 0 = some (0, 1) := by kernel_rfl
@[go_sem] theorem fl14_1 : fldT L.env 14 1 = some (1, 12) := by kernel_rfl
@[go_sem] theorem pl14_1 : plcT L.env 14 1 = some (1, 1) := by kernel_rfl
@[go_sem] theorem ze14 : L.env.zero 14 = some [.str [], .int .u64 0] := by kernel_rfl
@[go_sem] theorem is15 : isT L.env 15 = true := by kernel_rfl
@[go_sem] theorem sz15 : L.env.sz 15 = 1 := by kernel_rfl
@[go_sem] theorem ag15 : aggT L.env 15 = some false := by kernel_rfl
@[go_sem] theorem un15 : L.env.und 15 = some (.pointer 147) := by kernel_rfl
@[go_sem] theorem ze15 : L.env.zero 15 = some [.nilptr] := by kernel_rfl
@[go_sem] theorem is16 : isT L.env 16 = true := by kernel_rfl
@[go_sem] theorem sz16 : L.env.sz 16 = 1 := by kernel_rfl
@[go_sem] theorem ag16 : aggT L.env 16 = some false := by kernel_rfl
@[go_sem] theorem un16 : L.env.und 16 = some (.pointer 150) := by kernel_rfl
@[go_sem] theorem ze16 : L.env.zero 16 = some [.nilptr] := by kernel_rfl
@[go_sem] theorem is17 : isT L.env 17 = true := by kernel_rfl
@[go_sem] theorem sz17 : L.env.sz 17 = 1 := by kernel_rfl
@[go_sem] theorem ag17 : aggT L.env 17 = some false := by kernel_rfl
@[go_sem] theorem un17 : L.env.und 17 = some (.pointer 160) := by kernel_rfl
@[go_sem] theorem ze17 : L.env.zero 17 = some [.nilptr] := by kernel_rfl
@[go_sem] theorem is18 : isT L.env 18 = true := by kernel_rfl
@[go_sem] theorem sz18 : L.env.sz 18 = 1 := by kernel_rfl
@[go_sem] theorem ag18 : aggT L.env 18 = some true := by kernel_rfl
theorem ui18 : (L.env.und 18).isSome = true := by kernel_rfl
@[go_sem] theorem bl18 : bldT L.env 18 = true := by kernel_rfl
theorem ft18 : fieldsT L.env 18 = some [17] := by kernel_rfl
@[go_sem] theorem fl18_0 : fldT L.env 18 0 = some (0, 17) := by kernel_rfl
@[go_sem] theorem pl18_0 : plcT L.env 18 0 = some (0, 1) := by kernel_rfl
@[go_sem] theorem ze18 : L.env.zero 18 = some [.nilptr] := by kernel_rfl
@[go_sem] theorem is19 : isT L.env 19 = true := by kernel_rfl
@[go_sem] theorem sz19 : L.env.sz 19 = 1 := by kernel_rfl
@[go_sem] theorem ag19 : aggT L.env 19 = some true := by kernel_rfl
theorem ui19 : (L.env.und 19).isSome = true := by kernel_rfl
@[go_sem] theorem bl19 : bldT L.env 19 = true := by kernel_rfl
theorem ft19 : fieldsT L.env 19 = some [17] := by kernel_rfl
@[go_sem] theorem fl19_0 : fldT L.env 19 0 = some (0, 17) := by kernel_rfl
@[go_sem] theorem pl19_0 : plcT L.env 19 0 = some (0, 1) := by kernel_rfl
@[go_sem] theorem ze19 : L.env.zero 19 = some [.nilptr] := by kernel_rfl
@[go_sem] theorem is20 : isT L.env 20 = true := by kernel_rfl
@[go_sem] theorem sz20 : L.env.sz 20 = 1 := by kernel_rfl
@[go_sem] theorem ag20 : aggT L.env 20 = some false := by kernel_rfl
@[go_sem] theorem ze20 : L.env.zero 20 = some [.nilifc] := by kernel_rfl
@[go_sem] theorem is21 : isT L.env 21 = true := by kernel_rfl
@[go_sem] theorem sz21 : L.env.sz 21 = 1 := by kernel_rfl
@[go_sem] theorem ag21 : aggT L.env 21 = some false := by kernel_rfl
@[go_sem] theorem un21 : L.env.und 21 = some (.int .i32) := by kernel_rfl
@[go_sem] theorem in21 : intT L.env 21 = some .i32 := by kernel_rfl
@[go_sem] theorem ze21 : L.env.zero 21 = some [.int .i32 0] := by kernel_rfl
@[go_sem] theorem is22 : isT L.env 22 = true := by kernel_rfl
@[go_sem] theorem sz22 : L.env.sz 22 = 1 := by kernel_rfl
@[go_sem] theorem ag22 : aggT L.env 22 = some false := by kernel_rfl
@[go_sem] theorem un22 : L.env.und 22 = some (.slice 24) := by kernel_rfl
@[go_sem] theorem st22 : slT L.env 22 = some 24 := by kernel_rfl
@[go_sem] theorem by22 : L.env.bytes 22 = 24 := by kernel_rfl
@[go_sem] theorem ze22 : L.env.zero 22 = some [.nilslice] := by kernel_rfl
@[go_sem] theorem is23 : isT L.env 23 = true := by kernel_rfl
@[go_sem] theorem sz23 : L.env.sz 23 = 1 := by kernel_rfl
@[go_sem] theorem ag23 : aggT L.env 23 = some false := by kernel_rfl
@[go_sem] theorem ze23 : L.env.zero 23 = some [.nilfunc] := by kernel_rfl
@[go_sem] theorem is24 : isT L.env 24 = true := by kernel_rfl
@[go_sem] theorem sz24 : L.env.sz 24 = 1 := by kernel_rfl
@[go_sem] theorem ag24 : aggT L.env 24 = some false := by kernel_rfl
@[go_sem] theorem un24 : L.env.und 24 = some (.slice 25) := by kernel_rfl
@[go_sem] theorem st24 : slT L.env 24 = some 25 := by kernel_rfl
@[go_sem] theorem by24 : L.env.bytes 24 = 24 := by kernel_rfl
@[go_sem] theorem ze24 : L.env.zero 24 = some [.nilslice] := by kernel_rfl
@[go_sem] theorem is25 : isT L.env 25 = true := by kernel_rfl
@[go_sem] theorem sz25 : L.env.sz 25 = 1 := by kernel_rfl
@[go_sem] theorem ag25 : aggT L.env 25 = some false := by kernel_rfl
@[go_sem] theorem un25 : L.env.und 25 = some (.int .u64) := by kernel_rfl
@[go_sem] theorem in25 : intT L.env 25 = some .u64 := by kernel_rfl
@[go_sem] theorem ze25 : L.env.zero 25 = some [.int .u64 0] := by kernel_rfl
@[go_sem] theorem is26 : isT L.env 26 = true := by kernel_rfl
@[go_sem] theorem sz26 : L.env.sz 26 = 1 := by kernel_rfl
@[go_sem] theorem ag26 : aggT L.env 26 = some false := by kernel_rfl
@[go_sem] theorem un26 : L.env.und 26 = some (.int .u64) := by kernel_rfl
@[go_sem] theorem in26 : intT L.env 26 = some .u64 := by kernel_rfl
@[go_sem] theorem ze26 : L.env.zero 26 = some [.int .u64 0] := by kernel_rfl
@[go_sem] theorem is27 : isT L.env 27 = true := by kernel_rfl
@[go_sem] theorem sz27 : L.env.sz 27 = 1 := by kernel_rfl
@[go_sem] theorem ag27 : aggT L.env 27 = some false := by kernel_rfl
@[go_sem] theorem ze27 : L.env.zero 27 = some [.nilfunc] := by kernel_rfl
@[go_sem] theorem is28 : isT L.env 28 = true := by kernel_rfl
@[go_sem] theorem sz28 : L.env.sz 28 = 1 := by kernel_rfl
@[go_sem] theorem ag28 : aggT L.env 28 = some false := by kernel_rfl
@[go_sem] theorem un28 : L.env.und 28 = some (.slice 56) := by kernel_rfl
@[go_sem] theorem st28 : slT L.env 28 = some 56 := by kernel_rfl
@[go_sem] theorem by28 : L.env.bytes 28 = 24 := by kernel_rfl
@[go_sem] theorem ze28 : L.env.zero 28 = some [.nilslice] := by kernel_rfl
@[go_sem] theorem is29 : isT L.env 29 = true := by kernel_rfl
@[go_sem] theorem sz29 : L.env.sz 29 = 1 := by kernel_rfl
@[go_sem] theorem ag29 : aggT L.env 29 = some false := by kernel_rfl
@[go_sem] theorem un29 : L.env.und 29 = some (.slice 9) := by kernel_rfl
@[go_sem] theorem st29 : slT L.env 29 = some 9 := by kernel_rfl
@[go_sem] theorem by29 : L.env.bytes 29 = 24 := by kernel_rfl
@[go_sem] theorem ze29 : L.env.zero 29 = some [.nilslice] := by kernel_rfl
@[go_sem] theorem is30 : isT L.env 30 = true := by kernel_rfl
@[go_sem] theorem sz30 : L.env.sz 30 = 1 := by kernel_rfl
@[go_sem] theorem ag30 : aggT L.env 30 = some false := by kernel_rfl
@[go_sem] theorem un30 : L.env.und 30 = some (.slice 124) := by kernel_rfl
@[go_sem] theorem st30 : slT L.env 30 = some 124 := by kernel_rfl
@[go_sem] theorem by30 : L.env.bytes 30 = 24 := by kernel_rfl
@[go_sem] theorem ze30 : L.env.zero 30 = some [.nilslice] := by kernel_rfl
@[go_sem] theorem is31 : isT L.env 31 = true := by kernel_rfl
@[go_sem] theorem sz31 : L.env.sz 31 = 1 := by kernel_rfl
@[go_sem] theorem ag31 : aggT L.env 31 = some false := by kernel_rfl
@[go_sem] theorem un31 : L.env.und 31 = some (.slice 3) := by kernel_rfl
@[go_sem] theorem st31 : slT L.env 31 = some 3 := by kernel_rfl
@[go_sem] theorem by31 : L.env.bytes 31 = 24 := by kernel_rfl
@[go_sem] theorem ze31 : L.env.zero 31 = some [.nilslice] := by kernel_rfl
@[go_sem] theorem is32 : isT L.env 32 = true := by kernel_rfl
@[go_sem] theorem sz32 : L.env.sz 32 = 4 := by kernel_rfl
@[go_sem] theorem ag32 : aggT L.env 32 = some true := by kernel_rfl
theorem ui32 : (L.env.und 32).isSome = true := by kernel_rfl
@[go_sem] theorem bl32 : bldT L.env 32 = true := by kernel_rfl
theorem ft32 : fieldsT L.env 32 = some [28, 29, 30, 31] := by kernel_rfl
@[go_sem] theorem fl32_0 : fldT L.env 32 0 = some (0, 28) := by kernel_rfl
@[go_sem] theorem pl32_0 : plcT L.env 32 0 = some (0, 1) := by kernel_rfl
@[go_sem] theorem fl32_1 : fldT L.env 32 1 = some (1, 29) := by kernel_rfl
@[go_sem] theorem pl32_1 : plcT L.env 32 1 = some (1, 1) := by kernel_rfl
@[go_sem] theorem fl32_2 : fldT L.env 32 2 = some (2, 30) := by kernel_rfl
@[go_sem] theorem pl32_2 : plcT L.env 32 2 = some (2, 1) := by kernel_rfl
@[go_sem] theorem fl32_3 : fldT L.env 32 3 = some (3, 31) := by kernel_rfl
@[go_sem] theorem pl32_3 : plcT L.env 32 3 = some (3, 1) := by kernel_rfl
@[go_sem] theorem ze32 : L.env.zero 32 = some [.nilslice, .nilslice, .nilslice, .nilslice] := by kernel_rfl
@[go_sem] theorem is33 : isT L.env 33 = true := by kernel_rfl
@[go_sem] theorem sz33 : L.env.sz 33 = 4 := by kernel_rfl
@[go_sem] theorem ag33 : aggT L.env 33 = some true := by kernel_rfl
theorem ui33 : (L.env.und 33).isSome = true := by kernel_rfl
@[go_sem] theorem bl33 : bldT L.env 33 = true := by kernel_rfl
theorem ft33 : fieldsT L.env 33 = some [28, 29, 30, 31] := by kernel_rfl
@[go_sem] theorem fl33_0 : fldT L.env 33 0 = some (0, 28) := by kernel_rfl
@[go_sem] theorem pl33_0 : plcT L.env 33 0 = some (0, 1) := by kernel_rfl
@[go_sem] theorem fl33_1 : fldT L.env 33 1 = some (1, 29) := by kernel_rfl
@[go_sem] theorem pl33_1 : plcT L.env 33 1 = some (1, 1) := by kernel_rfl
@[go_sem] theorem fl33_2 : fldT L.env 33 2 = some (2, 30) := by kernel_rfl
@[go_sem] theorem pl33_2 : plcT L.env 33 2 = some (2, 1) := by kernel_rfl
@[go_sem] theorem fl33_3 : fldT L.env 33 3 = some (3, 31) := by kernel_rfl
@[go_sem] theorem pl33_3 : plcT L.env 33 3 = some (3, 1) := by kernel_rfl
@[go_sem] theorem ze33 : L.env.zero 33 = some [.nilslice, .nilslice, .nilslice, .nilslice] := by kernel_rfl
@[go_sem] theorem is34 : isT L.env 34 = true := by kernel_rfl
@[go_sem] theorem sz34 : L.env.sz 34 = 1 := by kernel_rfl
@[go_sem] theorem ag34 : aggT L.env 34 = some false := by kernel_rfl
@[go_sem] theorem un34 : L.env.und 34 = some (.slice 53) := by kernel_rfl
@[go_sem] theorem st34 : slT L.env 34 = some 53 := by kernel_rfl
@[go_sem] theorem by34 : L.env.bytes 34 = 24 := by kernel_rfl
@[go_sem] theorem ze34 : L.env.zero 34 = some [.nilslice] := by kernel_rfl
@[go_sem] theorem is35 : isT L.env 35 = true := by kernel_rfl
@[go_sem] theorem sz35 : L.env.sz 35 = 1 := by kernel_rfl
@[go_sem] theorem ag35 : aggT L.env 35 = some false := by kernel_rfl
@[go_sem] theorem un35 : L.env.und 35 = some (.slice 46) := by kernel_rfl
@[go_sem] theorem st35 : slT L.env 35 = some 46 := by kernel_rfl
@[go_sem] theorem by35 : L.env.bytes 35 = 24 := by kernel_rfl
@[go_sem] theorem ze35 : L.env.zero 35 = some [.nilslice] := by kernel_rfl
@[go_sem] theorem is36 : isT L.env 36 = true := by kernel_rfl
@[go_sem] theorem sz36 : L.env.sz 36 = 1 := by kernel_rfl
@[go_sem] theorem ag36 : aggT L.env 36 = some false := by kernel_rfl
@[go_sem] theorem is37 : isT L.env 37 = true := by kernel_rfl
@[go_sem] theorem sz37 : L.env.sz 37 = 1 := by kernel_rfl
@[go_sem] theorem ag37 : aggT L.env 37 = some false := by kernel_rfl
@[go_sem] theorem ze37 : L.env.zero 37 = some [.nilfunc] := by kernel_rfl
@[go_sem] theorem is38 : isT L.env 38 = true := by kernel_rfl
@[go_sem] theorem sz38 : L.env.sz 38 = 1 := by kernel_rfl
@[go_sem] theorem ag38 : aggT L.env 38 = some false := by kernel_rfl
@[go_sem] theorem un38 : L.env.und 38 = some (.int .i64) := by kernel_rfl
@[go_sem] theorem in38 : intT L.env 38 = some .i64 := by kernel_rfl
@[go_sem] theorem ze38 : L.env.zero 38 = some [.int .i64 0] := by kernel_rfl
@[go_sem] theorem is39 : isT L.env 39 = true := by kernel_rfl
@[go_sem] theorem sz39 : L.env.sz 39 = 1 := by kernel_rfl
@[go_sem] theorem ag39 : aggT L.env 39 = some false := by kernel_rfl
@[go_sem] theorem is40 : isT L.env 40 = true := by kernel_rfl
@[go_sem] theorem sz40 : L.env.sz 40 = 1 := by kernel_rfl
@[go_sem] theorem ag40 : aggT L.env 40 = some false := by kernel_rfl
@[go_sem] theorem ze40 : L.env.zero 40 = some [.nilfunc] := by kernel_rfl
@[go_sem] theorem is41 : isT L.env 41 = true := by kernel_rfl
@[go_sem] theorem sz41 : L.env.sz 41 = 1 := by kernel_rfl
@[go_sem] theorem ag41 : aggT L.env 41 = some false := by kernel_rfl
@[go_sem] theorem un41 : L.env.und 41 = some (.slice 4) := by kernel_rfl
@[go_sem] theorem st41 : slT L.env 41 = some 4 := by kernel_rfl
@[go_sem] theorem by41 : L.env.bytes 41 = 24 := by kernel_rfl
@[go_sem] theorem ze41 : L.env.zero 41 = some [.nilslice] := by kernel_rfl
@[go_sem] theorem is42 : isT L.env 42 = true := by kernel_rfl
@[go_sem] theorem sz42 : L.env.sz 42 = 1 := by kernel_rfl
@[go_sem] theorem ag42 : aggT L.env 42 = some false := by kernel_rfl
@[go_sem] theorem is43 : isT L.env 43 = true := by kernel_rfl
@[go_sem] theorem sz43 : L.env.sz 43 = 1 := by kernel_rfl
@[go_sem] theorem ag43 : aggT L.env 43 = some false := by kernel_rfl
@[go_sem] theorem ze43 : L.env.zero 43 = some [.nilfunc] := by kernel_rfl
@[go_sem] theorem is44 : isT L.env 44 = true := by kernel_rfl
@[go_sem] theorem sz44 : L.env.sz 44 = 1 := by kernel_rfl
@[go_sem] theorem ag44 : aggT L.env 44 = some false := by kernel_rfl
@[go_sem] theorem un44 : L.env.und 44 = some (.slice 51) := by kernel_rfl
@[go_sem] theorem st44 : slT L.env 44 = some 51 := by kernel_rfl
@[go_sem] theorem by44 : L.env.bytes 44 = 24 := by kernel_rfl
@[go_sem] theorem ze44 : L.env.zero 44 = some [.nilslice] := by kernel_rfl
@[go_sem] theorem is45 : isT L.env 45 = true := by kernel_rfl
@[go_sem] theorem sz45 : L.env.sz 45 = 2 := by kernel_rfl
@[go_sem] theorem ag45 : aggT L.env 45 = some true := by kernel_rfl
theorem ui45 : (L.env.und 45).isSome = true := by kernel_rfl
@[go_sem] theorem bl45 : bldT L.env 45 = true := by kernel_rfl
theorem ft45 : fieldsT L.env 45 = some [44, 44] := by kernel_rfl
@[go_sem] theorem fl45_0 : fldT L.env 45 0 = some (0, 44) := by kernel_rfl
@[go_sem] theorem pl45_0 : plcT L.env 45 0 = some (0, 1) := by kernel_rfl
@[go_sem] theorem fl45_1 : fldT L.env 45 1 = some (1, 44) := by kernel_rfl
@[go_sem] theorem pl45_1 : plcT L.env 45 1 = some (1, 1) := by kernel_rfl
@[go_sem] theorem ze45 : L.env.zero 45 = some [.nilslice, .nilslice] := by kernel_rfl
@[go_sem] theorem is46 : isT L.env 46 = true := by kernel_rfl
@[go_sem] theorem sz46 : L.env.sz 46 = 2 := by kernel_rfl
@[go_sem] theorem ag46 : aggT L.env 46 = some true := by kernel_rfl
theorem ui46 : (L.env.und 46).isSome = true := by kernel_rfl
@[go_sem] theorem bl46 : bldT L.env 46 = true := by kernel_rfl
theorem ft46 : fieldsT L.env 46 = some [44, 44] := by kernel_rfl
@[go_sem] theorem fl46_0 : fldT L.env 46 0 = some (0, 44) := by kernel_rfl
@[go_sem] theorem pl46_0 : plcT L.env 46 0 = some (0, 1) := by kernel_rfl
@[go_sem] theorem fl46_1 : fldT L.env 46 1 = some (1, 44) := by kernel_rfl
@[go_sem] theorem pl46_1 : plcT L.env 46 1 = some (1, 1) := by kernel_rfl
@[go_sem] theorem ze46 : L.env.zero 46 = some [.nilslice, .nilslice] := by kernel_rfl
@[go_sem] theorem is47 : isT L.env 47 = true := by kernel_rfl
@[go_sem] theorem sz47 : L.env.sz 47 = 1 := by kernel_rfl
@[go_sem] theorem ag47 : aggT L.env 47 = some false := by kernel_rfl
@[go_sem] theorem ze47 : L.env.zero 47 = some [.nilfunc] := by kernel_rfl
@[go_sem] theorem is48 : isT L.env 48 = true := by kernel_rfl
@[go_sem] theorem sz48 : L.env.sz 48 = 1 := by kernel_rfl
@[go_sem] theorem ag48 : aggT L.env 48 = some false := by kernel_rfl
@[go_sem] theorem un48 : L.env.und 48 = some (.int .u8) := by kernel_rfl
@[go_sem] theorem in48 : intT L.env 48 = some .u8 := by kernel_rfl
@[go_sem] theorem ze48 : L.env.zero 48 = some [.int .u8 0] := by kernel_rfl
@[go_sem] theorem is49 : isT L.env 49 = true := by kernel_rfl
@[go_sem] theorem sz49 : L.env.sz 49 = 2 := by kernel_rfl
@[go_sem] theorem ag49 : aggT L.env 49 = some true := by kernel_rfl
theorem ui49 : (L.env.und 49).isSome = true := by kernel_rfl
@[go_sem] theorem bl49 : bldT L.env 49 = true := by kernel_rfl
theorem ft49 : fieldsT L.env 49 = some [3, 3] := by kernel_rfl
@[go_sem] theorem fl49_0 : fldT L.env 49 0 = some (0, 3) := by kernel_rfl
@[go_sem] theorem pl49_0 : plcT L.env 49 0 = some (0, 1) := by kernel_rfl
@[go_sem] theorem fl49_1 : fldT L.env 49 1 = some (1, 3) := by kernel_rfl
@[go_sem] theorem pl49_1 : plcT L.env 49 1 = some (1, 1) := by kernel_rfl
@[go_sem] theorem ze49 : L.env.zero 49 = some [.int .i64 0, .int .i64 0] := by kernel_rfl
@[go_sem] theorem is50 : isT L.env 50 = true := by kernel_rfl
@[go_sem] theorem sz50 : L.env.sz 50 = 2 := by kernel_rfl
@[go_sem] theorem ag50 : aggT L.env 50 = some true := by kernel_rfl
theorem ui50 : (L.env.und 50).isSome = true := by kernel_rfl
@[go_sem] theorem bl50 : bldT L.env 50 = true := by kernel_rfl
theorem ft50 : fieldsT L.env 50 = some [3, 3] := by kernel_rfl
@[go_sem] theorem fl50_0 : fldT L.env 50 0 = some (0, 3) := by kernel_rfl
@[go_sem] theorem pl50_0 : plcT L.env 50 0 = some (0, 1) := by kernel_rfl
@[go_sem] theorem fl50_1 : fldT L.env 50 1 = some (1, 3) := by kernel_rfl
@[go_sem] theorem pl50_1 : plcT L.env 50 1 = some (1, 1) := by kernel_rfl
@[go_sem] theorem ze50 : L.env.zero 50 = some [.int .i64 0, .int .i64 0] := by kernel_rfl
@[go_sem] theorem is51 : isT L.env 51 = true := by kernel_rfl
@[go_sem] theorem sz51 : L.env.sz 51 = 1 := by kernel_rfl
@[go_sem] theorem ag51 : aggT L.env 51 = some false := by kernel_rfl
@[go_sem] theorem un51 : L.env.und 51 = some (.int .u8) := by kernel_rfl
@[go_sem] theorem in51 : intT L.env 51 = some .u8 := by kernel_rfl
@[go_sem] theorem ze51 : L.env.zero 51 = some [.int .u8 0] := by kernel_rfl
@[go_sem] theorem is52 : isT L.env 52 = true := by kernel_rfl
@[go_sem] theorem sz52 : L.env.sz 52 = 5 := by kernel_rfl
@[go_sem] theorem ag52 : aggT L.env 52 = some true := by kernel_rfl
theorem ui52 : (L.env.und 52).isSome = true := by kernel_rfl
@[go_sem] theorem bl52 : bldT L.env 52 = true := by kernel_rfl
theorem ft52 : fieldsT L.env 52 = some [48, 50, 51, 3] := by kernel_rfl
@[go_sem] theorem fl52_0 : fldT L.env 52 0 = some (0, 48) := by kernel_rfl
@[go_sem] theorem pl52_0 : plcT L.env 52 0 = some (0, 1) := by kernel_rfl
@[go_sem] theorem fl52_1 : fldT L.env 52 1 = some (1, 50) := by kernel_rfl
@[go_sem] theorem pl52_1 : plcT L.env 52 1 = some (1, 2) := by kernel_rfl
@[go_sem] theorem fl52_2 : fldT L.env 52 2 = some (3, 51) := by kernel_rfl
@[go_sem] theorem pl52_2 : plcT L.env 52 2 = some (3, 1) := by kernel_rfl
@[go_sem] theorem fl52_3 : fldT L.env 52 3 = some (4, 3) := by kernel_rfl
@[go_sem] theorem pl52_3 : plcT L.env 52 3 = some (4, 1) := by kernel_rfl
@[go_sem] theorem ze52 : L.env.zero 52 = some [.int .u8 0, .int .i64 0, .int .i64 0, .int .u8 0, .int .i64 0] := by kernel_rfl
@[go_sem] theorem is53 : isT L.env 53 = true := by kernel_rfl
@[go_sem] theorem sz53 : L.env.sz 53 = 5 := by kernel_rfl
@[go_sem] theorem ag53 : aggT L.env 53 = some true := by kernel_rfl
theorem ui53 : (L.env.und 53).isSome = true := by kernel_rfl
@[go_sem] theorem bl53 : bldT L.env 53 = true := by kernel_rfl
theorem ft53 : fieldsT L.env 53 = some [48, 50, 51, 3] := by kernel_rfl
@[go_sem] theorem fl53_0 : fldT L.env 53 0 = some (0, 48) := by kernel_rfl
@[go_sem] theorem pl53_0 : plcT L.env 53 0 = some (0, 1) := by kernel_rfl
@[go_sem] theorem fl53_1 : fldT L.env 53 1 = some (1, 50) := by kernel_rfl
@[go_sem] theorem pl53_1 : plcT L.env 53 1 = some (1, 2) := by kernel_rfl
@[go_sem] theorem fl53_2 : fldT L.env 53 2 = some (3, 51) := by kernel_rfl
@[go_sem] theorem pl53_2 : plcT L.env 53 2 = some (3, 1) := by kernel_rfl
@[go_sem] theorem fl53_3 : fldT L.env 53 3 = some (4, 3) := by kernel_rfl
@[go_sem] theorem pl53_3 : plcT L.env 53 3 = some (4, 1) := by kernel_rfl
@[go_sem] theorem ze53 : L.env.zero 53 = some [.int .u8 0, .int .i64 0, .int .i64 0, .int .u8 0, .int .i64 0] := by kernel_rfl
@[go_sem] theorem is54 : isT L.env 54 = true := by kernel_rfl
@[go_sem] theorem sz54 : L.env.sz 54 = 1 := by kernel_rfl
@[go_sem] theorem ag54 : aggT L.env 54 = some false := by kernel_rfl
@[go_sem] theorem un54 : L.env.und 54 = some (.int .u8) := by kernel_rfl
@[go_sem] theorem in54 : intT L.env 54 = some .u8 := by kernel_rfl
@[go_sem] theorem ze54 : L.env.zero 54 = some [.int .u8 0] := by kernel_rfl
@[go_sem] theorem is55 : isT L.env 55 = true := by kernel_rfl
@[go_sem] theorem sz55 : L.env.sz 55 = 4 := by kernel_rfl
@[go_sem] theorem ag55 : aggT L.env 55 = some true := by kernel_rfl
theorem ui55 : (L.env.und 55).isSome = true := by kernel_rfl
@[go_sem] theorem bl55 : bldT L.env 55 = true := by kernel_rfl
theorem ft55 : fieldsT L.env 55 = some [54, 31, 3, 3] := by kernel_rfl
@[go_sem] theorem fl55_0 : fldT L.env 55 0 = some (0, 54) := by kernel_rfl
@[go_sem] theorem pl55_0 : plcT L.env 55 0 = some (0, 1) := by kernel_rfl
@[go_sem] theorem fl55_1 : fldT L.env 55 1 = some (1, 31) := by kernel_rfl
@[go_sem] theorem pl55_1 : plcT L.env 55 1 = some (1, 1) := by kernel_rfl
@[go_sem] theorem fl55_2 : fldT L.env 55 2 = some (2, 3) := by kernel_rfl
@[go_sem] theorem pl55_2 : plcT L.env 55 2 = some (2, 1) := by kernel_rfl
@[go_sem] theorem fl55_3 : fldT L.env 55 3 = some (3, 3) := by kernel_rfl
@[go_sem] theorem pl55_3 : plcT L.env 55 3 = some (3, 1) := by kernel_rfl
@[go_sem] theorem ze55 : L.env.zero 55 = some [.int .u8 0, .nilslice, .int .i64 0, .int .i64 0] := by kernel_rfl
@[go_sem] theorem is56 : isT L.env 56 = true := by kernel_rfl
@[go_sem] theorem sz56 : L.env.sz 56 = 4 := by kernel_rfl
@[go_sem] theorem ag56 : aggT L.env 56 = some true := by kernel_rfl
theorem ui56 : (L.env.und 56).isSome = true := by kernel_rfl
@[go_sem] theorem bl56 : bldT L.env 56 = true := by kernel_rfl
theorem ft56 : fieldsT L.env 56 = some [54, 31, 3, 3] := by kernel_rfl
@[go_sem] theorem fl56_0 : fldT L.env 56 0 = some (0, 54) := by kernel_rfl
@[go_sem] theorem pl56_0 : plcT L.env 56 0 = some (0, 1) := by kernel_rfl
@[go_sem] theorem fl56_1 : fldT L.env 56 1 = some (1, 31) := by kernel_rfl
@[go_sem] theorem pl56_1 : plcT L.env 56 1 = some (1, 1) := by kernel_rfl
@[go_sem] theorem fl56_2 : fldT L.env 56 2 = some (2, 3) := by kernel_rfl
@[go_sem] theorem pl56_2 : plcT L.env 56 2 = some (2, 1) := by kernel_rfl
@[go_sem] theorem fl56_3 : fldT L.env 56 3 = some (3, 3) := by kernel_rfl
@[go_sem] theorem pl56_3 : plcT L.env 56 3 = some (3, 1) := by kernel_rfl
@[go_sem] theorem ze56 : L.env.zero 56 = some [.int .u8 0, .nilslice, .int .i64 0, .int .i64 0] := by kernel_rfl
@[go_sem] theorem is57 : isT L.env 57 = true := by kernel_rfl
@[go_sem] theorem sz57 : L.env.sz 57 = 1 := by kernel_rfl
@[go_sem] theorem ag57 : aggT L.env 57 = some false := by kernel_rfl
@[go_sem] theorem ze57 : L.env.zero 57 = some [.nilfunc] := by kernel_rfl
@[go_sem] theorem is58 : isT L.env 58 = true := by kernel_rfl
@[go_sem] theorem sz58 : L.env.sz 58 = 1 := by kernel_rfl
@[go_sem] theorem ag58 : aggT L.env 58 = some false := by kernel_rfl
@[go_sem] theorem ze58 : L.env.zero 58 = some [.nilfunc] := by kernel_rfl
@[go_sem] theorem is59 : isT L.env 59 = true := by kernel_rfl
@[go_sem] theorem sz59 : L.env.sz 59 = 1 := by kernel_rfl
@[go_sem] theorem ag59 : aggT L.env 59 = some false := by kernel_rfl
@[go_sem] theorem ze59 : L.env.zero 59 = some [.nilfunc] := by kernel_rfl
@[go_sem] theorem is60 : isT L.env 60 = true := by kernel_rfl
@[go_sem] theorem sz60 : L.env.sz 60 = 9 := by kernel_rfl
@[go_sem] theorem ag60 : aggT L.env 60 = some true := by kernel_rfl
theorem ui60 : (L.env.und 60).isSome = true := by kernel_rfl
@[go_sem] theorem bl60 : bldT L.env 60 = true := by kernel_rfl
theorem ft60 : fieldsT L.env 60 = some [33, 31, 31, 31, 58, 59] := by kernel_rfl
@[go_sem] theorem fl60_0 : fldT L.env 60 0 = some (0, 33) := by kernel_rfl
@[go_sem] theorem pl60_0 : plcT L.env 60 0 = some (0, 4) := by kernel_rfl
@[go_sem] theorem fl60_1 : fldT L.env 60 1 = some (4, 31) := by kernel_rfl
@[go_sem] theorem pl60_1 : plcT L.env 60 1 = some (4, 1) := by kernel_rfl
@[go_sem] theorem fl60_2 : fldT L.env 60 2 = some (5, 31) := by kernel_rfl
@[go_sem] theorem pl60_2 : plcT L.env 60 2 = some (5, 1) := by kernel_rfl
@[go_sem] theorem fl60_3 : fldT L.env 60 3 = some (6, 31) := by kernel_rfl
@[go_sem] theorem pl60_3 : plcT L.env 60 3 = some (6, 1) := by kernel_rfl
@[go_sem] theorem fl60_4 : fldT L.env 60 4 = some (7, 58) := by kernel_rfl
@[go_sem] theorem pl60_4 : plcT L.env 60 4 = some (7, 1) := by kernel_rfl
@[go_sem] theorem fl60_5 : fldT L.env 60 5 = some (8, 59) := by kernel_rfl
@[go_sem] theorem pl60_5 : plcT L.env 60 5 = some (8, 1) := by kernel_rfl
@[go_sem] theorem ze60 : L.env.zero 60 = some [.nilslice, .nilslice, .nilslice, .nilslice, .nilslice, .nilslice, .nilslice, .nilfunc, .nilfunc] := by kernel_rfl
@[go_sem] theorem is61 : isT L.env 61 = true := by kernel_rfl
@[go_sem] theorem sz61 : L.env.sz 61 = 9 := by kernel_rfl
@[go_sem] theorem ag61 : aggT L.env 61 = some true := by kernel_rfl
theorem ui61 : (L.env.und 61).isSome = true := by kernel_rfl
@[go_sem] theorem bl61 : bldT L.env 61 = true := by kernel_rfl
theorem ft61 : fieldsT L.env 61 = some [33, 31, 31, 31, 58, 59] := by kernel_rfl
@[go_sem] theorem fl61_0 : fldT L.env 61 0 = some (0, 33) := by kernel_rfl
@[go_sem] theorem pl61_0 : plcT L.env 61 0 = some (0, 4) := by kernel_rfl
@[go_sem] theorem fl61_1 : fldT L.env 61 1 = some (4, 31) := by kernel_rfl
@[go_sem] theorem pl61_1 : plcT L.env 61 1 = some (4, 1) := by kernel_rfl
@[go_sem] theorem fl61_2 : fldT L.env 61 2 = some (5, 31) := by kernel_rfl
@[go_sem] theorem pl61_2 : plcT L.env 61 2 = some (5, 1) := by kernel_rfl
@[go_sem] theorem fl61_3 : fldT L.env 61 3 = some (6, 31) := by kernel_rfl
@[go_sem] theorem pl61_3 : plcT L.env 61 3 = some (6, 1) := by kernel_rfl
@[go_sem] theorem fl61_4 : fldT L.env 61 4 = some (7, 58) := by kernel_rfl
@[go_sem] theorem pl61_4 : plcT L.env 61 4 = some (7, 1) := by kernel_rfl
@[go_sem] theorem fl61_5 : fldT L.env 61 5 = some (8, 59) := by kernel_rfl
@[go_sem] theorem pl61_5 : plcT L.env 61 5 = some (8, 1) := by kernel_rfl
@[go_sem] theorem ze61 : L.env.zero 61 = some [.nilslice, .nilslice, .nilslice, .nilslice, .nilslice, .nilslice, .nilslice, .nilfunc, .nilfunc] := by kernel_rfl
@[go_sem] theorem is62 : isT L.env 62 = true := by kernel_rfl
@[go_sem] theorem sz62 : L.env.sz 62 = 1 := by kernel_rfl
@[go_sem] theorem ag62 : aggT L.env 62 = some false := by kernel_rfl
@[go_sem] theorem ze62 : L.env.zero 62 = some [.nilfunc] := by kernel_rfl
@[go_sem] theorem is63 : isT L.env 63 = true := by kernel_rfl
@[go_sem] theorem sz63 : L.env.sz 63 = 1 := by kernel_rfl
@[go_sem] theorem ag63 : aggT L.env 63 = some false := by kernel_rfl
@[go_sem] theorem ze63 : L.env.zero 63 = some [.nilfunc] := by kernel_rfl
@[go_sem] theorem is64 : isT L.env 64 = true := by kernel_rfl
@[go_sem] theorem sz64 : L.env.sz 64 = 1 := by kernel_rfl
@[go_sem] theorem ag64 : aggT L.env 64 = some false := by kernel_rfl
@[go_sem] theorem ze64 : L.env.zero 64 = some [.nilfunc] := by kernel_rfl
@[go_sem] theorem is65 : isT L.env 65 = true := by kernel_rfl
@[go_sem] theorem sz65 : L.env.sz 65 = 1 := by kernel_rfl
@[go_sem] theorem ag65 : aggT L.env 65 = some false := by kernel_rfl
@[go_sem] theorem un65 : L.env.und 65 = some (.slice 81) := by kernel_rfl
@[go_sem] theorem st65 : slT L.env 65 = some 81 := by kernel_rfl
@[go_sem] theorem by65 : L.env.bytes 65 = 24 := by kernel_rfl
@[go_sem] theorem ze65 : L.env.zero 65 = some [.nilslice] := by kernel_rfl
@[go_sem] theorem is66 : isT L.env 66 = true := by kernel_rfl
@[go_sem] theorem sz66 : L.env.sz 66 = 1 := by kernel_rfl
@[go_sem] theorem ag66 : aggT L.env 66 = some false := by kernel_rfl
@[go_sem] theorem ze66 : L.env.zero 66 = some [.nilfunc] := by kernel_rfl
@[go_sem] theorem is67 : isT L.env 67 = true := by kernel_rfl
@[go_sem] theorem sz67 : L.env.sz 67 = 1 := by kernel_rfl
@[go_sem] theorem ag67 : aggT L.env 67 = some false := by kernel_rfl
@[go_sem] theorem is68 : isT L.env 68 = true := by kernel_rfl
@[go_sem] theorem sz68 : L.env.sz 68 = 1 := by kernel_rfl
@[go_sem] theorem ag68 : aggT L.env 68 = some false := by kernel_rfl
@[go_sem] theorem ze68 : L.env.zero 68 = some [.nilfunc] := by kernel_rfl
@[go_sem] theorem is69 : isT L.env 69 = true := by kernel_rfl
@[go_sem] theorem sz69 : L.env.sz 69 = 1 := by kernel_rfl
@[go_sem] theorem ag69 : aggT L.env 69 = some false := by kernel_rfl
@[go_sem] theorem ze69 : L.env.zero 69 = some [.nilfunc] := by kernel_rfl
@[go_sem] theorem is70 : isT L.env 70 = true := by kernel_rfl
@[go_sem] theorem sz70 : L.env.sz 70 = 1 := by kernel_rfl
@[go_sem] theorem ag70 : aggT L.env 70 = some false := by kernel_rfl
@[go_sem] theorem ze70 : L.env.zero 70 = some [.nilfunc] := by kernel_rfl
@[go_sem] theorem is71 : isT L.env 71 = true := by kernel_rfl
@[go_sem] theorem sz71 : L.env.sz 71 = 1 := by kernel_rfl
@[go_sem] theorem ag71 : aggT L.env 71 = some false := by kernel_rfl
@[go_sem] theorem ze71 : L.env.zero 71 = some [.nilfunc] := by kernel_rfl
@[go_sem] theorem is72 : isT L.env 72 = true := by kernel_rfl
@[go_sem] theorem sz72 : L.env.sz 72 = 1 := by kernel_rfl
@[go_sem] theorem ag72 : aggT L.env 72 = some false := by kernel_rfl
@[go_sem] theorem un72 : L.env.und 72 = some (.slice 50) := by kernel_rfl
@[go_sem] theorem st72 : slT L.env 72 = some 50 := by kernel_rfl
@[go_sem] theorem by72 : L.env.bytes 72 = 24 := by kernel_rfl
@[go_sem] theorem ze72 : L.env.zero 72 = some [.nilslice] := by kernel_rfl
@[go_sem] theorem is73 : isT L.env 73 = true := by kernel_rfl
@[go_sem] theorem sz73 : L.env.sz 73 = 1 := by kernel_rfl
@[go_sem] theorem ag73 : aggT L.env 73 = some false := by kernel_rfl
@[go_sem] theorem is74 : isT L.env 74 = true := by kernel_rfl
@[go_sem] theorem sz74 : L.env.sz 74 = 1 := by kernel_rfl
@[go_sem] theorem ag74 : aggT L.env 74 = some false := by kernel_rfl
@[go_sem] theorem ze74 : L.env.zero 74 = some [.nilfunc] := by kernel_rfl
@[go_sem] theorem is75 : isT L.env 75 = true := by kernel_rfl
@[go_sem] theorem sz75 : L.env.sz 75 = 1 := by kernel_rfl
@[go_sem] theorem ag75 : aggT L.env 75 = some false := by kernel_rfl
@[go_sem] theorem ze75 : L.env.zero 75 = some [.nilfunc] := by kernel_rfl
@[go_sem] theorem is76 : isT L.env 76 = true := by kernel_rfl
@[go_sem] theorem sz76 : L.env.sz 76 = 1 := by kernel_rfl
@[go_sem] theorem ag76 : aggT L.env 76 = some false := by kernel_rfl
@[go_sem] theorem ze76 : L.env.zero 76 = some [.nilfunc] := by kernel_rfl
@[go_sem] theorem is77 : isT L.env 77 = true := by kernel_rfl
@[go_sem] theorem sz77 : L.env.sz 77 = 1 := by kernel_rfl
@[go_sem] theorem ag77 : aggT L.env 77 = some false := by kernel_rfl
@[go_sem] theorem is78 : isT L.env 78 = true := by kernel_rfl
@[go_sem] theorem sz78 : L.env.sz 78 = 1 := by kernel_rfl
@[go_sem] theorem ag78 : aggT L.env 78 = some false := by kernel_rfl
@[go_sem] theorem ze78 : L.env.zero 78 = some [.nilfunc] := by kernel_rfl
@[go_sem] theorem is79 : isT L.env 79 = true := by kernel_rfl
@[go_sem] theorem sz79 : L.env.sz 79 = 1 := by kernel_rfl
@[go_sem] theorem ag79 : aggT L.env 79 = some false := by kernel_rfl
@[go_sem] theorem ze79 : L.env.zero 79 = some [.nilfunc] := by kernel_rfl
@[go_sem] theorem is80 : isT L.env 80 = true := by kernel_rfl
@[go_sem] theorem sz80 : L.env.sz 80 = 2 := by kernel_rfl
@[go_sem] theorem ag80 : aggT L.env 80 = some true := by kernel_rfl
theorem ui80 : (L.env.und 80).isSome = true := by kernel_rfl
@[go_sem] theorem bl80 : bldT L.env 80 = true := by kernel_rfl
theorem ft80 : fieldsT L.env 80 = some [25, 25] := by kernel_rfl
@[go_sem] theorem fl80_0 : fldT L.env 80 0 = some (0, 25) := by kernel_rfl
@[go_sem] theorem pl80_0 : plcT L.env 80 0 = some (0, 1) := by kernel_rfl
@[go_sem] theorem fl80_1 : fldT L.env 80 1 = some (1, 25) := by kernel_rfl
@[go_sem] theorem pl80_1 : plcT L.env 80 1 = some (1, 1) := by kernel_rfl
@[go_sem] theorem ze80 : L.env.zero 80 = some [.int .u64 0, .int .u64 0] := by kernel_rfl
@[go_sem] theorem is81 : isT L.env 81 = true := by kernel_rfl
@[go_sem] theorem sz81 : L.env.sz 81 = 2 := by kernel_rfl
@[go_sem] theorem ag81 : aggT L.env 81 = some true := by kernel_rfl
theorem ui81 : (L.env.und 81).isSome = true := by kernel_rfl
@[go_sem] theorem bl81 : bldT L.env 81 = true := by kernel_rfl
theorem ft81 : fieldsT L.env 81 = some [25, 25] := by kernel_rfl
@[go_sem] theorem fl81_0 : fldT L.env 81 0 = some (0, 25) := by kernel_rfl
@[go_sem] theorem pl81_0 : plcT L.env 81 0 = some (0, 1) := by kernel_rfl
@[go_sem] theorem fl81_1 : fldT L.env 81 1 = some (1, 25) := by kernel_rfl
@[go_sem] theorem pl81_1 : plcT L.env 81 1 = some (1, 1) := by kernel_rfl
@[go_sem] theorem ze81 : L.env.zero 81 = some [.int .u64 0, .int .u64 0] := by kernel_rfl
@[go_sem] theorem is82 : isT L.env 82 = true := by kernel_rfl
@[go_sem] theorem sz82 : L.env.sz 82 = 1 := by kernel_rfl
@[go_sem] theorem ag82 : aggT L.env 82 = some false := by kernel_rfl
@[go_sem] theorem ze82 : L.env.zero 82 = some [.nilfunc] := by kernel_rfl
@[go_sem] theorem is83 : isT L.env 83 = true := by kernel_rfl
@[go_sem] theorem sz83 : L.env.sz 83 = 1 := by kernel_rfl
@[go_sem] theorem ag83 : aggT L.env 83 = some false := by kernel_rfl
@[go_sem] theorem ze83 : L.env.zero 83 = some [.nilfunc] := by kernel_rfl
@[go_sem] theorem is84 : isT L.env 84 = true := by kernel_rfl
@[go_sem] theorem sz84 : L.env.sz 84 = 1 := by kernel_rfl
@[go_sem] theorem ag84 : aggT L.env 84 = some false := by kernel_rfl
@[go_sem] theorem ze84 : L.env.zero 84 = some [.nilfunc] := by kernel_rfl
@[go_sem] theorem is85 : isT L.env 85 = true := by kernel_rfl
@[go_sem] theorem sz85 : L.env.sz 85 = 1 := by kernel_rfl
@[go_sem] theorem ag85 : aggT L.env 85 = some false := by kernel_rfl
@[go_sem] theorem ze85 : L.env.zero 85 = some [.nilfunc] := by kernel_rfl
@[go_sem] theorem is86 : isT L.env 86 = true := by kernel_rfl
@[go_sem] theorem sz86 : L.env.sz 86 = 1 := by kernel_rfl
@[go_sem] theorem ag86 : aggT L.env 86 = some false := by kernel_rfl
@[go_sem] theorem ze86 : L.env.zero 86 = some [.nilfunc] := by kernel_rfl
@[go_sem] theorem is87 : isT L.env 87 = true := by kernel_rfl
@[go_sem] theorem sz87 : L.env.sz 87 = 1 := by kernel_rfl
@[go_sem] theorem ag87 : aggT L.env 87 = some false := by kernel_rfl
@[go_sem] theorem ze87 : L.env.zero 87 = some [.nilfunc] := by kernel_rfl
@[go_sem] theorem is88 : isT L.env 88 = true := by kernel_rfl
@[go_sem] theorem sz88 : L.env.sz 88 = 1 := by kernel_rfl
@[go_sem] theorem ag88 : aggT L.env 88 = some false := by kernel_rfl
@[go_sem] theorem un88 : L.env.und 88 = some (.map 3 31) := by kernel_rfl
@[go_sem] theorem by88 : L.env.bytes 88 = 8 := by kernel_rfl
@[go_sem] theorem ze88 : L.env.zero 88 = some [.nilmap] := by kernel_rfl
@[go_sem] theorem is89 : isT L.env 89 = true := by kernel_rfl
@[go_sem] theorem sz89 : L.env.sz 89 = 1 := by kernel_rfl
@[go_sem] theorem ag89 : aggT L.env 89 = some false := by kernel_rfl
@[go_sem] theorem un89 : L.env.und 89 = some (.map 50 31) := by kernel_rfl
@[go_sem] theorem by89 : L.env.bytes 89 = 8 := by kernel_rfl
@[go_sem] theorem ze89 : L.env.zero 89 = some [.nilmap] := by kernel_rfl
@[go_sem] theorem is90 : isT L.env 90 = true := by kernel_rfl
@[go_sem] theorem sz90 : L.env.sz 90 = 1 := by kernel_rfl
@[go_sem] theorem ag90 : aggT L.env 90 = some false := by kernel_rfl
@[go_sem] theorem ze90 : L.env.zero 90 = some [.nilfunc] := by kernel_rfl
@[go_sem] theorem is91 : isT L.env 91 = true := by kernel_rfl
@[go_sem] theorem sz91 : L.env.sz 91 = 1 := by kernel_rfl
@[go_sem] theorem ag91 : aggT L.env 91 = some false := by kernel_rfl
@[go_sem] theorem ze91 : L.env.zero 91 = some [.nilfunc] := by kernel_rfl
@[go_sem] theorem is92 : isT L.env 92 = true := by kernel_rfl
@[go_sem] theorem sz92 : L.env.sz 92 = 1 := by kernel_rfl
@[go_sem] theorem ag92 : aggT L.env 92 = some false := by kernel_rfl
@[go_sem] theorem ze92 : L.env.zero 92 = some [.nilfunc] := by kernel_rfl
@[go_sem] theorem is93 : isT L.env 93 = true := by kernel_rfl
@[go_sem] theorem sz93 : L.env.sz 93 = 1 := by kernel_rfl
@[go_sem] theorem ag93 : aggT L.env 93 = some false := by kernel_rfl
@[go_sem] theorem ze93 : L.env.zero 93 = some [.nilfunc] := by kernel_rfl
@[go_sem] theorem is94 : isT L.env 94 = true := by kernel_rfl
@[go_sem] theorem sz94 : L.env.sz 94 = 1 := by kernel_rfl
@[go_sem] theorem ag94 : aggT L.env 94 = some false := by kernel_rfl
@[go_sem] theorem ze94 : L.env.zero 94 = some [.nilfunc] := by kernel_rfl
@[go_sem] theorem is95 : isT L.env 95 = true := by kernel_rfl
@[go_sem] theorem sz95 : L.env.sz 95 = 1 := by kernel_rfl
@[go_sem] theorem ag95 : aggT L.env 95 = some false := by kernel_rfl
@[go_sem] theorem ze95 : L.env.zero 95 = some [.nilfunc] := by kernel_rfl
@[go_sem] theorem is96 : isT L.env 96 = true := by kernel_rfl
@[go_sem] theorem sz96 : L.env.sz 96 = 1 := by kernel_rfl
@[go_sem] theorem ag96 : aggT L.env 96 = some false := by kernel_rfl
@[go_sem] theorem ze96 : L.env.zero 96 = some [.nilfunc] := by kernel_rfl
@[go_sem] theorem is97 : isT L.env 97 = true := by kernel_rfl
@[go_sem] theorem sz97 : L.env.sz 97 = 1 := by kernel_rfl
@[go_sem] theorem ag97 : aggT L.env 97 = some false := by kernel_rfl
@[go_sem] theorem ze97 : L.env.zero 97 = some [.nilfunc] := by kernel_rfl
@[go_sem] theorem is98 : isT L.env 98 = true := by kernel_rfl
@[go_sem] theorem sz98 : L.env.sz 98 = 1 := by kernel_rfl
@[go_sem] theorem ag98 : aggT L.env 98 = some false := by kernel_rfl
@[go_sem] theorem ze98 : L.env.zero 98 = some [.nilfunc] := by kernel_rfl
@[go_sem] theorem is99 : isT L.env 99 = true := by kernel_rfl
@[go_sem] theorem sz99 : L.env.sz 99 = 1 := by kernel_rfl
@[go_sem] theorem ag99 : aggT L.env 99 = some false := by kernel_rfl
@[go_sem] theorem ze99 : L.env.zero 99 = some [.nilfunc] := by kernel_rfl
@[go_sem] theorem is100 : isT L.env 100 = true := by kernel_rfl
@[go_sem] theorem sz100 : L.env.sz 100 = 8 := by kernel_rfl
@[go_sem] theorem ag100 : aggT L.env 100 = some true := by kernel_rfl
@[go_sem] theorem un100 : L.env.und 100 = some (.array 4 81) := by kernel_rfl
theorem ar100 : arrT L.env 100 = some (4, 81) := by kernel_rfl
@[go_sem] theorem bl100 : bldT L.env 100 = true := by kernel_rfl
@[go_sem] theorem ze100 : L.env.zero 100 = some [.int .u64 0, .int .u64 0, .int .u64 0, .int .u64 0, .int .u64 0, .int .u64 0, .int .u64 0, .int .u64 0] := by kernel_rfl
@[go_sem] theorem is101 : isT L.env 101 = true := by kernel_rfl
@[go_sem] theorem sz101 : L.env.sz 101 = 1 := by kernel_rfl
@[go_sem] theorem ag101 : aggT L.env 101 = some false := by kernel_rfl
@[go_sem] theorem ze101 : L.env.zero 101 = some [.nilfunc] := by kernel_rfl
@[go_sem] theorem is102 : isT L.env 102 = true := by kernel_rfl
@[go_sem] theorem sz102 : L.env.sz 102 = 1 := by kernel_rfl
@[go_sem] theorem ag102 : aggT L.env 102 = some false := by kernel_rfl
@[go_sem] theorem is103 : isT L.env 103 = true := by kernel_rfl
@[go_sem] theorem sz103 : L.env.sz 103 = 1 := by kernel_rfl
@[go_sem] theorem ag103 : aggT L.env 103 = some false := by kernel_rfl
@[go_sem] theorem ze103 : L.env.zero 103 = some [.nilfunc] := by kernel_rfl
@[go_sem] theorem is104 : isT L.env 104 = true := by kernel_rfl
@[go_sem] theorem sz104 : L.env.sz 104 = 1 := by kernel_rfl
@[go_sem] theorem ag104 : aggT L.env 104 = some false := by kernel_rfl
@[go_sem] theorem ze104 : L.env.zero 104 = some [.nilfunc] := by kernel_rfl
@[go_sem] theorem is105 : isT L.env 105 = true := by kernel_rfl
@[go_sem] theorem sz105 : L.env.sz 105 = 1 := by kernel_rfl
@[go_sem] theorem ag105 : aggT L.env 105 = some false := by kernel_rfl
@[go_sem] theorem ze105 : L.env.zero 105 = some [.nilfunc] := by kernel_rfl
@[go_sem] theorem is106 : isT L.env 106 = true := by kernel_rfl
@[go_sem] theorem sz106 : L.env.sz 106 = 1 := by kernel_rfl
@[go_sem] theorem ag106 : aggT L.env 106 = some false := by kernel_rfl
@[go_sem] theorem ze106 : L.env.zero 106 = some [.nilfunc] := by kernel_rfl
@[go_sem] theorem is107 : isT L.env 107 = true := by kernel_rfl
@[go_sem] theorem sz107 : L.env.sz 107 = 1 := by kernel_rfl
@[go_sem] theorem ag107 : aggT L.env 107 = some false := by kernel_rfl
@[go_sem] theorem ze107 : L.env.zero 107 = some [.nilfunc] := by kernel_rfl
@[go_sem] theorem is108 : isT L.env 108 = true := by kernel_rfl
@[go_sem] theorem sz108 : L.env.sz 108 = 1 := by kernel_rfl
@[go_sem] theorem ag108 : aggT L.env 108 = some false := by kernel_rfl
@[go_sem] theorem ze108 : L.env.zero 108 = some [.nilfunc] := by kernel_rfl
@[go_sem] theorem is109 : isT L.env 109 = true := by kernel_rfl
@[go_sem] theorem sz109 : L.env.sz 109 = 1 := by kernel_rfl
@[go_sem] theorem ag109 : aggT L.env 109 = some false := by kernel_rfl
@[go_sem] theorem ze109 : L.env.zero 109 = some [.nilfunc] := by kernel_rfl
@[go_sem] theorem is110 : isT L.env 110 = true := by kernel_rfl
@[go_sem] theorem sz110 : L.env.sz 110 = 1 := by kernel_rfl
@[go_sem] theorem ag110 : aggT L.env 110 = some false := by kernel_rfl
@[go_sem] theorem ze110 : L.env.zero 110 = some [.nilfunc] := by kernel_rfl
@[go_sem] theorem is111 : isT L.env 111 = true := by kernel_rfl
@[go_sem] theorem sz111 : L.env.sz 111 = 1 := by kernel_rfl
@[go_sem] theorem ag111 : aggT L.env 111 = some false := by kernel_rfl
@[go_sem] theorem ze111 : L.env.zero 111 = some [.nilfunc] := by kernel_rfl
@[go_sem] theorem is112 : isT L.env 112 = true := by kernel_rfl
@[go_sem] theorem sz112 : L.env.sz 112 = 1 := by kernel_rfl
@[go_sem] theorem ag112 : aggT L.env 112 = some false := by kernel_rfl
@[go_sem] theorem un112 : L.env.und 112 = some (.slice 72) := by kernel_rfl
@[go_sem] theorem st112 : slT L.env 112 = some 72 := by kernel_rfl
@[go_sem] theorem by112 : L.env.bytes 112 = 24 := by kernel_rfl
@[go_sem] theorem ze112 : L.env.zero 112 = some [.nilslice] := by kernel_rfl
@[go_sem] theorem is113 : isT L.env 113 = true := by kernel_rfl
@[go_sem] theorem sz113 : L.env.sz 113 = 1 := by kernel_rfl
@[go_sem] theorem ag113 : aggT L.env 113 = some false := by kernel_rfl
@[go_sem] theorem ze113 : L.env.zero 113 = some [.nilfunc] := by kernel_rfl
@[go_sem] theorem is114 : isT L.env 114 = true := by kernel_rfl
@[go_sem] theorem sz114 : L.env.sz 114 = 1 := by kernel_rfl
@[go_sem] theorem ag114 : aggT L.env 114 = some false := by kernel_rfl
@[go_sem] theorem ze114 : L.env.zero 114 = some [.nilfunc] := by kernel_rfl
@[go_sem] theorem is115 : isT L.env 115 = true := by kernel_rfl
@[go_sem] theorem sz115 : L.env.sz 115 = 1 := by kernel_rfl
@[go_sem] theorem ag115 : aggT L.env 115 = some false := by kernel_rfl
@[go_sem] theorem ze115 : L.env.zero 115 = some [.nilfunc] := by kernel_rfl
@[go_sem] theorem is116 : isT L.env 116 = true := by kernel_rfl
@[go_sem] theorem sz116 : L.env.sz 116 = 1 := by kernel_rfl
@[go_sem] theorem ag116 : aggT L.env 116 = some false := by kernel_rfl
@[go_sem] theorem un116 : L.env.und 116 = some (.slice 54) := by kernel_rfl
@[go_sem] theorem st116 : slT L.env 116 = some 54 := by kernel_rfl
@[go_sem] theorem by116 : L.env.bytes 116 = 24 := by kernel_rfl
@[go_sem] theorem ze116 : L.env.zero 116 = some [.nilslice] := by kernel_rfl
@[go_sem] theorem is117 : isT L.env 117 = true := by kernel_rfl
@[go_sem] theorem sz117 : L.env.sz 117 = 1 := by kernel_rfl
@[go_sem] theorem ag117 : aggT L.env 117 = some false := by kernel_rfl
@[go_sem] theorem ze117 : L.env.zero 117 = some [.nilfunc] := by kernel_rfl
@[go_sem] theorem is118 : isT L.env 118 = true := by kernel_rfl
@[go_sem] theorem sz118 : L.env.sz 118 = 1 := by kernel_rfl
@[go_sem] theorem ag118 : aggT L.env 118 = some false := by kernel_rfl
@[go_sem] theorem ze118 : L.env.zero 118 = some [.nilfunc] := by kernel_rfl
@[go_sem] theorem is119 : isT L.env 119 = true := by kernel_rfl
@[go_sem] theorem sz119 : L.env.sz 119 = 2 := by kernel_rfl
@[go_sem] theorem ag119 : aggT L.env 119 = some true := by kernel_rfl
@[go_sem] theorem un119 : L.env.und 119 = some (.array 2 3) := by kernel_rfl
theorem ar119 : arrT L.env 119 = some (2, 3) := by kernel_rfl
@[go_sem] theorem bl119 : bldT L.env 119 = true := by kernel_rfl
@[go_sem] theorem ze119 : L.env.zero 119 = some [.int .i64 0, .int .i64 0] := by kernel_rfl
@[go_sem] theorem is120 : isT L.env 120 = true := by kernel_rfl
@[go_sem] theorem sz120 : L.env.sz 120 = 32 := by kernel_rfl
@[go_sem] theorem ag120 : aggT L.env 120 = some true := by kernel_rfl
@[go_sem] theorem un120 : L.env.und 120 = some (.array 16 119) := by kernel_rfl
theorem ar120 : arrT L.env 120 = some (16, 119) := by kernel_rfl
@[go_sem] theorem bl120 : bldT L.env 120 = true := by kernel_rfl
@[go_sem] theorem ze120 : L.env.zero 120 = some [.int .i64 0, .int .i64 0, .int .i64 0, .int .i64 0, .int .i64 0, .int .i64 0, .int .i64 0, .int .i64 0, .int .i64 0, .int .i64 0, .int .i64 0, .int .i64 0, .int .i64 0, .int .i64 0, .int .i64 0, .int .i64 0, .int .i64 0, .int .i64 0, .int .i64 0, .int .i64 0, .int .i64 0, .int .i64 0, .int .i64 0, .int .i64 0, .int .i64 0, .int .i64 0, .int .i64 0, .int .i64 0, .int .i64 0, .int .i64 0, .int .i64 0, .int .i64 0] := by kernel_rfl
@[go_sem] theorem is121 : isT L.env 121 = true := by kernel_rfl
@[go_sem] theorem sz121 : L.env.sz 121 = 1 := by kernel_rfl
@[go_sem] theorem ag121 : aggT L.env 121 = some false := by kernel_rfl
@[go_sem] theorem ze121 : L.env.zero 121 = some [.nilfunc] := by kernel_rfl
@[go_sem] theorem is122 : isT L.env 122 = true := by kernel_rfl
@[go_sem] theorem sz122 : L.env.sz 122 = 1 := by kernel_rfl
@[go_sem] theorem ag122 : aggT L.env 122 = some false := by kernel_rfl
@[go_sem] theorem ze122 : L.env.zero 122 = some [.nilfunc] := by kernel_rfl
@[go_sem] theorem is123 : isT L.env 123 = true := by kernel_rfl
@[go_sem] theorem sz123 : L.env.sz 123 = 3 := by kernel_rfl
@[go_sem] theorem ag123 : aggT L.env 123 = some true := by kernel_rfl
theorem ui123 : (L.env.und 123).isSome = true := by kernel_rfl
@[go_sem] theorem bl123 : bldT L.env 123 = true := by kernel_rfl
theorem ft123 : fieldsT L.env 123 = some [31, 31, 3] := by kernel_rfl
@[go_sem] theorem fl123_0 : fldT L.env 123 0 = some (0, 31) := by kernel_rfl
@[go_sem] theorem pl123_0 : plcT L.env 123 0 = some (0, 1) := by kernel_rfl
@[go_sem] theorem fl123_1 : fldT L.env 123 1 = some (1, 31) := by kernel_rfl
@[go_sem] theorem pl123_1 : plcT L.env 123 1 = some (1, 1) := by kernel_rfl
@[go_sem] theorem fl123_2 : fldT L.env 123 2 = some (2, 3) := by kernel_rfl
@[go_sem] theorem pl123_2 : plcT L.env 123 2 = some (2, 1) := by kernel_rfl
@[go_sem] theorem ze123 : L.env.zero 123 = some [.nilslice, .nilslice, .int .i64 0] := by kernel_rfl
@[go_sem] theorem is124 : isT L.env 124 = true := by kernel_rfl
@[go_sem] theorem sz124 : L.env.sz 124 = 3 := by kernel_rfl
@[go_sem] theorem ag124 : aggT L.env 124 = some true := by kernel_rfl
theorem ui124 : (L.env.und 124).isSome = true := by kernel_rfl
@[go_sem] theorem bl124 : bldT L.env 124 = true := by kernel_rfl
theorem ft124 : fieldsT L.env 124 = some [31, 31, 3] := by kernel_rfl
@[go_sem] theorem fl124_0 : fldT L.env 124 0 = some (0, 31) := by kernel_rfl
@[go_sem] theorem pl124_0 : plcT L.env 124 0 = some (0, 1) := by kernel_rfl
@[go_sem] theorem fl124_1 : fldT L.env 124 1 = some (1, 31) := by kernel_rfl
@[go_sem] theorem pl124_1 : plcT L.env 124 1 = some (1, 1) := by kernel_rfl
@[go_sem] theorem fl124_2 : fldT L.env 124 2 = some (2, 3) := by kernel_rfl
@[go_sem] theorem pl124_2 : plcT L.env 124 2 = some (2, 1) := by kernel_rfl
@[go_sem] theorem ze124 : L.env.zero 124 = some [.nilslice, .nilslice, .int .i64 0] := by kernel_rfl
@[go_sem] theorem is125 : isT L.env 125 = true := by kernel_rfl
@[go_sem] theorem sz125 : L.env.sz 125 = 1 := by kernel_rfl
@[go_sem] theorem ag125 : aggT L.env 125 = some false := by kernel_rfl
@[go_sem] theorem ze125 : L.env.zero 125 = some [.nilfunc] := by kernel_rfl
@[go_sem] theorem is126 : isT L.env 126 = true := by kernel_rfl
@[go_sem] theorem sz126 : L.env.sz 126 = 1 := by kernel_rfl
@[go_sem] theorem ag126 : aggT L.env 126 = some false := by kernel_rfl
@[go_sem] theorem ze126 : L.env.zero 126 = some [.nilfunc] := by kernel_rfl
@[go_sem] theorem is127 : isT L.env 127 = true := by kernel_rfl
@[go_sem] theorem sz127 : L.env.sz 127 = 1 := by kernel_rfl
@[go_sem] theorem ag127 : aggT L.env 127 = some false := by kernel_rfl
@[go_sem] theorem ze127 : L.env.zero 127 = some [.nilfunc] := by kernel_rfl
@[go_sem] theorem is128 : isT L.env 128 = true := by kernel_rfl
@[go_sem] theorem sz128 : L.env.sz 128 = 1 := by kernel_rfl
@[go_sem] theorem ag128 : aggT L.env 128 = some false := by kernel_rfl
@[go_sem] theorem ze128 : L.env.zero 128 = some [.nilfunc] := by kernel_rfl
@[go_sem] theorem is129 : isT L.env 129 = true := by kernel_rfl
@[go_sem] theorem sz129 : L.env.sz 129 = 1 := by kernel_rfl
@[go_sem] theorem ag129 : aggT L.env 129 = some false := by kernel_rfl
@[go_sem] theorem ze129 : L.env.zero 129 = some [.nilfunc] := by kernel_rfl
@[go_sem] theorem is130 : isT L.env 130 = true := by kernel_rfl
@[go_sem] theorem sz130 : L.env.sz 130 = 1 := by kernel_rfl
@[go_sem] theorem ag130 : aggT L.env 130 = some false := by kernel_rfl
@[go_sem] theorem ze130 : L.env.zero 130 = some [.nilfunc] := by kernel_rfl
@[go_sem] theorem is131 : isT L.env 131 = true := by kernel_rfl
@[go_sem] theorem sz131 : L.env.sz 131 = 1 := by kernel_rfl
@[go_sem] theorem ag131 : aggT L.env 131 = some false := by kernel_rfl
@[go_sem] theorem ze131 : L.env.zero 131 = some [.nilfunc] := by kernel_rfl
@[go_sem] theorem is132 : isT L.env 132 = true := by kernel_rfl
@[go_sem] theorem sz132 : L.env.sz 132 = 1 := by kernel_rfl
@[go_sem] theorem ag132 : aggT L.env 132 = some false := by kernel_rfl
@[go_sem] theorem un132 : L.env.und 132 = some (.map 9 4) := by kernel_rfl
@[go_sem] theorem by132 : L.env.bytes 132 = 8 := by kernel_rfl
@[go_sem] theorem ze132 : L.env.zero 132 = some [.nilmap] := by kernel_rfl
@[go_sem] theorem is133 : isT L.env 133 = true := by kernel_rfl
@[go_sem] theorem sz133 : L.env.sz 133 = 1 := by kernel_rfl
@[go_sem] theorem ag133 : aggT L.env 133 = some false := by kernel_rfl
@[go_sem] theorem ze133 : L.env.zero 133 = some [.nilfunc] := by kernel_rfl
@[go_sem] theorem is134 : isT L.env 134 = true := by kernel_rfl
@[go_sem] theorem sz134 : L.env.sz 134 = 1 := by kernel_rfl
@[go_sem] theorem ag134 : aggT L.env 134 = some false := by kernel_rfl
@[go_sem] theorem ze134 : L.env.zero 134 = some [.nilfunc] := by kernel_rfl
@[go_sem] theorem is135 : isT L.env 135 = true := by kernel_rfl
@[go_sem] theorem sz135 : L.env.sz 135 = 1 := by kernel_rfl
@[go_sem] theorem ag135 : aggT L.env 135 = some false := by kernel_rfl
@[go_sem] theorem ze135 : L.env.zero 135 = some [.nilfunc] := by kernel_rfl
@[go_sem] theorem is136 : isT L.env 136 = true := by kernel_rfl
@[go_sem] theorem sz136 : L.env.sz 136 = 1 := by kernel_rfl
@[go_sem] theorem ag136 : aggT L.env 136 = some false := by kernel_rfl
@[go_sem] theorem ze136 : L.env.zero 136 = some [.nilfunc] := by kernel_rfl
@[go_sem] theorem is137 : isT L.env 137 = true := by kernel_rfl
@[go_sem] theorem sz137 : L.env.sz 137 = 1 := by kernel_rfl
@[go_sem] theorem ag137 : aggT L.env 137 = some false := by kernel_rfl
@[go_sem] theorem ze137 : L.env.zero 137 = some [.nilfunc] := by kernel_rfl
@[go_sem] theorem is138 : isT L.env 138 = true := by kernel_rfl
@[go_sem] theorem sz138 : L.env.sz 138 = 1 := by kernel_rfl
@[go_sem] theorem ag138 : aggT L.env 138 = some false := by kernel_rfl
@[go_sem] theorem ze138 : L.env.zero 138 = some [.nilfunc] := by kernel_rfl
@[go_sem] theorem is139 : isT L.env 139 = true := by kernel_rfl
@[go_sem] theorem sz139 : L.env.sz 139 = 1 := by kernel_rfl
@[go_sem] theorem ag139 : aggT L.env 139 = some false := by kernel_rfl
@[go_sem] theorem ze139 : L.env.zero 139 = some [.nilfunc] := by kernel_rfl
@[go_sem] theorem is140 : isT L.env 140 = true := by kernel_rfl
@[go_sem] theorem sz140 : L.env.sz 140 = 1 := by kernel_rfl
@[go_sem] theorem ag140 : aggT L.env 140 = some false := by kernel_rfl
@[go_sem] theorem ze140 : L.env.zero 140 = some [.nilfunc] := by kernel_rfl
@[go_sem] theorem is141 : isT L.env 141 = true := by kernel_rfl
@[go_sem] theorem sz141 : L.env.sz 141 = 1 := by kernel_rfl
@[go_sem] theorem ag141 : aggT L.env 141 = some false := by kernel_rfl
@[go_sem] theorem ze141 : L.env.zero 141 = some [.nilfunc] := by kernel_rfl
@[go_sem] theorem is142 : isT L.env 142 = true := by kernel_rfl
@[go_sem] theorem sz142 : L.env.sz 142 = 1 := by kernel_rfl
@[go_sem] theorem ag142 : aggT L.env 142 = some false := by kernel_rfl
@[go_sem] theorem ze142 : L.env.zero 142 = some [.nilfunc] := by kernel_rfl
@[go_sem] theorem is143 : isT L.env 143 = true := by kernel_rfl
@[go_sem] theorem sz143 : L.env.sz 143 = 1 := by kernel_rfl
@[go_sem] theorem ag143 : aggT L.env 143 = some false := by kernel_rfl
@[go_sem] theorem ze143 : L.env.zero 143 = some [.nilfunc] := by kernel_rfl
@[go_sem] theorem is144 : isT L.env 144 = true := by kernel_rfl
@[go_sem] theorem sz144 : L.env.sz 144 = 1 := by kernel_rfl
@[go_sem] theorem ag144 : aggT L.env 144 = some false := by kernel_rfl
@[go_sem] theorem ze144 : L.env.zero 144 = some [.nilfunc] := by kernel_rfl
@[go_sem] theorem is145 : isT L.env 145 = true := by kernel_rfl
@[go_sem] theorem sz145 : L.env.sz 145 = 1 := by kernel_rfl
@[go_sem] theorem ag145 : aggT L.env 145 = some false := by kernel_rfl
@[go_sem] theorem ze145 : L.env.zero 145 = some [.nilfunc] := by kernel_rfl
@[go_sem] theorem is146 : isT L.env 146 = true := by kernel_rfl
@[go_sem] theorem sz146 : L.env.sz 146 = 4 := by kernel_rfl
@[go_sem] theorem ag146 : aggT L.env 146 = some true := by kernel_rfl
theorem ui146 : (L.env.und 146).isSome = true := by kernel_rfl
@[go_sem] theorem bl146 : bldT L.env 146 = true := by kernel_rfl
theorem ft146 : fieldsT L.env 146 = some [17, 17, 17, 9] := by kernel_rfl
@[go_sem] theorem fl146_0 : fldT L.env 146 0 = some (0, 17) := by kernel_rfl
@[go_sem] theorem pl146_0 : plcT L.env 146 0 = some (0, 1) := by kernel_rfl
@[go_sem] theorem fl146_1 : fldT L.env 146 1 = some (1, 17) := by kernel_rfl
@[go_sem] theorem pl146_1 : plcT L.env 146 1 = some (1, 1) := by kernel_rfl
@[go_sem] theorem fl146_2 : fldT L.env 146 2 = some (2, 17) := by kernel_rfl
@[go_sem] theorem pl146_2 : plcT L.env 146 2 = some (2, 1) := by kernel_rfl
@[go_sem] theorem fl146_3 : fldT L.env 146 3 = some (3, 9) := by kernel_rfl
@[go_sem] theorem pl146_3 : plcT L.env 146 3 = some (3, 1) := by kernel_rfl
@[go_sem] theorem ze146 : L.env.zero 146 = some [.nilptr, .nilptr, .nilptr, .str []] := by kernel_rfl
@[go_sem] theorem is147 : isT L.env 147 = true := by kernel_rfl
@[go_sem] theorem sz147 : L.env.sz 147 = 4 := by kernel_rfl
@[go_sem] theorem ag147 : aggT L.env 147 = some true := by kernel_rfl
theorem ui147 : (L.env.und 147).isSome = true := by kernel_rfl
@[go_sem] theorem bl147 : bldT L.env 147 = true := by kernel_rfl
theorem ft147 : fieldsT L.env 147 = some [17, 17, 17, 9] := by kernel_rfl
@[go_sem] theorem fl147_0 : fldT L.env 147 0 = some (0, 17) := by kernel_rfl
@[go_sem] theorem pl147_0 : plcT L.env 147 0 = some (0, 1) := by kernel_rfl
@[go_sem] theorem fl147_1 : fldT L.env 147 1 = some (1, 17) := by kernel_rfl
@[go_sem] theorem pl147_1 : plcT L.env 147 1 = some (1, 1) := by kernel_rfl
@[go_sem] theorem fl147_2 : fldT L.env 147 2 = some (2, 17) := by kernel_rfl
@[go_sem] theorem pl147_2 : plcT L.env 147 2 = some (2, 1) := by kernel_rfl
@[go_sem] theorem fl147_3 : fldT L.env 147 3 = some (3, 9) := by kernel_rfl
@[go_sem] theorem pl147_3 : plcT L.env 147 3 = some (3, 1) := by kernel_rfl
@[go_sem] theorem ze147 : L.env.zero 147 = some [.nilptr, .nilptr, .nilptr, .str []] := by kernel_rfl
@[go_sem] theorem is148 : isT L.env 148 = true := by kernel_rfl
@[go_sem] theorem sz148 : L.env.sz 148 = 0 := by kernel_rfl
@[go_sem] theorem ag148 : aggT L.env 148 = some true := by kernel_rfl
@[go_sem] theorem un148 : L.env.und 148 = some (.array 0 16) := by kernel_rfl
theorem ar148 : arrT L.env 148 = some (0, 16) := by kernel_rfl
@[go_sem] theorem bl148 : bldT L.env 148 = true := by kernel_rfl
@[go_sem] theorem ze148 : L.env.zero 148 = some [] := by kernel_rfl
@[go_sem] theorem is149 : isT L.env 149 = true := by kernel_rfl
@[go_sem] theorem sz149 : L.env.sz 149 = 0 := by kernel_rfl
@[go_sem] theorem ag149 : aggT L.env 149 = some true := by kernel_rfl
theorem ui149 : (L.env.und 149).isSome = true := by kernel_rfl
@[go_sem] theorem bl149 : bldT L.env 149 = true := by kernel_rfl
theorem ft149 : fieldsT L.env 149 = some [148] := by kernel_rfl
@[go_sem] theorem fl149_0 : fldT L.env 149 0 = some (0, 148) := by kernel_rfl
@[go_sem] theorem pl149_0 : plcT L.env 149 0 = some (0, 0) := by kernel_rfl
@[go_sem] theorem ze149 : L.env.zero 149 = some [] := by kernel_rfl
@[go_sem] theorem is150 : isT L.env 150 = true := by kernel_rfl
@[go_sem] theorem sz150 : L.env.sz 150 = 0 := by kernel_rfl
@[go_sem] theorem ag150 : aggT L.env 150 = some true := by kernel_rfl
theorem ui150 : (L.env.und 150).isSome = true := by kernel_rfl
@[go_sem] theorem bl150 : bldT L.env 150 = true := by kernel_rfl
theorem ft150 : fieldsT L.env 150 = some [148] := by kernel_rfl
@[go_sem] theorem fl150_0 : fldT L.env 150 0 = some (0, 148) := by kernel_rfl
@[go_sem] theorem pl150_0 : plcT L.env 150 0 = some (0, 0) := by kernel_rfl
@[go_sem] theorem ze150 : L.env.zero 150 = some [] := by kernel_rfl
@[go_sem] theorem is151 : isT L.env 151 = true := by kernel_rfl
@[go_sem] theorem sz151 : L.env.sz 151 = 1 := by kernel_rfl
@[go_sem] theorem ag151 : aggT L.env 151 = some false := by kernel_rfl
@[go_sem] theorem ze151 : L.env.zero 151 = some [.nilfunc] := by kernel_rfl
@[go_sem] theorem is152 : isT L.env 152 = true := by kernel_rfl
@[go_sem] theorem sz152 : L.env.sz 152 = 1 := by kernel_rfl
@[go_sem] theorem ag152 : aggT L.env 152 = some false := by kernel_rfl
@[go_sem] theorem un152 : L.env.und 152 = some (.int .u32) := by kernel_rfl
@[go_sem] theorem in152 : intT L.env 152 = some .u32 := by kernel_rfl
@[go_sem] theorem ze152 : L.env.zero 152 = some [.int .u32 0] := by kernel_rfl
@[go_sem] theorem is153 : isT L.env 153 = true := by kernel_rfl
@[go_sem] theorem sz153 : L.env.sz 153 = 1 := by kernel_rfl
@[go_sem] theorem ag153 : aggT L.env 153 = some false := by kernel_rfl
@[go_sem] theorem un153 : L.env.und 153 = some (.int .u8) := by kernel_rfl
@[go_sem] theorem in153 : intT L.env 153 = some .u8 := by kernel_rfl
@[go_sem] theorem ze153 : L.env.zero 153 = some [.int .u8 0] := by kernel_rfl
@[go_sem] theorem is154 : isT L.env 154 = true := by kernel_rfl
@[go_sem] theorem sz154 : L.env.sz 154 = 1 := by kernel_rfl
@[go_sem] theorem ag154 : aggT L.env 154 = some false := by kernel_rfl
@[go_sem] theorem un154 : L.env.und 154 = some (.int .u8) := by kernel_rfl
@[go_sem] theorem in154 : intT L.env 154 = some .u8 := by kernel_rfl
@[go_sem] theorem ze154 : L.env.zero 154 = some [.int .u8 0] := by kernel_rfl
@[go_sem] theorem is155 : isT L.env 155 = true := by kernel_rfl
@[go_sem] theorem sz155 : L.env.sz 155 = 1 := by kernel_rfl
@[go_sem] theorem ag155 : aggT L.env 155 = some false := by kernel_rfl
@[go_sem] theorem ze155 : L.env.zero 155 = some [.nilfunc] := by kernel_rfl
@[go_sem] theorem is156 : isT L.env 156 = true := by kernel_rfl
@[go_sem] theorem sz156 : L.env.sz 156 = 1 := by kernel_rfl
@[go_sem] theorem ag156 : aggT L.env 156 = some false := by kernel_rfl
@[go_sem] theorem un156 : L.env.und 156 = some (.pointer 5) := by kernel_rfl
@[go_sem] theorem ze156 : L.env.zero 156 = some [.nilptr] := by kernel_rfl
@[go_sem] theorem is157 : isT L.env 157 = true := by kernel_rfl
@[go_sem] theorem sz157 : L.env.sz 157 = 1 := by kernel_rfl
@[go_sem] theorem ag157 : aggT L.env 157 = some false := by kernel_rfl
@[go_sem] theorem un157 : L.env.und 157 = some (.int .i32) := by kernel_rfl
@[go_sem] theorem in157 : intT L.env 157 = some .i32 := by kernel_rfl
@[go_sem] theorem ze157 : L.env.zero 157 = some [.int .i32 0] := by kernel_rfl
@[go_sem] theorem is158 : isT L.env 158 = true := by kernel_rfl
@[go_sem] theorem sz158 : L.env.sz 158 = 1 := by kernel_rfl
@[go_sem] theorem ag158 : aggT L.env 158 = some false := by kernel_rfl
@[go_sem] theorem un158 : L.env.und 158 = some (.int .i32) := by kernel_rfl
@[go_sem] theorem in158 : intT L.env 158 = some .i32 := by kernel_rfl
@[go_sem] theorem ze158 : L.env.zero 158 = some [.int .i32 0] := by kernel_rfl
@[go_sem] theorem is159 : isT L.env 159 = true := by kernel_rfl
@[go_sem] theorem sz159 : L.env.sz 159 = 11 := by kernel_rfl
@[go_sem] theorem ag159 : aggT L.env 159 = some true := by kernel_rfl
theorem ui159 : (L.env.und 159).isSome = true := by kernel_rfl
@[go_sem] theorem bl159 : bldT L.env 159 = true := by kernel_rfl
theorem ft159 : fieldsT L.env 159 = some [12, 12, 152, 153, 5, 5, 154, 155, 156, 157, 158] := by kernel_rfl
@[go_sem] theorem fl159_0 : fldT L.env 159 0 = some (0, 12) := by kernel_rfl
@[go_sem] theorem pl159_0 : plcT L.env 159 0 = some (0, 1) := by kernel_rfl
@[go_sem] theorem fl159_1 : fldT L.env 159 1 = some (1, 12) := by kernel_rfl
@[go_sem] theorem pl159_1 : plcT L.env 159 1 = some (1, 1) := by kernel_rfl
@[go_sem] theorem fl159_2 : fldT L.env 159 2 = some (2, 152) := by kernel_rfl
@[go_sem] theorem pl159_2 : plcT L.env 159 2 = some (2, 1) := by kernel_rfl
@[go_sem] theorem fl159_3 : fldT L.env 159 3 = some (3, 153) := by kernel_rfl
@[go_sem] theorem pl159_3 : plcT L.env 159 3 = some (3, 1) := by kernel_rfl
@[go_sem] theorem fl159_4 : fldT L.env 159 4 = some (4, 5) := by kernel_rfl
@[go_sem] theorem pl159_4 : plcT L.env 159 4 = some (4, 1) := by kernel_rfl
@[go_sem] theorem fl159_5 : fldT L.env 159 5 = some (5, 5) := by kernel_rfl
@[go_sem] theorem pl159_5 : plcT L.env 159 5 = some (5, 1) := by kernel_rfl
@[go_sem] theorem fl159_6 : fldT L.env 159 6 = some (6, 154) := by kernel_rfl
@[go_sem] theorem pl159_6 : plcT L.env 159 6 = some (6, 1) := by kernel_rfl
@[go_sem] theorem fl159_7 : fldT L.env 159 7 = some (7, 155) := by kernel_rfl
@[go_sem] theorem pl159_7 : plcT L.env 159 7 = some (7, 1) := by kernel_rfl
@[go_sem] theorem fl159_8 : fldT L.env 159 8 = some (8, 156) := by kernel_rfl
@[go_sem] theorem pl159_8 : plcT L.env 159 8 = some (8, 1) := by kernel_rfl
@[go_sem] theorem fl159_9 : fldT L.env 159 9 = some (9, 157) := by kernel_rfl
@[go_sem] theorem pl159_9 : plcT L.env 159 9 = some (9, 1) := by kernel_rfl
@[go_sem] theorem fl159_10 : fldT L.env 159 10 = some (10, 158) := by kernel_rfl
@[go_sem] theorem pl159_10 : plcT L.env 159 10 = some (10, 1) := by kernel_rfl
@[go_sem] theorem ze159 : L.env.zero 159 = some [.int .u64 0, .int .u64 0, .int .u32 0, .int .u8 0, .int .u8 0, .int .u8 0, .int .u8 0, .nilfunc, .nilptr, .int .i32 0, .int .i32 0] := by kernel_rfl
@[go_sem] theorem is160 : isT L.env 160 = true := by kernel_rfl
@[go_sem] theorem sz160 : L.env.sz 160 = 11 := by kernel_rfl
@[go_sem] theorem ag160 : aggT L.env 160 = some true := by kernel_rfl
theorem ui160 : (L.env.und 160).isSome = true := by kernel_rfl
@[go_sem] theorem bl160 : bldT L.env 160 = true := by kernel_rfl
theorem ft160 : fieldsT L.env 160 = some [12, 12, 152, 153, 5, 5, 154, 155, 156, 157, 158] := by kernel_rfl
@[go_sem] theorem fl160_0 : fldT L.env 160 0 = some (0, 12) := by kernel_rfl
@[go_sem] theorem pl160_0 : plcT L.env 160 0 = some (0, 1) := by kernel_rfl
@[go_sem] theorem fl160_1 : fldT L.env 160 1 = some (1, 12) := by kernel_rfl
@[go_sem] theorem pl160_1 : plcT L.env 160 1 = some (1, 1) := by kernel_rfl
@[go_sem] theorem fl160_2 : fldT L.env 160 2 = some (2, 152) := by kernel_rfl
@[go_sem] theorem pl160_2 : plcT L.env 160 2 = some (2, 1) := by kernel_rfl
@[go_sem] theorem fl160_3 : fldT L.env 160 3 = some (3, 153) := by kernel_rfl
@[go_sem] theorem pl160_3 : plcT L.env 160 3 = some (3, 1) := by kernel_rfl
@[go_sem] theorem fl160_4 : fldT L.env 160 4 = some (4, 5) := by kernel_rfl
@[go_sem] theorem pl160_4 : plcT L.env 160 4 = some (4, 1) := by kernel_rfl
@[go_sem] theorem fl160_5 : fldT L.env 160 5 = some (5, 5) := by kernel_rfl
@[go_sem] theorem pl160_5 : plcT L.env 160 5 = some (5, 1) := by kernel_rfl
@[go_sem] theorem fl160_6 : fldT L.env 160 6 = some (6, 154) := by kernel_rfl
@[go_sem] theorem pl160_6 : plcT L.env 160 6 = some (6, 1) := by kernel_rfl
@[go_sem] theorem fl160_7 : fldT L.env 160 7 = some (7, 155) := by kernel_rfl
@[go_sem] theorem pl160_7 : plcT L.env 160 7 = some (7, 1) := by kernel_rfl
@[go_sem] theorem fl160_8 : fldT L.env 160 8 = some (8, 156) := by kernel_rfl
@[go_sem] theorem pl160_8 : plcT L.env 160 8 = some (8, 1) := by kernel_rfl
@[go_sem] theorem fl160_9 : fldT L.env 160 9 = some (9, 157) := by kernel_rfl
@[go_sem] theorem pl160_9 : plcT L.env 160 9 = some (9, 1) := by kernel_rfl
@[go_sem] theorem fl160_10 : fldT L.env 160 10 = some (10, 158) := by kernel_rfl
@[go_sem] theorem pl160_10 : plcT L.env 160 10 = some (10, 1) := by kernel_rfl
@[go_sem] theorem ze160 : L.env.zero 160 = some [.int .u64 0, .int .u64 0, .int .u32 0, .int .u8 0, .int .u8 0, .int .u8 0, .int .u8 0, .nilfunc, .nilptr, .int .i32 0, .int .i32 0] := by kernel_rfl
@[go_sem] theorem is161 : isT L.env 161 = true := by kernel_rfl
@[go_sem] theorem sz161 : L.env.sz 161 = 1 := by kernel_rfl
@[go_sem] theorem ag161 : aggT L.env 161 = some false := by kernel_rfl
@[go_sem] theorem ze161 : L.env.zero 161 = some [.nilptr] := by kernel_rfl
end Go.DInst
