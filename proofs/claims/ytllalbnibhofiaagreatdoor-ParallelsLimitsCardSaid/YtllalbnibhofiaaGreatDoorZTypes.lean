/- Type facts (printed by AxTypes). -/
import Derived.Test.YtllalbnibhofiaaGreatDoorZInst
import Derived.Test.YtllalbnibhofiaaGreatDoorAxD
namespace Go.ZInst
open Go.Proofs Go.Ax
@[go_sem] theorem thawF (g : FuncId) : L.env.thaw g = false := by rfl
@[go_sem] theorem kp3_0 : L.env.keep 3 0 = [3, 4, 5, 6, 8] := by kernel_rfl
@[go_sem] theorem kp3_2 : L.env.keep 3 2 = [3, 4, 5, 6, 8, 9, 11] := by kernel_rfl
@[go_sem] theorem kp3_4 : L.env.keep 3 4 = [3, 4, 5, 6, 13] := by kernel_rfl
@[go_sem] theorem kp3_6 : L.env.keep 3 6 = [3, 4, 5, 6, 13, 14, 16] := by kernel_rfl
@[go_sem] theorem kp5_0 : L.env.keep 5 0 = [2, 7, 8, 10, 11, 12] := by kernel_rfl
@[go_sem] theorem kp5_2 : L.env.keep 5 2 = [7, 10, 11, 13, 15] := by kernel_rfl
@[go_sem] theorem kp6_0 : L.env.keep 6 0 = [5, 7, 8, 9, 11] := by kernel_rfl
@[go_sem] theorem kp7_0 : L.env.keep 7 0 = [1, 2, 5, 6, 7] := by kernel_rfl
@[go_sem] theorem kp7_2 : L.env.keep 7 2 = [1, 2, 5, 6, 9, 10] := by kernel_rfl
@[go_sem] theorem kp8_0 : L.env.keep 8 0 = [1, 2, 3, 9, 24, 25] := by kernel_rfl
@[go_sem] theorem kp8_2 : L.env.keep 8 2 = [1, 2, 9, 11, 12] := by kernel_rfl
@[go_sem] theorem kp9_0 : L.env.keep 9 0 = [8, 10, 27, 28] := by kernel_rfl
@[go_sem] theorem kp11_0 : L.env.keep 11 0 = [1, 9, 10, 11, 12, 13, 14, 15] := by kernel_rfl
@[go_sem] theorem kp11_2 : L.env.keep 11 2 = [1, 9, 10, 11, 12, 13, 14, 15, 19, 75, 76] := by kernel_rfl
@[go_sem] theorem kp17_0 : L.env.keep 17 0 = [2, 3, 31, 32, 33] := by kernel_rfl
@[go_sem] theorem kp17_2 : L.env.keep 17 2 = [3, 47, 48, 49] := by kernel_rfl
@[go_sem] theorem kp19_0 : L.env.keep 19 0 = [1, 2, 3, 4, 8, 9, 10, 11, 34, 35] := by kernel_rfl
@[go_sem] theorem kp22_0 : L.env.keep 22 0 = [3, 6, 7, 8] := by kernel_rfl
@[go_sem] theorem kp23_0 : L.env.keep 23 0 = [1, 2, 3, 6, 7, 25, 26, 27] := by kernel_rfl
@[go_sem] theorem kp23_2 : L.env.keep 23 2 = [2, 3, 6, 7, 41, 42, 43] := by kernel_rfl
@[go_sem] theorem kp23_4 : L.env.keep 23 4 = [3, 6, 7, 57, 58, 59] := by kernel_rfl
@[go_sem] theorem kp23_6 : L.env.keep 23 6 = [3, 6, 7, 99, 100, 101] := by kernel_rfl
@[go_sem] theorem kp23_8 : L.env.keep 23 8 = [3, 6, 7, 114, 115, 116] := by kernel_rfl
@[go_sem] theorem kp24_0 : L.env.keep 24 0 = [3, 4, 5, 6, 7, 8, 14, 15, 16] := by kernel_rfl
@[go_sem] theorem kp25_0 : L.env.keep 25 0 = [0, 1, 4, 9, 10] := by kernel_rfl
@[go_sem] theorem kp27_0 : L.env.keep 27 0 = [1, 2, 3, 4] := by kernel_rfl
@[go_sem] theorem kp27_2 : L.env.keep 27 2 = [1, 2, 3, 5, 6, 7] := by kernel_rfl
@[go_sem] theorem kp27_4 : L.env.keep 27 4 = [1, 2, 3, 5, 6, 8] := by kernel_rfl
@[go_sem] theorem kp27_6 : L.env.keep 27 6 = [1, 2, 3, 5, 6, 9, 10] := by kernel_rfl
@[go_sem] theorem kp27_8 : L.env.keep 27 8 = [1, 2, 3, 9, 11] := by kernel_rfl
@[go_sem] theorem kp27_10 : L.env.keep 27 10 = [1, 2, 3, 9, 12] := by kernel_rfl
@[go_sem] theorem kp28_0 : L.env.keep 28 0 = [0, 1, 2, 7, 8] := by kernel_rfl
@[go_sem] theorem kp29_0 : L.env.keep 29 0 = [1, 2, 5, 6] := by kernel_rfl
@[go_sem] theorem kp33_0 : L.env.keep 33 0 = [5, 15, 16, 17] := by kernel_rfl
@[go_sem] theorem kp33_2 : L.env.keep 33 2 = [5, 6, 15, 16, 17, 25, 26] := by kernel_rfl
@[go_sem] theorem kp36_0 : L.env.keep 36 0 = [4, 6, 21, 22] := by kernel_rfl
@[go_sem] theorem kp41_0 : L.env.keep 41 0 = [0, 2, 7, 14, 15] := by kernel_rfl
@[go_sem] theorem kp41_2 : L.env.keep 41 2 = [0, 2, 7, 8, 14, 15, 18, 19, 20] := by kernel_rfl
@[go_sem] theorem kp46_0 : L.env.keep 46 0 = [0, 4, 7, 33, 34, 35] := by kernel_rfl
@[go_sem] theorem kp47_0 : L.env.keep 47 0 = [1, 2, 3, 7, 16, 17, 18] := by kernel_rfl
@[go_sem] theorem kp48_0 : L.env.keep 48 0 = [2, 3, 4, 6, 10, 11, 12] := by kernel_rfl
@[go_sem] theorem kp50_0 : L.env.keep 50 0 = [5, 24] := by kernel_rfl
@[go_sem] theorem kp54_0 : L.env.keep 54 0 = [2, 3, 4, 6, 7, 8, 9, 10, 11, 12] := by kernel_rfl
@[go_sem] theorem kp56_0 : L.env.keep 56 0 = [4, 9, 10, 40, 41, 42] := by kernel_rfl
@[go_sem] theorem kp56_2 : L.env.keep 56 2 = [4, 9, 10, 12, 13, 40, 41, 42, 59, 60, 61] := by kernel_rfl
@[go_sem] theorem kp58_0 : L.env.keep 58 0 = [0, 3, 4, 5, 41, 42, 43] := by kernel_rfl
@[go_sem] theorem kp58_2 : L.env.keep 58 2 = [0, 3, 4, 5, 60, 61, 62] := by kernel_rfl
@[go_sem] theorem kp58_4 : L.env.keep 58 4 = [0, 4, 5, 12, 89, 90, 91] := by kernel_rfl
@[go_sem] theorem kp58_6 : L.env.keep 58 6 = [0, 4, 5, 16, 143, 144, 145] := by kernel_rfl
@[go_sem] theorem kp58_8 : L.env.keep 58 8 = [0, 4, 16, 162, 163, 164] := by kernel_rfl
@[go_sem] theorem kp60_0 : L.env.keep 60 0 = [1, 2, 3, 4, 9] := by kernel_rfl
@[go_sem] theorem kp67_0 : L.env.keep 67 0 = [1, 5, 6, 7, 29, 30, 31] := by kernel_rfl
@[go_sem] theorem kp67_2 : L.env.keep 67 2 = [1, 5, 6, 7, 10, 11] := by kernel_rfl
@[go_sem] theorem kp67_4 : L.env.keep 67 4 = [1, 5, 6, 7, 10, 11, 12, 76, 77, 78] := by kernel_rfl
@[go_sem] theorem kp71_0 : L.env.keep 71 0 = [1, 5, 9, 10, 11] := by kernel_rfl
@[go_sem] theorem kp76_0 : L.env.keep 76 0 = [2, 3, 4, 5, 8, 9, 10] := by kernel_rfl
@[go_sem] theorem kp79_0 : L.env.keep 79 0 = [2, 3, 7, 8, 9] := by kernel_rfl
@[go_sem] theorem kp80_0 : L.env.keep 80 0 = [2, 3, 7, 8, 9] := by kernel_rfl
@[go_sem] theorem kp81_0 : L.env.keep 81 0 = [2, 3, 7, 8, 9] := by kernel_rfl
@[go_sem] theorem kp84_0 : L.env.keep 84 0 = [2, 3, 10, 11, 12] := by kernel_rfl
@[go_sem] theorem kp84_2 : L.env.keep 84 2 = [2, 3, 29, 30, 31] := by kernel_rfl
@[go_sem] theorem kp87_0 : L.env.keep 87 0 = [1, 2, 3, 12, 13, 14] := by kernel_rfl
@[go_sem] theorem kp87_2 : L.env.keep 87 2 = [1, 2, 3, 29, 30, 31] := by kernel_rfl
@[go_sem] theorem kp95_0 : L.env.keep 95 0 = [0, 1, 5, 16, 17, 18] := by kernel_rfl
@[go_sem] theorem kp97_0 : L.env.keep 97 0 = [0, 1, 5, 11, 12] := by kernel_rfl
@[go_sem] theorem kp98_0 : L.env.keep 98 0 = [2, 5, 6] := by kernel_rfl
@[go_sem] theorem kp98_2 : L.env.keep 98 2 = [2, 5, 6, 45, 46, 47] := by kernel_rfl
@[go_sem] theorem kp101_1 : L.env.keep 101 1 = [1, 36, 37, 38] := by kernel_rfl
@[go_sem] theorem kp101_3 : L.env.keep 101 3 = [1, 55, 56, 57] := by kernel_rfl
@[go_sem] theorem kp102_0 : L.env.keep 102 0 = [3, 4, 18, 19, 20] := by kernel_rfl
@[go_sem] theorem kp102_2 : L.env.keep 102 2 = [3, 4, 5, 18, 19, 20, 26, 27, 28] := by kernel_rfl
@[go_sem] theorem kp102_4 : L.env.keep 102 4 = [3, 51, 52, 53] := by kernel_rfl
@[go_sem] theorem kp103_0 : L.env.keep 103 0 = [0, 1, 2, 6, 7, 8] := by kernel_rfl
@[go_sem] theorem kp103_2 : L.env.keep 103 2 = [0, 1, 2, 6] := by kernel_rfl
@[go_sem] theorem kp103_4 : L.env.keep 103 4 = [0, 1, 2, 6, 7, 8] := by kernel_rfl
@[go_sem] theorem kp111_0 : L.env.keep 111 0 = [3, 6, 7, 8] := by kernel_rfl
@[go_sem] theorem kp120_0 : L.env.keep 120 0 = [0, 1, 7, 8] := by kernel_rfl
@[go_sem] theorem kp122_0 : L.env.keep 122 0 = [3, 8, 9, 10] := by kernel_rfl
@[go_sem] theorem kp126_0 : L.env.keep 126 0 = [0, 1, 2, 3, 8] := by kernel_rfl
@[go_sem] theorem kp126_2 : L.env.keep 126 2 = [0, 1, 2, 3, 8, 9] := by kernel_rfl
@[go_sem] theorem kp127_0 : L.env.keep 127 0 = [0, 1, 4, 10, 11] := by kernel_rfl
@[go_sem] theorem kp127_2 : L.env.keep 127 2 = [0, 10, 13] := by kernel_rfl
@[go_sem] theorem kp127_4 : L.env.keep 127 4 = [0, 2, 4, 14, 15] := by kernel_rfl
@[go_sem] theorem kp127_6 : L.env.keep 127 6 = [0, 14, 17] := by kernel_rfl
@[go_sem] theorem kp127_8 : L.env.keep 127 8 = [0, 1, 2, 3, 4, 18, 19, 20, 21, 22] := by kernel_rfl
@[go_sem] theorem kp128_0 : L.env.keep 128 0 = [0, 1, 7, 8] := by kernel_rfl
@[go_sem] theorem kp130_0 : L.env.keep 130 0 = [1, 2, 7, 11, 12, 13] := by kernel_rfl
@[go_sem] theorem kp138_0 : L.env.keep 138 0 = [0, 1, 7, 8] := by kernel_rfl
@[go_sem] theorem kp140_0 : L.env.keep 140 0 = [0, 2, 4, 10, 11] := by kernel_rfl
@[go_sem] theorem kp145_0 : L.env.keep 145 0 = [0, 1, 2, 3, 10] := by kernel_rfl
@[go_sem] theorem kp146_0 : L.env.keep 146 0 = [0, 1, 7, 8] := by kernel_rfl
@[go_sem] theorem kp147_9 : L.env.keep 147 9 = [175] := by kernel_rfl
@[go_sem] theorem kp147_1 : L.env.keep 147 1 = [0, 7, 8, 9] := by kernel_rfl
@[go_sem] theorem kp147_3 : L.env.keep 147 3 = [0, 7, 8, 9, 12] := by kernel_rfl
@[go_sem] theorem kp147_5 : L.env.keep 147 5 = [0, 7, 8, 9, 14, 15] := by kernel_rfl
@[go_sem] theorem kp147_7 : L.env.keep 147 7 = [0, 7, 8, 9, 14, 15, 16] := by kernel_rfl
@[go_sem] theorem kp153_0 : L.env.keep 153 0 = [1, 2, 10] := by kernel_rfl
@[go_sem] theorem by0 : L.env.bytes 0 = 0 := by kernel_rfl
@[go_sem] theorem by1 : L.env.bytes 1 = 8 := by kernel_rfl
@[go_sem] theorem by2 : L.env.bytes 2 = 8 := by kernel_rfl
@[go_sem] theorem by3 : L.env.bytes 3 = 8 := by kernel_rfl
@[go_sem] theorem by4 : L.env.bytes 4 = 1 := by kernel_rfl
@[go_sem] theorem by5 : L.env.bytes 5 = 1 := by kernel_rfl
@[go_sem] theorem by6 : L.env.bytes 6 = 1 := by kernel_rfl
@[go_sem] theorem by7 : L.env.bytes 7 = 24 := by kernel_rfl
@[go_sem] theorem by8 : L.env.bytes 8 = 24 := by kernel_rfl
@[go_sem] theorem by9 : L.env.bytes 9 = 16 := by kernel_rfl
@[go_sem] theorem by10 : L.env.bytes 10 = 16 := by kernel_rfl
@[go_sem] theorem by11 : L.env.bytes 11 = 16 := by kernel_rfl
@[go_sem] theorem by12 : L.env.bytes 12 = 8 := by kernel_rfl
@[go_sem] theorem by13 : L.env.bytes 13 = 24 := by kernel_rfl
@[go_sem] theorem by14 : L.env.bytes 14 = 24 := by kernel_rfl
@[go_sem] theorem by15 : L.env.bytes 15 = 8 := by kernel_rfl
@[go_sem] theorem by16 : L.env.bytes 16 = 8 := by kernel_rfl
@[go_sem] theorem by17 : L.env.bytes 17 = 8 := by kernel_rfl
@[go_sem] theorem by18 : L.env.bytes 18 = 8 := by kernel_rfl
@[go_sem] theorem by19 : L.env.bytes 19 = 8 := by kernel_rfl
@[go_sem] theorem by20 : L.env.bytes 20 = 16 := by kernel_rfl
@[go_sem] theorem by21 : L.env.bytes 21 = 4 := by kernel_rfl
@[go_sem] theorem by22 : L.env.bytes 22 = 2 := by kernel_rfl
@[go_sem] theorem by23 : L.env.bytes 23 = 4 := by kernel_rfl
@[go_sem] theorem by24 : L.env.bytes 24 = 24 := by kernel_rfl
@[go_sem] theorem by25 : L.env.bytes 25 = 24 := by kernel_rfl
@[go_sem] theorem by26 : L.env.bytes 26 = 64 := by kernel_rfl
@[go_sem] theorem by27 : L.env.bytes 27 = 64 := by kernel_rfl
@[go_sem] theorem by28 : L.env.bytes 28 = 24 := by kernel_rfl
@[go_sem] theorem by29 : L.env.bytes 29 = 24 := by kernel_rfl
@[go_sem] theorem by30 : L.env.bytes 30 = 112 := by kernel_rfl
@[go_sem] theorem by31 : L.env.bytes 31 = 112 := by kernel_rfl
@[go_sem] theorem by32 : L.env.bytes 32 = 24 := by kernel_rfl
@[go_sem] theorem by33 : L.env.bytes 33 = 24 := by kernel_rfl
@[go_sem] theorem by34 : L.env.bytes 34 = 24 := by kernel_rfl
@[go_sem] theorem by35 : L.env.bytes 35 = 24 := by kernel_rfl
@[go_sem] theorem by36 : L.env.bytes 36 = 96 := by kernel_rfl
@[go_sem] theorem by37 : L.env.bytes 37 = 96 := by kernel_rfl
@[go_sem] theorem by38 : L.env.bytes 38 = 24 := by kernel_rfl
@[go_sem] theorem by39 : L.env.bytes 39 = 24 := by kernel_rfl
@[go_sem] theorem by40 : L.env.bytes 40 = 0 := by kernel_rfl
@[go_sem] theorem by41 : L.env.bytes 41 = 8 := by kernel_rfl
@[go_sem] theorem by42 : L.env.bytes 42 = 24 := by kernel_rfl
@[go_sem] theorem by43 : L.env.bytes 43 = 8 := by kernel_rfl
@[go_sem] theorem by44 : L.env.bytes 44 = 0 := by kernel_rfl
@[go_sem] theorem by45 : L.env.bytes 45 = 8 := by kernel_rfl
@[go_sem] theorem by46 : L.env.bytes 46 = 24 := by kernel_rfl
@[go_sem] theorem by47 : L.env.bytes 47 = 24 := by kernel_rfl
@[go_sem] theorem by48 : L.env.bytes 48 = 0 := by kernel_rfl
@[go_sem] theorem by49 : L.env.bytes 49 = 8 := by kernel_rfl
@[go_sem] theorem by50 : L.env.bytes 50 = 1 := by kernel_rfl
@[go_sem] theorem by51 : L.env.bytes 51 = 16 := by kernel_rfl
@[go_sem] theorem by52 : L.env.bytes 52 = 16 := by kernel_rfl
@[go_sem] theorem by53 : L.env.bytes 53 = 1 := by kernel_rfl
@[go_sem] theorem by54 : L.env.bytes 54 = 40 := by kernel_rfl
@[go_sem] theorem by55 : L.env.bytes 55 = 40 := by kernel_rfl
@[go_sem] theorem by56 : L.env.bytes 56 = 8 := by kernel_rfl
@[go_sem] theorem by57 : L.env.bytes 57 = 8 := by kernel_rfl
@[go_sem] theorem by58 : L.env.bytes 58 = 24 := by kernel_rfl
@[go_sem] theorem by59 : L.env.bytes 59 = 48 := by kernel_rfl
@[go_sem] theorem by60 : L.env.bytes 60 = 48 := by kernel_rfl
@[go_sem] theorem by61 : L.env.bytes 61 = 8 := by kernel_rfl
@[go_sem] theorem by62 : L.env.bytes 62 = 8 := by kernel_rfl
@[go_sem] theorem by63 : L.env.bytes 63 = 8 := by kernel_rfl
@[go_sem] theorem by64 : L.env.bytes 64 = 8 := by kernel_rfl
@[go_sem] theorem by65 : L.env.bytes 65 = 48 := by kernel_rfl
@[go_sem] theorem by66 : L.env.bytes 66 = 48 := by kernel_rfl
@[go_sem] theorem by67 : L.env.bytes 67 = 8 := by kernel_rfl
@[go_sem] theorem by68 : L.env.bytes 68 = 0 := by kernel_rfl
@[go_sem] theorem by69 : L.env.bytes 69 = 8 := by kernel_rfl
@[go_sem] theorem by70 : L.env.bytes 70 = 8 := by kernel_rfl
@[go_sem] theorem by71 : L.env.bytes 71 = 5 := by kernel_rfl
@[go_sem] theorem by72 : L.env.bytes 72 = 5 := by kernel_rfl
@[go_sem] theorem by73 : L.env.bytes 73 = 8 := by kernel_rfl
@[go_sem] theorem by74 : L.env.bytes 74 = 8 := by kernel_rfl
@[go_sem] theorem by75 : L.env.bytes 75 = 8 := by kernel_rfl
@[go_sem] theorem by76 : L.env.bytes 76 = 8 := by kernel_rfl
@[go_sem] theorem by77 : L.env.bytes 77 = 8 := by kernel_rfl
@[go_sem] theorem by78 : L.env.bytes 78 = 184 := by kernel_rfl
@[go_sem] theorem by79 : L.env.bytes 79 = 184 := by kernel_rfl
@[go_sem] theorem by80 : L.env.bytes 80 = 8 := by kernel_rfl
@[go_sem] theorem by81 : L.env.bytes 81 = 8 := by kernel_rfl
@[go_sem] theorem by82 : L.env.bytes 82 = 8 := by kernel_rfl
@[go_sem] theorem by83 : L.env.bytes 83 = 8 := by kernel_rfl
@[go_sem] theorem by84 : L.env.bytes 84 = 8 := by kernel_rfl
@[go_sem] theorem by85 : L.env.bytes 85 = 24 := by kernel_rfl
@[go_sem] theorem by86 : L.env.bytes 86 = 8 := by kernel_rfl
@[go_sem] theorem by87 : L.env.bytes 87 = 0 := by kernel_rfl
@[go_sem] theorem by88 : L.env.bytes 88 = 8 := by kernel_rfl
@[go_sem] theorem by89 : L.env.bytes 89 = 8 := by kernel_rfl
@[go_sem] theorem by90 : L.env.bytes 90 = 8 := by kernel_rfl
@[go_sem] theorem by91 : L.env.bytes 91 = 8 := by kernel_rfl
@[go_sem] theorem by92 : L.env.bytes 92 = 8 := by kernel_rfl
@[go_sem] theorem by93 : L.env.bytes 93 = 8 := by kernel_rfl
@[go_sem] theorem by94 : L.env.bytes 94 = 1 := by kernel_rfl
@[go_sem] theorem by95 : L.env.bytes 95 = 48 := by kernel_rfl
@[go_sem] theorem by96 : L.env.bytes 96 = 48 := by kernel_rfl
@[go_sem] theorem by97 : L.env.bytes 97 = 0 := by kernel_rfl
@[go_sem] theorem by98 : L.env.bytes 98 = 8 := by kernel_rfl
@[go_sem] theorem by99 : L.env.bytes 99 = 8 := by kernel_rfl
@[go_sem] theorem by100 : L.env.bytes 100 = 8 := by kernel_rfl
@[go_sem] theorem by101 : L.env.bytes 101 = 48 := by kernel_rfl
@[go_sem] theorem by102 : L.env.bytes 102 = 48 := by kernel_rfl
@[go_sem] theorem by103 : L.env.bytes 103 = 24 := by kernel_rfl
@[go_sem] theorem by104 : L.env.bytes 104 = 0 := by kernel_rfl
@[go_sem] theorem by105 : L.env.bytes 105 = 8 := by kernel_rfl
@[go_sem] theorem by106 : L.env.bytes 106 = 8 := by kernel_rfl
@[go_sem] theorem by107 : L.env.bytes 107 = 0 := by kernel_rfl
@[go_sem] theorem by108 : L.env.bytes 108 = 8 := by kernel_rfl
@[go_sem] theorem by109 : L.env.bytes 109 = 8 := by kernel_rfl
@[go_sem] theorem by110 : L.env.bytes 110 = 16 := by kernel_rfl
@[go_sem] theorem by111 : L.env.bytes 111 = 16 := by kernel_rfl
@[go_sem] theorem by112 : L.env.bytes 112 = 8 := by kernel_rfl
@[go_sem] theorem by113 : L.env.bytes 113 = 8 := by kernel_rfl
@[go_sem] theorem by114 : L.env.bytes 114 = 8 := by kernel_rfl
@[go_sem] theorem by115 : L.env.bytes 115 = 8 := by kernel_rfl
@[go_sem] theorem by116 : L.env.bytes 116 = 8 := by kernel_rfl
@[go_sem] theorem by117 : L.env.bytes 117 = 8 := by kernel_rfl
@[go_sem] theorem by118 : L.env.bytes 118 = 8 := by kernel_rfl
@[go_sem] theorem by119 : L.env.bytes 119 = 8 := by kernel_rfl
@[go_sem] theorem by120 : L.env.bytes 120 = 8 := by kernel_rfl
@[go_sem] theorem by121 : L.env.bytes 121 = 8 := by kernel_rfl
@[go_sem] theorem by122 : L.env.bytes 122 = 8 := by kernel_rfl
@[go_sem] theorem by123 : L.env.bytes 123 = 8 := by kernel_rfl
@[go_sem] theorem by124 : L.env.bytes 124 = 8 := by kernel_rfl
@[go_sem] theorem by125 : L.env.bytes 125 = 3 := by kernel_rfl
@[go_sem] theorem by126 : L.env.bytes 126 = 4 := by kernel_rfl
@[go_sem] theorem by127 : L.env.bytes 127 = 4 := by kernel_rfl
@[go_sem] theorem by128 : L.env.bytes 128 = 56 := by kernel_rfl
@[go_sem] theorem by129 : L.env.bytes 129 = 56 := by kernel_rfl
@[go_sem] theorem by130 : L.env.bytes 130 = 8 := by kernel_rfl
@[go_sem] theorem by131 : L.env.bytes 131 = 0 := by kernel_rfl
@[go_sem] theorem by132 : L.env.bytes 132 = 8 := by kernel_rfl
@[go_sem] theorem by133 : L.env.bytes 133 = 8 := by kernel_rfl
@[go_sem] theorem by134 : L.env.bytes 134 = 8 := by kernel_rfl
@[go_sem] theorem by135 : L.env.bytes 135 = 8 := by kernel_rfl
@[go_sem] theorem by136 : L.env.bytes 136 = 8 := by kernel_rfl
@[go_sem] theorem by137 : L.env.bytes 137 = 8 := by kernel_rfl
@[go_sem] theorem by138 : L.env.bytes 138 = 136 := by kernel_rfl
@[go_sem] theorem by139 : L.env.bytes 139 = 136 := by kernel_rfl
@[go_sem] theorem by140 : L.env.bytes 140 = 0 := by kernel_rfl
@[go_sem] theorem by141 : L.env.bytes 141 = 8 := by kernel_rfl
@[go_sem] theorem by142 : L.env.bytes 142 = 8 := by kernel_rfl
@[go_sem] theorem by143 : L.env.bytes 143 = 8 := by kernel_rfl
@[go_sem] theorem by144 : L.env.bytes 144 = 8 := by kernel_rfl
@[go_sem] theorem by145 : L.env.bytes 145 = 8 := by kernel_rfl
@[go_sem] theorem by146 : L.env.bytes 146 = 8 := by kernel_rfl
@[go_sem] theorem by147 : L.env.bytes 147 = 8 := by kernel_rfl
@[go_sem] theorem by148 : L.env.bytes 148 = 8 := by kernel_rfl
@[go_sem] theorem by149 : L.env.bytes 149 = 64 := by kernel_rfl
@[go_sem] theorem by150 : L.env.bytes 150 = 8 := by kernel_rfl
@[go_sem] theorem by151 : L.env.bytes 151 = 0 := by kernel_rfl
@[go_sem] theorem by152 : L.env.bytes 152 = 8 := by kernel_rfl
@[go_sem] theorem by153 : L.env.bytes 153 = 8 := by kernel_rfl
@[go_sem] theorem by154 : L.env.bytes 154 = 8 := by kernel_rfl
@[go_sem] theorem by155 : L.env.bytes 155 = 8 := by kernel_rfl
@[go_sem] theorem by156 : L.env.bytes 156 = 8 := by kernel_rfl
@[go_sem] theorem by157 : L.env.bytes 157 = 120 := by kernel_rfl
@[go_sem] theorem by158 : L.env.bytes 158 = 120 := by kernel_rfl
@[go_sem] theorem by159 : L.env.bytes 159 = 8 := by kernel_rfl
@[go_sem] theorem by160 : L.env.bytes 160 = 8 := by kernel_rfl
@[go_sem] theorem by161 : L.env.bytes 161 = 8 := by kernel_rfl
@[go_sem] theorem by162 : L.env.bytes 162 = 8 := by kernel_rfl
@[go_sem] theorem by163 : L.env.bytes 163 = 8 := by kernel_rfl
@[go_sem] theorem by164 : L.env.bytes 164 = 8 := by kernel_rfl
@[go_sem] theorem by165 : L.env.bytes 165 = 8 := by kernel_rfl
@[go_sem] theorem by166 : L.env.bytes 166 = 8 := by kernel_rfl
@[go_sem] theorem by167 : L.env.bytes 167 = 8 := by kernel_rfl
@[go_sem] theorem by168 : L.env.bytes 168 = 8 := by kernel_rfl
@[go_sem] theorem by169 : L.env.bytes 169 = 8 := by kernel_rfl
@[go_sem] theorem by170 : L.env.bytes 170 = 8 := by kernel_rfl
@[go_sem] theorem by171 : L.env.bytes 171 = 8 := by kernel_rfl
@[go_sem] theorem by172 : L.env.bytes 172 = 24 := by kernel_rfl
@[go_sem] theorem by173 : L.env.bytes 173 = 8 := by kernel_rfl
@[go_sem] theorem by174 : L.env.bytes 174 = 8 := by kernel_rfl
@[go_sem] theorem by175 : L.env.bytes 175 = 8 := by kernel_rfl
@[go_sem] theorem by176 : L.env.bytes 176 = 24 := by kernel_rfl
@[go_sem] theorem by177 : L.env.bytes 177 = 8 := by kernel_rfl
@[go_sem] theorem by178 : L.env.bytes 178 = 8 := by kernel_rfl
@[go_sem] theorem by179 : L.env.bytes 179 = 16 := by kernel_rfl
@[go_sem] theorem by180 : L.env.bytes 180 = 256 := by kernel_rfl
@[go_sem] theorem by181 : L.env.bytes 181 = 8 := by kernel_rfl
@[go_sem] theorem by182 : L.env.bytes 182 = 8 := by kernel_rfl
@[go_sem] theorem by183 : L.env.bytes 183 = 8 := by kernel_rfl
@[go_sem] theorem by184 : L.env.bytes 184 = 8 := by kernel_rfl
@[go_sem] theorem by185 : L.env.bytes 185 = 8 := by kernel_rfl
@[go_sem] theorem by186 : L.env.bytes 186 = 8 := by kernel_rfl
@[go_sem] theorem by187 : L.env.bytes 187 = 8 := by kernel_rfl
@[go_sem] theorem by188 : L.env.bytes 188 = 8 := by kernel_rfl
@[go_sem] theorem by189 : L.env.bytes 189 = 8 := by kernel_rfl
@[go_sem] theorem by190 : L.env.bytes 190 = 8 := by kernel_rfl
@[go_sem] theorem by191 : L.env.bytes 191 = 8 := by kernel_rfl
@[go_sem] theorem by192 : L.env.bytes 192 = 8 := by kernel_rfl
@[go_sem] theorem by193 : L.env.bytes 193 = 8 := by kernel_rfl
@[go_sem] theorem by194 : L.env.bytes 194 = 8 := by kernel_rfl
@[go_sem] theorem by195 : L.env.bytes 195 = 8 := by kernel_rfl
@[go_sem] theorem by196 : L.env.bytes 196 = 8 := by kernel_rfl
@[go_sem] theorem by197 : L.env.bytes 197 = 8 := by kernel_rfl
@[go_sem] theorem by198 : L.env.bytes 198 = 8 := by kernel_rfl
@[go_sem] theorem by199 : L.env.bytes 199 = 8 := by kernel_rfl
@[go_sem] theorem by200 : L.env.bytes 200 = 8 := by kernel_rfl
@[go_sem] theorem by201 : L.env.bytes 201 = 8 := by kernel_rfl
@[go_sem] theorem by202 : L.env.bytes 202 = 8 := by kernel_rfl
@[go_sem] theorem by203 : L.env.bytes 203 = 8 := by kernel_rfl
@[go_sem] theorem by204 : L.env.bytes 204 = 8 := by kernel_rfl
@[go_sem] theorem by205 : L.env.bytes 205 = 8 := by kernel_rfl
@[go_sem] theorem by206 : L.env.bytes 206 = 8 := by kernel_rfl
@[go_sem] theorem by207 : L.env.bytes 207 = 8 := by kernel_rfl
@[go_sem] theorem by208 : L.env.bytes 208 = 8 := by kernel_rfl
@[go_sem] theorem by209 : L.env.bytes 209 = 8 := by kernel_rfl
@[go_sem] theorem by210 : L.env.bytes 210 = 8 := by kernel_rfl
@[go_sem] theorem by211 : L.env.bytes 211 = 40 := by kernel_rfl
@[go_sem] theorem by212 : L.env.bytes 212 = 40 := by kernel_rfl
@[go_sem] theorem by213 : L.env.bytes 213 = 0 := by kernel_rfl
@[go_sem] theorem by214 : L.env.bytes 214 = 0 := by kernel_rfl
@[go_sem] theorem by215 : L.env.bytes 215 = 0 := by kernel_rfl
@[go_sem] theorem by216 : L.env.bytes 216 = 8 := by kernel_rfl
@[go_sem] theorem by217 : L.env.bytes 217 = 4 := by kernel_rfl
@[go_sem] theorem by218 : L.env.bytes 218 = 1 := by kernel_rfl
@[go_sem] theorem by219 : L.env.bytes 219 = 1 := by kernel_rfl
@[go_sem] theorem by220 : L.env.bytes 220 = 8 := by kernel_rfl
@[go_sem] theorem by221 : L.env.bytes 221 = 8 := by kernel_rfl
@[go_sem] theorem by222 : L.env.bytes 222 = 4 := by kernel_rfl
@[go_sem] theorem by223 : L.env.bytes 223 = 4 := by kernel_rfl
@[go_sem] theorem by224 : L.env.bytes 224 = 48 := by kernel_rfl
@[go_sem] theorem by225 : L.env.bytes 225 = 48 := by kernel_rfl
@[go_sem] theorem by226 : L.env.bytes 226 = 8 := by kernel_rfl
@[go_sem] theorem is0 : isT L.env 0 = true := by kernel_rfl
@[go_sem] theorem sz0 : L.env.sz 0 = 1 := by kernel_rfl
@[go_sem] theorem ag0 : aggT L.env 0 = some false := by kernel_rfl
@[go_sem] theorem is1 : isT L.env 1 = true := by kernel_rfl
@[go_sem] theorem sz1 : L.env.sz 1 = 1 := by kernel_rfl
@[go_sem] theorem ag1 : aggT L.env 1 = some false := by kernel_rfl
@[go_sem] theorem ze1 : L.env.zero 1 = some [.nilfunc] := by kernel_rfl
@[go_sem] theorem is2 : isT L.env 2 = true := by kernel_rfl
@[go_sem] theorem sz2 : L.env.sz 2 = 1 := by kernel_rfl
@[go_sem] theorem ag2 : aggT L.env 2 = some false := by kernel_rfl
@[go_sem] theorem un2 : L.env.und 2 = some (.int .i64) := by kernel_rfl
@[go_sem] theorem in2 : intT L.env 2 = some .i64 := by kernel_rfl
@[go_sem] theorem ze2 : L.env.zero 2 = some [.int .i64 0] := by kernel_rfl
@[go_sem] theorem is3 : isT L.env 3 = true := by kernel_rfl
@[go_sem] theorem sz3 : L.env.sz 3 = 1 := by kernel_rfl
@[go_sem] theorem ag3 : aggT L.env 3 = some false := by kernel_rfl
@[go_sem] theorem un3 : L.env.und 3 = some (.int .i64) := by kernel_rfl
@[go_sem] theorem in3 : intT L.env 3 = some .i64 := by kernel_rfl
@[go_sem] theorem ze3 : L.env.zero 3 = some [.int .i64 0] := by kernel_rfl
@[go_sem] theorem is4 : isT L.env 4 = true := by kernel_rfl
@[go_sem] theorem sz4 : L.env.sz 4 = 1 := by kernel_rfl
@[go_sem] theorem ag4 : aggT L.env 4 = some false := by kernel_rfl
@[go_sem] theorem un4 : L.env.und 4 = some .bool := by kernel_rfl
@[go_sem] theorem ze4 : L.env.zero 4 = some [.bool false] := by kernel_rfl
@[go_sem] theorem is5 : isT L.env 5 = true := by kernel_rfl
@[go_sem] theorem sz5 : L.env.sz 5 = 1 := by kernel_rfl
@[go_sem] theorem ag5 : aggT L.env 5 = some false := by kernel_rfl
@[go_sem] theorem un5 : L.env.und 5 = some (.int .u8) := by kernel_rfl
@[go_sem] theorem in5 : intT L.env 5 = some .u8 := by kernel_rfl
@[go_sem] theorem ze5 : L.env.zero 5 = some [.int .u8 0] := by kernel_rfl
@[go_sem] theorem is6 : isT L.env 6 = true := by kernel_rfl
@[go_sem] theorem sz6 : L.env.sz 6 = 1 := by kernel_rfl
@[go_sem] theorem ag6 : aggT L.env 6 = some false := by kernel_rfl
@[go_sem] theorem un6 : L.env.und 6 = some (.int .u8) := by kernel_rfl
@[go_sem] theorem in6 : intT L.env 6 = some .u8 := by kernel_rfl
@[go_sem] theorem ze6 : L.env.zero 6 = some [.int .u8 0] := by kernel_rfl
@[go_sem] theorem is7 : isT L.env 7 = true := by kernel_rfl
@[go_sem] theorem sz7 : L.env.sz 7 = 4 := by kernel_rfl
@[go_sem] theorem ag7 : aggT L.env 7 = some true := by kernel_rfl
theorem ui7 : (L.env.und 7).isSome = true := by kernel_rfl
@[go_sem] theorem bl7 : bldT L.env 7 = true := by kernel_rfl
theorem ft7 : fieldsT L.env 7 = some [2, 3, 4, 6] := by kernel_rfl
@[go_sem] theorem fl7_0 : fldT L.env 7 0 = some (0, 2) := by kernel_rfl
@[go_sem] theorem pl7_0 : plcT L.env 7 0 = some (0, 1) := by kernel_rfl
@[go_sem] theorem fl7_1 : fldT L.env 7 1 = some (1, 3) := by kernel_rfl
@[go_sem] theorem pl7_1 : plcT L.env 7 1 = some (1, 1) := by kernel_rfl
@[go_sem] theorem fl7_2 : fldT L.env 7 2 = some (2, 4) := by kernel_rfl
@[go_sem] theorem pl7_2 : plcT L.env 7 2 = some (2, 1) := by kernel_rfl
@[go_sem] theorem fl7_3 : fldT L.env 7 3 = some (3, 6) := by kernel_rfl
@[go_sem] theorem pl7_3 : plcT L.env 7 3 = some (3, 1) := by kernel_rfl
@[go_sem] theorem ze7 : L.env.zero 7 = some [.int .i64 0, .int .i64 0, .bool false, .int .u8 0] := by kernel_rfl
@[go_sem] theorem is8 : isT L.env 8 = true := by kernel_rfl
@[go_sem] theorem sz8 : L.env.sz 8 = 4 := by kernel_rfl
@[go_sem] theorem ag8 : aggT L.env 8 = some true := by kernel_rfl
theorem ui8 : (L.env.und 8).isSome = true := by kernel_rfl
@[go_sem] theorem bl8 : bldT L.env 8 = true := by kernel_rfl
theorem ft8 : fieldsT L.env 8 = some [2, 3, 4, 6] := by kernel_rfl
@[go_sem] theorem fl8_0 : fldT L.env 8 0 = some (0, 2) := by kernel_rfl
@[go_sem] theorem pl8_0 : plcT L.env 8 0 = some (0, 1) := by kernel_rfl
@[go_sem] theorem fl8_1 : fldT L.env 8 1 = some (1, 3) := by kernel_rfl
@[go_sem] theorem pl8_1 : plcT L.env 8 1 = some (1, 1) := by kernel_rfl
@[go_sem] theorem fl8_2 : fldT L.env 8 2 = some (2, 4) := by kernel_rfl
@[go_sem] theorem pl8_2 : plcT L.env 8 2 = some (2, 1) := by kernel_rfl
@[go_sem] theorem fl8_3 : fldT L.env 8 3 = some (3, 6) := by kernel_rfl
@[go_sem] theorem pl8_3 : plcT L.env 8 3 = some (3, 1) := by kernel_rfl
@[go_sem] theorem ze8 : L.env.zero 8 = some [.int .i64 0, .int .i64 0, .bool false, .int .u8 0] := by kernel_rfl
@[go_sem] theorem is9 : isT L.env 9 = true := by kernel_rfl
@[go_sem] theorem sz9 : L.env.sz 9 = 1 := by kernel_rfl
@[go_sem] theorem ag9 : aggT L.env 9 = some false := by kernel_rfl
@[go_sem] theorem un9 : L.env.und 9 = some .string := by kernel_rfl
@[go_sem] theorem sr9 : strT L.env 9 = true := by kernel_rfl
@[go_sem] theorem ze9 : L.env.zero 9 = some [.str []] := by kernel_rfl
@[go_sem] theorem is10 : isT L.env 10 = true := by kernel_rfl
@[go_sem] theorem sz10 : L.env.sz 10 = 1 := by kernel_rfl
@[go_sem] theorem ag10 : aggT L.env 10 = some false := by kernel_rfl
@[go_sem] theorem un10 : L.env.und 10 = some .string := by kernel_rfl
@[go_sem] theorem sr10 : strT L.env 10 = true := by kernel_rfl
@[go_sem] theorem ze10 : L.env.zero 10 = some [.str []] := by kernel_rfl
@[go_sem] theorem is11 : isT L.env 11 = true := by kernel_rfl
@[go_sem] theorem sz11 : L.env.sz 11 = 1 := by kernel_rfl
@[go_sem] theorem ag11 : aggT L.env 11 = some false := by kernel_rfl
@[go_sem] theorem un11 : L.env.und 11 = some .string := by kernel_rfl
@[go_sem] theorem sr11 : strT L.env 11 = true := by kernel_rfl
@[go_sem] theorem ze11 : L.env.zero 11 = some [.str []] := by kernel_rfl
@[go_sem] theorem is12 : isT L.env 12 = true := by kernel_rfl
@[go_sem] theorem sz12 : L.env.sz 12 = 1 := by kernel_rfl
@[go_sem] theorem ag12 : aggT L.env 12 = some false := by kernel_rfl
@[go_sem] theorem un12 : L.env.und 12 = some (.int .u64) := by kernel_rfl
@[go_sem] theorem in12 : intT L.env 12 = some .u64 := by kernel_rfl
@[go_sem] theorem ze12 : L.env.zero 12 = some [.int .u64 0] := by kernel_rfl
@[go_sem] theorem is13 : isT L.env 13 = true := by kernel_rfl
@[go_sem] theorem sz13 : L.env.sz 13 = 2 := by kernel_rfl
@[go_sem] theorem ag13 : aggT L.env 13 = some true := by kernel_rfl
theorem ui13 : (L.env.und 13).isSome = true := by kernel_rfl
@[go_sem] theorem bl13 : bldT L.env 13 = true := by kernel_rfl
theorem ft13 : fieldsT L.env 13 = some [9, 12] := by kernel_rfl
@[go_sem] theorem fl13_0 : fldT L.env 13 0 = some (0, 9) := by kernel_rfl
@[go_sem] theorem pl13_0 : plcT L.env 13 0 = some (0, 1) := by kernel_rfl
@[go_sem] theorem fl13_1 : fldT L.env 13 1 = some (1, 12) := by kernel_rfl
@[go_sem] theorem pl13_1 : plcT L.env 13 1 = some (1, 1) := by kernel_rfl
@[go_sem] theorem ze13 : L.env.zero 13 = some [.str [], .int .u64 0] := by kernel_rfl
@[go_sem] theorem is14 : isT L.env 14 = true := by kernel_rfl
@[go_sem] theorem sz14 : L.env.sz 14 = 2 := by kernel_rfl
@[go_sem] theorem ag14 : aggT L.env 14 = some true := by kernel_rfl
theorem ui14 : (L.env.und 14).isSome = true := by kernel_rfl
@[go_sem] theorem bl14 : bldT L.env 14 = true := by kernel_rfl
theorem ft14 : fieldsT L.env 14 = some [9, 12] := by kernel_rfl
@[go_sem] theorem fl14_0 : fldT L.env 14 0 = some (0, 9) := by kernel_rfl
@[go_sem] theorem pl14_0 : plcT L.env 14 0 = some (0, 1) := by kernel_rfl
@[go_sem] theorem fl14_1 : fldT L.env 14 1 = some (1, 12) := by kernel_rfl
@[go_sem] theorem pl14_1 : plcT L.env 14 1 = some (1, 1) := by kernel_rfl
@[go_sem] theorem ze14 : L.env.zero 14 = some [.str [], .int .u64 0] := by kernel_rfl
@[go_sem] theorem is15 : isT L.env 15 = true := by kernel_rfl
@[go_sem] theorem sz15 : L.env.sz 15 = 1 := by kernel_rfl
@[go_sem] theorem ag15 : aggT L.env 15 = some false := by kernel_rfl
@[go_sem] theorem un15 : L.env.und 15 = some (.pointer 212) := by kernel_rfl
@[go_sem] theorem ze15 : L.env.zero 15 = some [.nilptr] := by kernel_rfl
@[go_sem] theorem is16 : isT L.env 16 = true := by kernel_rfl
@[go_sem] theorem sz16 : L.env.sz 16 = 1 := by kernel_rfl
@[go_sem] theorem ag16 : aggT L.env 16 = some false := by kernel_rfl
@[go_sem] theorem un16 : L.env.und 16 = some (.pointer 215) := by kernel_rfl
@[go_sem] theorem ze16 : L.env.zero 16 = some [.nilptr] := by kernel_rfl
@[go_sem] theorem is17 : isT L.env 17 = true := by kernel_rfl
@[go_sem] theorem sz17 : L.env.sz 17 = 1 := by kernel_rfl
@[go_sem] theorem ag17 : aggT L.env 17 = some false := by kernel_rfl
@[go_sem] theorem un17 : L.env.und 17 = some (.pointer 225) := by kernel_rfl
@[go_sem] theorem ze17 : L.env.zero 17 = some [.nilptr] := by kernel_rfl
@[go_sem] theorem is18 : isT L.env 18 = true := by kernel_rfl
@[go_sem] theorem sz18 : L.env.sz 18 = 1 := by kernel_rfl
@[go_sem] theorem ag18 : aggT L.env 18 = some true := by kernel_rfl
theorem ui18 : (L.env.und 18).isSome = true := by kernel_rfl
@[go_sem] theorem bl18 : bldT L.env 18 = true := by kernel_rfl
theorem ft18 : fieldsT L.env 18 = some [17] := by kernel_rfl
@[go_sem] theorem fl18_0 : fldT L.env 18 0 = some (0, 17) := by kernel_rfl
@[go_sem] theorem pl18_0 : plcT L.env 18 0 = some (0, 1) := by kernel_rfl
@[go_sem] theorem ze18 : L.env.zero 18 = some [.nilptr] := by kernel_rfl
@[go_sem] theorem is19 : isT L.env 19 = true := by kernel_rfl
@[go_sem] theorem sz19 : L.env.sz 19 = 1 := by kernel_rfl
@[go_sem] theorem ag19 : aggT L.env 19 = some true := by kernel_rfl
theorem ui19 : (L.env.und 19).isSome = true := by kernel_rfl
@[go_sem] theorem bl19 : bldT L.env 19 = true := by kernel_rfl
theorem ft19 : fieldsT L.env 19 = some [17] := by kernel_rfl
@[go_sem] theorem fl19_0 : fldT L.env 19 0 = some (0, 17) := by kernel_rfl
@[go_sem] theorem pl19_0 : plcT L.env 19 0 = some (0, 1) := by kernel_rfl
@[go_sem] theorem ze19 : L.env.zero 19 = some [.nilptr] := by kernel_rfl
@[go_sem] theorem is20 : isT L.env 20 = true := by kernel_rfl
@[go_sem] theorem sz20 : L.env.sz 20 = 1 := by kernel_rfl
@[go_sem] theorem ag20 : aggT L.env 20 = some false := by kernel_rfl
@[go_sem] theorem ze20 : L.env.zero 20 = some [.nilifc] := by kernel_rfl
@[go_sem] theorem is21 : isT L.env 21 = true := by kernel_rfl
@[go_sem] theorem sz21 : L.env.sz 21 = 1 := by kernel_rfl
@[go_sem] theorem ag21 : aggT L.env 21 = some false := by kernel_rfl
@[go_sem] theorem un21 : L.env.und 21 = some (.int .i32) := by kernel_rfl
@[go_sem] theorem in21 : intT L.env 21 = some .i32 := by kernel_rfl
@[go_sem] theorem ze21 : L.env.zero 21 = some [.int .i32 0] := by kernel_rfl
@[go_sem] theorem is22 : isT L.env 22 = true := by kernel_rfl
@[go_sem] theorem sz22 : L.env.sz 22 = 2 := by kernel_rfl
@[go_sem] theorem ag22 : aggT L.env 22 = some true := by kernel_rfl
@[go_sem] theorem un22 : L.env.und 22 = some (.array 2 5) := by kernel_rfl
@[go_sem] theorem ar22 : arrT L.env 22 = some (2, 5) := by kernel_rfl
@[go_sem] theorem bl22 : bldT L.env 22 = true := by kernel_rfl
@[go_sem] theorem ze22 : L.env.zero 22 = some [.int .u8 0, .int .u8 0] := by kernel_rfl
@[go_sem] theorem is23 : isT L.env 23 = true := by kernel_rfl
@[go_sem] theorem sz23 : L.env.sz 23 = 4 := by kernel_rfl
@[go_sem] theorem ag23 : aggT L.env 23 = some true := by kernel_rfl
@[go_sem] theorem un23 : L.env.und 23 = some (.array 4 5) := by kernel_rfl
@[go_sem] theorem ar23 : arrT L.env 23 = some (4, 5) := by kernel_rfl
@[go_sem] theorem bl23 : bldT L.env 23 = true := by kernel_rfl
@[go_sem] theorem ze23 : L.env.zero 23 = some [.int .u8 0, .int .u8 0, .int .u8 0, .int .u8 0] := by kernel_rfl
@[go_sem] theorem is24 : isT L.env 24 = true := by kernel_rfl
@[go_sem] theorem sz24 : L.env.sz 24 = 1 := by kernel_rfl
@[go_sem] theorem ag24 : aggT L.env 24 = some false := by kernel_rfl
@[go_sem] theorem un24 : L.env.und 24 = some (.slice 127) := by kernel_rfl
@[go_sem] theorem st24 : slT L.env 24 = some 127 := by kernel_rfl
@[go_sem] theorem ap24 : apT L.env 24 24 = some 127 := by kernel_rfl
@[go_sem] theorem rm24 {k : Nat} (h : (k ≤ 1000000000) = True) : roomOk L.env 127 k = true := room_ok (of_eq_true h) (by rw [by127]; decide)
@[go_sem] theorem mk24 {k : Nat} (h : (k ≤ 1000000000) = True) : mkOk L.env 127 (k : Int) (k : Int) = true := mkOk_nat (of_eq_true h) (by rw [by127]; decide)
@[go_sem] theorem ze24 : L.env.zero 24 = some [.nilslice] := by kernel_rfl
@[go_sem] theorem is25 : isT L.env 25 = true := by kernel_rfl
@[go_sem] theorem sz25 : L.env.sz 25 = 1 := by kernel_rfl
@[go_sem] theorem ag25 : aggT L.env 25 = some false := by kernel_rfl
@[go_sem] theorem un25 : L.env.und 25 = some (.slice 5) := by kernel_rfl
@[go_sem] theorem st25 : slT L.env 25 = some 5 := by kernel_rfl
@[go_sem] theorem bs25 : byT L.env 25 9 = true := by kernel_rfl
@[go_sem] theorem ap25 : apT L.env 25 25 = some 5 := by kernel_rfl
@[go_sem] theorem rm25 {k : Nat} (h : (k ≤ 1000000000) = True) : roomOk L.env 5 k = true := room_ok (of_eq_true h) (by rw [by5]; decide)
@[go_sem] theorem mk25 {k : Nat} (h : (k ≤ 1000000000) = True) : mkOk L.env 5 (k : Int) (k : Int) = true := mkOk_nat (of_eq_true h) (by rw [by5]; decide)
@[go_sem] theorem ze25 : L.env.zero 25 = some [.nilslice] := by kernel_rfl
@[go_sem] theorem is26 : isT L.env 26 = true := by kernel_rfl
@[go_sem] theorem sz26 : L.env.sz 26 = 12 := by kernel_rfl
@[go_sem] theorem ag26 : aggT L.env 26 = some true := by kernel_rfl
theorem ui26 : (L.env.und 26).isSome = true := by kernel_rfl
@[go_sem] theorem bl26 : bldT L.env 26 = true := by kernel_rfl
theorem ft26 : fieldsT L.env 26 = some [5, 5, 22, 4, 4, 23, 24, 25] := by kernel_rfl
@[go_sem] theorem fl26_0 : fldT L.env 26 0 = some (0, 5) := by kernel_rfl
@[go_sem] theorem pl26_0 : plcT L.env 26 0 = some (0, 1) := by kernel_rfl
@[go_sem] theorem fl26_1 : fldT L.env 26 1 = some (1, 5) := by kernel_rfl
@[go_sem] theorem pl26_1 : plcT L.env 26 1 = some (1, 1) := by kernel_rfl
@[go_sem] theorem fl26_2 : fldT L.env 26 2 = some (2, 22) := by kernel_rfl
@[go_sem] theorem pl26_2 : plcT L.env 26 2 = some (2, 2) := by kernel_rfl
@[go_sem] theorem fl26_3 : fldT L.env 26 3 = some (4, 4) := by kernel_rfl
@[go_sem] theorem pl26_3 : plcT L.env 26 3 = some (4, 1) := by kernel_rfl
@[go_sem] theorem fl26_4 : fldT L.env 26 4 = some (5, 4) := by kernel_rfl
@[go_sem] theorem pl26_4 : plcT L.env 26 4 = some (5, 1) := by kernel_rfl
@[go_sem] theorem fl26_5 : fldT L.env 26 5 = some (6, 23) := by kernel_rfl
@[go_sem] theorem pl26_5 : plcT L.env 26 5 = some (6, 4) := by kernel_rfl
@[go_sem] theorem fl26_6 : fldT L.env 26 6 = some (10, 24) := by kernel_rfl
@[go_sem] theorem pl26_6 : plcT L.env 26 6 = some (10, 1) := by kernel_rfl
@[go_sem] theorem fl26_7 : fldT L.env 26 7 = some (11, 25) := by kernel_rfl
@[go_sem] theorem pl26_7 : plcT L.env 26 7 = some (11, 1) := by kernel_rfl
@[go_sem] theorem ze26 : L.env.zero 26 = some [.int .u8 0, .int .u8 0, .int .u8 0, .int .u8 0, .bool false, .bool false, .int .u8 0, .int .u8 0, .int .u8 0, .int .u8 0, .nilslice, .nilslice] := by kernel_rfl
@[go_sem] theorem is27 : isT L.env 27 = true := by kernel_rfl
@[go_sem] theorem sz27 : L.env.sz 27 = 12 := by kernel_rfl
@[go_sem] theorem ag27 : aggT L.env 27 = some true := by kernel_rfl
theorem ui27 : (L.env.und 27).isSome = true := by kernel_rfl
@[go_sem] theorem bl27 : bldT L.env 27 = true := by kernel_rfl
theorem ft27 : fieldsT L.env 27 = some [5, 5, 22, 4, 4, 23, 24, 25] := by kernel_rfl
@[go_sem] theorem fl27_0 : fldT L.env 27 0 = some (0, 5) := by kernel_rfl
@[go_sem] theorem pl27_0 : plcT L.env 27 0 = some (0, 1) := by kernel_rfl
@[go_sem] theorem fl27_1 : fldT L.env 27 1 = some (1, 5) := by kernel_rfl
@[go_sem] theorem pl27_1 : plcT L.env 27 1 = some (1, 1) := by kernel_rfl
@[go_sem] theorem fl27_2 : fldT L.env 27 2 = some (2, 22) := by kernel_rfl
@[go_sem] theorem pl27_2 : plcT L.env 27 2 = some (2, 2) := by kernel_rfl
@[go_sem] theorem fl27_3 : fldT L.env 27 3 = some (4, 4) := by kernel_rfl
@[go_sem] theorem pl27_3 : plcT L.env 27 3 = some (4, 1) := by kernel_rfl
@[go_sem] theorem fl27_4 : fldT L.env 27 4 = some (5, 4) := by kernel_rfl
@[go_sem] theorem pl27_4 : plcT L.env 27 4 = some (5, 1) := by kernel_rfl
@[go_sem] theorem fl27_5 : fldT L.env 27 5 = some (6, 23) := by kernel_rfl
@[go_sem] theorem pl27_5 : plcT L.env 27 5 = some (6, 4) := by kernel_rfl
@[go_sem] theorem fl27_6 : fldT L.env 27 6 = some (10, 24) := by kernel_rfl
@[go_sem] theorem pl27_6 : plcT L.env 27 6 = some (10, 1) := by kernel_rfl
@[go_sem] theorem fl27_7 : fldT L.env 27 7 = some (11, 25) := by kernel_rfl
@[go_sem] theorem pl27_7 : plcT L.env 27 7 = some (11, 1) := by kernel_rfl
@[go_sem] theorem ze27 : L.env.zero 27 = some [.int .u8 0, .int .u8 0, .int .u8 0, .int .u8 0, .bool false, .bool false, .int .u8 0, .int .u8 0, .int .u8 0, .int .u8 0, .nilslice, .nilslice] := by kernel_rfl
@[go_sem] theorem is28 : isT L.env 28 = true := by kernel_rfl
@[go_sem] theorem sz28 : L.env.sz 28 = 1 := by kernel_rfl
@[go_sem] theorem ag28 : aggT L.env 28 = some false := by kernel_rfl
@[go_sem] theorem un28 : L.env.und 28 = some (.slice 72) := by kernel_rfl
@[go_sem] theorem st28 : slT L.env 28 = some 72 := by kernel_rfl
@[go_sem] theorem ap28 : apT L.env 28 28 = some 72 := by kernel_rfl
@[go_sem] theorem rm28 {k : Nat} (h : (k ≤ 1000000000) = True) : roomOk L.env 72 k = true := room_ok (of_eq_true h) (by rw [by72]; decide)
@[go_sem] theorem mk28 {k : Nat} (h : (k ≤ 1000000000) = True) : mkOk L.env 72 (k : Int) (k : Int) = true := mkOk_nat (of_eq_true h) (by rw [by72]; decide)
@[go_sem] theorem ze28 : L.env.zero 28 = some [.nilslice] := by kernel_rfl
@[go_sem] theorem is29 : isT L.env 29 = true := by kernel_rfl
@[go_sem] theorem sz29 : L.env.sz 29 = 1 := by kernel_rfl
@[go_sem] theorem ag29 : aggT L.env 29 = some false := by kernel_rfl
@[go_sem] theorem un29 : L.env.und 29 = some (.slice 66) := by kernel_rfl
@[go_sem] theorem st29 : slT L.env 29 = some 66 := by kernel_rfl
@[go_sem] theorem ap29 : apT L.env 29 29 = some 66 := by kernel_rfl
@[go_sem] theorem rm29 {k : Nat} (h : (k ≤ 1000000000) = True) : roomOk L.env 66 k = true := room_ok (of_eq_true h) (by rw [by66]; decide)
@[go_sem] theorem mk29 {k : Nat} (h : (k ≤ 1000000000) = True) : mkOk L.env 66 (k : Int) (k : Int) = true := mkOk_nat (of_eq_true h) (by rw [by66]; decide)
@[go_sem] theorem ze29 : L.env.zero 29 = some [.nilslice] := by kernel_rfl
@[go_sem] theorem is30 : isT L.env 30 = true := by kernel_rfl
@[go_sem] theorem sz30 : L.env.sz 30 = 14 := by kernel_rfl
@[go_sem] theorem ag30 : aggT L.env 30 = some true := by kernel_rfl
theorem ui30 : (L.env.und 30).isSome = true := by kernel_rfl
@[go_sem] theorem bl30 : bldT L.env 30 = true := by kernel_rfl
theorem ft30 : fieldsT L.env 30 = some [27, 28, 29] := by kernel_rfl
@[go_sem] theorem fl30_0 : fldT L.env 30 0 = some (0, 27) := by kernel_rfl
@[go_sem] theorem pl30_0 : plcT L.env 30 0 = some (0, 12) := by kernel_rfl
@[go_sem] theorem fl30_1 : fldT L.env 30 1 = some (12, 28) := by kernel_rfl
@[go_sem] theorem pl30_1 : plcT L.env 30 1 = some (12, 1) := by kernel_rfl
@[go_sem] theorem fl30_2 : fldT L.env 30 2 = some (13, 29) := by kernel_rfl
@[go_sem] theorem pl30_2 : plcT L.env 30 2 = some (13, 1) := by kernel_rfl
@[go_sem] theorem ze30 : L.env.zero 30 = some [.int .u8 0, .int .u8 0, .int .u8 0, .int .u8 0, .bool false, .bool false, .int .u8 0, .int .u8 0, .int .u8 0, .int .u8 0, .nilslice, .nilslice, .nilslice, .nilslice] := by kernel_rfl
@[go_sem] theorem is31 : isT L.env 31 = true := by kernel_rfl
@[go_sem] theorem sz31 : L.env.sz 31 = 14 := by kernel_rfl
@[go_sem] theorem ag31 : aggT L.env 31 = some true := by kernel_rfl
theorem ui31 : (L.env.und 31).isSome = true := by kernel_rfl
@[go_sem] theorem bl31 : bldT L.env 31 = true := by kernel_rfl
theorem ft31 : fieldsT L.env 31 = some [27, 28, 29] := by kernel_rfl
@[go_sem] theorem fl31_0 : fldT L.env 31 0 = some (0, 27) := by kernel_rfl
@[go_sem] theorem pl31_0 : plcT L.env 31 0 = some (0, 12) := by kernel_rfl
@[go_sem] theorem fl31_1 : fldT L.env 31 1 = some (12, 28) := by kernel_rfl
@[go_sem] theorem pl31_1 : plcT L.env 31 1 = some (12, 1) := by kernel_rfl
@[go_sem] theorem fl31_2 : fldT L.env 31 2 = some (13, 29) := by kernel_rfl
@[go_sem] theorem pl31_2 : plcT L.env 31 2 = some (13, 1) := by kernel_rfl
@[go_sem] theorem ze31 : L.env.zero 31 = some [.int .u8 0, .int .u8 0, .int .u8 0, .int .u8 0, .bool false, .bool false, .int .u8 0, .int .u8 0, .int .u8 0, .int .u8 0, .nilslice, .nilslice, .nilslice, .nilslice] := by kernel_rfl
@[go_sem] theorem is32 : isT L.env 32 = true := by kernel_rfl
@[go_sem] theorem sz32 : L.env.sz 32 = 1 := by kernel_rfl
@[go_sem] theorem ag32 : aggT L.env 32 = some false := by kernel_rfl
@[go_sem] theorem un32 : L.env.und 32 = some (.slice 102) := by kernel_rfl
@[go_sem] theorem st32 : slT L.env 32 = some 102 := by kernel_rfl
@[go_sem] theorem ap32 : apT L.env 32 32 = some 102 := by kernel_rfl
@[go_sem] theorem rm32 {k : Nat} (h : (k ≤ 1000000000) = True) : roomOk L.env 102 k = true := room_ok (of_eq_true h) (by rw [by102]; decide)
@[go_sem] theorem mk32 {k : Nat} (h : (k ≤ 1000000000) = True) : mkOk L.env 102 (k : Int) (k : Int) = true := mkOk_nat (of_eq_true h) (by rw [by102]; decide)
@[go_sem] theorem ze32 : L.env.zero 32 = some [.nilslice] := by kernel_rfl
@[go_sem] theorem is33 : isT L.env 33 = true := by kernel_rfl
@[go_sem] theorem sz33 : L.env.sz 33 = 1 := by kernel_rfl
@[go_sem] theorem ag33 : aggT L.env 33 = some false := by kernel_rfl
@[go_sem] theorem un33 : L.env.und 33 = some (.slice 9) := by kernel_rfl
@[go_sem] theorem st33 : slT L.env 33 = some 9 := by kernel_rfl
@[go_sem] theorem ap33 : apT L.env 33 33 = some 9 := by kernel_rfl
@[go_sem] theorem rm33 {k : Nat} (h : (k ≤ 1000000000) = True) : roomOk L.env 9 k = true := room_ok (of_eq_true h) (by rw [by9]; decide)
@[go_sem] theorem mk33 {k : Nat} (h : (k ≤ 1000000000) = True) : mkOk L.env 9 (k : Int) (k : Int) = true := mkOk_nat (of_eq_true h) (by rw [by9]; decide)
@[go_sem] theorem ze33 : L.env.zero 33 = some [.nilslice] := by kernel_rfl
@[go_sem] theorem is34 : isT L.env 34 = true := by kernel_rfl
@[go_sem] theorem sz34 : L.env.sz 34 = 1 := by kernel_rfl
@[go_sem] theorem ag34 : aggT L.env 34 = some false := by kernel_rfl
@[go_sem] theorem un34 : L.env.und 34 = some (.slice 129) := by kernel_rfl
@[go_sem] theorem st34 : slT L.env 34 = some 129 := by kernel_rfl
@[go_sem] theorem ap34 : apT L.env 34 34 = some 129 := by kernel_rfl
@[go_sem] theorem rm34 {k : Nat} (h : (k ≤ 1000000000) = True) : roomOk L.env 129 k = true := room_ok (of_eq_true h) (by rw [by129]; decide)
@[go_sem] theorem mk34 {k : Nat} (h : (k ≤ 1000000000) = True) : mkOk L.env 129 (k : Int) (k : Int) = true := mkOk_nat (of_eq_true h) (by rw [by129]; decide)
@[go_sem] theorem ze34 : L.env.zero 34 = some [.nilslice] := by kernel_rfl
@[go_sem] theorem is35 : isT L.env 35 = true := by kernel_rfl
@[go_sem] theorem sz35 : L.env.sz 35 = 1 := by kernel_rfl
@[go_sem] theorem ag35 : aggT L.env 35 = some false := by kernel_rfl
@[go_sem] theorem un35 : L.env.und 35 = some (.slice 3) := by kernel_rfl
@[go_sem] theorem st35 : slT L.env 35 = some 3 := by kernel_rfl
@[go_sem] theorem ap35 : apT L.env 35 35 = some 3 := by kernel_rfl
@[go_sem] theorem rm35 {k : Nat} (h : (k ≤ 1000000000) = True) : roomOk L.env 3 k = true := room_ok (of_eq_true h) (by rw [by3]; decide)
@[go_sem] theorem mk35 {k : Nat} (h : (k ≤ 1000000000) = True) : mkOk L.env 3 (k : Int) (k : Int) = true := mkOk_nat (of_eq_true h) (by rw [by3]; decide)
@[go_sem] theorem ze35 : L.env.zero 35 = some [.nilslice] := by kernel_rfl
@[go_sem] theorem is36 : isT L.env 36 = true := by kernel_rfl
@[go_sem] theorem sz36 : L.env.sz 36 = 4 := by kernel_rfl
@[go_sem] theorem ag36 : aggT L.env 36 = some true := by kernel_rfl
theorem ui36 : (L.env.und 36).isSome = true := by kernel_rfl
@[go_sem] theorem bl36 : bldT L.env 36 = true := by kernel_rfl
theorem ft36 : fieldsT L.env 36 = some [32, 33, 34, 35] := by kernel_rfl
@[go_sem] theorem fl36_0 : fldT L.env 36 0 = some (0, 32) := by kernel_rfl
@[go_sem] theorem pl36_0 : plcT L.env 36 0 = some (0, 1) := by kernel_rfl
@[go_sem] theorem fl36_1 : fldT L.env 36 1 = some (1, 33) := by kernel_rfl
@[go_sem] theorem pl36_1 : plcT L.env 36 1 = some (1, 1) := by kernel_rfl
@[go_sem] theorem fl36_2 : fldT L.env 36 2 = some (2, 34) := by kernel_rfl
@[go_sem] theorem pl36_2 : plcT L.env 36 2 = some (2, 1) := by kernel_rfl
@[go_sem] theorem fl36_3 : fldT L.env 36 3 = some (3, 35) := by kernel_rfl
@[go_sem] theorem pl36_3 : plcT L.env 36 3 = some (3, 1) := by kernel_rfl
@[go_sem] theorem ze36 : L.env.zero 36 = some [.nilslice, .nilslice, .nilslice, .nilslice] := by kernel_rfl
@[go_sem] theorem is37 : isT L.env 37 = true := by kernel_rfl
@[go_sem] theorem sz37 : L.env.sz 37 = 4 := by kernel_rfl
@[go_sem] theorem ag37 : aggT L.env 37 = some true := by kernel_rfl
theorem ui37 : (L.env.und 37).isSome = true := by kernel_rfl
@[go_sem] theorem bl37 : bldT L.env 37 = true := by kernel_rfl
theorem ft37 : fieldsT L.env 37 = some [32, 33, 34, 35] := by kernel_rfl
@[go_sem] theorem fl37_0 : fldT L.env 37 0 = some (0, 32) := by kernel_rfl
@[go_sem] theorem pl37_0 : plcT L.env 37 0 = some (0, 1) := by kernel_rfl
@[go_sem] theorem fl37_1 : fldT L.env 37 1 = some (1, 33) := by kernel_rfl
@[go_sem] theorem pl37_1 : plcT L.env 37 1 = some (1, 1) := by kernel_rfl
@[go_sem] theorem fl37_2 : fldT L.env 37 2 = some (2, 34) := by kernel_rfl
@[go_sem] theorem pl37_2 : plcT L.env 37 2 = some (2, 1) := by kernel_rfl
@[go_sem] theorem fl37_3 : fldT L.env 37 3 = some (3, 35) := by kernel_rfl
@[go_sem] theorem pl37_3 : plcT L.env 37 3 = some (3, 1) := by kernel_rfl
@[go_sem] theorem ze37 : L.env.zero 37 = some [.nilslice, .nilslice, .nilslice, .nilslice] := by kernel_rfl
@[go_sem] theorem is38 : isT L.env 38 = true := by kernel_rfl
@[go_sem] theorem sz38 : L.env.sz 38 = 1 := by kernel_rfl
@[go_sem] theorem ag38 : aggT L.env 38 = some false := by kernel_rfl
@[go_sem] theorem un38 : L.env.und 38 = some (.slice 55) := by kernel_rfl
@[go_sem] theorem st38 : slT L.env 38 = some 55 := by kernel_rfl
@[go_sem] theorem ap38 : apT L.env 38 38 = some 55 := by kernel_rfl
@[go_sem] theorem rm38 {k : Nat} (h : (k ≤ 1000000000) = True) : roomOk L.env 55 k = true := room_ok (of_eq_true h) (by rw [by55]; decide)
@[go_sem] theorem mk38 {k : Nat} (h : (k ≤ 1000000000) = True) : mkOk L.env 55 (k : Int) (k : Int) = true := mkOk_nat (of_eq_true h) (by rw [by55]; decide)
@[go_sem] theorem ze38 : L.env.zero 38 = some [.nilslice] := by kernel_rfl
@[go_sem] theorem is39 : isT L.env 39 = true := by kernel_rfl
@[go_sem] theorem sz39 : L.env.sz 39 = 1 := by kernel_rfl
@[go_sem] theorem ag39 : aggT L.env 39 = some false := by kernel_rfl
@[go_sem] theorem un39 : L.env.und 39 = some (.slice 60) := by kernel_rfl
@[go_sem] theorem st39 : slT L.env 39 = some 60 := by kernel_rfl
@[go_sem] theorem ap39 : apT L.env 39 39 = some 60 := by kernel_rfl
@[go_sem] theorem rm39 {k : Nat} (h : (k ≤ 1000000000) = True) : roomOk L.env 60 k = true := room_ok (of_eq_true h) (by rw [by60]; decide)
@[go_sem] theorem mk39 {k : Nat} (h : (k ≤ 1000000000) = True) : mkOk L.env 60 (k : Int) (k : Int) = true := mkOk_nat (of_eq_true h) (by rw [by60]; decide)
@[go_sem] theorem ze39 : L.env.zero 39 = some [.nilslice] := by kernel_rfl
@[go_sem] theorem is40 : isT L.env 40 = true := by kernel_rfl
@[go_sem] theorem sz40 : L.env.sz 40 = 1 := by kernel_rfl
@[go_sem] theorem ag40 : aggT L.env 40 = some false := by kernel_rfl
@[go_sem] theorem is41 : isT L.env 41 = true := by kernel_rfl
@[go_sem] theorem sz41 : L.env.sz 41 = 1 := by kernel_rfl
@[go_sem] theorem ag41 : aggT L.env 41 = some false := by kernel_rfl
@[go_sem] theorem ze41 : L.env.zero 41 = some [.nilfunc] := by kernel_rfl
@[go_sem] theorem is42 : isT L.env 42 = true := by kernel_rfl
@[go_sem] theorem sz42 : L.env.sz 42 = 1 := by kernel_rfl
@[go_sem] theorem ag42 : aggT L.env 42 = some false := by kernel_rfl
@[go_sem] theorem un42 : L.env.und 42 = some (.slice 46) := by kernel_rfl
@[go_sem] theorem st42 : slT L.env 42 = some 46 := by kernel_rfl
@[go_sem] theorem ap42 : apT L.env 42 42 = some 46 := by kernel_rfl
@[go_sem] theorem rm42 {k : Nat} (h : (k ≤ 1000000000) = True) : roomOk L.env 46 k = true := room_ok (of_eq_true h) (by rw [by46]; decide)
@[go_sem] theorem mk42 {k : Nat} (h : (k ≤ 1000000000) = True) : mkOk L.env 46 (k : Int) (k : Int) = true := mkOk_nat (of_eq_true h) (by rw [by46]; decide)
@[go_sem] theorem ze42 : L.env.zero 42 = some [.nilslice] := by kernel_rfl
@[go_sem] theorem is43 : isT L.env 43 = true := by kernel_rfl
@[go_sem] theorem sz43 : L.env.sz 43 = 1 := by kernel_rfl
@[go_sem] theorem ag43 : aggT L.env 43 = some false := by kernel_rfl
@[go_sem] theorem un43 : L.env.und 43 = some (.int .i64) := by kernel_rfl
@[go_sem] theorem in43 : intT L.env 43 = some .i64 := by kernel_rfl
@[go_sem] theorem ze43 : L.env.zero 43 = some [.int .i64 0] := by kernel_rfl
@[go_sem] theorem is44 : isT L.env 44 = true := by kernel_rfl
@[go_sem] theorem sz44 : L.env.sz 44 = 1 := by kernel_rfl
@[go_sem] theorem ag44 : aggT L.env 44 = some false := by kernel_rfl
@[go_sem] theorem is45 : isT L.env 45 = true := by kernel_rfl
@[go_sem] theorem sz45 : L.env.sz 45 = 1 := by kernel_rfl
@[go_sem] theorem ag45 : aggT L.env 45 = some false := by kernel_rfl
@[go_sem] theorem ze45 : L.env.zero 45 = some [.nilfunc] := by kernel_rfl
@[go_sem] theorem is46 : isT L.env 46 = true := by kernel_rfl
@[go_sem] theorem sz46 : L.env.sz 46 = 1 := by kernel_rfl
@[go_sem] theorem ag46 : aggT L.env 46 = some false := by kernel_rfl
@[go_sem] theorem un46 : L.env.und 46 = some (.slice 82) := by kernel_rfl
@[go_sem] theorem st46 : slT L.env 46 = some 82 := by kernel_rfl
@[go_sem] theorem ap46 : apT L.env 46 46 = some 82 := by kernel_rfl
@[go_sem] theorem rm46 {k : Nat} (h : (k ≤ 1000000000) = True) : roomOk L.env 82 k = true := room_ok (of_eq_true h) (by rw [by82]; decide)
@[go_sem] theorem mk46 {k : Nat} (h : (k ≤ 1000000000) = True) : mkOk L.env 82 (k : Int) (k : Int) = true := mkOk_nat (of_eq_true h) (by rw [by82]; decide)
@[go_sem] theorem ze46 : L.env.zero 46 = some [.nilslice] := by kernel_rfl
@[go_sem] theorem is47 : isT L.env 47 = true := by kernel_rfl
@[go_sem] theorem sz47 : L.env.sz 47 = 1 := by kernel_rfl
@[go_sem] theorem ag47 : aggT L.env 47 = some false := by kernel_rfl
@[go_sem] theorem un47 : L.env.und 47 = some (.slice 4) := by kernel_rfl
@[go_sem] theorem st47 : slT L.env 47 = some 4 := by kernel_rfl
@[go_sem] theorem ap47 : apT L.env 47 47 = some 4 := by kernel_rfl
@[go_sem] theorem rm47 {k : Nat} (h : (k ≤ 1000000000) = True) : roomOk L.env 4 k = true := room_ok (of_eq_true h) (by rw [by4]; decide)
@[go_sem] theorem mk47 {k : Nat} (h : (k ≤ 1000000000) = True) : mkOk L.env 4 (k : Int) (k : Int) = true := mkOk_nat (of_eq_true h) (by rw [by4]; decide)
@[go_sem] theorem ze47 : L.env.zero 47 = some [.nilslice] := by kernel_rfl
@[go_sem] theorem is48 : isT L.env 48 = true := by kernel_rfl
@[go_sem] theorem sz48 : L.env.sz 48 = 1 := by kernel_rfl
@[go_sem] theorem ag48 : aggT L.env 48 = some false := by kernel_rfl
@[go_sem] theorem is49 : isT L.env 49 = true := by kernel_rfl
@[go_sem] theorem sz49 : L.env.sz 49 = 1 := by kernel_rfl
@[go_sem] theorem ag49 : aggT L.env 49 = some false := by kernel_rfl
@[go_sem] theorem ze49 : L.env.zero 49 = some [.nilfunc] := by kernel_rfl
@[go_sem] theorem is50 : isT L.env 50 = true := by kernel_rfl
@[go_sem] theorem sz50 : L.env.sz 50 = 1 := by kernel_rfl
@[go_sem] theorem ag50 : aggT L.env 50 = some false := by kernel_rfl
@[go_sem] theorem un50 : L.env.und 50 = some (.int .u8) := by kernel_rfl
@[go_sem] theorem in50 : intT L.env 50 = some .u8 := by kernel_rfl
@[go_sem] theorem ze50 : L.env.zero 50 = some [.int .u8 0] := by kernel_rfl
@[go_sem] theorem is51 : isT L.env 51 = true := by kernel_rfl
@[go_sem] theorem sz51 : L.env.sz 51 = 2 := by kernel_rfl
@[go_sem] theorem ag51 : aggT L.env 51 = some true := by kernel_rfl
theorem ui51 : (L.env.und 51).isSome = true := by kernel_rfl
@[go_sem] theorem bl51 : bldT L.env 51 = true := by kernel_rfl
theorem ft51 : fieldsT L.env 51 = some [3, 3] := by kernel_rfl
@[go_sem] theorem fl51_0 : fldT L.env 51 0 = some (0, 3) := by kernel_rfl
@[go_sem] theorem pl51_0 : plcT L.env 51 0 = some (0, 1) := by kernel_rfl
@[go_sem] theorem fl51_1 : fldT L.env 51 1 = some (1, 3) := by kernel_rfl
@[go_sem] theorem pl51_1 : plcT L.env 51 1 = some (1, 1) := by kernel_rfl
@[go_sem] theorem ze51 : L.env.zero 51 = some [.int .i64 0, .int .i64 0] := by kernel_rfl
@[go_sem] theorem is52 : isT L.env 52 = true := by kernel_rfl
@[go_sem] theorem sz52 : L.env.sz 52 = 2 := by kernel_rfl
@[go_sem] theorem ag52 : aggT L.env 52 = some true := by kernel_rfl
theorem ui52 : (L.env.und 52).isSome = true := by kernel_rfl
@[go_sem] theorem bl52 : bldT L.env 52 = true := by kernel_rfl
theorem ft52 : fieldsT L.env 52 = some [3, 3] := by kernel_rfl
@[go_sem] theorem fl52_0 : fldT L.env 52 0 = some (0, 3) := by kernel_rfl
@[go_sem] theorem pl52_0 : plcT L.env 52 0 = some (0, 1) := by kernel_rfl
@[go_sem] theorem fl52_1 : fldT L.env 52 1 = some (1, 3) := by kernel_rfl
@[go_sem] theorem pl52_1 : plcT L.env 52 1 = some (1, 1) := by kernel_rfl
@[go_sem] theorem ze52 : L.env.zero 52 = some [.int .i64 0, .int .i64 0] := by kernel_rfl
@[go_sem] theorem is53 : isT L.env 53 = true := by kernel_rfl
@[go_sem] theorem sz53 : L.env.sz 53 = 1 := by kernel_rfl
@[go_sem] theorem ag53 : aggT L.env 53 = some false := by kernel_rfl
@[go_sem] theorem un53 : L.env.und 53 = some (.int .u8) := by kernel_rfl
@[go_sem] theorem in53 : intT L.env 53 = some .u8 := by kernel_rfl
@[go_sem] theorem ze53 : L.env.zero 53 = some [.int .u8 0] := by kernel_rfl
@[go_sem] theorem is54 : isT L.env 54 = true := by kernel_rfl
@[go_sem] theorem sz54 : L.env.sz 54 = 5 := by kernel_rfl
@[go_sem] theorem ag54 : aggT L.env 54 = some true := by kernel_rfl
theorem ui54 : (L.env.und 54).isSome = true := by kernel_rfl
@[go_sem] theorem bl54 : bldT L.env 54 = true := by kernel_rfl
theorem ft54 : fieldsT L.env 54 = some [50, 52, 53, 3] := by kernel_rfl
@[go_sem] theorem fl54_0 : fldT L.env 54 0 = some (0, 50) := by kernel_rfl
@[go_sem] theorem pl54_0 : plcT L.env 54 0 = some (0, 1) := by kernel_rfl
@[go_sem] theorem fl54_1 : fldT L.env 54 1 = some (1, 52) := by kernel_rfl
@[go_sem] theorem pl54_1 : plcT L.env 54 1 = some (1, 2) := by kernel_rfl
@[go_sem] theorem fl54_2 : fldT L.env 54 2 = some (3, 53) := by kernel_rfl
@[go_sem] theorem pl54_2 : plcT L.env 54 2 = some (3, 1) := by kernel_rfl
@[go_sem] theorem fl54_3 : fldT L.env 54 3 = some (4, 3) := by kernel_rfl
@[go_sem] theorem pl54_3 : plcT L.env 54 3 = some (4, 1) := by kernel_rfl
@[go_sem] theorem ze54 : L.env.zero 54 = some [.int .u8 0, .int .i64 0, .int .i64 0, .int .u8 0, .int .i64 0] := by kernel_rfl
@[go_sem] theorem is55 : isT L.env 55 = true := by kernel_rfl
@[go_sem] theorem sz55 : L.env.sz 55 = 5 := by kernel_rfl
@[go_sem] theorem ag55 : aggT L.env 55 = some true := by kernel_rfl
theorem ui55 : (L.env.und 55).isSome = true := by kernel_rfl
@[go_sem] theorem bl55 : bldT L.env 55 = true := by kernel_rfl
theorem ft55 : fieldsT L.env 55 = some [50, 52, 53, 3] := by kernel_rfl
@[go_sem] theorem fl55_0 : fldT L.env 55 0 = some (0, 50) := by kernel_rfl
@[go_sem] theorem pl55_0 : plcT L.env 55 0 = some (0, 1) := by kernel_rfl
@[go_sem] theorem fl55_1 : fldT L.env 55 1 = some (1, 52) := by kernel_rfl
@[go_sem] theorem pl55_1 : plcT L.env 55 1 = some (1, 2) := by kernel_rfl
@[go_sem] theorem fl55_2 : fldT L.env 55 2 = some (3, 53) := by kernel_rfl
@[go_sem] theorem pl55_2 : plcT L.env 55 2 = some (3, 1) := by kernel_rfl
@[go_sem] theorem fl55_3 : fldT L.env 55 3 = some (4, 3) := by kernel_rfl
@[go_sem] theorem pl55_3 : plcT L.env 55 3 = some (4, 1) := by kernel_rfl
@[go_sem] theorem ze55 : L.env.zero 55 = some [.int .u8 0, .int .i64 0, .int .i64 0, .int .u8 0, .int .i64 0] := by kernel_rfl
@[go_sem] theorem is56 : isT L.env 56 = true := by kernel_rfl
@[go_sem] theorem sz56 : L.env.sz 56 = 1 := by kernel_rfl
@[go_sem] theorem ag56 : aggT L.env 56 = some false := by kernel_rfl
@[go_sem] theorem ze56 : L.env.zero 56 = some [.nilfunc] := by kernel_rfl
@[go_sem] theorem is57 : isT L.env 57 = true := by kernel_rfl
@[go_sem] theorem sz57 : L.env.sz 57 = 1 := by kernel_rfl
@[go_sem] theorem ag57 : aggT L.env 57 = some false := by kernel_rfl
@[go_sem] theorem ze57 : L.env.zero 57 = some [.nilfunc] := by kernel_rfl
@[go_sem] theorem is58 : isT L.env 58 = true := by kernel_rfl
@[go_sem] theorem sz58 : L.env.sz 58 = 1 := by kernel_rfl
@[go_sem] theorem ag58 : aggT L.env 58 = some false := by kernel_rfl
@[go_sem] theorem un58 : L.env.und 58 = some (.slice 53) := by kernel_rfl
@[go_sem] theorem st58 : slT L.env 58 = some 53 := by kernel_rfl
@[go_sem] theorem bs58 : byT L.env 58 9 = true := by kernel_rfl
@[go_sem] theorem ap58 : apT L.env 58 58 = some 53 := by kernel_rfl
@[go_sem] theorem rm58 {k : Nat} (h : (k ≤ 1000000000) = True) : roomOk L.env 53 k = true := room_ok (of_eq_true h) (by rw [by53]; decide)
@[go_sem] theorem mk58 {k : Nat} (h : (k ≤ 1000000000) = True) : mkOk L.env 53 (k : Int) (k : Int) = true := mkOk_nat (of_eq_true h) (by rw [by53]; decide)
@[go_sem] theorem ze58 : L.env.zero 58 = some [.nilslice] := by kernel_rfl
@[go_sem] theorem is59 : isT L.env 59 = true := by kernel_rfl
@[go_sem] theorem sz59 : L.env.sz 59 = 2 := by kernel_rfl
@[go_sem] theorem ag59 : aggT L.env 59 = some true := by kernel_rfl
theorem ui59 : (L.env.und 59).isSome = true := by kernel_rfl
@[go_sem] theorem bl59 : bldT L.env 59 = true := by kernel_rfl
theorem ft59 : fieldsT L.env 59 = some [58, 58] := by kernel_rfl
@[go_sem] theorem fl59_0 : fldT L.env 59 0 = some (0, 58) := by kernel_rfl
@[go_sem] theorem pl59_0 : plcT L.env 59 0 = some (0, 1) := by kernel_rfl
@[go_sem] theorem fl59_1 : fldT L.env 59 1 = some (1, 58) := by kernel_rfl
@[go_sem] theorem pl59_1 : plcT L.env 59 1 = some (1, 1) := by kernel_rfl
@[go_sem] theorem ze59 : L.env.zero 59 = some [.nilslice, .nilslice] := by kernel_rfl
@[go_sem] theorem is60 : isT L.env 60 = true := by kernel_rfl
@[go_sem] theorem sz60 : L.env.sz 60 = 2 := by kernel_rfl
@[go_sem] theorem ag60 : aggT L.env 60 = some true := by kernel_rfl
theorem ui60 : (L.env.und 60).isSome = true := by kernel_rfl
@[go_sem] theorem bl60 : bldT L.env 60 = true := by kernel_rfl
theorem ft60 : fieldsT L.env 60 = some [58, 58] := by kernel_rfl
@[go_sem] theorem fl60_0 : fldT L.env 60 0 = some (0, 58) := by kernel_rfl
@[go_sem] theorem pl60_0 : plcT L.env 60 0 = some (0, 1) := by kernel_rfl
@[go_sem] theorem fl60_1 : fldT L.env 60 1 = some (1, 58) := by kernel_rfl
@[go_sem] theorem pl60_1 : plcT L.env 60 1 = some (1, 1) := by kernel_rfl
@[go_sem] theorem ze60 : L.env.zero 60 = some [.nilslice, .nilslice] := by kernel_rfl
@[go_sem] theorem is61 : isT L.env 61 = true := by kernel_rfl
@[go_sem] theorem sz61 : L.env.sz 61 = 1 := by kernel_rfl
@[go_sem] theorem ag61 : aggT L.env 61 = some false := by kernel_rfl
@[go_sem] theorem ze61 : L.env.zero 61 = some [.nilfunc] := by kernel_rfl
@[go_sem] theorem is62 : isT L.env 62 = true := by kernel_rfl
@[go_sem] theorem sz62 : L.env.sz 62 = 1 := by kernel_rfl
@[go_sem] theorem ag62 : aggT L.env 62 = some false := by kernel_rfl
@[go_sem] theorem ze62 : L.env.zero 62 = some [.nilfunc] := by kernel_rfl
@[go_sem] theorem is63 : isT L.env 63 = true := by kernel_rfl
@[go_sem] theorem sz63 : L.env.sz 63 = 1 := by kernel_rfl
@[go_sem] theorem ag63 : aggT L.env 63 = some false := by kernel_rfl
@[go_sem] theorem ze63 : L.env.zero 63 = some [.nilfunc] := by kernel_rfl
@[go_sem] theorem is64 : isT L.env 64 = true := by kernel_rfl
@[go_sem] theorem sz64 : L.env.sz 64 = 1 := by kernel_rfl
@[go_sem] theorem ag64 : aggT L.env 64 = some false := by kernel_rfl
@[go_sem] theorem ze64 : L.env.zero 64 = some [.nilfunc] := by kernel_rfl
@[go_sem] theorem is65 : isT L.env 65 = true := by kernel_rfl
@[go_sem] theorem sz65 : L.env.sz 65 = 2 := by kernel_rfl
@[go_sem] theorem ag65 : aggT L.env 65 = some true := by kernel_rfl
theorem ui65 : (L.env.und 65).isSome = true := by kernel_rfl
@[go_sem] theorem bl65 : bldT L.env 65 = true := by kernel_rfl
theorem ft65 : fieldsT L.env 65 = some [25, 25] := by kernel_rfl
@[go_sem] theorem fl65_0 : fldT L.env 65 0 = some (0, 25) := by kernel_rfl
@[go_sem] theorem pl65_0 : plcT L.env 65 0 = some (0, 1) := by kernel_rfl
@[go_sem] theorem fl65_1 : fldT L.env 65 1 = some (1, 25) := by kernel_rfl
@[go_sem] theorem pl65_1 : plcT L.env 65 1 = some (1, 1) := by kernel_rfl
@[go_sem] theorem ze65 : L.env.zero 65 = some [.nilslice, .nilslice] := by kernel_rfl
@[go_sem] theorem is66 : isT L.env 66 = true := by kernel_rfl
@[go_sem] theorem sz66 : L.env.sz 66 = 2 := by kernel_rfl
@[go_sem] theorem ag66 : aggT L.env 66 = some true := by kernel_rfl
theorem ui66 : (L.env.und 66).isSome = true := by kernel_rfl
@[go_sem] theorem bl66 : bldT L.env 66 = true := by kernel_rfl
theorem ft66 : fieldsT L.env 66 = some [25, 25] := by kernel_rfl
@[go_sem] theorem fl66_0 : fldT L.env 66 0 = some (0, 25) := by kernel_rfl
@[go_sem] theorem pl66_0 : plcT L.env 66 0 = some (0, 1) := by kernel_rfl
@[go_sem] theorem fl66_1 : fldT L.env 66 1 = some (1, 25) := by kernel_rfl
@[go_sem] theorem pl66_1 : plcT L.env 66 1 = some (1, 1) := by kernel_rfl
@[go_sem] theorem ze66 : L.env.zero 66 = some [.nilslice, .nilslice] := by kernel_rfl
@[go_sem] theorem is67 : isT L.env 67 = true := by kernel_rfl
@[go_sem] theorem sz67 : L.env.sz 67 = 1 := by kernel_rfl
@[go_sem] theorem ag67 : aggT L.env 67 = some false := by kernel_rfl
@[go_sem] theorem ze67 : L.env.zero 67 = some [.nilfunc] := by kernel_rfl
@[go_sem] theorem is68 : isT L.env 68 = true := by kernel_rfl
@[go_sem] theorem sz68 : L.env.sz 68 = 1 := by kernel_rfl
@[go_sem] theorem ag68 : aggT L.env 68 = some false := by kernel_rfl
@[go_sem] theorem is69 : isT L.env 69 = true := by kernel_rfl
@[go_sem] theorem sz69 : L.env.sz 69 = 1 := by kernel_rfl
@[go_sem] theorem ag69 : aggT L.env 69 = some false := by kernel_rfl
@[go_sem] theorem ze69 : L.env.zero 69 = some [.nilfunc] := by kernel_rfl
@[go_sem] theorem is70 : isT L.env 70 = true := by kernel_rfl
@[go_sem] theorem sz70 : L.env.sz 70 = 1 := by kernel_rfl
@[go_sem] theorem ag70 : aggT L.env 70 = some false := by kernel_rfl
@[go_sem] theorem ze70 : L.env.zero 70 = some [.nilfunc] := by kernel_rfl
@[go_sem] theorem is71 : isT L.env 71 = true := by kernel_rfl
@[go_sem] theorem sz71 : L.env.sz 71 = 5 := by kernel_rfl
@[go_sem] theorem ag71 : aggT L.env 71 = some true := by kernel_rfl
theorem ui71 : (L.env.und 71).isSome = true := by kernel_rfl
@[go_sem] theorem bl71 : bldT L.env 71 = true := by kernel_rfl
theorem ft71 : fieldsT L.env 71 = some [5, 5, 5, 5, 4] := by kernel_rfl
@[go_sem] theorem fl71_0 : fldT L.env 71 0 = some (0, 5) := by kernel_rfl
@[go_sem] theorem pl71_0 : plcT L.env 71 0 = some (0, 1) := by kernel_rfl
@[go_sem] theorem fl71_1 : fldT L.env 71 1 = some (1, 5) := by kernel_rfl
@[go_sem] theorem pl71_1 : plcT L.env 71 1 = some (1, 1) := by kernel_rfl
@[go_sem] theorem fl71_2 : fldT L.env 71 2 = some (2, 5) := by kernel_rfl
@[go_sem] theorem pl71_2 : plcT L.env 71 2 = some (2, 1) := by kernel_rfl
@[go_sem] theorem fl71_3 : fldT L.env 71 3 = some (3, 5) := by kernel_rfl
@[go_sem] theorem pl71_3 : plcT L.env 71 3 = some (3, 1) := by kernel_rfl
@[go_sem] theorem fl71_4 : fldT L.env 71 4 = some (4, 4) := by kernel_rfl
@[go_sem] theorem pl71_4 : plcT L.env 71 4 = some (4, 1) := by kernel_rfl
@[go_sem] theorem ze71 : L.env.zero 71 = some [.int .u8 0, .int .u8 0, .int .u8 0, .int .u8 0, .bool false] := by kernel_rfl
@[go_sem] theorem is72 : isT L.env 72 = true := by kernel_rfl
@[go_sem] theorem sz72 : L.env.sz 72 = 5 := by kernel_rfl
@[go_sem] theorem ag72 : aggT L.env 72 = some true := by kernel_rfl
theorem ui72 : (L.env.und 72).isSome = true := by kernel_rfl
@[go_sem] theorem bl72 : bldT L.env 72 = true := by kernel_rfl
theorem ft72 : fieldsT L.env 72 = some [5, 5, 5, 5, 4] := by kernel_rfl
@[go_sem] theorem fl72_0 : fldT L.env 72 0 = some (0, 5) := by kernel_rfl
@[go_sem] theorem pl72_0 : plcT L.env 72 0 = some (0, 1) := by kernel_rfl
@[go_sem] theorem fl72_1 : fldT L.env 72 1 = some (1, 5) := by kernel_rfl
@[go_sem] theorem pl72_1 : plcT L.env 72 1 = some (1, 1) := by kernel_rfl
@[go_sem] theorem fl72_2 : fldT L.env 72 2 = some (2, 5) := by kernel_rfl
@[go_sem] theorem pl72_2 : plcT L.env 72 2 = some (2, 1) := by kernel_rfl
@[go_sem] theorem fl72_3 : fldT L.env 72 3 = some (3, 5) := by kernel_rfl
@[go_sem] theorem pl72_3 : plcT L.env 72 3 = some (3, 1) := by kernel_rfl
@[go_sem] theorem fl72_4 : fldT L.env 72 4 = some (4, 4) := by kernel_rfl
@[go_sem] theorem pl72_4 : plcT L.env 72 4 = some (4, 1) := by kernel_rfl
@[go_sem] theorem ze72 : L.env.zero 72 = some [.int .u8 0, .int .u8 0, .int .u8 0, .int .u8 0, .bool false] := by kernel_rfl
@[go_sem] theorem is73 : isT L.env 73 = true := by kernel_rfl
@[go_sem] theorem sz73 : L.env.sz 73 = 1 := by kernel_rfl
@[go_sem] theorem ag73 : aggT L.env 73 = some false := by kernel_rfl
@[go_sem] theorem ze73 : L.env.zero 73 = some [.nilfunc] := by kernel_rfl
@[go_sem] theorem is74 : isT L.env 74 = true := by kernel_rfl
@[go_sem] theorem sz74 : L.env.sz 74 = 1 := by kernel_rfl
@[go_sem] theorem ag74 : aggT L.env 74 = some false := by kernel_rfl
@[go_sem] theorem ze74 : L.env.zero 74 = some [.nilfunc] := by kernel_rfl
@[go_sem] theorem is75 : isT L.env 75 = true := by kernel_rfl
@[go_sem] theorem sz75 : L.env.sz 75 = 1 := by kernel_rfl
@[go_sem] theorem ag75 : aggT L.env 75 = some false := by kernel_rfl
@[go_sem] theorem ze75 : L.env.zero 75 = some [.nilfunc] := by kernel_rfl
@[go_sem] theorem is76 : isT L.env 76 = true := by kernel_rfl
@[go_sem] theorem sz76 : L.env.sz 76 = 1 := by kernel_rfl
@[go_sem] theorem ag76 : aggT L.env 76 = some false := by kernel_rfl
@[go_sem] theorem ze76 : L.env.zero 76 = some [.nilfunc] := by kernel_rfl
@[go_sem] theorem is77 : isT L.env 77 = true := by kernel_rfl
@[go_sem] theorem sz77 : L.env.sz 77 = 1 := by kernel_rfl
@[go_sem] theorem ag77 : aggT L.env 77 = some false := by kernel_rfl
@[go_sem] theorem ze77 : L.env.zero 77 = some [.nilfunc] := by kernel_rfl
@[go_sem] theorem is78 : isT L.env 78 = true := by kernel_rfl
@[go_sem] theorem sz78 : L.env.sz 78 = 9 := by kernel_rfl
@[go_sem] theorem ag78 : aggT L.env 78 = some true := by kernel_rfl
theorem ui78 : (L.env.und 78).isSome = true := by kernel_rfl
@[go_sem] theorem bl78 : bldT L.env 78 = true := by kernel_rfl
theorem ft78 : fieldsT L.env 78 = some [37, 35, 35, 35, 76, 77] := by kernel_rfl
@[go_sem] theorem fl78_0 : fldT L.env 78 0 = some (0, 37) := by kernel_rfl
@[go_sem] theorem pl78_0 : plcT L.env 78 0 = some (0, 4) := by kernel_rfl
@[go_sem] theorem fl78_1 : fldT L.env 78 1 = some (4, 35) := by kernel_rfl
@[go_sem] theorem pl78_1 : plcT L.env 78 1 = some (4, 1) := by kernel_rfl
@[go_sem] theorem fl78_2 : fldT L.env 78 2 = some (5, 35) := by kernel_rfl
@[go_sem] theorem pl78_2 : plcT L.env 78 2 = some (5, 1) := by kernel_rfl
@[go_sem] theorem fl78_3 : fldT L.env 78 3 = some (6, 35) := by kernel_rfl
@[go_sem] theorem pl78_3 : plcT L.env 78 3 = some (6, 1) := by kernel_rfl
@[go_sem] theorem fl78_4 : fldT L.env 78 4 = some (7, 76) := by kernel_rfl
@[go_sem] theorem pl78_4 : plcT L.env 78 4 = some (7, 1) := by kernel_rfl
@[go_sem] theorem fl78_5 : fldT L.env 78 5 = some (8, 77) := by kernel_rfl
@[go_sem] theorem pl78_5 : plcT L.env 78 5 = some (8, 1) := by kernel_rfl
@[go_sem] theorem ze78 : L.env.zero 78 = some [.nilslice, .nilslice, .nilslice, .nilslice, .nilslice, .nilslice, .nilslice, .nilfunc, .nilfunc] := by kernel_rfl
@[go_sem] theorem is79 : isT L.env 79 = true := by kernel_rfl
@[go_sem] theorem sz79 : L.env.sz 79 = 9 := by kernel_rfl
@[go_sem] theorem ag79 : aggT L.env 79 = some true := by kernel_rfl
theorem ui79 : (L.env.und 79).isSome = true := by kernel_rfl
@[go_sem] theorem bl79 : bldT L.env 79 = true := by kernel_rfl
theorem ft79 : fieldsT L.env 79 = some [37, 35, 35, 35, 76, 77] := by kernel_rfl
@[go_sem] theorem fl79_0 : fldT L.env 79 0 = some (0, 37) := by kernel_rfl
@[go_sem] theorem pl79_0 : plcT L.env 79 0 = some (0, 4) := by kernel_rfl
@[go_sem] theorem fl79_1 : fldT L.env 79 1 = some (4, 35) := by kernel_rfl
@[go_sem] theorem pl79_1 : plcT L.env 79 1 = some (4, 1) := by kernel_rfl
@[go_sem] theorem fl79_2 : fldT L.env 79 2 = some (5, 35) := by kernel_rfl
@[go_sem] theorem pl79_2 : plcT L.env 79 2 = some (5, 1) := by kernel_rfl
@[go_sem] theorem fl79_3 : fldT L.env 79 3 = some (6, 35) := by kernel_rfl
@[go_sem] theorem pl79_3 : plcT L.env 79 3 = some (6, 1) := by kernel_rfl
@[go_sem] theorem fl79_4 : fldT L.env 79 4 = some (7, 76) := by kernel_rfl
@[go_sem] theorem pl79_4 : plcT L.env 79 4 = some (7, 1) := by kernel_rfl
@[go_sem] theorem fl79_5 : fldT L.env 79 5 = some (8, 77) := by kernel_rfl
@[go_sem] theorem pl79_5 : plcT L.env 79 5 = some (8, 1) := by kernel_rfl
@[go_sem] theorem ze79 : L.env.zero 79 = some [.nilslice, .nilslice, .nilslice, .nilslice, .nilslice, .nilslice, .nilslice, .nilfunc, .nilfunc] := by kernel_rfl
@[go_sem] theorem is80 : isT L.env 80 = true := by kernel_rfl
@[go_sem] theorem sz80 : L.env.sz 80 = 1 := by kernel_rfl
@[go_sem] theorem ag80 : aggT L.env 80 = some false := by kernel_rfl
@[go_sem] theorem ze80 : L.env.zero 80 = some [.nilfunc] := by kernel_rfl
@[go_sem] theorem is81 : isT L.env 81 = true := by kernel_rfl
@[go_sem] theorem sz81 : L.env.sz 81 = 1 := by kernel_rfl
@[go_sem] theorem ag81 : aggT L.env 81 = some false := by kernel_rfl
@[go_sem] theorem ze81 : L.env.zero 81 = some [.nilfunc] := by kernel_rfl
@[go_sem] theorem is82 : isT L.env 82 = true := by kernel_rfl
@[go_sem] theorem sz82 : L.env.sz 82 = 1 := by kernel_rfl
@[go_sem] theorem ag82 : aggT L.env 82 = some false := by kernel_rfl
@[go_sem] theorem un82 : L.env.und 82 = some (.int .u64) := by kernel_rfl
@[go_sem] theorem in82 : intT L.env 82 = some .u64 := by kernel_rfl
@[go_sem] theorem ze82 : L.env.zero 82 = some [.int .u64 0] := by kernel_rfl
@[go_sem] theorem is83 : isT L.env 83 = true := by kernel_rfl
@[go_sem] theorem sz83 : L.env.sz 83 = 1 := by kernel_rfl
@[go_sem] theorem ag83 : aggT L.env 83 = some false := by kernel_rfl
@[go_sem] theorem ze83 : L.env.zero 83 = some [.nilfunc] := by kernel_rfl
@[go_sem] theorem is84 : isT L.env 84 = true := by kernel_rfl
@[go_sem] theorem sz84 : L.env.sz 84 = 1 := by kernel_rfl
@[go_sem] theorem ag84 : aggT L.env 84 = some false := by kernel_rfl
@[go_sem] theorem ze84 : L.env.zero 84 = some [.nilfunc] := by kernel_rfl
@[go_sem] theorem is85 : isT L.env 85 = true := by kernel_rfl
@[go_sem] theorem sz85 : L.env.sz 85 = 1 := by kernel_rfl
@[go_sem] theorem ag85 : aggT L.env 85 = some false := by kernel_rfl
@[go_sem] theorem un85 : L.env.und 85 = some (.slice 111) := by kernel_rfl
@[go_sem] theorem st85 : slT L.env 85 = some 111 := by kernel_rfl
@[go_sem] theorem ap85 : apT L.env 85 85 = some 111 := by kernel_rfl
@[go_sem] theorem rm85 {k : Nat} (h : (k ≤ 1000000000) = True) : roomOk L.env 111 k = true := room_ok (of_eq_true h) (by rw [by111]; decide)
@[go_sem] theorem mk85 {k : Nat} (h : (k ≤ 1000000000) = True) : mkOk L.env 111 (k : Int) (k : Int) = true := mkOk_nat (of_eq_true h) (by rw [by111]; decide)
@[go_sem] theorem ze85 : L.env.zero 85 = some [.nilslice] := by kernel_rfl
@[go_sem] theorem is86 : isT L.env 86 = true := by kernel_rfl
@[go_sem] theorem sz86 : L.env.sz 86 = 1 := by kernel_rfl
@[go_sem] theorem ag86 : aggT L.env 86 = some false := by kernel_rfl
@[go_sem] theorem ze86 : L.env.zero 86 = some [.nilfunc] := by kernel_rfl
@[go_sem] theorem is87 : isT L.env 87 = true := by kernel_rfl
@[go_sem] theorem sz87 : L.env.sz 87 = 1 := by kernel_rfl
@[go_sem] theorem ag87 : aggT L.env 87 = some false := by kernel_rfl
@[go_sem] theorem is88 : isT L.env 88 = true := by kernel_rfl
@[go_sem] theorem sz88 : L.env.sz 88 = 1 := by kernel_rfl
@[go_sem] theorem ag88 : aggT L.env 88 = some false := by kernel_rfl
@[go_sem] theorem ze88 : L.env.zero 88 = some [.nilfunc] := by kernel_rfl
@[go_sem] theorem is89 : isT L.env 89 = true := by kernel_rfl
@[go_sem] theorem sz89 : L.env.sz 89 = 1 := by kernel_rfl
@[go_sem] theorem ag89 : aggT L.env 89 = some false := by kernel_rfl
@[go_sem] theorem ze89 : L.env.zero 89 = some [.nilfunc] := by kernel_rfl
@[go_sem] theorem is90 : isT L.env 90 = true := by kernel_rfl
@[go_sem] theorem sz90 : L.env.sz 90 = 1 := by kernel_rfl
@[go_sem] theorem ag90 : aggT L.env 90 = some false := by kernel_rfl
@[go_sem] theorem ze90 : L.env.zero 90 = some [.nilfunc] := by kernel_rfl
@[go_sem] theorem is91 : isT L.env 91 = true := by kernel_rfl
@[go_sem] theorem sz91 : L.env.sz 91 = 1 := by kernel_rfl
@[go_sem] theorem ag91 : aggT L.env 91 = some false := by kernel_rfl
@[go_sem] theorem ze91 : L.env.zero 91 = some [.nilfunc] := by kernel_rfl
@[go_sem] theorem is92 : isT L.env 92 = true := by kernel_rfl
@[go_sem] theorem sz92 : L.env.sz 92 = 1 := by kernel_rfl
@[go_sem] theorem ag92 : aggT L.env 92 = some false := by kernel_rfl
@[go_sem] theorem ze92 : L.env.zero 92 = some [.nilfunc] := by kernel_rfl
@[go_sem] theorem is93 : isT L.env 93 = true := by kernel_rfl
@[go_sem] theorem sz93 : L.env.sz 93 = 1 := by kernel_rfl
@[go_sem] theorem ag93 : aggT L.env 93 = some false := by kernel_rfl
@[go_sem] theorem ze93 : L.env.zero 93 = some [.nilfunc] := by kernel_rfl
@[go_sem] theorem is94 : isT L.env 94 = true := by kernel_rfl
@[go_sem] theorem sz94 : L.env.sz 94 = 1 := by kernel_rfl
@[go_sem] theorem ag94 : aggT L.env 94 = some false := by kernel_rfl
@[go_sem] theorem un94 : L.env.und 94 = some (.int .u8) := by kernel_rfl
@[go_sem] theorem in94 : intT L.env 94 = some .u8 := by kernel_rfl
@[go_sem] theorem ze94 : L.env.zero 94 = some [.int .u8 0] := by kernel_rfl
@[go_sem] theorem is95 : isT L.env 95 = true := by kernel_rfl
@[go_sem] theorem sz95 : L.env.sz 95 = 2 := by kernel_rfl
@[go_sem] theorem ag95 : aggT L.env 95 = some true := by kernel_rfl
theorem ui95 : (L.env.und 95).isSome = true := by kernel_rfl
@[go_sem] theorem bl95 : bldT L.env 95 = true := by kernel_rfl
theorem ft95 : fieldsT L.env 95 = some [58, 58] := by kernel_rfl
@[go_sem] theorem fl95_0 : fldT L.env 95 0 = some (0, 58) := by kernel_rfl
@[go_sem] theorem pl95_0 : plcT L.env 95 0 = some (0, 1) := by kernel_rfl
@[go_sem] theorem fl95_1 : fldT L.env 95 1 = some (1, 58) := by kernel_rfl
@[go_sem] theorem pl95_1 : plcT L.env 95 1 = some (1, 1) := by kernel_rfl
@[go_sem] theorem ze95 : L.env.zero 95 = some [.nilslice, .nilslice] := by kernel_rfl
@[go_sem] theorem is96 : isT L.env 96 = true := by kernel_rfl
@[go_sem] theorem sz96 : L.env.sz 96 = 2 := by kernel_rfl
@[go_sem] theorem ag96 : aggT L.env 96 = some true := by kernel_rfl
theorem ui96 : (L.env.und 96).isSome = true := by kernel_rfl
@[go_sem] theorem bl96 : bldT L.env 96 = true := by kernel_rfl
theorem ft96 : fieldsT L.env 96 = some [58, 58] := by kernel_rfl
@[go_sem] theorem fl96_0 : fldT L.env 96 0 = some (0, 58) := by kernel_rfl
@[go_sem] theorem pl96_0 : plcT L.env 96 0 = some (0, 1) := by kernel_rfl
@[go_sem] theorem fl96_1 : fldT L.env 96 1 = some (1, 58) := by kernel_rfl
@[go_sem] theorem pl96_1 : plcT L.env 96 1 = some (1, 1) := by kernel_rfl
@[go_sem] theorem ze96 : L.env.zero 96 = some [.nilslice, .nilslice] := by kernel_rfl
@[go_sem] theorem is97 : isT L.env 97 = true := by kernel_rfl
@[go_sem] theorem sz97 : L.env.sz 97 = 1 := by kernel_rfl
@[go_sem] theorem ag97 : aggT L.env 97 = some false := by kernel_rfl
@[go_sem] theorem is98 : isT L.env 98 = true := by kernel_rfl
@[go_sem] theorem sz98 : L.env.sz 98 = 1 := by kernel_rfl
@[go_sem] theorem ag98 : aggT L.env 98 = some false := by kernel_rfl
@[go_sem] theorem ze98 : L.env.zero 98 = some [.nilfunc] := by kernel_rfl
@[go_sem] theorem is99 : isT L.env 99 = true := by kernel_rfl
@[go_sem] theorem sz99 : L.env.sz 99 = 1 := by kernel_rfl
@[go_sem] theorem ag99 : aggT L.env 99 = some false := by kernel_rfl
@[go_sem] theorem ze99 : L.env.zero 99 = some [.nilfunc] := by kernel_rfl
@[go_sem] theorem is100 : isT L.env 100 = true := by kernel_rfl
@[go_sem] theorem sz100 : L.env.sz 100 = 1 := by kernel_rfl
@[go_sem] theorem ag100 : aggT L.env 100 = some false := by kernel_rfl
@[go_sem] theorem ze100 : L.env.zero 100 = some [.nilfunc] := by kernel_rfl
@[go_sem] theorem is101 : isT L.env 101 = true := by kernel_rfl
@[go_sem] theorem sz101 : L.env.sz 101 = 4 := by kernel_rfl
@[go_sem] theorem ag101 : aggT L.env 101 = some true := by kernel_rfl
theorem ui101 : (L.env.und 101).isSome = true := by kernel_rfl
@[go_sem] theorem bl101 : bldT L.env 101 = true := by kernel_rfl
theorem ft101 : fieldsT L.env 101 = some [94, 35, 3, 3] := by kernel_rfl
@[go_sem] theorem fl101_0 : fldT L.env 101 0 = some (0, 94) := by kernel_rfl
@[go_sem] theorem pl101_0 : plcT L.env 101 0 = some (0, 1) := by kernel_rfl
@[go_sem] theorem fl101_1 : fldT L.env 101 1 = some (1, 35) := by kernel_rfl
@[go_sem] theorem pl101_1 : plcT L.env 101 1 = some (1, 1) := by kernel_rfl
@[go_sem] theorem fl101_2 : fldT L.env 101 2 = some (2, 3) := by kernel_rfl
@[go_sem] theorem pl101_2 : plcT L.env 101 2 = some (2, 1) := by kernel_rfl
@[go_sem] theorem fl101_3 : fldT L.env 101 3 = some (3, 3) := by kernel_rfl
@[go_sem] theorem pl101_3 : plcT L.env 101 3 = some (3, 1) := by kernel_rfl
@[go_sem] theorem ze101 : L.env.zero 101 = some [.int .u8 0, .nilslice, .int .i64 0, .int .i64 0] := by kernel_rfl
@[go_sem] theorem is102 : isT L.env 102 = true := by kernel_rfl
@[go_sem] theorem sz102 : L.env.sz 102 = 4 := by kernel_rfl
@[go_sem] theorem ag102 : aggT L.env 102 = some true := by kernel_rfl
theorem ui102 : (L.env.und 102).isSome = true := by kernel_rfl
@[go_sem] theorem bl102 : bldT L.env 102 = true := by kernel_rfl
theorem ft102 : fieldsT L.env 102 = some [94, 35, 3, 3] := by kernel_rfl
@[go_sem] theorem fl102_0 : fldT L.env 102 0 = some (0, 94) := by kernel_rfl
@[go_sem] theorem pl102_0 : plcT L.env 102 0 = some (0, 1) := by kernel_rfl
@[go_sem] theorem fl102_1 : fldT L.env 102 1 = some (1, 35) := by kernel_rfl
@[go_sem] theorem pl102_1 : plcT L.env 102 1 = some (1, 1) := by kernel_rfl
@[go_sem] theorem fl102_2 : fldT L.env 102 2 = some (2, 3) := by kernel_rfl
@[go_sem] theorem pl102_2 : plcT L.env 102 2 = some (2, 1) := by kernel_rfl
@[go_sem] theorem fl102_3 : fldT L.env 102 3 = some (3, 3) := by kernel_rfl
@[go_sem] theorem pl102_3 : plcT L.env 102 3 = some (3, 1) := by kernel_rfl
@[go_sem] theorem ze102 : L.env.zero 102 = some [.int .u8 0, .nilslice, .int .i64 0, .int .i64 0] := by kernel_rfl
@[go_sem] theorem is103 : isT L.env 103 = true := by kernel_rfl
@[go_sem] theorem sz103 : L.env.sz 103 = 1 := by kernel_rfl
@[go_sem] theorem ag103 : aggT L.env 103 = some false := by kernel_rfl
@[go_sem] theorem un103 : L.env.und 103 = some (.slice 52) := by kernel_rfl
@[go_sem] theorem st103 : slT L.env 103 = some 52 := by kernel_rfl
@[go_sem] theorem ap103 : apT L.env 103 103 = some 52 := by kernel_rfl
@[go_sem] theorem rm103 {k : Nat} (h : (k ≤ 1000000000) = True) : roomOk L.env 52 k = true := room_ok (of_eq_true h) (by rw [by52]; decide)
@[go_sem] theorem mk103 {k : Nat} (h : (k ≤ 1000000000) = True) : mkOk L.env 52 (k : Int) (k : Int) = true := mkOk_nat (of_eq_true h) (by rw [by52]; decide)
@[go_sem] theorem ze103 : L.env.zero 103 = some [.nilslice] := by kernel_rfl
@[go_sem] theorem is104 : isT L.env 104 = true := by kernel_rfl
@[go_sem] theorem sz104 : L.env.sz 104 = 1 := by kernel_rfl
@[go_sem] theorem ag104 : aggT L.env 104 = some false := by kernel_rfl
@[go_sem] theorem is105 : isT L.env 105 = true := by kernel_rfl
@[go_sem] theorem sz105 : L.env.sz 105 = 1 := by kernel_rfl
@[go_sem] theorem ag105 : aggT L.env 105 = some false := by kernel_rfl
@[go_sem] theorem ze105 : L.env.zero 105 = some [.nilfunc] := by kernel_rfl
@[go_sem] theorem is106 : isT L.env 106 = true := by kernel_rfl
@[go_sem] theorem sz106 : L.env.sz 106 = 1 := by kernel_rfl
@[go_sem] theorem ag106 : aggT L.env 106 = some false := by kernel_rfl
@[go_sem] theorem ze106 : L.env.zero 106 = some [.nilfunc] := by kernel_rfl
@[go_sem] theorem is107 : isT L.env 107 = true := by kernel_rfl
@[go_sem] theorem sz107 : L.env.sz 107 = 1 := by kernel_rfl
@[go_sem] theorem ag107 : aggT L.env 107 = some false := by kernel_rfl
@[go_sem] theorem is108 : isT L.env 108 = true := by kernel_rfl
@[go_sem] theorem sz108 : L.env.sz 108 = 1 := by kernel_rfl
@[go_sem] theorem ag108 : aggT L.env 108 = some false := by kernel_rfl
@[go_sem] theorem ze108 : L.env.zero 108 = some [.nilfunc] := by kernel_rfl
@[go_sem] theorem is109 : isT L.env 109 = true := by kernel_rfl
@[go_sem] theorem sz109 : L.env.sz 109 = 1 := by kernel_rfl
@[go_sem] theorem ag109 : aggT L.env 109 = some false := by kernel_rfl
@[go_sem] theorem ze109 : L.env.zero 109 = some [.nilfunc] := by kernel_rfl
@[go_sem] theorem is110 : isT L.env 110 = true := by kernel_rfl
@[go_sem] theorem sz110 : L.env.sz 110 = 2 := by kernel_rfl
@[go_sem] theorem ag110 : aggT L.env 110 = some true := by kernel_rfl
theorem ui110 : (L.env.und 110).isSome = true := by kernel_rfl
@[go_sem] theorem bl110 : bldT L.env 110 = true := by kernel_rfl
theorem ft110 : fieldsT L.env 110 = some [82, 82] := by kernel_rfl
@[go_sem] theorem fl110_0 : fldT L.env 110 0 = some (0, 82) := by kernel_rfl
@[go_sem] theorem pl110_0 : plcT L.env 110 0 = some (0, 1) := by kernel_rfl
@[go_sem] theorem fl110_1 : fldT L.env 110 1 = some (1, 82) := by kernel_rfl
@[go_sem] theorem pl110_1 : plcT L.env 110 1 = some (1, 1) := by kernel_rfl
@[go_sem] theorem ze110 : L.env.zero 110 = some [.int .u64 0, .int .u64 0] := by kernel_rfl
@[go_sem] theorem is111 : isT L.env 111 = true := by kernel_rfl
@[go_sem] theorem sz111 : L.env.sz 111 = 2 := by kernel_rfl
@[go_sem] theorem ag111 : aggT L.env 111 = some true := by kernel_rfl
theorem ui111 : (L.env.und 111).isSome = true := by kernel_rfl
@[go_sem] theorem bl111 : bldT L.env 111 = true := by kernel_rfl
theorem ft111 : fieldsT L.env 111 = some [82, 82] := by kernel_rfl
@[go_sem] theorem fl111_0 : fldT L.env 111 0 = some (0, 82) := by kernel_rfl
@[go_sem] theorem pl111_0 : plcT L.env 111 0 = some (0, 1) := by kernel_rfl
@[go_sem] theorem fl111_1 : fldT L.env 111 1 = some (1, 82) := by kernel_rfl
@[go_sem] theorem pl111_1 : plcT L.env 111 1 = some (1, 1) := by kernel_rfl
@[go_sem] theorem ze111 : L.env.zero 111 = some [.int .u64 0, .int .u64 0] := by kernel_rfl
@[go_sem] theorem is112 : isT L.env 112 = true := by kernel_rfl
@[go_sem] theorem sz112 : L.env.sz 112 = 1 := by kernel_rfl
@[go_sem] theorem ag112 : aggT L.env 112 = some false := by kernel_rfl
@[go_sem] theorem ze112 : L.env.zero 112 = some [.nilfunc] := by kernel_rfl
@[go_sem] theorem is113 : isT L.env 113 = true := by kernel_rfl
@[go_sem] theorem sz113 : L.env.sz 113 = 1 := by kernel_rfl
@[go_sem] theorem ag113 : aggT L.env 113 = some false := by kernel_rfl
@[go_sem] theorem ze113 : L.env.zero 113 = some [.nilfunc] := by kernel_rfl
@[go_sem] theorem is114 : isT L.env 114 = true := by kernel_rfl
@[go_sem] theorem sz114 : L.env.sz 114 = 1 := by kernel_rfl
@[go_sem] theorem ag114 : aggT L.env 114 = some false := by kernel_rfl
@[go_sem] theorem ze114 : L.env.zero 114 = some [.nilfunc] := by kernel_rfl
@[go_sem] theorem is115 : isT L.env 115 = true := by kernel_rfl
@[go_sem] theorem sz115 : L.env.sz 115 = 1 := by kernel_rfl
@[go_sem] theorem ag115 : aggT L.env 115 = some false := by kernel_rfl
@[go_sem] theorem ze115 : L.env.zero 115 = some [.nilfunc] := by kernel_rfl
@[go_sem] theorem is116 : isT L.env 116 = true := by kernel_rfl
@[go_sem] theorem sz116 : L.env.sz 116 = 1 := by kernel_rfl
@[go_sem] theorem ag116 : aggT L.env 116 = some false := by kernel_rfl
@[go_sem] theorem ze116 : L.env.zero 116 = some [.nilfunc] := by kernel_rfl
@[go_sem] theorem is117 : isT L.env 117 = true := by kernel_rfl
@[go_sem] theorem sz117 : L.env.sz 117 = 1 := by kernel_rfl
@[go_sem] theorem ag117 : aggT L.env 117 = some false := by kernel_rfl
@[go_sem] theorem ze117 : L.env.zero 117 = some [.nilfunc] := by kernel_rfl
@[go_sem] theorem is118 : isT L.env 118 = true := by kernel_rfl
@[go_sem] theorem sz118 : L.env.sz 118 = 1 := by kernel_rfl
@[go_sem] theorem ag118 : aggT L.env 118 = some false := by kernel_rfl
@[go_sem] theorem un118 : L.env.und 118 = some (.map 3 35) := by kernel_rfl
@[go_sem] theorem ze118 : L.env.zero 118 = some [.nilmap] := by kernel_rfl
@[go_sem] theorem is119 : isT L.env 119 = true := by kernel_rfl
@[go_sem] theorem sz119 : L.env.sz 119 = 1 := by kernel_rfl
@[go_sem] theorem ag119 : aggT L.env 119 = some false := by kernel_rfl
@[go_sem] theorem un119 : L.env.und 119 = some (.map 52 35) := by kernel_rfl
@[go_sem] theorem ze119 : L.env.zero 119 = some [.nilmap] := by kernel_rfl
@[go_sem] theorem is120 : isT L.env 120 = true := by kernel_rfl
@[go_sem] theorem sz120 : L.env.sz 120 = 1 := by kernel_rfl
@[go_sem] theorem ag120 : aggT L.env 120 = some false := by kernel_rfl
@[go_sem] theorem ze120 : L.env.zero 120 = some [.nilfunc] := by kernel_rfl
@[go_sem] theorem is121 : isT L.env 121 = true := by kernel_rfl
@[go_sem] theorem sz121 : L.env.sz 121 = 1 := by kernel_rfl
@[go_sem] theorem ag121 : aggT L.env 121 = some false := by kernel_rfl
@[go_sem] theorem ze121 : L.env.zero 121 = some [.nilfunc] := by kernel_rfl
@[go_sem] theorem is122 : isT L.env 122 = true := by kernel_rfl
@[go_sem] theorem sz122 : L.env.sz 122 = 1 := by kernel_rfl
@[go_sem] theorem ag122 : aggT L.env 122 = some false := by kernel_rfl
@[go_sem] theorem ze122 : L.env.zero 122 = some [.nilfunc] := by kernel_rfl
@[go_sem] theorem is123 : isT L.env 123 = true := by kernel_rfl
@[go_sem] theorem sz123 : L.env.sz 123 = 1 := by kernel_rfl
@[go_sem] theorem ag123 : aggT L.env 123 = some false := by kernel_rfl
@[go_sem] theorem ze123 : L.env.zero 123 = some [.nilfunc] := by kernel_rfl
@[go_sem] theorem is124 : isT L.env 124 = true := by kernel_rfl
@[go_sem] theorem sz124 : L.env.sz 124 = 1 := by kernel_rfl
@[go_sem] theorem ag124 : aggT L.env 124 = some false := by kernel_rfl
@[go_sem] theorem ze124 : L.env.zero 124 = some [.nilfunc] := by kernel_rfl
@[go_sem] theorem is125 : isT L.env 125 = true := by kernel_rfl
@[go_sem] theorem sz125 : L.env.sz 125 = 3 := by kernel_rfl
@[go_sem] theorem ag125 : aggT L.env 125 = some true := by kernel_rfl
@[go_sem] theorem un125 : L.env.und 125 = some (.array 3 5) := by kernel_rfl
@[go_sem] theorem ar125 : arrT L.env 125 = some (3, 5) := by kernel_rfl
@[go_sem] theorem bl125 : bldT L.env 125 = true := by kernel_rfl
@[go_sem] theorem ze125 : L.env.zero 125 = some [.int .u8 0, .int .u8 0, .int .u8 0] := by kernel_rfl
@[go_sem] theorem is126 : isT L.env 126 = true := by kernel_rfl
@[go_sem] theorem sz126 : L.env.sz 126 = 4 := by kernel_rfl
@[go_sem] theorem ag126 : aggT L.env 126 = some true := by kernel_rfl
theorem ui126 : (L.env.und 126).isSome = true := by kernel_rfl
@[go_sem] theorem bl126 : bldT L.env 126 = true := by kernel_rfl
theorem ft126 : fieldsT L.env 126 = some [5, 125] := by kernel_rfl
@[go_sem] theorem fl126_0 : fldT L.env 126 0 = some (0, 5) := by kernel_rfl
@[go_sem] theorem pl126_0 : plcT L.env 126 0 = some (0, 1) := by kernel_rfl
@[go_sem] theorem fl126_1 : fldT L.env 126 1 = some (1, 125) := by kernel_rfl
@[go_sem] theorem pl126_1 : plcT L.env 126 1 = some (1, 3) := by kernel_rfl
@[go_sem] theorem ze126 : L.env.zero 126 = some [.int .u8 0, .int .u8 0, .int .u8 0, .int .u8 0] := by kernel_rfl
@[go_sem] theorem is127 : isT L.env 127 = true := by kernel_rfl
@[go_sem] theorem sz127 : L.env.sz 127 = 4 := by kernel_rfl
@[go_sem] theorem ag127 : aggT L.env 127 = some true := by kernel_rfl
theorem ui127 : (L.env.und 127).isSome = true := by kernel_rfl
@[go_sem] theorem bl127 : bldT L.env 127 = true := by kernel_rfl
theorem ft127 : fieldsT L.env 127 = some [5, 125] := by kernel_rfl
@[go_sem] theorem fl127_0 : fldT L.env 127 0 = some (0, 5) := by kernel_rfl
@[go_sem] theorem pl127_0 : plcT L.env 127 0 = some (0, 1) := by kernel_rfl
@[go_sem] theorem fl127_1 : fldT L.env 127 1 = some (1, 125) := by kernel_rfl
@[go_sem] theorem pl127_1 : plcT L.env 127 1 = some (1, 3) := by kernel_rfl
@[go_sem] theorem ze127 : L.env.zero 127 = some [.int .u8 0, .int .u8 0, .int .u8 0, .int .u8 0] := by kernel_rfl
@[go_sem] theorem is128 : isT L.env 128 = true := by kernel_rfl
@[go_sem] theorem sz128 : L.env.sz 128 = 3 := by kernel_rfl
@[go_sem] theorem ag128 : aggT L.env 128 = some true := by kernel_rfl
theorem ui128 : (L.env.und 128).isSome = true := by kernel_rfl
@[go_sem] theorem bl128 : bldT L.env 128 = true := by kernel_rfl
theorem ft128 : fieldsT L.env 128 = some [35, 35, 3] := by kernel_rfl
@[go_sem] theorem fl128_0 : fldT L.env 128 0 = some (0, 35) := by kernel_rfl
@[go_sem] theorem pl128_0 : plcT L.env 128 0 = some (0, 1) := by kernel_rfl
@[go_sem] theorem fl128_1 : fldT L.env 128 1 = some (1, 35) := by kernel_rfl
@[go_sem] theorem pl128_1 : plcT L.env 128 1 = some (1, 1) := by kernel_rfl
@[go_sem] theorem fl128_2 : fldT L.env 128 2 = some (2, 3) := by kernel_rfl
@[go_sem] theorem pl128_2 : plcT L.env 128 2 = some (2, 1) := by kernel_rfl
@[go_sem] theorem ze128 : L.env.zero 128 = some [.nilslice, .nilslice, .int .i64 0] := by kernel_rfl
@[go_sem] theorem is129 : isT L.env 129 = true := by kernel_rfl
@[go_sem] theorem sz129 : L.env.sz 129 = 3 := by kernel_rfl
@[go_sem] theorem ag129 : aggT L.env 129 = some true := by kernel_rfl
theorem ui129 : (L.env.und 129).isSome = true := by kernel_rfl
@[go_sem] theorem bl129 : bldT L.env 129 = true := by kernel_rfl
theorem ft129 : fieldsT L.env 129 = some [35, 35, 3] := by kernel_rfl
@[go_sem] theorem fl129_0 : fldT L.env 129 0 = some (0, 35) := by kernel_rfl
@[go_sem] theorem pl129_0 : plcT L.env 129 0 = some (0, 1) := by kernel_rfl
@[go_sem] theorem fl129_1 : fldT L.env 129 1 = some (1, 35) := by kernel_rfl
@[go_sem] theorem pl129_1 : plcT L.env 129 1 = some (1, 1) := by kernel_rfl
@[go_sem] theorem fl129_2 : fldT L.env 129 2 = some (2, 3) := by kernel_rfl
@[go_sem] theorem pl129_2 : plcT L.env 129 2 = some (2, 1) := by kernel_rfl
@[go_sem] theorem ze129 : L.env.zero 129 = some [.nilslice, .nilslice, .int .i64 0] := by kernel_rfl
@[go_sem] theorem is130 : isT L.env 130 = true := by kernel_rfl
@[go_sem] theorem sz130 : L.env.sz 130 = 1 := by kernel_rfl
@[go_sem] theorem ag130 : aggT L.env 130 = some false := by kernel_rfl
@[go_sem] theorem ze130 : L.env.zero 130 = some [.nilfunc] := by kernel_rfl
@[go_sem] theorem is131 : isT L.env 131 = true := by kernel_rfl
@[go_sem] theorem sz131 : L.env.sz 131 = 1 := by kernel_rfl
@[go_sem] theorem ag131 : aggT L.env 131 = some false := by kernel_rfl
@[go_sem] theorem is132 : isT L.env 132 = true := by kernel_rfl
@[go_sem] theorem sz132 : L.env.sz 132 = 1 := by kernel_rfl
@[go_sem] theorem ag132 : aggT L.env 132 = some false := by kernel_rfl
@[go_sem] theorem ze132 : L.env.zero 132 = some [.nilfunc] := by kernel_rfl
@[go_sem] theorem is133 : isT L.env 133 = true := by kernel_rfl
@[go_sem] theorem sz133 : L.env.sz 133 = 1 := by kernel_rfl
@[go_sem] theorem ag133 : aggT L.env 133 = some false := by kernel_rfl
@[go_sem] theorem un133 : L.env.und 133 = some (.pointer 139) := by kernel_rfl
@[go_sem] theorem ze133 : L.env.zero 133 = some [.nilptr] := by kernel_rfl
@[go_sem] theorem is134 : isT L.env 134 = true := by kernel_rfl
@[go_sem] theorem sz134 : L.env.sz 134 = 1 := by kernel_rfl
@[go_sem] theorem ag134 : aggT L.env 134 = some false := by kernel_rfl
@[go_sem] theorem ze134 : L.env.zero 134 = some [.nilfunc] := by kernel_rfl
@[go_sem] theorem is135 : isT L.env 135 = true := by kernel_rfl
@[go_sem] theorem sz135 : L.env.sz 135 = 1 := by kernel_rfl
@[go_sem] theorem ag135 : aggT L.env 135 = some false := by kernel_rfl
@[go_sem] theorem ze135 : L.env.zero 135 = some [.nilfunc] := by kernel_rfl
@[go_sem] theorem is136 : isT L.env 136 = true := by kernel_rfl
@[go_sem] theorem sz136 : L.env.sz 136 = 1 := by kernel_rfl
@[go_sem] theorem ag136 : aggT L.env 136 = some false := by kernel_rfl
@[go_sem] theorem ze136 : L.env.zero 136 = some [.nilfunc] := by kernel_rfl
@[go_sem] theorem is137 : isT L.env 137 = true := by kernel_rfl
@[go_sem] theorem sz137 : L.env.sz 137 = 1 := by kernel_rfl
@[go_sem] theorem ag137 : aggT L.env 137 = some false := by kernel_rfl
@[go_sem] theorem ze137 : L.env.zero 137 = some [.nilfunc] := by kernel_rfl
@[go_sem] theorem is138 : isT L.env 138 = true := by kernel_rfl
@[go_sem] theorem sz138 : L.env.sz 138 = 7 := by kernel_rfl
@[go_sem] theorem ag138 : aggT L.env 138 = some true := by kernel_rfl
theorem ui138 : (L.env.und 138).isSome = true := by kernel_rfl
@[go_sem] theorem bl138 : bldT L.env 138 = true := by kernel_rfl
theorem ft138 : fieldsT L.env 138 = some [37, 58, 136, 137] := by kernel_rfl
@[go_sem] theorem fl138_0 : fldT L.env 138 0 = some (0, 37) := by kernel_rfl
@[go_sem] theorem pl138_0 : plcT L.env 138 0 = some (0, 4) := by kernel_rfl
@[go_sem] theorem fl138_1 : fldT L.env 138 1 = some (4, 58) := by kernel_rfl
@[go_sem] theorem pl138_1 : plcT L.env 138 1 = some (4, 1) := by kernel_rfl
@[go_sem] theorem fl138_2 : fldT L.env 138 2 = some (5, 136) := by kernel_rfl
@[go_sem] theorem pl138_2 : plcT L.env 138 2 = some (5, 1) := by kernel_rfl
@[go_sem] theorem fl138_3 : fldT L.env 138 3 = some (6, 137) := by kernel_rfl
@[go_sem] theorem pl138_3 : plcT L.env 138 3 = some (6, 1) := by kernel_rfl
@[go_sem] theorem ze138 : L.env.zero 138 = some [.nilslice, .nilslice, .nilslice, .nilslice, .nilslice, .nilfunc, .nilfunc] := by kernel_rfl
@[go_sem] theorem is139 : isT L.env 139 = true := by kernel_rfl
@[go_sem] theorem sz139 : L.env.sz 139 = 7 := by kernel_rfl
@[go_sem] theorem ag139 : aggT L.env 139 = some true := by kernel_rfl
theorem ui139 : (L.env.und 139).isSome = true := by kernel_rfl
@[go_sem] theorem bl139 : bldT L.env 139 = true := by kernel_rfl
theorem ft139 : fieldsT L.env 139 = some [37, 58, 136, 137] := by kernel_rfl
@[go_sem] theorem fl139_0 : fldT L.env 139 0 = some (0, 37) := by kernel_rfl
@[go_sem] theorem pl139_0 : plcT L.env 139 0 = some (0, 4) := by kernel_rfl
@[go_sem] theorem fl139_1 : fldT L.env 139 1 = some (4, 58) := by kernel_rfl
@[go_sem] theorem pl139_1 : plcT L.env 139 1 = some (4, 1) := by kernel_rfl
@[go_sem] theorem fl139_2 : fldT L.env 139 2 = some (5, 136) := by kernel_rfl
@[go_sem] theorem pl139_2 : plcT L.env 139 2 = some (5, 1) := by kernel_rfl
@[go_sem] theorem fl139_3 : fldT L.env 139 3 = some (6, 137) := by kernel_rfl
@[go_sem] theorem pl139_3 : plcT L.env 139 3 = some (6, 1) := by kernel_rfl
@[go_sem] theorem ze139 : L.env.zero 139 = some [.nilslice, .nilslice, .nilslice, .nilslice, .nilslice, .nilfunc, .nilfunc] := by kernel_rfl
@[go_sem] theorem is140 : isT L.env 140 = true := by kernel_rfl
@[go_sem] theorem sz140 : L.env.sz 140 = 1 := by kernel_rfl
@[go_sem] theorem ag140 : aggT L.env 140 = some false := by kernel_rfl
@[go_sem] theorem is141 : isT L.env 141 = true := by kernel_rfl
@[go_sem] theorem sz141 : L.env.sz 141 = 1 := by kernel_rfl
@[go_sem] theorem ag141 : aggT L.env 141 = some false := by kernel_rfl
@[go_sem] theorem ze141 : L.env.zero 141 = some [.nilfunc] := by kernel_rfl
@[go_sem] theorem is142 : isT L.env 142 = true := by kernel_rfl
@[go_sem] theorem sz142 : L.env.sz 142 = 1 := by kernel_rfl
@[go_sem] theorem ag142 : aggT L.env 142 = some false := by kernel_rfl
@[go_sem] theorem ze142 : L.env.zero 142 = some [.nilfunc] := by kernel_rfl
@[go_sem] theorem is143 : isT L.env 143 = true := by kernel_rfl
@[go_sem] theorem sz143 : L.env.sz 143 = 1 := by kernel_rfl
@[go_sem] theorem ag143 : aggT L.env 143 = some false := by kernel_rfl
@[go_sem] theorem ze143 : L.env.zero 143 = some [.nilfunc] := by kernel_rfl
@[go_sem] theorem is144 : isT L.env 144 = true := by kernel_rfl
@[go_sem] theorem sz144 : L.env.sz 144 = 1 := by kernel_rfl
@[go_sem] theorem ag144 : aggT L.env 144 = some false := by kernel_rfl
@[go_sem] theorem ze144 : L.env.zero 144 = some [.nilfunc] := by kernel_rfl
@[go_sem] theorem is145 : isT L.env 145 = true := by kernel_rfl
@[go_sem] theorem sz145 : L.env.sz 145 = 1 := by kernel_rfl
@[go_sem] theorem ag145 : aggT L.env 145 = some false := by kernel_rfl
@[go_sem] theorem ze145 : L.env.zero 145 = some [.nilfunc] := by kernel_rfl
@[go_sem] theorem is146 : isT L.env 146 = true := by kernel_rfl
@[go_sem] theorem sz146 : L.env.sz 146 = 1 := by kernel_rfl
@[go_sem] theorem ag146 : aggT L.env 146 = some false := by kernel_rfl
@[go_sem] theorem ze146 : L.env.zero 146 = some [.nilfunc] := by kernel_rfl
@[go_sem] theorem is147 : isT L.env 147 = true := by kernel_rfl
@[go_sem] theorem sz147 : L.env.sz 147 = 1 := by kernel_rfl
@[go_sem] theorem ag147 : aggT L.env 147 = some false := by kernel_rfl
@[go_sem] theorem ze147 : L.env.zero 147 = some [.nilfunc] := by kernel_rfl
@[go_sem] theorem is148 : isT L.env 148 = true := by kernel_rfl
@[go_sem] theorem sz148 : L.env.sz 148 = 1 := by kernel_rfl
@[go_sem] theorem ag148 : aggT L.env 148 = some false := by kernel_rfl
@[go_sem] theorem ze148 : L.env.zero 148 = some [.nilfunc] := by kernel_rfl
@[go_sem] theorem is149 : isT L.env 149 = true := by kernel_rfl
@[go_sem] theorem sz149 : L.env.sz 149 = 8 := by kernel_rfl
@[go_sem] theorem ag149 : aggT L.env 149 = some true := by kernel_rfl
@[go_sem] theorem un149 : L.env.und 149 = some (.array 4 111) := by kernel_rfl
@[go_sem] theorem ar149 : arrT L.env 149 = some (4, 111) := by kernel_rfl
@[go_sem] theorem bl149 : bldT L.env 149 = true := by kernel_rfl
@[go_sem] theorem ze149 : L.env.zero 149 = some [.int .u64 0, .int .u64 0, .int .u64 0, .int .u64 0, .int .u64 0, .int .u64 0, .int .u64 0, .int .u64 0] := by kernel_rfl
@[go_sem] theorem is150 : isT L.env 150 = true := by kernel_rfl
@[go_sem] theorem sz150 : L.env.sz 150 = 1 := by kernel_rfl
@[go_sem] theorem ag150 : aggT L.env 150 = some false := by kernel_rfl
@[go_sem] theorem ze150 : L.env.zero 150 = some [.nilfunc] := by kernel_rfl
@[go_sem] theorem is151 : isT L.env 151 = true := by kernel_rfl
@[go_sem] theorem sz151 : L.env.sz 151 = 1 := by kernel_rfl
@[go_sem] theorem ag151 : aggT L.env 151 = some false := by kernel_rfl
@[go_sem] theorem is152 : isT L.env 152 = true := by kernel_rfl
@[go_sem] theorem sz152 : L.env.sz 152 = 1 := by kernel_rfl
@[go_sem] theorem ag152 : aggT L.env 152 = some false := by kernel_rfl
@[go_sem] theorem ze152 : L.env.zero 152 = some [.nilfunc] := by kernel_rfl
@[go_sem] theorem is153 : isT L.env 153 = true := by kernel_rfl
@[go_sem] theorem sz153 : L.env.sz 153 = 1 := by kernel_rfl
@[go_sem] theorem ag153 : aggT L.env 153 = some false := by kernel_rfl
@[go_sem] theorem ze153 : L.env.zero 153 = some [.nilfunc] := by kernel_rfl
@[go_sem] theorem is154 : isT L.env 154 = true := by kernel_rfl
@[go_sem] theorem sz154 : L.env.sz 154 = 1 := by kernel_rfl
@[go_sem] theorem ag154 : aggT L.env 154 = some false := by kernel_rfl
@[go_sem] theorem ze154 : L.env.zero 154 = some [.nilfunc] := by kernel_rfl
@[go_sem] theorem is155 : isT L.env 155 = true := by kernel_rfl
@[go_sem] theorem sz155 : L.env.sz 155 = 1 := by kernel_rfl
@[go_sem] theorem ag155 : aggT L.env 155 = some false := by kernel_rfl
@[go_sem] theorem ze155 : L.env.zero 155 = some [.nilfunc] := by kernel_rfl
@[go_sem] theorem is156 : isT L.env 156 = true := by kernel_rfl
@[go_sem] theorem sz156 : L.env.sz 156 = 1 := by kernel_rfl
@[go_sem] theorem ag156 : aggT L.env 156 = some false := by kernel_rfl
@[go_sem] theorem ze156 : L.env.zero 156 = some [.nilfunc] := by kernel_rfl
@[go_sem] theorem is157 : isT L.env 157 = true := by kernel_rfl
@[go_sem] theorem sz157 : L.env.sz 157 = 5 := by kernel_rfl
@[go_sem] theorem ag157 : aggT L.env 157 = some true := by kernel_rfl
theorem ui157 : (L.env.und 157).isSome = true := by kernel_rfl
@[go_sem] theorem bl157 : bldT L.env 157 = true := by kernel_rfl
theorem ft157 : fieldsT L.env 157 = some [37, 58] := by kernel_rfl
@[go_sem] theorem fl157_0 : fldT L.env 157 0 = some (0, 37) := by kernel_rfl
@[go_sem] theorem pl157_0 : plcT L.env 157 0 = some (0, 4) := by kernel_rfl
@[go_sem] theorem fl157_1 : fldT L.env 157 1 = some (4, 58) := by kernel_rfl
@[go_sem] theorem pl157_1 : plcT L.env 157 1 = some (4, 1) := by kernel_rfl
@[go_sem] theorem ze157 : L.env.zero 157 = some [.nilslice, .nilslice, .nilslice, .nilslice, .nilslice] := by kernel_rfl
@[go_sem] theorem is158 : isT L.env 158 = true := by kernel_rfl
@[go_sem] theorem sz158 : L.env.sz 158 = 5 := by kernel_rfl
@[go_sem] theorem ag158 : aggT L.env 158 = some true := by kernel_rfl
theorem ui158 : (L.env.und 158).isSome = true := by kernel_rfl
@[go_sem] theorem bl158 : bldT L.env 158 = true := by kernel_rfl
theorem ft158 : fieldsT L.env 158 = some [37, 58] := by kernel_rfl
@[go_sem] theorem fl158_0 : fldT L.env 158 0 = some (0, 37) := by kernel_rfl
@[go_sem] theorem pl158_0 : plcT L.env 158 0 = some (0, 4) := by kernel_rfl
@[go_sem] theorem fl158_1 : fldT L.env 158 1 = some (4, 58) := by kernel_rfl
@[go_sem] theorem pl158_1 : plcT L.env 158 1 = some (4, 1) := by kernel_rfl
@[go_sem] theorem ze158 : L.env.zero 158 = some [.nilslice, .nilslice, .nilslice, .nilslice, .nilslice] := by kernel_rfl
@[go_sem] theorem is159 : isT L.env 159 = true := by kernel_rfl
@[go_sem] theorem sz159 : L.env.sz 159 = 1 := by kernel_rfl
@[go_sem] theorem ag159 : aggT L.env 159 = some false := by kernel_rfl
@[go_sem] theorem ze159 : L.env.zero 159 = some [.nilfunc] := by kernel_rfl
@[go_sem] theorem is160 : isT L.env 160 = true := by kernel_rfl
@[go_sem] theorem sz160 : L.env.sz 160 = 1 := by kernel_rfl
@[go_sem] theorem ag160 : aggT L.env 160 = some false := by kernel_rfl
@[go_sem] theorem ze160 : L.env.zero 160 = some [.nilfunc] := by kernel_rfl
@[go_sem] theorem is161 : isT L.env 161 = true := by kernel_rfl
@[go_sem] theorem sz161 : L.env.sz 161 = 1 := by kernel_rfl
@[go_sem] theorem ag161 : aggT L.env 161 = some false := by kernel_rfl
@[go_sem] theorem ze161 : L.env.zero 161 = some [.nilfunc] := by kernel_rfl
@[go_sem] theorem is162 : isT L.env 162 = true := by kernel_rfl
@[go_sem] theorem sz162 : L.env.sz 162 = 1 := by kernel_rfl
@[go_sem] theorem ag162 : aggT L.env 162 = some false := by kernel_rfl
@[go_sem] theorem ze162 : L.env.zero 162 = some [.nilfunc] := by kernel_rfl
@[go_sem] theorem is163 : isT L.env 163 = true := by kernel_rfl
@[go_sem] theorem sz163 : L.env.sz 163 = 1 := by kernel_rfl
@[go_sem] theorem ag163 : aggT L.env 163 = some false := by kernel_rfl
@[go_sem] theorem ze163 : L.env.zero 163 = some [.nilfunc] := by kernel_rfl
@[go_sem] theorem is164 : isT L.env 164 = true := by kernel_rfl
@[go_sem] theorem sz164 : L.env.sz 164 = 1 := by kernel_rfl
@[go_sem] theorem ag164 : aggT L.env 164 = some false := by kernel_rfl
@[go_sem] theorem ze164 : L.env.zero 164 = some [.nilfunc] := by kernel_rfl
@[go_sem] theorem is165 : isT L.env 165 = true := by kernel_rfl
@[go_sem] theorem sz165 : L.env.sz 165 = 1 := by kernel_rfl
@[go_sem] theorem ag165 : aggT L.env 165 = some false := by kernel_rfl
@[go_sem] theorem ze165 : L.env.zero 165 = some [.nilfunc] := by kernel_rfl
@[go_sem] theorem is166 : isT L.env 166 = true := by kernel_rfl
@[go_sem] theorem sz166 : L.env.sz 166 = 1 := by kernel_rfl
@[go_sem] theorem ag166 : aggT L.env 166 = some false := by kernel_rfl
@[go_sem] theorem ze166 : L.env.zero 166 = some [.nilfunc] := by kernel_rfl
@[go_sem] theorem is167 : isT L.env 167 = true := by kernel_rfl
@[go_sem] theorem sz167 : L.env.sz 167 = 1 := by kernel_rfl
@[go_sem] theorem ag167 : aggT L.env 167 = some false := by kernel_rfl
@[go_sem] theorem ze167 : L.env.zero 167 = some [.nilfunc] := by kernel_rfl
@[go_sem] theorem is168 : isT L.env 168 = true := by kernel_rfl
@[go_sem] theorem sz168 : L.env.sz 168 = 1 := by kernel_rfl
@[go_sem] theorem ag168 : aggT L.env 168 = some false := by kernel_rfl
@[go_sem] theorem ze168 : L.env.zero 168 = some [.nilfunc] := by kernel_rfl
@[go_sem] theorem is169 : isT L.env 169 = true := by kernel_rfl
@[go_sem] theorem sz169 : L.env.sz 169 = 1 := by kernel_rfl
@[go_sem] theorem ag169 : aggT L.env 169 = some false := by kernel_rfl
@[go_sem] theorem ze169 : L.env.zero 169 = some [.nilfunc] := by kernel_rfl
@[go_sem] theorem is170 : isT L.env 170 = true := by kernel_rfl
@[go_sem] theorem sz170 : L.env.sz 170 = 1 := by kernel_rfl
@[go_sem] theorem ag170 : aggT L.env 170 = some false := by kernel_rfl
@[go_sem] theorem ze170 : L.env.zero 170 = some [.nilfunc] := by kernel_rfl
@[go_sem] theorem is171 : isT L.env 171 = true := by kernel_rfl
@[go_sem] theorem sz171 : L.env.sz 171 = 1 := by kernel_rfl
@[go_sem] theorem ag171 : aggT L.env 171 = some false := by kernel_rfl
@[go_sem] theorem ze171 : L.env.zero 171 = some [.nilfunc] := by kernel_rfl
@[go_sem] theorem is172 : isT L.env 172 = true := by kernel_rfl
@[go_sem] theorem sz172 : L.env.sz 172 = 1 := by kernel_rfl
@[go_sem] theorem ag172 : aggT L.env 172 = some false := by kernel_rfl
@[go_sem] theorem un172 : L.env.und 172 = some (.slice 103) := by kernel_rfl
@[go_sem] theorem st172 : slT L.env 172 = some 103 := by kernel_rfl
@[go_sem] theorem ap172 : apT L.env 172 172 = some 103 := by kernel_rfl
@[go_sem] theorem rm172 {k : Nat} (h : (k ≤ 1000000000) = True) : roomOk L.env 103 k = true := room_ok (of_eq_true h) (by rw [by103]; decide)
@[go_sem] theorem mk172 {k : Nat} (h : (k ≤ 1000000000) = True) : mkOk L.env 103 (k : Int) (k : Int) = true := mkOk_nat (of_eq_true h) (by rw [by103]; decide)
@[go_sem] theorem ze172 : L.env.zero 172 = some [.nilslice] := by kernel_rfl
@[go_sem] theorem is173 : isT L.env 173 = true := by kernel_rfl
@[go_sem] theorem sz173 : L.env.sz 173 = 1 := by kernel_rfl
@[go_sem] theorem ag173 : aggT L.env 173 = some false := by kernel_rfl
@[go_sem] theorem ze173 : L.env.zero 173 = some [.nilfunc] := by kernel_rfl
@[go_sem] theorem is174 : isT L.env 174 = true := by kernel_rfl
@[go_sem] theorem sz174 : L.env.sz 174 = 1 := by kernel_rfl
@[go_sem] theorem ag174 : aggT L.env 174 = some false := by kernel_rfl
@[go_sem] theorem ze174 : L.env.zero 174 = some [.nilfunc] := by kernel_rfl
@[go_sem] theorem is175 : isT L.env 175 = true := by kernel_rfl
@[go_sem] theorem sz175 : L.env.sz 175 = 1 := by kernel_rfl
@[go_sem] theorem ag175 : aggT L.env 175 = some false := by kernel_rfl
@[go_sem] theorem ze175 : L.env.zero 175 = some [.nilfunc] := by kernel_rfl
@[go_sem] theorem is176 : isT L.env 176 = true := by kernel_rfl
@[go_sem] theorem sz176 : L.env.sz 176 = 1 := by kernel_rfl
@[go_sem] theorem ag176 : aggT L.env 176 = some false := by kernel_rfl
@[go_sem] theorem un176 : L.env.und 176 = some (.slice 94) := by kernel_rfl
@[go_sem] theorem st176 : slT L.env 176 = some 94 := by kernel_rfl
@[go_sem] theorem bs176 : byT L.env 176 9 = true := by kernel_rfl
@[go_sem] theorem ap176 : apT L.env 176 176 = some 94 := by kernel_rfl
@[go_sem] theorem rm176 {k : Nat} (h : (k ≤ 1000000000) = True) : roomOk L.env 94 k = true := room_ok (of_eq_true h) (by rw [by94]; decide)
@[go_sem] theorem mk176 {k : Nat} (h : (k ≤ 1000000000) = True) : mkOk L.env 94 (k : Int) (k : Int) = true := mkOk_nat (of_eq_true h) (by rw [by94]; decide)
@[go_sem] theorem ze176 : L.env.zero 176 = some [.nilslice] := by kernel_rfl
@[go_sem] theorem is177 : isT L.env 177 = true := by kernel_rfl
@[go_sem] theorem sz177 : L.env.sz 177 = 1 := by kernel_rfl
@[go_sem] theorem ag177 : aggT L.env 177 = some false := by kernel_rfl
@[go_sem] theorem ze177 : L.env.zero 177 = some [.nilfunc] := by kernel_rfl
@[go_sem] theorem is178 : isT L.env 178 = true := by kernel_rfl
@[go_sem] theorem sz178 : L.env.sz 178 = 1 := by kernel_rfl
@[go_sem] theorem ag178 : aggT L.env 178 = some false := by kernel_rfl
@[go_sem] theorem ze178 : L.env.zero 178 = some [.nilfunc] := by kernel_rfl
@[go_sem] theorem is179 : isT L.env 179 = true := by kernel_rfl
@[go_sem] theorem sz179 : L.env.sz 179 = 2 := by kernel_rfl
@[go_sem] theorem ag179 : aggT L.env 179 = some true := by kernel_rfl
@[go_sem] theorem un179 : L.env.und 179 = some (.array 2 3) := by kernel_rfl
@[go_sem] theorem ar179 : arrT L.env 179 = some (2, 3) := by kernel_rfl
@[go_sem] theorem bl179 : bldT L.env 179 = true := by kernel_rfl
@[go_sem] theorem ze179 : L.env.zero 179 = some [.int .i64 0, .int .i64 0] := by kernel_rfl
@[go_sem] theorem is180 : isT L.env 180 = true := by kernel_rfl
@[go_sem] theorem sz180 : L.env.sz 180 = 32 := by kernel_rfl
@[go_sem] theorem ag180 : aggT L.env 180 = some true := by kernel_rfl
@[go_sem] theorem un180 : L.env.und 180 = some (.array 16 179) := by kernel_rfl
@[go_sem] theorem ar180 : arrT L.env 180 = some (16, 179) := by kernel_rfl
@[go_sem] theorem bl180 : bldT L.env 180 = true := by kernel_rfl
@[go_sem] theorem ze180 : L.env.zero 180 = some [.int .i64 0, .int .i64 0, .int .i64 0, .int .i64 0, .int .i64 0, .int .i64 0, .int .i64 0, .int .i64 0, .int .i64 0, .int .i64 0, .int .i64 0, .int .i64 0, .int .i64 0, .int .i64 0, .int .i64 0, .int .i64 0, .int .i64 0, .int .i64 0, .int .i64 0, .int .i64 0, .int .i64 0, .int .i64 0, .int .i64 0, .int .i64 0, .int .i64 0, .int .i64 0, .int .i64 0, .int .i64 0, .int .i64 0, .int .i64 0, .int .i64 0, .int .i64 0] := by kernel_rfl
@[go_sem] theorem is181 : isT L.env 181 = true := by kernel_rfl
@[go_sem] theorem sz181 : L.env.sz 181 = 1 := by kernel_rfl
@[go_sem] theorem ag181 : aggT L.env 181 = some false := by kernel_rfl
@[go_sem] theorem ze181 : L.env.zero 181 = some [.nilfunc] := by kernel_rfl
@[go_sem] theorem is182 : isT L.env 182 = true := by kernel_rfl
@[go_sem] theorem sz182 : L.env.sz 182 = 1 := by kernel_rfl
@[go_sem] theorem ag182 : aggT L.env 182 = some false := by kernel_rfl
@[go_sem] theorem ze182 : L.env.zero 182 = some [.nilfunc] := by kernel_rfl
@[go_sem] theorem is183 : isT L.env 183 = true := by kernel_rfl
@[go_sem] theorem sz183 : L.env.sz 183 = 1 := by kernel_rfl
@[go_sem] theorem ag183 : aggT L.env 183 = some false := by kernel_rfl
@[go_sem] theorem ze183 : L.env.zero 183 = some [.nilfunc] := by kernel_rfl
@[go_sem] theorem is184 : isT L.env 184 = true := by kernel_rfl
@[go_sem] theorem sz184 : L.env.sz 184 = 1 := by kernel_rfl
@[go_sem] theorem ag184 : aggT L.env 184 = some false := by kernel_rfl
@[go_sem] theorem ze184 : L.env.zero 184 = some [.nilfunc] := by kernel_rfl
@[go_sem] theorem is185 : isT L.env 185 = true := by kernel_rfl
@[go_sem] theorem sz185 : L.env.sz 185 = 1 := by kernel_rfl
@[go_sem] theorem ag185 : aggT L.env 185 = some false := by kernel_rfl
@[go_sem] theorem ze185 : L.env.zero 185 = some [.nilfunc] := by kernel_rfl
@[go_sem] theorem is186 : isT L.env 186 = true := by kernel_rfl
@[go_sem] theorem sz186 : L.env.sz 186 = 1 := by kernel_rfl
@[go_sem] theorem ag186 : aggT L.env 186 = some false := by kernel_rfl
@[go_sem] theorem ze186 : L.env.zero 186 = some [.nilfunc] := by kernel_rfl
@[go_sem] theorem is187 : isT L.env 187 = true := by kernel_rfl
@[go_sem] theorem sz187 : L.env.sz 187 = 1 := by kernel_rfl
@[go_sem] theorem ag187 : aggT L.env 187 = some false := by kernel_rfl
@[go_sem] theorem ze187 : L.env.zero 187 = some [.nilfunc] := by kernel_rfl
@[go_sem] theorem is188 : isT L.env 188 = true := by kernel_rfl
@[go_sem] theorem sz188 : L.env.sz 188 = 1 := by kernel_rfl
@[go_sem] theorem ag188 : aggT L.env 188 = some false := by kernel_rfl
@[go_sem] theorem ze188 : L.env.zero 188 = some [.nilfunc] := by kernel_rfl
@[go_sem] theorem is189 : isT L.env 189 = true := by kernel_rfl
@[go_sem] theorem sz189 : L.env.sz 189 = 1 := by kernel_rfl
@[go_sem] theorem ag189 : aggT L.env 189 = some false := by kernel_rfl
@[go_sem] theorem ze189 : L.env.zero 189 = some [.nilfunc] := by kernel_rfl
@[go_sem] theorem is190 : isT L.env 190 = true := by kernel_rfl
@[go_sem] theorem sz190 : L.env.sz 190 = 1 := by kernel_rfl
@[go_sem] theorem ag190 : aggT L.env 190 = some false := by kernel_rfl
@[go_sem] theorem ze190 : L.env.zero 190 = some [.nilfunc] := by kernel_rfl
@[go_sem] theorem is191 : isT L.env 191 = true := by kernel_rfl
@[go_sem] theorem sz191 : L.env.sz 191 = 1 := by kernel_rfl
@[go_sem] theorem ag191 : aggT L.env 191 = some false := by kernel_rfl
@[go_sem] theorem ze191 : L.env.zero 191 = some [.nilfunc] := by kernel_rfl
@[go_sem] theorem is192 : isT L.env 192 = true := by kernel_rfl
@[go_sem] theorem sz192 : L.env.sz 192 = 1 := by kernel_rfl
@[go_sem] theorem ag192 : aggT L.env 192 = some false := by kernel_rfl
@[go_sem] theorem ze192 : L.env.zero 192 = some [.nilfunc] := by kernel_rfl
@[go_sem] theorem is193 : isT L.env 193 = true := by kernel_rfl
@[go_sem] theorem sz193 : L.env.sz 193 = 1 := by kernel_rfl
@[go_sem] theorem ag193 : aggT L.env 193 = some false := by kernel_rfl
@[go_sem] theorem ze193 : L.env.zero 193 = some [.nilfunc] := by kernel_rfl
@[go_sem] theorem is194 : isT L.env 194 = true := by kernel_rfl
@[go_sem] theorem sz194 : L.env.sz 194 = 1 := by kernel_rfl
@[go_sem] theorem ag194 : aggT L.env 194 = some false := by kernel_rfl
@[go_sem] theorem un194 : L.env.und 194 = some (.map 9 4) := by kernel_rfl
@[go_sem] theorem ze194 : L.env.zero 194 = some [.nilmap] := by kernel_rfl
@[go_sem] theorem is195 : isT L.env 195 = true := by kernel_rfl
@[go_sem] theorem sz195 : L.env.sz 195 = 1 := by kernel_rfl
@[go_sem] theorem ag195 : aggT L.env 195 = some false := by kernel_rfl
@[go_sem] theorem ze195 : L.env.zero 195 = some [.nilfunc] := by kernel_rfl
@[go_sem] theorem is196 : isT L.env 196 = true := by kernel_rfl
@[go_sem] theorem sz196 : L.env.sz 196 = 1 := by kernel_rfl
@[go_sem] theorem ag196 : aggT L.env 196 = some false := by kernel_rfl
@[go_sem] theorem ze196 : L.env.zero 196 = some [.nilfunc] := by kernel_rfl
@[go_sem] theorem is197 : isT L.env 197 = true := by kernel_rfl
@[go_sem] theorem sz197 : L.env.sz 197 = 1 := by kernel_rfl
@[go_sem] theorem ag197 : aggT L.env 197 = some false := by kernel_rfl
@[go_sem] theorem ze197 : L.env.zero 197 = some [.nilfunc] := by kernel_rfl
@[go_sem] theorem is198 : isT L.env 198 = true := by kernel_rfl
@[go_sem] theorem sz198 : L.env.sz 198 = 1 := by kernel_rfl
@[go_sem] theorem ag198 : aggT L.env 198 = some false := by kernel_rfl
@[go_sem] theorem un198 : L.env.und 198 = some (.int .u64) := by kernel_rfl
@[go_sem] theorem in198 : intT L.env 198 = some .u64 := by kernel_rfl
@[go_sem] theorem ze198 : L.env.zero 198 = some [.int .u64 0] := by kernel_rfl
@[go_sem] theorem is199 : isT L.env 199 = true := by kernel_rfl
@[go_sem] theorem sz199 : L.env.sz 199 = 1 := by kernel_rfl
@[go_sem] theorem ag199 : aggT L.env 199 = some false := by kernel_rfl
@[go_sem] theorem ze199 : L.env.zero 199 = some [.nilfunc] := by kernel_rfl
@[go_sem] theorem is200 : isT L.env 200 = true := by kernel_rfl
@[go_sem] theorem sz200 : L.env.sz 200 = 1 := by kernel_rfl
@[go_sem] theorem ag200 : aggT L.env 200 = some false := by kernel_rfl
@[go_sem] theorem ze200 : L.env.zero 200 = some [.nilfunc] := by kernel_rfl
@[go_sem] theorem is201 : isT L.env 201 = true := by kernel_rfl
@[go_sem] theorem sz201 : L.env.sz 201 = 1 := by kernel_rfl
@[go_sem] theorem ag201 : aggT L.env 201 = some false := by kernel_rfl
@[go_sem] theorem ze201 : L.env.zero 201 = some [.nilfunc] := by kernel_rfl
@[go_sem] theorem is202 : isT L.env 202 = true := by kernel_rfl
@[go_sem] theorem sz202 : L.env.sz 202 = 1 := by kernel_rfl
@[go_sem] theorem ag202 : aggT L.env 202 = some false := by kernel_rfl
@[go_sem] theorem ze202 : L.env.zero 202 = some [.nilfunc] := by kernel_rfl
@[go_sem] theorem is203 : isT L.env 203 = true := by kernel_rfl
@[go_sem] theorem sz203 : L.env.sz 203 = 1 := by kernel_rfl
@[go_sem] theorem ag203 : aggT L.env 203 = some false := by kernel_rfl
@[go_sem] theorem ze203 : L.env.zero 203 = some [.nilfunc] := by kernel_rfl
@[go_sem] theorem is204 : isT L.env 204 = true := by kernel_rfl
@[go_sem] theorem sz204 : L.env.sz 204 = 1 := by kernel_rfl
@[go_sem] theorem ag204 : aggT L.env 204 = some false := by kernel_rfl
@[go_sem] theorem ze204 : L.env.zero 204 = some [.nilfunc] := by kernel_rfl
@[go_sem] theorem is205 : isT L.env 205 = true := by kernel_rfl
@[go_sem] theorem sz205 : L.env.sz 205 = 1 := by kernel_rfl
@[go_sem] theorem ag205 : aggT L.env 205 = some false := by kernel_rfl
@[go_sem] theorem ze205 : L.env.zero 205 = some [.nilfunc] := by kernel_rfl
@[go_sem] theorem is206 : isT L.env 206 = true := by kernel_rfl
@[go_sem] theorem sz206 : L.env.sz 206 = 1 := by kernel_rfl
@[go_sem] theorem ag206 : aggT L.env 206 = some false := by kernel_rfl
@[go_sem] theorem ze206 : L.env.zero 206 = some [.nilfunc] := by kernel_rfl
@[go_sem] theorem is207 : isT L.env 207 = true := by kernel_rfl
@[go_sem] theorem sz207 : L.env.sz 207 = 1 := by kernel_rfl
@[go_sem] theorem ag207 : aggT L.env 207 = some false := by kernel_rfl
@[go_sem] theorem ze207 : L.env.zero 207 = some [.nilfunc] := by kernel_rfl
@[go_sem] theorem is208 : isT L.env 208 = true := by kernel_rfl
@[go_sem] theorem sz208 : L.env.sz 208 = 1 := by kernel_rfl
@[go_sem] theorem ag208 : aggT L.env 208 = some false := by kernel_rfl
@[go_sem] theorem ze208 : L.env.zero 208 = some [.nilfunc] := by kernel_rfl
@[go_sem] theorem is209 : isT L.env 209 = true := by kernel_rfl
@[go_sem] theorem sz209 : L.env.sz 209 = 1 := by kernel_rfl
@[go_sem] theorem ag209 : aggT L.env 209 = some false := by kernel_rfl
@[go_sem] theorem ze209 : L.env.zero 209 = some [.nilfunc] := by kernel_rfl
@[go_sem] theorem is210 : isT L.env 210 = true := by kernel_rfl
@[go_sem] theorem sz210 : L.env.sz 210 = 1 := by kernel_rfl
@[go_sem] theorem ag210 : aggT L.env 210 = some false := by kernel_rfl
@[go_sem] theorem ze210 : L.env.zero 210 = some [.nilfunc] := by kernel_rfl
@[go_sem] theorem is211 : isT L.env 211 = true := by kernel_rfl
@[go_sem] theorem sz211 : L.env.sz 211 = 4 := by kernel_rfl
@[go_sem] theorem ag211 : aggT L.env 211 = some true := by kernel_rfl
theorem ui211 : (L.env.und 211).isSome = true := by kernel_rfl
@[go_sem] theorem bl211 : bldT L.env 211 = true := by kernel_rfl
theorem ft211 : fieldsT L.env 211 = some [17, 17, 17, 9] := by kernel_rfl
@[go_sem] theorem fl211_0 : fldT L.env 211 0 = some (0, 17) := by kernel_rfl
@[go_sem] theorem pl211_0 : plcT L.env 211 0 = some (0, 1) := by kernel_rfl
@[go_sem] theorem fl211_1 : fldT L.env 211 1 = some (1, 17) := by kernel_rfl
@[go_sem] theorem pl211_1 : plcT L.env 211 1 = some (1, 1) := by kernel_rfl
@[go_sem] theorem fl211_2 : fldT L.env 211 2 = some (2, 17) := by kernel_rfl
@[go_sem] theorem pl211_2 : plcT L.env 211 2 = some (2, 1) := by kernel_rfl
@[go_sem] theorem fl211_3 : fldT L.env 211 3 = some (3, 9) := by kernel_rfl
@[go_sem] theorem pl211_3 : plcT L.env 211 3 = some (3, 1) := by kernel_rfl
@[go_sem] theorem ze211 : L.env.zero 211 = some [.nilptr, .nilptr, .nilptr, .str []] := by kernel_rfl
@[go_sem] theorem is212 : isT L.env 212 = true := by kernel_rfl
@[go_sem] theorem sz212 : L.env.sz 212 = 4 := by kernel_rfl
@[go_sem] theorem ag212 : aggT L.env 212 = some true := by kernel_rfl
theorem ui212 : (L.env.und 212).isSome = true := by kernel_rfl
@[go_sem] theorem bl212 : bldT L.env 212 = true := by kernel_rfl
theorem ft212 : fieldsT L.env 212 = some [17, 17, 17, 9] := by kernel_rfl
@[go_sem] theorem fl212_0 : fldT L.env 212 0 = some (0, 17) := by kernel_rfl
@[go_sem] theorem pl212_0 : plcT L.env 212 0 = some (0, 1) := by kernel_rfl
@[go_sem] theorem fl212_1 : fldT L.env 212 1 = some (1, 17) := by kernel_rfl
@[go_sem] theorem pl212_1 : plcT L.env 212 1 = some (1, 1) := by kernel_rfl
@[go_sem] theorem fl212_2 : fldT L.env 212 2 = some (2, 17) := by kernel_rfl
@[go_sem] theorem pl212_2 : plcT L.env 212 2 = some (2, 1) := by kernel_rfl
@[go_sem] theorem fl212_3 : fldT L.env 212 3 = some (3, 9) := by kernel_rfl
@[go_sem] theorem pl212_3 : plcT L.env 212 3 = some (3, 1) := by kernel_rfl
@[go_sem] theorem ze212 : L.env.zero 212 = some [.nilptr, .nilptr, .nilptr, .str []] := by kernel_rfl
@[go_sem] theorem is213 : isT L.env 213 = true := by kernel_rfl
@[go_sem] theorem sz213 : L.env.sz 213 = 0 := by kernel_rfl
@[go_sem] theorem ag213 : aggT L.env 213 = some true := by kernel_rfl
@[go_sem] theorem un213 : L.env.und 213 = some (.array 0 16) := by kernel_rfl
@[go_sem] theorem ar213 : arrT L.env 213 = some (0, 16) := by kernel_rfl
@[go_sem] theorem bl213 : bldT L.env 213 = true := by kernel_rfl
@[go_sem] theorem ze213 : L.env.zero 213 = some [] := by kernel_rfl
@[go_sem] theorem is214 : isT L.env 214 = true := by kernel_rfl
@[go_sem] theorem sz214 : L.env.sz 214 = 0 := by kernel_rfl
@[go_sem] theorem ag214 : aggT L.env 214 = some true := by kernel_rfl
theorem ui214 : (L.env.und 214).isSome = true := by kernel_rfl
@[go_sem] theorem bl214 : bldT L.env 214 = true := by kernel_rfl
theorem ft214 : fieldsT L.env 214 = some [213] := by kernel_rfl
@[go_sem] theorem fl214_0 : fldT L.env 214 0 = some (0, 213) := by kernel_rfl
@[go_sem] theorem pl214_0 : plcT L.env 214 0 = some (0, 0) := by kernel_rfl
@[go_sem] theorem ze214 : L.env.zero 214 = some [] := by kernel_rfl
@[go_sem] theorem is215 : isT L.env 215 = true := by kernel_rfl
@[go_sem] theorem sz215 : L.env.sz 215 = 0 := by kernel_rfl
@[go_sem] theorem ag215 : aggT L.env 215 = some true := by kernel_rfl
theorem ui215 : (L.env.und 215).isSome = true := by kernel_rfl
@[go_sem] theorem bl215 : bldT L.env 215 = true := by kernel_rfl
theorem ft215 : fieldsT L.env 215 = some [213] := by kernel_rfl
@[go_sem] theorem fl215_0 : fldT L.env 215 0 = some (0, 213) := by kernel_rfl
@[go_sem] theorem pl215_0 : plcT L.env 215 0 = some (0, 0) := by kernel_rfl
@[go_sem] theorem ze215 : L.env.zero 215 = some [] := by kernel_rfl
@[go_sem] theorem is216 : isT L.env 216 = true := by kernel_rfl
@[go_sem] theorem sz216 : L.env.sz 216 = 1 := by kernel_rfl
@[go_sem] theorem ag216 : aggT L.env 216 = some false := by kernel_rfl
@[go_sem] theorem ze216 : L.env.zero 216 = some [.nilfunc] := by kernel_rfl
@[go_sem] theorem is217 : isT L.env 217 = true := by kernel_rfl
@[go_sem] theorem sz217 : L.env.sz 217 = 1 := by kernel_rfl
@[go_sem] theorem ag217 : aggT L.env 217 = some false := by kernel_rfl
@[go_sem] theorem un217 : L.env.und 217 = some (.int .u32) := by kernel_rfl
@[go_sem] theorem in217 : intT L.env 217 = some .u32 := by kernel_rfl
@[go_sem] theorem ze217 : L.env.zero 217 = some [.int .u32 0] := by kernel_rfl
@[go_sem] theorem is218 : isT L.env 218 = true := by kernel_rfl
@[go_sem] theorem sz218 : L.env.sz 218 = 1 := by kernel_rfl
@[go_sem] theorem ag218 : aggT L.env 218 = some false := by kernel_rfl
@[go_sem] theorem un218 : L.env.und 218 = some (.int .u8) := by kernel_rfl
@[go_sem] theorem in218 : intT L.env 218 = some .u8 := by kernel_rfl
@[go_sem] theorem ze218 : L.env.zero 218 = some [.int .u8 0] := by kernel_rfl
@[go_sem] theorem is219 : isT L.env 219 = true := by kernel_rfl
@[go_sem] theorem sz219 : L.env.sz 219 = 1 := by kernel_rfl
@[go_sem] theorem ag219 : aggT L.env 219 = some false := by kernel_rfl
@[go_sem] theorem un219 : L.env.und 219 = some (.int .u8) := by kernel_rfl
@[go_sem] theorem in219 : intT L.env 219 = some .u8 := by kernel_rfl
@[go_sem] theorem ze219 : L.env.zero 219 = some [.int .u8 0] := by kernel_rfl
@[go_sem] theorem is220 : isT L.env 220 = true := by kernel_rfl
@[go_sem] theorem sz220 : L.env.sz 220 = 1 := by kernel_rfl
@[go_sem] theorem ag220 : aggT L.env 220 = some false := by kernel_rfl
@[go_sem] theorem ze220 : L.env.zero 220 = some [.nilfunc] := by kernel_rfl
@[go_sem] theorem is221 : isT L.env 221 = true := by kernel_rfl
@[go_sem] theorem sz221 : L.env.sz 221 = 1 := by kernel_rfl
@[go_sem] theorem ag221 : aggT L.env 221 = some false := by kernel_rfl
@[go_sem] theorem un221 : L.env.und 221 = some (.pointer 5) := by kernel_rfl
@[go_sem] theorem ze221 : L.env.zero 221 = some [.nilptr] := by kernel_rfl
@[go_sem] theorem is222 : isT L.env 222 = true := by kernel_rfl
@[go_sem] theorem sz222 : L.env.sz 222 = 1 := by kernel_rfl
@[go_sem] theorem ag222 : aggT L.env 222 = some false := by kernel_rfl
@[go_sem] theorem un222 : L.env.und 222 = some (.int .i32) := by kernel_rfl
@[go_sem] theorem in222 : intT L.env 222 = some .i32 := by kernel_rfl
@[go_sem] theorem ze222 : L.env.zero 222 = some [.int .i32 0] := by kernel_rfl
@[go_sem] theorem is223 : isT L.env 223 = true := by kernel_rfl
@[go_sem] theorem sz223 : L.env.sz 223 = 1 := by kernel_rfl
@[go_sem] theorem ag223 : aggT L.env 223 = some false := by kernel_rfl
@[go_sem] theorem un223 : L.env.und 223 = some (.int .i32) := by kernel_rfl
@[go_sem] theorem in223 : intT L.env 223 = some .i32 := by kernel_rfl
@[go_sem] theorem ze223 : L.env.zero 223 = some [.int .i32 0] := by kernel_rfl
@[go_sem] theorem is224 : isT L.env 224 = true := by kernel_rfl
@[go_sem] theorem sz224 : L.env.sz 224 = 11 := by kernel_rfl
@[go_sem] theorem ag224 : aggT L.env 224 = some true := by kernel_rfl
theorem ui224 : (L.env.und 224).isSome = true := by kernel_rfl
@[go_sem] theorem bl224 : bldT L.env 224 = true := by kernel_rfl
theorem ft224 : fieldsT L.env 224 = some [12, 12, 217, 218, 5, 5, 219, 220, 221, 222, 223] := by kernel_rfl
@[go_sem] theorem fl224_0 : fldT L.env 224 0 = some (0, 12) := by kernel_rfl
@[go_sem] theorem pl224_0 : plcT L.env 224 0 = some (0, 1) := by kernel_rfl
@[go_sem] theorem fl224_1 : fldT L.env 224 1 = some (1, 12) := by kernel_rfl
@[go_sem] theorem pl224_1 : plcT L.env 224 1 = some (1, 1) := by kernel_rfl
@[go_sem] theorem fl224_2 : fldT L.env 224 2 = some (2, 217) := by kernel_rfl
@[go_sem] theorem pl224_2 : plcT L.env 224 2 = some (2, 1) := by kernel_rfl
@[go_sem] theorem fl224_3 : fldT L.env 224 3 = some (3, 218) := by kernel_rfl
@[go_sem] theorem pl224_3 : plcT L.env 224 3 = some (3, 1) := by kernel_rfl
@[go_sem] theorem fl224_4 : fldT L.env 224 4 = some (4, 5) := by kernel_rfl
@[go_sem] theorem pl224_4 : plcT L.env 224 4 = some (4, 1) := by kernel_rfl
@[go_sem] theorem fl224_5 : fldT L.env 224 5 = some (5, 5) := by kernel_rfl
@[go_sem] theorem pl224_5 : plcT L.env 224 5 = some (5, 1) := by kernel_rfl
@[go_sem] theorem fl224_6 : fldT L.env 224 6 = some (6, 219) := by kernel_rfl
@[go_sem] theorem pl224_6 : plcT L.env 224 6 = some (6, 1) := by kernel_rfl
@[go_sem] theorem fl224_7 : fldT L.env 224 7 = some (7, 220) := by kernel_rfl
@[go_sem] theorem pl224_7 : plcT L.env 224 7 = some (7, 1) := by kernel_rfl
@[go_sem] theorem fl224_8 : fldT L.env 224 8 = some (8, 221) := by kernel_rfl
@[go_sem] theorem pl224_8 : plcT L.env 224 8 = some (8, 1) := by kernel_rfl
@[go_sem] theorem fl224_9 : fldT L.env 224 9 = some (9, 222) := by kernel_rfl
@[go_sem] theorem pl224_9 : plcT L.env 224 9 = some (9, 1) := by kernel_rfl
@[go_sem] theorem fl224_10 : fldT L.env 224 10 = some (10, 223) := by kernel_rfl
@[go_sem] theorem pl224_10 : plcT L.env 224 10 = some (10, 1) := by kernel_rfl
@[go_sem] theorem ze224 : L.env.zero 224 = some [.int .u64 0, .int .u64 0, .int .u32 0, .int .u8 0, .int .u8 0, .int .u8 0, .int .u8 0, .nilfunc, .nilptr, .int .i32 0, .int .i32 0] := by kernel_rfl
@[go_sem] theorem is225 : isT L.env 225 = true := by kernel_rfl
@[go_sem] theorem sz225 : L.env.sz 225 = 11 := by kernel_rfl
@[go_sem] theorem ag225 : aggT L.env 225 = some true := by kernel_rfl
theorem ui225 : (L.env.und 225).isSome = true := by kernel_rfl
@[go_sem] theorem bl225 : bldT L.env 225 = true := by kernel_rfl
theorem ft225 : fieldsT L.env 225 = some [12, 12, 217, 218, 5, 5, 219, 220, 221, 222, 223] := by kernel_rfl
@[go_sem] theorem fl225_0 : fldT L.env 225 0 = some (0, 12) := by kernel_rfl
@[go_sem] theorem pl225_0 : plcT L.env 225 0 = some (0, 1) := by kernel_rfl
@[go_sem] theorem fl225_1 : fldT L.env 225 1 = some (1, 12) := by kernel_rfl
@[go_sem] theorem pl225_1 : plcT L.env 225 1 = some (1, 1) := by kernel_rfl
@[go_sem] theorem fl225_2 : fldT L.env 225 2 = some (2, 217) := by kernel_rfl
@[go_sem] theorem pl225_2 : plcT L.env 225 2 = some (2, 1) := by kernel_rfl
@[go_sem] theorem fl225_3 : fldT L.env 225 3 = some (3, 218) := by kernel_rfl
@[go_sem] theorem pl225_3 : plcT L.env 225 3 = some (3, 1) := by kernel_rfl
@[go_sem] theorem fl225_4 : fldT L.env 225 4 = some (4, 5) := by kernel_rfl
@[go_sem] theorem pl225_4 : plcT L.env 225 4 = some (4, 1) := by kernel_rfl
@[go_sem] theorem fl225_5 : fldT L.env 225 5 = some (5, 5) := by kernel_rfl
@[go_sem] theorem pl225_5 : plcT L.env 225 5 = some (5, 1) := by kernel_rfl
@[go_sem] theorem fl225_6 : fldT L.env 225 6 = some (6, 219) := by kernel_rfl
@[go_sem] theorem pl225_6 : plcT L.env 225 6 = some (6, 1) := by kernel_rfl
@[go_sem] theorem fl225_7 : fldT L.env 225 7 = some (7, 220) := by kernel_rfl
@[go_sem] theorem pl225_7 : plcT L.env 225 7 = some (7, 1) := by kernel_rfl
@[go_sem] theorem fl225_8 : fldT L.env 225 8 = some (8, 221) := by kernel_rfl
@[go_sem] theorem pl225_8 : plcT L.env 225 8 = some (8, 1) := by kernel_rfl
@[go_sem] theorem fl225_9 : fldT L.env 225 9 = some (9, 222) := by kernel_rfl
@[go_sem] theorem pl225_9 : plcT L.env 225 9 = some (9, 1) := by kernel_rfl
@[go_sem] theorem fl225_10 : fldT L.env 225 10 = some (10, 223) := by kernel_rfl
@[go_sem] theorem pl225_10 : plcT L.env 225 10 = some (10, 1) := by kernel_rfl
@[go_sem] theorem ze225 : L.env.zero 225 = some [.int .u64 0, .int .u64 0, .int .u32 0, .int .u8 0, .int .u8 0, .int .u8 0, .int .u8 0, .nilfunc, .nilptr, .int .i32 0, .int .i32 0] := by kernel_rfl
@[go_sem] theorem is226 : isT L.env 226 = true := by kernel_rfl
@[go_sem] theorem sz226 : L.env.sz 226 = 1 := by kernel_rfl
@[go_sem] theorem ag226 : aggT L.env 226 = some false := by kernel_rfl
@[go_sem] theorem ze226 : L.env.zero 226 = some [.nilptr] := by kernel_rfl
end Go.ZInst
