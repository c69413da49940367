/- Type facts (printed by AxTypes). -/
import Derived.Test.YtllalbnibhofiaaGreatDoorZInst
import Derived.Test.YtllalbnibhofiaaGreatDoorAxE
set_option linter.unusedSimpArgs false
set_option linter.unusedVariables false
namespace Go.ZInst
open Go.Proofs Go.Ax
@[go_sem] theorem thawF (g:FuncId):L.env.thaw g = false:=by rfl
@[go_sem] theorem kp3_0:L.env.keep 3 0 = [3,4,5,6,8]:=by kernel_rfl
@[go_sem] theorem kp3_2:L.env.keep 3 2 = [3,4,5,6,8,9,11]:=by kernel_rfl
@[go_sem] theorem kp3_4:L.env.keep 3 4 = [3,4,5,6,13]:=by kernel_rfl
@[go_sem] theorem kp3_6:L.env.keep 3 6 = [3,4,5,6,13,14,16]:=by kernel_rfl
@[go_sem] theorem kp7_0:L.env.keep 7 0 = [1,2,5,6,7]:=by kernel_rfl
@[go_sem] theorem kp7_2:L.env.keep 7 2 = [1,2,5,6,9,10]:=by kernel_rfl
@[go_sem] theorem kp8_0:L.env.keep 8 0 = [1,2,3,9,24,25]:=by kernel_rfl
@[go_sem] theorem kp8_2:L.env.keep 8 2 = [1,2,9,11,12]:=by kernel_rfl
@[go_sem] theorem kp9_0:L.env.keep 9 0 = [8,10,27,28]:=by kernel_rfl
@[go_sem] theorem kp11_0:L.env.keep 11 0 = [1,9,10,11,12,13,14,15]:=by kernel_rfl
@[go_sem] theorem kp11_2:L.env.keep 11 2 = [1,9,10,11,12,13,14,15,19,75,76]:=by kernel_rfl
@[go_sem] theorem kp17_0:L.env.keep 17 0 = [2,3,31,32,33]:=by kernel_rfl
@[go_sem] theorem kp17_2:L.env.keep 17 2 = [3,47,48,49]:=by kernel_rfl
@[go_sem] theorem kp19_0:L.env.keep 19 0 = [1,2,3,4,8,9,10,11,34,35]:=by kernel_rfl
@[go_sem] theorem kp22_0:L.env.keep 22 0 = [3,6,7,8]:=by kernel_rfl
@[go_sem] theorem kp23_0:L.env.keep 23 0 = [1,2,3,6,7,25,26,27]:=by kernel_rfl
@[go_sem] theorem kp23_2:L.env.keep 23 2 = [2,3,6,7,41,42,43]:=by kernel_rfl
@[go_sem] theorem kp23_4:L.env.keep 23 4 = [3,6,7,57,58,59]:=by kernel_rfl
@[go_sem] theorem kp23_6:L.env.keep 23 6 = [3,6,7,99,100,101]:=by kernel_rfl
@[go_sem] theorem kp23_8:L.env.keep 23 8 = [3,6,7,114,115,116]:=by kernel_rfl
@[go_sem] theorem kp24_0:L.env.keep 24 0 = [3,4,5,6,7,8,14,15,16]:=by kernel_rfl
@[go_sem] theorem kp25_0:L.env.keep 25 0 = [0,1,4,9,10]:=by kernel_rfl
@[go_sem] theorem kp27_0:L.env.keep 27 0 = [1,2,3,4]:=by kernel_rfl
@[go_sem] theorem kp27_2:L.env.keep 27 2 = [1,2,3,5,6,7]:=by kernel_rfl
@[go_sem] theorem kp27_4:L.env.keep 27 4 = [1,2,3,5,6,8]:=by kernel_rfl
@[go_sem] theorem kp27_6:L.env.keep 27 6 = [1,2,3,5,6,9,10]:=by kernel_rfl
@[go_sem] theorem kp27_8:L.env.keep 27 8 = [1,2,3,9,11]:=by kernel_rfl
@[go_sem] theorem kp27_10:L.env.keep 27 10 = [1,2,3,9,12]:=by kernel_rfl
@[go_sem] theorem kp28_0:L.env.keep 28 0 = [0,1,2,7,8]:=by kernel_rfl
@[go_sem] theorem kp29_0:L.env.keep 29 0 = [1,2,5,6]:=by kernel_rfl
@[go_sem] theorem kp33_0:L.env.keep 33 0 = [5,15,16,17]:=by kernel_rfl
@[go_sem] theorem kp33_2:L.env.keep 33 2 = [5,6,15,16,17,25,26]:=by kernel_rfl
@[go_sem] theorem kp36_0:L.env.keep 36 0 = [4,6,21,22]:=by kernel_rfl
@[go_sem] theorem kp41_0:L.env.keep 41 0 = [0,2,7,14,15]:=by kernel_rfl
@[go_sem] theorem kp41_2:L.env.keep 41 2 = [0,2,7,8,14,15,18,19,20]:=by kernel_rfl
@[go_sem] theorem kp46_0:L.env.keep 46 0 = [0,4,7,33,34,35]:=by kernel_rfl
@[go_sem] theorem kp47_0:L.env.keep 47 0 = [1,2,3,7,16,17,18]:=by kernel_rfl
@[go_sem] theorem kp48_0:L.env.keep 48 0 = [2,3,4,6,10,11,12]:=by kernel_rfl
@[go_sem] theorem kp50_0:L.env.keep 50 0 = [5,24]:=by kernel_rfl
@[go_sem] theorem kp54_0:L.env.keep 54 0 = [2,3,4,6,7,8,9,10,11,12]:=by kernel_rfl
@[go_sem] theorem kp60_0:L.env.keep 60 0 = [1,2,3,4,9]:=by kernel_rfl
@[go_sem] theorem kp67_0:L.env.keep 67 0 = [1,5,6,7,29,30,31]:=by kernel_rfl
@[go_sem] theorem kp67_2:L.env.keep 67 2 = [1,5,6,7,10,11]:=by kernel_rfl
@[go_sem] theorem kp67_4:L.env.keep 67 4 = [1,5,6,7,10,11,12,76,77,78]:=by kernel_rfl
@[go_sem] theorem kp71_0:L.env.keep 71 0 = [1,5,9,10,11]:=by kernel_rfl
@[go_sem] theorem kp76_0:L.env.keep 76 0 = [2,3,4,5,8,9,10]:=by kernel_rfl
@[go_sem] theorem kp79_0:L.env.keep 79 0 = [2,3,7,8,9]:=by kernel_rfl
@[go_sem] theorem kp80_0:L.env.keep 80 0 = [2,3,7,8,9]:=by kernel_rfl
@[go_sem] theorem kp81_0:L.env.keep 81 0 = [2,3,7,8,9]:=by kernel_rfl
@[go_sem] theorem kp98_0:L.env.keep 98 0 = [2,5,6]:=by kernel_rfl
@[go_sem] theorem kp98_2:L.env.keep 98 2 = [2,5,6,45,46,47]:=by kernel_rfl
@[go_sem] theorem kp101_1:L.env.keep 101 1 = [1,36,37,38]:=by kernel_rfl
@[go_sem] theorem kp101_3:L.env.keep 101 3 = [1,55,56,57]:=by kernel_rfl
@[go_sem] theorem kp102_0:L.env.keep 102 0 = [3,4,18,19,20]:=by kernel_rfl
@[go_sem] theorem kp102_2:L.env.keep 102 2 = [3,4,5,18,19,20,26,27,28]:=by kernel_rfl
@[go_sem] theorem kp102_4:L.env.keep 102 4 = [3,51,52,53]:=by kernel_rfl
@[go_sem] theorem kp103_0:L.env.keep 103 0 = [0,1,2,6,7,8]:=by kernel_rfl
@[go_sem] theorem kp103_2:L.env.keep 103 2 = [0,1,2,6]:=by kernel_rfl
@[go_sem] theorem kp120_0:L.env.keep 120 0 = [0,1,7,8]:=by kernel_rfl
@[go_sem] theorem kp122_0:L.env.keep 122 0 = [3,8,9,10]:=by kernel_rfl
@[go_sem] theorem kp126_0:L.env.keep 126 0 = [0,1,2,3,8]:=by kernel_rfl
@[go_sem] theorem kp126_2:L.env.keep 126 2 = [0,1,2,3,8,9]:=by kernel_rfl
@[go_sem] theorem kp128_0:L.env.keep 128 0 = [0,1,7,8]:=by kernel_rfl
@[go_sem] theorem kp138_0:L.env.keep 138 0 = [0,1,7,8]:=by kernel_rfl
@[go_sem] theorem by3:L.env.bytes 3 = 8:=by kernel_rfl
@[go_sem] theorem by4:L.env.bytes 4 = 1:=by kernel_rfl
@[go_sem] theorem by9:L.env.bytes 9 = 16:=by kernel_rfl
@[go_sem] theorem by46:L.env.bytes 46 = 24:=by kernel_rfl
@[go_sem] theorem by52:L.env.bytes 52 = 16:=by kernel_rfl
@[go_sem] theorem by53:L.env.bytes 53 = 1:=by kernel_rfl
@[go_sem] theorem by55:L.env.bytes 55 = 40:=by kernel_rfl
@[go_sem] theorem by60:L.env.bytes 60 = 48:=by kernel_rfl
@[go_sem] theorem by82:L.env.bytes 82 = 8:=by kernel_rfl
@[go_sem] theorem by102:L.env.bytes 102 = 48:=by kernel_rfl
@[go_sem] theorem by103:L.env.bytes 103 = 24:=by kernel_rfl
@[go_sem] theorem by111:L.env.bytes 111 = 16:=by kernel_rfl
@[go_sem] theorem is3:isT L.env 3 = true:=by kernel_rfl
@[go_sem] theorem sz3:L.env.sz 3 = 1:=by kernel_rfl
@[go_sem] theorem ag3:aggT L.env 3 = some false:=by kernel_rfl
@[go_sem] theorem in3:intT L.env 3 = some .i64:=by kernel_rfl
@[go_sem] theorem ze3:L.env.zero 3 = some [.int .i64 0]:=by kernel_rfl
@[go_sem] theorem is4:isT L.env 4 = true:=by kernel_rfl
@[go_sem] theorem sz4:L.env.sz 4 = 1:=by kernel_rfl
@[go_sem] theorem ag4:aggT L.env 4 = some false:=by kernel_rfl
@[go_sem] theorem un4:L.env.und 4 = some .bool:=by kernel_rfl
@[go_sem] theorem ze4:L.env.zero 4 = some [.bool false]:=by kernel_rfl
@[go_sem] theorem is5:isT L.env 5 = true:=by kernel_rfl
@[go_sem] theorem sz5:L.env.sz 5 = 1:=by kernel_rfl
@[go_sem] theorem ag5:aggT L.env 5 = some false:=by kernel_rfl
@[go_sem] theorem in5:intT L.env 5 = some .u8:=by kernel_rfl
@[go_sem] theorem ze5:L.env.zero 5 = some [.int .u8 0]:=by kernel_rfl
@[go_sem] theorem is9:isT L.env 9 = true:=by kernel_rfl
@[go_sem] theorem sz9:L.env.sz 9 = 1:=by kernel_rfl
@[go_sem] theorem ag9:aggT L.env 9 = some false:=by kernel_rfl
@[go_sem] theorem ze9:L.env.zero 9 = some [.str []]:=by kernel_rfl
@[go_sem] theorem is22:isT L.env 22 = true:=by kernel_rfl
@[go_sem] theorem ar22:arrT L.env 22 = some (2,5):=by kernel_rfl
@[go_sem] theorem ar23:arrT L.env 23 = some (4,5):=by kernel_rfl
@[go_sem] theorem is24:isT L.env 24 = true:=by kernel_rfl
@[go_sem] theorem sz24:L.env.sz 24 = 1:=by kernel_rfl
@[go_sem] theorem ag24:aggT L.env 24 = some false:=by kernel_rfl
@[go_sem] theorem st24:slT L.env 24 = some 127:=by kernel_rfl
@[go_sem] theorem is25:isT L.env 25 = true:=by kernel_rfl
@[go_sem] theorem sz25:L.env.sz 25 = 1:=by kernel_rfl
@[go_sem] theorem ag25:aggT L.env 25 = some false:=by kernel_rfl
@[go_sem] theorem st25:slT L.env 25 = some 5:=by kernel_rfl
@[go_sem] theorem bs25:byT L.env 25 9 = true:=by kernel_rfl
@[go_sem] theorem is27:isT L.env 27 = true:=by kernel_rfl
@[go_sem] theorem sz27:L.env.sz 27 = 12:=by kernel_rfl
@[go_sem] theorem ag27:aggT L.env 27 = some true:=by kernel_rfl
theorem ft27:fieldsT L.env 27 = some [5,5,22,4,4,23,24,25]:=by kernel_rfl
@[go_sem] theorem fl27_0:fldT L.env 27 0 = some (0,5):=by kernel_rfl
@[go_sem] theorem fl27_1:fldT L.env 27 1 = some (1,5):=by kernel_rfl
@[go_sem] theorem fl27_2:fldT L.env 27 2 = some (2,22):=by kernel_rfl
@[go_sem] theorem fl27_3:fldT L.env 27 3 = some (4,4):=by kernel_rfl
@[go_sem] theorem fl27_4:fldT L.env 27 4 = some (5,4):=by kernel_rfl
@[go_sem] theorem fl27_6:fldT L.env 27 6 = some (10,24):=by kernel_rfl
@[go_sem] theorem fl27_7:fldT L.env 27 7 = some (11,25):=by kernel_rfl
@[go_sem] theorem is28:isT L.env 28 = true:=by kernel_rfl
@[go_sem] theorem sz28:L.env.sz 28 = 1:=by kernel_rfl
@[go_sem] theorem ag28:aggT L.env 28 = some false:=by kernel_rfl
@[go_sem] theorem st28:slT L.env 28 = some 72:=by kernel_rfl
@[go_sem] theorem is29:isT L.env 29 = true:=by kernel_rfl
@[go_sem] theorem sz29:L.env.sz 29 = 1:=by kernel_rfl
@[go_sem] theorem ag29:aggT L.env 29 = some false:=by kernel_rfl
@[go_sem] theorem st29:slT L.env 29 = some 66:=by kernel_rfl
@[go_sem] theorem sz31:L.env.sz 31 = 14:=by kernel_rfl
@[go_sem] theorem ag31:aggT L.env 31 = some true:=by kernel_rfl
theorem ft31:fieldsT L.env 31 = some [27,28,29]:=by kernel_rfl
@[go_sem] theorem fl31_0:fldT L.env 31 0 = some (0,27):=by kernel_rfl
@[go_sem] theorem fl31_1:fldT L.env 31 1 = some (12,28):=by kernel_rfl
@[go_sem] theorem fl31_2:fldT L.env 31 2 = some (13,29):=by kernel_rfl
@[go_sem] theorem is32:isT L.env 32 = true:=by kernel_rfl
@[go_sem] theorem sz32:L.env.sz 32 = 1:=by kernel_rfl
@[go_sem] theorem ag32:aggT L.env 32 = some false:=by kernel_rfl
@[go_sem] theorem st32:slT L.env 32 = some 102:=by kernel_rfl
@[go_sem] theorem ap32:apT L.env 32 32 = some 102:=by kernel_rfl
@[go_sem] theorem rm32 {k:Nat} (h:(k ≤ 1000000000) = True):roomOk L.env 102 k = true:=room_ok (of_eq_true h) (by rw [by102];decide)
@[go_sem] theorem is33:isT L.env 33 = true:=by kernel_rfl
@[go_sem] theorem sz33:L.env.sz 33 = 1:=by kernel_rfl
@[go_sem] theorem ag33:aggT L.env 33 = some false:=by kernel_rfl
@[go_sem] theorem st33:slT L.env 33 = some 9:=by kernel_rfl
@[go_sem] theorem ap33:apT L.env 33 33 = some 9:=by kernel_rfl
@[go_sem] theorem rm33 {k:Nat} (h:(k ≤ 1000000000) = True):roomOk L.env 9 k = true:=room_ok (of_eq_true h) (by rw [by9];decide)
@[go_sem] theorem is34:isT L.env 34 = true:=by kernel_rfl
@[go_sem] theorem sz34:L.env.sz 34 = 1:=by kernel_rfl
@[go_sem] theorem ag34:aggT L.env 34 = some false:=by kernel_rfl
@[go_sem] theorem st34:slT L.env 34 = some 129:=by kernel_rfl
@[go_sem] theorem is35:isT L.env 35 = true:=by kernel_rfl
@[go_sem] theorem sz35:L.env.sz 35 = 1:=by kernel_rfl
@[go_sem] theorem ag35:aggT L.env 35 = some false:=by kernel_rfl
@[go_sem] theorem st35:slT L.env 35 = some 3:=by kernel_rfl
@[go_sem] theorem ap35:apT L.env 35 35 = some 3:=by kernel_rfl
@[go_sem] theorem rm35 {k:Nat} (h:(k ≤ 1000000000) = True):roomOk L.env 3 k = true:=room_ok (of_eq_true h) (by rw [by3];decide)
@[go_sem] theorem mk35 {k:Nat} (h:(k ≤ 1000000000) = True):mkOk L.env 3 (k:Int) (k:Int) = true:=mkOk_nat (of_eq_true h) (by rw [by3];decide)
@[go_sem] theorem ze35:L.env.zero 35 = some [.nilslice]:=by kernel_rfl
@[go_sem] theorem is37:isT L.env 37 = true:=by kernel_rfl
@[go_sem] theorem sz37:L.env.sz 37 = 4:=by kernel_rfl
@[go_sem] theorem ag37:aggT L.env 37 = some true:=by kernel_rfl
@[go_sem] theorem fl37_0:fldT L.env 37 0 = some (0,32):=by kernel_rfl
@[go_sem] theorem fl37_1:fldT L.env 37 1 = some (1,33):=by kernel_rfl
@[go_sem] theorem fl37_2:fldT L.env 37 2 = some (2,34):=by kernel_rfl
@[go_sem] theorem fl37_3:fldT L.env 37 3 = some (3,35):=by kernel_rfl
@[go_sem] theorem ze37:L.env.zero 37 = some [.nilslice,.nilslice,.nilslice,.nilslice]:=by kernel_rfl
@[go_sem] theorem sz38:L.env.sz 38 = 1:=by kernel_rfl
@[go_sem] theorem ag38:aggT L.env 38 = some false:=by kernel_rfl
@[go_sem] theorem st38:slT L.env 38 = some 55:=by kernel_rfl
@[go_sem] theorem ap38:apT L.env 38 38 = some 55:=by kernel_rfl
@[go_sem] theorem rm38 {k:Nat} (h:(k ≤ 1000000000) = True):roomOk L.env 55 k = true:=room_ok (of_eq_true h) (by rw [by55];decide)
@[go_sem] theorem st39:slT L.env 39 = some 60:=by kernel_rfl
@[go_sem] theorem ap39:apT L.env 39 39 = some 60:=by kernel_rfl
@[go_sem] theorem rm39 {k:Nat} (h:(k ≤ 1000000000) = True):roomOk L.env 60 k = true:=room_ok (of_eq_true h) (by rw [by60];decide)
@[go_sem] theorem is42:isT L.env 42 = true:=by kernel_rfl
@[go_sem] theorem sz42:L.env.sz 42 = 1:=by kernel_rfl
@[go_sem] theorem ag42:aggT L.env 42 = some false:=by kernel_rfl
@[go_sem] theorem st42:slT L.env 42 = some 46:=by kernel_rfl
@[go_sem] theorem mk42 {k:Nat} (h:(k ≤ 1000000000) = True):mkOk L.env 46 (k:Int) (k:Int) = true:=mkOk_nat (of_eq_true h) (by rw [by46];decide)
@[go_sem] theorem ze42:L.env.zero 42 = some [.nilslice]:=by kernel_rfl
@[go_sem] theorem is46:isT L.env 46 = true:=by kernel_rfl
@[go_sem] theorem sz46:L.env.sz 46 = 1:=by kernel_rfl
@[go_sem] theorem ag46:aggT L.env 46 = some false:=by kernel_rfl
@[go_sem] theorem st46:slT L.env 46 = some 82:=by kernel_rfl
@[go_sem] theorem mk46 {k:Nat} (h:(k ≤ 1000000000) = True):mkOk L.env 82 (k:Int) (k:Int) = true:=mkOk_nat (of_eq_true h) (by rw [by82];decide)
@[go_sem] theorem ze46:L.env.zero 46 = some [.nilslice]:=by kernel_rfl
@[go_sem] theorem st47:slT L.env 47 = some 4:=by kernel_rfl
@[go_sem] theorem mk47 {k:Nat} (h:(k ≤ 1000000000) = True):mkOk L.env 4 (k:Int) (k:Int) = true:=mkOk_nat (of_eq_true h) (by rw [by4];decide)
@[go_sem] theorem is50:isT L.env 50 = true:=by kernel_rfl
@[go_sem] theorem sz50:L.env.sz 50 = 1:=by kernel_rfl
@[go_sem] theorem ag50:aggT L.env 50 = some false:=by kernel_rfl
@[go_sem] theorem is52:isT L.env 52 = true:=by kernel_rfl
@[go_sem] theorem sz52:L.env.sz 52 = 2:=by kernel_rfl
@[go_sem] theorem ag52:aggT L.env 52 = some true:=by kernel_rfl
@[go_sem] theorem bl52:bldT L.env 52 = true:=by kernel_rfl
@[go_sem] theorem fl52_0:fldT L.env 52 0 = some (0,3):=by kernel_rfl
@[go_sem] theorem pl52_0:plcT L.env 52 0 = some (0,1):=by kernel_rfl
@[go_sem] theorem fl52_1:fldT L.env 52 1 = some (1,3):=by kernel_rfl
@[go_sem] theorem pl52_1:plcT L.env 52 1 = some (1,1):=by kernel_rfl
@[go_sem] theorem ze52:L.env.zero 52 = some [.int .i64 0,.int .i64 0]:=by kernel_rfl
@[go_sem] theorem is53:isT L.env 53 = true:=by kernel_rfl
@[go_sem] theorem sz53:L.env.sz 53 = 1:=by kernel_rfl
@[go_sem] theorem ag53:aggT L.env 53 = some false:=by kernel_rfl
@[go_sem] theorem ze53:L.env.zero 53 = some [.int .u8 0]:=by kernel_rfl
@[go_sem] theorem is55:isT L.env 55 = true:=by kernel_rfl
@[go_sem] theorem sz55:L.env.sz 55 = 5:=by kernel_rfl
@[go_sem] theorem ag55:aggT L.env 55 = some true:=by kernel_rfl
@[go_sem] theorem bl55:bldT L.env 55 = true:=by kernel_rfl
@[go_sem] theorem fl55_0:fldT L.env 55 0 = some (0,50):=by kernel_rfl
@[go_sem] theorem pl55_0:plcT L.env 55 0 = some (0,1):=by kernel_rfl
@[go_sem] theorem fl55_1:fldT L.env 55 1 = some (1,52):=by kernel_rfl
@[go_sem] theorem pl55_1:plcT L.env 55 1 = some (1,2):=by kernel_rfl
@[go_sem] theorem fl55_2:fldT L.env 55 2 = some (3,53):=by kernel_rfl
@[go_sem] theorem fl55_3:fldT L.env 55 3 = some (4,3):=by kernel_rfl
@[go_sem] theorem ze55:L.env.zero 55 = some [.int .u8 0,.int .i64 0,.int .i64 0,.int .u8 0,.int .i64 0]:=by kernel_rfl
@[go_sem] theorem is58:isT L.env 58 = true:=by kernel_rfl
@[go_sem] theorem sz58:L.env.sz 58 = 1:=by kernel_rfl
@[go_sem] theorem ag58:aggT L.env 58 = some false:=by kernel_rfl
@[go_sem] theorem st58:slT L.env 58 = some 53:=by kernel_rfl
@[go_sem] theorem ap58:apT L.env 58 58 = some 53:=by kernel_rfl
@[go_sem] theorem rm58 {k:Nat} (h:(k ≤ 1000000000) = True):roomOk L.env 53 k = true:=room_ok (of_eq_true h) (by rw [by53];decide)
@[go_sem] theorem is60:isT L.env 60 = true:=by kernel_rfl
@[go_sem] theorem sz60:L.env.sz 60 = 2:=by kernel_rfl
@[go_sem] theorem ag60:aggT L.env 60 = some true:=by kernel_rfl
@[go_sem] theorem bl60:bldT L.env 60 = true:=by kernel_rfl
@[go_sem] theorem fl60_0:fldT L.env 60 0 = some (0,58):=by kernel_rfl
@[go_sem] theorem pl60_0:plcT L.env 60 0 = some (0,1):=by kernel_rfl
@[go_sem] theorem fl60_1:fldT L.env 60 1 = some (1,58):=by kernel_rfl
@[go_sem] theorem pl60_1:plcT L.env 60 1 = some (1,1):=by kernel_rfl
@[go_sem] theorem ze60:L.env.zero 60 = some [.nilslice,.nilslice]:=by kernel_rfl
@[go_sem] theorem is66:isT L.env 66 = true:=by kernel_rfl
@[go_sem] theorem sz66:L.env.sz 66 = 2:=by kernel_rfl
@[go_sem] theorem ag66:aggT L.env 66 = some true:=by kernel_rfl
theorem ft66:fieldsT L.env 66 = some [25,25]:=by kernel_rfl
@[go_sem] theorem fl66_0:fldT L.env 66 0 = some (0,25):=by kernel_rfl
@[go_sem] theorem fl66_1:fldT L.env 66 1 = some (1,25):=by kernel_rfl
@[go_sem] theorem is72:isT L.env 72 = true:=by kernel_rfl
@[go_sem] theorem sz72:L.env.sz 72 = 5:=by kernel_rfl
@[go_sem] theorem ag72:aggT L.env 72 = some true:=by kernel_rfl
theorem ft72:fieldsT L.env 72 = some [5,5,5,5,4]:=by kernel_rfl
@[go_sem] theorem fl72_0:fldT L.env 72 0 = some (0,5):=by kernel_rfl
@[go_sem] theorem fl72_1:fldT L.env 72 1 = some (1,5):=by kernel_rfl
@[go_sem] theorem fl72_2:fldT L.env 72 2 = some (2,5):=by kernel_rfl
@[go_sem] theorem fl72_3:fldT L.env 72 3 = some (3,5):=by kernel_rfl
@[go_sem] theorem fl72_4:fldT L.env 72 4 = some (4,4):=by kernel_rfl
@[go_sem] theorem ze72:L.env.zero 72 = some [.int .u8 0,.int .u8 0,.int .u8 0,.int .u8 0,.bool false]:=by kernel_rfl
@[go_sem] theorem is76:isT L.env 76 = true:=by kernel_rfl
@[go_sem] theorem sz76:L.env.sz 76 = 1:=by kernel_rfl
@[go_sem] theorem ag76:aggT L.env 76 = some false:=by kernel_rfl
@[go_sem] theorem is77:isT L.env 77 = true:=by kernel_rfl
@[go_sem] theorem sz77:L.env.sz 77 = 1:=by kernel_rfl
@[go_sem] theorem ag77:aggT L.env 77 = some false:=by kernel_rfl
@[go_sem] theorem is79:isT L.env 79 = true:=by kernel_rfl
@[go_sem] theorem sz79:L.env.sz 79 = 9:=by kernel_rfl
@[go_sem] theorem ag79:aggT L.env 79 = some true:=by kernel_rfl
@[go_sem] theorem bl79:bldT L.env 79 = true:=by kernel_rfl
@[go_sem] theorem fl79_0:fldT L.env 79 0 = some (0,37):=by kernel_rfl
@[go_sem] theorem pl79_0:plcT L.env 79 0 = some (0,4):=by kernel_rfl
@[go_sem] theorem fl79_1:fldT L.env 79 1 = some (4,35):=by kernel_rfl
@[go_sem] theorem pl79_1:plcT L.env 79 1 = some (4,1):=by kernel_rfl
@[go_sem] theorem fl79_2:fldT L.env 79 2 = some (5,35):=by kernel_rfl
@[go_sem] theorem pl79_2:plcT L.env 79 2 = some (5,1):=by kernel_rfl
@[go_sem] theorem fl79_3:fldT L.env 79 3 = some (6,35):=by kernel_rfl
@[go_sem] theorem pl79_3:plcT L.env 79 3 = some (6,1):=by kernel_rfl
@[go_sem] theorem fl79_4:fldT L.env 79 4 = some (7,76):=by kernel_rfl
@[go_sem] theorem pl79_4:plcT L.env 79 4 = some (7,1):=by kernel_rfl
@[go_sem] theorem fl79_5:fldT L.env 79 5 = some (8,77):=by kernel_rfl
@[go_sem] theorem pl79_5:plcT L.env 79 5 = some (8,1):=by kernel_rfl
@[go_sem] theorem ze79:L.env.zero 79 = some [.nilslice,.nilslice,.nilslice,.nilslice,.nilslice,.nilslice,.nilslice,.nilfunc,.nilfunc]:=by kernel_rfl
@[go_sem] theorem is82:isT L.env 82 = true:=by kernel_rfl
@[go_sem] theorem sz82:L.env.sz 82 = 1:=by kernel_rfl
@[go_sem] theorem ag82:aggT L.env 82 = some false:=by kernel_rfl
@[go_sem] theorem ze82:L.env.zero 82 = some [.int .u64 0]:=by kernel_rfl
@[go_sem] theorem sz85:L.env.sz 85 = 1:=by kernel_rfl
@[go_sem] theorem ag85:aggT L.env 85 = some false:=by kernel_rfl
@[go_sem] theorem st85:slT L.env 85 = some 111:=by kernel_rfl
@[go_sem] theorem ap85:apT L.env 85 85 = some 111:=by kernel_rfl
@[go_sem] theorem rm85 {k:Nat} (h:(k ≤ 1000000000) = True):roomOk L.env 111 k = true:=room_ok (of_eq_true h) (by rw [by111];decide)
@[go_sem] theorem mk85 {k:Nat} (h:(k ≤ 1000000000) = True):mkOk L.env 111 (k:Int) (k:Int) = true:=mkOk_nat (of_eq_true h) (by rw [by111];decide)
@[go_sem] theorem is94:isT L.env 94 = true:=by kernel_rfl
@[go_sem] theorem sz94:L.env.sz 94 = 1:=by kernel_rfl
@[go_sem] theorem ag94:aggT L.env 94 = some false:=by kernel_rfl
@[go_sem] theorem in94:intT L.env 94 = some .u8:=by kernel_rfl
@[go_sem] theorem ze94:L.env.zero 94 = some [.int .u8 0]:=by kernel_rfl
@[go_sem] theorem is102:isT L.env 102 = true:=by kernel_rfl
@[go_sem] theorem sz102:L.env.sz 102 = 4:=by kernel_rfl
@[go_sem] theorem ag102:aggT L.env 102 = some true:=by kernel_rfl
@[go_sem] theorem bl102:bldT L.env 102 = true:=by kernel_rfl
@[go_sem] theorem fl102_0:fldT L.env 102 0 = some (0,94):=by kernel_rfl
@[go_sem] theorem pl102_0:plcT L.env 102 0 = some (0,1):=by kernel_rfl
@[go_sem] theorem fl102_1:fldT L.env 102 1 = some (1,35):=by kernel_rfl
@[go_sem] theorem pl102_1:plcT L.env 102 1 = some (1,1):=by kernel_rfl
@[go_sem] theorem fl102_2:fldT L.env 102 2 = some (2,3):=by kernel_rfl
@[go_sem] theorem fl102_3:fldT L.env 102 3 = some (3,3):=by kernel_rfl
@[go_sem] theorem ze102:L.env.zero 102 = some [.int .u8 0,.nilslice,.int .i64 0,.int .i64 0]:=by kernel_rfl
@[go_sem] theorem is103:isT L.env 103 = true:=by kernel_rfl
@[go_sem] theorem sz103:L.env.sz 103 = 1:=by kernel_rfl
@[go_sem] theorem ag103:aggT L.env 103 = some false:=by kernel_rfl
@[go_sem] theorem st103:slT L.env 103 = some 52:=by kernel_rfl
@[go_sem] theorem ap103:apT L.env 103 103 = some 52:=by kernel_rfl
@[go_sem] theorem rm103 {k:Nat} (h:(k ≤ 1000000000) = True):roomOk L.env 52 k = true:=room_ok (of_eq_true h) (by rw [by52];decide)
@[go_sem] theorem ze103:L.env.zero 103 = some [.nilslice]:=by kernel_rfl
@[go_sem] theorem is111:isT L.env 111 = true:=by kernel_rfl
@[go_sem] theorem sz111:L.env.sz 111 = 2:=by kernel_rfl
@[go_sem] theorem ag111:aggT L.env 111 = some true:=by kernel_rfl
@[go_sem] theorem bl111:bldT L.env 111 = true:=by kernel_rfl
@[go_sem] theorem fl111_0:fldT L.env 111 0 = some (0,82):=by kernel_rfl
@[go_sem] theorem pl111_0:plcT L.env 111 0 = some (0,1):=by kernel_rfl
@[go_sem] theorem fl111_1:fldT L.env 111 1 = some (1,82):=by kernel_rfl
@[go_sem] theorem pl111_1:plcT L.env 111 1 = some (1,1):=by kernel_rfl
@[go_sem] theorem ze111:L.env.zero 111 = some [.int .u64 0,.int .u64 0]:=by kernel_rfl
@[go_sem] theorem is118:isT L.env 118 = true:=by kernel_rfl
@[go_sem] theorem sz118:L.env.sz 118 = 1:=by kernel_rfl
@[go_sem] theorem ag118:aggT L.env 118 = some false:=by kernel_rfl
@[go_sem] theorem ze118:L.env.zero 118 = some [.nilmap]:=by kernel_rfl
@[go_sem] theorem is119:isT L.env 119 = true:=by kernel_rfl
@[go_sem] theorem sz119:L.env.sz 119 = 1:=by kernel_rfl
@[go_sem] theorem ag119:aggT L.env 119 = some false:=by kernel_rfl
@[go_sem] theorem ze119:L.env.zero 119 = some [.nilmap]:=by kernel_rfl
@[go_sem] theorem is123:isT L.env 123 = true:=by kernel_rfl
@[go_sem] theorem sz123:L.env.sz 123 = 1:=by kernel_rfl
@[go_sem] theorem ag123:aggT L.env 123 = some false:=by kernel_rfl
@[go_sem] theorem ze123:L.env.zero 123 = some [.nilfunc]:=by kernel_rfl
@[go_sem] theorem is125:isT L.env 125 = true:=by kernel_rfl
@[go_sem] theorem ar125:arrT L.env 125 = some (3,5):=by kernel_rfl
@[go_sem] theorem is127:isT L.env 127 = true:=by kernel_rfl
@[go_sem] theorem sz127:L.env.sz 127 = 4:=by kernel_rfl
@[go_sem] theorem ag127:aggT L.env 127 = some true:=by kernel_rfl
theorem ft127:fieldsT L.env 127 = some [5,125]:=by kernel_rfl
@[go_sem] theorem fl127_0:fldT L.env 127 0 = some (0,5):=by kernel_rfl
@[go_sem] theorem fl127_1:fldT L.env 127 1 = some (1,125):=by kernel_rfl
@[go_sem] theorem ar149:arrT L.env 149 = some (4,111):=by kernel_rfl
@[go_sem] theorem st172:slT L.env 172 = some 103:=by kernel_rfl
@[go_sem] theorem mk172 {k:Nat} (h:(k ≤ 1000000000) = True):mkOk L.env 103 (k:Int) (k:Int) = true:=mkOk_nat (of_eq_true h) (by rw [by103];decide)
@[go_sem] theorem st176:slT L.env 176 = some 94:=by kernel_rfl
@[go_sem] theorem is179:isT L.env 179 = true:=by kernel_rfl
@[go_sem] theorem sz179:L.env.sz 179 = 2:=by kernel_rfl
@[go_sem] theorem ar179:arrT L.env 179 = some (2,3):=by kernel_rfl
@[go_sem] theorem ar180:arrT L.env 180 = some (16,179):=by kernel_rfl
end Go.ZInst
