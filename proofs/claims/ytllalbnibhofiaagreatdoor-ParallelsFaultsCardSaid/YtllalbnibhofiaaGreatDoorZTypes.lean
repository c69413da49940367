/- Type facts (printed by AxTypes). -/
import Derived.Test.YtllalbnibhofiaaGreatDoorZInst
import Derived.Test.YtllalbnibhofiaaGreatDoorAxE
set_option linter.unusedSimpArgs false
set_option linter.unusedVariables false
namespace Go.ZInst
open Go.Proofs Go.Ax
@[go_sem] theorem roF (g:FuncId):L.env.ro g = decide (g = 94 ∨ g = 95):=by rfl
@[go_sem] theorem e9m (g:FuncId):L.env.thaw g = decide (g = 57 ∨ g = 91):=by rfl
@[go_sem] theorem kp5_0:L.env.keep 5 0 = [2,7,8,10,11,12,1000000]:=by kernel_rfl
@[go_sem] theorem kp5_2:L.env.keep 5 2 = [7,10,11,13,15]:=by kernel_rfl
@[go_sem] theorem kp7_0:L.env.keep 7 0 = [1,2,5,6,7]:=by kernel_rfl
@[go_sem] theorem kp7_2:L.env.keep 7 2 = [1,2,5,6,9,10]:=by kernel_rfl
@[go_sem] theorem kp11_0:L.env.keep 11 0 = [1,9,10,11,12,13,14,15]:=by kernel_rfl
@[go_sem] theorem kp11_2:L.env.keep 11 2 = [1,9,10,11,12,13,14,15,19,75,76]:=by kernel_rfl
@[go_sem] theorem kp17_0:L.env.keep 17 0 = [2,3,31,32,33]:=by kernel_rfl
@[go_sem] theorem kp17_2:L.env.keep 17 2 = [3,47,48,49]:=by kernel_rfl
@[go_sem] theorem kp22_0:L.env.keep 22 0 = [3,6,7,8]:=by kernel_rfl
@[go_sem] theorem kp23_0:L.env.keep 23 0 = [1,2,3,6,7,25,26,27]:=by kernel_rfl
@[go_sem] theorem kp23_2:L.env.keep 23 2 = [2,3,6,7,41,42,43]:=by kernel_rfl
@[go_sem] theorem kp23_4:L.env.keep 23 4 = [3,6,7,57,58,59]:=by kernel_rfl
@[go_sem] theorem kp23_6:L.env.keep 23 6 = [3,6,7,99,100,101]:=by kernel_rfl
@[go_sem] theorem kp23_8:L.env.keep 23 8 = [3,6,7,114,115,116]:=by kernel_rfl
@[go_sem] theorem kp24_0:L.env.keep 24 0 = [3,4,5,6,7,8,14,15,16]:=by kernel_rfl
@[go_sem] theorem kp25_0:L.env.keep 25 0 = [0,1,4,9,10]:=by kernel_rfl
@[go_sem] theorem kp27_0:L.env.keep 27 0 = [1,2,3,4]:=by kernel_rfl
@[go_sem] theorem kp27_2:L.env.keep 27 2 = [1,2,3,5,6,7]:=by kernel_rfl
@[go_sem] theorem kp27_4:L.env.keep 27 4 = [1,2,3,5,6,8]:=by kernel_rfl
@[go_sem] theorem kp27_6:L.env.keep 27 6 = [1,2,3,5,6,9,10]:=by kernel_rfl
@[go_sem] theorem kp27_8:L.env.keep 27 8 = [1,2,3,9,11]:=by kernel_rfl
@[go_sem] theorem kp27_10:L.env.keep 27 10 = [1,2,3,9,12]:=by kernel_rfl
@[go_sem] theorem kp28_0:L.env.keep 28 0 = [0,1,2,7,8]:=by kernel_rfl
@[go_sem] theorem kp29_0:L.env.keep 29 0 = [1,2,5,6]:=by kernel_rfl
@[go_sem] theorem kp33_0:L.env.keep 33 0 = [5,15,16,17]:=by kernel_rfl
@[go_sem] theorem kp33_2:L.env.keep 33 2 = [5,6,15,16,17,25,26]:=by kernel_rfl
@[go_sem] theorem kp36_0:L.env.keep 36 0 = [4,6,21,22]:=by kernel_rfl
@[go_sem] theorem kp46_0:L.env.keep 46 0 = [0,4,7,33,34,35]:=by kernel_rfl
@[go_sem] theorem kp47_0:L.env.keep 47 0 = [1,2,3,7,16,17,18]:=by kernel_rfl
@[go_sem] theorem kp48_0:L.env.keep 48 0 = [2,3,4,6,10,11,12]:=by kernel_rfl
@[go_sem] theorem kp50_0:L.env.keep 50 0 = [5,24]:=by kernel_rfl
@[go_sem] theorem kp54_0:L.env.keep 54 0 = [2,3,4,6,7,8,9,10,11,12]:=by kernel_rfl
@[go_sem] theorem kp56_0:L.env.keep 56 0 = [4,9,10,40,41,42]:=by kernel_rfl
@[go_sem] theorem kp56_2:L.env.keep 56 2 = [4,9,10,12,13,40,41,42,59,60,61]:=by kernel_rfl
@[go_sem] theorem kp58_0:L.env.keep 58 0 = [0,3,4,5,41,42,43]:=by kernel_rfl
@[go_sem] theorem kp58_2:L.env.keep 58 2 = [0,3,4,5,60,61,62]:=by kernel_rfl
@[go_sem] theorem kp58_4:L.env.keep 58 4 = [0,4,5,12,89,90,91]:=by kernel_rfl
@[go_sem] theorem kp58_6:L.env.keep 58 6 = [0,4,5,16,143,144,145]:=by kernel_rfl
@[go_sem] theorem kp58_8:L.env.keep 58 8 = [0,4,16,162,163,164]:=by kernel_rfl
@[go_sem] theorem kp60_0:L.env.keep 60 0 = [1,2,3,4,9]:=by kernel_rfl
@[go_sem] theorem kp67_0:L.env.keep 67 0 = [1,5,6,7,29,30,31]:=by kernel_rfl
@[go_sem] theorem kp67_2:L.env.keep 67 2 = [1,5,6,7,10,11]:=by kernel_rfl
@[go_sem] theorem kp67_4:L.env.keep 67 4 = [1,5,6,7,10,11,12,76,77,78]:=by kernel_rfl
@[go_sem] theorem kp71_0:L.env.keep 71 0 = [1,5,9,10,11]:=by kernel_rfl
@[go_sem] theorem kp76_0:L.env.keep 76 0 = [2,3,4,5,8,9,10]:=by kernel_rfl
@[go_sem] theorem kp79_0:L.env.keep 79 0 = [2,3,7,8,9]:=by kernel_rfl
@[go_sem] theorem kp80_0:L.env.keep 80 0 = [2,3,7,8,9]:=by kernel_rfl
@[go_sem] theorem kp81_0:L.env.keep 81 0 = [2,3,7,8,9]:=by kernel_rfl
@[go_sem] theorem kp84_0:L.env.keep 84 0 = [2,3,10,11,12]:=by kernel_rfl
@[go_sem] theorem kp84_2:L.env.keep 84 2 = [2,3,29,30,31]:=by kernel_rfl
@[go_sem] theorem kp87_0:L.env.keep 87 0 = [1,2,3,12,13,14]:=by kernel_rfl
@[go_sem] theorem kp87_2:L.env.keep 87 2 = [1,2,3,29,30,31]:=by kernel_rfl
@[go_sem] theorem kp95_0:L.env.keep 95 0 = [0,1,5,16,17,18]:=by kernel_rfl
@[go_sem] theorem kp97_0:L.env.keep 97 0 = [0,1,5,11,12]:=by kernel_rfl
@[go_sem] theorem kp98_0:L.env.keep 98 0 = [2,5,6]:=by kernel_rfl
@[go_sem] theorem kp98_2:L.env.keep 98 2 = [2,5,6,45,46,47]:=by kernel_rfl
@[go_sem] theorem kp101_1:L.env.keep 101 1 = [1,36,37,38]:=by kernel_rfl
@[go_sem] theorem kp101_3:L.env.keep 101 3 = [1,55,56,57]:=by kernel_rfl
@[go_sem] theorem kp102_0:L.env.keep 102 0 = [3,4,18,19,20]:=by kernel_rfl
@[go_sem] theorem kp102_2:L.env.keep 102 2 = [3,4,5,18,19,20,26,27,28]:=by kernel_rfl
@[go_sem] theorem kp102_4:L.env.keep 102 4 = [3,51,52,53]:=by kernel_rfl
@[go_sem] theorem kp103_0:L.env.keep 103 0 = [0,1,2,6,7,8]:=by kernel_rfl
@[go_sem] theorem kp103_2:L.env.keep 103 2 = [0,1,2,6]:=by kernel_rfl
@[go_sem] theorem kp111_0:L.env.keep 111 0 = [3,6,7,8]:=by kernel_rfl
@[go_sem] theorem kp120_0:L.env.keep 120 0 = [0,1,7,8]:=by kernel_rfl
@[go_sem] theorem kp122_0:L.env.keep 122 0 = [3,8,9,10]:=by kernel_rfl
@[go_sem] theorem kp126_0:L.env.keep 126 0 = [0,1,2,3,8]:=by kernel_rfl
@[go_sem] theorem kp126_2:L.env.keep 126 2 = [0,1,2,3,8,9]:=by kernel_rfl
@[go_sem] theorem kp128_0:L.env.keep 128 0 = [0,1,7,8]:=by kernel_rfl
@[go_sem] theorem kp130_0:L.env.keep 130 0 = [1,2,7,11,12,13]:=by kernel_rfl
@[go_sem] theorem kp138_0:L.env.keep 138 0 = [0,1,7,8]:=by kernel_rfl
@[go_sem] theorem kp146_0:L.env.keep 146 0 = [0,1,7,8]:=by kernel_rfl
@[go_sem] theorem e9k:L.env.bytes 3 = 8:=by kernel_rfl
@[go_sem] theorem e9l:L.env.bytes 4 = 1:=by kernel_rfl
@[go_sem] theorem e9q:L.env.bytes 9 = 16:=by kernel_rfl
@[go_sem] theorem f1f:L.env.bytes 52 = 16:=by kernel_rfl
@[go_sem] theorem e98:L.env.bytes 53 = 1:=by kernel_rfl
@[go_sem] theorem f1e:L.env.bytes 55 = 40:=by kernel_rfl
@[go_sem] theorem f1d:L.env.bytes 60 = 48:=by kernel_rfl
@[go_sem] theorem e6q:L.env.bytes 102 = 48:=by kernel_rfl
@[go_sem] theorem e6p:L.env.bytes 103 = 24:=by kernel_rfl
@[go_sem] theorem e21:L.env.bytes 111 = 16:=by kernel_rfl
@[go_sem] theorem f7c:isT L.env 3 = true:=by kernel_rfl
@[go_sem] theorem f7y:L.env.sz 3 = 1:=by kernel_rfl
@[go_sem] theorem a60:a5s L.env 3 = some false:=by kernel_rfl
@[go_sem] theorem f7a:d2d L.env 3 = some .i64:=by kernel_rfl
@[go_sem] theorem f8e:L.env.zero 3 = some [.int .i64 0]:=by kernel_rfl
@[go_sem] theorem f7d:isT L.env 4 = true:=by kernel_rfl
@[go_sem] theorem f7z:L.env.sz 4 = 1:=by kernel_rfl
@[go_sem] theorem a61:a5s L.env 4 = some false:=by kernel_rfl
@[go_sem] theorem un4:L.env.und 4 = some .bool:=by kernel_rfl
@[go_sem] theorem f8f:L.env.zero 4 = some [.bool false]:=by kernel_rfl
@[go_sem] theorem f7e:isT L.env 5 = true:=by kernel_rfl
@[go_sem] theorem f8a:L.env.sz 5 = 1:=by kernel_rfl
@[go_sem] theorem ag5:a5s L.env 5 = some false:=by kernel_rfl
@[go_sem] theorem in5:d2d L.env 5 = some .u8:=by kernel_rfl
@[go_sem] theorem f8g:L.env.zero 5 = some [.int .u8 0]:=by kernel_rfl
@[go_sem] theorem f7f:isT L.env 9 = true:=by kernel_rfl
@[go_sem] theorem f8b:L.env.sz 9 = 1:=by kernel_rfl
@[go_sem] theorem a65:a5s L.env 9 = some false:=by kernel_rfl
@[go_sem] theorem f8h:L.env.zero 9 = some [.str []]:=by kernel_rfl
@[go_sem] theorem f5c:isT L.env 22 = true:=by kernel_rfl
@[go_sem] theorem ar22:c1k L.env 22 = some (2,5):=by kernel_rfl
@[go_sem] theorem ar23:c1k L.env 23 = some (4,5):=by kernel_rfl
@[go_sem] theorem f5b:isT L.env 24 = true:=by kernel_rfl
@[go_sem] theorem f3j:L.env.sz 24 = 1:=by kernel_rfl
@[go_sem] theorem f6s:a5s L.env 24 = some false:=by kernel_rfl
@[go_sem] theorem st24:slT L.env 24 = some 127:=by kernel_rfl
@[go_sem] theorem f5a:isT L.env 25 = true:=by kernel_rfl
@[go_sem] theorem f3i:L.env.sz 25 = 1:=by kernel_rfl
@[go_sem] theorem f6r:a5s L.env 25 = some false:=by kernel_rfl
@[go_sem] theorem st25:slT L.env 25 = some 5:=by kernel_rfl
@[go_sem] theorem f5g:byT L.env 25 9 = true:=by kernel_rfl
@[go_sem] theorem f4z:isT L.env 27 = true:=by kernel_rfl
@[go_sem] theorem f3h:L.env.sz 27 = 12:=by kernel_rfl
@[go_sem] theorem f6q:a5s L.env 27 = some true:=by kernel_rfl
theorem ft27:a9j L.env 27 = some [5,5,22,4,4,23,24,25]:=by kernel_rfl
@[go_sem] theorem e96:a5a L.env 27 0 = some (0,5):=by kernel_rfl
@[go_sem] theorem e95:a5a L.env 27 1 = some (1,5):=by kernel_rfl
@[go_sem] theorem e94:a5a L.env 27 2 = some (2,22):=by kernel_rfl
@[go_sem] theorem e93:a5a L.env 27 3 = some (4,4):=by kernel_rfl
@[go_sem] theorem e92:a5a L.env 27 4 = some (5,4):=by kernel_rfl
@[go_sem] theorem e91:a5a L.env 27 6 = some (10,24):=by kernel_rfl
@[go_sem] theorem e90:a5a L.env 27 7 = some (11,25):=by kernel_rfl
@[go_sem] theorem f4y:isT L.env 28 = true:=by kernel_rfl
@[go_sem] theorem f3g:L.env.sz 28 = 1:=by kernel_rfl
@[go_sem] theorem f6p:a5s L.env 28 = some false:=by kernel_rfl
@[go_sem] theorem st28:slT L.env 28 = some 72:=by kernel_rfl
@[go_sem] theorem f4x:isT L.env 29 = true:=by kernel_rfl
@[go_sem] theorem f3f:L.env.sz 29 = 1:=by kernel_rfl
@[go_sem] theorem f6o:a5s L.env 29 = some false:=by kernel_rfl
@[go_sem] theorem st29:slT L.env 29 = some 66:=by kernel_rfl
@[go_sem] theorem f3e:L.env.sz 31 = 14:=by kernel_rfl
@[go_sem] theorem ag31:a5s L.env 31 = some true:=by kernel_rfl
theorem ft31:a9j L.env 31 = some [27,28,29]:=by kernel_rfl
@[go_sem] theorem e8z:a5a L.env 31 0 = some (0,27):=by kernel_rfl
@[go_sem] theorem e8y:a5a L.env 31 1 = some (12,28):=by kernel_rfl
@[go_sem] theorem e8x:a5a L.env 31 2 = some (13,29):=by kernel_rfl
@[go_sem] theorem f4w:isT L.env 32 = true:=by kernel_rfl
@[go_sem] theorem f3d:L.env.sz 32 = 1:=by kernel_rfl
@[go_sem] theorem f6n:a5s L.env 32 = some false:=by kernel_rfl
@[go_sem] theorem f3s:slT L.env 32 = some 102:=by kernel_rfl
@[go_sem] theorem f5t:apT L.env 32 32 = some 102:=by kernel_rfl
@[go_sem] theorem f3z {k:Nat} (h:(k ≤ 1000000000) = True):a2l L.env 102 k = true:=a6o (of_eq_true h) (by rw [e6q];decide)
@[go_sem] theorem f4v:isT L.env 33 = true:=by kernel_rfl
@[go_sem] theorem f3c:L.env.sz 33 = 1:=by kernel_rfl
@[go_sem] theorem f6m:a5s L.env 33 = some false:=by kernel_rfl
@[go_sem] theorem f3r:slT L.env 33 = some 9:=by kernel_rfl
@[go_sem] theorem f5s:apT L.env 33 33 = some 9:=by kernel_rfl
@[go_sem] theorem f3y {k:Nat} (h:(k ≤ 1000000000) = True):a2l L.env 9 k = true:=a6o (of_eq_true h) (by rw [e9q];decide)
@[go_sem] theorem f4u:isT L.env 34 = true:=by kernel_rfl
@[go_sem] theorem f3b:L.env.sz 34 = 1:=by kernel_rfl
@[go_sem] theorem f6l:a5s L.env 34 = some false:=by kernel_rfl
@[go_sem] theorem f3q:slT L.env 34 = some 129:=by kernel_rfl
@[go_sem] theorem f4t:isT L.env 35 = true:=by kernel_rfl
@[go_sem] theorem f3a:L.env.sz 35 = 1:=by kernel_rfl
@[go_sem] theorem f6k:a5s L.env 35 = some false:=by kernel_rfl
@[go_sem] theorem f3p:slT L.env 35 = some 3:=by kernel_rfl
@[go_sem] theorem f5r:apT L.env 35 35 = some 3:=by kernel_rfl
@[go_sem] theorem f3x {k:Nat} (h:(k ≤ 1000000000) = True):a2l L.env 3 k = true:=a6o (of_eq_true h) (by rw [e9k];decide)
@[go_sem] theorem f4d {k:Nat} (h:(k ≤ 1000000000) = True):d1g L.env 3 (k:Int) (k:Int) = true:=b01 (of_eq_true h) (by rw [e9k];decide)
@[go_sem] theorem f2i:L.env.zero 35 = some [.nilslice]:=by kernel_rfl
@[go_sem] theorem f4s:isT L.env 37 = true:=by kernel_rfl
@[go_sem] theorem f2z:L.env.sz 37 = 4:=by kernel_rfl
@[go_sem] theorem f6j:a5s L.env 37 = some true:=by kernel_rfl
@[go_sem] theorem e8w:a5a L.env 37 0 = some (0,32):=by kernel_rfl
@[go_sem] theorem e8v:a5a L.env 37 1 = some (1,33):=by kernel_rfl
@[go_sem] theorem e8u:a5a L.env 37 2 = some (2,34):=by kernel_rfl
@[go_sem] theorem e8t:a5a L.env 37 3 = some (3,35):=by kernel_rfl
@[go_sem] theorem f2h:L.env.zero 37 = some [.nilslice,.nilslice,.nilslice,.nilslice]:=by kernel_rfl
@[go_sem] theorem f2y:L.env.sz 38 = 1:=by kernel_rfl
@[go_sem] theorem f6i:a5s L.env 38 = some false:=by kernel_rfl
@[go_sem] theorem f3o:slT L.env 38 = some 55:=by kernel_rfl
@[go_sem] theorem f5q:apT L.env 38 38 = some 55:=by kernel_rfl
@[go_sem] theorem f3w {k:Nat} (h:(k ≤ 1000000000) = True):a2l L.env 55 k = true:=a6o (of_eq_true h) (by rw [f1e];decide)
@[go_sem] theorem f3n:slT L.env 39 = some 60:=by kernel_rfl
@[go_sem] theorem f5p:apT L.env 39 39 = some 60:=by kernel_rfl
@[go_sem] theorem f3v {k:Nat} (h:(k ≤ 1000000000) = True):a2l L.env 60 k = true:=a6o (of_eq_true h) (by rw [f1d];decide)
@[go_sem] theorem f3m:slT L.env 47 = some 4:=by kernel_rfl
@[go_sem] theorem f4c {k:Nat} (h:(k ≤ 1000000000) = True):d1g L.env 4 (k:Int) (k:Int) = true:=b01 (of_eq_true h) (by rw [e9l];decide)
@[go_sem] theorem f4r:isT L.env 50 = true:=by kernel_rfl
@[go_sem] theorem f2x:L.env.sz 50 = 1:=by kernel_rfl
@[go_sem] theorem f6h:a5s L.env 50 = some false:=by kernel_rfl
@[go_sem] theorem f4q:isT L.env 52 = true:=by kernel_rfl
@[go_sem] theorem f2w:L.env.sz 52 = 2:=by kernel_rfl
@[go_sem] theorem f6g:a5s L.env 52 = some true:=by kernel_rfl
@[go_sem] theorem f5l:c9b L.env 52 = true:=by kernel_rfl
@[go_sem] theorem e8s:a5a L.env 52 0 = some (0,3):=by kernel_rfl
@[go_sem] theorem e7n:b1z L.env 52 0 = some (0,1):=by kernel_rfl
@[go_sem] theorem e8r:a5a L.env 52 1 = some (1,3):=by kernel_rfl
@[go_sem] theorem e7m:b1z L.env 52 1 = some (1,1):=by kernel_rfl
@[go_sem] theorem f2g:L.env.zero 52 = some [.int .i64 0,.int .i64 0]:=by kernel_rfl
@[go_sem] theorem f4p:isT L.env 53 = true:=by kernel_rfl
@[go_sem] theorem f2v:L.env.sz 53 = 1:=by kernel_rfl
@[go_sem] theorem f6f:a5s L.env 53 = some false:=by kernel_rfl
@[go_sem] theorem f2f:L.env.zero 53 = some [.int .u8 0]:=by kernel_rfl
@[go_sem] theorem f4o:isT L.env 55 = true:=by kernel_rfl
@[go_sem] theorem f2u:L.env.sz 55 = 5:=by kernel_rfl
@[go_sem] theorem f6e:a5s L.env 55 = some true:=by kernel_rfl
@[go_sem] theorem f5k:c9b L.env 55 = true:=by kernel_rfl
@[go_sem] theorem e8q:a5a L.env 55 0 = some (0,50):=by kernel_rfl
@[go_sem] theorem e7l:b1z L.env 55 0 = some (0,1):=by kernel_rfl
@[go_sem] theorem e8p:a5a L.env 55 1 = some (1,52):=by kernel_rfl
@[go_sem] theorem e7k:b1z L.env 55 1 = some (1,2):=by kernel_rfl
@[go_sem] theorem e8o:a5a L.env 55 2 = some (3,53):=by kernel_rfl
@[go_sem] theorem e8n:a5a L.env 55 3 = some (4,3):=by kernel_rfl
@[go_sem] theorem f2e:L.env.zero 55 = some [.int .u8 0,.int .i64 0,.int .i64 0,.int .u8 0,.int .i64 0]:=by kernel_rfl
@[go_sem] theorem f4n:isT L.env 58 = true:=by kernel_rfl
@[go_sem] theorem f2t:L.env.sz 58 = 1:=by kernel_rfl
@[go_sem] theorem f6d:a5s L.env 58 = some false:=by kernel_rfl
@[go_sem] theorem f3l:slT L.env 58 = some 53:=by kernel_rfl
@[go_sem] theorem f5o:apT L.env 58 58 = some 53:=by kernel_rfl
@[go_sem] theorem f3u {k:Nat} (h:(k ≤ 1000000000) = True):a2l L.env 53 k = true:=a6o (of_eq_true h) (by rw [e98];decide)
@[go_sem] theorem f4b {k:Nat} (h:(k ≤ 1000000000) = True):d1g L.env 53 (k:Int) (k:Int) = true:=b01 (of_eq_true h) (by rw [e98];decide)
@[go_sem] theorem f4m:isT L.env 60 = true:=by kernel_rfl
@[go_sem] theorem f2s:L.env.sz 60 = 2:=by kernel_rfl
@[go_sem] theorem f6c:a5s L.env 60 = some true:=by kernel_rfl
@[go_sem] theorem f5j:c9b L.env 60 = true:=by kernel_rfl
@[go_sem] theorem e8m:a5a L.env 60 0 = some (0,58):=by kernel_rfl
@[go_sem] theorem e7j:b1z L.env 60 0 = some (0,1):=by kernel_rfl
@[go_sem] theorem e8l:a5a L.env 60 1 = some (1,58):=by kernel_rfl
@[go_sem] theorem e7i:b1z L.env 60 1 = some (1,1):=by kernel_rfl
@[go_sem] theorem f2d:L.env.zero 60 = some [.nilslice,.nilslice]:=by kernel_rfl
@[go_sem] theorem f4l:isT L.env 66 = true:=by kernel_rfl
@[go_sem] theorem f2r:L.env.sz 66 = 2:=by kernel_rfl
@[go_sem] theorem ag66:a5s L.env 66 = some true:=by kernel_rfl
theorem ft66:a9j L.env 66 = some [25,25]:=by kernel_rfl
@[go_sem] theorem e8k:a5a L.env 66 0 = some (0,25):=by kernel_rfl
@[go_sem] theorem e8j:a5a L.env 66 1 = some (1,25):=by kernel_rfl
@[go_sem] theorem f4k:isT L.env 72 = true:=by kernel_rfl
@[go_sem] theorem f2q:L.env.sz 72 = 5:=by kernel_rfl
@[go_sem] theorem f6b:a5s L.env 72 = some true:=by kernel_rfl
theorem ft72:a9j L.env 72 = some [5,5,5,5,4]:=by kernel_rfl
@[go_sem] theorem e8i:a5a L.env 72 0 = some (0,5):=by kernel_rfl
@[go_sem] theorem e8h:a5a L.env 72 1 = some (1,5):=by kernel_rfl
@[go_sem] theorem e8g:a5a L.env 72 2 = some (2,5):=by kernel_rfl
@[go_sem] theorem e8f:a5a L.env 72 3 = some (3,5):=by kernel_rfl
@[go_sem] theorem e8e:a5a L.env 72 4 = some (4,4):=by kernel_rfl
@[go_sem] theorem f2c:L.env.zero 72 = some [.int .u8 0,.int .u8 0,.int .u8 0,.int .u8 0,.bool false]:=by kernel_rfl
@[go_sem] theorem f4j:isT L.env 76 = true:=by kernel_rfl
@[go_sem] theorem f2p:L.env.sz 76 = 1:=by kernel_rfl
@[go_sem] theorem f6a:a5s L.env 76 = some false:=by kernel_rfl
@[go_sem] theorem f4i:isT L.env 77 = true:=by kernel_rfl
@[go_sem] theorem f2o:L.env.sz 77 = 1:=by kernel_rfl
@[go_sem] theorem f5z:a5s L.env 77 = some false:=by kernel_rfl
@[go_sem] theorem f4h:isT L.env 79 = true:=by kernel_rfl
@[go_sem] theorem f2n:L.env.sz 79 = 9:=by kernel_rfl
@[go_sem] theorem f5y:a5s L.env 79 = some true:=by kernel_rfl
@[go_sem] theorem f5i:c9b L.env 79 = true:=by kernel_rfl
@[go_sem] theorem e8d:a5a L.env 79 0 = some (0,37):=by kernel_rfl
@[go_sem] theorem e7h:b1z L.env 79 0 = some (0,4):=by kernel_rfl
@[go_sem] theorem e8c:a5a L.env 79 1 = some (4,35):=by kernel_rfl
@[go_sem] theorem e7g:b1z L.env 79 1 = some (4,1):=by kernel_rfl
@[go_sem] theorem e8b:a5a L.env 79 2 = some (5,35):=by kernel_rfl
@[go_sem] theorem e7f:b1z L.env 79 2 = some (5,1):=by kernel_rfl
@[go_sem] theorem e8a:a5a L.env 79 3 = some (6,35):=by kernel_rfl
@[go_sem] theorem e7e:b1z L.env 79 3 = some (6,1):=by kernel_rfl
@[go_sem] theorem e89:a5a L.env 79 4 = some (7,76):=by kernel_rfl
@[go_sem] theorem e7d:b1z L.env 79 4 = some (7,1):=by kernel_rfl
@[go_sem] theorem e88:a5a L.env 79 5 = some (8,77):=by kernel_rfl
@[go_sem] theorem e7c:b1z L.env 79 5 = some (8,1):=by kernel_rfl
@[go_sem] theorem f2b:L.env.zero 79 = some [.nilslice,.nilslice,.nilslice,.nilslice,.nilslice,.nilslice,.nilslice,.nilfunc,.nilfunc]:=by kernel_rfl
@[go_sem] theorem f4g:isT L.env 82 = true:=by kernel_rfl
@[go_sem] theorem f2m:L.env.sz 82 = 1:=by kernel_rfl
@[go_sem] theorem f5x:a5s L.env 82 = some false:=by kernel_rfl
@[go_sem] theorem f2l:L.env.sz 85 = 1:=by kernel_rfl
@[go_sem] theorem f5w:a5s L.env 85 = some false:=by kernel_rfl
@[go_sem] theorem f3k:slT L.env 85 = some 111:=by kernel_rfl
@[go_sem] theorem f5n:apT L.env 85 85 = some 111:=by kernel_rfl
@[go_sem] theorem f3t {k:Nat} (h:(k ≤ 1000000000) = True):a2l L.env 111 k = true:=a6o (of_eq_true h) (by rw [e21];decide)
@[go_sem] theorem f4a {k:Nat} (h:(k ≤ 1000000000) = True):d1g L.env 111 (k:Int) (k:Int) = true:=b01 (of_eq_true h) (by rw [e21];decide)
@[go_sem] theorem f4f:isT L.env 94 = true:=by kernel_rfl
@[go_sem] theorem f2k:L.env.sz 94 = 1:=by kernel_rfl
@[go_sem] theorem f5v:a5s L.env 94 = some false:=by kernel_rfl
@[go_sem] theorem f5d:d2d L.env 94 = some .u8:=by kernel_rfl
@[go_sem] theorem f2a:L.env.zero 94 = some [.int .u8 0]:=by kernel_rfl
@[go_sem] theorem f4e:isT L.env 96 = true:=by kernel_rfl
@[go_sem] theorem f2j:L.env.sz 96 = 2:=by kernel_rfl
@[go_sem] theorem f5u:a5s L.env 96 = some true:=by kernel_rfl
@[go_sem] theorem f5h:c9b L.env 96 = true:=by kernel_rfl
@[go_sem] theorem e87:a5a L.env 96 0 = some (0,58):=by kernel_rfl
@[go_sem] theorem e7b:b1z L.env 96 0 = some (0,1):=by kernel_rfl
@[go_sem] theorem e86:a5a L.env 96 1 = some (1,58):=by kernel_rfl
@[go_sem] theorem e7a:b1z L.env 96 1 = some (1,1):=by kernel_rfl
@[go_sem] theorem f1z:L.env.zero 96 = some [.nilslice,.nilslice]:=by kernel_rfl
@[go_sem] theorem f0v:isT L.env 102 = true:=by kernel_rfl
@[go_sem] theorem e9z:L.env.sz 102 = 4:=by kernel_rfl
@[go_sem] theorem f1y:a5s L.env 102 = some true:=by kernel_rfl
@[go_sem] theorem f1j:c9b L.env 102 = true:=by kernel_rfl
@[go_sem] theorem e6g:a5a L.env 102 0 = some (0,94):=by kernel_rfl
@[go_sem] theorem e59:b1z L.env 102 0 = some (0,1):=by kernel_rfl
@[go_sem] theorem e6f:a5a L.env 102 1 = some (1,35):=by kernel_rfl
@[go_sem] theorem e58:b1z L.env 102 1 = some (1,1):=by kernel_rfl
@[go_sem] theorem e6e:a5a L.env 102 2 = some (2,3):=by kernel_rfl
@[go_sem] theorem e6d:a5a L.env 102 3 = some (3,3):=by kernel_rfl
@[go_sem] theorem e9j:L.env.zero 102 = some [.int .u8 0,.nilslice,.int .i64 0,.int .i64 0]:=by kernel_rfl
@[go_sem] theorem f0u:isT L.env 103 = true:=by kernel_rfl
@[go_sem] theorem e9y:L.env.sz 103 = 1:=by kernel_rfl
@[go_sem] theorem f1x:a5s L.env 103 = some false:=by kernel_rfl
@[go_sem] theorem f03:slT L.env 103 = some 52:=by kernel_rfl
@[go_sem] theorem f1n:apT L.env 103 103 = some 52:=by kernel_rfl
@[go_sem] theorem f05 {k:Nat} (h:(k ≤ 1000000000) = True):a2l L.env 52 k = true:=a6o (of_eq_true h) (by rw [f1f];decide)
@[go_sem] theorem e9i:L.env.zero 103 = some [.nilslice]:=by kernel_rfl
@[go_sem] theorem f0t:isT L.env 111 = true:=by kernel_rfl
@[go_sem] theorem e9x:L.env.sz 111 = 2:=by kernel_rfl
@[go_sem] theorem f1w:a5s L.env 111 = some true:=by kernel_rfl
@[go_sem] theorem f1i:c9b L.env 111 = true:=by kernel_rfl
@[go_sem] theorem e6c:a5a L.env 111 0 = some (0,82):=by kernel_rfl
@[go_sem] theorem e57:b1z L.env 111 0 = some (0,1):=by kernel_rfl
@[go_sem] theorem e6b:a5a L.env 111 1 = some (1,82):=by kernel_rfl
@[go_sem] theorem e56:b1z L.env 111 1 = some (1,1):=by kernel_rfl
@[go_sem] theorem e9h:L.env.zero 111 = some [.int .u64 0,.int .u64 0]:=by kernel_rfl
@[go_sem] theorem f0s:isT L.env 118 = true:=by kernel_rfl
@[go_sem] theorem e9w:L.env.sz 118 = 1:=by kernel_rfl
@[go_sem] theorem f1v:a5s L.env 118 = some false:=by kernel_rfl
@[go_sem] theorem e9g:L.env.zero 118 = some [.nilmap]:=by kernel_rfl
@[go_sem] theorem f0r:isT L.env 119 = true:=by kernel_rfl
@[go_sem] theorem e9v:L.env.sz 119 = 1:=by kernel_rfl
@[go_sem] theorem f1u:a5s L.env 119 = some false:=by kernel_rfl
@[go_sem] theorem e9f:L.env.zero 119 = some [.nilmap]:=by kernel_rfl
@[go_sem] theorem f0q:isT L.env 123 = true:=by kernel_rfl
@[go_sem] theorem e9u:L.env.sz 123 = 1:=by kernel_rfl
@[go_sem] theorem f1t:a5s L.env 123 = some false:=by kernel_rfl
@[go_sem] theorem e9e:L.env.zero 123 = some [.nilfunc]:=by kernel_rfl
@[go_sem] theorem f0p:isT L.env 125 = true:=by kernel_rfl
@[go_sem] theorem ar125:c1k L.env 125 = some (3,5):=by kernel_rfl
@[go_sem] theorem f0o:isT L.env 127 = true:=by kernel_rfl
@[go_sem] theorem e9t:L.env.sz 127 = 4:=by kernel_rfl
@[go_sem] theorem f1s:a5s L.env 127 = some true:=by kernel_rfl
theorem ft127:a9j L.env 127 = some [5,125]:=by kernel_rfl
@[go_sem] theorem e6a:a5a L.env 127 0 = some (0,5):=by kernel_rfl
@[go_sem] theorem e69:a5a L.env 127 1 = some (1,125):=by kernel_rfl
@[go_sem] theorem f0n:isT L.env 136 = true:=by kernel_rfl
@[go_sem] theorem e9s:L.env.sz 136 = 1:=by kernel_rfl
@[go_sem] theorem f1r:a5s L.env 136 = some false:=by kernel_rfl
@[go_sem] theorem f0m:isT L.env 137 = true:=by kernel_rfl
@[go_sem] theorem e9r:L.env.sz 137 = 1:=by kernel_rfl
@[go_sem] theorem f1q:a5s L.env 137 = some false:=by kernel_rfl
@[go_sem] theorem f1h:c9b L.env 139 = true:=by kernel_rfl
@[go_sem] theorem e68:a5a L.env 139 0 = some (0,37):=by kernel_rfl
@[go_sem] theorem e55:b1z L.env 139 0 = some (0,4):=by kernel_rfl
@[go_sem] theorem e67:a5a L.env 139 1 = some (4,58):=by kernel_rfl
@[go_sem] theorem e66:a5a L.env 139 2 = some (5,136):=by kernel_rfl
@[go_sem] theorem e54:b1z L.env 139 2 = some (5,1):=by kernel_rfl
@[go_sem] theorem e65:a5a L.env 139 3 = some (6,137):=by kernel_rfl
@[go_sem] theorem e53:b1z L.env 139 3 = some (6,1):=by kernel_rfl
@[go_sem] theorem e9d:L.env.zero 139 = some [.nilslice,.nilslice,.nilslice,.nilslice,.nilslice,.nilfunc,.nilfunc]:=by kernel_rfl
@[go_sem] theorem f1m:c1k L.env 149 = some (4,111):=by kernel_rfl
@[go_sem] theorem e9p:L.env.sz 150 = 1:=by kernel_rfl
@[go_sem] theorem f1p:a5s L.env 150 = some false:=by kernel_rfl
@[go_sem] theorem f0l:isT L.env 158 = true:=by kernel_rfl
@[go_sem] theorem e9o:L.env.sz 158 = 5:=by kernel_rfl
@[go_sem] theorem f1o:a5s L.env 158 = some true:=by kernel_rfl
@[go_sem] theorem f1g:c9b L.env 158 = true:=by kernel_rfl
@[go_sem] theorem e64:a5a L.env 158 0 = some (0,37):=by kernel_rfl
@[go_sem] theorem e52:b1z L.env 158 0 = some (0,4):=by kernel_rfl
@[go_sem] theorem e63:a5a L.env 158 1 = some (4,58):=by kernel_rfl
@[go_sem] theorem e51:b1z L.env 158 1 = some (4,1):=by kernel_rfl
@[go_sem] theorem e9c:L.env.zero 158 = some [.nilslice,.nilslice,.nilslice,.nilslice,.nilslice]:=by kernel_rfl
@[go_sem] theorem f02:slT L.env 172 = some 103:=by kernel_rfl
@[go_sem] theorem f0f {k:Nat} (h:(k ≤ 1000000000) = True):d1g L.env 103 (k:Int) (k:Int) = true:=b01 (of_eq_true h) (by rw [e6p];decide)
@[go_sem] theorem f01:slT L.env 176 = some 94:=by kernel_rfl
@[go_sem] theorem f0k:isT L.env 179 = true:=by kernel_rfl
@[go_sem] theorem e9n:L.env.sz 179 = 2:=by kernel_rfl
@[go_sem] theorem f1l:c1k L.env 179 = some (2,3):=by kernel_rfl
@[go_sem] theorem f1k:c1k L.env 180 = some (16,179):=by kernel_rfl
end Go.ZInst
