/- Type facts (printed by AxTypes). -/
import Derived.Test.YtgmenpackpnmaaaGreatDoorMInst
import Derived.Test.YtgmenpackpnmaaaGreatDoorAxE
set_option linter.unusedSimpArgs false
set_option linter.unusedVariables false
namespace Go.MInst
open Go.Proofs Go.Ax
@[go_sem] theorem roF (g:FuncId):L.env.ro g = decide (g = 75 ∨ g = 76):=by rfl
@[go_sem] theorem f0j (g:FuncId):L.env.thaw g = decide (g = 44 ∨ g = 70 ∨ g = 32 ∨ g = 54 ∨ g = 39 ∨ g = 24):=by rfl
@[go_sem] theorem kp3_0:L.env.keep 3 0 = [3,4,5,6,8,9,10,11,1000000]:=by kernel_rfl
@[go_sem] theorem kp3_2:L.env.keep 3 2 = [4,6,9,12,14,15]:=by kernel_rfl
@[go_sem] theorem kp8_0:L.env.keep 8 0 = [1,2,5,6,7]:=by kernel_rfl
@[go_sem] theorem kp8_2:L.env.keep 8 2 = [1,2,5,6,9,10]:=by kernel_rfl
@[go_sem] theorem kp11_0:L.env.keep 11 0 = [3,19,20,21]:=by kernel_rfl
@[go_sem] theorem kp11_2:L.env.keep 11 2 = [3,6]:=by kernel_rfl
@[go_sem] theorem kp12_0:L.env.keep 12 0 = [1,2,4,9,10,11]:=by kernel_rfl
@[go_sem] theorem kp21_0:L.env.keep 21 0 = [1,2,4,7,8,9,10,25,26]:=by kernel_rfl
@[go_sem] theorem kp21_2:L.env.keep 21 2 = [1,2,4,7,8,9,10,38,39]:=by kernel_rfl
@[go_sem] theorem kp21_4:L.env.keep 21 4 = [1,2,4,7,8,9,10,13,14,15,38,39,61,62,63]:=by kernel_rfl
@[go_sem] theorem kp23_0:L.env.keep 23 0 = [0,3]:=by kernel_rfl
@[go_sem] theorem kp23_2:L.env.keep 23 2 = [0,3,4,5]:=by kernel_rfl
@[go_sem] theorem kp27_0:L.env.keep 27 0 = [1,2,3,4]:=by kernel_rfl
@[go_sem] theorem kp27_2:L.env.keep 27 2 = [1,2,3,5,6,7]:=by kernel_rfl
@[go_sem] theorem kp27_4:L.env.keep 27 4 = [1,2,3,5,6,8]:=by kernel_rfl
@[go_sem] theorem kp27_6:L.env.keep 27 6 = [1,2,3,5,6,9,10]:=by kernel_rfl
@[go_sem] theorem kp27_8:L.env.keep 27 8 = [1,2,3,9,11]:=by kernel_rfl
@[go_sem] theorem kp27_10:L.env.keep 27 10 = [1,2,3,9,12]:=by kernel_rfl
@[go_sem] theorem kp29_0:L.env.keep 29 0 = [0,1,2,7,8]:=by kernel_rfl
@[go_sem] theorem kp30_0:L.env.keep 30 0 = [1,2,5,6]:=by kernel_rfl
@[go_sem] theorem kp31_0:L.env.keep 31 0 = [1,2,3,9,24,25]:=by kernel_rfl
@[go_sem] theorem kp31_2:L.env.keep 31 2 = [1,2,9,11,12]:=by kernel_rfl
@[go_sem] theorem kp33_0:L.env.keep 33 0 = [0,5,11,12,13]:=by kernel_rfl
@[go_sem] theorem kp34_0:L.env.keep 34 0 = [0,1,2,4,5,13,14]:=by kernel_rfl
@[go_sem] theorem kp37_0:L.env.keep 37 0 = [0,1,5,6]:=by kernel_rfl
@[go_sem] theorem kp47_0:L.env.keep 47 0 = [2,3,4,6,7,8,9,10,11,12]:=by kernel_rfl
@[go_sem] theorem kp49_0:L.env.keep 49 0 = [1,2,3,4,9]:=by kernel_rfl
@[go_sem] theorem kp50_0:L.env.keep 50 0 = [2,3,31,32,33]:=by kernel_rfl
@[go_sem] theorem kp50_2:L.env.keep 50 2 = [3,47,48,49]:=by kernel_rfl
@[go_sem] theorem kp52_0:L.env.keep 52 0 = [1,2,3,4,8,9,10,11,34,35]:=by kernel_rfl
@[go_sem] theorem kp54_0:L.env.keep 54 0 = [7,8]:=by kernel_rfl
@[go_sem] theorem kp55_0:L.env.keep 55 0 = [0,1,7,8]:=by kernel_rfl
@[go_sem] theorem kp56_0:L.env.keep 56 0 = [0,1,2,3,8,9]:=by kernel_rfl
@[go_sem] theorem kp61_0:L.env.keep 61 0 = [4,6,21,22]:=by kernel_rfl
@[go_sem] theorem kp79_0:L.env.keep 79 0 = [5,15,16,17]:=by kernel_rfl
@[go_sem] theorem kp79_2:L.env.keep 79 2 = [5,6,15,16,17,25,26]:=by kernel_rfl
@[go_sem] theorem kp83_0:L.env.keep 83 0 = [0,2,7,14,15]:=by kernel_rfl
@[go_sem] theorem kp83_2:L.env.keep 83 2 = [0,2,7,8,14,15,18,19,20]:=by kernel_rfl
@[go_sem] theorem kp86_0:L.env.keep 86 0 = [1,2,3,6,7,25,26,27]:=by kernel_rfl
@[go_sem] theorem kp86_2:L.env.keep 86 2 = [2,3,6,7,41,42,43]:=by kernel_rfl
@[go_sem] theorem kp86_4:L.env.keep 86 4 = [3,6,7,57,58,59]:=by kernel_rfl
@[go_sem] theorem kp86_6:L.env.keep 86 6 = [3,6,7,99,100,101]:=by kernel_rfl
@[go_sem] theorem kp86_8:L.env.keep 86 8 = [3,6,7,114,115,116]:=by kernel_rfl
@[go_sem] theorem kp88_0:L.env.keep 88 0 = [0,1,4,9,10]:=by kernel_rfl
@[go_sem] theorem kp90_0:L.env.keep 90 0 = [0,1,2,6]:=by kernel_rfl
@[go_sem] theorem kp90_2:L.env.keep 90 2 = [0,1,2,6,7]:=by kernel_rfl
@[go_sem] theorem kp91_0:L.env.keep 91 0 = [0,6,7,8,9]:=by kernel_rfl
@[go_sem] theorem kp91_2:L.env.keep 91 2 = [0,6,7,10]:=by kernel_rfl
@[go_sem] theorem kp92_0:L.env.keep 92 0 = [0,1,6,7,8,9]:=by kernel_rfl
@[go_sem] theorem kp94_0:L.env.keep 94 0 = [0,6,7]:=by kernel_rfl
@[go_sem] theorem kp95_0:L.env.keep 95 0 = [0,1,2,7,8]:=by kernel_rfl
@[go_sem] theorem kp95_2:L.env.keep 95 2 = [0,1,2,7,8]:=by kernel_rfl
@[go_sem] theorem kp95_4:L.env.keep 95 4 = [0,1,2,7,8,9]:=by kernel_rfl
@[go_sem] theorem kp95_6:L.env.keep 95 6 = [0,1,2,7,8,10]:=by kernel_rfl
@[go_sem] theorem kp97_0:L.env.keep 97 0 = [0,1,9,10]:=by kernel_rfl
@[go_sem] theorem kp97_2:L.env.keep 97 2 = [0,1,9,10]:=by kernel_rfl
@[go_sem] theorem kp97_4:L.env.keep 97 4 = [0,1,9,10]:=by kernel_rfl
@[go_sem] theorem kp98_0:L.env.keep 98 0 = [0,1,10,11]:=by kernel_rfl
@[go_sem] theorem kp98_2:L.env.keep 98 2 = [0,1,10,11]:=by kernel_rfl
@[go_sem] theorem kp98_4:L.env.keep 98 4 = [0,1,10,11]:=by kernel_rfl
@[go_sem] theorem kp98_6:L.env.keep 98 6 = [0,1,10,11]:=by kernel_rfl
@[go_sem] theorem kp98_8:L.env.keep 98 8 = [0,1,10,11]:=by kernel_rfl
@[go_sem] theorem kp102_0:L.env.keep 102 0 = [2,5,6]:=by kernel_rfl
@[go_sem] theorem kp102_2:L.env.keep 102 2 = [2,5,6,45,46,47]:=by kernel_rfl
@[go_sem] theorem kp103_0:L.env.keep 103 0 = [1,5,6,7,29,30,31]:=by kernel_rfl
@[go_sem] theorem kp103_2:L.env.keep 103 2 = [1,5,6,7,10,11]:=by kernel_rfl
@[go_sem] theorem kp103_4:L.env.keep 103 4 = [1,5,6,7,10,11,12,76,77,78]:=by kernel_rfl
@[go_sem] theorem kp107_0:L.env.keep 107 0 = [1,5,9,10,11]:=by kernel_rfl
@[go_sem] theorem kp126_0:L.env.keep 126 0 = [0,4,7,33,34,35]:=by kernel_rfl
@[go_sem] theorem kp127_0:L.env.keep 127 0 = [1,2,3,7,16,17,18]:=by kernel_rfl
@[go_sem] theorem kp134_0:L.env.keep 134 0 = [0,2,3,8]:=by kernel_rfl
@[go_sem] theorem kp140_1:L.env.keep 140 1 = [1,36,37,38]:=by kernel_rfl
@[go_sem] theorem kp140_3:L.env.keep 140 3 = [1,55,56,57]:=by kernel_rfl
@[go_sem] theorem kp141_0:L.env.keep 141 0 = [3,4,18,19,20]:=by kernel_rfl
@[go_sem] theorem kp141_2:L.env.keep 141 2 = [3,4,5,18,19,20,26,27,28]:=by kernel_rfl
@[go_sem] theorem kp141_4:L.env.keep 141 4 = [3,51,52,53]:=by kernel_rfl
@[go_sem] theorem kp142_0:L.env.keep 142 0 = [0,1,2,6,7,8]:=by kernel_rfl
@[go_sem] theorem kp142_2:L.env.keep 142 2 = [0,1,2,6]:=by kernel_rfl
@[go_sem] theorem kp144_0:L.env.keep 144 0 = [0,1,7,8]:=by kernel_rfl
@[go_sem] theorem kp151_0:L.env.keep 151 0 = [2,3,4,5,8,9,10]:=by kernel_rfl
@[go_sem] theorem kp154_0:L.env.keep 154 0 = [2,3,7,8,9]:=by kernel_rfl
@[go_sem] theorem kp155_0:L.env.keep 155 0 = [2,3,7,8,9]:=by kernel_rfl
@[go_sem] theorem kp156_0:L.env.keep 156 0 = [2,3,7,8,9]:=by kernel_rfl
@[go_sem] theorem kp161_0:L.env.keep 161 0 = [3,8,9,10]:=by kernel_rfl
@[go_sem] theorem kp165_0:L.env.keep 165 0 = [0,1,2,3,8]:=by kernel_rfl
@[go_sem] theorem kp165_2:L.env.keep 165 2 = [0,1,2,3,8,9]:=by kernel_rfl
@[go_sem] theorem kp167_0:L.env.keep 167 0 = [0,1,7,8]:=by kernel_rfl
@[go_sem] theorem by3:L.env.bytes 3 = 8:=by kernel_rfl
@[go_sem] theorem by4:L.env.bytes 4 = 1:=by kernel_rfl
@[go_sem] theorem by9:L.env.bytes 9 = 16:=by kernel_rfl
@[go_sem] theorem f2u:L.env.bytes 50 = 48:=by kernel_rfl
@[go_sem] theorem f2t:L.env.bytes 65 = 16:=by kernel_rfl
@[go_sem] theorem f2s:L.env.bytes 66 = 1:=by kernel_rfl
@[go_sem] theorem f2r:L.env.bytes 68 = 40:=by kernel_rfl
@[go_sem] theorem f2q:L.env.bytes 81 = 48:=by kernel_rfl
@[go_sem] theorem e7n:L.env.bytes 120 = 24:=by kernel_rfl
@[go_sem] theorem e7m:L.env.bytes 127 = 8:=by kernel_rfl
@[go_sem] theorem e7l:L.env.bytes 155 = 24:=by kernel_rfl
@[go_sem] theorem e2q:L.env.bytes 159 = 16:=by kernel_rfl
@[go_sem] theorem is3:isT L.env 3 = true:=by kernel_rfl
@[go_sem] theorem sz3:L.env.sz 3 = 1:=by kernel_rfl
@[go_sem] theorem ag3:a6y L.env 3 = some false:=by kernel_rfl
@[go_sem] theorem in3:c4q L.env 3 = some .i64:=by kernel_rfl
@[go_sem] theorem ze3:L.env.zero 3 = some [.int .i64 0]:=by kernel_rfl
@[go_sem] theorem is4:isT L.env 4 = true:=by kernel_rfl
@[go_sem] theorem sz4:L.env.sz 4 = 1:=by kernel_rfl
@[go_sem] theorem ag4:a6y L.env 4 = some false:=by kernel_rfl
@[go_sem] theorem un4:L.env.und 4 = some .bool:=by kernel_rfl
@[go_sem] theorem ze4:L.env.zero 4 = some [.bool false]:=by kernel_rfl
@[go_sem] theorem is5:isT L.env 5 = true:=by kernel_rfl
@[go_sem] theorem sz5:L.env.sz 5 = 1:=by kernel_rfl
@[go_sem] theorem ag5:a6y L.env 5 = some false:=by kernel_rfl
@[go_sem] theorem in5:c4q L.env 5 = some .u8:=by kernel_rfl
@[go_sem] theorem ze5:L.env.zero 5 = some [.int .u8 0]:=by kernel_rfl
@[go_sem] theorem is9:isT L.env 9 = true:=by kernel_rfl
@[go_sem] theorem sz9:L.env.sz 9 = 1:=by kernel_rfl
@[go_sem] theorem ag9:a6y L.env 9 = some false:=by kernel_rfl
@[go_sem] theorem ze9:L.env.zero 9 = some [.str []]:=by kernel_rfl
@[go_sem] theorem f6g:isT L.env 22 = true:=by kernel_rfl
@[go_sem] theorem ar22:c0o L.env 22 = some (2,5):=by kernel_rfl
@[go_sem] theorem ar23:c0o L.env 23 = some (4,5):=by kernel_rfl
@[go_sem] theorem f6f:isT L.env 24 = true:=by kernel_rfl
@[go_sem] theorem f4t:L.env.sz 24 = 1:=by kernel_rfl
@[go_sem] theorem f7s:a6y L.env 24 = some false:=by kernel_rfl
@[go_sem] theorem st24:slT L.env 24 = some 115:=by kernel_rfl
@[go_sem] theorem f6e:isT L.env 25 = true:=by kernel_rfl
@[go_sem] theorem f4s:L.env.sz 25 = 1:=by kernel_rfl
@[go_sem] theorem f7r:a6y L.env 25 = some false:=by kernel_rfl
@[go_sem] theorem st25:slT L.env 25 = some 5:=by kernel_rfl
@[go_sem] theorem f6k:byT L.env 25 9 = true:=by kernel_rfl
@[go_sem] theorem f6d:isT L.env 27 = true:=by kernel_rfl
@[go_sem] theorem f4r:L.env.sz 27 = 12:=by kernel_rfl
@[go_sem] theorem f7q:a6y L.env 27 = some true:=by kernel_rfl
theorem ft27:a99 L.env 27 = some [5,5,22,4,4,23,24,25]:=by kernel_rfl
@[go_sem] theorem f08:a5d L.env 27 0 = some (0,5):=by kernel_rfl
@[go_sem] theorem f07:a5d L.env 27 1 = some (1,5):=by kernel_rfl
@[go_sem] theorem f06:a5d L.env 27 2 = some (2,22):=by kernel_rfl
@[go_sem] theorem f05:a5d L.env 27 3 = some (4,4):=by kernel_rfl
@[go_sem] theorem f04:a5d L.env 27 4 = some (5,4):=by kernel_rfl
@[go_sem] theorem f03:a5d L.env 27 6 = some (10,24):=by kernel_rfl
@[go_sem] theorem f02:a5d L.env 27 7 = some (11,25):=by kernel_rfl
@[go_sem] theorem f6c:isT L.env 28 = true:=by kernel_rfl
@[go_sem] theorem f4q:L.env.sz 28 = 1:=by kernel_rfl
@[go_sem] theorem f7p:a6y L.env 28 = some false:=by kernel_rfl
@[go_sem] theorem st28:slT L.env 28 = some 71:=by kernel_rfl
@[go_sem] theorem f6b:isT L.env 29 = true:=by kernel_rfl
@[go_sem] theorem f4p:L.env.sz 29 = 1:=by kernel_rfl
@[go_sem] theorem f7o:a6y L.env 29 = some false:=by kernel_rfl
@[go_sem] theorem st29:slT L.env 29 = some 74:=by kernel_rfl
@[go_sem] theorem f4o:L.env.sz 31 = 14:=by kernel_rfl
@[go_sem] theorem ag31:a6y L.env 31 = some true:=by kernel_rfl
theorem ft31:a99 L.env 31 = some [27,28,29]:=by kernel_rfl
@[go_sem] theorem f01:a5d L.env 31 0 = some (0,27):=by kernel_rfl
@[go_sem] theorem f00:a5d L.env 31 1 = some (12,28):=by kernel_rfl
@[go_sem] theorem e9z:a5d L.env 31 2 = some (13,29):=by kernel_rfl
@[go_sem] theorem f6a:isT L.env 32 = true:=by kernel_rfl
@[go_sem] theorem f4n:L.env.sz 32 = 1:=by kernel_rfl
@[go_sem] theorem f7n:a6y L.env 32 = some false:=by kernel_rfl
@[go_sem] theorem f5b:slT L.env 32 = some 81:=by kernel_rfl
@[go_sem] theorem f6w:apT L.env 32 32 = some 81:=by kernel_rfl
@[go_sem] theorem f5h {k:Nat} (h:(k ≤ 1000000000) = True):a2k L.env 81 k = true:=a71 (of_eq_true h) (by rw [f2q];decide)
@[go_sem] theorem f5z:isT L.env 33 = true:=by kernel_rfl
@[go_sem] theorem f4m:L.env.sz 33 = 1:=by kernel_rfl
@[go_sem] theorem f7m:a6y L.env 33 = some false:=by kernel_rfl
@[go_sem] theorem f5a:slT L.env 33 = some 9:=by kernel_rfl
@[go_sem] theorem f6v:apT L.env 33 33 = some 9:=by kernel_rfl
@[go_sem] theorem f5g {k:Nat} (h:(k ≤ 1000000000) = True):a2k L.env 9 k = true:=a71 (of_eq_true h) (by rw [by9];decide)
@[go_sem] theorem f5y:isT L.env 34 = true:=by kernel_rfl
@[go_sem] theorem f4l:L.env.sz 34 = 1:=by kernel_rfl
@[go_sem] theorem f7l:a6y L.env 34 = some false:=by kernel_rfl
@[go_sem] theorem f4z:slT L.env 34 = some 117:=by kernel_rfl
@[go_sem] theorem f5x:isT L.env 35 = true:=by kernel_rfl
@[go_sem] theorem f4k:L.env.sz 35 = 1:=by kernel_rfl
@[go_sem] theorem f7k:a6y L.env 35 = some false:=by kernel_rfl
@[go_sem] theorem f4y:slT L.env 35 = some 3:=by kernel_rfl
@[go_sem] theorem f6u:apT L.env 35 35 = some 3:=by kernel_rfl
@[go_sem] theorem f5f {k:Nat} (h:(k ≤ 1000000000) = True):a2k L.env 3 k = true:=a71 (of_eq_true h) (by rw [by3];decide)
@[go_sem] theorem f5j {k:Nat} (h:(k ≤ 1000000000) = True):b9e L.env 3 (k:Int) (k:Int) = true:=a3i (of_eq_true h) (by rw [by3];decide)
@[go_sem] theorem f3w:L.env.zero 35 = some [.nilslice]:=by kernel_rfl
@[go_sem] theorem f5w:isT L.env 37 = true:=by kernel_rfl
@[go_sem] theorem f4j:L.env.sz 37 = 4:=by kernel_rfl
@[go_sem] theorem f7j:a6y L.env 37 = some true:=by kernel_rfl
@[go_sem] theorem e9y:a5d L.env 37 0 = some (0,32):=by kernel_rfl
@[go_sem] theorem e9x:a5d L.env 37 1 = some (1,33):=by kernel_rfl
@[go_sem] theorem e9w:a5d L.env 37 2 = some (2,34):=by kernel_rfl
@[go_sem] theorem e9v:a5d L.env 37 3 = some (3,35):=by kernel_rfl
@[go_sem] theorem f3v:L.env.zero 37 = some [.nilslice,.nilslice,.nilslice,.nilslice]:=by kernel_rfl
@[go_sem] theorem f4x:slT L.env 38 = some 68:=by kernel_rfl
@[go_sem] theorem f6t:apT L.env 38 38 = some 68:=by kernel_rfl
@[go_sem] theorem f5e {k:Nat} (h:(k ≤ 1000000000) = True):a2k L.env 68 k = true:=a71 (of_eq_true h) (by rw [f2r];decide)
@[go_sem] theorem f4w:slT L.env 39 = some 50:=by kernel_rfl
@[go_sem] theorem f6s:apT L.env 39 39 = some 50:=by kernel_rfl
@[go_sem] theorem f5d {k:Nat} (h:(k ≤ 1000000000) = True):a2k L.env 50 k = true:=a71 (of_eq_true h) (by rw [f2u];decide)
@[go_sem] theorem f5v:isT L.env 43 = true:=by kernel_rfl
@[go_sem] theorem f4i:L.env.sz 43 = 3:=by kernel_rfl
@[go_sem] theorem f7i:a6y L.env 43 = some true:=by kernel_rfl
@[go_sem] theorem f6p:d2s L.env 43 = true:=by kernel_rfl
@[go_sem] theorem e9u:a5d L.env 43 0 = some (0,35):=by kernel_rfl
@[go_sem] theorem e8p:b3y L.env 43 0 = some (0,1):=by kernel_rfl
@[go_sem] theorem e9t:a5d L.env 43 1 = some (1,35):=by kernel_rfl
@[go_sem] theorem e8o:b3y L.env 43 1 = some (1,1):=by kernel_rfl
@[go_sem] theorem e9s:a5d L.env 43 2 = some (2,3):=by kernel_rfl
@[go_sem] theorem e8n:b3y L.env 43 2 = some (2,1):=by kernel_rfl
@[go_sem] theorem f3u:L.env.zero 43 = some [.nilslice,.nilslice,.int .i64 0]:=by kernel_rfl
@[go_sem] theorem f5u:isT L.env 48 = true:=by kernel_rfl
@[go_sem] theorem f4h:L.env.sz 48 = 1:=by kernel_rfl
@[go_sem] theorem f7h:a6y L.env 48 = some false:=by kernel_rfl
@[go_sem] theorem f4v:slT L.env 48 = some 66:=by kernel_rfl
@[go_sem] theorem f6r:apT L.env 48 48 = some 66:=by kernel_rfl
@[go_sem] theorem f5c {k:Nat} (h:(k ≤ 1000000000) = True):a2k L.env 66 k = true:=a71 (of_eq_true h) (by rw [f2s];decide)
@[go_sem] theorem f5t:isT L.env 50 = true:=by kernel_rfl
@[go_sem] theorem f4g:L.env.sz 50 = 2:=by kernel_rfl
@[go_sem] theorem f7g:a6y L.env 50 = some true:=by kernel_rfl
@[go_sem] theorem f6o:d2s L.env 50 = true:=by kernel_rfl
@[go_sem] theorem e9r:a5d L.env 50 0 = some (0,48):=by kernel_rfl
@[go_sem] theorem e8m:b3y L.env 50 0 = some (0,1):=by kernel_rfl
@[go_sem] theorem e9q:a5d L.env 50 1 = some (1,48):=by kernel_rfl
@[go_sem] theorem e8l:b3y L.env 50 1 = some (1,1):=by kernel_rfl
@[go_sem] theorem f3t:L.env.zero 50 = some [.nilslice,.nilslice]:=by kernel_rfl
@[go_sem] theorem f5s:isT L.env 63 = true:=by kernel_rfl
@[go_sem] theorem f4f:L.env.sz 63 = 1:=by kernel_rfl
@[go_sem] theorem f7f:a6y L.env 63 = some false:=by kernel_rfl
@[go_sem] theorem f5r:isT L.env 65 = true:=by kernel_rfl
@[go_sem] theorem f4e:L.env.sz 65 = 2:=by kernel_rfl
@[go_sem] theorem f7e:a6y L.env 65 = some true:=by kernel_rfl
@[go_sem] theorem f6n:d2s L.env 65 = true:=by kernel_rfl
@[go_sem] theorem e9p:a5d L.env 65 0 = some (0,3):=by kernel_rfl
@[go_sem] theorem e8k:b3y L.env 65 0 = some (0,1):=by kernel_rfl
@[go_sem] theorem e9o:a5d L.env 65 1 = some (1,3):=by kernel_rfl
@[go_sem] theorem e8j:b3y L.env 65 1 = some (1,1):=by kernel_rfl
@[go_sem] theorem f3s:L.env.zero 65 = some [.int .i64 0,.int .i64 0]:=by kernel_rfl
@[go_sem] theorem f5q:isT L.env 66 = true:=by kernel_rfl
@[go_sem] theorem f4d:L.env.sz 66 = 1:=by kernel_rfl
@[go_sem] theorem f7d:a6y L.env 66 = some false:=by kernel_rfl
@[go_sem] theorem f3r:L.env.zero 66 = some [.int .u8 0]:=by kernel_rfl
@[go_sem] theorem f5p:isT L.env 68 = true:=by kernel_rfl
@[go_sem] theorem f4c:L.env.sz 68 = 5:=by kernel_rfl
@[go_sem] theorem f7c:a6y L.env 68 = some true:=by kernel_rfl
@[go_sem] theorem f6m:d2s L.env 68 = true:=by kernel_rfl
@[go_sem] theorem e9n:a5d L.env 68 0 = some (0,63):=by kernel_rfl
@[go_sem] theorem e8i:b3y L.env 68 0 = some (0,1):=by kernel_rfl
@[go_sem] theorem e9m:a5d L.env 68 1 = some (1,65):=by kernel_rfl
@[go_sem] theorem e8h:b3y L.env 68 1 = some (1,2):=by kernel_rfl
@[go_sem] theorem e9l:a5d L.env 68 2 = some (3,66):=by kernel_rfl
@[go_sem] theorem e9k:a5d L.env 68 3 = some (4,3):=by kernel_rfl
@[go_sem] theorem f3q:L.env.zero 68 = some [.int .u8 0,.int .i64 0,.int .i64 0,.int .u8 0,.int .i64 0]:=by kernel_rfl
@[go_sem] theorem f5o:isT L.env 71 = true:=by kernel_rfl
@[go_sem] theorem f4b:L.env.sz 71 = 5:=by kernel_rfl
@[go_sem] theorem f7b:a6y L.env 71 = some true:=by kernel_rfl
theorem ft71:a99 L.env 71 = some [5,5,5,5,4]:=by kernel_rfl
@[go_sem] theorem e9j:a5d L.env 71 0 = some (0,5):=by kernel_rfl
@[go_sem] theorem e9i:a5d L.env 71 1 = some (1,5):=by kernel_rfl
@[go_sem] theorem e9h:a5d L.env 71 2 = some (2,5):=by kernel_rfl
@[go_sem] theorem e9g:a5d L.env 71 3 = some (3,5):=by kernel_rfl
@[go_sem] theorem e9f:a5d L.env 71 4 = some (4,4):=by kernel_rfl
@[go_sem] theorem f3p:L.env.zero 71 = some [.int .u8 0,.int .u8 0,.int .u8 0,.int .u8 0,.bool false]:=by kernel_rfl
@[go_sem] theorem f5n:isT L.env 74 = true:=by kernel_rfl
@[go_sem] theorem f4a:L.env.sz 74 = 2:=by kernel_rfl
@[go_sem] theorem f7a:a6y L.env 74 = some true:=by kernel_rfl
theorem ft74:a99 L.env 74 = some [25,25]:=by kernel_rfl
@[go_sem] theorem e9e:a5d L.env 74 0 = some (0,25):=by kernel_rfl
@[go_sem] theorem e9d:a5d L.env 74 1 = some (1,25):=by kernel_rfl
@[go_sem] theorem f5m:isT L.env 79 = true:=by kernel_rfl
@[go_sem] theorem f3z:L.env.sz 79 = 1:=by kernel_rfl
@[go_sem] theorem f6z:a6y L.env 79 = some false:=by kernel_rfl
@[go_sem] theorem f6h:c4q L.env 79 = some .u8:=by kernel_rfl
@[go_sem] theorem f3o:L.env.zero 79 = some [.int .u8 0]:=by kernel_rfl
@[go_sem] theorem f5l:isT L.env 81 = true:=by kernel_rfl
@[go_sem] theorem f3y:L.env.sz 81 = 4:=by kernel_rfl
@[go_sem] theorem f6y:a6y L.env 81 = some true:=by kernel_rfl
@[go_sem] theorem f6l:d2s L.env 81 = true:=by kernel_rfl
@[go_sem] theorem e9c:a5d L.env 81 0 = some (0,79):=by kernel_rfl
@[go_sem] theorem e8g:b3y L.env 81 0 = some (0,1):=by kernel_rfl
@[go_sem] theorem e9b:a5d L.env 81 1 = some (1,35):=by kernel_rfl
@[go_sem] theorem e8f:b3y L.env 81 1 = some (1,1):=by kernel_rfl
@[go_sem] theorem e9a:a5d L.env 81 2 = some (2,3):=by kernel_rfl
@[go_sem] theorem e99:a5d L.env 81 3 = some (3,3):=by kernel_rfl
@[go_sem] theorem f3n:L.env.zero 81 = some [.int .u8 0,.nilslice,.int .i64 0,.int .i64 0]:=by kernel_rfl
@[go_sem] theorem f5k:isT L.env 91 = true:=by kernel_rfl
@[go_sem] theorem f3x:L.env.sz 91 = 1:=by kernel_rfl
@[go_sem] theorem f6x:a6y L.env 91 = some false:=by kernel_rfl
@[go_sem] theorem f4u:slT L.env 91 = some 120:=by kernel_rfl
@[go_sem] theorem f5i {k:Nat} (h:(k ≤ 1000000000) = True):b9e L.env 120 (k:Int) (k:Int) = true:=a3i (of_eq_true h) (by rw [e7n];decide)
@[go_sem] theorem f3m:L.env.zero 91 = some [.nilslice]:=by kernel_rfl
@[go_sem] theorem f2h:isT L.env 113 = true:=by kernel_rfl
@[go_sem] theorem ar113:c0o L.env 113 = some (3,5):=by kernel_rfl
@[go_sem] theorem f2g:isT L.env 115 = true:=by kernel_rfl
@[go_sem] theorem f0t:L.env.sz 115 = 4:=by kernel_rfl
@[go_sem] theorem f3l:a6y L.env 115 = some true:=by kernel_rfl
theorem ft115:a99 L.env 115 = some [5,113]:=by kernel_rfl
@[go_sem] theorem e79:a5d L.env 115 0 = some (0,5):=by kernel_rfl
@[go_sem] theorem e78:a5d L.env 115 1 = some (1,113):=by kernel_rfl
@[go_sem] theorem f2f:isT L.env 120 = true:=by kernel_rfl
@[go_sem] theorem f0s:L.env.sz 120 = 1:=by kernel_rfl
@[go_sem] theorem f3k:a6y L.env 120 = some false:=by kernel_rfl
@[go_sem] theorem f1a:slT L.env 120 = some 127:=by kernel_rfl
@[go_sem] theorem f1r {k:Nat} (h:(k ≤ 1000000000) = True):b9e L.env 127 (k:Int) (k:Int) = true:=a3i (of_eq_true h) (by rw [e7m];decide)
@[go_sem] theorem f0i:L.env.zero 120 = some [.nilslice]:=by kernel_rfl
@[go_sem] theorem f2e:isT L.env 121 = true:=by kernel_rfl
@[go_sem] theorem f0r:L.env.sz 121 = 1:=by kernel_rfl
@[go_sem] theorem f3j:a6y L.env 121 = some false:=by kernel_rfl
@[go_sem] theorem f2d:isT L.env 122 = true:=by kernel_rfl
@[go_sem] theorem f0q:L.env.sz 122 = 1:=by kernel_rfl
@[go_sem] theorem f3i:a6y L.env 122 = some false:=by kernel_rfl
@[go_sem] theorem f2c:isT L.env 124 = true:=by kernel_rfl
@[go_sem] theorem f0p:L.env.sz 124 = 9:=by kernel_rfl
@[go_sem] theorem f3h:a6y L.env 124 = some true:=by kernel_rfl
@[go_sem] theorem f2x:d2s L.env 124 = true:=by kernel_rfl
@[go_sem] theorem e77:a5d L.env 124 0 = some (0,37):=by kernel_rfl
@[go_sem] theorem e62:b3y L.env 124 0 = some (0,4):=by kernel_rfl
@[go_sem] theorem e76:a5d L.env 124 1 = some (4,35):=by kernel_rfl
@[go_sem] theorem e61:b3y L.env 124 1 = some (4,1):=by kernel_rfl
@[go_sem] theorem e75:a5d L.env 124 2 = some (5,35):=by kernel_rfl
@[go_sem] theorem e60:b3y L.env 124 2 = some (5,1):=by kernel_rfl
@[go_sem] theorem e74:a5d L.env 124 3 = some (6,35):=by kernel_rfl
@[go_sem] theorem e5z:b3y L.env 124 3 = some (6,1):=by kernel_rfl
@[go_sem] theorem e73:a5d L.env 124 4 = some (7,121):=by kernel_rfl
@[go_sem] theorem e5y:b3y L.env 124 4 = some (7,1):=by kernel_rfl
@[go_sem] theorem e72:a5d L.env 124 5 = some (8,122):=by kernel_rfl
@[go_sem] theorem e5x:b3y L.env 124 5 = some (8,1):=by kernel_rfl
@[go_sem] theorem f0h:L.env.zero 124 = some [.nilslice,.nilslice,.nilslice,.nilslice,.nilslice,.nilslice,.nilslice,.nilfunc,.nilfunc]:=by kernel_rfl
@[go_sem] theorem f2b:isT L.env 127 = true:=by kernel_rfl
@[go_sem] theorem f0o:L.env.sz 127 = 1:=by kernel_rfl
@[go_sem] theorem f3g:a6y L.env 127 = some false:=by kernel_rfl
@[go_sem] theorem f0g:L.env.zero 127 = some [.int .u64 0]:=by kernel_rfl
@[go_sem] theorem f2a:isT L.env 134 = true:=by kernel_rfl
@[go_sem] theorem f2n:c4q L.env 134 = some .u64:=by kernel_rfl
@[go_sem] theorem f1z:isT L.env 155 = true:=by kernel_rfl
@[go_sem] theorem f0n:L.env.sz 155 = 1:=by kernel_rfl
@[go_sem] theorem f3f:a6y L.env 155 = some false:=by kernel_rfl
@[go_sem] theorem f0z:slT L.env 155 = some 65:=by kernel_rfl
@[go_sem] theorem f3c:apT L.env 155 155 = some 65:=by kernel_rfl
@[go_sem] theorem f1d {k:Nat} (h:(k ≤ 1000000000) = True):a2k L.env 65 k = true:=a71 (of_eq_true h) (by rw [f2t];decide)
@[go_sem] theorem f0f:L.env.zero 155 = some [.nilslice]:=by kernel_rfl
@[go_sem] theorem f1y:isT L.env 159 = true:=by kernel_rfl
@[go_sem] theorem f0m:L.env.sz 159 = 2:=by kernel_rfl
@[go_sem] theorem f3e:a6y L.env 159 = some true:=by kernel_rfl
@[go_sem] theorem f2w:d2s L.env 159 = true:=by kernel_rfl
@[go_sem] theorem e71:a5d L.env 159 0 = some (0,127):=by kernel_rfl
@[go_sem] theorem e5w:b3y L.env 159 0 = some (0,1):=by kernel_rfl
@[go_sem] theorem e70:a5d L.env 159 1 = some (1,127):=by kernel_rfl
@[go_sem] theorem e5v:b3y L.env 159 1 = some (1,1):=by kernel_rfl
@[go_sem] theorem f0e:L.env.zero 159 = some [.int .u64 0,.int .u64 0]:=by kernel_rfl
@[go_sem] theorem f0y:slT L.env 160 = some 159:=by kernel_rfl
@[go_sem] theorem f3b:apT L.env 160 160 = some 159:=by kernel_rfl
@[go_sem] theorem f1c {k:Nat} (h:(k ≤ 1000000000) = True):a2k L.env 159 k = true:=a71 (of_eq_true h) (by rw [e2q];decide)
@[go_sem] theorem f1q {k:Nat} (h:(k ≤ 1000000000) = True):b9e L.env 159 (k:Int) (k:Int) = true:=a3i (of_eq_true h) (by rw [e2q];decide)
@[go_sem] theorem f0x:slT L.env 181 = some 4:=by kernel_rfl
@[go_sem] theorem f1p {k:Nat} (h:(k ≤ 1000000000) = True):b9e L.env 4 (k:Int) (k:Int) = true:=a3i (of_eq_true h) (by rw [by4];decide)
@[go_sem] theorem f1x:isT L.env 201 = true:=by kernel_rfl
@[go_sem] theorem f0l:L.env.sz 201 = 1:=by kernel_rfl
@[go_sem] theorem f3d:a6y L.env 201 = some false:=by kernel_rfl
@[go_sem] theorem f2m:c4q L.env 201 = some .u64:=by kernel_rfl
@[go_sem] theorem f0d:L.env.zero 201 = some [.int .u64 0]:=by kernel_rfl
@[go_sem] theorem f0w:slT L.env 207 = some 155:=by kernel_rfl
@[go_sem] theorem f1o {k:Nat} (h:(k ≤ 1000000000) = True):b9e L.env 155 (k:Int) (k:Int) = true:=a3i (of_eq_true h) (by rw [e7l];decide)
@[go_sem] theorem f0v:slT L.env 210 = some 79:=by kernel_rfl
@[go_sem] theorem f1w:isT L.env 213 = true:=by kernel_rfl
@[go_sem] theorem f0k:L.env.sz 213 = 2:=by kernel_rfl
@[go_sem] theorem f3a:c0o L.env 213 = some (2,3):=by kernel_rfl
@[go_sem] theorem f2z:c0o L.env 214 = some (16,213):=by kernel_rfl
@[go_sem] theorem f2y:c0o L.env 221 = some (4,159):=by kernel_rfl
end Go.MInst
