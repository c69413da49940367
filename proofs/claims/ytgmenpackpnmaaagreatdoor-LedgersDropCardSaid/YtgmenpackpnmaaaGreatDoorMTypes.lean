/- Type facts (printed by AxTypes). -/
import Derived.Test.YtgmenpackpnmaaaGreatDoorMInst
import Derived.Test.YtgmenpackpnmaaaGreatDoorAxE
set_option linter.unusedSimpArgs false
set_option linter.unusedVariables false
namespace Go.MInst
open Go.Proofs Go.Ax
@[go_sem] theorem roF (g:FuncId):L.env.ro g = decide (g = 75 ∨ g = 76):=by rfl
@[go_sem] theorem e60 (g:FuncId):L.env.thaw g = decide (g = 44 ∨ g = 70 ∨ g = 32 ∨ g = 54 ∨ g = 39 ∨ g = 24):=by rfl
@[go_sem] theorem kp6_0:L.env.keep 6 0 = [1,6,8,10,12]:=by kernel_rfl
@[go_sem] theorem kp8_0:L.env.keep 8 0 = [1,2,5,6,7]:=by kernel_rfl
@[go_sem] theorem kp8_2:L.env.keep 8 2 = [1,2,5,6,9,10]:=by kernel_rfl
@[go_sem] theorem kp14_0:L.env.keep 14 0 = [0,1,5]:=by kernel_rfl
@[go_sem] theorem kp21_0:L.env.keep 21 0 = [1,2,4,7,8,9,10,25,26]:=by kernel_rfl
@[go_sem] theorem kp21_2:L.env.keep 21 2 = [1,2,4,7,8,9,10,38,39]:=by kernel_rfl
@[go_sem] theorem kp21_4:L.env.keep 21 4 = [1,2,4,7,8,9,10,13,14,15,38,39,61,62,63]:=by kernel_rfl
@[go_sem] theorem kp27_0:L.env.keep 27 0 = [1,2,3,4]:=by kernel_rfl
@[go_sem] theorem kp27_2:L.env.keep 27 2 = [1,2,3,5,6,7]:=by kernel_rfl
@[go_sem] theorem kp27_4:L.env.keep 27 4 = [1,2,3,5,6,8]:=by kernel_rfl
@[go_sem] theorem kp27_6:L.env.keep 27 6 = [1,2,3,5,6,9,10]:=by kernel_rfl
@[go_sem] theorem kp27_8:L.env.keep 27 8 = [1,2,3,9,11]:=by kernel_rfl
@[go_sem] theorem kp27_10:L.env.keep 27 10 = [1,2,3,9,12]:=by kernel_rfl
@[go_sem] theorem kp29_0:L.env.keep 29 0 = [0,1,2,7,8]:=by kernel_rfl
@[go_sem] theorem kp30_0:L.env.keep 30 0 = [1,2,5,6]:=by kernel_rfl
@[go_sem] theorem kp31_0:L.env.keep 31 0 = [1,2,3,9,24,25]:=by kernel_rfl
@[go_sem] theorem kp31_2:L.env.keep 31 2 = [1,2,9,11,12]:=by kernel_rfl
@[go_sem] theorem kp33_0:L.env.keep 33 0 = [0,5,11,12,13]:=by kernel_rfl
@[go_sem] theorem kp34_0:L.env.keep 34 0 = [0,1,2,4,5,13,14]:=by kernel_rfl
@[go_sem] theorem kp37_0:L.env.keep 37 0 = [0,1,5,6]:=by kernel_rfl
@[go_sem] theorem kp47_0:L.env.keep 47 0 = [2,3,4,6,7,8,9,10,11,12]:=by kernel_rfl
@[go_sem] theorem kp49_0:L.env.keep 49 0 = [1,2,3,4,9]:=by kernel_rfl
@[go_sem] theorem kp50_0:L.env.keep 50 0 = [2,3,31,32,33]:=by kernel_rfl
@[go_sem] theorem kp50_2:L.env.keep 50 2 = [3,47,48,49]:=by kernel_rfl
@[go_sem] theorem kp52_0:L.env.keep 52 0 = [1,2,3,4,8,9,10,11,34,35]:=by kernel_rfl
@[go_sem] theorem kp54_0:L.env.keep 54 0 = [7,8]:=by kernel_rfl
@[go_sem] theorem kp55_0:L.env.keep 55 0 = [0,1,7,8]:=by kernel_rfl
@[go_sem] theorem kp61_0:L.env.keep 61 0 = [4,6,21,22]:=by kernel_rfl
@[go_sem] theorem kp79_0:L.env.keep 79 0 = [5,15,16,17]:=by kernel_rfl
@[go_sem] theorem kp79_2:L.env.keep 79 2 = [5,6,15,16,17,25,26]:=by kernel_rfl
@[go_sem] theorem kp83_0:L.env.keep 83 0 = [0,2,7,14,15]:=by kernel_rfl
@[go_sem] theorem kp83_2:L.env.keep 83 2 = [0,2,7,8,14,15,18,19,20]:=by kernel_rfl
@[go_sem] theorem kp86_0:L.env.keep 86 0 = [1,2,3,6,7,25,26,27]:=by kernel_rfl
@[go_sem] theorem kp86_2:L.env.keep 86 2 = [2,3,6,7,41,42,43]:=by kernel_rfl
@[go_sem] theorem kp86_4:L.env.keep 86 4 = [3,6,7,57,58,59]:=by kernel_rfl
@[go_sem] theorem kp86_6:L.env.keep 86 6 = [3,6,7,99,100,101]:=by kernel_rfl
@[go_sem] theorem kp86_8:L.env.keep 86 8 = [3,6,7,114,115,116]:=by kernel_rfl
@[go_sem] theorem kp88_0:L.env.keep 88 0 = [0,1,4,9,10]:=by kernel_rfl
@[go_sem] theorem kp102_0:L.env.keep 102 0 = [2,5,6]:=by kernel_rfl
@[go_sem] theorem kp102_2:L.env.keep 102 2 = [2,5,6,45,46,47]:=by kernel_rfl
@[go_sem] theorem kp103_0:L.env.keep 103 0 = [1,5,6,7,29,30,31]:=by kernel_rfl
@[go_sem] theorem kp103_2:L.env.keep 103 2 = [1,5,6,7,10,11]:=by kernel_rfl
@[go_sem] theorem kp103_4:L.env.keep 103 4 = [1,5,6,7,10,11,12,76,77,78]:=by kernel_rfl
@[go_sem] theorem kp107_0:L.env.keep 107 0 = [1,5,9,10,11]:=by kernel_rfl
@[go_sem] theorem kp126_0:L.env.keep 126 0 = [0,4,7,33,34,35]:=by kernel_rfl
@[go_sem] theorem kp127_0:L.env.keep 127 0 = [1,2,3,7,16,17,18]:=by kernel_rfl
@[go_sem] theorem kp140_1:L.env.keep 140 1 = [1,36,37,38]:=by kernel_rfl
@[go_sem] theorem kp140_3:L.env.keep 140 3 = [1,55,56,57]:=by kernel_rfl
@[go_sem] theorem kp141_0:L.env.keep 141 0 = [3,4,18,19,20]:=by kernel_rfl
@[go_sem] theorem kp141_2:L.env.keep 141 2 = [3,4,5,18,19,20,26,27,28]:=by kernel_rfl
@[go_sem] theorem kp141_4:L.env.keep 141 4 = [3,51,52,53]:=by kernel_rfl
@[go_sem] theorem kp142_0:L.env.keep 142 0 = [0,1,2,6,7,8]:=by kernel_rfl
@[go_sem] theorem kp142_2:L.env.keep 142 2 = [0,1,2,6]:=by kernel_rfl
@[go_sem] theorem kp144_0:L.env.keep 144 0 = [0,1,7,8]:=by kernel_rfl
@[go_sem] theorem kp151_0:L.env.keep 151 0 = [2,3,4,5,8,9,10]:=by kernel_rfl
@[go_sem] theorem kp154_0:L.env.keep 154 0 = [2,3,7,8,9]:=by kernel_rfl
@[go_sem] theorem kp155_0:L.env.keep 155 0 = [2,3,7,8,9]:=by kernel_rfl
@[go_sem] theorem kp156_0:L.env.keep 156 0 = [2,3,7,8,9]:=by kernel_rfl
@[go_sem] theorem kp161_0:L.env.keep 161 0 = [3,8,9,10]:=by kernel_rfl
@[go_sem] theorem kp165_0:L.env.keep 165 0 = [0,1,2,3,8]:=by kernel_rfl
@[go_sem] theorem kp165_2:L.env.keep 165 2 = [0,1,2,3,8,9]:=by kernel_rfl
@[go_sem] theorem kp167_0:L.env.keep 167 0 = [0,1,7,8]:=by kernel_rfl
@[go_sem] theorem by3:L.env.bytes 3 = 8:=by kernel_rfl
@[go_sem] theorem by4:L.env.bytes 4 = 1:=by kernel_rfl
@[go_sem] theorem by9:L.env.bytes 9 = 16:=by kernel_rfl
@[go_sem] theorem e7n:L.env.bytes 50 = 48:=by kernel_rfl
@[go_sem] theorem e7m:L.env.bytes 65 = 16:=by kernel_rfl
@[go_sem] theorem e7l:L.env.bytes 66 = 1:=by kernel_rfl
@[go_sem] theorem e7k:L.env.bytes 68 = 40:=by kernel_rfl
@[go_sem] theorem e7j:L.env.bytes 81 = 48:=by kernel_rfl
@[go_sem] theorem e3d:L.env.bytes 120 = 24:=by kernel_rfl
@[go_sem] theorem e3c:L.env.bytes 127 = 8:=by kernel_rfl
@[go_sem] theorem e3b:L.env.bytes 155 = 24:=by kernel_rfl
@[go_sem] theorem d8v:L.env.bytes 159 = 16:=by kernel_rfl
@[go_sem] theorem is3:isT L.env 3 = true:=by kernel_rfl
@[go_sem] theorem sz3:L.env.sz 3 = 1:=by kernel_rfl
@[go_sem] theorem ag3:a6f L.env 3 = some false:=by kernel_rfl
@[go_sem] theorem in3:c2t L.env 3 = some .i64:=by kernel_rfl
@[go_sem] theorem ze3:L.env.zero 3 = some [.int .i64 0]:=by kernel_rfl
@[go_sem] theorem is4:isT L.env 4 = true:=by kernel_rfl
@[go_sem] theorem sz4:L.env.sz 4 = 1:=by kernel_rfl
@[go_sem] theorem ag4:a6f L.env 4 = some false:=by kernel_rfl
@[go_sem] theorem un4:L.env.und 4 = some .bool:=by kernel_rfl
@[go_sem] theorem ze4:L.env.zero 4 = some [.bool false]:=by kernel_rfl
@[go_sem] theorem is5:isT L.env 5 = true:=by kernel_rfl
@[go_sem] theorem sz5:L.env.sz 5 = 1:=by kernel_rfl
@[go_sem] theorem ag5:a6f L.env 5 = some false:=by kernel_rfl
@[go_sem] theorem in5:c2t L.env 5 = some .u8:=by kernel_rfl
@[go_sem] theorem ze5:L.env.zero 5 = some [.int .u8 0]:=by kernel_rfl
@[go_sem] theorem is9:isT L.env 9 = true:=by kernel_rfl
@[go_sem] theorem sz9:L.env.sz 9 = 1:=by kernel_rfl
@[go_sem] theorem ag9:a6f L.env 9 = some false:=by kernel_rfl
@[go_sem] theorem ze9:L.env.zero 9 = some [.str []]:=by kernel_rfl
@[go_sem] theorem f03:isT L.env 22 = true:=by kernel_rfl
@[go_sem] theorem ar22:b90 L.env 22 = some (2,5):=by kernel_rfl
@[go_sem] theorem ar23:b90 L.env 23 = some (4,5):=by kernel_rfl
@[go_sem] theorem f02:isT L.env 24 = true:=by kernel_rfl
@[go_sem] theorem e90:L.env.sz 24 = 1:=by kernel_rfl
@[go_sem] theorem f1f:a6f L.env 24 = some false:=by kernel_rfl
@[go_sem] theorem st24:slT L.env 24 = some 115:=by kernel_rfl
@[go_sem] theorem f01:isT L.env 25 = true:=by kernel_rfl
@[go_sem] theorem e8z:L.env.sz 25 = 1:=by kernel_rfl
@[go_sem] theorem f1e:a6f L.env 25 = some false:=by kernel_rfl
@[go_sem] theorem st25:slT L.env 25 = some 5:=by kernel_rfl
@[go_sem] theorem f07:byT L.env 25 9 = true:=by kernel_rfl
@[go_sem] theorem f00:isT L.env 27 = true:=by kernel_rfl
@[go_sem] theorem e8y:L.env.sz 27 = 12:=by kernel_rfl
@[go_sem] theorem f1d:a6f L.env 27 = some true:=by kernel_rfl
theorem ft27:a8e L.env 27 = some [5,5,22,4,4,23,24,25]:=by kernel_rfl
@[go_sem] theorem e5q:a50 L.env 27 0 = some (0,5):=by kernel_rfl
@[go_sem] theorem e5p:a50 L.env 27 1 = some (1,5):=by kernel_rfl
@[go_sem] theorem e5o:a50 L.env 27 2 = some (2,22):=by kernel_rfl
@[go_sem] theorem e5n:a50 L.env 27 3 = some (4,4):=by kernel_rfl
@[go_sem] theorem e5m:a50 L.env 27 4 = some (5,4):=by kernel_rfl
@[go_sem] theorem e5l:a50 L.env 27 6 = some (10,24):=by kernel_rfl
@[go_sem] theorem e5k:a50 L.env 27 7 = some (11,25):=by kernel_rfl
@[go_sem] theorem e9z:isT L.env 28 = true:=by kernel_rfl
@[go_sem] theorem e8x:L.env.sz 28 = 1:=by kernel_rfl
@[go_sem] theorem f1c:a6f L.env 28 = some false:=by kernel_rfl
@[go_sem] theorem st28:slT L.env 28 = some 71:=by kernel_rfl
@[go_sem] theorem e9y:isT L.env 29 = true:=by kernel_rfl
@[go_sem] theorem e8w:L.env.sz 29 = 1:=by kernel_rfl
@[go_sem] theorem f1b:a6f L.env 29 = some false:=by kernel_rfl
@[go_sem] theorem st29:slT L.env 29 = some 74:=by kernel_rfl
@[go_sem] theorem e8v:L.env.sz 31 = 14:=by kernel_rfl
@[go_sem] theorem ag31:a6f L.env 31 = some true:=by kernel_rfl
theorem ft31:a8e L.env 31 = some [27,28,29]:=by kernel_rfl
@[go_sem] theorem e5j:a50 L.env 31 0 = some (0,27):=by kernel_rfl
@[go_sem] theorem e5i:a50 L.env 31 1 = some (12,28):=by kernel_rfl
@[go_sem] theorem e5h:a50 L.env 31 2 = some (13,29):=by kernel_rfl
@[go_sem] theorem e9x:isT L.env 32 = true:=by kernel_rfl
@[go_sem] theorem e8u:L.env.sz 32 = 1:=by kernel_rfl
@[go_sem] theorem f1a:a6f L.env 32 = some false:=by kernel_rfl
@[go_sem] theorem e98:slT L.env 32 = some 81:=by kernel_rfl
@[go_sem] theorem f0j:apT L.env 32 32 = some 81:=by kernel_rfl
@[go_sem] theorem e9e {k:Nat} (h:(k ≤ 1000000000) = True):a2d L.env 81 k = true:=a78 (of_eq_true h) (by rw [e7j];decide)
@[go_sem] theorem e9w:isT L.env 33 = true:=by kernel_rfl
@[go_sem] theorem e8t:L.env.sz 33 = 1:=by kernel_rfl
@[go_sem] theorem f0z:a6f L.env 33 = some false:=by kernel_rfl
@[go_sem] theorem e97:slT L.env 33 = some 9:=by kernel_rfl
@[go_sem] theorem f0i:apT L.env 33 33 = some 9:=by kernel_rfl
@[go_sem] theorem e9d {k:Nat} (h:(k ≤ 1000000000) = True):a2d L.env 9 k = true:=a78 (of_eq_true h) (by rw [by9];decide)
@[go_sem] theorem e9v:isT L.env 34 = true:=by kernel_rfl
@[go_sem] theorem e8s:L.env.sz 34 = 1:=by kernel_rfl
@[go_sem] theorem f0y:a6f L.env 34 = some false:=by kernel_rfl
@[go_sem] theorem e96:slT L.env 34 = some 117:=by kernel_rfl
@[go_sem] theorem e9u:isT L.env 35 = true:=by kernel_rfl
@[go_sem] theorem e8r:L.env.sz 35 = 1:=by kernel_rfl
@[go_sem] theorem f0x:a6f L.env 35 = some false:=by kernel_rfl
@[go_sem] theorem e95:slT L.env 35 = some 3:=by kernel_rfl
@[go_sem] theorem f0h:apT L.env 35 35 = some 3:=by kernel_rfl
@[go_sem] theorem e9c {k:Nat} (h:(k ≤ 1000000000) = True):a2d L.env 3 k = true:=a78 (of_eq_true h) (by rw [by3];decide)
@[go_sem] theorem e9g {k:Nat} (h:(k ≤ 1000000000) = True):b9v L.env 3 (k:Int) (k:Int) = true:=a4a (of_eq_true h) (by rw [by3];decide)
@[go_sem] theorem e8d:L.env.zero 35 = some [.nilslice]:=by kernel_rfl
@[go_sem] theorem e9t:isT L.env 37 = true:=by kernel_rfl
@[go_sem] theorem e8q:L.env.sz 37 = 4:=by kernel_rfl
@[go_sem] theorem f0w:a6f L.env 37 = some true:=by kernel_rfl
@[go_sem] theorem e5g:a50 L.env 37 0 = some (0,32):=by kernel_rfl
@[go_sem] theorem e5f:a50 L.env 37 1 = some (1,33):=by kernel_rfl
@[go_sem] theorem e5e:a50 L.env 37 2 = some (2,34):=by kernel_rfl
@[go_sem] theorem e5d:a50 L.env 37 3 = some (3,35):=by kernel_rfl
@[go_sem] theorem e8c:L.env.zero 37 = some [.nilslice,.nilslice,.nilslice,.nilslice]:=by kernel_rfl
@[go_sem] theorem e94:slT L.env 38 = some 68:=by kernel_rfl
@[go_sem] theorem f0g:apT L.env 38 38 = some 68:=by kernel_rfl
@[go_sem] theorem e9b {k:Nat} (h:(k ≤ 1000000000) = True):a2d L.env 68 k = true:=a78 (of_eq_true h) (by rw [e7k];decide)
@[go_sem] theorem e93:slT L.env 39 = some 50:=by kernel_rfl
@[go_sem] theorem f0f:apT L.env 39 39 = some 50:=by kernel_rfl
@[go_sem] theorem e9a {k:Nat} (h:(k ≤ 1000000000) = True):a2d L.env 50 k = true:=a78 (of_eq_true h) (by rw [e7n];decide)
@[go_sem] theorem e9s:isT L.env 43 = true:=by kernel_rfl
@[go_sem] theorem e8p:L.env.sz 43 = 3:=by kernel_rfl
@[go_sem] theorem f0v:a6f L.env 43 = some true:=by kernel_rfl
@[go_sem] theorem f0c:d0b L.env 43 = true:=by kernel_rfl
@[go_sem] theorem e5c:a50 L.env 43 0 = some (0,35):=by kernel_rfl
@[go_sem] theorem e49:b2u L.env 43 0 = some (0,1):=by kernel_rfl
@[go_sem] theorem e5b:a50 L.env 43 1 = some (1,35):=by kernel_rfl
@[go_sem] theorem e48:b2u L.env 43 1 = some (1,1):=by kernel_rfl
@[go_sem] theorem e5a:a50 L.env 43 2 = some (2,3):=by kernel_rfl
@[go_sem] theorem e47:b2u L.env 43 2 = some (2,1):=by kernel_rfl
@[go_sem] theorem e8b:L.env.zero 43 = some [.nilslice,.nilslice,.int .i64 0]:=by kernel_rfl
@[go_sem] theorem e9r:isT L.env 48 = true:=by kernel_rfl
@[go_sem] theorem e8o:L.env.sz 48 = 1:=by kernel_rfl
@[go_sem] theorem f0u:a6f L.env 48 = some false:=by kernel_rfl
@[go_sem] theorem e92:slT L.env 48 = some 66:=by kernel_rfl
@[go_sem] theorem f0e:apT L.env 48 48 = some 66:=by kernel_rfl
@[go_sem] theorem e99 {k:Nat} (h:(k ≤ 1000000000) = True):a2d L.env 66 k = true:=a78 (of_eq_true h) (by rw [e7l];decide)
@[go_sem] theorem e9q:isT L.env 50 = true:=by kernel_rfl
@[go_sem] theorem e8n:L.env.sz 50 = 2:=by kernel_rfl
@[go_sem] theorem f0t:a6f L.env 50 = some true:=by kernel_rfl
@[go_sem] theorem f0b:d0b L.env 50 = true:=by kernel_rfl
@[go_sem] theorem e59:a50 L.env 50 0 = some (0,48):=by kernel_rfl
@[go_sem] theorem e46:b2u L.env 50 0 = some (0,1):=by kernel_rfl
@[go_sem] theorem e58:a50 L.env 50 1 = some (1,48):=by kernel_rfl
@[go_sem] theorem e45:b2u L.env 50 1 = some (1,1):=by kernel_rfl
@[go_sem] theorem e8a:L.env.zero 50 = some [.nilslice,.nilslice]:=by kernel_rfl
@[go_sem] theorem e9p:isT L.env 63 = true:=by kernel_rfl
@[go_sem] theorem e8m:L.env.sz 63 = 1:=by kernel_rfl
@[go_sem] theorem f0s:a6f L.env 63 = some false:=by kernel_rfl
@[go_sem] theorem e9o:isT L.env 65 = true:=by kernel_rfl
@[go_sem] theorem e8l:L.env.sz 65 = 2:=by kernel_rfl
@[go_sem] theorem f0r:a6f L.env 65 = some true:=by kernel_rfl
@[go_sem] theorem f0a:d0b L.env 65 = true:=by kernel_rfl
@[go_sem] theorem e57:a50 L.env 65 0 = some (0,3):=by kernel_rfl
@[go_sem] theorem e44:b2u L.env 65 0 = some (0,1):=by kernel_rfl
@[go_sem] theorem e56:a50 L.env 65 1 = some (1,3):=by kernel_rfl
@[go_sem] theorem e43:b2u L.env 65 1 = some (1,1):=by kernel_rfl
@[go_sem] theorem e89:L.env.zero 65 = some [.int .i64 0,.int .i64 0]:=by kernel_rfl
@[go_sem] theorem e9n:isT L.env 66 = true:=by kernel_rfl
@[go_sem] theorem e8k:L.env.sz 66 = 1:=by kernel_rfl
@[go_sem] theorem f0q:a6f L.env 66 = some false:=by kernel_rfl
@[go_sem] theorem e88:L.env.zero 66 = some [.int .u8 0]:=by kernel_rfl
@[go_sem] theorem e9m:isT L.env 68 = true:=by kernel_rfl
@[go_sem] theorem e8j:L.env.sz 68 = 5:=by kernel_rfl
@[go_sem] theorem f0p:a6f L.env 68 = some true:=by kernel_rfl
@[go_sem] theorem f09:d0b L.env 68 = true:=by kernel_rfl
@[go_sem] theorem e55:a50 L.env 68 0 = some (0,63):=by kernel_rfl
@[go_sem] theorem e42:b2u L.env 68 0 = some (0,1):=by kernel_rfl
@[go_sem] theorem e54:a50 L.env 68 1 = some (1,65):=by kernel_rfl
@[go_sem] theorem e41:b2u L.env 68 1 = some (1,2):=by kernel_rfl
@[go_sem] theorem e53:a50 L.env 68 2 = some (3,66):=by kernel_rfl
@[go_sem] theorem e52:a50 L.env 68 3 = some (4,3):=by kernel_rfl
@[go_sem] theorem e87:L.env.zero 68 = some [.int .u8 0,.int .i64 0,.int .i64 0,.int .u8 0,.int .i64 0]:=by kernel_rfl
@[go_sem] theorem e9l:isT L.env 71 = true:=by kernel_rfl
@[go_sem] theorem e8i:L.env.sz 71 = 5:=by kernel_rfl
@[go_sem] theorem f0o:a6f L.env 71 = some true:=by kernel_rfl
theorem ft71:a8e L.env 71 = some [5,5,5,5,4]:=by kernel_rfl
@[go_sem] theorem e51:a50 L.env 71 0 = some (0,5):=by kernel_rfl
@[go_sem] theorem e50:a50 L.env 71 1 = some (1,5):=by kernel_rfl
@[go_sem] theorem e4z:a50 L.env 71 2 = some (2,5):=by kernel_rfl
@[go_sem] theorem e4y:a50 L.env 71 3 = some (3,5):=by kernel_rfl
@[go_sem] theorem e4x:a50 L.env 71 4 = some (4,4):=by kernel_rfl
@[go_sem] theorem e86:L.env.zero 71 = some [.int .u8 0,.int .u8 0,.int .u8 0,.int .u8 0,.bool false]:=by kernel_rfl
@[go_sem] theorem e9k:isT L.env 74 = true:=by kernel_rfl
@[go_sem] theorem e8h:L.env.sz 74 = 2:=by kernel_rfl
@[go_sem] theorem f0n:a6f L.env 74 = some true:=by kernel_rfl
theorem ft74:a8e L.env 74 = some [25,25]:=by kernel_rfl
@[go_sem] theorem e4w:a50 L.env 74 0 = some (0,25):=by kernel_rfl
@[go_sem] theorem e4v:a50 L.env 74 1 = some (1,25):=by kernel_rfl
@[go_sem] theorem e9j:isT L.env 79 = true:=by kernel_rfl
@[go_sem] theorem e8g:L.env.sz 79 = 1:=by kernel_rfl
@[go_sem] theorem f0m:a6f L.env 79 = some false:=by kernel_rfl
@[go_sem] theorem f04:c2t L.env 79 = some .u8:=by kernel_rfl
@[go_sem] theorem e85:L.env.zero 79 = some [.int .u8 0]:=by kernel_rfl
@[go_sem] theorem e9i:isT L.env 81 = true:=by kernel_rfl
@[go_sem] theorem e8f:L.env.sz 81 = 4:=by kernel_rfl
@[go_sem] theorem f0l:a6f L.env 81 = some true:=by kernel_rfl
@[go_sem] theorem f08:d0b L.env 81 = true:=by kernel_rfl
@[go_sem] theorem e4u:a50 L.env 81 0 = some (0,79):=by kernel_rfl
@[go_sem] theorem e40:b2u L.env 81 0 = some (0,1):=by kernel_rfl
@[go_sem] theorem e4t:a50 L.env 81 1 = some (1,35):=by kernel_rfl
@[go_sem] theorem e3z:b2u L.env 81 1 = some (1,1):=by kernel_rfl
@[go_sem] theorem e4s:a50 L.env 81 2 = some (2,3):=by kernel_rfl
@[go_sem] theorem e4r:a50 L.env 81 3 = some (3,3):=by kernel_rfl
@[go_sem] theorem e84:L.env.zero 81 = some [.int .u8 0,.nilslice,.int .i64 0,.int .i64 0]:=by kernel_rfl
@[go_sem] theorem e9h:isT L.env 91 = true:=by kernel_rfl
@[go_sem] theorem e8e:L.env.sz 91 = 1:=by kernel_rfl
@[go_sem] theorem f0k:a6f L.env 91 = some false:=by kernel_rfl
@[go_sem] theorem e91:slT L.env 91 = some 120:=by kernel_rfl
@[go_sem] theorem e9f {k:Nat} (h:(k ≤ 1000000000) = True):b9v L.env 120 (k:Int) (k:Int) = true:=a4a (of_eq_true h) (by rw [e3d];decide)
@[go_sem] theorem e83:L.env.zero 91 = some [.nilslice]:=by kernel_rfl
@[go_sem] theorem e7b:isT L.env 113 = true:=by kernel_rfl
@[go_sem] theorem ar113:b90 L.env 113 = some (3,5):=by kernel_rfl
@[go_sem] theorem e7a:isT L.env 115 = true:=by kernel_rfl
@[go_sem] theorem e69:L.env.sz 115 = 4:=by kernel_rfl
@[go_sem] theorem e82:a6f L.env 115 = some true:=by kernel_rfl
theorem ft115:a8e L.env 115 = some [5,113]:=by kernel_rfl
@[go_sem] theorem e30:a50 L.env 115 0 = some (0,5):=by kernel_rfl
@[go_sem] theorem e2z:a50 L.env 115 1 = some (1,113):=by kernel_rfl
@[go_sem] theorem e79:isT L.env 120 = true:=by kernel_rfl
@[go_sem] theorem e68:L.env.sz 120 = 1:=by kernel_rfl
@[go_sem] theorem e81:a6f L.env 120 = some false:=by kernel_rfl
@[go_sem] theorem e6g:slT L.env 120 = some 127:=by kernel_rfl
@[go_sem] theorem e6w {k:Nat} (h:(k ≤ 1000000000) = True):b9v L.env 127 (k:Int) (k:Int) = true:=a4a (of_eq_true h) (by rw [e3c];decide)
@[go_sem] theorem e5z:L.env.zero 120 = some [.nilslice]:=by kernel_rfl
@[go_sem] theorem e78:isT L.env 121 = true:=by kernel_rfl
@[go_sem] theorem e67:L.env.sz 121 = 1:=by kernel_rfl
@[go_sem] theorem e80:a6f L.env 121 = some false:=by kernel_rfl
@[go_sem] theorem e77:isT L.env 122 = true:=by kernel_rfl
@[go_sem] theorem e66:L.env.sz 122 = 1:=by kernel_rfl
@[go_sem] theorem e7z:a6f L.env 122 = some false:=by kernel_rfl
@[go_sem] theorem e76:isT L.env 124 = true:=by kernel_rfl
@[go_sem] theorem e65:L.env.sz 124 = 9:=by kernel_rfl
@[go_sem] theorem e7y:a6f L.env 124 = some true:=by kernel_rfl
@[go_sem] theorem e7p:d0b L.env 124 = true:=by kernel_rfl
@[go_sem] theorem e2y:a50 L.env 124 0 = some (0,37):=by kernel_rfl
@[go_sem] theorem e20:b2u L.env 124 0 = some (0,4):=by kernel_rfl
@[go_sem] theorem e2x:a50 L.env 124 1 = some (4,35):=by kernel_rfl
@[go_sem] theorem e1z:b2u L.env 124 1 = some (4,1):=by kernel_rfl
@[go_sem] theorem e2w:a50 L.env 124 2 = some (5,35):=by kernel_rfl
@[go_sem] theorem e1y:b2u L.env 124 2 = some (5,1):=by kernel_rfl
@[go_sem] theorem e2v:a50 L.env 124 3 = some (6,35):=by kernel_rfl
@[go_sem] theorem e1x:b2u L.env 124 3 = some (6,1):=by kernel_rfl
@[go_sem] theorem e2u:a50 L.env 124 4 = some (7,121):=by kernel_rfl
@[go_sem] theorem e1w:b2u L.env 124 4 = some (7,1):=by kernel_rfl
@[go_sem] theorem e2t:a50 L.env 124 5 = some (8,122):=by kernel_rfl
@[go_sem] theorem e1v:b2u L.env 124 5 = some (8,1):=by kernel_rfl
@[go_sem] theorem e5y:L.env.zero 124 = some [.nilslice,.nilslice,.nilslice,.nilslice,.nilslice,.nilslice,.nilslice,.nilfunc,.nilfunc]:=by kernel_rfl
@[go_sem] theorem e75:isT L.env 127 = true:=by kernel_rfl
@[go_sem] theorem e64:L.env.sz 127 = 1:=by kernel_rfl
@[go_sem] theorem e7x:a6f L.env 127 = some false:=by kernel_rfl
@[go_sem] theorem e5x:L.env.zero 127 = some [.int .u64 0]:=by kernel_rfl
@[go_sem] theorem e74:isT L.env 134 = true:=by kernel_rfl
@[go_sem] theorem e7g:c2t L.env 134 = some .u64:=by kernel_rfl
@[go_sem] theorem e73:isT L.env 155 = true:=by kernel_rfl
@[go_sem] theorem e63:L.env.sz 155 = 1:=by kernel_rfl
@[go_sem] theorem e7w:a6f L.env 155 = some false:=by kernel_rfl
@[go_sem] theorem e6f:slT L.env 155 = some 65:=by kernel_rfl
@[go_sem] theorem e7u:apT L.env 155 155 = some 65:=by kernel_rfl
@[go_sem] theorem e6j {k:Nat} (h:(k ≤ 1000000000) = True):a2d L.env 65 k = true:=a78 (of_eq_true h) (by rw [e7m];decide)
@[go_sem] theorem e5w:L.env.zero 155 = some [.nilslice]:=by kernel_rfl
@[go_sem] theorem e72:isT L.env 159 = true:=by kernel_rfl
@[go_sem] theorem e62:L.env.sz 159 = 2:=by kernel_rfl
@[go_sem] theorem e7v:a6f L.env 159 = some true:=by kernel_rfl
@[go_sem] theorem e7o:d0b L.env 159 = true:=by kernel_rfl
@[go_sem] theorem e2s:a50 L.env 159 0 = some (0,127):=by kernel_rfl
@[go_sem] theorem e1u:b2u L.env 159 0 = some (0,1):=by kernel_rfl
@[go_sem] theorem e2r:a50 L.env 159 1 = some (1,127):=by kernel_rfl
@[go_sem] theorem e1t:b2u L.env 159 1 = some (1,1):=by kernel_rfl
@[go_sem] theorem e5v:L.env.zero 159 = some [.int .u64 0,.int .u64 0]:=by kernel_rfl
@[go_sem] theorem e6e:slT L.env 160 = some 159:=by kernel_rfl
@[go_sem] theorem e7t:apT L.env 160 160 = some 159:=by kernel_rfl
@[go_sem] theorem e6i {k:Nat} (h:(k ≤ 1000000000) = True):a2d L.env 159 k = true:=a78 (of_eq_true h) (by rw [d8v];decide)
@[go_sem] theorem e6v {k:Nat} (h:(k ≤ 1000000000) = True):b9v L.env 159 (k:Int) (k:Int) = true:=a4a (of_eq_true h) (by rw [d8v];decide)
@[go_sem] theorem e6d:slT L.env 181 = some 4:=by kernel_rfl
@[go_sem] theorem e6u {k:Nat} (h:(k ≤ 1000000000) = True):b9v L.env 4 (k:Int) (k:Int) = true:=a4a (of_eq_true h) (by rw [by4];decide)
@[go_sem] theorem e6c:slT L.env 207 = some 155:=by kernel_rfl
@[go_sem] theorem e6t {k:Nat} (h:(k ≤ 1000000000) = True):b9v L.env 155 (k:Int) (k:Int) = true:=a4a (of_eq_true h) (by rw [e3b];decide)
@[go_sem] theorem e6b:slT L.env 210 = some 79:=by kernel_rfl
@[go_sem] theorem e71:isT L.env 213 = true:=by kernel_rfl
@[go_sem] theorem e61:L.env.sz 213 = 2:=by kernel_rfl
@[go_sem] theorem e7s:b90 L.env 213 = some (2,3):=by kernel_rfl
@[go_sem] theorem e7r:b90 L.env 214 = some (16,213):=by kernel_rfl
@[go_sem] theorem e7q:b90 L.env 221 = some (4,159):=by kernel_rfl
end Go.MInst
