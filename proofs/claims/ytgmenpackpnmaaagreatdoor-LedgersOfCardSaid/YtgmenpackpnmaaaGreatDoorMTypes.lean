/- Type facts (printed by AxTypes). -/
import Derived.Test.YtgmenpackpnmaaaGreatDoorMInst
import Derived.Test.YtgmenpackpnmaaaGreatDoorAxE
set_option linter.unusedSimpArgs false
set_option linter.unusedVariables false
namespace Go.MInst
open Go.Proofs Go.Ax
@[go_sem] theorem roF (g:FuncId):L.env.ro g = decide (g = 75 ∨ g = 76):=by rfl
@[go_sem] theorem f2c (g:FuncId):L.env.thaw g = decide (g = 44 ∨ g = 70 ∨ g = 32 ∨ g = 54 ∨ g = 39 ∨ g = 24):=by rfl
@[go_sem] theorem kp7_0:L.env.keep 7 0 = [3,4,5,6,8]:=by kernel_rfl
@[go_sem] theorem kp7_2:L.env.keep 7 2 = [3,4,5,6,8,9,10,11]:=by kernel_rfl
@[go_sem] theorem kp8_0:L.env.keep 8 0 = [1,2,5,6,7]:=by kernel_rfl
@[go_sem] theorem kp8_2:L.env.keep 8 2 = [1,2,5,6,9,10]:=by kernel_rfl
@[go_sem] theorem kp21_0:L.env.keep 21 0 = [1,2,4,7,8,9,10,25,26]:=by kernel_rfl
@[go_sem] theorem kp21_2:L.env.keep 21 2 = [1,2,4,7,8,9,10,38,39]:=by kernel_rfl
@[go_sem] theorem kp21_4:L.env.keep 21 4 = [1,2,4,7,8,9,10,13,14,15,38,39,61,62,63]:=by kernel_rfl
@[go_sem] theorem kp27_0:L.env.keep 27 0 = [1,2,3,4]:=by kernel_rfl
@[go_sem] theorem kp27_2:L.env.keep 27 2 = [1,2,3,5,6,7]:=by kernel_rfl
@[go_sem] theorem kp27_4:L.env.keep 27 4 = [1,2,3,5,6,8]:=by kernel_rfl
@[go_sem] theorem kp27_6:L.env.keep 27 6 = [1,2,3,5,6,9,10]:=by kernel_rfl
@[go_sem] theorem kp27_8:L.env.keep 27 8 = [1,2,3,9,11]:=by kernel_rfl
@[go_sem] theorem kp27_10:L.env.keep 27 10 = [1,2,3,9,12]:=by kernel_rfl
@[go_sem] theorem kp29_0:L.env.keep 29 0 = [0,1,2,7,8]:=by kernel_rfl
@[go_sem] theorem kp30_0:L.env.keep 30 0 = [1,2,5,6]:=by kernel_rfl
@[go_sem] theorem kp31_0:L.env.keep 31 0 = [1,2,3,9,24,25]:=by kernel_rfl
@[go_sem] theorem kp31_2:L.env.keep 31 2 = [1,2,9,11,12]:=by kernel_rfl
@[go_sem] theorem kp33_0:L.env.keep 33 0 = [0,5,11,12,13]:=by kernel_rfl
@[go_sem] theorem kp34_0:L.env.keep 34 0 = [0,1,2,4,5,13,14]:=by kernel_rfl
@[go_sem] theorem kp37_0:L.env.keep 37 0 = [0,1,5,6]:=by kernel_rfl
@[go_sem] theorem kp43_0:L.env.keep 43 0 = [4,9,10,40,41,42]:=by kernel_rfl
@[go_sem] theorem kp43_2:L.env.keep 43 2 = [4,9,10,12,13,40,41,42,59,60,61]:=by kernel_rfl
@[go_sem] theorem kp45_0:L.env.keep 45 0 = [0,3,4,5,41,42,43]:=by kernel_rfl
@[go_sem] theorem kp45_2:L.env.keep 45 2 = [0,3,4,5,60,61,62]:=by kernel_rfl
@[go_sem] theorem kp45_4:L.env.keep 45 4 = [0,4,5,12,89,90,91]:=by kernel_rfl
@[go_sem] theorem kp45_6:L.env.keep 45 6 = [0,4,5,16,143,144,145]:=by kernel_rfl
@[go_sem] theorem kp45_8:L.env.keep 45 8 = [0,4,16,162,163,164]:=by kernel_rfl
@[go_sem] theorem kp47_0:L.env.keep 47 0 = [2,3,4,6,7,8,9,10,11,12]:=by kernel_rfl
@[go_sem] theorem kp49_0:L.env.keep 49 0 = [1,2,3,4,9]:=by kernel_rfl
@[go_sem] theorem kp50_0:L.env.keep 50 0 = [2,3,31,32,33]:=by kernel_rfl
@[go_sem] theorem kp50_2:L.env.keep 50 2 = [3,47,48,49]:=by kernel_rfl
@[go_sem] theorem kp52_0:L.env.keep 52 0 = [1,2,3,4,8,9,10,11,34,35]:=by kernel_rfl
@[go_sem] theorem kp54_0:L.env.keep 54 0 = [7,8]:=by kernel_rfl
@[go_sem] theorem kp55_0:L.env.keep 55 0 = [0,1,7,8]:=by kernel_rfl
@[go_sem] theorem kp61_0:L.env.keep 61 0 = [4,6,21,22]:=by kernel_rfl
@[go_sem] theorem kp63_0:L.env.keep 63 0 = [2,3,10,11,12]:=by kernel_rfl
@[go_sem] theorem kp63_2:L.env.keep 63 2 = [2,3,29,30,31]:=by kernel_rfl
@[go_sem] theorem kp66_0:L.env.keep 66 0 = [1,2,3,12,13,14]:=by kernel_rfl
@[go_sem] theorem kp66_2:L.env.keep 66 2 = [1,2,3,29,30,31]:=by kernel_rfl
@[go_sem] theorem kp76_0:L.env.keep 76 0 = [0,1,5,16,17,18]:=by kernel_rfl
@[go_sem] theorem kp78_0:L.env.keep 78 0 = [0,1,5,11,12]:=by kernel_rfl
@[go_sem] theorem kp79_0:L.env.keep 79 0 = [5,15,16,17]:=by kernel_rfl
@[go_sem] theorem kp79_2:L.env.keep 79 2 = [5,6,15,16,17,25,26]:=by kernel_rfl
@[go_sem] theorem kp83_0:L.env.keep 83 0 = [0,2,7,14,15]:=by kernel_rfl
@[go_sem] theorem kp83_2:L.env.keep 83 2 = [0,2,7,8,14,15,18,19,20]:=by kernel_rfl
@[go_sem] theorem kp86_0:L.env.keep 86 0 = [1,2,3,6,7,25,26,27]:=by kernel_rfl
@[go_sem] theorem kp86_2:L.env.keep 86 2 = [2,3,6,7,41,42,43]:=by kernel_rfl
@[go_sem] theorem kp86_4:L.env.keep 86 4 = [3,6,7,57,58,59]:=by kernel_rfl
@[go_sem] theorem kp86_6:L.env.keep 86 6 = [3,6,7,99,100,101]:=by kernel_rfl
@[go_sem] theorem kp86_8:L.env.keep 86 8 = [3,6,7,114,115,116]:=by kernel_rfl
@[go_sem] theorem kp88_0:L.env.keep 88 0 = [0,1,4,9,10]:=by kernel_rfl
@[go_sem] theorem kp102_0:L.env.keep 102 0 = [2,5,6]:=by kernel_rfl
@[go_sem] theorem kp102_2:L.env.keep 102 2 = [2,5,6,45,46,47]:=by kernel_rfl
@[go_sem] theorem kp103_0:L.env.keep 103 0 = [1,5,6,7,29,30,31]:=by kernel_rfl
@[go_sem] theorem kp103_2:L.env.keep 103 2 = [1,5,6,7,10,11]:=by kernel_rfl
@[go_sem] theorem kp103_4:L.env.keep 103 4 = [1,5,6,7,10,11,12,76,77,78]:=by kernel_rfl
@[go_sem] theorem kp107_0:L.env.keep 107 0 = [1,5,9,10,11]:=by kernel_rfl
@[go_sem] theorem kp115_0:L.env.keep 115 0 = [3,6,7,8]:=by kernel_rfl
@[go_sem] theorem kp126_0:L.env.keep 126 0 = [0,4,7,33,34,35]:=by kernel_rfl
@[go_sem] theorem kp127_0:L.env.keep 127 0 = [1,2,3,7,16,17,18]:=by kernel_rfl
@[go_sem] theorem kp140_1:L.env.keep 140 1 = [1,36,37,38]:=by kernel_rfl
@[go_sem] theorem kp140_3:L.env.keep 140 3 = [1,55,56,57]:=by kernel_rfl
@[go_sem] theorem kp141_0:L.env.keep 141 0 = [3,4,18,19,20]:=by kernel_rfl
@[go_sem] theorem kp141_2:L.env.keep 141 2 = [3,4,5,18,19,20,26,27,28]:=by kernel_rfl
@[go_sem] theorem kp141_4:L.env.keep 141 4 = [3,51,52,53]:=by kernel_rfl
@[go_sem] theorem kp142_0:L.env.keep 142 0 = [0,1,2,6,7,8]:=by kernel_rfl
@[go_sem] theorem kp142_2:L.env.keep 142 2 = [0,1,2,6]:=by kernel_rfl
@[go_sem] theorem kp144_0:L.env.keep 144 0 = [0,1,7,8]:=by kernel_rfl
@[go_sem] theorem kp146_0:L.env.keep 146 0 = [1,2,7,11,12,13]:=by kernel_rfl
@[go_sem] theorem kp151_0:L.env.keep 151 0 = [2,3,4,5,8,9,10]:=by kernel_rfl
@[go_sem] theorem kp154_0:L.env.keep 154 0 = [2,3,7,8,9]:=by kernel_rfl
@[go_sem] theorem kp155_0:L.env.keep 155 0 = [2,3,7,8,9]:=by kernel_rfl
@[go_sem] theorem kp156_0:L.env.keep 156 0 = [2,3,7,8,9]:=by kernel_rfl
@[go_sem] theorem kp161_0:L.env.keep 161 0 = [3,8,9,10]:=by kernel_rfl
@[go_sem] theorem kp165_0:L.env.keep 165 0 = [0,1,2,3,8]:=by kernel_rfl
@[go_sem] theorem kp165_2:L.env.keep 165 2 = [0,1,2,3,8,9]:=by kernel_rfl
@[go_sem] theorem kp167_0:L.env.keep 167 0 = [0,1,7,8]:=by kernel_rfl
@[go_sem] theorem kp175_0:L.env.keep 175 0 = [0,1,7,8]:=by kernel_rfl
@[go_sem] theorem by3:L.env.bytes 3 = 8:=by kernel_rfl
@[go_sem] theorem by4:L.env.bytes 4 = 1:=by kernel_rfl
@[go_sem] theorem by9:L.env.bytes 9 = 16:=by kernel_rfl
@[go_sem] theorem f4r:L.env.bytes 50 = 48:=by kernel_rfl
@[go_sem] theorem f4q:L.env.bytes 65 = 16:=by kernel_rfl
@[go_sem] theorem f1r:L.env.bytes 66 = 1:=by kernel_rfl
@[go_sem] theorem f4p:L.env.bytes 68 = 40:=by kernel_rfl
@[go_sem] theorem f4o:L.env.bytes 81 = 48:=by kernel_rfl
@[go_sem] theorem e8y:L.env.bytes 120 = 24:=by kernel_rfl
@[go_sem] theorem e8x:L.env.bytes 127 = 8:=by kernel_rfl
@[go_sem] theorem e8w:L.env.bytes 155 = 24:=by kernel_rfl
@[go_sem] theorem e44:L.env.bytes 159 = 16:=by kernel_rfl
@[go_sem] theorem is3:isT L.env 3 = true:=by kernel_rfl
@[go_sem] theorem sz3:L.env.sz 3 = 1:=by kernel_rfl
@[go_sem] theorem ag3:a6h L.env 3 = some false:=by kernel_rfl
@[go_sem] theorem in3:c8u L.env 3 = some .i64:=by kernel_rfl
@[go_sem] theorem ze3:L.env.zero 3 = some [.int .i64 0]:=by kernel_rfl
@[go_sem] theorem is4:isT L.env 4 = true:=by kernel_rfl
@[go_sem] theorem sz4:L.env.sz 4 = 1:=by kernel_rfl
@[go_sem] theorem ag4:a6h L.env 4 = some false:=by kernel_rfl
@[go_sem] theorem un4:L.env.und 4 = some .bool:=by kernel_rfl
@[go_sem] theorem ze4:L.env.zero 4 = some [.bool false]:=by kernel_rfl
@[go_sem] theorem is5:isT L.env 5 = true:=by kernel_rfl
@[go_sem] theorem sz5:L.env.sz 5 = 1:=by kernel_rfl
@[go_sem] theorem ag5:a6h L.env 5 = some false:=by kernel_rfl
@[go_sem] theorem in5:c8u L.env 5 = some .u8:=by kernel_rfl
@[go_sem] theorem ze5:L.env.zero 5 = some [.int .u8 0]:=by kernel_rfl
@[go_sem] theorem is9:isT L.env 9 = true:=by kernel_rfl
@[go_sem] theorem sz9:L.env.sz 9 = 1:=by kernel_rfl
@[go_sem] theorem ag9:a6h L.env 9 = some false:=by kernel_rfl
@[go_sem] theorem ze9:L.env.zero 9 = some [.str []]:=by kernel_rfl
@[go_sem] theorem f8l:isT L.env 22 = true:=by kernel_rfl
@[go_sem] theorem ar22:c1w L.env 22 = some (2,5):=by kernel_rfl
@[go_sem] theorem ar23:c1w L.env 23 = some (4,5):=by kernel_rfl
@[go_sem] theorem f8k:isT L.env 24 = true:=by kernel_rfl
@[go_sem] theorem f6w:L.env.sz 24 = 1:=by kernel_rfl
@[go_sem] theorem f9y:a6h L.env 24 = some false:=by kernel_rfl
@[go_sem] theorem st24:slT L.env 24 = some 115:=by kernel_rfl
@[go_sem] theorem f8j:isT L.env 25 = true:=by kernel_rfl
@[go_sem] theorem f6v:L.env.sz 25 = 1:=by kernel_rfl
@[go_sem] theorem f9x:a6h L.env 25 = some false:=by kernel_rfl
@[go_sem] theorem st25:slT L.env 25 = some 5:=by kernel_rfl
@[go_sem] theorem f8p:byT L.env 25 9 = true:=by kernel_rfl
@[go_sem] theorem f8i:isT L.env 27 = true:=by kernel_rfl
@[go_sem] theorem f6u:L.env.sz 27 = 12:=by kernel_rfl
@[go_sem] theorem f9w:a6h L.env 27 = some true:=by kernel_rfl
theorem ft27:a9h L.env 27 = some [5,5,22,4,4,23,24,25]:=by kernel_rfl
@[go_sem] theorem f1p:a4n L.env 27 0 = some (0,5):=by kernel_rfl
@[go_sem] theorem f1o:a4n L.env 27 1 = some (1,5):=by kernel_rfl
@[go_sem] theorem f1n:a4n L.env 27 2 = some (2,22):=by kernel_rfl
@[go_sem] theorem f1m:a4n L.env 27 3 = some (4,4):=by kernel_rfl
@[go_sem] theorem f1l:a4n L.env 27 4 = some (5,4):=by kernel_rfl
@[go_sem] theorem f1k:a4n L.env 27 6 = some (10,24):=by kernel_rfl
@[go_sem] theorem f1j:a4n L.env 27 7 = some (11,25):=by kernel_rfl
@[go_sem] theorem f8h:isT L.env 28 = true:=by kernel_rfl
@[go_sem] theorem f6t:L.env.sz 28 = 1:=by kernel_rfl
@[go_sem] theorem f9v:a6h L.env 28 = some false:=by kernel_rfl
@[go_sem] theorem st28:slT L.env 28 = some 71:=by kernel_rfl
@[go_sem] theorem f8g:isT L.env 29 = true:=by kernel_rfl
@[go_sem] theorem f6s:L.env.sz 29 = 1:=by kernel_rfl
@[go_sem] theorem f9u:a6h L.env 29 = some false:=by kernel_rfl
@[go_sem] theorem st29:slT L.env 29 = some 74:=by kernel_rfl
@[go_sem] theorem f6r:L.env.sz 31 = 14:=by kernel_rfl
@[go_sem] theorem ag31:a6h L.env 31 = some true:=by kernel_rfl
theorem ft31:a9h L.env 31 = some [27,28,29]:=by kernel_rfl
@[go_sem] theorem f1i:a4n L.env 31 0 = some (0,27):=by kernel_rfl
@[go_sem] theorem f1h:a4n L.env 31 1 = some (12,28):=by kernel_rfl
@[go_sem] theorem f1g:a4n L.env 31 2 = some (13,29):=by kernel_rfl
@[go_sem] theorem f8f:isT L.env 32 = true:=by kernel_rfl
@[go_sem] theorem f6q:L.env.sz 32 = 1:=by kernel_rfl
@[go_sem] theorem f9t:a6h L.env 32 = some false:=by kernel_rfl
@[go_sem] theorem f7e:slT L.env 32 = some 81:=by kernel_rfl
@[go_sem] theorem f9b:apT L.env 32 32 = some 81:=by kernel_rfl
@[go_sem] theorem f7k {k:Nat} (h:(k ≤ 1000000000) = True):a2v L.env 81 k = true:=a86 (of_eq_true h) (by rw [f4o];decide)
@[go_sem] theorem f8e:isT L.env 33 = true:=by kernel_rfl
@[go_sem] theorem f6p:L.env.sz 33 = 1:=by kernel_rfl
@[go_sem] theorem f9s:a6h L.env 33 = some false:=by kernel_rfl
@[go_sem] theorem f7d:slT L.env 33 = some 9:=by kernel_rfl
@[go_sem] theorem f9a:apT L.env 33 33 = some 9:=by kernel_rfl
@[go_sem] theorem f7j {k:Nat} (h:(k ≤ 1000000000) = True):a2v L.env 9 k = true:=a86 (of_eq_true h) (by rw [by9];decide)
@[go_sem] theorem f8d:isT L.env 34 = true:=by kernel_rfl
@[go_sem] theorem f6o:L.env.sz 34 = 1:=by kernel_rfl
@[go_sem] theorem f9r:a6h L.env 34 = some false:=by kernel_rfl
@[go_sem] theorem f7c:slT L.env 34 = some 117:=by kernel_rfl
@[go_sem] theorem f8c:isT L.env 35 = true:=by kernel_rfl
@[go_sem] theorem f6n:L.env.sz 35 = 1:=by kernel_rfl
@[go_sem] theorem f9q:a6h L.env 35 = some false:=by kernel_rfl
@[go_sem] theorem f7b:slT L.env 35 = some 3:=by kernel_rfl
@[go_sem] theorem f8z:apT L.env 35 35 = some 3:=by kernel_rfl
@[go_sem] theorem f7i {k:Nat} (h:(k ≤ 1000000000) = True):a2v L.env 3 k = true:=a86 (of_eq_true h) (by rw [by3];decide)
@[go_sem] theorem f7n {k:Nat} (h:(k ≤ 1000000000) = True):c1b L.env 3 (k:Int) (k:Int) = true:=a48 (of_eq_true h) (by rw [by3];decide)
@[go_sem] theorem f5y:L.env.zero 35 = some [.nilslice]:=by kernel_rfl
@[go_sem] theorem f8b:isT L.env 37 = true:=by kernel_rfl
@[go_sem] theorem f6m:L.env.sz 37 = 4:=by kernel_rfl
@[go_sem] theorem f9p:a6h L.env 37 = some true:=by kernel_rfl
@[go_sem] theorem f1f:a4n L.env 37 0 = some (0,32):=by kernel_rfl
@[go_sem] theorem f1e:a4n L.env 37 1 = some (1,33):=by kernel_rfl
@[go_sem] theorem f1d:a4n L.env 37 2 = some (2,34):=by kernel_rfl
@[go_sem] theorem f1c:a4n L.env 37 3 = some (3,35):=by kernel_rfl
@[go_sem] theorem f5x:L.env.zero 37 = some [.nilslice,.nilslice,.nilslice,.nilslice]:=by kernel_rfl
@[go_sem] theorem f7a:slT L.env 38 = some 68:=by kernel_rfl
@[go_sem] theorem f8y:apT L.env 38 38 = some 68:=by kernel_rfl
@[go_sem] theorem f7h {k:Nat} (h:(k ≤ 1000000000) = True):a2v L.env 68 k = true:=a86 (of_eq_true h) (by rw [f4p];decide)
@[go_sem] theorem f6z:slT L.env 39 = some 50:=by kernel_rfl
@[go_sem] theorem f8x:apT L.env 39 39 = some 50:=by kernel_rfl
@[go_sem] theorem f7g {k:Nat} (h:(k ≤ 1000000000) = True):a2v L.env 50 k = true:=a86 (of_eq_true h) (by rw [f4r];decide)
@[go_sem] theorem f8a:isT L.env 43 = true:=by kernel_rfl
@[go_sem] theorem f6l:L.env.sz 43 = 3:=by kernel_rfl
@[go_sem] theorem f9o:a6h L.env 43 = some true:=by kernel_rfl
@[go_sem] theorem f8v:c62 L.env 43 = true:=by kernel_rfl
@[go_sem] theorem f1b:a4n L.env 43 0 = some (0,35):=by kernel_rfl
@[go_sem] theorem e9v:b0s L.env 43 0 = some (0,1):=by kernel_rfl
@[go_sem] theorem f1a:a4n L.env 43 1 = some (1,35):=by kernel_rfl
@[go_sem] theorem e9u:b0s L.env 43 1 = some (1,1):=by kernel_rfl
@[go_sem] theorem f0z:a4n L.env 43 2 = some (2,3):=by kernel_rfl
@[go_sem] theorem e9t:b0s L.env 43 2 = some (2,1):=by kernel_rfl
@[go_sem] theorem f5w:L.env.zero 43 = some [.nilslice,.nilslice,.int .i64 0]:=by kernel_rfl
@[go_sem] theorem f7z:isT L.env 48 = true:=by kernel_rfl
@[go_sem] theorem f6k:L.env.sz 48 = 1:=by kernel_rfl
@[go_sem] theorem f9n:a6h L.env 48 = some false:=by kernel_rfl
@[go_sem] theorem f6y:slT L.env 48 = some 66:=by kernel_rfl
@[go_sem] theorem f8w:apT L.env 48 48 = some 66:=by kernel_rfl
@[go_sem] theorem f7f {k:Nat} (h:(k ≤ 1000000000) = True):a2v L.env 66 k = true:=a86 (of_eq_true h) (by rw [f1r];decide)
@[go_sem] theorem f7m {k:Nat} (h:(k ≤ 1000000000) = True):c1b L.env 66 (k:Int) (k:Int) = true:=a48 (of_eq_true h) (by rw [f1r];decide)
@[go_sem] theorem f7y:isT L.env 50 = true:=by kernel_rfl
@[go_sem] theorem f6j:L.env.sz 50 = 2:=by kernel_rfl
@[go_sem] theorem f9m:a6h L.env 50 = some true:=by kernel_rfl
@[go_sem] theorem f8u:c62 L.env 50 = true:=by kernel_rfl
@[go_sem] theorem f0y:a4n L.env 50 0 = some (0,48):=by kernel_rfl
@[go_sem] theorem e9s:b0s L.env 50 0 = some (0,1):=by kernel_rfl
@[go_sem] theorem f0x:a4n L.env 50 1 = some (1,48):=by kernel_rfl
@[go_sem] theorem e9r:b0s L.env 50 1 = some (1,1):=by kernel_rfl
@[go_sem] theorem f5v:L.env.zero 50 = some [.nilslice,.nilslice]:=by kernel_rfl
@[go_sem] theorem f7x:isT L.env 63 = true:=by kernel_rfl
@[go_sem] theorem f6i:L.env.sz 63 = 1:=by kernel_rfl
@[go_sem] theorem f9l:a6h L.env 63 = some false:=by kernel_rfl
@[go_sem] theorem f7w:isT L.env 65 = true:=by kernel_rfl
@[go_sem] theorem f6h:L.env.sz 65 = 2:=by kernel_rfl
@[go_sem] theorem f9k:a6h L.env 65 = some true:=by kernel_rfl
@[go_sem] theorem f8t:c62 L.env 65 = true:=by kernel_rfl
@[go_sem] theorem f0w:a4n L.env 65 0 = some (0,3):=by kernel_rfl
@[go_sem] theorem e9q:b0s L.env 65 0 = some (0,1):=by kernel_rfl
@[go_sem] theorem f0v:a4n L.env 65 1 = some (1,3):=by kernel_rfl
@[go_sem] theorem e9p:b0s L.env 65 1 = some (1,1):=by kernel_rfl
@[go_sem] theorem f5u:L.env.zero 65 = some [.int .i64 0,.int .i64 0]:=by kernel_rfl
@[go_sem] theorem f7v:isT L.env 66 = true:=by kernel_rfl
@[go_sem] theorem f6g:L.env.sz 66 = 1:=by kernel_rfl
@[go_sem] theorem f9j:a6h L.env 66 = some false:=by kernel_rfl
@[go_sem] theorem f5t:L.env.zero 66 = some [.int .u8 0]:=by kernel_rfl
@[go_sem] theorem f7u:isT L.env 68 = true:=by kernel_rfl
@[go_sem] theorem f6f:L.env.sz 68 = 5:=by kernel_rfl
@[go_sem] theorem f9i:a6h L.env 68 = some true:=by kernel_rfl
@[go_sem] theorem f8s:c62 L.env 68 = true:=by kernel_rfl
@[go_sem] theorem f0u:a4n L.env 68 0 = some (0,63):=by kernel_rfl
@[go_sem] theorem e9o:b0s L.env 68 0 = some (0,1):=by kernel_rfl
@[go_sem] theorem f0t:a4n L.env 68 1 = some (1,65):=by kernel_rfl
@[go_sem] theorem e9n:b0s L.env 68 1 = some (1,2):=by kernel_rfl
@[go_sem] theorem f0s:a4n L.env 68 2 = some (3,66):=by kernel_rfl
@[go_sem] theorem f0r:a4n L.env 68 3 = some (4,3):=by kernel_rfl
@[go_sem] theorem f5s:L.env.zero 68 = some [.int .u8 0,.int .i64 0,.int .i64 0,.int .u8 0,.int .i64 0]:=by kernel_rfl
@[go_sem] theorem f7t:isT L.env 71 = true:=by kernel_rfl
@[go_sem] theorem f6e:L.env.sz 71 = 5:=by kernel_rfl
@[go_sem] theorem f9h:a6h L.env 71 = some true:=by kernel_rfl
theorem ft71:a9h L.env 71 = some [5,5,5,5,4]:=by kernel_rfl
@[go_sem] theorem f0q:a4n L.env 71 0 = some (0,5):=by kernel_rfl
@[go_sem] theorem f0p:a4n L.env 71 1 = some (1,5):=by kernel_rfl
@[go_sem] theorem f0o:a4n L.env 71 2 = some (2,5):=by kernel_rfl
@[go_sem] theorem f0n:a4n L.env 71 3 = some (3,5):=by kernel_rfl
@[go_sem] theorem f0m:a4n L.env 71 4 = some (4,4):=by kernel_rfl
@[go_sem] theorem f5r:L.env.zero 71 = some [.int .u8 0,.int .u8 0,.int .u8 0,.int .u8 0,.bool false]:=by kernel_rfl
@[go_sem] theorem f7s:isT L.env 74 = true:=by kernel_rfl
@[go_sem] theorem f6d:L.env.sz 74 = 2:=by kernel_rfl
@[go_sem] theorem f9g:a6h L.env 74 = some true:=by kernel_rfl
theorem ft74:a9h L.env 74 = some [25,25]:=by kernel_rfl
@[go_sem] theorem f0l:a4n L.env 74 0 = some (0,25):=by kernel_rfl
@[go_sem] theorem f0k:a4n L.env 74 1 = some (1,25):=by kernel_rfl
@[go_sem] theorem f7r:isT L.env 79 = true:=by kernel_rfl
@[go_sem] theorem f6c:L.env.sz 79 = 1:=by kernel_rfl
@[go_sem] theorem f9f:a6h L.env 79 = some false:=by kernel_rfl
@[go_sem] theorem f8m:c8u L.env 79 = some .u8:=by kernel_rfl
@[go_sem] theorem f5q:L.env.zero 79 = some [.int .u8 0]:=by kernel_rfl
@[go_sem] theorem f7q:isT L.env 81 = true:=by kernel_rfl
@[go_sem] theorem f6b:L.env.sz 81 = 4:=by kernel_rfl
@[go_sem] theorem f9e:a6h L.env 81 = some true:=by kernel_rfl
@[go_sem] theorem f8r:c62 L.env 81 = true:=by kernel_rfl
@[go_sem] theorem f0j:a4n L.env 81 0 = some (0,79):=by kernel_rfl
@[go_sem] theorem e9m:b0s L.env 81 0 = some (0,1):=by kernel_rfl
@[go_sem] theorem f0i:a4n L.env 81 1 = some (1,35):=by kernel_rfl
@[go_sem] theorem e9l:b0s L.env 81 1 = some (1,1):=by kernel_rfl
@[go_sem] theorem f0h:a4n L.env 81 2 = some (2,3):=by kernel_rfl
@[go_sem] theorem f0g:a4n L.env 81 3 = some (3,3):=by kernel_rfl
@[go_sem] theorem f5p:L.env.zero 81 = some [.int .u8 0,.nilslice,.int .i64 0,.int .i64 0]:=by kernel_rfl
@[go_sem] theorem f7p:isT L.env 83 = true:=by kernel_rfl
@[go_sem] theorem f6a:L.env.sz 83 = 2:=by kernel_rfl
@[go_sem] theorem f9d:a6h L.env 83 = some true:=by kernel_rfl
@[go_sem] theorem f8q:c62 L.env 83 = true:=by kernel_rfl
@[go_sem] theorem f0f:a4n L.env 83 0 = some (0,48):=by kernel_rfl
@[go_sem] theorem e9k:b0s L.env 83 0 = some (0,1):=by kernel_rfl
@[go_sem] theorem f0e:a4n L.env 83 1 = some (1,48):=by kernel_rfl
@[go_sem] theorem e9j:b0s L.env 83 1 = some (1,1):=by kernel_rfl
@[go_sem] theorem f5o:L.env.zero 83 = some [.nilslice,.nilslice]:=by kernel_rfl
@[go_sem] theorem f7o:isT L.env 91 = true:=by kernel_rfl
@[go_sem] theorem f5z:L.env.sz 91 = 1:=by kernel_rfl
@[go_sem] theorem f9c:a6h L.env 91 = some false:=by kernel_rfl
@[go_sem] theorem f6x:slT L.env 91 = some 120:=by kernel_rfl
@[go_sem] theorem f7l {k:Nat} (h:(k ≤ 1000000000) = True):c1b L.env 120 (k:Int) (k:Int) = true:=a48 (of_eq_true h) (by rw [e8y];decide)
@[go_sem] theorem f5n:L.env.zero 91 = some [.nilslice]:=by kernel_rfl
@[go_sem] theorem f4e:isT L.env 106 = true:=by kernel_rfl
@[go_sem] theorem f2p:L.env.sz 106 = 1:=by kernel_rfl
@[go_sem] theorem f5m:a6h L.env 106 = some false:=by kernel_rfl
@[go_sem] theorem f4d:isT L.env 107 = true:=by kernel_rfl
@[go_sem] theorem f2o:L.env.sz 107 = 1:=by kernel_rfl
@[go_sem] theorem f5l:a6h L.env 107 = some false:=by kernel_rfl
@[go_sem] theorem f4v:c62 L.env 109 = true:=by kernel_rfl
@[go_sem] theorem e8k:a4n L.env 109 0 = some (0,37):=by kernel_rfl
@[go_sem] theorem e7c:b0s L.env 109 0 = some (0,4):=by kernel_rfl
@[go_sem] theorem e8j:a4n L.env 109 1 = some (4,48):=by kernel_rfl
@[go_sem] theorem e8i:a4n L.env 109 2 = some (5,106):=by kernel_rfl
@[go_sem] theorem e7b:b0s L.env 109 2 = some (5,1):=by kernel_rfl
@[go_sem] theorem e8h:a4n L.env 109 3 = some (6,107):=by kernel_rfl
@[go_sem] theorem e7a:b0s L.env 109 3 = some (6,1):=by kernel_rfl
@[go_sem] theorem f2b:L.env.zero 109 = some [.nilslice,.nilslice,.nilslice,.nilslice,.nilslice,.nilfunc,.nilfunc]:=by kernel_rfl
@[go_sem] theorem f4c:isT L.env 113 = true:=by kernel_rfl
@[go_sem] theorem ar113:c1w L.env 113 = some (3,5):=by kernel_rfl
@[go_sem] theorem f4b:isT L.env 115 = true:=by kernel_rfl
@[go_sem] theorem f2n:L.env.sz 115 = 4:=by kernel_rfl
@[go_sem] theorem f5k:a6h L.env 115 = some true:=by kernel_rfl
theorem ft115:a9h L.env 115 = some [5,113]:=by kernel_rfl
@[go_sem] theorem e8g:a4n L.env 115 0 = some (0,5):=by kernel_rfl
@[go_sem] theorem e8f:a4n L.env 115 1 = some (1,113):=by kernel_rfl
@[go_sem] theorem f4a:isT L.env 120 = true:=by kernel_rfl
@[go_sem] theorem f2m:L.env.sz 120 = 1:=by kernel_rfl
@[go_sem] theorem f5j:a6h L.env 120 = some false:=by kernel_rfl
@[go_sem] theorem f2w:slT L.env 120 = some 127:=by kernel_rfl
@[go_sem] theorem f3m {k:Nat} (h:(k ≤ 1000000000) = True):c1b L.env 127 (k:Int) (k:Int) = true:=a48 (of_eq_true h) (by rw [e8x];decide)
@[go_sem] theorem f2a:L.env.zero 120 = some [.nilslice]:=by kernel_rfl
@[go_sem] theorem f3z:isT L.env 121 = true:=by kernel_rfl
@[go_sem] theorem f2l:L.env.sz 121 = 1:=by kernel_rfl
@[go_sem] theorem f5i:a6h L.env 121 = some false:=by kernel_rfl
@[go_sem] theorem f3y:isT L.env 122 = true:=by kernel_rfl
@[go_sem] theorem f2k:L.env.sz 122 = 1:=by kernel_rfl
@[go_sem] theorem f5h:a6h L.env 122 = some false:=by kernel_rfl
@[go_sem] theorem f3x:isT L.env 124 = true:=by kernel_rfl
@[go_sem] theorem f2j:L.env.sz 124 = 9:=by kernel_rfl
@[go_sem] theorem f5g:a6h L.env 124 = some true:=by kernel_rfl
@[go_sem] theorem f4u:c62 L.env 124 = true:=by kernel_rfl
@[go_sem] theorem e8e:a4n L.env 124 0 = some (0,37):=by kernel_rfl
@[go_sem] theorem e79:b0s L.env 124 0 = some (0,4):=by kernel_rfl
@[go_sem] theorem e8d:a4n L.env 124 1 = some (4,35):=by kernel_rfl
@[go_sem] theorem e78:b0s L.env 124 1 = some (4,1):=by kernel_rfl
@[go_sem] theorem e8c:a4n L.env 124 2 = some (5,35):=by kernel_rfl
@[go_sem] theorem e77:b0s L.env 124 2 = some (5,1):=by kernel_rfl
@[go_sem] theorem e8b:a4n L.env 124 3 = some (6,35):=by kernel_rfl
@[go_sem] theorem e76:b0s L.env 124 3 = some (6,1):=by kernel_rfl
@[go_sem] theorem e8a:a4n L.env 124 4 = some (7,121):=by kernel_rfl
@[go_sem] theorem e75:b0s L.env 124 4 = some (7,1):=by kernel_rfl
@[go_sem] theorem e89:a4n L.env 124 5 = some (8,122):=by kernel_rfl
@[go_sem] theorem e74:b0s L.env 124 5 = some (8,1):=by kernel_rfl
@[go_sem] theorem f1z:L.env.zero 124 = some [.nilslice,.nilslice,.nilslice,.nilslice,.nilslice,.nilslice,.nilslice,.nilfunc,.nilfunc]:=by kernel_rfl
@[go_sem] theorem f3w:isT L.env 127 = true:=by kernel_rfl
@[go_sem] theorem f2i:L.env.sz 127 = 1:=by kernel_rfl
@[go_sem] theorem f5f:a6h L.env 127 = some false:=by kernel_rfl
@[go_sem] theorem f1y:L.env.zero 127 = some [.int .u64 0]:=by kernel_rfl
@[go_sem] theorem f3v:isT L.env 134 = true:=by kernel_rfl
@[go_sem] theorem f4k:c8u L.env 134 = some .u64:=by kernel_rfl
@[go_sem] theorem f3u:isT L.env 141 = true:=by kernel_rfl
@[go_sem] theorem f2h:L.env.sz 141 = 5:=by kernel_rfl
@[go_sem] theorem f5e:a6h L.env 141 = some true:=by kernel_rfl
@[go_sem] theorem f4t:c62 L.env 141 = true:=by kernel_rfl
@[go_sem] theorem e88:a4n L.env 141 0 = some (0,37):=by kernel_rfl
@[go_sem] theorem e73:b0s L.env 141 0 = some (0,4):=by kernel_rfl
@[go_sem] theorem e87:a4n L.env 141 1 = some (4,48):=by kernel_rfl
@[go_sem] theorem e72:b0s L.env 141 1 = some (4,1):=by kernel_rfl
@[go_sem] theorem f1x:L.env.zero 141 = some [.nilslice,.nilslice,.nilslice,.nilslice,.nilslice]:=by kernel_rfl
@[go_sem] theorem f2g:L.env.sz 149 = 1:=by kernel_rfl
@[go_sem] theorem f5d:a6h L.env 149 = some false:=by kernel_rfl
@[go_sem] theorem f3t:isT L.env 155 = true:=by kernel_rfl
@[go_sem] theorem f2f:L.env.sz 155 = 1:=by kernel_rfl
@[go_sem] theorem f5c:a6h L.env 155 = some false:=by kernel_rfl
@[go_sem] theorem f2v:slT L.env 155 = some 65:=by kernel_rfl
@[go_sem] theorem f5a:apT L.env 155 155 = some 65:=by kernel_rfl
@[go_sem] theorem f2z {k:Nat} (h:(k ≤ 1000000000) = True):a2v L.env 65 k = true:=a86 (of_eq_true h) (by rw [f4q];decide)
@[go_sem] theorem f1w:L.env.zero 155 = some [.nilslice]:=by kernel_rfl
@[go_sem] theorem f3s:isT L.env 159 = true:=by kernel_rfl
@[go_sem] theorem f2e:L.env.sz 159 = 2:=by kernel_rfl
@[go_sem] theorem f5b:a6h L.env 159 = some true:=by kernel_rfl
@[go_sem] theorem f4s:c62 L.env 159 = true:=by kernel_rfl
@[go_sem] theorem e86:a4n L.env 159 0 = some (0,127):=by kernel_rfl
@[go_sem] theorem e71:b0s L.env 159 0 = some (0,1):=by kernel_rfl
@[go_sem] theorem e85:a4n L.env 159 1 = some (1,127):=by kernel_rfl
@[go_sem] theorem e70:b0s L.env 159 1 = some (1,1):=by kernel_rfl
@[go_sem] theorem f1v:L.env.zero 159 = some [.int .u64 0,.int .u64 0]:=by kernel_rfl
@[go_sem] theorem f2u:slT L.env 160 = some 159:=by kernel_rfl
@[go_sem] theorem f4z:apT L.env 160 160 = some 159:=by kernel_rfl
@[go_sem] theorem f2y {k:Nat} (h:(k ≤ 1000000000) = True):a2v L.env 159 k = true:=a86 (of_eq_true h) (by rw [e44];decide)
@[go_sem] theorem f3l {k:Nat} (h:(k ≤ 1000000000) = True):c1b L.env 159 (k:Int) (k:Int) = true:=a48 (of_eq_true h) (by rw [e44];decide)
@[go_sem] theorem f2t:slT L.env 181 = some 4:=by kernel_rfl
@[go_sem] theorem f3k {k:Nat} (h:(k ≤ 1000000000) = True):c1b L.env 4 (k:Int) (k:Int) = true:=a48 (of_eq_true h) (by rw [by4];decide)
@[go_sem] theorem f2s:slT L.env 207 = some 155:=by kernel_rfl
@[go_sem] theorem f3j {k:Nat} (h:(k ≤ 1000000000) = True):c1b L.env 155 (k:Int) (k:Int) = true:=a48 (of_eq_true h) (by rw [e8w];decide)
@[go_sem] theorem f2r:slT L.env 210 = some 79:=by kernel_rfl
@[go_sem] theorem f3r:isT L.env 213 = true:=by kernel_rfl
@[go_sem] theorem f2d:L.env.sz 213 = 2:=by kernel_rfl
@[go_sem] theorem f4y:c1w L.env 213 = some (2,3):=by kernel_rfl
@[go_sem] theorem f4x:c1w L.env 214 = some (16,213):=by kernel_rfl
@[go_sem] theorem f4w:c1w L.env 221 = some (4,159):=by kernel_rfl
end Go.MInst
