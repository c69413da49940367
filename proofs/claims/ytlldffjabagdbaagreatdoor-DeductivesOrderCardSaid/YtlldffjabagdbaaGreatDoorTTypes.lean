/- Type facts (printed by AxTypes). -/
import Derived.Test.YtlldffjabagdbaaGreatDoorTInst
import Derived.Test.YtlldffjabagdbaaGreatDoorAxE
set_option linter.unusedSimpArgs false
set_option linter.unusedVariables false
namespace Go.TInst
open Go.Proofs Go.Ax
@[go_sem] theorem roF (g:FuncId):L.env.ro g = decide (g = 121 ∨ g = 122 ∨ g = 68 ∨ g = 106):=by rfl
@[go_sem] theorem e9m (g:FuncId):L.env.thaw g = decide (g = 68 ∨ g = 76 ∨ g = 118 ∨ g = 110 ∨ g = 77):=by rfl
@[go_sem] theorem kp4_0:L.env.keep 4 0 = [2,7,8,9,10,11,1000000]:=by kernel_rfl
@[go_sem] theorem kp4_2:L.env.keep 4 2 = [8,12,13,15,17,19]:=by kernel_rfl
@[go_sem] theorem kp4_4:L.env.keep 4 4 = [8,12,13,15,17,19,20,21,22]:=by kernel_rfl
@[go_sem] theorem kp4_6:L.env.keep 4 6 = [8,12,13,15,17,19,20,21,23]:=by kernel_rfl
@[go_sem] theorem kp8_0:L.env.keep 8 0 = [1,2,4,5,6,7]:=by kernel_rfl
@[go_sem] theorem kp8_2:L.env.keep 8 2 = [1,2,4,5,6,8]:=by kernel_rfl
@[go_sem] theorem kp9_0:L.env.keep 9 0 = [4,9,10,40,41,42]:=by kernel_rfl
@[go_sem] theorem kp9_2:L.env.keep 9 2 = [4,9,10,12,13,40,41,42,59,60,61]:=by kernel_rfl
@[go_sem] theorem kp10_0:L.env.keep 10 0 = [5,15,16,17]:=by kernel_rfl
@[go_sem] theorem kp10_2:L.env.keep 10 2 = [5,6,15,16,17,25,26]:=by kernel_rfl
@[go_sem] theorem kp12_0:L.env.keep 12 0 = [10,32,33,34]:=by kernel_rfl
@[go_sem] theorem kp13_0:L.env.keep 13 0 = [3,8,10,28,29,30]:=by kernel_rfl
@[go_sem] theorem kp13_2:L.env.keep 13 2 = [8,10,45,46,47]:=by kernel_rfl
@[go_sem] theorem kp13_4:L.env.keep 13 4 = [8,10,14,45,46,47,54]:=by kernel_rfl
@[go_sem] theorem kp15_0:L.env.keep 15 0 = [1,4,6,7,8]:=by kernel_rfl
@[go_sem] theorem kp16_0:L.env.keep 16 0 = [0,1,5]:=by kernel_rfl
@[go_sem] theorem kp21_0:L.env.keep 21 0 = [4,6,21,22]:=by kernel_rfl
@[go_sem] theorem kp23_0:L.env.keep 23 0 = [2,3,10,11,12]:=by kernel_rfl
@[go_sem] theorem kp23_2:L.env.keep 23 2 = [2,3,29,30,31]:=by kernel_rfl
@[go_sem] theorem kp26_0:L.env.keep 26 0 = [1,2,3,12,13,14]:=by kernel_rfl
@[go_sem] theorem kp26_2:L.env.keep 26 2 = [1,2,3,29,30,31]:=by kernel_rfl
@[go_sem] theorem kp30_0:L.env.keep 30 0 = [3,12,46,47,48]:=by kernel_rfl
@[go_sem] theorem kp30_2:L.env.keep 30 2 = [12,71,72,73]:=by kernel_rfl
@[go_sem] theorem kp32_0:L.env.keep 32 0 = [0,7]:=by kernel_rfl
@[go_sem] theorem kp34_0:L.env.keep 34 0 = [0,1,5,19,20,21]:=by kernel_rfl
@[go_sem] theorem kp34_2:L.env.keep 34 2 = [0,1,5,19,20,21,42,43,44]:=by kernel_rfl
@[go_sem] theorem kp47_0:L.env.keep 47 0 = [1,2,3,4]:=by kernel_rfl
@[go_sem] theorem kp47_2:L.env.keep 47 2 = [1,2,3,5,6,7]:=by kernel_rfl
@[go_sem] theorem kp47_4:L.env.keep 47 4 = [1,2,3,5,6,8]:=by kernel_rfl
@[go_sem] theorem kp47_6:L.env.keep 47 6 = [1,2,3,5,6,9,10]:=by kernel_rfl
@[go_sem] theorem kp47_8:L.env.keep 47 8 = [1,2,3,9,11]:=by kernel_rfl
@[go_sem] theorem kp47_10:L.env.keep 47 10 = [1,2,3,9,12]:=by kernel_rfl
@[go_sem] theorem kp48_0:L.env.keep 48 0 = [1,5,6,7,29,30,31]:=by kernel_rfl
@[go_sem] theorem kp48_2:L.env.keep 48 2 = [1,5,6,7,10,11]:=by kernel_rfl
@[go_sem] theorem kp48_4:L.env.keep 48 4 = [1,5,6,7,10,11,12,76,77,78]:=by kernel_rfl
@[go_sem] theorem kp52_0:L.env.keep 52 0 = [1,5,9,10,11]:=by kernel_rfl
@[go_sem] theorem kp60_0:L.env.keep 60 0 = [3,6,7,8]:=by kernel_rfl
@[go_sem] theorem kp67_0:L.env.keep 67 0 = [3,5,36,37,38]:=by kernel_rfl
@[go_sem] theorem kp68_0:L.env.keep 68 0 = [2,3,5,7,31]:=by kernel_rfl
@[go_sem] theorem kp68_2:L.env.keep 68 2 = [2,3,5,55,56,57]:=by kernel_rfl
@[go_sem] theorem kp91_0:L.env.keep 91 0 = [2,3,4,6,7,8,9,10,11,12]:=by kernel_rfl
@[go_sem] theorem kp93_1:L.env.keep 93 1 = [1,36,37,38]:=by kernel_rfl
@[go_sem] theorem kp93_3:L.env.keep 93 3 = [1,55,56,57]:=by kernel_rfl
@[go_sem] theorem kp94_0:L.env.keep 94 0 = [3,4,18,19,20]:=by kernel_rfl
@[go_sem] theorem kp94_2:L.env.keep 94 2 = [3,4,5,18,19,20,26,27,28]:=by kernel_rfl
@[go_sem] theorem kp94_4:L.env.keep 94 4 = [3,51,52,53]:=by kernel_rfl
@[go_sem] theorem kp95_0:L.env.keep 95 0 = [0,1,2,6,7,8]:=by kernel_rfl
@[go_sem] theorem kp95_2:L.env.keep 95 2 = [0,1,2,6]:=by kernel_rfl
@[go_sem] theorem kp98_0:L.env.keep 98 0 = [0,1,7,8]:=by kernel_rfl
@[go_sem] theorem kp99_0:L.env.keep 99 0 = [1,2,7,11,12,13]:=by kernel_rfl
@[go_sem] theorem kp106_0:L.env.keep 106 0 = [0,1,2,3,6,18,19,20]:=by kernel_rfl
@[go_sem] theorem kp133_0:L.env.keep 133 0 = [3,8,9,10]:=by kernel_rfl
@[go_sem] theorem kp137_0:L.env.keep 137 0 = [0,1,2,3,8]:=by kernel_rfl
@[go_sem] theorem kp137_2:L.env.keep 137 2 = [0,1,2,3,8,9]:=by kernel_rfl
@[go_sem] theorem kp139_0:L.env.keep 139 0 = [0,1,7,8]:=by kernel_rfl
@[go_sem] theorem kp146_0:L.env.keep 146 0 = [2,5,6]:=by kernel_rfl
@[go_sem] theorem kp146_2:L.env.keep 146 2 = [2,5,6,45,46,47]:=by kernel_rfl
@[go_sem] theorem kp155_0:L.env.keep 155 0 = [0,1,7,8]:=by kernel_rfl
@[go_sem] theorem kp158_0:L.env.keep 158 0 = [0,1,7,8]:=by kernel_rfl
@[go_sem] theorem by3:L.env.bytes 3 = 8:=by kernel_rfl
@[go_sem] theorem by4:L.env.bytes 4 = 1:=by kernel_rfl
@[go_sem] theorem by9:L.env.bytes 9 = 16:=by kernel_rfl
@[go_sem] theorem f0p:L.env.bytes 32 = 24:=by kernel_rfl
@[go_sem] theorem f0o:L.env.bytes 45 = 24:=by kernel_rfl
@[go_sem] theorem f0n:L.env.bytes 50 = 16:=by kernel_rfl
@[go_sem] theorem f0m:L.env.bytes 53 = 48:=by kernel_rfl
@[go_sem] theorem e9e:L.env.bytes 54 = 1:=by kernel_rfl
@[go_sem] theorem f0l:L.env.bytes 57 = 40:=by kernel_rfl
@[go_sem] theorem f0k:L.env.bytes 97 = 8:=by kernel_rfl
@[go_sem] theorem is3:isT L.env 3 = true:=by kernel_rfl
@[go_sem] theorem sz3:L.env.sz 3 = 1:=by kernel_rfl
@[go_sem] theorem ag3:a7v L.env 3 = some false:=by kernel_rfl
@[go_sem] theorem in3:c5m L.env 3 = some .i64:=by kernel_rfl
@[go_sem] theorem ze3:L.env.zero 3 = some [.int .i64 0]:=by kernel_rfl
@[go_sem] theorem is4:isT L.env 4 = true:=by kernel_rfl
@[go_sem] theorem sz4:L.env.sz 4 = 1:=by kernel_rfl
@[go_sem] theorem ag4:a7v L.env 4 = some false:=by kernel_rfl
@[go_sem] theorem un4:L.env.und 4 = some .bool:=by kernel_rfl
@[go_sem] theorem ze4:L.env.zero 4 = some [.bool false]:=by kernel_rfl
@[go_sem] theorem is5:isT L.env 5 = true:=by kernel_rfl
@[go_sem] theorem sz5:L.env.sz 5 = 1:=by kernel_rfl
@[go_sem] theorem ag5:a7v L.env 5 = some false:=by kernel_rfl
@[go_sem] theorem in5:c5m L.env 5 = some .u8:=by kernel_rfl
@[go_sem] theorem ze5:L.env.zero 5 = some [.int .u8 0]:=by kernel_rfl
@[go_sem] theorem is9:isT L.env 9 = true:=by kernel_rfl
@[go_sem] theorem sz9:L.env.sz 9 = 1:=by kernel_rfl
@[go_sem] theorem ag9:a7v L.env 9 = some false:=by kernel_rfl
@[go_sem] theorem ze9:L.env.zero 9 = some [.str []]:=by kernel_rfl
@[go_sem] theorem f4f:isT L.env 22 = true:=by kernel_rfl
@[go_sem] theorem ar22:c4f L.env 22 = some (2,5):=by kernel_rfl
@[go_sem] theorem ar23:c4f L.env 23 = some (4,5):=by kernel_rfl
@[go_sem] theorem f4e:isT L.env 24 = true:=by kernel_rfl
@[go_sem] theorem f2m:L.env.sz 24 = 1:=by kernel_rfl
@[go_sem] theorem f5t:a7v L.env 24 = some false:=by kernel_rfl
@[go_sem] theorem st24:slT L.env 24 = some 168:=by kernel_rfl
@[go_sem] theorem f4d:isT L.env 25 = true:=by kernel_rfl
@[go_sem] theorem f2l:L.env.sz 25 = 1:=by kernel_rfl
@[go_sem] theorem f5s:a7v L.env 25 = some false:=by kernel_rfl
@[go_sem] theorem st25:slT L.env 25 = some 5:=by kernel_rfl
@[go_sem] theorem f4k:byT L.env 25 9 = true:=by kernel_rfl
@[go_sem] theorem f2k:L.env.sz 27 = 12:=by kernel_rfl
@[go_sem] theorem ag27:a7v L.env 27 = some true:=by kernel_rfl
theorem ft27:b4w L.env 27 = some [5,5,22,4,4,23,24,25]:=by kernel_rfl
@[go_sem] theorem e9b:a6t L.env 27 0 = some (0,5):=by kernel_rfl
@[go_sem] theorem e9a:a6t L.env 27 1 = some (1,5):=by kernel_rfl
@[go_sem] theorem e99:a6t L.env 27 2 = some (2,22):=by kernel_rfl
@[go_sem] theorem e98:a6t L.env 27 3 = some (4,4):=by kernel_rfl
@[go_sem] theorem e97:a6t L.env 27 4 = some (5,4):=by kernel_rfl
@[go_sem] theorem e96:a6t L.env 27 6 = some (10,24):=by kernel_rfl
@[go_sem] theorem e95:a6t L.env 27 7 = some (11,25):=by kernel_rfl
@[go_sem] theorem f4c:isT L.env 28 = true:=by kernel_rfl
@[go_sem] theorem f2j:L.env.sz 28 = 1:=by kernel_rfl
@[go_sem] theorem ag28:a7v L.env 28 = some false:=by kernel_rfl
@[go_sem] theorem in28:c5m L.env 28 = some .u64:=by kernel_rfl
@[go_sem] theorem f4b:isT L.env 29 = true:=by kernel_rfl
@[go_sem] theorem f2i:L.env.sz 29 = 1:=by kernel_rfl
@[go_sem] theorem f5r:a7v L.env 29 = some false:=by kernel_rfl
@[go_sem] theorem f2w:slT L.env 29 = some 53:=by kernel_rfl
@[go_sem] theorem f4w:apT L.env 29 29 = some 53:=by kernel_rfl
@[go_sem] theorem f3c {k:Nat} (h:(k ≤ 1000000000) = True):a2s L.env 53 k = true:=b18 (of_eq_true h) (by rw [f0m];decide)
@[go_sem] theorem f4a:isT L.env 30 = true:=by kernel_rfl
@[go_sem] theorem f2h:L.env.sz 30 = 1:=by kernel_rfl
@[go_sem] theorem f5q:a7v L.env 30 = some false:=by kernel_rfl
@[go_sem] theorem f2v:slT L.env 30 = some 9:=by kernel_rfl
@[go_sem] theorem f4v:apT L.env 30 30 = some 9:=by kernel_rfl
@[go_sem] theorem f3b {k:Nat} (h:(k ≤ 1000000000) = True):a2s L.env 9 k = true:=b18 (of_eq_true h) (by rw [by9];decide)
@[go_sem] theorem f3z:isT L.env 31 = true:=by kernel_rfl
@[go_sem] theorem f2g:L.env.sz 31 = 1:=by kernel_rfl
@[go_sem] theorem f5p:a7v L.env 31 = some false:=by kernel_rfl
@[go_sem] theorem f2u:slT L.env 31 = some 170:=by kernel_rfl
@[go_sem] theorem f3y:isT L.env 32 = true:=by kernel_rfl
@[go_sem] theorem f2f:L.env.sz 32 = 1:=by kernel_rfl
@[go_sem] theorem f5o:a7v L.env 32 = some false:=by kernel_rfl
@[go_sem] theorem f2t:slT L.env 32 = some 3:=by kernel_rfl
@[go_sem] theorem f4u:apT L.env 32 32 = some 3:=by kernel_rfl
@[go_sem] theorem f3a {k:Nat} (h:(k ≤ 1000000000) = True):a2s L.env 3 k = true:=b18 (of_eq_true h) (by rw [by3];decide)
@[go_sem] theorem f3h {k:Nat} (h:(k ≤ 1000000000) = True):d10 L.env 3 (k:Int) (k:Int) = true:=a97 (of_eq_true h) (by rw [by3];decide)
@[go_sem] theorem f1k:L.env.zero 32 = some [.nilslice]:=by kernel_rfl
@[go_sem] theorem f3x:isT L.env 34 = true:=by kernel_rfl
@[go_sem] theorem f2e:L.env.sz 34 = 4:=by kernel_rfl
@[go_sem] theorem f5n:a7v L.env 34 = some true:=by kernel_rfl
@[go_sem] theorem e94:a6t L.env 34 0 = some (0,29):=by kernel_rfl
@[go_sem] theorem e93:a6t L.env 34 1 = some (1,30):=by kernel_rfl
@[go_sem] theorem e92:a6t L.env 34 2 = some (2,31):=by kernel_rfl
@[go_sem] theorem e91:a6t L.env 34 3 = some (3,32):=by kernel_rfl
@[go_sem] theorem f1j:L.env.zero 34 = some [.nilslice,.nilslice,.nilslice,.nilslice]:=by kernel_rfl
@[go_sem] theorem f3w:isT L.env 36 = true:=by kernel_rfl
@[go_sem] theorem f2d:L.env.sz 36 = 1:=by kernel_rfl
@[go_sem] theorem f5m:a7v L.env 36 = some false:=by kernel_rfl
@[go_sem] theorem f2s:slT L.env 36 = some 54:=by kernel_rfl
@[go_sem] theorem f4t:apT L.env 36 36 = some 54:=by kernel_rfl
@[go_sem] theorem f2z {k:Nat} (h:(k ≤ 1000000000) = True):a2s L.env 54 k = true:=b18 (of_eq_true h) (by rw [e9e];decide)
@[go_sem] theorem f3g {k:Nat} (h:(k ≤ 1000000000) = True):d10 L.env 54 (k:Int) (k:Int) = true:=a97 (of_eq_true h) (by rw [e9e];decide)
@[go_sem] theorem f3v:isT L.env 38 = true:=by kernel_rfl
@[go_sem] theorem f2c:L.env.sz 38 = 2:=by kernel_rfl
@[go_sem] theorem f5l:a7v L.env 38 = some true:=by kernel_rfl
@[go_sem] theorem e90:a6t L.env 38 0 = some (0,36):=by kernel_rfl
@[go_sem] theorem e8z:a6t L.env 38 1 = some (1,36):=by kernel_rfl
@[go_sem] theorem f1i:L.env.zero 38 = some [.nilslice,.nilslice]:=by kernel_rfl
@[go_sem] theorem f3u:isT L.env 41 = true:=by kernel_rfl
@[go_sem] theorem f2b:L.env.sz 41 = 2:=by kernel_rfl
@[go_sem] theorem f5k:a7v L.env 41 = some true:=by kernel_rfl
@[go_sem] theorem f4q:d3x L.env 41 = true:=by kernel_rfl
@[go_sem] theorem e8y:a6t L.env 41 0 = some (0,36):=by kernel_rfl
@[go_sem] theorem e82:b7s L.env 41 0 = some (0,1):=by kernel_rfl
@[go_sem] theorem e8x:a6t L.env 41 1 = some (1,36):=by kernel_rfl
@[go_sem] theorem e81:b7s L.env 41 1 = some (1,1):=by kernel_rfl
@[go_sem] theorem f1h:L.env.zero 41 = some [.nilslice,.nilslice]:=by kernel_rfl
@[go_sem] theorem f3t:isT L.env 45 = true:=by kernel_rfl
@[go_sem] theorem f2a:L.env.sz 45 = 1:=by kernel_rfl
@[go_sem] theorem f5j:a7v L.env 45 = some false:=by kernel_rfl
@[go_sem] theorem f2r:slT L.env 45 = some 50:=by kernel_rfl
@[go_sem] theorem f4s:apT L.env 45 45 = some 50:=by kernel_rfl
@[go_sem] theorem f2y {k:Nat} (h:(k ≤ 1000000000) = True):a2s L.env 50 k = true:=b18 (of_eq_true h) (by rw [f0n];decide)
@[go_sem] theorem f1g:L.env.zero 45 = some [.nilslice]:=by kernel_rfl
@[go_sem] theorem f3s:isT L.env 48 = true:=by kernel_rfl
@[go_sem] theorem f1z:L.env.sz 48 = 1:=by kernel_rfl
@[go_sem] theorem f5i:a7v L.env 48 = some false:=by kernel_rfl
@[go_sem] theorem f2q:slT L.env 48 = some 57:=by kernel_rfl
@[go_sem] theorem f4r:apT L.env 48 48 = some 57:=by kernel_rfl
@[go_sem] theorem f2x {k:Nat} (h:(k ≤ 1000000000) = True):a2s L.env 57 k = true:=b18 (of_eq_true h) (by rw [f0l];decide)
@[go_sem] theorem f3r:isT L.env 50 = true:=by kernel_rfl
@[go_sem] theorem f1y:L.env.sz 50 = 2:=by kernel_rfl
@[go_sem] theorem f5h:a7v L.env 50 = some true:=by kernel_rfl
@[go_sem] theorem f4p:d3x L.env 50 = true:=by kernel_rfl
@[go_sem] theorem e8w:a6t L.env 50 0 = some (0,3):=by kernel_rfl
@[go_sem] theorem e80:b7s L.env 50 0 = some (0,1):=by kernel_rfl
@[go_sem] theorem e8v:a6t L.env 50 1 = some (1,3):=by kernel_rfl
@[go_sem] theorem e7z:b7s L.env 50 1 = some (1,1):=by kernel_rfl
@[go_sem] theorem f1f:L.env.zero 50 = some [.int .i64 0,.int .i64 0]:=by kernel_rfl
@[go_sem] theorem f3q:isT L.env 51 = true:=by kernel_rfl
@[go_sem] theorem f1x:L.env.sz 51 = 1:=by kernel_rfl
@[go_sem] theorem f5g:a7v L.env 51 = some false:=by kernel_rfl
@[go_sem] theorem f4h:c5m L.env 51 = some .u8:=by kernel_rfl
@[go_sem] theorem f1e:L.env.zero 51 = some [.int .u8 0]:=by kernel_rfl
@[go_sem] theorem f3p:isT L.env 53 = true:=by kernel_rfl
@[go_sem] theorem f1w:L.env.sz 53 = 4:=by kernel_rfl
@[go_sem] theorem f5f:a7v L.env 53 = some true:=by kernel_rfl
@[go_sem] theorem f4o:d3x L.env 53 = true:=by kernel_rfl
@[go_sem] theorem e8u:a6t L.env 53 0 = some (0,51):=by kernel_rfl
@[go_sem] theorem e7y:b7s L.env 53 0 = some (0,1):=by kernel_rfl
@[go_sem] theorem e8t:a6t L.env 53 1 = some (1,32):=by kernel_rfl
@[go_sem] theorem e7x:b7s L.env 53 1 = some (1,1):=by kernel_rfl
@[go_sem] theorem e8s:a6t L.env 53 2 = some (2,3):=by kernel_rfl
@[go_sem] theorem e8r:a6t L.env 53 3 = some (3,3):=by kernel_rfl
@[go_sem] theorem f1d:L.env.zero 53 = some [.int .u8 0,.nilslice,.int .i64 0,.int .i64 0]:=by kernel_rfl
@[go_sem] theorem f3o:isT L.env 54 = true:=by kernel_rfl
@[go_sem] theorem f1v:L.env.sz 54 = 1:=by kernel_rfl
@[go_sem] theorem f5e:a7v L.env 54 = some false:=by kernel_rfl
@[go_sem] theorem f4g:c5m L.env 54 = some .u8:=by kernel_rfl
@[go_sem] theorem f1c:L.env.zero 54 = some [.int .u8 0]:=by kernel_rfl
@[go_sem] theorem f3n:isT L.env 55 = true:=by kernel_rfl
@[go_sem] theorem f1u:L.env.sz 55 = 1:=by kernel_rfl
@[go_sem] theorem f5d:a7v L.env 55 = some false:=by kernel_rfl
@[go_sem] theorem f3m:isT L.env 57 = true:=by kernel_rfl
@[go_sem] theorem f1t:L.env.sz 57 = 5:=by kernel_rfl
@[go_sem] theorem f5c:a7v L.env 57 = some true:=by kernel_rfl
@[go_sem] theorem f4n:d3x L.env 57 = true:=by kernel_rfl
@[go_sem] theorem e8q:a6t L.env 57 0 = some (0,55):=by kernel_rfl
@[go_sem] theorem e7w:b7s L.env 57 0 = some (0,1):=by kernel_rfl
@[go_sem] theorem e8p:a6t L.env 57 1 = some (1,50):=by kernel_rfl
@[go_sem] theorem e7v:b7s L.env 57 1 = some (1,2):=by kernel_rfl
@[go_sem] theorem e8o:a6t L.env 57 2 = some (3,54):=by kernel_rfl
@[go_sem] theorem e8n:a6t L.env 57 3 = some (4,3):=by kernel_rfl
@[go_sem] theorem f1b:L.env.zero 57 = some [.int .u8 0,.int .i64 0,.int .i64 0,.int .u8 0,.int .i64 0]:=by kernel_rfl
@[go_sem] theorem f2p:slT L.env 59 = some 32:=by kernel_rfl
@[go_sem] theorem f3f {k:Nat} (h:(k ≤ 1000000000) = True):d10 L.env 32 (k:Int) (k:Int) = true:=a97 (of_eq_true h) (by rw [f0p];decide)
@[go_sem] theorem ag66:a7v L.env 66 = some false:=by kernel_rfl
@[go_sem] theorem st66:slT L.env 66 = some 107:=by kernel_rfl
@[go_sem] theorem f2o:slT L.env 73 = some 4:=by kernel_rfl
@[go_sem] theorem f3e {k:Nat} (h:(k ≤ 1000000000) = True):d10 L.env 4 (k:Int) (k:Int) = true:=a97 (of_eq_true h) (by rw [by4];decide)
@[go_sem] theorem f3l:isT L.env 81 = true:=by kernel_rfl
@[go_sem] theorem f1s:L.env.sz 81 = 5:=by kernel_rfl
@[go_sem] theorem f5b:a7v L.env 81 = some true:=by kernel_rfl
@[go_sem] theorem f4m:d3x L.env 81 = true:=by kernel_rfl
@[go_sem] theorem e8m:a6t L.env 81 0 = some (0,34):=by kernel_rfl
@[go_sem] theorem e7u:b7s L.env 81 0 = some (0,4):=by kernel_rfl
@[go_sem] theorem e8l:a6t L.env 81 1 = some (4,36):=by kernel_rfl
@[go_sem] theorem e7t:b7s L.env 81 1 = some (4,1):=by kernel_rfl
@[go_sem] theorem f1a:L.env.zero 81 = some [.nilslice,.nilslice,.nilslice,.nilslice,.nilslice]:=by kernel_rfl
@[go_sem] theorem f1r:L.env.sz 89 = 1:=by kernel_rfl
@[go_sem] theorem f5a:a7v L.env 89 = some false:=by kernel_rfl
@[go_sem] theorem f3k:isT L.env 92 = true:=by kernel_rfl
@[go_sem] theorem f1q:L.env.sz 92 = 1:=by kernel_rfl
@[go_sem] theorem f4z:a7v L.env 92 = some false:=by kernel_rfl
@[go_sem] theorem f2n:slT L.env 92 = some 97:=by kernel_rfl
@[go_sem] theorem f3d {k:Nat} (h:(k ≤ 1000000000) = True):d10 L.env 97 (k:Int) (k:Int) = true:=a97 (of_eq_true h) (by rw [f0k];decide)
@[go_sem] theorem f3j:isT L.env 93 = true:=by kernel_rfl
@[go_sem] theorem f1p:L.env.sz 93 = 1:=by kernel_rfl
@[go_sem] theorem f4y:a7v L.env 93 = some false:=by kernel_rfl
@[go_sem] theorem f1m:a88 L.env 93 = false:=by kernel_rfl
@[go_sem] theorem f4l:d3x L.env 95 = true:=by kernel_rfl
@[go_sem] theorem e8k:a6t L.env 95 0 = some (0,34):=by kernel_rfl
@[go_sem] theorem e7s:b7s L.env 95 0 = some (0,4):=by kernel_rfl
@[go_sem] theorem e8j:a6t L.env 95 1 = some (4,48):=by kernel_rfl
@[go_sem] theorem e7r:b7s L.env 95 1 = some (4,1):=by kernel_rfl
@[go_sem] theorem e8i:a6t L.env 95 2 = some (5,36):=by kernel_rfl
@[go_sem] theorem e7q:b7s L.env 95 2 = some (5,1):=by kernel_rfl
@[go_sem] theorem e8h:a6t L.env 95 3 = some (6,92):=by kernel_rfl
@[go_sem] theorem e7p:b7s L.env 95 3 = some (6,1):=by kernel_rfl
@[go_sem] theorem e8g:a6t L.env 95 4 = some (7,93):=by kernel_rfl
@[go_sem] theorem e7o:b7s L.env 95 4 = some (7,1):=by kernel_rfl
@[go_sem] theorem f0z:L.env.zero 95 = some [.nilslice,.nilslice,.nilslice,.nilslice,.nilslice,.nilslice,.nilslice,.nilmap]:=by kernel_rfl
@[go_sem] theorem f3i:isT L.env 97 = true:=by kernel_rfl
@[go_sem] theorem f1o:L.env.sz 97 = 1:=by kernel_rfl
@[go_sem] theorem f4x:a7v L.env 97 = some false:=by kernel_rfl
@[go_sem] theorem f1n:L.env.und 97 = some (.map 3 4):=by kernel_rfl
@[go_sem] theorem f1l:a88 L.env 97 = true:=by kernel_rfl
@[go_sem] theorem f0y:L.env.zero 97 = some [.nilmap]:=by kernel_rfl
@[go_sem] theorem f0b:isT L.env 107 = true:=by kernel_rfl
@[go_sem] theorem e9q:L.env.sz 107 = 5:=by kernel_rfl
@[go_sem] theorem f0v:a7v L.env 107 = some true:=by kernel_rfl
theorem ft107:b4w L.env 107 = some [5,5,5,5,4]:=by kernel_rfl
@[go_sem] theorem e6r:a6t L.env 107 0 = some (0,5):=by kernel_rfl
@[go_sem] theorem e6q:a6t L.env 107 1 = some (1,5):=by kernel_rfl
@[go_sem] theorem e6p:a6t L.env 107 2 = some (2,5):=by kernel_rfl
@[go_sem] theorem e6o:a6t L.env 107 4 = some (4,4):=by kernel_rfl
@[go_sem] theorem e9k:L.env.zero 107 = some [.int .u8 0,.int .u8 0,.int .u8 0,.int .u8 0,.bool false]:=by kernel_rfl
@[go_sem] theorem f0a:isT L.env 155 = true:=by kernel_rfl
@[go_sem] theorem e9p:L.env.sz 155 = 2:=by kernel_rfl
@[go_sem] theorem f0u:a7v L.env 155 = some true:=by kernel_rfl
@[go_sem] theorem f0q:d3x L.env 155 = true:=by kernel_rfl
@[go_sem] theorem e6n:a6t L.env 155 0 = some (0,28):=by kernel_rfl
@[go_sem] theorem e5p:b7s L.env 155 0 = some (0,1):=by kernel_rfl
@[go_sem] theorem e6m:a6t L.env 155 1 = some (1,28):=by kernel_rfl
@[go_sem] theorem e5o:b7s L.env 155 1 = some (1,1):=by kernel_rfl
@[go_sem] theorem e9j:L.env.zero 155 = some [.int .u64 0,.int .u64 0]:=by kernel_rfl
@[go_sem] theorem f09:isT L.env 166 = true:=by kernel_rfl
@[go_sem] theorem ar166:c4f L.env 166 = some (3,5):=by kernel_rfl
@[go_sem] theorem f08:isT L.env 168 = true:=by kernel_rfl
@[go_sem] theorem e9o:L.env.sz 168 = 4:=by kernel_rfl
@[go_sem] theorem f0t:a7v L.env 168 = some true:=by kernel_rfl
theorem ft168:b4w L.env 168 = some [5,166]:=by kernel_rfl
@[go_sem] theorem e6l:a6t L.env 168 0 = some (0,5):=by kernel_rfl
@[go_sem] theorem e6k:a6t L.env 168 1 = some (1,166):=by kernel_rfl
@[go_sem] theorem e9t:slT L.env 172 = some 45:=by kernel_rfl
@[go_sem] theorem f04 {k:Nat} (h:(k ≤ 1000000000) = True):d10 L.env 45 (k:Int) (k:Int) = true:=a97 (of_eq_true h) (by rw [f0o];decide)
@[go_sem] theorem e9s:slT L.env 176 = some 51:=by kernel_rfl
@[go_sem] theorem f07:isT L.env 179 = true:=by kernel_rfl
@[go_sem] theorem e9n:L.env.sz 179 = 2:=by kernel_rfl
@[go_sem] theorem f0s:c4f L.env 179 = some (2,3):=by kernel_rfl
@[go_sem] theorem f0r:c4f L.env 180 = some (16,179):=by kernel_rfl
@[go_sem] theorem e9l:a88 L.env 216 = false:=by kernel_rfl
end Go.TInst
