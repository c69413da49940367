/- Type facts (printed by AxTypes). -/
import Derived.Test.YtllalbnibhofiaaGreatDoorZInst
import Derived.Test.YtllalbnibhofiaaGreatDoorAxE
set_option linter.unusedSimpArgs false
set_option linter.unusedVariables false
namespace Go.ZInst
open Go.Proofs Go.Ax
@[go_sem] theorem roF (g:FuncId):L.env.ro g = decide (g = 94 ∨ g = 95):=by rfl
@[go_sem] theorem bxz (g:FuncId):L.env.thaw g = decide (g = 57 ∨ g = 91):=by rfl
@[go_sem] theorem kp6_0:L.env.keep 6 0 = [5,7,8,9,11]:=by kernel_rfl
@[go_sem] theorem kp7_0:L.env.keep 7 0 = [1,2,5,6,7]:=by kernel_rfl
@[go_sem] theorem kp7_2:L.env.keep 7 2 = [1,2,5,6,9,10]:=by kernel_rfl
@[go_sem] theorem kp8_0:L.env.keep 8 0 = [1,2,3,9,24,25]:=by kernel_rfl
@[go_sem] theorem kp8_2:L.env.keep 8 2 = [1,2,9,11,12]:=by kernel_rfl
@[go_sem] theorem kp9_0:L.env.keep 9 0 = [8,10,27,28]:=by kernel_rfl
@[go_sem] theorem kp17_0:L.env.keep 17 0 = [2,3,31,32,33]:=by kernel_rfl
@[go_sem] theorem kp17_2:L.env.keep 17 2 = [3,47,48,49]:=by kernel_rfl
@[go_sem] theorem kp19_0:L.env.keep 19 0 = [1,2,3,4,8,9,10,11,34,35]:=by kernel_rfl
@[go_sem] theorem kp23_0:L.env.keep 23 0 = [1,2,3,6,7,25,26,27]:=by kernel_rfl
@[go_sem] theorem kp23_2:L.env.keep 23 2 = [2,3,6,7,41,42,43]:=by kernel_rfl
@[go_sem] theorem kp23_4:L.env.keep 23 4 = [3,6,7,57,58,59]:=by kernel_rfl
@[go_sem] theorem kp23_6:L.env.keep 23 6 = [3,6,7,99,100,101]:=by kernel_rfl
@[go_sem] theorem kp23_8:L.env.keep 23 8 = [3,6,7,114,115,116]:=by kernel_rfl
@[go_sem] theorem kp25_0:L.env.keep 25 0 = [0,1,4,9,10]:=by kernel_rfl
@[go_sem] theorem kp27_0:L.env.keep 27 0 = [1,2,3,4]:=by kernel_rfl
@[go_sem] theorem kp27_2:L.env.keep 27 2 = [1,2,3,5,6,7]:=by kernel_rfl
@[go_sem] theorem kp27_4:L.env.keep 27 4 = [1,2,3,5,6,8]:=by kernel_rfl
@[go_sem] theorem kp27_6:L.env.keep 27 6 = [1,2,3,5,6,9,10]:=by kernel_rfl
@[go_sem] theorem kp27_8:L.env.keep 27 8 = [1,2,3,9,11]:=by kernel_rfl
@[go_sem] theorem kp27_10:L.env.keep 27 10 = [1,2,3,9,12]:=by kernel_rfl
@[go_sem] theorem kp28_0:L.env.keep 28 0 = [0,1,2,7,8]:=by kernel_rfl
@[go_sem] theorem kp29_0:L.env.keep 29 0 = [1,2,5,6]:=by kernel_rfl
@[go_sem] theorem kp33_0:L.env.keep 33 0 = [5,15,16,17]:=by kernel_rfl
@[go_sem] theorem kp33_2:L.env.keep 33 2 = [5,6,15,16,17,25,26]:=by kernel_rfl
@[go_sem] theorem kp36_0:L.env.keep 36 0 = [4,6,21,22]:=by kernel_rfl
@[go_sem] theorem kp41_0:L.env.keep 41 0 = [0,2,7,14,15]:=by kernel_rfl
@[go_sem] theorem kp41_2:L.env.keep 41 2 = [0,2,7,8,14,15,18,19,20]:=by kernel_rfl
@[go_sem] theorem kp46_0:L.env.keep 46 0 = [0,4,7,33,34,35]:=by kernel_rfl
@[go_sem] theorem kp47_0:L.env.keep 47 0 = [1,2,3,7,16,17,18]:=by kernel_rfl
@[go_sem] theorem kp54_0:L.env.keep 54 0 = [2,3,4,6,7,8,9,10,11,12]:=by kernel_rfl
@[go_sem] theorem kp56_0:L.env.keep 56 0 = [4,9,10,40,41,42]:=by kernel_rfl
@[go_sem] theorem kp56_2:L.env.keep 56 2 = [4,9,10,12,13,40,41,42,59,60,61]:=by kernel_rfl
@[go_sem] theorem kp58_0:L.env.keep 58 0 = [0,3,4,5,41,42,43]:=by kernel_rfl
@[go_sem] theorem kp58_2:L.env.keep 58 2 = [0,3,4,5,60,61,62]:=by kernel_rfl
@[go_sem] theorem kp58_4:L.env.keep 58 4 = [0,4,5,12,89,90,91]:=by kernel_rfl
@[go_sem] theorem kp58_6:L.env.keep 58 6 = [0,4,5,16,143,144,145]:=by kernel_rfl
@[go_sem] theorem kp58_8:L.env.keep 58 8 = [0,4,16,162,163,164]:=by kernel_rfl
@[go_sem] theorem kp60_0:L.env.keep 60 0 = [1,2,3,4,9]:=by kernel_rfl
@[go_sem] theorem kp67_0:L.env.keep 67 0 = [1,5,6,7,29,30,31]:=by kernel_rfl
@[go_sem] theorem kp67_2:L.env.keep 67 2 = [1,5,6,7,10,11]:=by kernel_rfl
@[go_sem] theorem kp67_4:L.env.keep 67 4 = [1,5,6,7,10,11,12,76,77,78]:=by kernel_rfl
@[go_sem] theorem kp71_0:L.env.keep 71 0 = [1,5,9,10,11]:=by kernel_rfl
@[go_sem] theorem kp76_0:L.env.keep 76 0 = [2,3,4,5,8,9,10]:=by kernel_rfl
@[go_sem] theorem kp79_0:L.env.keep 79 0 = [2,3,7,8,9]:=by kernel_rfl
@[go_sem] theorem kp80_0:L.env.keep 80 0 = [2,3,7,8,9]:=by kernel_rfl
@[go_sem] theorem kp81_0:L.env.keep 81 0 = [2,3,7,8,9]:=by kernel_rfl
@[go_sem] theorem kp84_0:L.env.keep 84 0 = [2,3,10,11,12]:=by kernel_rfl
@[go_sem] theorem kp84_2:L.env.keep 84 2 = [2,3,29,30,31]:=by kernel_rfl
@[go_sem] theorem kp87_0:L.env.keep 87 0 = [1,2,3,12,13,14]:=by kernel_rfl
@[go_sem] theorem kp87_2:L.env.keep 87 2 = [1,2,3,29,30,31]:=by kernel_rfl
@[go_sem] theorem kp95_0:L.env.keep 95 0 = [0,1,5,16,17,18]:=by kernel_rfl
@[go_sem] theorem kp97_0:L.env.keep 97 0 = [0,1,5,11,12]:=by kernel_rfl
@[go_sem] theorem kp98_0:L.env.keep 98 0 = [2,5,6]:=by kernel_rfl
@[go_sem] theorem kp98_2:L.env.keep 98 2 = [2,5,6,45,46,47]:=by kernel_rfl
@[go_sem] theorem kp101_1:L.env.keep 101 1 = [1,36,37,38]:=by kernel_rfl
@[go_sem] theorem kp101_3:L.env.keep 101 3 = [1,55,56,57]:=by kernel_rfl
@[go_sem] theorem kp102_0:L.env.keep 102 0 = [3,4,18,19,20]:=by kernel_rfl
@[go_sem] theorem kp102_2:L.env.keep 102 2 = [3,4,5,18,19,20,26,27,28]:=by kernel_rfl
@[go_sem] theorem kp102_4:L.env.keep 102 4 = [3,51,52,53]:=by kernel_rfl
@[go_sem] theorem kp103_0:L.env.keep 103 0 = [0,1,2,6,7,8]:=by kernel_rfl
@[go_sem] theorem kp103_2:L.env.keep 103 2 = [0,1,2,6]:=by kernel_rfl
@[go_sem] theorem kp111_0:L.env.keep 111 0 = [3,6,7,8]:=by kernel_rfl
@[go_sem] theorem kp120_0:L.env.keep 120 0 = [0,1,7,8]:=by kernel_rfl
@[go_sem] theorem kp122_0:L.env.keep 122 0 = [3,8,9,10]:=by kernel_rfl
@[go_sem] theorem kp126_0:L.env.keep 126 0 = [0,1,2,3,8]:=by kernel_rfl
@[go_sem] theorem kp126_2:L.env.keep 126 2 = [0,1,2,3,8,9]:=by kernel_rfl
@[go_sem] theorem kp128_0:L.env.keep 128 0 = [0,1,7,8]:=by kernel_rfl
@[go_sem] theorem kp130_0:L.env.keep 130 0 = [1,2,7,11,12,13]:=by kernel_rfl
@[go_sem] theorem kp138_0:L.env.keep 138 0 = [0,1,7,8]:=by kernel_rfl
@[go_sem] theorem kp146_0:L.env.keep 146 0 = [0,1,7,8]:=by kernel_rfl
@[go_sem] theorem by3:L.env.bytes 3 = 8:=by kernel_rfl
@[go_sem] theorem by4:L.env.bytes 4 = 1:=by kernel_rfl
@[go_sem] theorem by9:L.env.bytes 9 = 16:=by kernel_rfl
@[go_sem] theorem bzg:L.env.bytes 46 = 24:=by kernel_rfl
@[go_sem] theorem bzf:L.env.bytes 52 = 16:=by kernel_rfl
@[go_sem] theorem bxq:L.env.bytes 53 = 1:=by kernel_rfl
@[go_sem] theorem bze:L.env.bytes 55 = 40:=by kernel_rfl
@[go_sem] theorem bzd:L.env.bytes 60 = 48:=by kernel_rfl
@[go_sem] theorem bzc:L.env.bytes 82 = 8:=by kernel_rfl
@[go_sem] theorem bv6:L.env.bytes 102 = 48:=by kernel_rfl
@[go_sem] theorem bv5:L.env.bytes 103 = 24:=by kernel_rfl
@[go_sem] theorem bqp:L.env.bytes 111 = 16:=by kernel_rfl
@[go_sem] theorem is3:isT L.env 3 = true:=by kernel_rfl
@[go_sem] theorem sz3:L.env.sz 3 = 1:=by kernel_rfl
@[go_sem] theorem ag3:agx L.env 3 = some false:=by kernel_rfl
@[go_sem] theorem in3:bgr L.env 3 = some .i64:=by kernel_rfl
@[go_sem] theorem ze3:L.env.zero 3 = some [.int .i64 0]:=by kernel_rfl
@[go_sem] theorem is4:isT L.env 4 = true:=by kernel_rfl
@[go_sem] theorem sz4:L.env.sz 4 = 1:=by kernel_rfl
@[go_sem] theorem ag4:agx L.env 4 = some false:=by kernel_rfl
@[go_sem] theorem un4:L.env.und 4 = some .bool:=by kernel_rfl
@[go_sem] theorem ze4:L.env.zero 4 = some [.bool false]:=by kernel_rfl
@[go_sem] theorem is5:isT L.env 5 = true:=by kernel_rfl
@[go_sem] theorem sz5:L.env.sz 5 = 1:=by kernel_rfl
@[go_sem] theorem ag5:agx L.env 5 = some false:=by kernel_rfl
@[go_sem] theorem in5:bgr L.env 5 = some .u8:=by kernel_rfl
@[go_sem] theorem ze5:L.env.zero 5 = some [.int .u8 0]:=by kernel_rfl
@[go_sem] theorem is9:isT L.env 9 = true:=by kernel_rfl
@[go_sem] theorem sz9:L.env.sz 9 = 1:=by kernel_rfl
@[go_sem] theorem ag9:agx L.env 9 = some false:=by kernel_rfl
@[go_sem] theorem ze9:L.env.zero 9 = some [.str []]:=by kernel_rfl
@[go_sem] theorem ccg:isT L.env 22 = true:=by kernel_rfl
@[go_sem] theorem ar22:aw1 L.env 22 = some (2,5):=by kernel_rfl
@[go_sem] theorem ar23:aw1 L.env 23 = some (4,5):=by kernel_rfl
@[go_sem] theorem ccf:isT L.env 24 = true:=by kernel_rfl
@[go_sem] theorem cb1:L.env.sz 24 = 1:=by kernel_rfl
@[go_sem] theorem cdm:agx L.env 24 = some false:=by kernel_rfl
@[go_sem] theorem st24:slT L.env 24 = some 127:=by kernel_rfl
@[go_sem] theorem cce:isT L.env 25 = true:=by kernel_rfl
@[go_sem] theorem cb0:L.env.sz 25 = 1:=by kernel_rfl
@[go_sem] theorem cdl:agx L.env 25 = some false:=by kernel_rfl
@[go_sem] theorem st25:slT L.env 25 = some 5:=by kernel_rfl
@[go_sem] theorem cck:byT L.env 25 9 = true:=by kernel_rfl
@[go_sem] theorem ccd:isT L.env 27 = true:=by kernel_rfl
@[go_sem] theorem caz:L.env.sz 27 = 12:=by kernel_rfl
@[go_sem] theorem cdk:agx L.env 27 = some true:=by kernel_rfl
theorem ft27:aju L.env 27 = some [5,5,22,4,4,23,24,25]:=by kernel_rfl
@[go_sem] theorem bxo:afc L.env 27 0 = some (0,5):=by kernel_rfl
@[go_sem] theorem bxn:afc L.env 27 1 = some (1,5):=by kernel_rfl
@[go_sem] theorem bxm:afc L.env 27 2 = some (2,22):=by kernel_rfl
@[go_sem] theorem bxl:afc L.env 27 3 = some (4,4):=by kernel_rfl
@[go_sem] theorem bxk:afc L.env 27 4 = some (5,4):=by kernel_rfl
@[go_sem] theorem bxj:afc L.env 27 6 = some (10,24):=by kernel_rfl
@[go_sem] theorem bxi:afc L.env 27 7 = some (11,25):=by kernel_rfl
@[go_sem] theorem ccc:isT L.env 28 = true:=by kernel_rfl
@[go_sem] theorem cay:L.env.sz 28 = 1:=by kernel_rfl
@[go_sem] theorem cdj:agx L.env 28 = some false:=by kernel_rfl
@[go_sem] theorem st28:slT L.env 28 = some 72:=by kernel_rfl
@[go_sem] theorem ccb:isT L.env 29 = true:=by kernel_rfl
@[go_sem] theorem cax:L.env.sz 29 = 1:=by kernel_rfl
@[go_sem] theorem cdi:agx L.env 29 = some false:=by kernel_rfl
@[go_sem] theorem st29:slT L.env 29 = some 66:=by kernel_rfl
@[go_sem] theorem caw:L.env.sz 31 = 14:=by kernel_rfl
@[go_sem] theorem ag31:agx L.env 31 = some true:=by kernel_rfl
theorem ft31:aju L.env 31 = some [27,28,29]:=by kernel_rfl
@[go_sem] theorem bxh:afc L.env 31 0 = some (0,27):=by kernel_rfl
@[go_sem] theorem bxg:afc L.env 31 1 = some (12,28):=by kernel_rfl
@[go_sem] theorem bxf:afc L.env 31 2 = some (13,29):=by kernel_rfl
@[go_sem] theorem cca:isT L.env 32 = true:=by kernel_rfl
@[go_sem] theorem cav:L.env.sz 32 = 1:=by kernel_rfl
@[go_sem] theorem cdh:agx L.env 32 = some false:=by kernel_rfl
@[go_sem] theorem cbc:slT L.env 32 = some 102:=by kernel_rfl
@[go_sem] theorem ccx:apT L.env 32 32 = some 102:=by kernel_rfl
@[go_sem] theorem cbj {k:Nat} (h:(k ≤ 1000000000) = True):acy L.env 102 k = true:=aig (of_eq_true h) (by rw [bv6];decide)
@[go_sem] theorem cc9:isT L.env 33 = true:=by kernel_rfl
@[go_sem] theorem cau:L.env.sz 33 = 1:=by kernel_rfl
@[go_sem] theorem cdg:agx L.env 33 = some false:=by kernel_rfl
@[go_sem] theorem cbb:slT L.env 33 = some 9:=by kernel_rfl
@[go_sem] theorem ccw:apT L.env 33 33 = some 9:=by kernel_rfl
@[go_sem] theorem cbi {k:Nat} (h:(k ≤ 1000000000) = True):acy L.env 9 k = true:=aig (of_eq_true h) (by rw [by9];decide)
@[go_sem] theorem cc8:isT L.env 34 = true:=by kernel_rfl
@[go_sem] theorem cat:L.env.sz 34 = 1:=by kernel_rfl
@[go_sem] theorem cdf:agx L.env 34 = some false:=by kernel_rfl
@[go_sem] theorem cba:slT L.env 34 = some 129:=by kernel_rfl
@[go_sem] theorem cc7:isT L.env 35 = true:=by kernel_rfl
@[go_sem] theorem cas:L.env.sz 35 = 1:=by kernel_rfl
@[go_sem] theorem cde:agx L.env 35 = some false:=by kernel_rfl
@[go_sem] theorem cb9:slT L.env 35 = some 3:=by kernel_rfl
@[go_sem] theorem ccv:apT L.env 35 35 = some 3:=by kernel_rfl
@[go_sem] theorem cbh {k:Nat} (h:(k ≤ 1000000000) = True):acy L.env 3 k = true:=aig (of_eq_true h) (by rw [by3];decide)
@[go_sem] theorem cbp {k:Nat} (h:(k ≤ 1000000000) = True):bbs L.env 3 (k:Int) (k:Int) = true:=ahu (of_eq_true h) (by rw [by3];decide)
@[go_sem] theorem ca9:L.env.zero 35 = some [.nilslice]:=by kernel_rfl
@[go_sem] theorem cc6:isT L.env 37 = true:=by kernel_rfl
@[go_sem] theorem car:L.env.sz 37 = 4:=by kernel_rfl
@[go_sem] theorem cdd:agx L.env 37 = some true:=by kernel_rfl
@[go_sem] theorem bxe:afc L.env 37 0 = some (0,32):=by kernel_rfl
@[go_sem] theorem bxd:afc L.env 37 1 = some (1,33):=by kernel_rfl
@[go_sem] theorem bxc:afc L.env 37 2 = some (2,34):=by kernel_rfl
@[go_sem] theorem bxb:afc L.env 37 3 = some (3,35):=by kernel_rfl
@[go_sem] theorem ca8:L.env.zero 37 = some [.nilslice,.nilslice,.nilslice,.nilslice]:=by kernel_rfl
@[go_sem] theorem cb8:slT L.env 38 = some 55:=by kernel_rfl
@[go_sem] theorem ccu:apT L.env 38 38 = some 55:=by kernel_rfl
@[go_sem] theorem cbg {k:Nat} (h:(k ≤ 1000000000) = True):acy L.env 55 k = true:=aig (of_eq_true h) (by rw [bze];decide)
@[go_sem] theorem cb7:slT L.env 39 = some 60:=by kernel_rfl
@[go_sem] theorem cct:apT L.env 39 39 = some 60:=by kernel_rfl
@[go_sem] theorem cbf {k:Nat} (h:(k ≤ 1000000000) = True):acy L.env 60 k = true:=aig (of_eq_true h) (by rw [bzd];decide)
@[go_sem] theorem cc5:isT L.env 42 = true:=by kernel_rfl
@[go_sem] theorem caq:L.env.sz 42 = 1:=by kernel_rfl
@[go_sem] theorem cdc:agx L.env 42 = some false:=by kernel_rfl
@[go_sem] theorem cb6:slT L.env 42 = some 46:=by kernel_rfl
@[go_sem] theorem cbo {k:Nat} (h:(k ≤ 1000000000) = True):bbs L.env 46 (k:Int) (k:Int) = true:=ahu (of_eq_true h) (by rw [bzg];decide)
@[go_sem] theorem ca7:L.env.zero 42 = some [.nilslice]:=by kernel_rfl
@[go_sem] theorem cc4:isT L.env 46 = true:=by kernel_rfl
@[go_sem] theorem cao:L.env.sz 46 = 1:=by kernel_rfl
@[go_sem] theorem cdb:agx L.env 46 = some false:=by kernel_rfl
@[go_sem] theorem cb5:slT L.env 46 = some 82:=by kernel_rfl
@[go_sem] theorem cbn {k:Nat} (h:(k ≤ 1000000000) = True):bbs L.env 82 (k:Int) (k:Int) = true:=ahu (of_eq_true h) (by rw [bzc];decide)
@[go_sem] theorem ca6:L.env.zero 46 = some [.nilslice]:=by kernel_rfl
@[go_sem] theorem cb4:slT L.env 47 = some 4:=by kernel_rfl
@[go_sem] theorem cbm {k:Nat} (h:(k ≤ 1000000000) = True):bbs L.env 4 (k:Int) (k:Int) = true:=ahu (of_eq_true h) (by rw [by4];decide)
@[go_sem] theorem cc3:isT L.env 50 = true:=by kernel_rfl
@[go_sem] theorem can:L.env.sz 50 = 1:=by kernel_rfl
@[go_sem] theorem cda:agx L.env 50 = some false:=by kernel_rfl
@[go_sem] theorem cc2:isT L.env 52 = true:=by kernel_rfl
@[go_sem] theorem cam:L.env.sz 52 = 2:=by kernel_rfl
@[go_sem] theorem cd9:agx L.env 52 = some true:=by kernel_rfl
@[go_sem] theorem ccp:bdw L.env 52 = true:=by kernel_rfl
@[go_sem] theorem bxa:afc L.env 52 0 = some (0,3):=by kernel_rfl
@[go_sem] theorem bw5:ame L.env 52 0 = some (0,1):=by kernel_rfl
@[go_sem] theorem bx9:afc L.env 52 1 = some (1,3):=by kernel_rfl
@[go_sem] theorem bw4:ame L.env 52 1 = some (1,1):=by kernel_rfl
@[go_sem] theorem ca5:L.env.zero 52 = some [.int .i64 0,.int .i64 0]:=by kernel_rfl
@[go_sem] theorem cc1:isT L.env 53 = true:=by kernel_rfl
@[go_sem] theorem cal:L.env.sz 53 = 1:=by kernel_rfl
@[go_sem] theorem cd8:agx L.env 53 = some false:=by kernel_rfl
@[go_sem] theorem ca4:L.env.zero 53 = some [.int .u8 0]:=by kernel_rfl
@[go_sem] theorem cc0:isT L.env 55 = true:=by kernel_rfl
@[go_sem] theorem cak:L.env.sz 55 = 5:=by kernel_rfl
@[go_sem] theorem cd7:agx L.env 55 = some true:=by kernel_rfl
@[go_sem] theorem cco:bdw L.env 55 = true:=by kernel_rfl
@[go_sem] theorem bx8:afc L.env 55 0 = some (0,50):=by kernel_rfl
@[go_sem] theorem bw3:ame L.env 55 0 = some (0,1):=by kernel_rfl
@[go_sem] theorem bx7:afc L.env 55 1 = some (1,52):=by kernel_rfl
@[go_sem] theorem bw2:ame L.env 55 1 = some (1,2):=by kernel_rfl
@[go_sem] theorem bx6:afc L.env 55 2 = some (3,53):=by kernel_rfl
@[go_sem] theorem bx5:afc L.env 55 3 = some (4,3):=by kernel_rfl
@[go_sem] theorem ca3:L.env.zero 55 = some [.int .u8 0,.int .i64 0,.int .i64 0,.int .u8 0,.int .i64 0]:=by kernel_rfl
@[go_sem] theorem cbz:isT L.env 58 = true:=by kernel_rfl
@[go_sem] theorem caj:L.env.sz 58 = 1:=by kernel_rfl
@[go_sem] theorem cd6:agx L.env 58 = some false:=by kernel_rfl
@[go_sem] theorem cb3:slT L.env 58 = some 53:=by kernel_rfl
@[go_sem] theorem ccs:apT L.env 58 58 = some 53:=by kernel_rfl
@[go_sem] theorem cbe {k:Nat} (h:(k ≤ 1000000000) = True):acy L.env 53 k = true:=aig (of_eq_true h) (by rw [bxq];decide)
@[go_sem] theorem cbl {k:Nat} (h:(k ≤ 1000000000) = True):bbs L.env 53 (k:Int) (k:Int) = true:=ahu (of_eq_true h) (by rw [bxq];decide)
@[go_sem] theorem cby:isT L.env 60 = true:=by kernel_rfl
@[go_sem] theorem cai:L.env.sz 60 = 2:=by kernel_rfl
@[go_sem] theorem cd5:agx L.env 60 = some true:=by kernel_rfl
@[go_sem] theorem ccn:bdw L.env 60 = true:=by kernel_rfl
@[go_sem] theorem bx4:afc L.env 60 0 = some (0,58):=by kernel_rfl
@[go_sem] theorem bw1:ame L.env 60 0 = some (0,1):=by kernel_rfl
@[go_sem] theorem bx3:afc L.env 60 1 = some (1,58):=by kernel_rfl
@[go_sem] theorem bw0:ame L.env 60 1 = some (1,1):=by kernel_rfl
@[go_sem] theorem ca2:L.env.zero 60 = some [.nilslice,.nilslice]:=by kernel_rfl
@[go_sem] theorem cbx:isT L.env 66 = true:=by kernel_rfl
@[go_sem] theorem cah:L.env.sz 66 = 2:=by kernel_rfl
@[go_sem] theorem cd4:agx L.env 66 = some true:=by kernel_rfl
theorem ft66:aju L.env 66 = some [25,25]:=by kernel_rfl
@[go_sem] theorem bx2:afc L.env 66 0 = some (0,25):=by kernel_rfl
@[go_sem] theorem bx1:afc L.env 66 1 = some (1,25):=by kernel_rfl
@[go_sem] theorem cbw:isT L.env 72 = true:=by kernel_rfl
@[go_sem] theorem cag:L.env.sz 72 = 5:=by kernel_rfl
@[go_sem] theorem ag72:agx L.env 72 = some true:=by kernel_rfl
theorem ft72:aju L.env 72 = some [5,5,5,5,4]:=by kernel_rfl
@[go_sem] theorem bx0:afc L.env 72 0 = some (0,5):=by kernel_rfl
@[go_sem] theorem bwz:afc L.env 72 1 = some (1,5):=by kernel_rfl
@[go_sem] theorem bwy:afc L.env 72 2 = some (2,5):=by kernel_rfl
@[go_sem] theorem bwx:afc L.env 72 3 = some (3,5):=by kernel_rfl
@[go_sem] theorem bww:afc L.env 72 4 = some (4,4):=by kernel_rfl
@[go_sem] theorem ca1:L.env.zero 72 = some [.int .u8 0,.int .u8 0,.int .u8 0,.int .u8 0,.bool false]:=by kernel_rfl
@[go_sem] theorem cbv:isT L.env 76 = true:=by kernel_rfl
@[go_sem] theorem caf:L.env.sz 76 = 1:=by kernel_rfl
@[go_sem] theorem cd3:agx L.env 76 = some false:=by kernel_rfl
@[go_sem] theorem cbu:isT L.env 77 = true:=by kernel_rfl
@[go_sem] theorem cae:L.env.sz 77 = 1:=by kernel_rfl
@[go_sem] theorem cd2:agx L.env 77 = some false:=by kernel_rfl
@[go_sem] theorem cbt:isT L.env 79 = true:=by kernel_rfl
@[go_sem] theorem cad:L.env.sz 79 = 9:=by kernel_rfl
@[go_sem] theorem cd1:agx L.env 79 = some true:=by kernel_rfl
@[go_sem] theorem ccm:bdw L.env 79 = true:=by kernel_rfl
@[go_sem] theorem bwv:afc L.env 79 0 = some (0,37):=by kernel_rfl
@[go_sem] theorem bvz:ame L.env 79 0 = some (0,4):=by kernel_rfl
@[go_sem] theorem bwu:afc L.env 79 1 = some (4,35):=by kernel_rfl
@[go_sem] theorem bvy:ame L.env 79 1 = some (4,1):=by kernel_rfl
@[go_sem] theorem bwt:afc L.env 79 2 = some (5,35):=by kernel_rfl
@[go_sem] theorem bvx:ame L.env 79 2 = some (5,1):=by kernel_rfl
@[go_sem] theorem bws:afc L.env 79 3 = some (6,35):=by kernel_rfl
@[go_sem] theorem bvw:ame L.env 79 3 = some (6,1):=by kernel_rfl
@[go_sem] theorem bwr:afc L.env 79 4 = some (7,76):=by kernel_rfl
@[go_sem] theorem bvv:ame L.env 79 4 = some (7,1):=by kernel_rfl
@[go_sem] theorem bwq:afc L.env 79 5 = some (8,77):=by kernel_rfl
@[go_sem] theorem bvu:ame L.env 79 5 = some (8,1):=by kernel_rfl
@[go_sem] theorem ca0:L.env.zero 79 = some [.nilslice,.nilslice,.nilslice,.nilslice,.nilslice,.nilslice,.nilslice,.nilfunc,.nilfunc]:=by kernel_rfl
@[go_sem] theorem cbs:isT L.env 82 = true:=by kernel_rfl
@[go_sem] theorem cac:L.env.sz 82 = 1:=by kernel_rfl
@[go_sem] theorem cd0:agx L.env 82 = some false:=by kernel_rfl
@[go_sem] theorem bzz:L.env.zero 82 = some [.int .u64 0]:=by kernel_rfl
@[go_sem] theorem cb2:slT L.env 85 = some 111:=by kernel_rfl
@[go_sem] theorem ccr:apT L.env 85 85 = some 111:=by kernel_rfl
@[go_sem] theorem cbd {k:Nat} (h:(k ≤ 1000000000) = True):acy L.env 111 k = true:=aig (of_eq_true h) (by rw [bqp];decide)
@[go_sem] theorem cbk {k:Nat} (h:(k ≤ 1000000000) = True):bbs L.env 111 (k:Int) (k:Int) = true:=ahu (of_eq_true h) (by rw [bqp];decide)
@[go_sem] theorem cbr:isT L.env 94 = true:=by kernel_rfl
@[go_sem] theorem cab:L.env.sz 94 = 1:=by kernel_rfl
@[go_sem] theorem ccz:agx L.env 94 = some false:=by kernel_rfl
@[go_sem] theorem cch:bgr L.env 94 = some .u8:=by kernel_rfl
@[go_sem] theorem bzy:L.env.zero 94 = some [.int .u8 0]:=by kernel_rfl
@[go_sem] theorem cbq:isT L.env 96 = true:=by kernel_rfl
@[go_sem] theorem caa:L.env.sz 96 = 2:=by kernel_rfl
@[go_sem] theorem ccy:agx L.env 96 = some true:=by kernel_rfl
@[go_sem] theorem ccl:bdw L.env 96 = true:=by kernel_rfl
@[go_sem] theorem bwp:afc L.env 96 0 = some (0,58):=by kernel_rfl
@[go_sem] theorem bvt:ame L.env 96 0 = some (0,1):=by kernel_rfl
@[go_sem] theorem bwo:afc L.env 96 1 = some (1,58):=by kernel_rfl
@[go_sem] theorem bvr:ame L.env 96 1 = some (1,1):=by kernel_rfl
@[go_sem] theorem bzx:L.env.zero 96 = some [.nilslice,.nilslice]:=by kernel_rfl
@[go_sem] theorem bz4:isT L.env 102 = true:=by kernel_rfl
@[go_sem] theorem byb:L.env.sz 102 = 4:=by kernel_rfl
@[go_sem] theorem bzw:agx L.env 102 = some true:=by kernel_rfl
@[go_sem] theorem bzk:bdw L.env 102 = true:=by kernel_rfl
@[go_sem] theorem buw:afc L.env 102 0 = some (0,94):=by kernel_rfl
@[go_sem] theorem btr:ame L.env 102 0 = some (0,1):=by kernel_rfl
@[go_sem] theorem buv:afc L.env 102 1 = some (1,35):=by kernel_rfl
@[go_sem] theorem btq:ame L.env 102 1 = some (1,1):=by kernel_rfl
@[go_sem] theorem buu:afc L.env 102 2 = some (2,3):=by kernel_rfl
@[go_sem] theorem but:afc L.env 102 3 = some (3,3):=by kernel_rfl
@[go_sem] theorem bxy:L.env.zero 102 = some [.int .u8 0,.nilslice,.int .i64 0,.int .i64 0]:=by kernel_rfl
@[go_sem] theorem bz3:isT L.env 103 = true:=by kernel_rfl
@[go_sem] theorem bya:L.env.sz 103 = 1:=by kernel_rfl
@[go_sem] theorem bzv:agx L.env 103 = some false:=by kernel_rfl
@[go_sem] theorem byf:slT L.env 103 = some 52:=by kernel_rfl
@[go_sem] theorem bzo:apT L.env 103 103 = some 52:=by kernel_rfl
@[go_sem] theorem byh {k:Nat} (h:(k ≤ 1000000000) = True):acy L.env 52 k = true:=aig (of_eq_true h) (by rw [bzf];decide)
@[go_sem] theorem bxx:L.env.zero 103 = some [.nilslice]:=by kernel_rfl
@[go_sem] theorem bz2:isT L.env 111 = true:=by kernel_rfl
@[go_sem] theorem by8:L.env.sz 111 = 2:=by kernel_rfl
@[go_sem] theorem bzu:agx L.env 111 = some true:=by kernel_rfl
@[go_sem] theorem bzj:bdw L.env 111 = true:=by kernel_rfl
@[go_sem] theorem bur:afc L.env 111 0 = some (0,82):=by kernel_rfl
@[go_sem] theorem btp:ame L.env 111 0 = some (0,1):=by kernel_rfl
@[go_sem] theorem buq:afc L.env 111 1 = some (1,82):=by kernel_rfl
@[go_sem] theorem bto:ame L.env 111 1 = some (1,1):=by kernel_rfl
@[go_sem] theorem bxw:L.env.zero 111 = some [.int .u64 0,.int .u64 0]:=by kernel_rfl
@[go_sem] theorem bz1:isT L.env 125 = true:=by kernel_rfl
@[go_sem] theorem ar125:aw1 L.env 125 = some (3,5):=by kernel_rfl
@[go_sem] theorem bz0:isT L.env 127 = true:=by kernel_rfl
@[go_sem] theorem by7:L.env.sz 127 = 4:=by kernel_rfl
@[go_sem] theorem bzt:agx L.env 127 = some true:=by kernel_rfl
theorem ft127:aju L.env 127 = some [5,125]:=by kernel_rfl
@[go_sem] theorem bup:afc L.env 127 0 = some (0,5):=by kernel_rfl
@[go_sem] theorem buo:afc L.env 127 1 = some (1,125):=by kernel_rfl
@[go_sem] theorem byz:isT L.env 136 = true:=by kernel_rfl
@[go_sem] theorem by6:L.env.sz 136 = 1:=by kernel_rfl
@[go_sem] theorem bzs:agx L.env 136 = some false:=by kernel_rfl
@[go_sem] theorem byy:isT L.env 137 = true:=by kernel_rfl
@[go_sem] theorem by5:L.env.sz 137 = 1:=by kernel_rfl
@[go_sem] theorem bzr:agx L.env 137 = some false:=by kernel_rfl
@[go_sem] theorem bzi:bdw L.env 139 = true:=by kernel_rfl
@[go_sem] theorem bun:afc L.env 139 0 = some (0,37):=by kernel_rfl
@[go_sem] theorem btn:ame L.env 139 0 = some (0,4):=by kernel_rfl
@[go_sem] theorem bum:afc L.env 139 1 = some (4,58):=by kernel_rfl
@[go_sem] theorem bul:afc L.env 139 2 = some (5,136):=by kernel_rfl
@[go_sem] theorem btm:ame L.env 139 2 = some (5,1):=by kernel_rfl
@[go_sem] theorem buk:afc L.env 139 3 = some (6,137):=by kernel_rfl
@[go_sem] theorem btl:ame L.env 139 3 = some (6,1):=by kernel_rfl
@[go_sem] theorem bxv:L.env.zero 139 = some [.nilslice,.nilslice,.nilslice,.nilslice,.nilslice,.nilfunc,.nilfunc]:=by kernel_rfl
@[go_sem] theorem bzn:aw1 L.env 149 = some (4,111):=by kernel_rfl
@[go_sem] theorem by2:L.env.sz 150 = 1:=by kernel_rfl
@[go_sem] theorem bzq:agx L.env 150 = some false:=by kernel_rfl
@[go_sem] theorem byx:isT L.env 158 = true:=by kernel_rfl
@[go_sem] theorem by1:L.env.sz 158 = 5:=by kernel_rfl
@[go_sem] theorem bzp:agx L.env 158 = some true:=by kernel_rfl
@[go_sem] theorem bzh:bdw L.env 158 = true:=by kernel_rfl
@[go_sem] theorem buj:afc L.env 158 0 = some (0,37):=by kernel_rfl
@[go_sem] theorem btk:ame L.env 158 0 = some (0,4):=by kernel_rfl
@[go_sem] theorem bui:afc L.env 158 1 = some (4,58):=by kernel_rfl
@[go_sem] theorem btj:ame L.env 158 1 = some (4,1):=by kernel_rfl
@[go_sem] theorem bxu:L.env.zero 158 = some [.nilslice,.nilslice,.nilslice,.nilslice,.nilslice]:=by kernel_rfl
@[go_sem] theorem bye:slT L.env 172 = some 103:=by kernel_rfl
@[go_sem] theorem byr {k:Nat} (h:(k ≤ 1000000000) = True):bbs L.env 103 (k:Int) (k:Int) = true:=ahu (of_eq_true h) (by rw [bv5];decide)
@[go_sem] theorem byd:slT L.env 176 = some 94:=by kernel_rfl
@[go_sem] theorem byw:isT L.env 179 = true:=by kernel_rfl
@[go_sem] theorem by0:L.env.sz 179 = 2:=by kernel_rfl
@[go_sem] theorem bzm:aw1 L.env 179 = some (2,3):=by kernel_rfl
@[go_sem] theorem bzl:aw1 L.env 180 = some (16,179):=by kernel_rfl
end Go.ZInst
