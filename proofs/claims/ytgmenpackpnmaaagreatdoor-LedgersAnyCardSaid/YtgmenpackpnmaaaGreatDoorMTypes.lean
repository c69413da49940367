/- Type facts (printed by AxTypes). -/
import Derived.Test.YtgmenpackpnmaaaGreatDoorMInst
import Derived.Test.YtgmenpackpnmaaaGreatDoorAxE
set_option linter.unusedSimpArgs false
set_option linter.unusedVariables false
namespace Go.MInst
open Go.Proofs Go.Ax
@[go_sem] theorem roF (g:FuncId):L.env.ro g = decide (g = 75 ∨ g = 76):=by rfl
@[go_sem] theorem c70 (g:FuncId):L.env.thaw g = decide (g = 44 ∨ g = 70 ∨ g = 32 ∨ g = 54 ∨ g = 39 ∨ g = 24):=by rfl
@[go_sem] theorem kp5_0:L.env.keep 5 0 = [1,2,5,6]:=by kernel_rfl
@[go_sem] theorem kp5_2:L.env.keep 5 2 = [2,9,10,11]:=by kernel_rfl
@[go_sem] theorem kp5_4:L.env.keep 5 4 = [2,9,10,12]:=by kernel_rfl
@[go_sem] theorem kp5_6:L.env.keep 5 6 = [2,13,14]:=by kernel_rfl
@[go_sem] theorem kp5_8:L.env.keep 5 8 = [2,13,14,15,16]:=by kernel_rfl
@[go_sem] theorem kp11_0:L.env.keep 11 0 = [3,19,20,21]:=by kernel_rfl
@[go_sem] theorem kp11_2:L.env.keep 11 2 = [3,6]:=by kernel_rfl
@[go_sem] theorem kp12_0:L.env.keep 12 0 = [1,2,4,9,10,11]:=by kernel_rfl
@[go_sem] theorem kp23_0:L.env.keep 23 0 = [0,3]:=by kernel_rfl
@[go_sem] theorem kp23_2:L.env.keep 23 2 = [0,3,4,5]:=by kernel_rfl
@[go_sem] theorem kp37_0:L.env.keep 37 0 = [0,1,5,6]:=by kernel_rfl
@[go_sem] theorem kp55_0:L.env.keep 55 0 = [0,1,7,8]:=by kernel_rfl
@[go_sem] theorem kp56_0:L.env.keep 56 0 = [0,1,2,3,8,9]:=by kernel_rfl
@[go_sem] theorem kp90_0:L.env.keep 90 0 = [0,1,2,6]:=by kernel_rfl
@[go_sem] theorem kp90_2:L.env.keep 90 2 = [0,1,2,6,7]:=by kernel_rfl
@[go_sem] theorem kp91_0:L.env.keep 91 0 = [0,6,7,8,9]:=by kernel_rfl
@[go_sem] theorem kp91_2:L.env.keep 91 2 = [0,6,7,10]:=by kernel_rfl
@[go_sem] theorem kp92_0:L.env.keep 92 0 = [0,1,6,7,8,9]:=by kernel_rfl
@[go_sem] theorem kp94_0:L.env.keep 94 0 = [0,6,7]:=by kernel_rfl
@[go_sem] theorem kp95_0:L.env.keep 95 0 = [0,1,2,7,8]:=by kernel_rfl
@[go_sem] theorem kp95_2:L.env.keep 95 2 = [0,1,2,7,8]:=by kernel_rfl
@[go_sem] theorem kp95_4:L.env.keep 95 4 = [0,1,2,7,8,9]:=by kernel_rfl
@[go_sem] theorem kp95_6:L.env.keep 95 6 = [0,1,2,7,8,10]:=by kernel_rfl
@[go_sem] theorem kp97_0:L.env.keep 97 0 = [0,1,9,10]:=by kernel_rfl
@[go_sem] theorem kp97_2:L.env.keep 97 2 = [0,1,9,10]:=by kernel_rfl
@[go_sem] theorem kp97_4:L.env.keep 97 4 = [0,1,9,10]:=by kernel_rfl
@[go_sem] theorem kp98_0:L.env.keep 98 0 = [0,1,10,11]:=by kernel_rfl
@[go_sem] theorem kp98_2:L.env.keep 98 2 = [0,1,10,11]:=by kernel_rfl
@[go_sem] theorem kp98_4:L.env.keep 98 4 = [0,1,10,11]:=by kernel_rfl
@[go_sem] theorem kp98_6:L.env.keep 98 6 = [0,1,10,11]:=by kernel_rfl
@[go_sem] theorem kp98_8:L.env.keep 98 8 = [0,1,10,11]:=by kernel_rfl
@[go_sem] theorem kp134_0:L.env.keep 134 0 = [0,2,3,8]:=by kernel_rfl
@[go_sem] theorem by3:L.env.bytes 3 = 8:=by kernel_rfl
@[go_sem] theorem is3:isT L.env 3 = true:=by kernel_rfl
@[go_sem] theorem sz3:L.env.sz 3 = 1:=by kernel_rfl
@[go_sem] theorem ag3:b39 L.env 3 = some false:=by kernel_rfl
@[go_sem] theorem in3:b5b L.env 3 = some .i64:=by kernel_rfl
@[go_sem] theorem ze3:L.env.zero 3 = some [.int .i64 0]:=by kernel_rfl
@[go_sem] theorem c7w:isT L.env 35 = true:=by kernel_rfl
@[go_sem] theorem c7u:L.env.sz 35 = 1:=by kernel_rfl
@[go_sem] theorem c81:b39 L.env 35 = some false:=by kernel_rfl
@[go_sem] theorem st35:slT L.env 35 = some 3:=by kernel_rfl
@[go_sem] theorem c80:apT L.env 35 35 = some 3:=by kernel_rfl
@[go_sem] theorem c7v {k:Nat} (h:(k ≤ 1000000000) = True):a2e L.env 3 k = true:=b3l (of_eq_true h) (by rw [by3];decide)
@[go_sem] theorem c7t:L.env.sz 43 = 3:=by kernel_rfl
@[go_sem] theorem ag43:b39 L.env 43 = some true:=by kernel_rfl
theorem ft43:b1c L.env 43 = some [35,35,3]:=by kernel_rfl
@[go_sem] theorem c6u:b94 L.env 43 0 = some (0,35):=by kernel_rfl
@[go_sem] theorem c6t:b94 L.env 43 1 = some (1,35):=by kernel_rfl
@[go_sem] theorem c6s:b94 L.env 43 2 = some (2,3):=by kernel_rfl
@[go_sem] theorem c7i:isT L.env 127 = true:=by kernel_rfl
@[go_sem] theorem c73:L.env.sz 127 = 1:=by kernel_rfl
@[go_sem] theorem c7s:b39 L.env 127 = some false:=by kernel_rfl
@[go_sem] theorem c7h:isT L.env 134 = true:=by kernel_rfl
@[go_sem] theorem c7l:b5b L.env 134 = some .u64:=by kernel_rfl
@[go_sem] theorem c7g:isT L.env 159 = true:=by kernel_rfl
@[go_sem] theorem c72:L.env.sz 159 = 2:=by kernel_rfl
@[go_sem] theorem c7r:b39 L.env 159 = some true:=by kernel_rfl
@[go_sem] theorem c7p:c66 L.env 159 = true:=by kernel_rfl
@[go_sem] theorem c5v:b94 L.env 159 0 = some (0,127):=by kernel_rfl
@[go_sem] theorem c56:c3p L.env 159 0 = some (0,1):=by kernel_rfl
@[go_sem] theorem c5u:b94 L.env 159 1 = some (1,127):=by kernel_rfl
@[go_sem] theorem c55:c3p L.env 159 1 = some (1,1):=by kernel_rfl
@[go_sem] theorem c6z:L.env.zero 159 = some [.int .u64 0,.int .u64 0]:=by kernel_rfl
@[go_sem] theorem c7f:isT L.env 201 = true:=by kernel_rfl
@[go_sem] theorem c71:L.env.sz 201 = 1:=by kernel_rfl
@[go_sem] theorem c7q:b39 L.env 201 = some false:=by kernel_rfl
@[go_sem] theorem c7k:b5b L.env 201 = some .u64:=by kernel_rfl
@[go_sem] theorem c6y:L.env.zero 201 = some [.int .u64 0]:=by kernel_rfl
end Go.MInst
