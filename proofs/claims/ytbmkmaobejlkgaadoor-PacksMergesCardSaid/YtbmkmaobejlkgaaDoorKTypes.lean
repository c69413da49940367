/- Type facts (printed by AxTypes). -/
import Derived.Test.YtbmkmaobejlkgaaDoorKInst
import Derived.Test.YtbmkmaobejlkgaaDoorAxE
set_option linter.unusedSimpArgs false
set_option linter.unusedVariables false
namespace Go.KInst
open Go.Proofs Go.Ax
@[go_sem] theorem roF (g:FuncId):L.env.ro g = false:=by rfl
@[go_sem] theorem thawF (g:FuncId):L.env.thaw g = decide (g = 88 ∨ g = 50 ∨ g = 28):=by rfl
@[go_sem] theorem kp5_0:L.env.keep 5 0 = [5,6,7,9,10,11,1000000]:=by kernel_rfl
@[go_sem] theorem kp5_2:L.env.keep 5 2 = [5,6,7,9,10,11,12,13]:=by kernel_rfl
@[go_sem] theorem kp5_4:L.env.keep 5 4 = [5,6,7,9,10,14,17]:=by kernel_rfl
@[go_sem] theorem kp5_6:L.env.keep 5 6 = [5,6,7,9,10,14,17,18]:=by kernel_rfl
@[go_sem] theorem kp16_0:L.env.keep 16 0 = [0,1,5]:=by kernel_rfl
@[go_sem] theorem kp18_0:L.env.keep 18 0 = [0,5,6,7,8]:=by kernel_rfl
@[go_sem] theorem kp18_2:L.env.keep 18 2 = [0,5,6,7,8,9,10]:=by kernel_rfl
@[go_sem] theorem kp19_0:L.env.keep 19 0 = [0,19,20,21]:=by kernel_rfl
@[go_sem] theorem kp19_2:L.env.keep 19 2 = [8,9,51,52,53]:=by kernel_rfl
@[go_sem] theorem kp19_4:L.env.keep 19 4 = [8,9,101,102]:=by kernel_rfl
@[go_sem] theorem kp21_0:L.env.keep 21 0 = [8,5100000]:=by kernel_rfl
@[go_sem] theorem kp42_0:L.env.keep 42 0 = [2,7200000]:=by kernel_rfl
@[go_sem] theorem kp43_0:L.env.keep 43 0 = [0,1,7,8]:=by kernel_rfl
@[go_sem] theorem kp45_0:L.env.keep 45 0 = [2,4,7,22,23,24]:=by kernel_rfl
@[go_sem] theorem kp49_0:L.env.keep 49 0 = [2,3,10,11,12]:=by kernel_rfl
@[go_sem] theorem kp53_0:L.env.keep 53 0 = [0,1,12,13]:=by kernel_rfl
@[go_sem] theorem kp54_0:L.env.keep 54 0 = [5,6,7,8400000]:=by kernel_rfl
@[go_sem] theorem kp67_0:L.env.keep 67 0 = [0,3,4]:=by kernel_rfl
@[go_sem] theorem kp71_0:L.env.keep 71 0 = [0,3,9,10,11]:=by kernel_rfl
@[go_sem] theorem kp71_2:L.env.keep 71 2 = [6,25,26,27]:=by kernel_rfl
@[go_sem] theorem kp72_0:L.env.keep 72 0 = [0,1,7,8]:=by kernel_rfl
@[go_sem] theorem kp72_2:L.env.keep 72 2 = [0,1,22,23]:=by kernel_rfl
@[go_sem] theorem kp87_0:L.env.keep 87 0 = [0,1,7,8]:=by kernel_rfl
@[go_sem] theorem by3:L.env.bytes 3 = 8:=by kernel_rfl
@[go_sem] theorem by5:L.env.bytes 5 = 1:=by kernel_rfl
@[go_sem] theorem by27:L.env.bytes 27 = 24:=by kernel_rfl
@[go_sem] theorem by45:L.env.bytes 45 = 48:=by kernel_rfl
@[go_sem] theorem by84:L.env.bytes 84 = 1:=by kernel_rfl
@[go_sem] theorem is3:isT L.env 3 = true:=by kernel_rfl
@[go_sem] theorem sz3:L.env.sz 3 = 1:=by kernel_rfl
@[go_sem] theorem ag3:aggT L.env 3 = some false:=by kernel_rfl
@[go_sem] theorem in3:intT L.env 3 = some .i64:=by kernel_rfl
@[go_sem] theorem ze3:L.env.zero 3 = some [.int .i64 0]:=by kernel_rfl
@[go_sem] theorem is5:isT L.env 5 = true:=by kernel_rfl
@[go_sem] theorem sz5:L.env.sz 5 = 1:=by kernel_rfl
@[go_sem] theorem ag5:aggT L.env 5 = some false:=by kernel_rfl
@[go_sem] theorem in5:intT L.env 5 = some .u8:=by kernel_rfl
@[go_sem] theorem ze5:L.env.zero 5 = some [.int .u8 0]:=by kernel_rfl
@[go_sem] theorem is22:isT L.env 22 = true:=by kernel_rfl
@[go_sem] theorem sz22:L.env.sz 22 = 1:=by kernel_rfl
@[go_sem] theorem ag22:aggT L.env 22 = some false:=by kernel_rfl
@[go_sem] theorem st22:slT L.env 22 = some 5:=by kernel_rfl
@[go_sem] theorem ap22:apT L.env 22 22 = some 5:=by kernel_rfl
@[go_sem] theorem rm22 {k:Nat} (h:(k ≤ 1000000000) = True):roomOk L.env 5 k = true:=room_ok (of_eq_true h) (by rw [by5];decide)
@[go_sem] theorem st24:slT L.env 24 = some 27:=by kernel_rfl
@[go_sem] theorem ap24:apT L.env 24 24 = some 27:=by kernel_rfl
@[go_sem] theorem rm24 {k:Nat} (h:(k ≤ 1000000000) = True):roomOk L.env 27 k = true:=room_ok (of_eq_true h) (by rw [by27];decide)
@[go_sem] theorem is27:isT L.env 27 = true:=by kernel_rfl
@[go_sem] theorem sz27:L.env.sz 27 = 1:=by kernel_rfl
@[go_sem] theorem ag27:aggT L.env 27 = some false:=by kernel_rfl
@[go_sem] theorem st27:slT L.env 27 = some 3:=by kernel_rfl
@[go_sem] theorem ap27:apT L.env 27 27 = some 3:=by kernel_rfl
@[go_sem] theorem rm27 {k:Nat} (h:(k ≤ 1000000000) = True):roomOk L.env 3 k = true:=room_ok (of_eq_true h) (by rw [by3];decide)
@[go_sem] theorem ze27:L.env.zero 27 = some [.nilslice]:=by kernel_rfl
@[go_sem] theorem is28:isT L.env 28 = true:=by kernel_rfl
@[go_sem] theorem sz28:L.env.sz 28 = 1:=by kernel_rfl
@[go_sem] theorem ag28:aggT L.env 28 = some false:=by kernel_rfl
@[go_sem] theorem ze28:L.env.zero 28 = some [.int .i64 0]:=by kernel_rfl
@[go_sem] theorem ag37:aggT L.env 37 = some false:=by kernel_rfl
@[go_sem] theorem st37:slT L.env 37 = some 22:=by kernel_rfl
@[go_sem] theorem st38:slT L.env 38 = some 45:=by kernel_rfl
@[go_sem] theorem ap38:apT L.env 38 38 = some 45:=by kernel_rfl
@[go_sem] theorem rm38 {k:Nat} (h:(k ≤ 1000000000) = True):roomOk L.env 45 k = true:=room_ok (of_eq_true h) (by rw [by45];decide)
@[go_sem] theorem is43:isT L.env 43 = true:=by kernel_rfl
@[go_sem] theorem sz43:L.env.sz 43 = 1:=by kernel_rfl
@[go_sem] theorem ag43:aggT L.env 43 = some false:=by kernel_rfl
@[go_sem] theorem st43:slT L.env 43 = some 84:=by kernel_rfl
@[go_sem] theorem ap43:apT L.env 43 43 = some 84:=by kernel_rfl
@[go_sem] theorem rm43 {k:Nat} (h:(k ≤ 1000000000) = True):roomOk L.env 84 k = true:=room_ok (of_eq_true h) (by rw [by84];decide)
@[go_sem] theorem ze43:L.env.zero 43 = some [.nilslice]:=by kernel_rfl
@[go_sem] theorem is45:isT L.env 45 = true:=by kernel_rfl
@[go_sem] theorem sz45:L.env.sz 45 = 2:=by kernel_rfl
@[go_sem] theorem ag45:aggT L.env 45 = some true:=by kernel_rfl
@[go_sem] theorem bl45:bldT L.env 45 = true:=by kernel_rfl
@[go_sem] theorem fl45_0:fldT L.env 45 0 = some (0,43):=by kernel_rfl
@[go_sem] theorem pl45_0:plcT L.env 45 0 = some (0,1):=by kernel_rfl
@[go_sem] theorem fl45_1:fldT L.env 45 1 = some (1,43):=by kernel_rfl
@[go_sem] theorem pl45_1:plcT L.env 45 1 = some (1,1):=by kernel_rfl
@[go_sem] theorem ze45:L.env.zero 45 = some [.nilslice,.nilslice]:=by kernel_rfl
@[go_sem] theorem sz68:L.env.sz 68 = 2:=by kernel_rfl
@[go_sem] theorem ag68:aggT L.env 68 = some true:=by kernel_rfl
@[go_sem] theorem fl68_0:fldT L.env 68 0 = some (0,22):=by kernel_rfl
@[go_sem] theorem fl68_1:fldT L.env 68 1 = some (1,22):=by kernel_rfl
@[go_sem] theorem ze68:L.env.zero 68 = some [.nilslice,.nilslice]:=by kernel_rfl
@[go_sem] theorem is84:isT L.env 84 = true:=by kernel_rfl
@[go_sem] theorem sz84:L.env.sz 84 = 1:=by kernel_rfl
@[go_sem] theorem ag84:aggT L.env 84 = some false:=by kernel_rfl
@[go_sem] theorem ze84:L.env.zero 84 = some [.int .u8 0]:=by kernel_rfl
@[go_sem] theorem sz87:L.env.sz 87 = 1:=by kernel_rfl
@[go_sem] theorem ag87:aggT L.env 87 = some false:=by kernel_rfl
@[go_sem] theorem st124:slT L.env 124 = some 43:=by kernel_rfl
end Go.KInst
