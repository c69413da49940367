/- Type facts (printed by AxTypes). -/
import Derived.Test.YtbmkmaobejlkgaaDoorKInst
import Derived.Test.YtbmkmaobejlkgaaDoorAxE
set_option linter.unusedSimpArgs false
set_option linter.unusedVariables false
namespace Go.KInst
open Go.Proofs Go.Ax
@[go_sem] theorem roF (g:FuncId):L.env.ro g = false:=by rfl
@[go_sem] theorem thawF (g:FuncId):L.env.thaw g = decide (g = 88 ∨ g = 50 ∨ g = 28):=by rfl
@[go_sem] theorem kp3_0:L.env.keep 3 0 = [5,6,7,9,11,13,15,16,17]:=by kernel_rfl
@[go_sem] theorem kp3_2:L.env.keep 3 2 = [5,6,7,9,11,13,15,19,20,1000000]:=by kernel_rfl
@[go_sem] theorem kp3_4:L.env.keep 3 4 = [5,6,7,9,11,13,15,19,20,21]:=by kernel_rfl
@[go_sem] theorem kp3_6:L.env.keep 3 6 = [7,9,11,13,15,19,22]:=by kernel_rfl
@[go_sem] theorem kp7_0:L.env.keep 7 0 = [0,6,7,8]:=by kernel_rfl
@[go_sem] theorem kp7_2:L.env.keep 7 2 = [0,6,7,8,9,10]:=by kernel_rfl
@[go_sem] theorem kp8_0:L.env.keep 8 0 = [7,8,9,10]:=by kernel_rfl
@[go_sem] theorem kp9_0:L.env.keep 9 0 = [7,8,9]:=by kernel_rfl
@[go_sem] theorem kp9_2:L.env.keep 9 2 = [7,8,9,10,11,30,31,32]:=by kernel_rfl
@[go_sem] theorem kp9_4:L.env.keep 9 4 = [7,8,9,10,11,12,14,30,31,32,38]:=by kernel_rfl
@[go_sem] theorem kp10_0:L.env.keep 10 0 = [1,7,30,31,32,1000000]:=by kernel_rfl
@[go_sem] theorem kp10_2:L.env.keep 10 2 = [1,7,10,30,31,32,36,37,38]:=by kernel_rfl
@[go_sem] theorem kp10_4:L.env.keep 10 4 = [1,13,14,15,65,66]:=by kernel_rfl
@[go_sem] theorem kp10_6:L.env.keep 10 6 = [15,17,80,81]:=by kernel_rfl
@[go_sem] theorem kp11_0:L.env.keep 11 0 = [7,16,17,18]:=by kernel_rfl
@[go_sem] theorem kp12_0:L.env.keep 12 0 = [0,1,5]:=by kernel_rfl
@[go_sem] theorem kp13_0:L.env.keep 13 0 = [0,1,5,6]:=by kernel_rfl
@[go_sem] theorem kp14_0:L.env.keep 14 0 = [0,1,5]:=by kernel_rfl
@[go_sem] theorem kp15_0:L.env.keep 15 0 = [0,1,5]:=by kernel_rfl
@[go_sem] theorem kp16_0:L.env.keep 16 0 = [0,1,5]:=by kernel_rfl
@[go_sem] theorem kp17_0:L.env.keep 17 0 = [0,1,5]:=by kernel_rfl
@[go_sem] theorem kp26_1:L.env.keep 26 1 = [1,21,22,23]:=by kernel_rfl
@[go_sem] theorem kp26_3:L.env.keep 26 3 = [1,7,21,22,23,27,28,29]:=by kernel_rfl
@[go_sem] theorem kp27_0:L.env.keep 27 0 = [0,5,14,15]:=by kernel_rfl
@[go_sem] theorem kp27_2:L.env.keep 27 2 = [5,23,24,25]:=by kernel_rfl
@[go_sem] theorem kp27_4:L.env.keep 27 4 = [5,7,23,24,25,30,31,32]:=by kernel_rfl
@[go_sem] theorem kp28_0:L.env.keep 28 0 = [3,7,8,9]:=by kernel_rfl
@[go_sem] theorem kp29_0:L.env.keep 29 0 = [0,4,7]:=by kernel_rfl
@[go_sem] theorem kp30_0:L.env.keep 30 0 = [0,2,3]:=by kernel_rfl
@[go_sem] theorem kp40_0:L.env.keep 40 0 = [0,3]:=by kernel_rfl
@[go_sem] theorem kp40_2:L.env.keep 40 2 = [0,3,4,5]:=by kernel_rfl
@[go_sem] theorem kp59_0:L.env.keep 59 0 = [0,1,7,8]:=by kernel_rfl
@[go_sem] theorem kp60_0:L.env.keep 60 0 = [0,1,7,8]:=by kernel_rfl
@[go_sem] theorem kp65_0:L.env.keep 65 0 = [0,1,2,3,8,9]:=by kernel_rfl
@[go_sem] theorem kp76_0:L.env.keep 76 0 = [0,1,2,6]:=by kernel_rfl
@[go_sem] theorem kp76_2:L.env.keep 76 2 = [0,1,2,6,7]:=by kernel_rfl
@[go_sem] theorem kp77_0:L.env.keep 77 0 = [0,6,7,8,9]:=by kernel_rfl
@[go_sem] theorem kp77_2:L.env.keep 77 2 = [0,6,7,10]:=by kernel_rfl
@[go_sem] theorem kp78_0:L.env.keep 78 0 = [0,1,6,7,8,9]:=by kernel_rfl
@[go_sem] theorem kp80_0:L.env.keep 80 0 = [0,6,7]:=by kernel_rfl
@[go_sem] theorem kp81_0:L.env.keep 81 0 = [0,1,2,7,8]:=by kernel_rfl
@[go_sem] theorem kp81_2:L.env.keep 81 2 = [0,1,2,7,8]:=by kernel_rfl
@[go_sem] theorem kp81_4:L.env.keep 81 4 = [0,1,2,7,8,9]:=by kernel_rfl
@[go_sem] theorem kp81_6:L.env.keep 81 6 = [0,1,2,7,8,10]:=by kernel_rfl
@[go_sem] theorem kp83_0:L.env.keep 83 0 = [0,1,9,10]:=by kernel_rfl
@[go_sem] theorem kp83_2:L.env.keep 83 2 = [0,1,9,10]:=by kernel_rfl
@[go_sem] theorem kp83_4:L.env.keep 83 4 = [0,1,9,10]:=by kernel_rfl
@[go_sem] theorem kp84_0:L.env.keep 84 0 = [0,1,10,11]:=by kernel_rfl
@[go_sem] theorem kp84_2:L.env.keep 84 2 = [0,1,10,11]:=by kernel_rfl
@[go_sem] theorem kp84_4:L.env.keep 84 4 = [0,1,10,11]:=by kernel_rfl
@[go_sem] theorem kp84_6:L.env.keep 84 6 = [0,1,10,11]:=by kernel_rfl
@[go_sem] theorem kp84_8:L.env.keep 84 8 = [0,1,10,11]:=by kernel_rfl
@[go_sem] theorem kp92_0:L.env.keep 92 0 = [0,2,3,8]:=by kernel_rfl
@[go_sem] theorem by3:L.env.bytes 3 = 8:=by kernel_rfl
@[go_sem] theorem by27:L.env.bytes 27 = 24:=by kernel_rfl
@[go_sem] theorem by55:L.env.bytes 55 = 8:=by kernel_rfl
@[go_sem] theorem is3:isT L.env 3 = true:=by kernel_rfl
@[go_sem] theorem sz3:L.env.sz 3 = 1:=by kernel_rfl
@[go_sem] theorem ag3:aggT L.env 3 = some false:=by kernel_rfl
@[go_sem] theorem in3:intT L.env 3 = some .i64:=by kernel_rfl
@[go_sem] theorem ze3:L.env.zero 3 = some [.int .i64 0]:=by kernel_rfl
@[go_sem] theorem is5:isT L.env 5 = true:=by kernel_rfl
@[go_sem] theorem sz5:L.env.sz 5 = 1:=by kernel_rfl
@[go_sem] theorem ag5:aggT L.env 5 = some false:=by kernel_rfl
@[go_sem] theorem in5:intT L.env 5 = some .u8:=by kernel_rfl
@[go_sem] theorem ag22:aggT L.env 22 = some false:=by kernel_rfl
@[go_sem] theorem st22:slT L.env 22 = some 5:=by kernel_rfl
@[go_sem] theorem st24:slT L.env 24 = some 27:=by kernel_rfl
@[go_sem] theorem ap24:apT L.env 24 24 = some 27:=by kernel_rfl
@[go_sem] theorem rm24 {k:Nat} (h:(k ≤ 1000000000) = True):roomOk L.env 27 k = true:=room_ok (of_eq_true h) (by rw [by27];decide)
@[go_sem] theorem is27:isT L.env 27 = true:=by kernel_rfl
@[go_sem] theorem sz27:L.env.sz 27 = 1:=by kernel_rfl
@[go_sem] theorem ag27:aggT L.env 27 = some false:=by kernel_rfl
@[go_sem] theorem st27:slT L.env 27 = some 3:=by kernel_rfl
@[go_sem] theorem ap27:apT L.env 27 27 = some 3:=by kernel_rfl
@[go_sem] theorem rm27 {k:Nat} (h:(k ≤ 1000000000) = True):roomOk L.env 3 k = true:=room_ok (of_eq_true h) (by rw [by3];decide)
@[go_sem] theorem ze27:L.env.zero 27 = some [.nilslice]:=by kernel_rfl
@[go_sem] theorem st52:slT L.env 52 = some 55:=by kernel_rfl
@[go_sem] theorem mk52 {k:Nat} (h:(k ≤ 1000000000) = True):mkOk L.env 55 (k:Int) (k:Int) = true:=mkOk_nat (of_eq_true h) (by rw [by55];decide)
@[go_sem] theorem is55:isT L.env 55 = true:=by kernel_rfl
@[go_sem] theorem sz55:L.env.sz 55 = 1:=by kernel_rfl
@[go_sem] theorem ag55:aggT L.env 55 = some false:=by kernel_rfl
@[go_sem] theorem un55:L.env.und 55 = some (.map 3 4):=by kernel_rfl
@[go_sem] theorem us55:usetT L.env 55 = true:=by kernel_rfl
@[go_sem] theorem ze55:L.env.zero 55 = some [.nilmap]:=by kernel_rfl
@[go_sem] theorem is60:isT L.env 60 = true:=by kernel_rfl
@[go_sem] theorem sz60:L.env.sz 60 = 1:=by kernel_rfl
@[go_sem] theorem ag60:aggT L.env 60 = some false:=by kernel_rfl
@[go_sem] theorem st60:slT L.env 60 = some 61:=by kernel_rfl
@[go_sem] theorem ap60:apT L.env 60 60 = some 61:=by kernel_rfl
@[go_sem] theorem ze60:L.env.zero 60 = some [.nilslice]:=by kernel_rfl
@[go_sem] theorem is61:isT L.env 61 = true:=by kernel_rfl
@[go_sem] theorem sz61:L.env.sz 61 = 1:=by kernel_rfl
@[go_sem] theorem ag61:aggT L.env 61 = some false:=by kernel_rfl
@[go_sem] theorem in61:intT L.env 61 = some .u64:=by kernel_rfl
@[go_sem] theorem ze61:L.env.zero 61 = some [.int .u64 0]:=by kernel_rfl
@[go_sem] theorem is128:isT L.env 128 = true:=by kernel_rfl
@[go_sem] theorem sz128:L.env.sz 128 = 1:=by kernel_rfl
@[go_sem] theorem ag128:aggT L.env 128 = some false:=by kernel_rfl
@[go_sem] theorem in128:intT L.env 128 = some .u64:=by kernel_rfl
@[go_sem] theorem ze128:L.env.zero 128 = some [.int .u64 0]:=by kernel_rfl
end Go.KInst
