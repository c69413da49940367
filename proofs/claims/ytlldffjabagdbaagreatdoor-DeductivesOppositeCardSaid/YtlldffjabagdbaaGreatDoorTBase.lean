/- No fact is given; names of nodes. -/
import Derived.Test.YtlldffjabagdbaaGreatDoorTTypes
import Derived.Test.YtlldffjabagdbaaGreatDoorAxE
import Derived.Test.YtlldffjabagdbaaGreatDoorAxF
set_option linter.unusedSimpArgs false
set_option linter.unusedVariables false
namespace Go.TInst
open Go.Proofs Go.Ax
set_option maxRecDepth 100000
def Mf:List Fact:=[]
theorem no (g:Nat) (h:(Mf.all fun y=>!Nat.beq y.g g) = true):∀ y ∈ Mf,y.g ≠ g:=by
 intro y hy;cases hy
theorem d2n:sem L.env Mf 153 [.str [110,48,48]] [] = some (.bool true,[]):=a0k (E:=L.env) a2k 60 (by kernel_rfl)
theorem d2m:sem L.env Mf 153 [.str [110,48,49]] [] = some (.bool true,[]):=a0k (E:=L.env) a2k 60 (by kernel_rfl)
theorem d2l:sem L.env Mf 153 [.str [110,48,50]] [] = some (.bool true,[]):=a0k (E:=L.env) a2k 60 (by kernel_rfl)
theorem d2k:sem L.env Mf 153 [.str [110,48,51]] [] = some (.bool true,[]):=a0k (E:=L.env) a2k 60 (by kernel_rfl)
theorem d2j:sem L.env Mf 153 [.str [110,48,52]] [] = some (.bool true,[]):=a0k (E:=L.env) a2k 60 (by kernel_rfl)
theorem d2i:sem L.env Mf 153 [.str [110,48,53]] [] = some (.bool true,[]):=a0k (E:=L.env) a2k 60 (by kernel_rfl)
theorem d2h:sem L.env Mf 153 [.str [110,48,54]] [] = some (.bool true,[]):=a0k (E:=L.env) a2k 60 (by kernel_rfl)
theorem d2g:sem L.env Mf 153 [.str [110,48,55]] [] = some (.bool true,[]):=a0k (E:=L.env) a2k 60 (by kernel_rfl)
theorem d2f:sem L.env Mf 153 [.str [110,48,56]] [] = some (.bool true,[]):=a0k (E:=L.env) a2k 60 (by kernel_rfl)
theorem d2e:sem L.env Mf 153 [.str [110,48,57]] [] = some (.bool true,[]):=a0k (E:=L.env) a2k 60 (by kernel_rfl)
theorem c8m:sem L.env Mf 153 [.str [110,49,48]] [] = some (.bool true,[]):=a0k (E:=L.env) a2k 60 (by kernel_rfl)
theorem c8l:sem L.env Mf 153 [.str [110,49,49]] [] = some (.bool true,[]):=a0k (E:=L.env) a2k 60 (by kernel_rfl)
theorem c8k:sem L.env Mf 153 [.str [110,49,50]] [] = some (.bool true,[]):=a0k (E:=L.env) a2k 60 (by kernel_rfl)
theorem c8j:sem L.env Mf 153 [.str [110,49,51]] [] = some (.bool true,[]):=a0k (E:=L.env) a2k 60 (by kernel_rfl)
end Go.TInst
