/- No fact is given; names of nodes. -/
import Derived.Test.YtlldffjabagdbaaGreatDoorTTypes
import Derived.Test.YtlldffjabagdbaaGreatDoorAxE
import Derived.Test.YtlldffjabagdbaaGreatDoorAxF
set_option linter.unusedSimpArgs false
set_option linter.unusedVariables false
namespace Go.TInst
open Go.Proofs Go.Ax
set_option maxRecDepth 100000
def Mf:List Fact:=[]
theorem no (g:Nat) (h:(Mf.all fun y=>!Nat.beq y.g g) = true):∀ y ∈ Mf,y.g ≠ g:=by
 intro y hy;cases hy
theorem d2z:sem L.env Mf 153 [.str [110,48,48]] [] = some (.bool true,[]):=a0l (E:=L.env) a2l 60 (by kernel_rfl)
theorem d2y:sem L.env Mf 153 [.str [110,48,49]] [] = some (.bool true,[]):=a0l (E:=L.env) a2l 60 (by kernel_rfl)
theorem d2x:sem L.env Mf 153 [.str [110,48,50]] [] = some (.bool true,[]):=a0l (E:=L.env) a2l 60 (by kernel_rfl)
theorem d2w:sem L.env Mf 153 [.str [110,48,51]] [] = some (.bool true,[]):=a0l (E:=L.env) a2l 60 (by kernel_rfl)
theorem d2v:sem L.env Mf 153 [.str [110,48,52]] [] = some (.bool true,[]):=a0l (E:=L.env) a2l 60 (by kernel_rfl)
theorem d2u:sem L.env Mf 153 [.str [110,48,53]] [] = some (.bool true,[]):=a0l (E:=L.env) a2l 60 (by kernel_rfl)
theorem d2t:sem L.env Mf 153 [.str [110,48,54]] [] = some (.bool true,[]):=a0l (E:=L.env) a2l 60 (by kernel_rfl)
theorem d2s:sem L.env Mf 153 [.str [110,48,55]] [] = some (.bool true,[]):=a0l (E:=L.env) a2l 60 (by kernel_rfl)
theorem d2r:sem L.env Mf 153 [.str [110,48,56]] [] = some (.bool true,[]):=a0l (E:=L.env) a2l 60 (by kernel_rfl)
theorem d2q:sem L.env Mf 153 [.str [110,48,57]] [] = some (.bool true,[]):=a0l (E:=L.env) a2l 60 (by kernel_rfl)
theorem c8q:sem L.env Mf 153 [.str [110,49,48]] [] = some (.bool true,[]):=a0l (E:=L.env) a2l 60 (by kernel_rfl)
theorem c8p:sem L.env Mf 153 [.str [110,49,49]] [] = some (.bool true,[]):=a0l (E:=L.env) a2l 60 (by kernel_rfl)
theorem c8o:sem L.env Mf 153 [.str [110,49,50]] [] = some (.bool true,[]):=a0l (E:=L.env) a2l 60 (by kernel_rfl)
theorem c8n:sem L.env Mf 153 [.str [110,49,51]] [] = some (.bool true,[]):=a0l (E:=L.env) a2l 60 (by kernel_rfl)
end Go.TInst
