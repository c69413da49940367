/- No fact is given; names of nodes. -/
import Derived.Test.YtlldffjabagdbaaGreatDoorTTypes
import Derived.Test.YtlldffjabagdbaaGreatDoorAxE
import Derived.Test.YtlldffjabagdbaaGreatDoorAxF
set_option linter.unusedSimpArgs false
set_option linter.unusedVariables false
namespace Go.TInst
open Go.Proofs Go.Ax
set_option maxRecDepth 100000
def Mf:List Fact:=[]
theorem no (g:Nat) (h:(Mf.all fun y=>!Nat.beq y.g g) = true):∀ y ∈ Mf,y.g ≠ g:=by
 intro y hy;cases hy
theorem d3p:sem L.env Mf 153 [.str [110,48,48]] [] = some (.bool true,[]):=a0n (E:=L.env) a2t 60 (by kernel_rfl)
theorem d3o:sem L.env Mf 153 [.str [110,48,49]] [] = some (.bool true,[]):=a0n (E:=L.env) a2t 60 (by kernel_rfl)
theorem d3n:sem L.env Mf 153 [.str [110,48,50]] [] = some (.bool true,[]):=a0n (E:=L.env) a2t 60 (by kernel_rfl)
theorem d3m:sem L.env Mf 153 [.str [110,48,51]] [] = some (.bool true,[]):=a0n (E:=L.env) a2t 60 (by kernel_rfl)
theorem d3l:sem L.env Mf 153 [.str [110,48,52]] [] = some (.bool true,[]):=a0n (E:=L.env) a2t 60 (by kernel_rfl)
theorem d3k:sem L.env Mf 153 [.str [110,48,53]] [] = some (.bool true,[]):=a0n (E:=L.env) a2t 60 (by kernel_rfl)
theorem d3j:sem L.env Mf 153 [.str [110,48,54]] [] = some (.bool true,[]):=a0n (E:=L.env) a2t 60 (by kernel_rfl)
theorem d3i:sem L.env Mf 153 [.str [110,48,55]] [] = some (.bool true,[]):=a0n (E:=L.env) a2t 60 (by kernel_rfl)
theorem d3h:sem L.env Mf 153 [.str [110,48,56]] [] = some (.bool true,[]):=a0n (E:=L.env) a2t 60 (by kernel_rfl)
theorem d3g:sem L.env Mf 153 [.str [110,48,57]] [] = some (.bool true,[]):=a0n (E:=L.env) a2t 60 (by kernel_rfl)
theorem c9f:sem L.env Mf 153 [.str [110,49,48]] [] = some (.bool true,[]):=a0n (E:=L.env) a2t 60 (by kernel_rfl)
theorem c9e:sem L.env Mf 153 [.str [110,49,49]] [] = some (.bool true,[]):=a0n (E:=L.env) a2t 60 (by kernel_rfl)
theorem c9d:sem L.env Mf 153 [.str [110,49,50]] [] = some (.bool true,[]):=a0n (E:=L.env) a2t 60 (by kernel_rfl)
theorem c9c:sem L.env Mf 153 [.str [110,49,51]] [] = some (.bool true,[]):=a0n (E:=L.env) a2t 60 (by kernel_rfl)
end Go.TInst
