/- Part of a proof. No condition. -/
import Derived.Test.YtnkhpfincnfloaaGreatDoorFOf0
import Derived.Test.YtnkhpfincnfloaaGreatDoorFOf1
import Derived.Test.YtnkhpfincnfloaaGreatDoorFOf2
set_option linter.unusedSimpArgs false
set_option linter.unusedVariables false
namespace Go.FInst
open Go.Proofs Go.Ax Go.Pc
set_option maxRecDepth 100000
theorem of_ok(x:CX)(hx:x.ok)(hm:x.mem=false):sem L.env Mf 15 [.agg x.enc] []=some (.agg x.cir.enc,[]):=by
 have h3:x.d<3:=Nat.mod_lt _ (by omega);have h:x.d=0∨x.d=1∨x.d=2:=by omega
 rcases h with h|h|h
 ·exact of_ok0 x hx hm h
 ·exact of_ok1 x hx hm h
 ·exact of_ok2 x hx hm h
theorem refs_cir(c:Cir):refsL c.enc=[]:=by simp only[go_sem,Cir.enc]
theorem of_call{d:Bool}(H:Heap)(x:CX)(hx:x.ok)(hm:x.mem=false):callV L.env d (sem L.env Mf) (.func (.func 15) [] []) [.agg x.enc] H=some (.agg x.cir.enc,H,[]):=callV_flat (by kernel_rfl) (by kernel_rfl) rfl (by simp only[go_sem]) (of_ok x hx hm) (refs_cir _)
end Go.FInst
