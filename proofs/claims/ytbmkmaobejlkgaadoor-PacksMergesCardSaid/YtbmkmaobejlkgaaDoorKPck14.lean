/- Part of a proof. No condition. -/
import Derived.Test.YtbmkmaobejlkgaaDoorKPl
set_option linter.unusedSimpArgs false
set_option linter.unusedVariables false
namespace Go.KInst
open Go.Proofs Go.Ax Go.Pc
set_option maxRecDepth 100000
theorem lives_call {d:Bool} (H:Heap):callV L.env d (sem L.env Mf) (.func (.func 6) [] []) [] H = some (.bool true,H,[]):=
 callV_flat (by kernel_rfl) (by kernel_rfl) rfl rfl lives_sem rfl
theorem lenI (l:List Nat):((l.map intR).all fun r=>decide (r.length = 1)) = true:=by
 rw [List.all_eq_true];intro r hr;obtain ⟨x,_,rfl⟩:=List.mem_map.1 hr;rfl
theorem stoI (l:List Nat):((l.map intR).all fun r=>r.all AV.storable) = true:=by
 rw [List.all_eq_true];intro r hr;obtain ⟨x,_,rfl⟩:=List.mem_map.1 hr;rfl
end Go.KInst
