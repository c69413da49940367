/- Patterns as rows. -/
import Derived.Test.YtgmenpackpnmaaaGreatDoorMPa
import Derived.Test.YtgmenpackpnmaaaGreatDoorPcB
import Derived.Test.YtgmenpackpnmaaaGreatDoorMGa
set_option linter.unusedSimpArgs false
set_option linter.unusedVariables false
namespace Go.MInst
open Go.Proofs Go.Ax Go.Pc
set_option maxRecDepth 100000
attribute [go_sem] List.length_map List.getElem?_map
theorem b2t {d:Bool} (H:a05):a1i L.env d (sem L.env Mf) (.func (.func 13) [] []) [] H = some (.bool true,H,[]):=
 a0j (by kernel_rfl) (by kernel_rfl) rfl rfl b3z rfl
end Go.MInst
/- Nothing here. -/
namespace Go.MInst
open Go.Proofs Go.Ax Go.Pc
set_option maxRecDepth 100000
end Go.MInst
