/- Part of a proof. No condition. -/
import Derived.Test.YtgmenpackpnmaaaGreatDoorMBase
import Derived.Test.YtgmenpackpnmaaaGreatDoorPcB
set_option linter.unusedSimpArgs false
set_option linter.unusedVariables false
namespace Go.MInst
open Go.Proofs Go.Ax Go.Pc
set_option maxRecDepth 100000
theorem c49 (v:Nat) (hv:v < 256):sem L.env Mf 148 [.int .u8 v] [] = some (.int .u8 (b4j v:Nat),[]):=by
 by_cases h:3 < v
 ·have c:(3:Int) < v:=by omega
  rw [show b4j v = 2 by simp [b4j,h]]
  (refine sv Tryz.f148 ?_;simp only [Tryz.f148,gS])
  (repeat first|simp only [ww]|(apply xa;simp +decide only [go_sem,c];rfl;kernel_rfl))
  (apply fqb;simp +decide only [go_sem]<;>rfl)
 ·have c:¬ (3:Int) < v:=by omega
  rw [show b4j v = v by simp [b4j,h]]
  (refine sv Tryz.f148 ?_;simp only [Tryz.f148,gS])
  (repeat first|simp only [ww]|(apply xa;simp +decide only [go_sem,c];rfl;kernel_rfl))
  (apply fqb;simp +decide only [go_sem]<;>rfl)
theorem b16 (a:W):sem L.env Mf 152 [.agg a.enc] [] = some (.agg (c14 a).enc,[]):=by
 (refine sv Tryz.f152 ?_;simp only [Tryz.f152,gS])
 (repeat first|simp only [ww]|(apply xa;simp +decide only [go_sem];rfl;kernel_rfl))
 (apply fqb;simp +decide only [go_sem,c14]<;>rfl)
def one (v:Nat):Option AObj:=some (.row 1 [[.int .i64 v]])
def rh:Option AObj:=some (.row 4 [[.nilslice,.nilslice,.nilslice,.nilslice]])
attribute [go_sem] one rh List.range_zero
end Go.MInst
