/- Part of a proof. No condition. -/
import Derived.Test.YtnkhpfincnfloaaGreatDoorFIn
import Derived.Test.YtnkhpfincnfloaaGreatDoorPcB
import Derived.Test.YtnkhpfincnfloaaGreatDoorFGa
set_option linter.unusedSimpArgs false
set_option linter.unusedVariables false
namespace Go.FInst
open Go.Proofs Go.Ax Go.Pc
set_option maxRecDepth 100000
theorem read_ok(a:W):sem L.env Mf 400 [.agg a.enc] []=some (.agg (wRead a).enc,[]):=by
 (refine sv Tryz.f400 ?_;simp only[Tryz.f400,gS])
 (repeat first|simp only[ww]|(apply xa;simp+decide only[go_sem];rfl;kernel_rfl))
 (apply fqb;simp+decide only[go_sem,wRead]<;>rfl)
theorem fanin_ok(k:Nat)(hk:k<16):sem L.env Mf 216 [.int .u8 k] []=some (.tuple [.int .i64 (faninLo k:Nat),.int .i64 (faninHi k:Nat)],[]):=by
 have w:=wI (n:=k) (by omega);have c:¬(16:Int)≤k:=by omega
 have h:k=0∨k=1∨k=2∨k=3∨k=4∨k=5∨k=6∨k=7∨k=8∨k=9∨k=10∨k=11∨k=12∨k=13∨k=14∨k=15:=by omega
 rcases h with rfl|rfl|rfl|rfl|rfl|rfl|rfl|rfl|rfl|rfl|rfl|rfl|rfl|rfl|rfl|rfl
 all_goals
  (refine sv Tryz.f216 ?_;simp only[Tryz.f216,gS])
  (repeat first|simp only[ww]|(apply xa;simp+decide only[go_sem,w,c];rfl;kernel_rfl))
  (apply fqb;simp+decide only[go_sem]<;>rfl)
theorem fanin_call{d:Bool}(H:Heap)(k:Nat)(hk:k<16):callV L.env d (sem L.env Mf) (.func (.func 216) [] []) [.int .u8 k] H=some (.tuple [.int .i64 (faninLo k:Nat),.int .i64 (faninHi k:Nat)],H,[]):=callV_flat (by kernel_rfl) (by kernel_rfl) rfl rfl (fanin_ok k hk) rfl
theorem comb_ok(k:Nat)(hk:k<256):sem L.env Mf 110 [.int .u8 k] []=some (.bool (isComb k),[]):=by
 by_cases h1:1≤k
 ·have c1:(1:Int)≤k:=by omega
  by_cases h2:k≤13
  ·have c2:(k:Int)≤13:=by omega
   rw[show isComb k=true by simp[isComb,h1,h2]]
   (refine sv Tryz.f110 ?_;simp only[Tryz.f110,gS])
   (repeat first|simp only[ww]|(apply xa;simp+decide only[go_sem,c1,c2];rfl;kernel_rfl))
   (apply fqb;simp+decide only[go_sem]<;>rfl)
  ·have c2:¬(k:Int)≤13:=by omega
   rw[show isComb k=false by simp[isComb,h2]]
   (refine sv Tryz.f110 ?_;simp only[Tryz.f110,gS])
   (repeat first|simp only[ww]|(apply xa;simp+decide only[go_sem,c1,c2];rfl;kernel_rfl))
   (apply fqb;simp+decide only[go_sem]<;>rfl)
 ·have c1:¬(1:Int)≤k:=by omega
  rw[show isComb k=false by simp[isComb,h1]]
  (refine sv Tryz.f110 ?_;simp only[Tryz.f110,gS])
  (repeat first|simp only[ww]|(apply xa;simp+decide only[go_sem,c1];rfl;kernel_rfl))
  (apply fqb;simp+decide only[go_sem]<;>rfl)
end Go.FInst
