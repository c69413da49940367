/- Part of a proof. No condition. -/
import Derived.Test.YtlldffjabagdbaaGreatDoorTBase
import Derived.Test.YtlldffjabagdbaaGreatDoorPcB
set_option linter.unusedSimpArgs false
set_option linter.unusedVariables false
namespace Go.TInst
open Go.Proofs Go.Ax Go.Pc
set_option maxRecDepth 100000
theorem c1z (a:W):sem L.env Mf 124 [.agg a.enc] [] = some (.agg (e0n a).enc,[]):=by
 (refine sv Tryz.f124 ?_;simp only [Tryz.f124,gS])
 (repeat first|simp only [ww]|(apply xa;simp +decide only [go_sem];rfl;kernel_rfl))
 (apply fqb;simp +decide only [go_sem,e0n]<;>rfl)
theorem d3b (k:Nat) (hk:k < 16):sem L.env Mf 56 [.int .u8 k] [] = some (.tuple [.int .i64 (a1m k:Nat),.int .i64 (a1s k:Nat)],[]):=by
 have w:=wI (n:=k) (by omega)
 have c:¬ (16:Int) ≤ k:=by omega
 have h:k = 0 ∨ k = 1 ∨ k = 2 ∨ k = 3 ∨ k = 4 ∨ k = 5 ∨ k = 6 ∨ k = 7 ∨ k = 8 ∨ k = 9 ∨ k = 10 ∨ k = 11 ∨ k = 12 ∨ k = 13 ∨ k = 14 ∨ k = 15:=by omega
 rcases h with rfl|rfl|rfl|rfl|rfl|rfl|rfl|rfl|rfl|rfl|rfl|rfl|rfl|rfl|rfl|rfl
 all_goals
  (refine sv Tryz.f56 ?_;simp only [Tryz.f56,gS])
  (repeat first|simp only [ww]|(apply xa;simp +decide only [go_sem,w,c];rfl;kernel_rfl))
  (apply fqb;simp +decide only [go_sem]<;>rfl)
theorem b6q {d:Bool} (H:a03) (k:Nat) (hk:k < 16):a0g L.env d (sem L.env Mf) (.func (.func 56) [] []) [.int .u8 k] H = some (.tuple [.int .i64 (a1m k:Nat),.int .i64 (a1s k:Nat)],H,[]):=
 a04 (by kernel_rfl) (by kernel_rfl) rfl rfl (d3b k hk) rfl
end Go.TInst
