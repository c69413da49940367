/- Part of a proof. No condition. -/
import Derived.Test.YtllalbnibhofiaaGreatDoorZBase
import Derived.Test.YtllalbnibhofiaaGreatDoorPcCir
namespace Go.ZInst
open Go.Proofs Go.Ax Go.Pc
set_option maxRecDepth 100000
set_option linter.unusedSimpArgs false
theorem name_ok (i : Nat) (hi : i < 100) : sem L.env Mf 55 [.int .i64 i] [] = some (.str (nameS i), []) := by
  have a1 : IntKind.i64.wrap ((i / 10 : Nat) : Int) = ((i / 10 : Nat) : Int) := wI (by omega)
  have a2 : IntKind.i64.wrap (48 + ((i / 10 : Nat) : Int)) = ((48 + i / 10 : Nat) : Int) := by rw [w64 (by omega) (by omega)]; omega
  have a3 : IntKind.i64.wrap (48 + ((i % 10 : Nat) : Int)) = ((48 + i % 10 : Nat) : Int) := by rw [w64 (by omega) (by omega)]; omega
  have a4 : IntKind.u8.wrap ((48 + i / 10 : Nat) : Int) = ((48 + i / 10 : Nat) : Int) := wB (by omega)
  have a5 : IntKind.u8.wrap ((48 + i % 10 : Nat) : Int) = ((48 + i % 10 : Nat) : Int) := wB (by omega)
  (refine sem_wp (code := (Tryz.f55.body).getD .skip) (N := 13) (results := [.tmp 2]) (by kernel_rfl) (no _ (by decide)) rfl rfl ?_; simp only [Tryz.f55, Option.getD_some])
  (repeat (first | (with_reducible apply xp_rs; (· simp +decide only [go_sem, a1, a2, a3, a4, a5]; rfl)) | (with_reducible apply xp_region; (· simp +decide only [go_sem, a1, a2, a3, a4, a5]; rfl)) | (with_reducible apply xp_ds; (· simp +decide only [go_sem, a1, a2, a3, a4, a5]; rfl); (· kernel_rfl)) | (with_reducible apply xp_draw; (· simp +decide only [go_sem, a1, a2, a3, a4, a5]; rfl); (· kernel_rfl)) | with_reducible apply xp_seq | with_reducible apply xp_block | with_reducible apply xp_scope | with_reducible apply xp_skip | with_reducible apply xp_label | with_reducible apply xp_exit | with_reducible apply xp_ret | with_reducible apply sq_n | with_reducible apply sq_r | with_reducible apply sq_x | with_reducible apply bk_n | with_reducible apply bk_r | with_reducible apply bk_hit | with_reducible apply bk_miss | with_reducible apply lp_x | with_reducible apply lp_r | (with_reducible apply xp_cond_t; (· simp +decide only [go_sem, a1, a2, a3, a4, a5]; done)) | (with_reducible apply xp_cond_f; (· simp +decide only [go_sem, a1, a2, a3, a4, a5]; done))))
  (first | with_reducible apply fq_r | with_reducible apply fq_n); (· simp +decide only [go_sem] <;> rfl); (· simp +decide only [go_sem] <;> rfl)
theorem name_call {d : Bool} (H : Heap) (i : Nat) (hi : i < 100) : callV L.env d (sem L.env Mf) (.func (.func 55) [] []) [.int .i64 i] H = some (.str (nameS i), H, []) :=
  callV_flat (by kernel_rfl) (by kernel_rfl) rfl rfl (name_ok i hi) rfl
end Go.ZInst
