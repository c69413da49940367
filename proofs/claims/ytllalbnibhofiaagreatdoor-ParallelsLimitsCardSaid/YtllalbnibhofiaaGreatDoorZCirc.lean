/- Part of a proof. No condition. -/
import Derived.Test.YtllalbnibhofiaaGreatDoorZOf0
import Derived.Test.YtllalbnibhofiaaGreatDoorZOf1
import Derived.Test.YtllalbnibhofiaaGreatDoorZOf2
namespace Go.ZInst
open Go.Proofs Go.Ax Go.Pc
set_option maxRecDepth 100000
set_option linter.unusedSimpArgs false
theorem of_ok (x : CX) (hx : x.ok) (hm : x.mem = false) : sem L.env Mf 27 [.agg x.enc] [] = some (.agg x.cir.enc, []) := by
  have h3 : x.d < 3 := Nat.mod_lt _ (by omega)
  have h : x.d = 0 ∨ x.d = 1 ∨ x.d = 2 := by omega
  rcases h with h | h | h
  · exact of_ok0 x hx hm h
  · exact of_ok1 x hx hm h
  · exact of_ok2 x hx hm h
theorem refs_cx (x : CX) : refsL x.enc = [] := by simp only [go_sem]
theorem refs_cir (c : Cir) : refsL c.enc = [] := by simp only [go_sem, Cir.enc]
theorem of_call {d : Bool} (H : Heap) (x : CX) (hx : x.ok) (hm : x.mem = false) : callV L.env d (sem L.env Mf) (.func (.func 27) [] []) [.agg x.enc] H = some (.agg x.cir.enc, H, []) :=
  callV_flat (by kernel_rfl) (by kernel_rfl) rfl (by simp only [go_sem]) (of_ok x hx hm) (refs_cir _)
def noMem (x : CX) : CX := { x with mem := false }
theorem circuit_ok (x : CX) (hx : x.ok) : sem L.env Mf 13 [.agg x.enc] [] = some (.agg (noMem x).cir.enc, []) := by
  have hx' : (noMem x).ok := ⟨hx.1, hx.2, hx.3, hx.4, hx.5, hx.6⟩
  have hc := fun H => of_call (d := false) H (noMem x) hx' rfl
  generalize (noMem x).cir = c at hc
  simp only [go_sem, noMem] at hc
  simp only [Cir.enc] at hc
  have hfin : ∀ l : List AV, refsL l = [] → l.length = 4 → finish false 0 (.agg l) [] = some (.agg l, []) := fun l h _ => finish_flat h
  (refine sem_wp (code := (Tryz.f13.body).getD .skip) (N := 6) (results := [.cell 2 37]) (by kernel_rfl) (no _ (by decide)) rfl rfl ?_; simp only [Tryz.f13, Option.getD_some])
  (repeat (first | (with_reducible apply xp_rs; (· simp +decide only [go_sem, hc]; rfl)) | (with_reducible apply xp_region; (· simp +decide only [go_sem, hc]; rfl)) | (with_reducible apply xp_ds; (· simp +decide only [go_sem, hc]; rfl); (· kernel_rfl)) | (with_reducible apply xp_draw; (· simp +decide only [go_sem, hc]; rfl); (· kernel_rfl)) | with_reducible apply xp_seq | with_reducible apply xp_block | with_reducible apply xp_scope | with_reducible apply xp_skip | with_reducible apply xp_label | with_reducible apply xp_exit | with_reducible apply xp_ret | with_reducible apply sq_n | with_reducible apply sq_r | with_reducible apply sq_x | with_reducible apply bk_n | with_reducible apply bk_r | with_reducible apply bk_hit | with_reducible apply bk_miss | with_reducible apply lp_x | with_reducible apply lp_r | (with_reducible apply xp_cond_t; (· simp +decide only [go_sem, hc]; done)) | (with_reducible apply xp_cond_f; (· simp +decide only [go_sem, hc]; done))))
  (first | with_reducible apply fq_r | with_reducible apply fq_n); (· simp +decide only [go_sem, Cir.enc] <;> rfl); (· simp +decide only [go_sem, Cir.enc] <;> rfl)
theorem circuit_call {d : Bool} (H : Heap) (x : CX) (hx : x.ok) : callV L.env d (sem L.env Mf) (.func (.func 13) [] []) [.agg x.enc] H = some (.agg (noMem x).cir.enc, H, []) :=
  callV_flat (by kernel_rfl) (by kernel_rfl) rfl (by simp only [go_sem]) (circuit_ok x hx) (refs_cir _)
end Go.ZInst
