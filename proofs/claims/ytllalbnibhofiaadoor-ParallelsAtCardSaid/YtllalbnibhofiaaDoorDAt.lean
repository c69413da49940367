/- Part of a proof. No condition. -/
import Derived.Test.YtllalbnibhofiaaDoorDBase
namespace Go.DInst
open Go.Proofs Go.Ax
set_option maxRecDepth 100000
set_option linter.unusedSimpArgs false
abbrev Rep := Option (Option Nat)
def w64E (w : BitVec 64) : List AV := [u64 w]
def rowE (r : Rep × List (BitVec 64)) : List AV := [sl r.1 (r.2.map w64E)]
attribute [go_sem] rowE w64E List.length_map List.getElem?_map
def atB (rows : List (Rep × List (BitVec 64))) (i k : Int) : Bool :=
  if 0 ≤ i ∧ 0 ≤ k then match rows[i.toNat]? with
    | some r => match r.2[k.toNat / 64]? with
      | some w => w.getLsbD (k.toNat % 64)
      | none => false
    | none => false
  else false
theorem quo64 (n : Nat) (h : n < 9223372036854775808) : IntKind.i64.wrap ((n : Int).tdiv 64) = ((n / 64 : Nat) : Int) := by
  rw [show (n : Int).tdiv 64 = ((n / 64 : Nat) : Int) from rfl]
  exact w64 (by omega) (by omega)
theorem at_ok (c : Rep) (rows : List (Rep × List (BitVec 64))) (i k : Int) (hk : k < 9223372036854775808) :
    sem L.env Mf 5 [sl c (rows.map rowE), .int .i64 i, .int .i64 k] [] = some (.bool (atB rows i k), []) := by
  by_cases hi : i < 0
  · have e : atB rows i k = false := by simp [atB]; omega
    rw [e]
    (refine sem_wp (code := (Tryd.f5.body).getD .skip) (N := 42) (results := [.tmp 6]) (by kernel_rfl) (no _ (by decide)) rfl rfl ?_; simp only [Tryd.f5, Option.getD_some])
    (repeat (first | (with_reducible apply xp_rs; (· simp +decide only [go_sem, hi]; rfl)) | (with_reducible apply xp_region; (· simp +decide only [go_sem, hi]; rfl)) | (with_reducible apply xp_ds; (· simp +decide only [go_sem, hi]; rfl); (· kernel_rfl)) | (with_reducible apply xp_draw; (· simp +decide only [go_sem, hi]; rfl); (· kernel_rfl)) | with_reducible apply xp_seq | with_reducible apply xp_block | with_reducible apply xp_scope | with_reducible apply xp_skip | with_reducible apply xp_label | with_reducible apply xp_exit | with_reducible apply xp_ret | with_reducible apply sq_n | with_reducible apply sq_r | with_reducible apply sq_x | with_reducible apply bk_n | with_reducible apply bk_r | with_reducible apply bk_hit | with_reducible apply bk_miss | with_reducible apply lp_x | with_reducible apply lp_r | (with_reducible apply xp_cond_t; (· simp +decide only [go_sem, hi]; done)) | (with_reducible apply xp_cond_f; (· simp +decide only [go_sem, hi]; done))))
    (first | with_reducible apply fq_r | with_reducible apply fq_n); (· simp +decide only [go_sem] <;> rfl); (· simp +decide only [go_sem] <;> rfl)
  obtain ⟨a, rfl⟩ : ∃ a : Nat, i = a := ⟨i.toNat, by omega⟩
  by_cases ha : rows.length ≤ a
  · have e : atB rows a k = false := by
      simp only [atB, Int.toNat_natCast]; rw [List.getElem?_eq_none ha]; simp
    rw [e]
    have h2 : (rows.length : Int) ≤ a := by omega
    (refine sem_wp (code := (Tryd.f5.body).getD .skip) (N := 42) (results := [.tmp 6]) (by kernel_rfl) (no _ (by decide)) rfl rfl ?_; simp only [Tryd.f5, Option.getD_some])
    (repeat (first | (with_reducible apply xp_rs; (· simp +decide only [go_sem, hi, h2]; rfl)) | (with_reducible apply xp_region; (· simp +decide only [go_sem, hi, h2]; rfl)) | (with_reducible apply xp_ds; (· simp +decide only [go_sem, hi, h2]; rfl); (· kernel_rfl)) | (with_reducible apply xp_draw; (· simp +decide only [go_sem, hi, h2]; rfl); (· kernel_rfl)) | with_reducible apply xp_seq | with_reducible apply xp_block | with_reducible apply xp_scope | with_reducible apply xp_skip | with_reducible apply xp_label | with_reducible apply xp_exit | with_reducible apply xp_ret | with_reducible apply sq_n | with_reducible apply sq_r | with_reducible apply sq_x | with_reducible apply bk_n | with_reducible apply bk_r | with_reducible apply bk_hit | with_reducible apply bk_miss | with_reducible apply lp_x | with_reducible apply lp_r | (with_reducible apply xp_cond_t; (· simp +decide only [go_sem, hi, h2]; done)) | (with_reducible apply xp_cond_f; (· simp +decide only [go_sem, hi, h2]; done))))
    (first | with_reducible apply fq_r | with_reducible apply fq_n); (· simp +decide only [go_sem] <;> rfl); (· simp +decide only [go_sem] <;> rfl)
  obtain ⟨r, hr⟩ : ∃ r, rows[a]? = some r := ⟨_, List.getElem?_eq_getElem (by omega)⟩
  have h2 : ¬ (rows.length : Int) ≤ a := by omega
  by_cases hk0 : k < 0
  · have e : atB rows a k = false := by simp [atB]; omega
    rw [e]
    (refine sem_wp (code := (Tryd.f5.body).getD .skip) (N := 42) (results := [.tmp 6]) (by kernel_rfl) (no _ (by decide)) rfl rfl ?_; simp only [Tryd.f5, Option.getD_some])
    (repeat (first | (with_reducible apply xp_rs; (· simp +decide only [go_sem, hi, h2, hk0]; rfl)) | (with_reducible apply xp_region; (· simp +decide only [go_sem, hi, h2, hk0]; rfl)) | (with_reducible apply xp_ds; (· simp +decide only [go_sem, hi, h2, hk0]; rfl); (· kernel_rfl)) | (with_reducible apply xp_draw; (· simp +decide only [go_sem, hi, h2, hk0]; rfl); (· kernel_rfl)) | with_reducible apply xp_seq | with_reducible apply xp_block | with_reducible apply xp_scope | with_reducible apply xp_skip | with_reducible apply xp_label | with_reducible apply xp_exit | with_reducible apply xp_ret | with_reducible apply sq_n | with_reducible apply sq_r | with_reducible apply sq_x | with_reducible apply bk_n | with_reducible apply bk_r | with_reducible apply bk_hit | with_reducible apply bk_miss | with_reducible apply lp_x | with_reducible apply lp_r | (with_reducible apply xp_cond_t; (· simp +decide only [go_sem, hi, h2, hk0]; done)) | (with_reducible apply xp_cond_f; (· simp +decide only [go_sem, hi, h2, hk0]; done))))
    (first | with_reducible apply fq_r | with_reducible apply fq_n); (· simp +decide only [go_sem] <;> rfl); (· simp +decide only [go_sem] <;> rfl)
  obtain ⟨n, rfl⟩ : ∃ n : Nat, k = n := ⟨k.toNat, by omega⟩
  have hq := quo64 n (by omega)
  by_cases hw : r.2.length ≤ n / 64
  · have e : atB rows a n = false := by
      simp only [atB, Int.toNat_natCast, hr]; rw [List.getElem?_eq_none hw]; simp
    rw [e]
    have h3 : (r.2.length : Int) ≤ ((n / 64 : Nat) : Int) := by omega
    (refine sem_wp (code := (Tryd.f5.body).getD .skip) (N := 42) (results := [.tmp 6]) (by kernel_rfl) (no _ (by decide)) rfl rfl ?_; simp only [Tryd.f5, Option.getD_some])
    (repeat (first | (with_reducible apply xp_rs; (· simp +decide only [go_sem, hi, h2, hk0, hr, hq, h3]; rfl)) | (with_reducible apply xp_region; (· simp +decide only [go_sem, hi, h2, hk0, hr, hq, h3]; rfl)) | (with_reducible apply xp_ds; (· simp +decide only [go_sem, hi, h2, hk0, hr, hq, h3]; rfl); (· kernel_rfl)) | (with_reducible apply xp_draw; (· simp +decide only [go_sem, hi, h2, hk0, hr, hq, h3]; rfl); (· kernel_rfl)) | with_reducible apply xp_seq | with_reducible apply xp_block | with_reducible apply xp_scope | with_reducible apply xp_skip | with_reducible apply xp_label | with_reducible apply xp_exit | with_reducible apply xp_ret | with_reducible apply sq_n | with_reducible apply sq_r | with_reducible apply sq_x | with_reducible apply bk_n | with_reducible apply bk_r | with_reducible apply bk_hit | with_reducible apply bk_miss | with_reducible apply lp_x | with_reducible apply lp_r | (with_reducible apply xp_cond_t; (· simp +decide only [go_sem, hi, h2, hk0, hr, hq, h3]; done)) | (with_reducible apply xp_cond_f; (· simp +decide only [go_sem, hi, h2, hk0, hr, hq, h3]; done))))
    (first | with_reducible apply fq_r | with_reducible apply fq_n); (· simp +decide only [go_sem] <;> rfl); (· simp +decide only [go_sem] <;> rfl)
  · obtain ⟨w, hw'⟩ : ∃ w, r.2[n / 64]? = some w := ⟨_, List.getElem?_eq_getElem (by omega)⟩
    have e : atB rows a n = w.getLsbD (n % 64) := by
      simp only [atB, Int.toNat_natCast, hr, hw']; simp
    rw [e]
    have h3 : ¬ (r.2.length : Int) ≤ ((n / 64 : Nat) : Int) := by omega
    have hm : (n : Int).tmod 64 = ((n % 64 : Nat) : Int) := rfl
    have hm0 : ¬ ((n % 64 : Nat) : Int) < 0 := by omega
    (refine sem_wp (code := (Tryd.f5.body).getD .skip) (N := 42) (results := [.tmp 6]) (by kernel_rfl) (no _ (by decide)) rfl rfl ?_; simp only [Tryd.f5, Option.getD_some])
    (repeat (first | (with_reducible apply xp_rs; (· simp +decide only [go_sem, hi, h2, hk0, hr, hq, h3, hw', hm, hm0, bit_and1]; rfl)) | (with_reducible apply xp_region; (· simp +decide only [go_sem, hi, h2, hk0, hr, hq, h3, hw', hm, hm0, bit_and1]; rfl)) | (with_reducible apply xp_ds; (· simp +decide only [go_sem, hi, h2, hk0, hr, hq, h3, hw', hm, hm0, bit_and1]; rfl); (· kernel_rfl)) | (with_reducible apply xp_draw; (· simp +decide only [go_sem, hi, h2, hk0, hr, hq, h3, hw', hm, hm0, bit_and1]; rfl); (· kernel_rfl)) | with_reducible apply xp_seq | with_reducible apply xp_block | with_reducible apply xp_scope | with_reducible apply xp_skip | with_reducible apply xp_label | with_reducible apply xp_exit | with_reducible apply xp_ret | with_reducible apply sq_n | with_reducible apply sq_r | with_reducible apply sq_x | with_reducible apply bk_n | with_reducible apply bk_r | with_reducible apply bk_hit | with_reducible apply bk_miss | with_reducible apply lp_x | with_reducible apply lp_r | (with_reducible apply xp_cond_t; (· simp +decide only [go_sem, hi, h2, hk0, hr, hq, h3, hw', hm, hm0, bit_and1]; done)) | (with_reducible apply xp_cond_f; (· simp +decide only [go_sem, hi, h2, hk0, hr, hq, h3, hw', hm, hm0, bit_and1]; done))))
    (first | with_reducible apply fq_r | with_reducible apply fq_n); (· simp +decide only [go_sem] <;> rfl); (· simp +decide only [go_sem] <;> rfl)
theorem at_call {d : Bool} (H : Heap) (c : Rep) (rows : List (Rep × List (BitVec 64))) (i k : Int) (hk : k < 9223372036854775808) :
    callV L.env d (sem L.env Mf) (.func (.func 5) [] []) [sl c (rows.map rowE), .int .i64 i, .int .i64 k] H = some (.bool (atB rows i k), H, []) :=
  callV_flat (by kernel_rfl) (by kernel_rfl) rfl (by simp only [go_sem]) (at_ok c rows i k hk) rfl
theorem lives_call {d : Bool} (H : Heap) : callV L.env d (sem L.env Mf) (.func (.func 4) [] []) [] H = some (.bool true, H, []) :=
  callV_flat (by kernel_rfl) (by kernel_rfl) rfl rfl lives_sem rfl
theorem law_ok (c : Rep) (rows : List (Rep × List (BitVec 64))) (i k : Int) (hk : k < 9223372036854775808) :
    sem L.env Mf 3 [sl c (rows.map rowE), .int .i64 i, .int .i64 k] [] = some (.bool true, []) := by
  have ha := fun H => at_call (d := false) H c rows i k hk
  have hl := fun H => lives_call (d := false) H
  by_cases h20 : rows.length > 20
  · have h20' : (20 : Int) < rows.length := by omega
    (refine sem_wp (code := (Tryd.f3.body).getD .skip) (N := 62) (results := [.tmp 6]) (by kernel_rfl) (no _ (by decide)) rfl rfl ?_; simp only [Tryd.f3, Option.getD_some])
    (repeat (first | (with_reducible apply xp_rs; (· simp +decide only [go_sem, h20', hl]; rfl)) | (with_reducible apply xp_region; (· simp +decide only [go_sem, h20', hl]; rfl)) | (with_reducible apply xp_ds; (· simp +decide only [go_sem, h20', hl]; rfl); (· kernel_rfl)) | (with_reducible apply xp_draw; (· simp +decide only [go_sem, h20', hl]; rfl); (· kernel_rfl)) | with_reducible apply xp_seq | with_reducible apply xp_block | with_reducible apply xp_scope | with_reducible apply xp_skip | with_reducible apply xp_label | with_reducible apply xp_exit | with_reducible apply xp_ret | with_reducible apply sq_n | with_reducible apply sq_r | with_reducible apply sq_x | with_reducible apply bk_n | with_reducible apply bk_r | with_reducible apply bk_hit | with_reducible apply bk_miss | with_reducible apply lp_x | with_reducible apply lp_r | (with_reducible apply xp_cond_t; (· simp +decide only [go_sem, h20', hl]; done)) | (with_reducible apply xp_cond_f; (· simp +decide only [go_sem, h20', hl]; done))))
    (first | with_reducible apply fq_r | with_reducible apply fq_n); (· simp +decide only [go_sem] <;> rfl); (· simp +decide only [go_sem] <;> rfl)
  have h20' : ¬ (20 : Int) < rows.length := by omega
  by_cases hi : i < 0
  · have e : atB rows i k = false := by simp [atB]; omega
    rw [e] at ha
    have hi' : ¬ 0 ≤ i := by omega
    (refine sem_wp (code := (Tryd.f3.body).getD .skip) (N := 62) (results := [.tmp 6]) (by kernel_rfl) (no _ (by decide)) rfl rfl ?_; simp only [Tryd.f3, Option.getD_some])
    (repeat (first | (with_reducible apply xp_rs; (· simp +decide only [go_sem, h20', hl, ha, hi']; rfl)) | (with_reducible apply xp_region; (· simp +decide only [go_sem, h20', hl, ha, hi']; rfl)) | (with_reducible apply xp_ds; (· simp +decide only [go_sem, h20', hl, ha, hi']; rfl); (· kernel_rfl)) | (with_reducible apply xp_draw; (· simp +decide only [go_sem, h20', hl, ha, hi']; rfl); (· kernel_rfl)) | with_reducible apply xp_seq | with_reducible apply xp_block | with_reducible apply xp_scope | with_reducible apply xp_skip | with_reducible apply xp_label | with_reducible apply xp_exit | with_reducible apply xp_ret | with_reducible apply sq_n | with_reducible apply sq_r | with_reducible apply sq_x | with_reducible apply bk_n | with_reducible apply bk_r | with_reducible apply bk_hit | with_reducible apply bk_miss | with_reducible apply lp_x | with_reducible apply lp_r | (with_reducible apply xp_cond_t; (· simp +decide only [go_sem, h20', hl, ha, hi']; done)) | (with_reducible apply xp_cond_f; (· simp +decide only [go_sem, h20', hl, ha, hi']; done))))
    (first | with_reducible apply fq_r | with_reducible apply fq_n); (· simp +decide only [go_sem] <;> rfl); (· simp +decide only [go_sem] <;> rfl)
  obtain ⟨a, rfl⟩ : ∃ a : Nat, i = a := ⟨i.toNat, by omega⟩
  have hi' : 0 ≤ (a : Int) := by omega
  by_cases hal : rows.length ≤ a
  · have e : atB rows a k = false := by
      simp only [atB, Int.toNat_natCast]; rw [List.getElem?_eq_none hal]; simp
    rw [e] at ha
    have h2 : ¬ (a : Int) < rows.length := by omega
    (refine sem_wp (code := (Tryd.f3.body).getD .skip) (N := 62) (results := [.tmp 6]) (by kernel_rfl) (no _ (by decide)) rfl rfl ?_; simp only [Tryd.f3, Option.getD_some])
    (repeat (first | (with_reducible apply xp_rs; (· simp +decide only [go_sem, h20', hl, ha, hi', h2]; rfl)) | (with_reducible apply xp_region; (· simp +decide only [go_sem, h20', hl, ha, hi', h2]; rfl)) | (with_reducible apply xp_ds; (· simp +decide only [go_sem, h20', hl, ha, hi', h2]; rfl); (· kernel_rfl)) | (with_reducible apply xp_draw; (· simp +decide only [go_sem, h20', hl, ha, hi', h2]; rfl); (· kernel_rfl)) | with_reducible apply xp_seq | with_reducible apply xp_block | with_reducible apply xp_scope | with_reducible apply xp_skip | with_reducible apply xp_label | with_reducible apply xp_exit | with_reducible apply xp_ret | with_reducible apply sq_n | with_reducible apply sq_r | with_reducible apply sq_x | with_reducible apply bk_n | with_reducible apply bk_r | with_reducible apply bk_hit | with_reducible apply bk_miss | with_reducible apply lp_x | with_reducible apply lp_r | (with_reducible apply xp_cond_t; (· simp +decide only [go_sem, h20', hl, ha, hi', h2]; done)) | (with_reducible apply xp_cond_f; (· simp +decide only [go_sem, h20', hl, ha, hi', h2]; done))))
    (first | with_reducible apply fq_r | with_reducible apply fq_n); (· simp +decide only [go_sem] <;> rfl); (· simp +decide only [go_sem] <;> rfl)
  obtain ⟨r, hr⟩ : ∃ r, rows[a]? = some r := ⟨_, List.getElem?_eq_getElem (by omega)⟩
  have h2 : (a : Int) < rows.length := by omega
  by_cases hr20 : r.2.length > 20
  · have hr20' : (20 : Int) < r.2.length := by omega
    (refine sem_wp (code := (Tryd.f3.body).getD .skip) (N := 62) (results := [.tmp 6]) (by kernel_rfl) (no _ (by decide)) rfl rfl ?_; simp only [Tryd.f3, Option.getD_some])
    (repeat (first | (with_reducible apply xp_rs; (· simp +decide only [go_sem, h20', hl, ha, hi', h2, hr, hr20']; rfl)) | (with_reducible apply xp_region; (· simp +decide only [go_sem, h20', hl, ha, hi', h2, hr, hr20']; rfl)) | (with_reducible apply xp_ds; (· simp +decide only [go_sem, h20', hl, ha, hi', h2, hr, hr20']; rfl); (· kernel_rfl)) | (with_reducible apply xp_draw; (· simp +decide only [go_sem, h20', hl, ha, hi', h2, hr, hr20']; rfl); (· kernel_rfl)) | with_reducible apply xp_seq | with_reducible apply xp_block | with_reducible apply xp_scope | with_reducible apply xp_skip | with_reducible apply xp_label | with_reducible apply xp_exit | with_reducible apply xp_ret | with_reducible apply sq_n | with_reducible apply sq_r | with_reducible apply sq_x | with_reducible apply bk_n | with_reducible apply bk_r | with_reducible apply bk_hit | with_reducible apply bk_miss | with_reducible apply lp_x | with_reducible apply lp_r | (with_reducible apply xp_cond_t; (· simp +decide only [go_sem, h20', hl, ha, hi', h2, hr, hr20']; done)) | (with_reducible apply xp_cond_f; (· simp +decide only [go_sem, h20', hl, ha, hi', h2, hr, hr20']; done))))
    (first | with_reducible apply fq_r | with_reducible apply fq_n); (· simp +decide only [go_sem] <;> rfl); (· simp +decide only [go_sem] <;> rfl)
  have hr20' : ¬ (20 : Int) < r.2.length := by omega
  by_cases hk0 : k < 0
  · have e : atB rows a k = false := by simp [atB]; omega
    rw [e] at ha
    have hk0' : ¬ 0 ≤ k := by omega
    (refine sem_wp (code := (Tryd.f3.body).getD .skip) (N := 62) (results := [.tmp 6]) (by kernel_rfl) (no _ (by decide)) rfl rfl ?_; simp only [Tryd.f3, Option.getD_some])
    (repeat (first | (with_reducible apply xp_rs; (· simp +decide only [go_sem, h20', hl, ha, hi', h2, hr, hr20', hk0']; rfl)) | (with_reducible apply xp_region; (· simp +decide only [go_sem, h20', hl, ha, hi', h2, hr, hr20', hk0']; rfl)) | (with_reducible apply xp_ds; (· simp +decide only [go_sem, h20', hl, ha, hi', h2, hr, hr20', hk0']; rfl); (· kernel_rfl)) | (with_reducible apply xp_draw; (· simp +decide only [go_sem, h20', hl, ha, hi', h2, hr, hr20', hk0']; rfl); (· kernel_rfl)) | with_reducible apply xp_seq | with_reducible apply xp_block | with_reducible apply xp_scope | with_reducible apply xp_skip | with_reducible apply xp_label | with_reducible apply xp_exit | with_reducible apply xp_ret | with_reducible apply sq_n | with_reducible apply sq_r | with_reducible apply sq_x | with_reducible apply bk_n | with_reducible apply bk_r | with_reducible apply bk_hit | with_reducible apply bk_miss | with_reducible apply lp_x | with_reducible apply lp_r | (with_reducible apply xp_cond_t; (· simp +decide only [go_sem, h20', hl, ha, hi', h2, hr, hr20', hk0']; done)) | (with_reducible apply xp_cond_f; (· simp +decide only [go_sem, h20', hl, ha, hi', h2, hr, hr20', hk0']; done))))
    (first | with_reducible apply fq_r | with_reducible apply fq_n); (· simp +decide only [go_sem] <;> rfl); (· simp +decide only [go_sem] <;> rfl)
  obtain ⟨n, rfl⟩ : ∃ n : Nat, k = n := ⟨k.toNat, by omega⟩
  have hk0' : 0 ≤ (n : Int) := by omega
  have hmul : IntKind.i64.wrap (64 * (r.2.length : Int)) = ((64 * r.2.length : Nat) : Int) := by
    rw [w64 (by omega) (by omega)]; omega
  by_cases hw : r.2.length ≤ n / 64
  · have e : atB rows a n = false := by
      simp only [atB, Int.toNat_natCast, hr]; rw [List.getElem?_eq_none hw]; simp
    rw [e] at ha
    have h3 : ¬ (n : Int) < ((64 * r.2.length : Nat) : Int) := by omega
    (refine sem_wp (code := (Tryd.f3.body).getD .skip) (N := 62) (results := [.tmp 6]) (by kernel_rfl) (no _ (by decide)) rfl rfl ?_; simp only [Tryd.f3, Option.getD_some])
    (repeat (first | (with_reducible apply xp_rs; (· simp +decide only [go_sem, h20', hl, ha, hi', h2, hr, hr20', hk0', hmul, h3]; rfl)) | (with_reducible apply xp_region; (· simp +decide only [go_sem, h20', hl, ha, hi', h2, hr, hr20', hk0', hmul, h3]; rfl)) | (with_reducible apply xp_ds; (· simp +decide only [go_sem, h20', hl, ha, hi', h2, hr, hr20', hk0', hmul, h3]; rfl); (· kernel_rfl)) | (with_reducible apply xp_draw; (· simp +decide only [go_sem, h20', hl, ha, hi', h2, hr, hr20', hk0', hmul, h3]; rfl); (· kernel_rfl)) | with_reducible apply xp_seq | with_reducible apply xp_block | with_reducible apply xp_scope | with_reducible apply xp_skip | with_reducible apply xp_label | with_reducible apply xp_exit | with_reducible apply xp_ret | with_reducible apply sq_n | with_reducible apply sq_r | with_reducible apply sq_x | with_reducible apply bk_n | with_reducible apply bk_r | with_reducible apply bk_hit | with_reducible apply bk_miss | with_reducible apply lp_x | with_reducible apply lp_r | (with_reducible apply xp_cond_t; (· simp +decide only [go_sem, h20', hl, ha, hi', h2, hr, hr20', hk0', hmul, h3]; done)) | (with_reducible apply xp_cond_f; (· simp +decide only [go_sem, h20', hl, ha, hi', h2, hr, hr20', hk0', hmul, h3]; done))))
    (first | with_reducible apply fq_r | with_reducible apply fq_n); (· simp +decide only [go_sem] <;> rfl); (· simp +decide only [go_sem] <;> rfl)
  · obtain ⟨w, hw'⟩ : ∃ w, r.2[n / 64]? = some w := ⟨_, List.getElem?_eq_getElem (by omega)⟩
    have e : atB rows a n = w.getLsbD (n % 64) := by
      simp only [atB, Int.toNat_natCast, hr, hw']; simp
    rw [e] at ha
    have h3 : (n : Int) < ((64 * r.2.length : Nat) : Int) := by omega
    have hq := quo64 n (by omega)
    have hs : (BitVec.ofInt 64 (n : Int) % BitVec.ofInt 64 64).toNat = n % 64 := by
      have e1 : (BitVec.ofInt 64 (n : Int)).toNat = n := by rw [BitVec.toNat_ofInt]; omega
      have e2 : (BitVec.ofInt 64 (64 : Int)).toNat = 64 := by rfl
      rw [BitVec.toNat_umod, e1, e2]
    have hwt : (w.getLsbD (n % 64) == w.getLsbD (n % 64)) = true := beq_self_eq_true _
    (refine sem_wp (code := (Tryd.f3.body).getD .skip) (N := 62) (results := [.tmp 6]) (by kernel_rfl) (no _ (by decide)) rfl rfl ?_; simp only [Tryd.f3, Option.getD_some])
    (repeat (first | (with_reducible apply xp_rs; (· simp +decide only [go_sem, h20', hl, ha, hi', h2, hr, hr20', hk0', hmul, h3, hq, hs, hw', bit_mod2, hwt]; rfl)) | (with_reducible apply xp_region; (· simp +decide only [go_sem, h20', hl, ha, hi', h2, hr, hr20', hk0', hmul, h3, hq, hs, hw', bit_mod2, hwt]; rfl)) | (with_reducible apply xp_ds; (· simp +decide only [go_sem, h20', hl, ha, hi', h2, hr, hr20', hk0', hmul, h3, hq, hs, hw', bit_mod2, hwt]; rfl); (· kernel_rfl)) | (with_reducible apply xp_draw; (· simp +decide only [go_sem, h20', hl, ha, hi', h2, hr, hr20', hk0', hmul, h3, hq, hs, hw', bit_mod2, hwt]; rfl); (· kernel_rfl)) | with_reducible apply xp_seq | with_reducible apply xp_block | with_reducible apply xp_scope | with_reducible apply xp_skip | with_reducible apply xp_label | with_reducible apply xp_exit | with_reducible apply xp_ret | with_reducible apply sq_n | with_reducible apply sq_r | with_reducible apply sq_x | with_reducible apply bk_n | with_reducible apply bk_r | with_reducible apply bk_hit | with_reducible apply bk_miss | with_reducible apply lp_x | with_reducible apply lp_r | (with_reducible apply xp_cond_t; (· simp +decide only [go_sem, h20', hl, ha, hi', h2, hr, hr20', hk0', hmul, h3, hq, hs, hw', bit_mod2, hwt]; done)) | (with_reducible apply xp_cond_f; (· simp +decide only [go_sem, h20', hl, ha, hi', h2, hr, hr20', hk0', hmul, h3, hq, hs, hw', bit_mod2, hwt]; done))))
    (first | with_reducible apply fq_r | with_reducible apply fq_n); (· simp +decide only [go_sem] <;> rfl); (· simp +decide only [go_sem] <;> rfl)
end Go.DInst
