/- Part of a proof. No condition. -/
import Derived.Test.YtllalbnibhofiaaGreatDoorZGate1
import Derived.Test.YtllalbnibhofiaaGreatDoorZGate2
import Derived.Test.YtllalbnibhofiaaGreatDoorZGate3
import Derived.Test.YtllalbnibhofiaaGreatDoorZName
import Derived.Test.YtllalbnibhofiaaGreatDoorZOfH
namespace Go.ZInst
open Go.Proofs Go.Ax Go.Pc
set_option maxRecDepth 100000
set_option linter.unusedSimpArgs false

theorem gate_call0 {d : Bool} (x : CX) (g : GX) (hg : g.ok) (gs : List Nd) (k n : Nat) (hk : 0 < k) (hn : n = k + 0 + gs.length) (hl : n < 1000) (X0 X1 X2 : Option AObj) :
    callV L.env d (sem L.env Mf) (.func (.func 54) [] []) [.agg x.enc, .agg g.enc, .slice 3 0 n none] [X0, X1, X2, some (.row 4 (List.replicate k inR0 ++ [] ++ gs.map Nd.enc))] = some (.agg (gateNd x.bus g (List.replicate k 0 ++ List.replicate 0 14 ++ gs.map Nd.kind)).enc, [X0, X1, X2, some (.row 4 (List.replicate k inR0 ++ [] ++ gs.map Nd.enc))], [3]) := by
  have hkr : KindRows (List.replicate k inR0 ++ [] ++ gs.map Nd.enc) (List.replicate k 0 ++ List.replicate 0 14 ++ gs.map Nd.kind) := (((KindRows.rep k 0 _ _ _).append KindRows.nil).append (KindRows.nds gs))
  have hlen : (List.replicate k 0 ++ List.replicate 0 14 ++ gs.map Nd.kind).length = n := by simp; omega
  have hr := gate_ok1 x g hg (List.replicate k inR0 ++ [] ++ gs.map Nd.enc) (List.replicate k 0 ++ List.replicate 0 14 ++ gs.map Nd.kind) none hkr (by rw [hlen]; omega) (by rw [hlen]; exact hl) (by simp +decide only [go_sem, flat_nd]) ?_
  · rw [hlen] at hr
    have hc := callLoc_eq (sem L.env Mf 54) [.agg x.enc, .agg g.enc, .slice 3 0 n none] [X0, X1, X2, some (.row 4 (List.replicate k inR0 ++ [] ++ gs.map Nd.enc))] (σ := [3]) (by simp +decide only [go_sem, flat_nd]) (by decide) (by simp +decide only [go_sem]) (args' := [.agg x.enc, .agg g.enc, .slice 0 0 n none]) (by simp +decide only [go_sem]) (H0 := [some (.row 4 (List.replicate k inR0 ++ [] ++ gs.map Nd.enc))]) (by simp +decide only [go_sem, flat_nd, ren_nd]) hr
    refine callV_eq (by kernel_rfl) (by kernel_rfl) rfl (hc.trans ?_) rfl
    simp +decide only [go_sem, flat_nd, ren_nd] <;> rfl
  · refine FixR.append (FixR.append (FixR.flat (FlatR.replicate rfl)) ?_) (FixR.flat (flatNd gs))
    intro π hπ
    simp +decide only [go_sem]

theorem gate_call1 {d : Bool} (x : CX) (g : GX) (hg : g.ok) (gs : List Nd) (k n : Nat) (hk : 0 < k) (hn : n = k + 1 + gs.length) (hl : n < 1000) (X0 X1 X2 : Option AObj) :
    callV L.env d (sem L.env Mf) (.func (.func 54) [] []) [.agg x.enc, .agg g.enc, .slice 3 0 n none] [X0, X1, X2, some (.row 4 (List.replicate k inR0 ++ [dR 4] ++ gs.map Nd.enc)), one 0] = some (.agg (gateNd x.bus g (List.replicate k 0 ++ List.replicate 1 14 ++ gs.map Nd.kind)).enc, [X0, X1, X2, some (.row 4 (List.replicate k inR0 ++ [dR 4] ++ gs.map Nd.enc)), one 0], [3, 4]) := by
  have hkr : KindRows (List.replicate k inR0 ++ [dR 1] ++ gs.map Nd.enc) (List.replicate k 0 ++ List.replicate 1 14 ++ gs.map Nd.kind) := (((KindRows.rep k 0 _ _ _).append (KindRows.nil).cons).append (KindRows.nds gs))
  have hlen : (List.replicate k 0 ++ List.replicate 1 14 ++ gs.map Nd.kind).length = n := by simp; omega
  have hr := gate_ok2 x g hg (List.replicate k inR0 ++ [dR 1] ++ gs.map Nd.enc) (List.replicate k 0 ++ List.replicate 1 14 ++ gs.map Nd.kind) none hkr (by rw [hlen]; omega) (by rw [hlen]; exact hl) (by simp +decide only [go_sem, flat_nd]) ?_
  · rw [hlen] at hr
    have hc := callLoc_eq (sem L.env Mf 54) [.agg x.enc, .agg g.enc, .slice 3 0 n none] [X0, X1, X2, some (.row 4 (List.replicate k inR0 ++ [dR 4] ++ gs.map Nd.enc)), one 0] (σ := [3, 4]) (by simp +decide only [go_sem, flat_nd]) (by decide) (by simp +decide only [go_sem]) (args' := [.agg x.enc, .agg g.enc, .slice 0 0 n none]) (by simp +decide only [go_sem]) (H0 := [some (.row 4 (List.replicate k inR0 ++ [dR 1] ++ gs.map Nd.enc)), one 0]) (by simp +decide only [go_sem, flat_nd, ren_nd]) hr
    refine callV_eq (by kernel_rfl) (by kernel_rfl) rfl (hc.trans ?_) rfl
    simp +decide only [go_sem, flat_nd, ren_nd] <;> rfl
  · refine FixR.append (FixR.append (FixR.flat (FlatR.replicate rfl)) ?_) (FixR.flat (flatNd gs))
    intro π hπ
    simp +decide only [go_sem, hπ 1 (by omega)]

theorem gate_call2 {d : Bool} (x : CX) (g : GX) (hg : g.ok) (gs : List Nd) (k n : Nat) (hk : 0 < k) (hn : n = k + 2 + gs.length) (hl : n < 1000) (X0 X1 X2 : Option AObj) :
    callV L.env d (sem L.env Mf) (.func (.func 54) [] []) [.agg x.enc, .agg g.enc, .slice 3 0 n none] [X0, X1, X2, some (.row 4 (List.replicate k inR0 ++ [dR 4, dR 5] ++ gs.map Nd.enc)), one 0, one 0] = some (.agg (gateNd x.bus g (List.replicate k 0 ++ List.replicate 2 14 ++ gs.map Nd.kind)).enc, [X0, X1, X2, some (.row 4 (List.replicate k inR0 ++ [dR 4, dR 5] ++ gs.map Nd.enc)), one 0, one 0], [3, 4, 5]) := by
  have hkr : KindRows (List.replicate k inR0 ++ [dR 1, dR 2] ++ gs.map Nd.enc) (List.replicate k 0 ++ List.replicate 2 14 ++ gs.map Nd.kind) := (((KindRows.rep k 0 _ _ _).append ((KindRows.nil).cons).cons).append (KindRows.nds gs))
  have hlen : (List.replicate k 0 ++ List.replicate 2 14 ++ gs.map Nd.kind).length = n := by simp; omega
  have hr := gate_ok3 x g hg (List.replicate k inR0 ++ [dR 1, dR 2] ++ gs.map Nd.enc) (List.replicate k 0 ++ List.replicate 2 14 ++ gs.map Nd.kind) none hkr (by rw [hlen]; omega) (by rw [hlen]; exact hl) (by simp +decide only [go_sem, flat_nd]) ?_
  · rw [hlen] at hr
    have hc := callLoc_eq (sem L.env Mf 54) [.agg x.enc, .agg g.enc, .slice 3 0 n none] [X0, X1, X2, some (.row 4 (List.replicate k inR0 ++ [dR 4, dR 5] ++ gs.map Nd.enc)), one 0, one 0] (σ := [3, 4, 5]) (by simp +decide only [go_sem, flat_nd]) (by decide) (by simp +decide only [go_sem]) (args' := [.agg x.enc, .agg g.enc, .slice 0 0 n none]) (by simp +decide only [go_sem]) (H0 := [some (.row 4 (List.replicate k inR0 ++ [dR 1, dR 2] ++ gs.map Nd.enc)), one 0, one 0]) (by simp +decide only [go_sem, flat_nd, ren_nd]) hr
    refine callV_eq (by kernel_rfl) (by kernel_rfl) rfl (hc.trans ?_) rfl
    simp +decide only [go_sem, flat_nd, ren_nd] <;> rfl
  · refine FixR.append (FixR.append (FixR.flat (FlatR.replicate rfl)) ?_) (FixR.flat (flatNd gs))
    intro π hπ
    simp +decide only [go_sem, hπ 1 (by omega), hπ 2 (by omega)]
end Go.ZInst
