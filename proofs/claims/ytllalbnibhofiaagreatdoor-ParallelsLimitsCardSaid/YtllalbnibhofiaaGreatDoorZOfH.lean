/- Part of a proof. No condition. -/
import Derived.Test.YtllalbnibhofiaaGreatDoorZBase
import Derived.Test.YtllalbnibhofiaaGreatDoorPcCir
namespace Go.ZInst
open Go.Proofs Go.Ax Go.Pc
set_option maxRecDepth 100000
def inR0 : List AV := [.int .u8 0, .nilslice, .int .i64 0, .int .i64 0]
def dR (b : Nat) : List AV := [.int .u8 14, .slice b 0 1 (some 1), .int .i64 0, .int .i64 0]
def one (v : Nat) : Option AObj := some (.row 1 [[.int .i64 v]])
def xh (x : CX) : Option AObj := some (.row 12 [x.enc])
def rh : Option AObj := some (.row 4 [[.nilslice, .nilslice, .nilslice, .nilslice]])
def nV : Nat → AV | 0 => .nilslice | i + 1 => .slice 3 0 (i + 1) none
def nH : Nat → Heap | 0 => [] | i + 1 => [some (.row 4 (List.replicate (i + 1) inR0))]
theorem nV0 : nV 0 = .nilslice := by rfl
theorem nVs (i : Nat) : nV (i + 1) = .slice 3 0 (i + 1) none := by rfl
theorem nH0 : nH 0 = [] := by rfl
theorem nHs (i : Nat) : nH (i + 1) = [some (.row 4 (List.replicate (i + 1) inR0))] := by rfl
theorem rep_snoc {α : Type} (r : α) (n : Nat) : List.replicate n r ++ [r] = List.replicate (n + 1) r := by rw [List.replicate_succ']
theorem rep_succ : True := trivial
theorem flat_nd (l : List Nd) : (l.map Nd.enc).flatMap refsL = [] := refs_flatR (FlatR.map fun x => by simp only [Nd.enc, refsL, refs_sl, refs]; rfl)
theorem ren_nd (π : Nat → Option Nat) (l : List Nd) : (l.map Nd.enc).map (fun r => r.map (ren π)) = l.map Nd.enc := renR_flat π (FlatR.map fun x => by simp only [Nd.enc, refsL, refs_sl, refs]; rfl)
theorem gN_nil (b : Bool) (ks : List Nat) : gN b ks [] = [] := by rfl
/-- A grown slice over block b. -/
def slN (b : Nat) : Nat → AV | 0 => .nilslice | i + 1 => .slice b 0 (i + 1) none
theorem slN0 (b : Nat) : slN b 0 = .nilslice := by rfl
theorem slNs (b i : Nat) : slN b (i + 1) = .slice b 0 (i + 1) none := by rfl
def nmR (j : Nat) : List AV := [.str (nameS j)]
def nmH : Nat → Heap | 0 => [] | i + 1 => [some (.row 1 ((List.range (i + 1)).map nmR))]
theorem nmH0 : nmH 0 = [] := by rfl
theorem nmHs (i : Nat) : nmH (i + 1) = [some (.row 1 ((List.range (i + 1)).map nmR))] := by rfl
theorem flat_nm (l : List Nat) : (l.map nmR).flatMap refsL = [] := refs_flatR (FlatR.map fun _ => rfl)
theorem ren_nm (π : Nat → Option Nat) (l : List Nat) : (l.map nmR).map (fun r => r.map (ren π)) = l.map nmR := renR_flat π (FlatR.map fun _ => rfl)
theorem nm1 : (List.range 1).map nmR = [[.str (nameS 0)]] := by rfl
theorem nm_snoc (i : Nat) : (List.range (i + 1 + 1)).map nmR = (List.range (i + 1)).map nmR ++ [[.str (nameS (i + 1))]] := by rw [List.range_succ, List.map_append]; rfl
def otR (n o : Nat) : List AV := [.int .i64 (o % n : Nat)]
def otH (x : CX) : Nat → Heap | 0 => [] | i + 1 => [some (.row 1 ((x.outs.take (i + 1)).map (otR x.n)))]
theorem otH0 (x : CX) : otH x 0 = [] := by rfl
theorem otHs (x : CX) (i : Nat) : otH x (i + 1) = [some (.row 1 ((x.outs.take (i + 1)).map (otR x.n)))] := by rfl
theorem flat_ot (n : Nat) (l : List Nat) : (l.map (otR n)).flatMap refsL = [] := refs_flatR (FlatR.map fun _ => rfl)
theorem ren_ot (n : Nat) (π : Nat → Option Nat) (l : List Nat) : (l.map (otR n)).map (fun r => r.map (ren π)) = l.map (otR n) := renR_flat π (FlatR.map fun _ => rfl)
theorem frz_rep {m : Nat} {d : AV → Option AV} {n : Nat} {r : List AV} (h : refsL r = []) : frzR m d (List.replicate n r) = some (List.replicate n r) := frzR_flat m d (FlatR.replicate h)
theorem frz_nd {m : Nat} {d : AV → Option AV} (l : List Nd) : frzR m d (l.map Nd.enc) = some (l.map Nd.enc) := frzR_flat m d (flatNd l)
theorem frz_nm {m : Nat} {d : AV → Option AV} (l : List Nat) : frzR m d (l.map nmR) = some (l.map nmR) := frzR_flat m d (FlatR.map fun _ => rfl)
theorem frz_ot {m : Nat} {d : AV → Option AV} (n : Nat) (l : List Nat) : frzR m d (l.map (otR n)) = some (l.map (otR n)) := frzR_flat m d (FlatR.map fun _ => rfl)
theorem take_all {α : Type} {l : List α} {n : Nat} (h : (l.length ≤ n) = True) : l.take n = l := List.take_of_length_le (of_eq_true h)
theorem ot_int (n : Nat) (l : List Nat) : l.map (intR ∘ fun o => o % n) = l.map (otR n) := by rfl
theorem nm_str (l : List Nat) : l.map (strR ∘ nameS) = l.map nmR := by rfl
attribute [go_sem] inR0 dR one xh rh nmR otR List.range_zero
end Go.ZInst
