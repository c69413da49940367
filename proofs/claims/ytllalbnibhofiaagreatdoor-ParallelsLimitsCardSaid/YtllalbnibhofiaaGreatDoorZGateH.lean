/- Part of a proof. No condition. -/
import Derived.Test.YtllalbnibhofiaaGreatDoorZBase
import Derived.Test.YtllalbnibhofiaaGreatDoorPcCir
namespace Go.ZInst
open Go.Proofs Go.Ax Go.Pc
set_option maxRecDepth 100000
set_option linter.unusedSimpArgs false
def trV (b : Nat) (l : List Nat) : AV := match l with | [] => .nilslice | _ :: l => .slice b 0 (l.length + 1) none
def trH (l : List Nat) : Heap := match l with | [] => [] | y :: l => [some (.row 1 (intR y :: l.map intR))]
theorem trV_nil (b : Nat) : trV b [] = .nilslice := by rfl
theorem trV_cons (b y : Nat) (l : List Nat) : trV b (y :: l) = .slice b 0 (l.length + 1) none := by rfl
theorem trH_nil : trH [] = [] := by rfl
theorem trH_cons (y : Nat) (l : List Nat) : trH (y :: l) = [some (.row 1 (intR y :: l.map intR))] := by rfl
theorem flat_ints (l : List Nat) : (l.map intR).flatMap refsL = [] := refs_flatR (FlatR.map fun _ => rfl)
theorem ren_ints (π : Nat → Option Nat) (l : List Nat) : (l.map intR).map (fun r => r.map (ren π)) = l.map intR := renR_flat π (FlatR.map fun _ => rfl)
attribute [go_sem] trV_nil trV_cons trH_nil trH_cons flat_ints ren_ints

theorem row_get (t : Nat) (l : List Nat) (j : Nat) (h : j < l.length + 1) : ([AV.int .i64 (t : Int)] :: List.map intR l)[j]? = some [.int .i64 (((t :: l).getD j 0 : Nat) : Int)] := by
  have e : ([AV.int .i64 (t : Int)] :: List.map intR l) = (t :: l).map intR := rfl
  rw [e, List.getElem?_map, List.getElem?_eq_getElem (by simpa using h)]
  simp [intR, List.getD, List.getElem?_eq_getElem (show j < (t :: l).length by simpa using h)]
end Go.ZInst
