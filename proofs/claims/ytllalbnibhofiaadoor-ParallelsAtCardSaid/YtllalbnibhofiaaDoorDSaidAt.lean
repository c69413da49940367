/- The statement ParallelsAt and its card. No condition. -/
import Derived.Test.YtllalbnibhofiaaDoorCards
import Derived.Test.YtllalbnibhofiaaDoorTie
import Derived.WalkKit
import Derived.ProofKit
import Derived.OpenShut
import Derived.Deep.DeepHandedRow
import Derived.Lib.LaidTab
import Derived.MakeChecks
import Derived.Test.YtllalbnibhofiaaDoorDFacts
import Derived.Test.YtllalbnibhofiaaDoorDAt
namespace Go.Proofs.YtllalbnibhofiaaDoor
open Go.ChangeShapes Go.WideShapes Go.ChangeAt Go.RowKit
open Go.Ax (sl)
namespace lawAt
set_option maxRecDepth 100000
theorem own : ownKnob Tryd.prog.godebug = none := by kernel_rfl
theorem laidOut : laidOutB Tryd.prog = true := by kernel_rfl

theorem holds {W : World} (h : laidMetH Tryd.prog Rows.parallelsAtRow.laid W) : Ax.Holds DInst.L.env W := by
  have h' : laidMet Tryd.prog Rows.parallelsAtRow.laid W := by
    rw [← MakeChecks.laidMetH_plain _ _ _ (by kernel_rfl)]; exact h
  refine Ax.holds_of_laid DInst.ok (laid := Rows.parallelsAtRow.laid) h' ?_
  intro g cs hg
  have hg : DInst.GT g = some cs := hg
  unfold DInst.GT at hg
  simp only [cond_eq_ite] at hg
  split at hg
  · rename_i h1
    have : g = 1 := by simpa using h1
    subst this
    cases hg
    exact ⟨_, List.mem_cons_self, by kernel_rfl, 120, by kernel_rfl, by kernel_rfl⟩
  · split at hg
    · rename_i h1
      have : g = 0 := by simpa using h1
      subst this
      cases hg
      exact ⟨_, List.mem_cons_of_mem _ List.mem_cons_self, by kernel_rfl, 100, by kernel_rfl, by kernel_rfl⟩
    · cases hg

theorem typed (args : List Ax.AV) (h : Ax.TypAs DInst.L.env 4 Tryd.f3.params.toList args) :
    ∃ (c : Option (Option Nat)) (rows : List (DInst.Rep × List (BitVec 64))) (i k : Int), args = [sl c (rows.map DInst.rowE), .int .i64 i, .int .i64 k] ∧ k < 9223372036854775808 := by
  have hp : Tryd.f3.params.toList = [22, 3, 3] := by kernel_rfl
  rw [hp] at h
  obtain ⟨a, _, rfl, h1, b, _, rfl, h2, d, _, rfl, h3, rfl⟩ := h
  have h1 := Ax.typA_one (DInst.ag22) h1
  have h2 := Ax.typA_one (DInst.ag3) h2
  have h3 := Ax.typA_one (DInst.ag3) h3
  obtain ⟨c, rows, e1, _, _⟩ := Ax.typ_slice (f := DInst.rowE) (P := fun _ => True) (DInst.st22) (fun r hr => by
    obtain ⟨c, ws, rfl, _, _⟩ := Ax.typ_slice (f := DInst.w64E) (P := fun _ => True) (DInst.st24) (fun r hr => by
      obtain ⟨w, rfl⟩ := Ax.typ_u64 (DInst.in25) hr
      exact ⟨w, trivial, rfl⟩) hr
    exact ⟨(c, ws), trivial, rfl⟩) h1
  obtain ⟨i, e2, _, _⟩ := Ax.typ_i64 (DInst.in3) h2
  obtain ⟨k, e3, _, hk⟩ := Ax.typ_i64 (DInst.in3) h3
  simp only [List.cons.injEq, and_true] at e1 e2 e3
  subst e1; subst e2; subst e3
  exact ⟨c, rows, i, k, rfl, hk⟩

theorem contract (H : Type) (enc : TypeId × Value → H) (W : World) (base : Nat) (args : Array Value) (ds gs : List (DataW H)) (before : List MemPlace)
    (hval : ∀ (j : Nat) t v, Tryd.f3.params[j]? = some t → args[j]? = some v → Value.okWide Tryd.prog W .any base t v)
    (hW : DataW.Whole enc Tryd.prog Tryd.f3.params.toList Rows.parallelsAtSpec.vars false W args.toList ds gs before) (hL : laidMetH Tryd.prog Rows.parallelsAtRow.laid W) :
    Calls Tryd.prog 3 args W fun e W' => ∃ v, e = .returned v ∧ Rows.parallelsAtSpec.post enc Tryd.prog Tryd.f3 false true false false W args v W' := by
  refine Ax.law_contract (E := DInst.L.env) (m := 4) (n := 3) (tb := 4) DInst.ok laidOut (Ax.sem_ok DInst.ok DInst.dr DInst.livesFacts 3) (by kernel_rfl) ?_ rfl (by kernel_rfl) ?_ (by kernel_rfl) (by kernel_rfl) (by kernel_rfl) W base args ds gs before hval hW (holds hL)
  · intro args ha
    obtain ⟨c, rows, i, k, rfl, hk⟩ := typed args ha
    exact ⟨_, DInst.law_ok c rows i k hk⟩
  · intro ds hd
    match ds, hd with
    | [a, b, c], _ => exact ⟨rfl, rfl, rfl⟩

def wArgs : Array Value := #[.slice none 0 0, .int .i64 0, .int .i64 0]
def lay (cs : List Value) : Obj → Obj
  | .cells _ t frozen => .cells cs.toArray t frozen
  | o => o
noncomputable def laidWorld (os : Os) : World :=
  { World.holding Tryd.prog os ⟨#[], #[], []⟩ with heap := ((World.holding Tryd.prog os ⟨#[], #[], []⟩).heap.modify 1 (lay (([0, 0, 0, 0, 0, 0, 1, 1, 1, 1, 2, 16, 2, 16, 2, 16, 2, 16, 2, 16, 2, 16, 3, 3, 2, 2, 1, 16, 1, 1, 0, 0] : List Int).map (Value.int .i64)))).modify 0 (lay (([0, 1, 1, 0, 0, 0, 1, 1] : List Int).map (Value.int .u64))) }
theorem laid_met (os : Os) : laidMet Tryd.prog Rows.parallelsAtRow.laid ((laidWorld os).forCall (fun _ _ => 0) ⟨#[], wArgs, []⟩).memory :=
  laidMet_of_run' 8 (by kernel_rfl) (by kernel_rfl)
def wData {H : Type} : List (DataW H) × List (DataW H) × List MemPlace := ([.nil, .lit (.int .i64 0), .lit (.int .i64 0)], [], [])
theorem reads (os : Os) {H : Type} (enc : TypeId × Value → H) : DataW.whole enc Tryd.prog ((laidWorld os).forCall (fun _ _ => 0) ⟨#[], wArgs, []⟩).memory Tryd.f3.params.toList Rows.parallelsAtSpec.vars false wArgs.toList 8 = some wData := by kernel_rfl

theorem lifted (os : Os) (started : os.Started) (H : Type) (enc : TypeId × Value → H) (F : Stop.Interp) :
    ReturnsInHanded {} Tryd.checked os 3 .any ((OpenSpec.ofChange Rows.parallelsAtSpec).preRow enc Tryd.prog Tryd.f3 Rows.parallelsAtRow.domain false Rows.parallelsAtRow.laid) (((OpenSpec.ofChange Rows.parallelsAtSpec).at F).post enc Tryd.prog Tryd.f3 false true false false) := by
  refine returnsInHanded_of_row (C := Tryd.checked) (s := OpenSpec.ofChange Rows.parallelsAtSpec) own started (by kernel_rfl) Tryd.func3
    (witness_row_at (enc := enc) (C := Tryd.checked) false (laidWorld os) wArgs rfl (by kernel_rfl) (by kernel_rfl) (by kernel_rfl)
      (OpenSpec.preRow_of_cond 8 (reads os enc) (by kernel_rfl) (fun k hk => by cases hk) (by kernel_rfl) (laid_met os))) ?_
  intro W base args ds gs before hval hW _ _ _ hL _ _
  exact contract H enc W base args ds gs before hval hW hL

theorem said : Rows.ParallelsAtSaid :=
  OpenClaim.holds_of_cond 3 Tryd.f3 rfl rfl rfl rfl rfl rfl rfl ⟨rfl, rfl, rfl, rfl, rfl⟩ rfl rfl rfl rfl rfl (by kernel_rfl) Tryd.func3 (by kernel_rfl)
    (of_decide_eq_true (by kernel_rfl)) (by unfold Func.isWrapper; first | (rw [if_pos (by decide +kernel)]; kernel_rfl) | (rw [if_neg (by decide +kernel)]; exact ⟨rfl, rfl⟩))
    (fun os started H enc _ F => by rw [OpenClaim.pre_eq_preRow]; exact lifted os started H enc F)

theorem plain (f : FuncId) (fn : Func) (hf : Tryd.pinned.checked.prog.funcNamed Tryd.f3.name = some f) (hfn : Tryd.pinned.checked.prog.funcs[f]? = some fn) :
    false = Tryd.pinned.checked.prog.looks [] ∧ ∀ (j : Nat) t, fn.params[j]? = some t → Tryd.pinned.checked.prog.wantsStandIn t = false := by
  obtain rfl : f = 3 := Option.some.inj ((show Tryd.prog.funcNamed Tryd.f3.name = some 3 by kernel_rfl).symm.trans hf) |>.symm
  obtain rfl : fn = Tryd.f3 := (Option.some.inj (Tryd.func3.symm.trans hfn)).symm
  refine ⟨by kernel_rfl, fun j t ht => ?_⟩
  have hall : Tryd.f3.params.toList.all (fun t => !(Tryd.prog.wantsStandIn t)) = true := by kernel_rfl
  have hm : t ∈ Tryd.f3.params.toList := by simpa using Array.mem_of_getElem? ht
  have := List.all_eq_true.1 hall t hm
  show Tryd.prog.wantsStandIn t = false
  simpa using this

/-- THE CARD. -/
theorem card : Rows.ParallelsAtCardSaid :=
  Claim7.holds_tied_plain_at .later [] _ _ _ _ said (fun _ h => by cases h) (by kernel_rfl) (fun _ h => by cases h) parallelsAt_row_tie rfl ⟨rfl, rfl⟩ (by kernel_rfl) rfl plain (by kernel_rfl)
end lawAt
end Go.Proofs.YtllalbnibhofiaaDoor
