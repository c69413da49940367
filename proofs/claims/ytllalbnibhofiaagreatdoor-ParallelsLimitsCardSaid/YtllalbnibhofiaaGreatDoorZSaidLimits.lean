/- The statement ParallelsLimits and its card. No condition. -/
import Derived.Test.YtllalbnibhofiaaGreatDoorCards
import Derived.Test.YtllalbnibhofiaaGreatDoorTie
import Derived.WalkKit
import Derived.ProofKit
import Derived.OpenShut
import Derived.Deep.DeepHandedRow
import Derived.Lib.LaidTab
import Derived.MakeChecks
import Derived.Test.YtllalbnibhofiaaGreatDoorZFacts
import Derived.Test.YtllalbnibhofiaaGreatDoorZLimits
namespace Go.Proofs.YtllalbnibhofiaaGreatDoor
open Go.ChangeShapes Go.WideShapes Go.ChangeAt Go.RowKit
open Go.Ax (sl)
namespace lawLimits
set_option maxRecDepth 100000
theorem own : ownKnob Tryz.prog.godebug = none := by kernel_rfl
theorem laidOut : laidOutB Tryz.prog = true := by kernel_rfl

theorem holds {W : World} (h : laidMetH Tryz.prog Rows.parallelsLimitsRow.laid W) : Ax.Holds ZInst.L.env W := by
  have h' : laidMet Tryz.prog Rows.parallelsLimitsRow.laid W := by
    rw [← MakeChecks.laidMetH_plain _ _ _ (by kernel_rfl)]; exact h
  refine Ax.holds_of_laid ZInst.ok (laid := Rows.parallelsLimitsRow.laid) h' ?_
  intro g cs hg
  have hg : ZInst.GT g = some cs := hg
  unfold ZInst.GT at hg
  simp only [cond_eq_ite] at hg
  split at hg
  · rename_i h1
    have : g = 1 := by simpa using h1
    subst this
    cases hg
    exact ⟨_, List.mem_cons_self, by kernel_rfl, 180, by kernel_rfl, by kernel_rfl⟩
  · split at hg
    · rename_i h1
      have : g = 0 := by simpa using h1
      subst this
      cases hg
      exact ⟨_, List.mem_cons_of_mem _ List.mem_cons_self, by kernel_rfl, 149, by kernel_rfl, by kernel_rfl⟩
    · cases hg

open Go.Ax Go.Pc in
theorem cx_typed (avs : List AV) (h : Typ ZInst.L.env 8 27 avs) : ∃ x : CX, x.ok ∧ avs = x.enc := by
  have h := typ_struct ZInst.ft27 h
  obtain ⟨p0, _, rfl, t0, p1, _, rfl, t1, p2, _, rfl, t2, p3, _, rfl, t3, p4, _, rfl, t4, p5, _, rfl, t5, p6, _, rfl, t6, p7, _, rfl, t7, rfl⟩ := h
  obtain ⟨inn, rfl, h0⟩ := typ_u8 ZInst.in5 t0
  obtain ⟨dffs, rfl, h1⟩ := typ_u8 ZInst.in5 t1
  obtain ⟨q0, _, rfl, u0, q1, _, rfl, u1, rfl⟩ := typ_array ZInst.ar22 t2
  obtain ⟨d0, rfl, hd0⟩ := typ_u8 ZInst.in5 u0
  obtain ⟨d1, rfl, hd1⟩ := typ_u8 ZInst.in5 u1
  obtain ⟨bus, rfl⟩ := typ_bool ZInst.un4 t3
  obtain ⟨mem, rfl⟩ := typ_bool ZInst.un4 t4
  obtain ⟨r0, _, rfl, v0, r1, _, rfl, v1, r2, _, rfl, v2, r3, _, rfl, v3, rfl⟩ := typ_array ZInst.ar23 t5
  obtain ⟨a0, rfl, _⟩ := typ_u8 ZInst.in5 v0
  obtain ⟨a1, rfl, _⟩ := typ_u8 ZInst.in5 v1
  obtain ⟨a2, rfl, _⟩ := typ_u8 ZInst.in5 v2
  obtain ⟨a3, rfl, _⟩ := typ_u8 ZInst.in5 v3
  obtain ⟨gc, gates, rfl, _, hg⟩ := typ_slice (f := GX.enc) (P := GX.ok) ZInst.st24 (fun r hr => by
    have hr := typ_struct ZInst.ft127 hr
    obtain ⟨p0, _, rfl, t0, p1, _, rfl, t1, rfl⟩ := hr
    obtain ⟨k, rfl, hk⟩ := typ_u8 ZInst.in5 t0
    obtain ⟨q0, _, rfl, u0, q1, _, rfl, u1, q2, _, rfl, u2, rfl⟩ := typ_array ZInst.ar125 t1
    obtain ⟨i0, rfl, e0⟩ := typ_u8 ZInst.in5 u0
    obtain ⟨i1, rfl, e1⟩ := typ_u8 ZInst.in5 u1
    obtain ⟨i2, rfl, e2⟩ := typ_u8 ZInst.in5 u2
    exact ⟨⟨k, i0, i1, i2⟩, ⟨hk, e0, e1, e2⟩, rfl⟩) t6
  obtain ⟨oc, outs, rfl, _, ho⟩ := typ_slice (f := u8R) (P := fun o => o < 256) ZInst.st25 (fun r hr => by
    obtain ⟨o, rfl, h⟩ := typ_u8 ZInst.in5 hr
    exact ⟨o, h, rfl⟩) t7
  exact ⟨⟨inn, dffs, d0, d1, bus, mem, a0, a1, a2, a3, gc, gates, oc, outs⟩, ⟨h0, h1, hd0, hd1, hg, ho⟩, rfl⟩
open Go.Ax Go.Pc in
theorem typed (args : List Ax.AV) (h : Ax.TypAs ZInst.L.env 8 Tryz.f4.params.toList args) :
    ∃ (x : CX) (m : Nat), args = [.agg x.enc, .int .u8 m] ∧ x.ok := by
  have hp : Tryz.f4.params.toList = [27, 5] := by kernel_rfl
  rw [hp] at h
  obtain ⟨a, _, rfl, h1, b, _, rfl, h2, rfl⟩ := h
  obtain ⟨avs, rfl, h1'⟩ := typA_agg (ZInst.ag27) h1
  have h2 := typA_one (ZInst.ag5) h2
  obtain ⟨x, hx, rfl⟩ := cx_typed avs h1'
  obtain ⟨m, e, _⟩ := typ_u8 (ZInst.in5) h2
  simp only [List.cons.injEq, and_true] at e
  subst e
  exact ⟨x, m, rfl, hx⟩

theorem contract (H : Type) (enc : TypeId × Value → H) (W : World) (base : Nat) (args : Array Value) (ds gs : List (DataW H)) (before : List MemPlace)
    (hval : ∀ (j : Nat) t v, Tryz.f4.params[j]? = some t → args[j]? = some v → Value.okWide Tryz.prog W .any base t v)
    (hW : DataW.Whole enc Tryz.prog Tryz.f4.params.toList Rows.parallelsLimitsSpec.vars false W args.toList ds gs before) (hL : laidMetH Tryz.prog Rows.parallelsLimitsRow.laid W) :
    Calls Tryz.prog 4 args W fun e W' => ∃ v, e = .returned v ∧ Rows.parallelsLimitsSpec.post enc Tryz.prog Tryz.f4 false true false false W args v W' := by
  refine Ax.law_contract (E := ZInst.L.env) (m := 8) (n := 2) (tb := 4) ZInst.ok laidOut (Ax.sem_ok ZInst.ok ZInst.dr ZInst.livesFacts 4) (by kernel_rfl) ?_ rfl (by kernel_rfl) ?_ (by kernel_rfl) (by kernel_rfl) (by kernel_rfl) W base args ds gs before hval hW (holds hL)
  · intro args ha
    obtain ⟨x, m, rfl, hx⟩ := typed args ha
    exact ⟨_, ZInst.limits_ok x hx m⟩
  · intro ds hd
    match ds, hd with
    | [a, b], _ => exact ⟨rfl, rfl, rfl⟩

def wArgs : Array Value := #[.agg #[.int .u8 0, .int .u8 0, .int .u8 0, .int .u8 0, .bool false, .bool false, .int .u8 0, .int .u8 0, .int .u8 0, .int .u8 0, .slice none 0 0, .slice none 0 0], .int .u8 0]
def lay (cs : List Value) : Obj → Obj
  | .cells _ t frozen => .cells cs.toArray t frozen
  | o => o
noncomputable def laidWorld (os : Os) : World :=
  { World.holding Tryz.prog os ⟨#[], #[], []⟩ with heap := ((World.holding Tryz.prog os ⟨#[], #[], []⟩).heap.modify 1 (lay (([0, 0, 0, 0, 0, 0, 1, 1, 1, 1, 2, 16, 2, 16, 2, 16, 2, 16, 2, 16, 2, 16, 3, 3, 2, 2, 1, 16, 1, 1, 0, 0] : List Int).map (Value.int .i64)))).modify 0 (lay (([0, 1, 1, 0, 0, 0, 1, 1] : List Int).map (Value.int .u64))) }
theorem laid_met (os : Os) : laidMet Tryz.prog Rows.parallelsLimitsRow.laid ((laidWorld os).forCall (fun _ _ => 0) ⟨#[], wArgs, []⟩).memory :=
  laidMet_of_run' 8 (by kernel_rfl) (by kernel_rfl)
def wData {H : Type} : List (DataW H) × List (DataW H) × List MemPlace := ([.agg [.lit (.int .u8 0), .lit (.int .u8 0), .agg [.lit (.int .u8 0), .lit (.int .u8 0)], .lit (.bool false), .lit (.bool false), .agg [.lit (.int .u8 0), .lit (.int .u8 0), .lit (.int .u8 0), .lit (.int .u8 0)], .nil, .nil], .lit (.int .u8 0)], [], [])
theorem reads (os : Os) {H : Type} (enc : TypeId × Value → H) : DataW.whole enc Tryz.prog ((laidWorld os).forCall (fun _ _ => 0) ⟨#[], wArgs, []⟩).memory Tryz.f4.params.toList Rows.parallelsLimitsSpec.vars false wArgs.toList 8 = some wData := by kernel_rfl

theorem lifted (os : Os) (started : os.Started) (H : Type) (enc : TypeId × Value → H) (F : Stop.Interp) :
    ReturnsInHanded {} Tryz.checked os 4 .any ((OpenSpec.ofChange Rows.parallelsLimitsSpec).preRow enc Tryz.prog Tryz.f4 Rows.parallelsLimitsRow.domain false Rows.parallelsLimitsRow.laid) (((OpenSpec.ofChange Rows.parallelsLimitsSpec).at F).post enc Tryz.prog Tryz.f4 false true false false) := by
  refine returnsInHanded_of_row (C := Tryz.checked) (s := OpenSpec.ofChange Rows.parallelsLimitsSpec) own started (by kernel_rfl) Tryz.func4
    (witness_row_at (enc := enc) (C := Tryz.checked) false (laidWorld os) wArgs rfl (by kernel_rfl) (by kernel_rfl) (by kernel_rfl)
      (OpenSpec.preRow_of_cond 8 (reads os enc) (by kernel_rfl) (fun k hk => by cases hk) (by kernel_rfl) (laid_met os))) ?_
  intro W base args ds gs before hval hW _ _ _ hL _ _
  exact contract H enc W base args ds gs before hval hW hL

theorem said : Rows.ParallelsLimitsSaid :=
  OpenClaim.holds_of_cond 4 Tryz.f4 rfl rfl rfl rfl rfl rfl rfl ⟨rfl, rfl, rfl, rfl, rfl⟩ rfl rfl rfl rfl rfl (by kernel_rfl) Tryz.func4 (by kernel_rfl)
    (of_decide_eq_true (by kernel_rfl)) (by unfold Func.isWrapper; first | (rw [if_pos (by decide +kernel)]; kernel_rfl) | (rw [if_neg (by decide +kernel)]; exact ⟨rfl, rfl⟩))
    (fun os started H enc _ F => by rw [OpenClaim.pre_eq_preRow]; exact lifted os started H enc F)

theorem plain (f : FuncId) (fn : Func) (hf : Tryz.pinned.checked.prog.funcNamed Tryz.f4.name = some f) (hfn : Tryz.pinned.checked.prog.funcs[f]? = some fn) :
    false = Tryz.pinned.checked.prog.looks [] ∧ ∀ (j : Nat) t, fn.params[j]? = some t → Tryz.pinned.checked.prog.wantsStandIn t = false := by
  obtain rfl : f = 4 := Option.some.inj ((show Tryz.prog.funcNamed Tryz.f4.name = some 4 by kernel_rfl).symm.trans hf) |>.symm
  obtain rfl : fn = Tryz.f4 := (Option.some.inj (Tryz.func4.symm.trans hfn)).symm
  refine ⟨by kernel_rfl, fun j t ht => ?_⟩
  have hall : Tryz.f4.params.toList.all (fun t => !(Tryz.prog.wantsStandIn t)) = true := by kernel_rfl
  have hm : t ∈ Tryz.f4.params.toList := by simpa using Array.mem_of_getElem? ht
  have := List.all_eq_true.1 hall t hm
  show Tryz.prog.wantsStandIn t = false
  simpa using this

/-- THE CARD. -/
theorem card : Rows.ParallelsLimitsCardSaid :=
  Claim7.holds_tied_plain_at .later [] _ _ _ _ said (fun _ h => by cases h) (by kernel_rfl) (fun _ h => by cases h) parallelsLimits_row_tie rfl ⟨rfl, rfl⟩ (by kernel_rfl) rfl plain (by kernel_rfl)
end lawLimits
end Go.Proofs.YtllalbnibhofiaaGreatDoor
