/- The statement LedgersAny and its card. No condition. -/
import Derived.Test.YtgmenpackpnmaaaGreatDoorCards
import Derived.Test.YtgmenpackpnmaaaGreatDoorTie
import Derived.WalkKit
import Derived.ProofKit
import Derived.OpenShut
import Derived.Deep.DeepHandedRow
import Derived.Lib.LaidTab
import Derived.MakeChecks
import Derived.Test.YtgmenpackpnmaaaGreatDoorMFacts
import Derived.Test.YtgmenpackpnmaaaGreatDoorMLe
set_option linter.unusedSimpArgs false
set_option linter.unusedVariables false
namespace Go.Proofs.YtgmenpackpnmaaaGreatDoor
open Go.ChangeShapes Go.WideShapes Go.ChangeAt Go.RowKit
open Go.Ax (sl)
namespace lawAny
set_option maxRecDepth 100000
theorem own:ownKnob Tryz.prog.godebug = none:=by kernel_rfl
theorem b8v:laidOutB Tryz.prog = true:=by kernel_rfl
theorem c25 {W:World} (h:laidMetH Tryz.prog Rows.ledgersAnyRow.laid W):Ax.Holds MInst.L.env W:=by
 have h':laidMet Tryz.prog Rows.ledgersAnyRow.laid W:=by
  rw [← MakeChecks.laidMetH_plain _ _ _ (by kernel_rfl)];exact h
 refine Ax.holds_of_laid MInst.ok (laid:=Rows.ledgersAnyRow.laid) h' ?_
 intro g cs hg
 have hg:MInst.GT g = some cs:=hg
 unfold MInst.GT at hg
 simp only [cond_eq_ite] at hg
 split at hg
 ·rename_i h1
  have:g = 1:=by simpa using h1
  subst this
  cases hg
  exact ⟨_,List.mem_cons_of_mem _ List.mem_cons_self,by kernel_rfl,221,by kernel_rfl,by kernel_rfl⟩
 ·split at hg
  ·rename_i h1
   have:g = 0:=by simpa using h1
   subst this
   cases hg
   exact ⟨_,List.mem_cons_self,by kernel_rfl,214,by kernel_rfl,by kernel_rfl⟩
  ·cases hg
open Go.Ax Go.Pc in
theorem b7s (args:List Ax.AV) (h:Ax.TypAs MInst.L.env 8 Tryz.f5.params.toList args) :
 ∃ (cf cc:Option (Option Nat)) (F C:List Int) (t n:Int),args = [.agg [sl cf (F.map MInst.intZ),sl cc (C.map MInst.intZ),.int .i64 t],.int .i64 n]:=by
 have hp:Tryz.f5.params.toList = [43,3]:=by kernel_rfl
 rw [hp] at h
 obtain ⟨a,_,rfl,h1,b,_,rfl,h2,rfl⟩:=h
 obtain ⟨avs,rfl,h1'⟩:=b5j (MInst.ag43) h1
 obtain ⟨p0,_,rfl,t0,p1,_,rfl,t1,p2,_,rfl,t2,rfl⟩:=b2j MInst.ft43 h1'
 have hz:∀ r,Typ MInst.L.env 6 3 r → ∃ x:Int,True ∧ r = MInst.intZ x:=fun r hr=>by
  obtain ⟨x,rfl,_⟩:=b10 MInst.in3 hr
  exact ⟨x,trivial,rfl⟩
 obtain ⟨cf,F,rfl,_,_⟩:=a9p (f:=MInst.intZ) (P:=fun _=>True) MInst.st35 hz t0
 obtain ⟨cc,C,rfl,_,_⟩:=a9p (f:=MInst.intZ) (P:=fun _=>True) MInst.st35 hz t1
 obtain ⟨t,rfl,_⟩:=b10 MInst.in3 t2
 obtain ⟨n,hn,_⟩:=b10 MInst.in3 (b5i (MInst.ag3) h2)
 cases hn
 exact ⟨cf,cc,F,C,t,n,rfl⟩
theorem b68 (H:Type) (enc:TypeId × Value → H) (W:World) (base:Nat) (args:Array Value) (ds gs:List (DataW H)) (before:List MemPlace)
 (hval:∀ (j:Nat) t v,Tryz.f5.params[j]? = some t → args[j]? = some v → Value.okWide Tryz.prog W .any base t v)
 (hW:DataW.Whole enc Tryz.prog Tryz.f5.params.toList Rows.ledgersAnySpec.vars false W args.toList ds gs before) (hL:laidMetH Tryz.prog Rows.ledgersAnyRow.laid W) :
 Calls Tryz.prog 5 args W fun e W'=>∃ v,e = .returned v ∧ Rows.ledgersAnySpec.post enc Tryz.prog Tryz.f5 false true false false W args v W':=by
 refine Ax.law_contract (E:=MInst.L.env) (m:=8) (n:=2) (tb:=4) MInst.ok b8v (Ax.sem_ok MInst.ok MInst.dr MInst.livesFacts 5) (by kernel_rfl) ?_ rfl (by kernel_rfl) ?_ (by kernel_rfl) (by kernel_rfl) (by kernel_rfl) W base args ds gs before hval hW (c25 hL)
 ·intro args ha
  obtain ⟨cf,cc,F,C,t,n,rfl⟩:=b7s args ha
  exact ⟨_,MInst.lawAny_ok cf cc F C t n⟩
 ·intro ds hd
  match ds,hd with
  | [a,b],_=>exact ⟨rfl,rfl,rfl⟩
def wArgs:Array Value:=#[.agg #[.slice none 0 0,.slice none 0 0,.int .i64 0],.int .i64 0]
def lay (cs:List Value):Obj → Obj
 | .cells _ t frozen=>.cells cs.toArray t frozen
 | o=>o
noncomputable def a71 (os:Os):World:=
 { World.holding Tryz.prog os ⟨#[],#[],[]⟩ with heap:=((World.holding Tryz.prog os ⟨#[],#[],[]⟩).heap.modify 0 (lay (([0,0,0,0,0,0,1,1,1,1,2,16,2,16,2,16,2,16,2,16,2,16,3,3,2,2,1,16,1,1,0,0]:List Int).map (Value.int .i64)))).modify 1 (lay (([0,1,1,0,0,0,1,1]:List Int).map (Value.int .u64))) }
theorem b5x (os:Os):laidMet Tryz.prog Rows.ledgersAnyRow.laid ((a71 os).forCall (fun _ _=>0) ⟨#[],wArgs,[]⟩).memory:=
 laidMet_of_run' 8 (by kernel_rfl) (by kernel_rfl)
def c4q {H:Type}:List (DataW H) × List (DataW H) × List MemPlace:=([.agg [.nil,.nil,.lit (.int .i64 0)],.lit (.int .i64 0)],[],[])
theorem b5q (os:Os) {H:Type} (enc:TypeId × Value → H):DataW.whole enc Tryz.prog ((a71 os).forCall (fun _ _=>0) ⟨#[],wArgs,[]⟩).memory Tryz.f5.params.toList Rows.ledgersAnySpec.vars false wArgs.toList 8 = some c4q:=by kernel_rfl
theorem c1z (os:Os) (started:os.Started) (H:Type) (enc:TypeId × Value → H) (F:Stop.Interp) :
 ReturnsInHanded {} Tryz.checked os 5 .any ((OpenSpec.ofChange Rows.ledgersAnySpec).preRow enc Tryz.prog Tryz.f5 Rows.ledgersAnyRow.domain false Rows.ledgersAnyRow.laid) (((OpenSpec.ofChange Rows.ledgersAnySpec).at F).post enc Tryz.prog Tryz.f5 false true false false):=by
 refine returnsInHanded_of_row (C:=Tryz.checked) (s:=OpenSpec.ofChange Rows.ledgersAnySpec) own started (by kernel_rfl) Tryz.func5
  (witness_row_at (enc:=enc) (C:=Tryz.checked) false (a71 os) wArgs rfl (by kernel_rfl) (by kernel_rfl) (by kernel_rfl)
   (OpenSpec.preRow_of_cond 8 (b5q os enc) (by kernel_rfl) (fun k hk=>by cases hk) (by kernel_rfl) (b5x os))) ?_
 intro W base args ds gs before hval hW _ _ _ hL _ _
 exact b68 H enc W base args ds gs before hval hW hL
theorem c75:Rows.LedgersAnySaid:=
 OpenClaim.holds_of_cond 5 Tryz.f5 rfl rfl rfl rfl rfl rfl rfl ⟨rfl,rfl,rfl,rfl,rfl⟩ rfl rfl rfl rfl rfl (by kernel_rfl) Tryz.func5 (by kernel_rfl)
  (of_decide_eq_true (by kernel_rfl)) (by unfold Func.isWrapper;first|(rw [if_pos (by decide +kernel)];kernel_rfl)|(rw [if_neg (by decide +kernel)];exact ⟨rfl,rfl⟩))
  (fun os started H enc _ F=>by rw [OpenClaim.pre_eq_preRow];exact c1z os started H enc F)
theorem b5r (f:FuncId) (fn:Func) (hf:Tryz.pinned.checked.prog.funcNamed Tryz.f5.name = some f) (hfn:Tryz.pinned.checked.prog.funcs[f]? = some fn) :
 false = Tryz.pinned.checked.prog.looks [] ∧ ∀ (j:Nat) t,fn.params[j]? = some t → Tryz.pinned.checked.prog.wantsStandIn t = false:=by
 obtain rfl:f = 5:=Option.some.inj ((show Tryz.prog.funcNamed Tryz.f5.name = some 5 by kernel_rfl).symm.trans hf) |>.symm
 obtain rfl:fn = Tryz.f5:=(Option.some.inj (Tryz.func5.symm.trans hfn)).symm
 refine ⟨by kernel_rfl,fun j t ht=>?_⟩
 have hall:Tryz.f5.params.toList.all (fun t=>!(Tryz.prog.wantsStandIn t)) = true:=by kernel_rfl
 have hm:t ∈ Tryz.f5.params.toList:=by simpa using Array.mem_of_getElem? ht
 have:=List.all_eq_true.1 hall t hm
 show Tryz.prog.wantsStandIn t = false
 simpa using this
theorem card:Rows.LedgersAnyCardSaid:=
 Claim7.holds_tied_plain_at .later [] _ _ _ _ c75 (fun _ h=>by cases h) (by kernel_rfl) (fun _ h=>by cases h) ledgersAny_row_tie rfl ⟨rfl,rfl⟩ (by kernel_rfl) rfl b5r (by kernel_rfl)
end lawAny
end Go.Proofs.YtgmenpackpnmaaaGreatDoor
