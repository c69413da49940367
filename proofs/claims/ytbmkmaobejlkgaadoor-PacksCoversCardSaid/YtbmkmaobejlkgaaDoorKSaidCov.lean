/- The statement PacksCovers and its card. No condition. -/
import Derived.Test.YtbmkmaobejlkgaaDoorCards
import Derived.Test.YtbmkmaobejlkgaaDoorTie
import Derived.WalkKit
import Derived.ProofKit
import Derived.OpenShut
import Derived.Deep.DeepHandedRow
import Derived.Lib.LaidTab
import Derived.MakeChecks
import Derived.Test.YtbmkmaobejlkgaaDoorKFacts
import Derived.Test.YtbmkmaobejlkgaaDoorKPck20
set_option linter.unusedSimpArgs false
set_option linter.unusedVariables false
namespace Go.Proofs.YtbmkmaobejlkgaaDoor
open Go.ChangeShapes Go.WideShapes Go.ChangeAt Go.RowKit
open Go.Ax (sl)
namespace lawCov
set_option maxRecDepth 100000
theorem own:ownKnob Tryd.prog.godebug = none:=by kernel_rfl
theorem laidOut:laidOutB Tryd.prog = true:=by kernel_rfl
theorem holds {W:World} (h:laidMetH Tryd.prog Rows.packsCoversRow.laid W):Ax.Holds KInst.L.env W:=by
 have h':laidMet Tryd.prog Rows.packsCoversRow.laid W:=by
  rw [← MakeChecks.laidMetH_plain _ _ _ (by kernel_rfl)];exact h
 refine Ax.holds_of_laid KInst.ok (laid:=Rows.packsCoversRow.laid) h' ?_
 intro g cs hg
 have hg:KInst.GT g = some cs:=hg
 unfold KInst.GT at hg
 simp only [cond_eq_ite] at hg
 split at hg
 ·rename_i h1
  have:g = 1:=by simpa using h1
  subst this
  cases hg
  exact ⟨_,List.mem_cons_of_mem _ List.mem_cons_self,by kernel_rfl,113,by kernel_rfl,by kernel_rfl⟩
 ·split at hg
  ·rename_i h1
   have:g = 0:=by simpa using h1
   subst this
   cases hg
   exact ⟨_,List.mem_cons_self,by kernel_rfl,112,by kernel_rfl,by kernel_rfl⟩
  ·cases hg
open Go.Ax Go.Pc in
theorem typed (args:List Ax.AV) (h:Ax.TypAs KInst.L.env 8 Tryd.f3.params.toList args) :
 ∃ (c:Option (Option Nat)) (xs:List Nat) (m:Nat),args = [sl c (xs.map u8R),.int .u8 m] ∧ (∀ x ∈ xs,x < 256) ∧ m < 256:=by
 have hp:Tryd.f3.params.toList = [22,5]:=by kernel_rfl
 rw [hp] at h
 obtain ⟨a,_,rfl,h1,b,_,rfl,h2,rfl⟩:=h
 have h1:=Ax.typA_one (KInst.ag22) h1
 have h2:=Ax.typA_one (KInst.ag5) h2
 obtain ⟨c,xs,e1,_,hx⟩:=typ_slice (f:=u8R) (P:=fun o=>o < 256) KInst.st22 (fun r hr=>by
  obtain ⟨o,rfl,h⟩:=typ_u8 KInst.in5 hr
  exact ⟨o,h,rfl⟩) h1
 obtain ⟨m,e2,hm⟩:=typ_u8 KInst.in5 h2
 cases e1;cases e2
 exact ⟨c,xs,m,rfl,hx,hm⟩
theorem contract (H:Type) (enc:TypeId × Value → H) (W:World) (base:Nat) (args:Array Value) (ds gs:List (DataW H)) (before:List MemPlace)
 (hval:∀ (j:Nat) t v,Tryd.f3.params[j]? = some t → args[j]? = some v → Value.okWide Tryd.prog W .any base t v)
 (hW:DataW.Whole enc Tryd.prog Tryd.f3.params.toList Rows.packsCoversSpec.vars false W args.toList ds gs before) (hL:laidMetH Tryd.prog Rows.packsCoversRow.laid W) :
 Calls Tryd.prog 3 args W fun e W'=>∃ v,e = .returned v ∧ Rows.packsCoversSpec.post enc Tryd.prog Tryd.f3 false true false false W args v W':=by
 refine Ax.law_contract (E:=KInst.L.env) (m:=8) (n:=2) (tb:=4) KInst.ok laidOut (by decide) (Ax.sem_ok KInst.ok KInst.dr KInst.livesFacts 3) (by kernel_rfl) ?_ rfl (by kernel_rfl) ?_ (by kernel_rfl) (by kernel_rfl) (by kernel_rfl) W base args ds gs before hval hW (holds hL)
 ·intro args ha
  obtain ⟨c,xs,m,rfl,hx,hm⟩:=typed args ha
  exact ⟨_,KInst.covers_law xs c hx m hm⟩
 ·intro ds hd
  match ds,hd with
  | [a,b],_=>exact ⟨rfl,rfl,rfl⟩
def wArgs:Array Value:=#[.slice none 0 0,.int .u8 0]
def lay (cs:List Value):Obj → Obj
 | .cells _ t frozen=>.cells cs.toArray t frozen
 | o=>o
noncomputable def laidWorld (os:Os):World:=
 { World.holding Tryd.prog os ⟨#[],#[],[]⟩ with heap:=((World.holding Tryd.prog os ⟨#[],#[],[]⟩).heap.modify 0 (lay (([0,1,28,2,29,14,24,3,30,22,20,15,25,17,4,8,31,27,13,23,21,19,16,7,26,12,18,6,11,5,10,9]:List Int).map (Value.int .u8)))).modify 1 (lay (([0,1,56,2,57,49,28,3,61,58,42,50,38,29,17,4,62,47,59,36,45,43,51,22,53,39,33,30,24,18,12,5,63,55,48,27,60,41,37,16,46,35,44,21,52,32,23,11,54,26,40,15,34,20,31,10,25,14,19,9,13,8,7,6]:List Int).map (Value.int .u8))) }
theorem laid_met (os:Os):laidMet Tryd.prog Rows.packsCoversRow.laid ((laidWorld os).forCall (fun _ _=>0) ⟨#[],wArgs,[]⟩).memory:=
 laidMet_of_run' 8 (by kernel_rfl) (by kernel_rfl)
def wData {H:Type}:List (DataW H) × List (DataW H) × List MemPlace:=([.nil,.lit (.int .u8 0)],[],[])
theorem reads (os:Os) {H:Type} (enc:TypeId × Value → H):DataW.whole enc Tryd.prog ((laidWorld os).forCall (fun _ _=>0) ⟨#[],wArgs,[]⟩).memory Tryd.f3.params.toList Rows.packsCoversSpec.vars false wArgs.toList 8 = some wData:=by kernel_rfl
theorem lifted (os:Os) (started:os.Started) (H:Type) (enc:TypeId × Value → H) (F:Stop.Interp) :
 ReturnsInHanded {} Tryd.checked os 3 .any ((OpenSpec.ofChange Rows.packsCoversSpec).preRow enc Tryd.prog Tryd.f3 Rows.packsCoversRow.domain false Rows.packsCoversRow.laid) (((OpenSpec.ofChange Rows.packsCoversSpec).at F).post enc Tryd.prog Tryd.f3 false true false false):=by
 refine returnsInHanded_of_row (C:=Tryd.checked) (s:=OpenSpec.ofChange Rows.packsCoversSpec) own started (by kernel_rfl) Tryd.func3
  (witness_row_at (enc:=enc) (C:=Tryd.checked) false (laidWorld os) wArgs rfl (by kernel_rfl) (by kernel_rfl) (by kernel_rfl)
   (OpenSpec.preRow_of_cond 8 (reads os enc) (by kernel_rfl) (fun k hk=>by cases hk) (by kernel_rfl) (laid_met os))) ?_
 intro W base args ds gs before hval hW _ _ _ hL _ _
 exact contract H enc W base args ds gs before hval hW hL
theorem said:Rows.PacksCoversSaid:=
 OpenClaim.holds_of_cond 3 Tryd.f3 rfl rfl rfl rfl rfl rfl rfl ⟨rfl,rfl,rfl,rfl,rfl⟩ rfl rfl rfl rfl rfl (by kernel_rfl) Tryd.func3 (by kernel_rfl)
  (of_decide_eq_true (by kernel_rfl)) (by unfold Func.isWrapper;first|(rw [if_pos (by decide +kernel)];kernel_rfl)|(rw [if_neg (by decide +kernel)];exact ⟨rfl,rfl⟩))
  (fun os started H enc _ F=>by rw [OpenClaim.pre_eq_preRow];exact lifted os started H enc F)
theorem plain (f:FuncId) (fn:Func) (hf:Tryd.pinned.checked.prog.funcNamed Tryd.f3.name = some f) (hfn:Tryd.pinned.checked.prog.funcs[f]? = some fn) :
 false = Tryd.pinned.checked.prog.looks [] ∧ ∀ (j:Nat) t,fn.params[j]? = some t → Tryd.pinned.checked.prog.wantsStandIn t = false:=by
 obtain rfl:f = 3:=Option.some.inj ((show Tryd.prog.funcNamed Tryd.f3.name = some 3 by kernel_rfl).symm.trans hf) |>.symm
 obtain rfl:fn = Tryd.f3:=(Option.some.inj (Tryd.func3.symm.trans hfn)).symm
 refine ⟨by kernel_rfl,fun j t ht=>?_⟩
 have hall:Tryd.f3.params.toList.all (fun t=>!(Tryd.prog.wantsStandIn t)) = true:=by kernel_rfl
 have hm:t ∈ Tryd.f3.params.toList:=by simpa using Array.mem_of_getElem? ht
 have:=List.all_eq_true.1 hall t hm
 show Tryd.prog.wantsStandIn t = false
 simpa using this
/-- THE CARD. -/
theorem card:Rows.PacksCoversCardSaid:=
 Claim7.holds_tied_plain_at .later [] _ _ _ _ said (fun _ h=>by cases h) (by kernel_rfl) (fun _ h=>by cases h) packsCovers_row_tie rfl ⟨rfl,rfl⟩ (by kernel_rfl) rfl plain (by kernel_rfl)
end lawCov
end Go.Proofs.YtbmkmaobejlkgaaDoor
