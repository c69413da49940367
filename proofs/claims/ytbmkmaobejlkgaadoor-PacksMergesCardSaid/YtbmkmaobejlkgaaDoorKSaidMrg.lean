/- The statement PacksMerges and its card. No condition. -/
import Derived.Test.YtbmkmaobejlkgaaDoorCards
import Derived.Test.YtbmkmaobejlkgaaDoorTie
import Derived.WalkKit
import Derived.ProofKit
import Derived.OpenShut
import Derived.Deep.DeepHandedRow
import Derived.Lib.LaidTab
import Derived.MakeChecks
import Derived.Test.YtbmkmaobejlkgaaDoorKFacts
import Derived.Test.YtbmkmaobejlkgaaDoorKMrg17
set_option linter.unusedSimpArgs false
set_option linter.unusedVariables false
namespace Go.Proofs.YtbmkmaobejlkgaaDoor
open Go.ChangeShapes Go.WideShapes Go.ChangeAt Go.RowKit
open Go.Ax (sl)
namespace lawMrg
set_option maxRecDepth 100000
theorem own:ownKnob Tryd.prog.godebug = none:=by kernel_rfl
theorem laidOut:laidOutB Tryd.prog = true:=by kernel_rfl
theorem holds {W:World} (h:laidMetH Tryd.prog Rows.packsMergesRow.laid W):Ax.Holds KInst.L.env W:=by
 have h':laidMet Tryd.prog Rows.packsMergesRow.laid W:=by
  rw [← MakeChecks.laidMetH_plain _ _ _ (by kernel_rfl)];exact h
 refine Ax.holds_of_laid KInst.ok (laid:=Rows.packsMergesRow.laid) h' ?_
 intro g cs hg
 have hg:KInst.GT g = some cs:=hg
 unfold KInst.GT at hg
 simp only [cond_eq_ite] at hg
 split at hg
 ·rename_i h1
  have:g = 1:=by simpa using h1
  subst this
  cases hg
  exact ⟨_,List.mem_cons_of_mem _ List.mem_cons_self,by kernel_rfl,113,by kernel_rfl,by kernel_rfl⟩
 ·split at hg
  ·rename_i h1
   have:g = 0:=by simpa using h1
   subst this
   cases hg
   exact ⟨_,List.mem_cons_self,by kernel_rfl,112,by kernel_rfl,by kernel_rfl⟩
  ·cases hg
open Go.Ax Go.Pc in
theorem typed (args:List Ax.AV) (h:Ax.TypAs KInst.L.env 8 Tryd.f5.params.toList args) :
 ∃ (c:Option (Option Nat)) (ls:List KInst.Bl) (m:Nat),args = [sl c (ls.map KInst.Bl.enc),.int .u8 m] ∧ (∀ r ∈ ls,∀ x ∈ r.l,x < 256) ∧ m < 256:=by
 have hp:Tryd.f5.params.toList = [37,5]:=by kernel_rfl
 rw [hp] at h
 obtain ⟨a,_,rfl,h1,b,_,rfl,h2,rfl⟩:=h
 have h1:=Ax.typA_one (KInst.ag37) h1
 have h2:=Ax.typA_one (KInst.ag5) h2
 obtain ⟨c,ls,e1,_,hx⟩:=typ_slice (f:=KInst.Bl.enc) (P:=fun r=>∀ x ∈ r.l,x < 256) KInst.st37 (fun r hr=>by
  obtain ⟨c,xs,rfl,_,hx⟩:=typ_slice (f:=u8R) (P:=fun o=>o < 256) KInst.st22 (fun r hr=>by
   obtain ⟨o,rfl,h⟩:=typ_u8 KInst.in5 hr
   exact ⟨o,h,rfl⟩) hr
  exact ⟨⟨c,xs⟩,hx,rfl⟩) h1
 obtain ⟨m,e2,hm⟩:=typ_u8 KInst.in5 h2
 cases e1;cases e2
 exact ⟨c,ls,m,rfl,hx,hm⟩
theorem contract (H:Type) (enc:TypeId × Value → H) (W:World) (base:Nat) (args:Array Value) (ds gs:List (DataW H)) (before:List MemPlace)
 (hval:∀ (j:Nat) t v,Tryd.f5.params[j]? = some t → args[j]? = some v → Value.okWide Tryd.prog W .any base t v)
 (hW:DataW.Whole enc Tryd.prog Tryd.f5.params.toList Rows.packsMergesSpec.vars false W args.toList ds gs before) (hL:laidMetH Tryd.prog Rows.packsMergesRow.laid W) :
 Calls Tryd.prog 5 args W fun e W'=>∃ v,e = .returned v ∧ Rows.packsMergesSpec.post enc Tryd.prog Tryd.f5 false true false false W args v W':=by
 refine Ax.law_contract (E:=KInst.L.env) (m:=8) (n:=2) (tb:=4) KInst.ok laidOut (by decide) (Ax.sem_ok KInst.ok KInst.dr KInst.livesFacts 5) (by kernel_rfl) ?_ rfl (by kernel_rfl) ?_ (by kernel_rfl) (by kernel_rfl) (by kernel_rfl) W base args ds gs before hval hW (holds hL)
 ·intro args ha
  obtain ⟨c,ls,m,rfl,hx,hm⟩:=typed args ha
  exact ⟨_,KInst.merges_ok c ls hx m hm⟩
 ·intro ds hd
  match ds,hd with
  | [a,b],_=>exact ⟨rfl,rfl,rfl⟩
def wArgs:Array Value:=#[.slice none 0 0,.int .u8 0]
def lay (cs:List Value):Obj → Obj
 | .cells _ t frozen=>.cells cs.toArray t frozen
 | o=>o
noncomputable def laidWorld (os:Os):World:=
 { World.holding Tryd.prog os ⟨#[],#[],[]⟩ with heap:=((World.holding Tryd.prog os ⟨#[],#[],[]⟩).heap.modify 0 (lay (([0,1,28,2,29,14,24,3,30,22,20,15,25,17,4,8,31,27,13,23,21,19,16,7,26,12,18,6,11,5,10,9]:List Int).map (Value.int .u8)))).modify 1 (lay (([0,1,56,2,57,49,28,3,61,58,42,50,38,29,17,4,62,47,59,36,45,43,51,22,53,39,33,30,24,18,12,5,63,55,48,27,60,41,37,16,46,35,44,21,52,32,23,11,54,26,40,15,34,20,31,10,25,14,19,9,13,8,7,6]:List Int).map (Value.int .u8))) }
theorem laid_met (os:Os):laidMet Tryd.prog Rows.packsMergesRow.laid ((laidWorld os).forCall (fun _ _=>0) ⟨#[],wArgs,[]⟩).memory:=
 laidMet_of_run' 8 (by kernel_rfl) (by kernel_rfl)
def wData {H:Type}:List (DataW H) × List (DataW H) × List MemPlace:=([.nil,.lit (.int .u8 0)],[],[])
theorem reads (os:Os) {H:Type} (enc:TypeId × Value → H):DataW.whole enc Tryd.prog ((laidWorld os).forCall (fun _ _=>0) ⟨#[],wArgs,[]⟩).memory Tryd.f5.params.toList Rows.packsMergesSpec.vars false wArgs.toList 8 = some wData:=by kernel_rfl
theorem lifted (os:Os) (started:os.Started) (H:Type) (enc:TypeId × Value → H) (F:Stop.Interp) :
 ReturnsInHanded {} Tryd.checked os 5 .any ((OpenSpec.ofChange Rows.packsMergesSpec).preRow enc Tryd.prog Tryd.f5 Rows.packsMergesRow.domain false Rows.packsMergesRow.laid) (((OpenSpec.ofChange Rows.packsMergesSpec).at F).post enc Tryd.prog Tryd.f5 false true false false):=by
 refine returnsInHanded_of_row (C:=Tryd.checked) (s:=OpenSpec.ofChange Rows.packsMergesSpec) own started (by kernel_rfl) Tryd.func5
  (witness_row_at (enc:=enc) (C:=Tryd.checked) false (laidWorld os) wArgs rfl (by kernel_rfl) (by kernel_rfl) (by kernel_rfl)
   (OpenSpec.preRow_of_cond 8 (reads os enc) (by kernel_rfl) (fun k hk=>by cases hk) (by kernel_rfl) (laid_met os))) ?_
 intro W base args ds gs before hval hW _ _ _ hL _ _
 exact contract H enc W base args ds gs before hval hW hL
theorem said:Rows.PacksMergesSaid:=
 OpenClaim.holds_of_cond 5 Tryd.f5 rfl rfl rfl rfl rfl rfl rfl ⟨rfl,rfl,rfl,rfl,rfl⟩ rfl rfl rfl rfl rfl (by kernel_rfl) Tryd.func5 (by kernel_rfl)
  (of_decide_eq_true (by kernel_rfl)) (by unfold Func.isWrapper;first|(rw [if_pos (by decide +kernel)];kernel_rfl)|(rw [if_neg (by decide +kernel)];exact ⟨rfl,rfl⟩))
  (fun os started H enc _ F=>by rw [OpenClaim.pre_eq_preRow];exact lifted os started H enc F)
theorem plain (f:FuncId) (fn:Func) (hf:Tryd.pinned.checked.prog.funcNamed Tryd.f5.name = some f) (hfn:Tryd.pinned.checked.prog.funcs[f]? = some fn) :
 false = Tryd.pinned.checked.prog.looks [] ∧ ∀ (j:Nat) t,fn.params[j]? = some t → Tryd.pinned.checked.prog.wantsStandIn t = false:=by
 obtain rfl:f = 5:=Option.some.inj ((show Tryd.prog.funcNamed Tryd.f5.name = some 5 by kernel_rfl).symm.trans hf) |>.symm
 obtain rfl:fn = Tryd.f5:=(Option.some.inj (Tryd.func5.symm.trans hfn)).symm
 refine ⟨by kernel_rfl,fun j t ht=>?_⟩
 have hall:Tryd.f5.params.toList.all (fun t=>!(Tryd.prog.wantsStandIn t)) = true:=by kernel_rfl
 have hm:t ∈ Tryd.f5.params.toList:=by simpa using Array.mem_of_getElem? ht
 have:=List.all_eq_true.1 hall t hm
 show Tryd.prog.wantsStandIn t = false
 simpa using this
/-- THE CARD. -/
theorem card:Rows.PacksMergesCardSaid:=
 Claim7.holds_tied_plain_at .later [] _ _ _ _ said (fun _ h=>by cases h) (by kernel_rfl) (fun _ h=>by cases h) packsMerges_row_tie rfl ⟨rfl,rfl⟩ (by kernel_rfl) rfl plain (by kernel_rfl)
end lawMrg
end Go.Proofs.YtbmkmaobejlkgaaDoor
