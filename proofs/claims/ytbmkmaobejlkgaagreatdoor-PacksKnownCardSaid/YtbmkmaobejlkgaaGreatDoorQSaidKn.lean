/- The statement PacksKnown and its card. No condition. -/
import Derived.Test.YtbmkmaobejlkgaaGreatDoorCards
import Derived.Test.YtbmkmaobejlkgaaGreatDoorTie
import Derived.WalkKit
import Derived.ProofKit
import Derived.OpenShut
import Derived.Deep.DeepHandedRow
import Derived.Lib.LaidTab
import Derived.MakeChecks
import Derived.Test.YtbmkmaobejlkgaaGreatDoorQFc
import Derived.Test.YtbmkmaobejlkgaaGreatDoorQKn
set_option linter.unusedSimpArgs false
set_option linter.unusedVariables false
namespace Go.Proofs.YtbmkmaobejlkgaaGreatDoor
open Go.ChangeShapes Go.WideShapes Go.ChangeAt Go.RowKit
open Go.Ax (sl)
namespace lawKn
set_option maxRecDepth 100000
theorem own:ownKnob Tryz.prog.godebug=none:=by kernel_rfl
theorem d64:laidOutB Tryz.prog=true:=by kernel_rfl
theorem e1o{W:World}(h:laidMetH Tryz.prog Rows.packsKnownRow.laid W):Ax.Holds QInst.L.env W:=by
 have h':laidMet Tryz.prog Rows.packsKnownRow.laid W:=by rw[←MakeChecks.laidMetH_plain _ _ _ (by kernel_rfl)];exact h
 refine Ax.holds_of_laid QInst.ok (laid:=Rows.packsKnownRow.laid) h' ?_;intro g cs hg;have hg:QInst.GT g=some cs:=hg;unfold QInst.GT at hg;simp only[cond_eq_ite]at hg;split at hg
 ·rename_i h1;have:g=2:=by simpa using h1
  subst this;cases hg;exact⟨_,List.mem_cons_of_mem _ (List.mem_cons_of_mem _ List.mem_cons_self),by kernel_rfl,249,by kernel_rfl,by kernel_rfl⟩
 ·split at hg
  ·rename_i h1;have:g=1:=by simpa using h1
   subst this;cases hg;exact⟨_,List.mem_cons_of_mem _ List.mem_cons_self,by kernel_rfl,216,by kernel_rfl,by kernel_rfl⟩
  ·split at hg
   ·rename_i h1;have:g=0:=by simpa using h1
    subst this;cases hg;exact⟨_,List.mem_cons_self,by kernel_rfl,215,by kernel_rfl,by kernel_rfl⟩
   ·cases hg
theorem d6r:∀x∈QInst.Kn.Mf,Ax.FactOk QInst.L.env x:=by
 intro x hx;rcases List.mem_cons.1 hx with rfl|hx
 ·exact Ax.fact_of QInst.ok QInst.dr QInst.h22 60 (by kernel_rfl)
 ·exact QInst.livesFacts x hx
theorem d1k(H:Type)(enc:TypeId×Value→H)(W:World)(base:Nat)(args:Array Value)(ds gs:List (DataW H))(before:List MemPlace)
 (hval:∀(j:Nat) t v,Tryz.f5.params[j]?=some t→args[j]?=some v→Value.okWide Tryz.prog W .any base t v)
 (hW:DataW.Whole enc Tryz.prog Tryz.f5.params.toList Rows.packsKnownSpec.vars false W args.toList ds gs before)(hL:laidMetH Tryz.prog Rows.packsKnownRow.laid W) :
 Calls Tryz.prog 5 args W λe W'=>∃v,e = .returned v∧Rows.packsKnownSpec.post enc Tryz.prog Tryz.f5 false true false false W args v W':=by
 refine Ax.law_contract (E:=QInst.L.env) (m:=8) (n:=0) (tb:=4) QInst.ok d64 (by decide) (Ax.sem_ok QInst.ok QInst.dr (M:=QInst.Kn.Mf) d6r 5) (by kernel_rfl) ?_ rfl (by kernel_rfl) ?_ (by kernel_rfl) (by kernel_rfl) (by kernel_rfl) W base args ds gs before hval hW (e1o hL)
 ·intro args ha;have hq:Tryz.f5.params.toList=[]:=by kernel_rfl
  rw[hq]at ha;have:args=[]:=by cases args with|nil=>rfl|cons _ _=>cases ha
  subst this;exact⟨_,QInst.Kn.lawKnown_ok⟩
 ·intro ds hd
  match ds,hd with
  | [],_=>exact⟨rfl,rfl,rfl⟩
def wArgs:Array Value:=#[]
def lay(cs:List Value):Obj→Obj
 |.cells _ t frozen=>.cells cs.toArray t frozen
 |o=>o
noncomputable def b2v(os:Os):World:={ World.holding Tryz.prog os ⟨#[],#[],[]⟩with heap:=((((World.holding Tryz.prog os ⟨#[],#[],[]⟩).heap.modify 2 (lay (([0,0,0,0,0,0,1,1,1,1,2,16,2,16,2,16,2,16,2,16,2,16,3,3,2,2,1,16,1,1,0,0]:List Int).map (Value.int .i64)))).modify 1 (lay (([0,1,56,2,57,49,28,3,61,58,42,50,38,29,17,4,62,47,59,36,45,43,51,22,53,39,33,30,24,18,12,5,63,55,48,27,60,41,37,16,46,35,44,21,52,32,23,11,54,26,40,15,34,20,31,10,25,14,19,9,13,8,7,6]:List Int).map (Value.int .u8)))).modify 0 (lay (([0,1,28,2,29,14,24,3,30,22,20,15,25,17,4,8,31,27,13,23,21,19,16,7,26,12,18,6,11,5,10,9]:List Int).map (Value.int .u8)))) }
theorem d0r(os:Os):laidMet Tryz.prog Rows.packsKnownRow.laid ((b2v os).forCall (λ_ _=>0) ⟨#[],wArgs,[]⟩).memory:=laidMet_of_run' 8 (by kernel_rfl) (by kernel_rfl)
def e5q{H:Type}:List (DataW H)×List (DataW H)×List MemPlace:=([],[],[])
theorem d5g(os:Os){H:Type}(enc:TypeId×Value→H):DataW.whole enc Tryz.prog ((b2v os).forCall (λ_ _=>0) ⟨#[],wArgs,[]⟩).memory Tryz.f5.params.toList Rows.packsKnownSpec.vars false wArgs.toList 8=some e5q:=by kernel_rfl
theorem e19(os:Os)(started:os.Started)(H:Type)(enc:TypeId×Value→H)(F:Stop.Interp) :
 ReturnsInHanded {} Tryz.checked os 5 .any ((OpenSpec.ofChange Rows.packsKnownSpec).preRow enc Tryz.prog Tryz.f5 Rows.packsKnownRow.domain false Rows.packsKnownRow.laid) (((OpenSpec.ofChange Rows.packsKnownSpec).at F).post enc Tryz.prog Tryz.f5 false true false false):=by
 refine returnsInHanded_of_row (C:=Tryz.checked) (s:=OpenSpec.ofChange Rows.packsKnownSpec) own started (by kernel_rfl) Tryz.func5
  (witness_row_at (enc:=enc) (C:=Tryz.checked) false (b2v os) wArgs rfl (by kernel_rfl) (by kernel_rfl) (by kernel_rfl)
   (OpenSpec.preRow_of_cond 8 (d5g os enc) (by kernel_rfl) (λk hk=>by cases hk) (by kernel_rfl) (d0r os))) ?_
 intro W base args ds gs before hval hW _ _ _ hL _ _;exact d1k H enc W base args ds gs before hval hW hL
theorem f0s:Rows.PacksKnownSaid:=
 OpenClaim.holds_of_cond 5 Tryz.f5 rfl rfl rfl rfl rfl rfl rfl ⟨rfl,rfl,rfl,rfl,rfl⟩ rfl rfl rfl rfl rfl (by kernel_rfl) Tryz.func5 (by kernel_rfl)
  (of_decide_eq_true (by kernel_rfl)) (by unfold Func.isWrapper;first|(rw[if_pos (by decide+kernel)];kernel_rfl)|(rw[if_neg (by decide+kernel)];exact⟨rfl,rfl⟩))
  (λos started H enc _ F=>by rw[OpenClaim.pre_eq_preRow];exact e19 os started H enc F)
theorem d5l(f:FuncId)(fn:Func)(hf:Tryz.pinned.checked.prog.funcNamed Tryz.f5.name=some f)(hfn:Tryz.pinned.checked.prog.funcs[f]?=some fn) :
 false=Tryz.pinned.checked.prog.looks []∧∀(j:Nat) t,fn.params[j]?=some t→Tryz.pinned.checked.prog.wantsStandIn t=false:=by
 obtain rfl:f=5:=Option.some.inj ((show Tryz.prog.funcNamed Tryz.f5.name=some 5 by kernel_rfl).symm.trans hf) |>.symm;obtain rfl:fn=Tryz.f5:=(Option.some.inj (Tryz.func5.symm.trans hfn)).symm;refine⟨by kernel_rfl,λj t ht=>?_⟩;have hall:Tryz.f5.params.toList.all (λt=>!(Tryz.prog.wantsStandIn t))=true:=by kernel_rfl
 have hm:t∈Tryz.f5.params.toList:=by simpa using Array.mem_of_getElem? ht
 have:=List.all_eq_true.1 hall t hm;show Tryz.prog.wantsStandIn t=false;simpa using this
theorem card:Rows.PacksKnownCardSaid:=Claim7.holds_tied_plain_at .later [] _ _ _ _ f0s (λ_ h=>by cases h) (by kernel_rfl) (λ_ h=>by cases h) packsKnown_row_tie rfl ⟨rfl,rfl⟩ (by kernel_rfl) rfl d5l (by kernel_rfl)
end lawKn
end Go.Proofs.YtbmkmaobejlkgaaGreatDoor
