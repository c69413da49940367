/- The statement ProgramsRead and its card. No condition. -/
import Derived.Test.YtmbmjfjagololaaGreatDoorCards
import Derived.Test.YtmbmjfjagololaaGreatDoorTie
import Derived.WalkKit
import Derived.ProofKit
import Derived.OpenShut
import Derived.Deep.DeepHandedRow
import Derived.Lib.LaidTab
import Derived.MakeChecks
import Derived.Test.YtmbmjfjagololaaGreatDoorRRq
set_option linter.unusedSimpArgs false
set_option linter.unusedVariables false
namespace Go.Proofs.YtmbmjfjagololaaGreatDoor
open Go.ChangeShapes Go.WideShapes Go.ChangeAt Go.RowKit
open Go.Ax (sl)
namespace lawRead
set_option maxRecDepth 100000
noncomputable instance iPR:RInst.PR:=RInst.PR3
theorem own:ownKnob Tryz.prog.godebug=none:=by kernel_rfl
theorem d24:laidOutB Tryz.prog=true:=by kernel_rfl
theorem c8g{W:World}(h:laidMetH Tryz.prog Rows.programsReadRow.laid W):Ax.Holds RInst.L.env W:=by
 have h':laidMet Tryz.prog Rows.programsReadRow.laid W:=by rw[←MakeChecks.laidMetH_plain _ _ _ (by kernel_rfl)];exact h
 refine Ax.holds_of_laid RInst.ok (laid:=Rows.programsReadRow.laid) h' ?_;intro g cs hg;have hg:RInst.GT g=some cs:=hg;unfold RInst.GT at hg;simp only[cond_eq_ite]at hg;split at hg
 ·rename_i h1;have:g=3:=by simpa using h1
  subst this;cases hg;exact⟨_,List.mem_cons_of_mem _ (List.mem_cons_of_mem _ List.mem_cons_self),by kernel_rfl,159,by kernel_rfl,by kernel_rfl⟩
 ·cases hg
open Go.Ax Go.Pc in
theorem d0x(args:List Ax.AV)(h:Ax.TypAs RInst.L.env 8 Tryz.f5.params.toList args) :
 ∃(s t:List UInt8),args=[.str s,.str t]:=by
 have hq:Tryz.f5.params.toList=[9,9]:=by kernel_rfl
 rw[hq]at h;obtain⟨a,_,rfl,h1,b,_,rfl,h2,rfl⟩:=h;have h1:=Ax.typA_one (RInst.ag9) h1;obtain⟨s,e1,_⟩:=c42 (by kernel_rfl) h1;have h2:=Ax.typA_one (RInst.ag9) h2;obtain⟨t,e2,_⟩:=c42 (by kernel_rfl) h2;cases e1;cases e2;exact⟨s,t,rfl⟩
theorem c8m(H:Type)(enc:TypeId×Value→H)(W:World)(base:Nat)(args:Array Value)(ds gs:List (DataW H))(cE:List MemPlace)
 (dB:∀(j:Nat) t v,Tryz.f5.params[j]?=some t→args[j]?=some v→Value.okWide Tryz.prog W .any base t v)
 (hW:DataW.Whole enc Tryz.prog Tryz.f5.params.toList Rows.programsReadSpec.vars false W args.toList ds gs cE)(hL:laidMetH Tryz.prog Rows.programsReadRow.laid W) :
 Calls Tryz.prog 5 args W λe W'=>∃v,e = .returned v∧Rows.programsReadSpec.post enc Tryz.prog Tryz.f5 false true false false W args v W':=by
 refine Ax.law_contract (E:=RInst.L.env) (m:=8) (n:=2) (tb:=4) RInst.ok d24 (by decide) (Ax.sem_ok RInst.ok RInst.dr3 (M:=RInst.Mf) (λ_ h=>by cases h) 5) (by kernel_rfl) ?_ rfl (by kernel_rfl) ?_ (by kernel_rfl) (by kernel_rfl) (by kernel_rfl) W base args ds gs cE dB hW (c8g hL)
 ·intro args ha;obtain⟨s,t,rfl⟩:=d0x args ha;exact⟨_,RInst.read_law RInst.pr3_so RInst.pr3_at s t⟩
 ·intro ds hd
  match ds,hd with
  | [a,b],_=>exact⟨rfl,rfl,rfl⟩
def wArgs:Array Value:=#[.string ⟨#[]⟩,.string ⟨#[]⟩]
def lay(cs:List Value):Obj→Obj
 |.cells _ t frozen=>.cells cs.toArray t frozen
 |o=>o
noncomputable def b3f(os:Os):World:={ World.holding Tryz.prog os ⟨#[],#[],[]⟩with heap:=((((((World.holding Tryz.prog os ⟨#[],#[],[]⟩).heap.modify 4 (lay (([0,1,28,2,29,14,24,3,30,22,20,15,25,17,4,8,31,27,13,23,21,19,16,7,26,12,18,6,11,5,10,9]:List Int).map (Value.int .u8)))).modify 5 (lay (([0,1,56,2,57,49,28,3,61,58,42,50,38,29,17,4,62,47,59,36,45,43,51,22,53,39,33,30,24,18,12,5,63,55,48,27,60,41,37,16,46,35,44,21,52,32,23,11,54,26,40,15,34,20,31,10,25,14,19,9,13,8,7,6]:List Int).map (Value.int .u8)))).modify 3 (lay (([1,10,100,1000,10000,100000,1000000,10000000,100000000,1000000000,10000000000,100000000000,1000000000000,10000000000000,100000000000000,1000000000000000,10000000000000000,100000000000000000,1000000000000000000,10000000000000000000]:List Int).map (Value.int .u64)))).modify 2 (lay (([128,191,160,191,128,159,144,191,128,143,0,0,0,0,0,0,0,0,0,0,0,0,0,0,0,0,0,0,0,0,0,0]:List Int).map (Value.int .u8)))).modify 1 (lay ((Go.Pinned.utf8FirstZ).map λn=>Value.int .u8 (n:Nat)))) }
theorem c8c(os:Os):laidMet Tryz.prog Rows.programsReadRow.laid ((b3f os).forCall (λ_ _=>0) ⟨#[],wArgs,[]⟩).memory:=laidMet_of_run' 8 (by kernel_rfl) (by kernel_rfl)
def e0e{H:Type}:List (DataW H)×List (DataW H)×List MemPlace:=([.lit (.string []),.lit (.string [])],[],[])
theorem d1r(os:Os){H:Type}(enc:TypeId×Value→H):DataW.whole enc Tryz.prog ((b3f os).forCall (λ_ _=>0) ⟨#[],wArgs,[]⟩).memory Tryz.f5.params.toList Rows.programsReadSpec.vars false wArgs.toList 8=some e0e:=by kernel_rfl
theorem d6k(os:Os)(gZ:os.Started)(H:Type)(enc:TypeId×Value→H)(F:Stop.Interp) :
 ReturnsInHanded {} Tryz.checked os 5 .any ((OpenSpec.ofChange Rows.programsReadSpec).preRow enc Tryz.prog Tryz.f5 Rows.programsReadRow.domain false Rows.programsReadRow.laid) (((OpenSpec.ofChange Rows.programsReadSpec).at F).post enc Tryz.prog Tryz.f5 false true false false):=by
 refine returnsInHanded_of_row (C:=Tryz.checked) (s:=OpenSpec.ofChange Rows.programsReadSpec) own gZ (by kernel_rfl) Tryz.func5
  (witness_row_at (enc:=enc) (C:=Tryz.checked) false (b3f os) wArgs rfl (by kernel_rfl) (by kernel_rfl) (by kernel_rfl)
   (OpenSpec.preRow_of_cond 8 (d1r os enc) (by kernel_rfl) (λk hk=>by cases hk) (by kernel_rfl) (c8c os))) ?_
 intro W base args ds gs cE dB hW _ _ _ hL _ _;exact c8m H enc W base args ds gs cE dB hW hL
theorem e49:Rows.ProgramsReadSaid:=
 OpenClaim.holds_of_cond 5 Tryz.f5 rfl rfl rfl rfl rfl rfl rfl ⟨rfl,rfl,rfl,rfl,rfl⟩ rfl rfl rfl rfl rfl (by kernel_rfl) Tryz.func5 (by kernel_rfl)
  (of_decide_eq_true (by kernel_rfl)) (by unfold Func.isWrapper;first|(rw[if_pos (by decide+kernel)];kernel_rfl)|(rw[if_neg (by decide+kernel)];exact⟨rfl,rfl⟩))
  (λos gZ H enc _ F=>by rw[OpenClaim.pre_eq_preRow];exact d6k os gZ H enc F)
theorem plain(f:FuncId)(fn:Func)(hf:Tryz.pinned.checked.prog.funcNamed Tryz.f5.name=some f)(cI:Tryz.pinned.checked.prog.funcs[f]?=some fn) :
 true=Tryz.pinned.checked.prog.looks []∧∀(j:Nat) t,fn.params[j]?=some t→Tryz.pinned.checked.prog.wantsStandIn t=false:=by
 obtain rfl:f=5:=Option.some.inj ((show Tryz.prog.funcNamed Tryz.f5.name=some 5 by kernel_rfl).symm.trans hf) |>.symm;obtain rfl:fn=Tryz.f5:=(Option.some.inj (Tryz.func5.symm.trans cI)).symm;refine⟨by kernel_rfl,λj t ht=>?_⟩;have aH:Tryz.f5.params.toList.all (λt=>!(Tryz.prog.wantsStandIn t))=true:=by kernel_rfl
 have hm:t∈Tryz.f5.params.toList:=by simpa using Array.mem_of_getElem? ht
 have:=List.all_eq_true.1 aH t hm;show Tryz.prog.wantsStandIn t=false;simpa using this
theorem card:Rows.ProgramsReadCardSaid:=Claim7.holds_tied_plain_at .later [] _ _ _ _ e49 (λ_ h=>by cases h) (by kernel_rfl) (λ_ h=>by cases h) programsRead_row_tie rfl ⟨rfl,rfl⟩ (by kernel_rfl) rfl plain (by kernel_rfl)
end lawRead
end Go.Proofs.YtmbmjfjagololaaGreatDoor
