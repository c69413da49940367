/- The statement AuditsErrors and its card. No condition. -/
import Derived.Test.YtnkhpfincnfloaaGreatDoorCards
import Derived.Test.YtnkhpfincnfloaaGreatDoorTie
import Derived.WalkKit
import Derived.ProofKit
import Derived.OpenShut
import Derived.Deep.DeepHandedRow
import Derived.Lib.LaidTab
import Derived.MakeChecks
import Derived.Test.YtnkhpfincnfloaaGreatDoorFFacts
import Derived.Test.YtnkhpfincnfloaaGreatDoorFAu14
import Derived.Test.YtnkhpfincnfloaaGreatDoorFJc
import Derived.Test.YtnkhpfincnfloaaGreatDoorFJd
set_option linter.unusedSimpArgs false
set_option linter.unusedVariables false
namespace Go.Proofs.YtnkhpfincnfloaaGreatDoor
open Go.ChangeShapes Go.WideShapes Go.ChangeAt Go.RowKit
open Go.Ax (sl)
namespace lawAud
set_option maxRecDepth 100000
theorem own:ownKnob Tryz.prog.godebug=none:=by kernel_rfl
theorem laidOut:laidOutB Tryz.prog=true:=by kernel_rfl
theorem holds{W:World}(h:laidMetH Tryz.prog Rows.auditsErrorsRow.laid W):Ax.Holds FInst.L.env W:=by
 have h':laidMet Tryz.prog Rows.auditsErrorsRow.laid W:=by rw[←MakeChecks.laidMetH_plain _ _ _ (by kernel_rfl)];exact h
 refine Ax.holds_of_laid FInst.ok (laid:=Rows.auditsErrorsRow.laid) h' ?_;intro g cs hg;have hg:FInst.GT g=some cs:=hg;unfold FInst.GT at hg;simp only[cond_eq_ite]at hg;split at hg
 ·rename_i h1;have:g=6:=by simpa using h1
  subst this;cases hg;exact⟨_,(List.mem_cons_of_mem _ (List.mem_cons_of_mem _ (List.mem_cons_of_mem _ (List.mem_cons_of_mem _ (List.mem_cons_of_mem _ (List.mem_cons_of_mem _ (List.mem_cons_of_mem _ List.mem_cons_self))))))),by kernel_rfl,532,by kernel_rfl,by kernel_rfl⟩
 ·split at hg
  ·rename_i h1;have:g=3:=by simpa using h1
   subst this;cases hg;exact⟨_,(List.mem_cons_of_mem _ (List.mem_cons_of_mem _ (List.mem_cons_of_mem _ (List.mem_cons_of_mem _ List.mem_cons_self)))),by kernel_rfl,442,by kernel_rfl,by kernel_rfl⟩
  ·split at hg
   ·rename_i h1;have:g=2:=by simpa using h1
    subst this;cases hg;exact⟨_,(List.mem_cons_of_mem _ (List.mem_cons_of_mem _ (List.mem_cons_of_mem _ (List.mem_cons_of_mem _ (List.mem_cons_of_mem _ List.mem_cons_self))))),by kernel_rfl,442,by kernel_rfl,by kernel_rfl⟩
   ·split at hg
    ·rename_i h1;have:g=1:=by simpa using h1
     subst this;cases hg;exact⟨_,(List.mem_cons_of_mem _ (List.mem_cons_of_mem _ (List.mem_cons_of_mem _ List.mem_cons_self))),by kernel_rfl,438,by kernel_rfl,by kernel_rfl⟩
    ·cases hg
open Go.Ax Go.Pc in
theorem cx_typed(avs:List AV)(h:Typ FInst.L.env 8 27 avs):∃x:CX,x.ok∧FInst.Ports x∧avs=x.enc:=by have h:=typ_struct FInst.ft27 h;obtain⟨p0,_,rfl,t0,p1,_,rfl,t1,p2,_,rfl,t2,p3,_,rfl,t3,p4,_,rfl,t4,p5,_,rfl,t5,p6,_,rfl,t6,p7,_,rfl,t7,rfl⟩:=h;obtain⟨inn,rfl,h0⟩:=typ_u8 FInst.in5 t0;obtain⟨dffs,rfl,h1⟩:=typ_u8 FInst.in5 t1;obtain⟨q0,_,rfl,u0,q1,_,rfl,u1,rfl⟩:=typ_array FInst.ar22 t2;obtain⟨d0,rfl,hd0⟩:=typ_u8 FInst.in5 u0;obtain⟨d1,rfl,hd1⟩:=typ_u8 FInst.in5 u1;obtain⟨bus,rfl⟩:=typ_bool FInst.un4 t3;obtain⟨mem,rfl⟩:=typ_bool FInst.un4 t4;obtain⟨r0,_,rfl,v0,r1,_,rfl,v1,r2,_,rfl,v2,r3,_,rfl,v3,rfl⟩:=typ_array FInst.ar23 t5;obtain⟨a0,rfl,ha0⟩:=typ_u8 FInst.in5 v0;obtain⟨a1,rfl,ha1⟩:=typ_u8 FInst.in5 v1;obtain⟨a2,rfl,ha2⟩:=typ_u8 FInst.in5 v2;obtain⟨a3,rfl,ha3⟩:=typ_u8 FInst.in5 v3;obtain⟨gc,gates,rfl,_,hg⟩:=typ_slice (f:=GX.enc) (P:=GX.ok) FInst.st24 (λr hr=>by have hr:=typ_struct FInst.ft135 hr;obtain⟨p0,_,rfl,t0,p1,_,rfl,t1,rfl⟩:=hr;obtain⟨k,rfl,hk⟩:=typ_u8 FInst.in5 t0;obtain⟨q0,_,rfl,u0,q1,_,rfl,u1,q2,_,rfl,u2,rfl⟩:=typ_array FInst.ar133 t1;obtain⟨i0,rfl,e0⟩:=typ_u8 FInst.in5 u0;obtain⟨i1,rfl,e1⟩:=typ_u8 FInst.in5 u1;obtain⟨i2,rfl,e2⟩:=typ_u8 FInst.in5 u2;exact⟨⟨k,i0,i1,i2⟩,⟨hk,e0,e1,e2⟩,rfl⟩) t6;obtain⟨oc,outs,rfl,_,ho⟩:=typ_slice (f:=u8R) (P:=λo=>o<256) FInst.st25 (λr hr=>by obtain⟨o,rfl,h⟩:=typ_u8 FInst.in5 hr;exact⟨o,h,rfl⟩) t7;exact⟨⟨inn,dffs,d0,d1,bus,mem,a0,a1,a2,a3,gc,gates,oc,outs⟩,⟨h0,h1,hd0,hd1,hg,ho⟩,⟨ha0,ha1,ha2,ha3⟩,rfl⟩
open Go.Ax Go.Pc in
theorem typed(args:List Ax.AV)(h:Ax.TypAs FInst.L.env 8 Tryz.f4.params.toList args) :
 ∃(x:CX) (n:Int) (k:Nat),args=[.agg x.enc,.int .i64 n,.int .u8 k]∧x.ok∧FInst.Ports x∧k<256:=by
 have hq:Tryz.f4.params.toList=[27,3,5]:=by kernel_rfl
 rw[hq]at h;obtain⟨a,_,rfl,h1,b,_,rfl,h2,d,_,rfl,h3,rfl⟩:=h;obtain⟨avs,rfl,h1'⟩:=typA_agg (FInst.ag27) h1;obtain⟨x,hx,hp,rfl⟩:=cx_typed avs h1';obtain⟨n,hn,_⟩:=typ_i64 FInst.in3 (typA_one (FInst.ag3) h2);obtain rfl:b = .int .i64 n:=by simpa using hn
 obtain⟨k,hk1,hk⟩:=typ_u8 FInst.in5 (typA_one (FInst.ag5) h3);obtain rfl:d = .int .u8 k:=by simpa using hk1
 exact⟨x,n,k,rfl,hx,hp,hk⟩
theorem contract(H:Type)(enc:TypeId×Value→H)(W:World)(base:Nat)(args:Array Value)(ds gs:List (DataW H))(before:List MemPlace)
 (hval:∀(j:Nat) t v,Tryz.f4.params[j]?=some t→args[j]?=some v→Value.okWide Tryz.prog W .any base t v)
 (hW:DataW.Whole enc Tryz.prog Tryz.f4.params.toList Rows.auditsErrorsSpec.vars false W args.toList ds gs before)(hL:laidMetH Tryz.prog Rows.auditsErrorsRow.laid W) :
 Calls Tryz.prog 4 args W λe W'=>∃v,e = .returned v∧Rows.auditsErrorsSpec.post enc Tryz.prog Tryz.f4 false true false false W args v W':=by
 refine Ax.law_contract (E:=FInst.L.env) (m:=8) (n:=3) (tb:=4) FInst.ok laidOut (by decide) (Ax.sem_ok FInst.ok FInst.dr FInst.livesFacts 4) (by kernel_rfl) ?_ rfl (by kernel_rfl) ?_ (by kernel_rfl) (by kernel_rfl) (by kernel_rfl) W base args ds gs before hval hW (holds hL)
 ·intro args ha;obtain⟨x,n,k,rfl,hx,hp,hk⟩:=typed args ha;exact⟨_,FInst.lawAud_ok (λd H=>FInst.lives_call (d:=d) H) x hx hp n k hk⟩
 ·intro ds hd
  match ds,hd with
  | [a,b,c],_=>exact⟨rfl,rfl,rfl⟩
def wArgs:Array Value:=#[.agg #[.int .u8 0,.int .u8 0,.int .u8 0,.int .u8 0,.bool false,.bool false,.int .u8 0,.int .u8 0,.int .u8 0,.int .u8 0,.slice none 0 0,.slice none 0 0],.int .i64 0,.int .u8 0]
def lay(cs:List Value):Obj→Obj
 |.cells _ t frozen=>.cells cs.toArray t frozen
 |o=>o
noncomputable def laidWorld(os:Os):World:={ World.holding Tryz.prog os ⟨#[],#[],[]⟩with heap:=(((((((((World.holding Tryz.prog os ⟨#[],#[],[]⟩).heap.modify 7 (lay (([0,1,28,2,29,14,24,3,30,22,20,15,25,17,4,8,31,27,13,23,21,19,16,7,26,12,18,6,11,5,10,9]:List Int).map (Value.int .u8)))).modify 8 (lay (([0,1,56,2,57,49,28,3,61,58,42,50,38,29,17,4,62,47,59,36,45,43,51,22,53,39,33,30,24,18,12,5,63,55,48,27,60,41,37,16,46,35,44,21,52,32,23,11,54,26,40,15,34,20,31,10,25,14,19,9,13,8,7,6]:List Int).map (Value.int .u8)))).modify 5 (lay (([1,10,100,1000,10000,100000,1000000,10000000,100000000,1000000000,10000000000,100000000000,1000000000000,10000000000000,100000000000000,1000000000000000,10000000000000000,100000000000000000,1000000000000000000,10000000000000000000]:List Int).map (Value.int .u64)))).modify 1 (lay (([0,0,0,0,0,0,1,1,1,1,2,16,2,16,2,16,2,16,2,16,2,16,3,3,2,2,1,16,1,1,0,0]:List Int).map (Value.int .i64)))).modify 3 (lay (([1,1]:List Int).map (Value.int .i64)))).modify 2 (lay (([1073741824,1073741824]:List Int).map (Value.int .i64)))).modify 0 (lay (([-1,0,0]:List Int).map (Value.int .i64)))).modify 6 (lay (([0,1,1,0,0,0,1,1]:List Int).map (Value.int .u64)))) }
theorem laid_met(os:Os):laidMet Tryz.prog Rows.auditsErrorsRow.laid ((laidWorld os).forCall (λ_ _=>0) ⟨#[],wArgs,[]⟩).memory:=laidMet_of_run' 8 (by kernel_rfl) (by kernel_rfl)
def wData{H:Type}:List (DataW H)×List (DataW H)×List MemPlace:=([.agg [.lit (.int .u8 0),.lit (.int .u8 0),.agg [.lit (.int .u8 0),.lit (.int .u8 0)],.lit (.bool false),.lit (.bool false),.agg [.lit (.int .u8 0),.lit (.int .u8 0),.lit (.int .u8 0),.lit (.int .u8 0)],.nil,.nil],.lit (.int .i64 0),.lit (.int .u8 0)],[],[])
theorem reads(os:Os){H:Type}(enc:TypeId×Value→H):DataW.whole enc Tryz.prog ((laidWorld os).forCall (λ_ _=>0) ⟨#[],wArgs,[]⟩).memory Tryz.f4.params.toList Rows.auditsErrorsSpec.vars false wArgs.toList 8=some wData:=by kernel_rfl
theorem lifted(os:Os)(started:os.Started)(H:Type)(enc:TypeId×Value→H)(F:Stop.Interp) :
 ReturnsInHanded {} Tryz.checked os 4 .any ((OpenSpec.ofChange Rows.auditsErrorsSpec).preRow enc Tryz.prog Tryz.f4 Rows.auditsErrorsRow.domain false Rows.auditsErrorsRow.laid) (((OpenSpec.ofChange Rows.auditsErrorsSpec).at F).post enc Tryz.prog Tryz.f4 false true false false):=by
 refine returnsInHanded_of_row (C:=Tryz.checked) (s:=OpenSpec.ofChange Rows.auditsErrorsSpec) own started (by kernel_rfl) Tryz.func4
  (witness_row_at (enc:=enc) (C:=Tryz.checked) false (laidWorld os) wArgs rfl (by kernel_rfl) (by kernel_rfl) (by kernel_rfl)
   (OpenSpec.preRow_of_cond 8 (reads os enc) (by kernel_rfl) (λk hk=>by cases hk) (by kernel_rfl) (laid_met os))) ?_
 intro W base args ds gs before hval hW _ _ _ hL _ _;exact contract H enc W base args ds gs before hval hW hL
theorem said:Rows.AuditsErrorsSaid:=
 OpenClaim.holds_of_cond 4 Tryz.f4 rfl rfl rfl rfl rfl rfl rfl ⟨rfl,rfl,rfl,rfl,rfl⟩ rfl rfl rfl rfl rfl (by kernel_rfl) Tryz.func4 audClosed
  (of_decide_eq_true (by kernel_rfl)) (by unfold Func.isWrapper;first|(rw[if_pos (by decide+kernel)];kernel_rfl)|(rw[if_neg (by decide+kernel)];exact⟨rfl,rfl⟩))
  (λos started H enc _ F=>by rw[OpenClaim.pre_eq_preRow];exact lifted os started H enc F)
theorem plain(f:FuncId)(fn:Func)(hf:Tryz.pinned.checked.prog.funcNamed Tryz.f4.name=some f)(hfn:Tryz.pinned.checked.prog.funcs[f]?=some fn) :
 true=Tryz.pinned.checked.prog.looks []∧∀(j:Nat) t,fn.params[j]?=some t→Tryz.pinned.checked.prog.wantsStandIn t=false:=by
 obtain rfl:f=4:=Option.some.inj ((show Tryz.prog.funcNamed Tryz.f4.name=some 4 by kernel_rfl).symm.trans hf) |>.symm;obtain rfl:fn=Tryz.f4:=(Option.some.inj (Tryz.func4.symm.trans hfn)).symm;refine⟨by kernel_rfl,λj t ht=>?_⟩;have hall:Tryz.f4.params.toList.all (λt=>!(Tryz.prog.wantsStandIn t))=true:=by kernel_rfl
 have hm:t∈Tryz.f4.params.toList:=by simpa using Array.mem_of_getElem? ht
 have:=List.all_eq_true.1 hall t hm;show Tryz.prog.wantsStandIn t=false;simpa using this
/-- THE CARD. -/
theorem card:Rows.AuditsErrorsCardSaid:=Claim7.holds_tied_plain_at .later [] _ _ _ _ said (λ_ h=>by cases h) (by kernel_rfl) (λ_ h=>by cases h) auditsErrors_row_tie rfl ⟨rfl,rfl⟩ (by kernel_rfl) rfl plain audGoes
end lawAud
end Go.Proofs.YtnkhpfincnfloaaGreatDoor
