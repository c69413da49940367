/- The statement TestersFault and its card. No condition. -/
import Derived.Test.YtmiegcjnimlbmaaGreatDoorCards
import Derived.Test.YtmiegcjnimlbmaaGreatDoorTie
import Derived.WalkKit
import Derived.ProofKit
import Derived.OpenShut
import Derived.Deep.DeepHandedRow
import Derived.Lib.LaidTab
import Derived.MakeChecks
import Derived.Test.YtmiegcjnimlbmaaGreatDoorULives
import Derived.Test.YtmiegcjnimlbmaaGreatDoorUTc
set_option linter.unusedSimpArgs false
set_option linter.unusedVariables false
namespace Go.Proofs.YtmiegcjnimlbmaaGreatDoor
open Go.ChangeShapes Go.WideShapes Go.ChangeAt Go.RowKit
open Go.Ax (sl)
namespace lawFault
set_option maxRecDepth 100000
theorem own:ownKnob Tryz.prog.godebug=none:=by kernel_rfl
theorem d8m:laidOutB Tryz.prog=true:=by kernel_rfl
theorem e3b{W:World}(h:laidMetH Tryz.prog Rows.testersFaultRow.laid W):Ax.Holds UInst.L.env W:=by
 have h':laidMet Tryz.prog Rows.testersFaultRow.laid W:=by rw[←MakeChecks.laidMetH_plain _ _ _ (by kernel_rfl)];exact h
 refine Ax.holds_of_laid UInst.ok (laid:=Rows.testersFaultRow.laid) h' ?_;intro g cs hg;have hg:UInst.GT g=some cs:=hg;unfold UInst.GT at hg;simp only[cond_eq_ite]at hg;split at hg
 ·rename_i h1;have:g=0:=by simpa using h1
  subst this;cases hg;exact⟨_,List.mem_cons_of_mem _ (List.mem_cons_of_mem _ (List.mem_cons_of_mem _ List.mem_cons_self)),by kernel_rfl,239,by kernel_rfl,by kernel_rfl⟩
 ·cases hg
open Go.Ax Go.Pc in
theorem d4g(aP:List AV)(h:Typ UInst.L.env 8 27 aP):∃x:CX,x.ok∧aP=x.enc:=by have h:=a8c UInst.ft27 h;obtain⟨p0,_,rfl,t0,p1,_,rfl,t1,p2,_,rfl,t2,p3,_,rfl,t3,p4,_,rfl,t4,p5,_,rfl,t5,p6,_,rfl,t6,p7,_,rfl,t7,rfl⟩:=h;obtain⟨inn,rfl,h0⟩:=a42 UInst.in5 t0;obtain⟨dffs,rfl,h1⟩:=a42 UInst.in5 t1;obtain⟨q0,_,rfl,u0,q1,_,rfl,u1,rfl⟩:=b2g UInst.ar22 t2;obtain⟨d0,rfl,nX⟩:=a42 UInst.in5 u0;obtain⟨d1,rfl,tJ⟩:=a42 UInst.in5 u1;obtain⟨bus,rfl⟩:=b6u UInst.un4 t3;obtain⟨mem,rfl⟩:=b6u UInst.un4 t4;obtain⟨r0,_,rfl,v0,r1,_,rfl,v1,r2,_,rfl,v2,r3,_,rfl,v3,rfl⟩:=b2g UInst.ar23 t5;obtain⟨a0,rfl,_⟩:=a42 UInst.in5 v0;obtain⟨a1,rfl,_⟩:=a42 UInst.in5 v1;obtain⟨a2,rfl,_⟩:=a42 UInst.in5 v2;obtain⟨a3,rfl,_⟩:=a42 UInst.in5 v3;obtain⟨gc,gates,rfl,_,hg⟩:=a7o (f:=GX.enc) (P:=GX.ok) UInst.st24 (λr hr=>by have hr:=a8c UInst.ft116 hr;obtain⟨p0,_,rfl,t0,p1,_,rfl,t1,rfl⟩:=hr;obtain⟨k,rfl,hk⟩:=a42 UInst.in5 t0;obtain⟨q0,_,rfl,u0,q1,_,rfl,u1,q2,_,rfl,u2,rfl⟩:=b2g UInst.ar114 t1;obtain⟨i0,rfl,e0⟩:=a42 UInst.in5 u0;obtain⟨i1,rfl,e1⟩:=a42 UInst.in5 u1;obtain⟨i2,rfl,e2⟩:=a42 UInst.in5 u2;exact⟨⟨k,i0,i1,i2⟩,⟨hk,e0,e1,e2⟩,rfl⟩) t6;obtain⟨oc,outs,rfl,_,ho⟩:=a7o (f:=u8R) (P:=λo=>o<256) UInst.st25 (λr hr=>by obtain⟨o,rfl,h⟩:=a42 UInst.in5 hr;exact⟨o,h,rfl⟩) t7;exact⟨⟨inn,dffs,d0,d1,bus,mem,a0,a1,a2,a3,gc,gates,oc,outs⟩,⟨h0,h1,nX,tJ,hg,ho⟩,rfl⟩
open Go.Ax Go.Pc in
theorem d72(args:List Ax.AV)(h:Ax.TypAs UInst.L.env 8 Tryz.f7.params.toList args) :
 ∃(x:CX) (pr:Rep) (ps:List Pat) (y:UInst.FX),args=[.agg x.enc,sl pr (ps.map Pat.enc),.agg y.enc]∧x.ok∧(∀p∈ps,UInst.PxOk p)∧ps.length<9223372036854775808∧y.ok:=by
 have hq:Tryz.f7.params.toList=[27,46,71]:=by kernel_rfl
 rw[hq]at h;obtain⟨a,_,rfl,h1,b,_,rfl,h2,d,_,rfl,h3,rfl⟩:=h;obtain⟨aP,rfl,ed⟩:=c2t (UInst.ag27) h1;obtain⟨x,hx,rfl⟩:=d4g aP ed;have h2:=Ax.typA_one (UInst.ag46) h2;obtain⟨pr,ps,e1,hl,hp⟩:=a7o (f:=Pat.enc) (P:=UInst.PxOk) UInst.st46 (λr hr=>by have hr:=a8c UInst.ft68 hr;obtain⟨p0,_,rfl,t0,p1,_,rfl,t1,rfl⟩:=hr;obtain⟨ic,ins,rfl,fk,h0⟩:=a7o (f:=u8R) (P:=λo=>o<256) UInst.st25 (λr hr=>by obtain⟨o,rfl,h⟩:=a42 UInst.in5 hr;exact⟨o,h,rfl⟩) t0;obtain⟨sc,sts,rfl,lB,h1⟩:=a7o (f:=u8R) (P:=λo=>o<256) UInst.st25 (λr hr=>by obtain⟨o,rfl,h⟩:=a42 UInst.in5 hr;exact⟨o,h,rfl⟩) t1;exact⟨⟨ic,ins,sc,sts⟩,⟨h0,h1,Nat.lt_of_le_of_lt fk (by simp[maxLen]),Nat.lt_of_le_of_lt lB (by simp[maxLen])⟩,rfl⟩) h2;obtain⟨uq,rfl,l5⟩:=c2t (UInst.ag71) h3;have hr:=a8c UInst.ft71 l5;obtain⟨p0,_,rfl,t0,p1,_,rfl,t1,p2,_,rfl,t2,p3,_,rfl,t3,p4,_,rfl,t4,rfl⟩:=hr;obtain⟨a,rfl,k0⟩:=a42 UInst.in5 t0;obtain⟨b,rfl,k1⟩:=a42 UInst.in5 t1;obtain⟨c,rfl,k2⟩:=a42 UInst.in5 t2;obtain⟨d,rfl,k3⟩:=a42 UInst.in5 t3;obtain⟨e,rfl⟩:=b6u UInst.un4 t4;cases e1;exact⟨x,pr,ps,⟨a,b,c,d,e⟩,rfl,hx,hp,Nat.lt_of_le_of_lt hl (by simp[maxLen]),⟨k0,k1,k2,k3⟩⟩
theorem d4k(H:Type)(enc:TypeId×Value→H)(W:World)(base:Nat)(args:Array Value)(ds gs:List (DataW H))(bq:List MemPlace)
 (cz:∀(j:Nat) t v,Tryz.f7.params[j]?=some t→args[j]?=some v→Value.okWide Tryz.prog W .any base t v)
 (hW:DataW.Whole enc Tryz.prog Tryz.f7.params.toList Rows.testersFaultSpec.vars false W args.toList ds gs bq)(hL:laidMetH Tryz.prog Rows.testersFaultRow.laid W) :
 Calls Tryz.prog 7 args W λe W'=>∃v,e = .returned v∧Rows.testersFaultSpec.post enc Tryz.prog Tryz.f7 false true false false W args v W':=by
 refine Ax.law_contract (E:=UInst.L.env) (m:=8) (n:=3) (tb:=4) UInst.ok d8m (by decide) (Ax.sem_ok UInst.ok UInst.dr (M:=UInst.Mf) (λ_ h=>by cases h) 7) (by kernel_rfl) ?_ rfl (by kernel_rfl) ?_ (by kernel_rfl) (by kernel_rfl) (by kernel_rfl) W base args ds gs bq cz hW (e3b hL)
 ·intro args ha;obtain⟨x,pr,ps,y,rfl,hx,hp,hl,hy⟩:=d72 args ha;exact⟨_,UInst.lawFault_ok UInst.lives_call x hx pr ps hp hl y hy⟩
 ·intro ds hd
  match ds,hd with
  | [a,b,c],_=>exact⟨rfl,rfl,rfl⟩
def wArgs:Array Value:=#[.agg #[.int .u8 0,.int .u8 0,.int .u8 0,.int .u8 0,.bool false,.bool false,.int .u8 0,.int .u8 0,.int .u8 0,.int .u8 0,.slice none 0 0,.slice none 0 0],.slice none 0 0,.agg #[.int .u8 0,.int .u8 0,.int .u8 0,.int .u8 0,.bool false]]
def lay(cs:List Value):Obj→Obj
 |.cells _ t frozen=>.cells cs.toArray t frozen
 |o=>o
noncomputable def b3g(os:Os):World:={ World.holding Tryz.prog os ⟨#[],#[],[]⟩with heap:=(((((World.holding Tryz.prog os ⟨#[],#[],[]⟩).heap.modify 5 (lay (([0,1,28,2,29,14,24,3,30,22,20,15,25,17,4,8,31,27,13,23,21,19,16,7,26,12,18,6,11,5,10,9]:List Int).map (Value.int .u8)))).modify 6 (lay (([0,1,56,2,57,49,28,3,61,58,42,50,38,29,17,4,62,47,59,36,45,43,51,22,53,39,33,30,24,18,12,5,63,55,48,27,60,41,37,16,46,35,44,21,52,32,23,11,54,26,40,15,34,20,31,10,25,14,19,9,13,8,7,6]:List Int).map (Value.int .u8)))).modify 1 (lay (([1,10,100,1000,10000,100000,1000000,10000000,100000000,1000000000,10000000000,100000000000,1000000000000,10000000000000,100000000000000,1000000000000000,10000000000000000,100000000000000000,1000000000000000000,10000000000000000000]:List Int).map (Value.int .u64)))).modify 0 (lay (([0,0,0,0,0,0,1,1,1,1,2,16,2,16,2,16,2,16,2,16,2,16,3,3,2,2,1,16,1,1,0,0]:List Int).map (Value.int .i64)))) }
theorem d3i(os:Os):laidMet Tryz.prog Rows.testersFaultRow.laid ((b3g os).forCall (λ_ _=>0) ⟨#[],wArgs,[]⟩).memory:=laidMet_of_run' 8 (by kernel_rfl) (by kernel_rfl)
def e6u{H:Type}:List (DataW H)×List (DataW H)×List MemPlace:=([.agg [.lit (.int .u8 0),.lit (.int .u8 0),.agg [.lit (.int .u8 0),.lit (.int .u8 0)],.lit (.bool false),.lit (.bool false),.agg [.lit (.int .u8 0),.lit (.int .u8 0),.lit (.int .u8 0),.lit (.int .u8 0)],.nil,.nil],.nil,.agg [.lit (.int .u8 0),.lit (.int .u8 0),.lit (.int .u8 0),.lit (.int .u8 0),.lit (.bool false)]],[],[])
theorem d2s(os:Os){H:Type}(enc:TypeId×Value→H):DataW.whole enc Tryz.prog ((b3g os).forCall (λ_ _=>0) ⟨#[],wArgs,[]⟩).memory Tryz.f7.params.toList Rows.testersFaultSpec.vars false wArgs.toList 8=some e6u:=by kernel_rfl
theorem e32(os:Os)(e7:os.Started)(H:Type)(enc:TypeId×Value→H)(F:Stop.Interp) :
 ReturnsInHanded {} Tryz.checked os 7 .any ((OpenSpec.ofChange Rows.testersFaultSpec).preRow enc Tryz.prog Tryz.f7 Rows.testersFaultRow.domain false Rows.testersFaultRow.laid) (((OpenSpec.ofChange Rows.testersFaultSpec).at F).post enc Tryz.prog Tryz.f7 false true false false):=by
 refine returnsInHanded_of_row (C:=Tryz.checked) (s:=OpenSpec.ofChange Rows.testersFaultSpec) own e7 (by kernel_rfl) Tryz.func7
  (witness_row_at (enc:=enc) (C:=Tryz.checked) false (b3g os) wArgs rfl (by kernel_rfl) (by kernel_rfl) (by kernel_rfl)
   (OpenSpec.preRow_of_cond 8 (d2s os enc) (by kernel_rfl) (λk hk=>by cases hk) (by kernel_rfl) (d3i os))) ?_
 intro W base args ds gs bq cz hW _ _ _ hL _ _;exact d4k H enc W base args ds gs bq cz hW hL
theorem f3f:Rows.TestersFaultSaid:=
 OpenClaim.holds_of_cond 7 Tryz.f7 rfl rfl rfl rfl rfl rfl rfl ⟨rfl,rfl,rfl,rfl,rfl⟩ rfl rfl rfl rfl rfl (by kernel_rfl) Tryz.func7 (by kernel_rfl)
  (of_decide_eq_true (by kernel_rfl)) (by unfold Func.isWrapper;first|(rw[if_pos (by decide+kernel)];kernel_rfl)|(rw[if_neg (by decide+kernel)];exact⟨rfl,rfl⟩))
  (λos e7 H enc _ F=>by rw[OpenClaim.pre_eq_preRow];exact e32 os e7 H enc F)
theorem d2u(f:FuncId)(fn:Func)(hf:Tryz.pinned.checked.prog.funcNamed Tryz.f7.name=some f)(bC:Tryz.pinned.checked.prog.funcs[f]?=some fn) :
 true=Tryz.pinned.checked.prog.looks []∧∀(j:Nat) t,fn.params[j]?=some t→Tryz.pinned.checked.prog.wantsStandIn t=false:=by
 obtain rfl:f=7:=Option.some.inj ((show Tryz.prog.funcNamed Tryz.f7.name=some 7 by kernel_rfl).symm.trans hf) |>.symm;obtain rfl:fn=Tryz.f7:=(Option.some.inj (Tryz.func7.symm.trans bC)).symm;refine⟨by kernel_rfl,λj t ht=>?_⟩;have aY:Tryz.f7.params.toList.all (λt=>!(Tryz.prog.wantsStandIn t))=true:=by kernel_rfl
 have hm:t∈Tryz.f7.params.toList:=by simpa using Array.mem_of_getElem? ht
 have:=List.all_eq_true.1 aY t hm;show Tryz.prog.wantsStandIn t=false;simpa using this
theorem card:Rows.TestersFaultCardSaid:=Claim7.holds_tied_plain_at .later [] _ _ _ _ f3f (λ_ h=>by cases h) (by kernel_rfl) (λ_ h=>by cases h) testersFault_row_tie rfl ⟨rfl,rfl⟩ (by kernel_rfl) rfl d2u (by kernel_rfl)
end lawFault
end Go.Proofs.YtmiegcjnimlbmaaGreatDoor
