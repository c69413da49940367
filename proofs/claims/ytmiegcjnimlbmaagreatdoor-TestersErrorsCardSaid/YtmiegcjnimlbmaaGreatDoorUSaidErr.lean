/- The statement TestersErrors and its card. No condition. -/
import Derived.Test.YtmiegcjnimlbmaaGreatDoorCards
import Derived.Test.YtmiegcjnimlbmaaGreatDoorTie
import Derived.WalkKit
import Derived.ProofKit
import Derived.OpenShut
import Derived.Deep.DeepHandedRow
import Derived.Lib.LaidTab
import Derived.MakeChecks
import Derived.Test.YtmiegcjnimlbmaaGreatDoorULi
import Derived.Test.YtmiegcjnimlbmaaGreatDoorUTc
set_option linter.unusedSimpArgs false
set_option linter.unusedVariables false
namespace Go.Proofs.YtmiegcjnimlbmaaGreatDoor
open Go.ChangeShapes Go.WideShapes Go.ChangeAt Go.RowKit
open Go.Ax (sl)
namespace lawErr
set_option maxRecDepth 100000
@[reducible] noncomputable def iZC:UInst.ZC:=UInst.zc2
attribute [local instance] iZC
theorem own:ownKnob Tryz.prog.godebug=none:=by kernel_rfl
theorem e1w:laidOutB Tryz.prog=true:=by kernel_rfl
theorem e6r{W:World}(h:laidMetH Tryz.prog Rows.testersErrorsRow.laid W):Ax.Holds UInst.L.env W:=by
 have h':laidMet Tryz.prog Rows.testersErrorsRow.laid W:=by rw[<-MakeChecks.laidMetH_plain _ _ _ (by kernel_rfl)];exact h
 refine Ax.holds_of_laid UInst.ok (laid:=Rows.testersErrorsRow.laid) h' ?_;intro g cs hg;have hg:UInst.GT g=some cs:=hg;unfold UInst.GT at hg;simp only[cond_eq_ite]at hg;split at hg
 ·rename_i h1;have:g=0:=by simpa using h1
  subst this;cases hg;exact⟨_,List.mem_cons_of_mem _ (List.mem_cons_of_mem _ (List.mem_cons_of_mem _ List.mem_cons_self)),by kernel_rfl,239,by kernel_rfl,by kernel_rfl⟩
 ·cases hg
open Go.Ax Go.Pc in
theorem c6g(aQ:List AV)(h:Typ UInst.L.env 8 27 aQ):∃x:CX,x.ok∧UInst.Ports x∧aQ=x.enc:=by have h:=a65 UInst.ft27 h;obtain⟨p0,_,rfl,t0,p1,_,rfl,t1,p2,_,rfl,t2,p3,_,rfl,t3,p4,_,rfl,t4,p5,_,rfl,t5,p6,_,rfl,t6,p7,_,rfl,t7,rfl⟩:=h;obtain⟨inn,rfl,h0⟩:=a5n UInst.in5 t0;obtain⟨dffs,rfl,h1⟩:=a5n UInst.in5 t1;obtain⟨q0,_,rfl,u0,q1,_,rfl,u1,rfl⟩:=b3w UInst.ar22 t2;obtain⟨d0,rfl,nB⟩:=a5n UInst.in5 u0;obtain⟨d1,rfl,vc⟩:=a5n UInst.in5 u1;obtain⟨bus,rfl⟩:=b36 UInst.un4 t3;obtain⟨mem,rfl⟩:=b36 UInst.un4 t4;obtain⟨r0,_,rfl,v0,r1,_,rfl,v1,r2,_,rfl,v2,r3,_,rfl,v3,rfl⟩:=b3w UInst.ar23 t5;obtain⟨a0,rfl,vk⟩:=a5n UInst.in5 v0;obtain⟨a1,rfl,mL⟩:=a5n UInst.in5 v1;obtain⟨a2,rfl,nK⟩:=a5n UInst.in5 v2;obtain⟨a3,rfl,nJ⟩:=a5n UInst.in5 v3;obtain⟨gc,gates,rfl,_,hg⟩:=a8l (f:=GX.enc) (P:=GX.ok) UInst.st24 (λr hr=>by have hr:=a65 UInst.ft116 hr;obtain⟨p0,_,rfl,t0,p1,_,rfl,t1,rfl⟩:=hr;obtain⟨k,rfl,hk⟩:=a5n UInst.in5 t0;obtain⟨q0,_,rfl,u0,q1,_,rfl,u1,q2,_,rfl,u2,rfl⟩:=b3w UInst.ar114 t1;obtain⟨i0,rfl,e0⟩:=a5n UInst.in5 u0;obtain⟨i1,rfl,e1⟩:=a5n UInst.in5 u1;obtain⟨i2,rfl,e2⟩:=a5n UInst.in5 u2;exact⟨⟨k,i0,i1,i2⟩,⟨hk,e0,e1,e2⟩,rfl⟩) t6;obtain⟨oc,outs,rfl,_,ho⟩:=a8l (f:=u8R) (P:=λo=>o<256) UInst.st25 (λr hr=>by obtain⟨o,rfl,h⟩:=a5n UInst.in5 hr;exact⟨o,h,rfl⟩) t7;exact⟨⟨inn,dffs,d0,d1,bus,mem,a0,a1,a2,a3,gc,gates,oc,outs⟩,⟨h0,h1,nB,vc,hg,ho⟩,⟨vk,mL,nK,nJ⟩,rfl⟩
open Go.Ax Go.Pc in
theorem e05(args:List Ax.AV)(h:Ax.TypAs UInst.L.env 8 Tryz.f8.params.toList args) :
 ∃(x y:CX) (pr:Rep) (ps:List Pat) (md val:Nat) (nd pin be:Int) (eN am:Bool),args=[.agg x.enc,.agg y.enc,.agg [sl pr (ps.map Pat.enc),.int .u8 md,.int .i64 nd,.int .i64 pin,.int .u8 val,.int .i64 be,.bool eN,.bool am]]∧x.ok∧UInst.Ports x∧y.ok∧(∀p∈ps,UInst.PxOk p)∧ps.length<9223372036854775808:=by
 have hq:Tryz.f8.params.toList=[27,27,100]:=by kernel_rfl
 rw[hq]at h;obtain⟨a,_,rfl,h1,b,_,rfl,h2,d,_,rfl,h3,rfl⟩:=h;obtain⟨aQ,rfl,eW⟩:=b8n (UInst.ag27) h1;obtain⟨x,hx,og,rfl⟩:=c6g aQ eW;obtain⟨aQ,rfl,fM⟩:=b8n (UInst.ag27) h2;obtain⟨y,hy,_,rfl⟩:=c6g aQ fM;obtain⟨aQ,rfl,nX⟩:=b8n (UInst.ag100) h3;have hr:=a65 UInst.ft100 nX;obtain⟨b0,_,rfl,t0,b1,_,rfl,t1,b2,_,rfl,t2,b3,_,rfl,t3,rfl⟩:=hr;obtain⟨pr,ps,rfl,hl,hp⟩:=a8l (f:=Pat.enc) (P:=UInst.PxOk) UInst.st46 (λr hr=>by have hr:=a65 UInst.ft68 hr;obtain⟨p0,_,rfl,t0,p1,_,rfl,t1,rfl⟩:=hr;obtain⟨ic,ins,rfl,fG,h0⟩:=a8l (f:=u8R) (P:=λo=>o<256) UInst.st25 (λr hr=>by obtain⟨o,rfl,h⟩:=a5n UInst.in5 hr;exact⟨o,h,rfl⟩) t0;obtain⟨sc,sts,rfl,nr,h1⟩:=a8l (f:=u8R) (P:=λo=>o<256) UInst.st25 (λr hr=>by obtain⟨o,rfl,h⟩:=a5n UInst.in5 hr;exact⟨o,h,rfl⟩) t1;exact⟨⟨ic,ins,sc,sts⟩,⟨h0,h1,Nat.lt_of_le_of_lt fG (by simp[maxLen]),Nat.lt_of_le_of_lt nr (by simp[maxLen])⟩,rfl⟩) t0;have hf:=a65 UInst.ft76 t1;obtain⟨c0,_,rfl,u0,c1,_,rfl,u1,c2,_,rfl,u2,c3,_,rfl,u3,rfl⟩:=hf;obtain⟨md,rfl,_⟩:=a5n UInst.in72 u0;have hn:=a65 UInst.ft74 u1;obtain⟨e0,_,rfl,w0,e1,_,rfl,w1,rfl⟩:=hn;obtain⟨nd,rfl,_⟩:=c37 UInst.in3 w0;obtain⟨pin,rfl,_⟩:=c37 UInst.in3 w1;obtain⟨val,rfl,_⟩:=a5n UInst.in53 u2;obtain⟨be,rfl,_⟩:=c37 UInst.in3 u3;obtain⟨eN,rfl⟩:=b36 UInst.un4 t2;obtain⟨am,rfl⟩:=b36 UInst.un4 t3;exact⟨x,y,pr,ps,md,val,nd,pin,be,eN,am,rfl,hx,og,hy,hp,Nat.lt_of_le_of_lt hl (by simp[maxLen])⟩
theorem d7o(H:Type)(enc:TypeId×Value->H)(W:World)(base:Nat)(args:Array Value)(ds gs:List (DataW H))(bC:List MemPlace)
 (cD:∀(j:Nat) t v,Tryz.f8.params[j]?=some t->args[j]?=some v->Value.okWide Tryz.prog W .any base t v)
 (hW:DataW.Whole enc Tryz.prog Tryz.f8.params.toList Rows.testersErrorsSpec.vars false W args.toList ds gs bC)(hL:laidMetH Tryz.prog Rows.testersErrorsRow.laid W) :
 Calls Tryz.prog 8 args W λe W'=>∃v,e = .returned v∧Rows.testersErrorsSpec.post enc Tryz.prog Tryz.f8 false true false false W args v W':=by
 refine Ax.law_contract (E:=UInst.L.env) (m:=8) (n:=3) (tb:=4) UInst.ok e1w (by decide) UInst.runE_ok (by kernel_rfl) ?_ rfl (by kernel_rfl) ?_ (by kernel_rfl) (by kernel_rfl) (by kernel_rfl) W base args ds gs bC cD hW (e6r hL)
 ·intro args ha;obtain⟨x,y,pr,ps,md,val,nd,pin,be,eN,am,rfl,hx,og,hy,hp,hl⟩:=e05 args ha;exact⟨_,UInst.runE_true (λH=>UInst.lives_call H) (λH=>UInst.lives_call5 H) x y pr ps md val nd pin be eN am hx og hy hp hl⟩
 ·intro ds hd
  match ds,hd with
  | [a,b,c],_=>exact⟨rfl,rfl,rfl⟩
def wArgs:Array Value:=#[.agg #[.int .u8 0,.int .u8 0,.int .u8 0,.int .u8 0,.bool false,.bool false,.int .u8 0,.int .u8 0,.int .u8 0,.int .u8 0,.slice none 0 0,.slice none 0 0],.agg #[.int .u8 0,.int .u8 0,.int .u8 0,.int .u8 0,.bool false,.bool false,.int .u8 0,.int .u8 0,.int .u8 0,.int .u8 0,.slice none 0 0,.slice none 0 0],.agg #[.slice none 0 0,.int .u8 0,.int .i64 0,.int .i64 0,.int .u8 0,.int .i64 0,.bool false,.bool false]]
def lay(cs:List Value):Obj->Obj
 |.cells _ t frozen=>.cells cs.toArray t frozen
 |o=>o
noncomputable def b53(os:Os):World:={ World.holding Tryz.prog os ⟨#[],#[],[]⟩with heap:=(((((World.holding Tryz.prog os ⟨#[],#[],[]⟩).heap.modify 5 (lay (([0,1,28,2,29,14,24,3,30,22,20,15,25,17,4,8,31,27,13,23,21,19,16,7,26,12,18,6,11,5,10,9]:List Int).map (Value.int .u8)))).modify 6 (lay (([0,1,56,2,57,49,28,3,61,58,42,50,38,29,17,4,62,47,59,36,45,43,51,22,53,39,33,30,24,18,12,5,63,55,48,27,60,41,37,16,46,35,44,21,52,32,23,11,54,26,40,15,34,20,31,10,25,14,19,9,13,8,7,6]:List Int).map (Value.int .u8)))).modify 1 (lay (([1,10,100,1000,10000,100000,1000000,10000000,100000000,1000000000,10000000000,100000000000,1000000000000,10000000000000,100000000000000,1000000000000000,10000000000000000,100000000000000000,1000000000000000000,10000000000000000000]:List Int).map (Value.int .u64)))).modify 0 (lay (([0,0,0,0,0,0,1,1,1,1,2,16,2,16,2,16,2,16,2,16,2,16,3,3,2,2,1,16,1,1,0,0]:List Int).map (Value.int .i64)))) }
theorem d6y(os:Os):laidMet Tryz.prog Rows.testersErrorsRow.laid ((b53 os).forCall (λ_ _=>0) ⟨#[],wArgs,[]⟩).memory:=laidMet_of_run' 8 (by kernel_rfl) (by kernel_rfl)
def f0e{H:Type}:List (DataW H)×List (DataW H)×List MemPlace:=([.agg [.lit (.int .u8 0),.lit (.int .u8 0),.agg [.lit (.int .u8 0),.lit (.int .u8 0)],.lit (.bool false),.lit (.bool false),.agg [.lit (.int .u8 0),.lit (.int .u8 0),.lit (.int .u8 0),.lit (.int .u8 0)],.nil,.nil],.agg [.lit (.int .u8 0),.lit (.int .u8 0),.agg [.lit (.int .u8 0),.lit (.int .u8 0)],.lit (.bool false),.lit (.bool false),.agg [.lit (.int .u8 0),.lit (.int .u8 0),.lit (.int .u8 0),.lit (.int .u8 0)],.nil,.nil],.agg [.nil,.agg [.lit (.int .u8 0),.agg [.lit (.int .i64 0),.lit (.int .i64 0)],.lit (.int .u8 0),.lit (.int .i64 0)],.lit (.bool false),.lit (.bool false)]],[],[])
theorem d64(os:Os){H:Type}(enc:TypeId×Value->H):DataW.whole enc Tryz.prog ((b53 os).forCall (λ_ _=>0) ⟨#[],wArgs,[]⟩).memory Tryz.f8.params.toList Rows.testersErrorsSpec.vars false wArgs.toList 8=some f0e:=by kernel_rfl
theorem e6h(os:Os)(fW:os.Started)(H:Type)(enc:TypeId×Value->H)(F:Stop.Interp) :
 ReturnsInHanded {} Tryz.checked os 8 .any ((OpenSpec.ofChange Rows.testersErrorsSpec).preRow enc Tryz.prog Tryz.f8 Rows.testersErrorsRow.domain false Rows.testersErrorsRow.laid) (((OpenSpec.ofChange Rows.testersErrorsSpec).at F).post enc Tryz.prog Tryz.f8 false true false false):=by
 refine returnsInHanded_of_row (C:=Tryz.checked) (s:=OpenSpec.ofChange Rows.testersErrorsSpec) own fW (by kernel_rfl) Tryz.func8
  (witness_row_at (enc:=enc) (C:=Tryz.checked) false (b53 os) wArgs rfl (by kernel_rfl) (by kernel_rfl) (by kernel_rfl)
   (OpenSpec.preRow_of_cond 8 (d64 os enc) (by kernel_rfl) (λk hk=>by cases hk) (by kernel_rfl) (d6y os))) ?_
 intro W base args ds gs bC cD hW _ _ _ hL _ _;exact d7o H enc W base args ds gs bC cD hW hL
theorem f9m:Rows.TestersErrorsSaid:=
 OpenClaim.holds_of_cond 8 Tryz.f8 rfl rfl rfl rfl rfl rfl rfl ⟨rfl,rfl,rfl,rfl,rfl⟩ rfl rfl rfl rfl rfl (by kernel_rfl) Tryz.func8 (by kernel_rfl)
  (of_decide_eq_true (by kernel_rfl)) (by unfold Func.isWrapper;first|(rw[if_pos (by decide+kernel)];kernel_rfl)|(rw[if_neg (by decide+kernel)];exact⟨rfl,rfl⟩))
  (λos fW H enc _ F=>by rw[OpenClaim.pre_eq_preRow];exact e6h os fW H enc F)
theorem d17(f:FuncId)(fn:Func)(hf:Tryz.pinned.checked.prog.funcNamed Tryz.f8.name=some f)(bE:Tryz.pinned.checked.prog.funcs[f]?=some fn) :
 true=Tryz.pinned.checked.prog.looks []∧∀(j:Nat) t,fn.params[j]?=some t->Tryz.pinned.checked.prog.wantsStandIn t=false:=by
 obtain rfl:f=8:=Option.some.inj ((show Tryz.prog.funcNamed Tryz.f8.name=some 8 by kernel_rfl).symm.trans hf) |>.symm;obtain rfl:fn=Tryz.f8:=(Option.some.inj (Tryz.func8.symm.trans bE)).symm;refine⟨by kernel_rfl,λj t ht=>?_⟩;have aW:Tryz.f8.params.toList.all (λt=>!(Tryz.prog.wantsStandIn t))=true:=by kernel_rfl
 have hm:t∈Tryz.f8.params.toList:=by simpa using Array.mem_of_getElem? ht
 have:=List.all_eq_true.1 aW t hm;show Tryz.prog.wantsStandIn t=false;simpa using this
theorem card:Rows.TestersErrorsCardSaid:=Claim7.holds_tied_plain_at .later [] _ _ _ _ f9m (λ_ h=>by cases h) (by kernel_rfl) (λ_ h=>by cases h) testersErrors_row_tie rfl ⟨rfl,rfl⟩ (by kernel_rfl) rfl d17 (by kernel_rfl)
end lawErr
end Go.Proofs.YtmiegcjnimlbmaaGreatDoor
