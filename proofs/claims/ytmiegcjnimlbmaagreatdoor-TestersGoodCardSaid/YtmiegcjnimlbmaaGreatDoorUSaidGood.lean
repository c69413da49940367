/- The statement TestersGood and its card. No condition. -/
import Derived.Test.YtmiegcjnimlbmaaGreatDoorCards
import Derived.Test.YtmiegcjnimlbmaaGreatDoorTie
import Derived.WalkKit
import Derived.ProofKit
import Derived.OpenShut
import Derived.Deep.DeepHandedRow
import Derived.Lib.LaidTab
import Derived.MakeChecks
import Derived.Test.YtmiegcjnimlbmaaGreatDoorULives
import Derived.Test.YtmiegcjnimlbmaaGreatDoorUTb
set_option linter.unusedSimpArgs false
set_option linter.unusedVariables false
namespace Go.Proofs.YtmiegcjnimlbmaaGreatDoor
open Go.ChangeShapes Go.WideShapes Go.ChangeAt Go.RowKit
open Go.Ax (sl)
namespace lawGood
set_option maxRecDepth 100000
theorem own:ownKnob Tryz.prog.godebug=none:=by kernel_rfl
theorem d6f:laidOutB Tryz.prog=true:=by kernel_rfl
theorem e0t{W:World}(h:laidMetH Tryz.prog Rows.testersGoodRow.laid W):Ax.Holds UInst.L.env W:=by
 have h':laidMet Tryz.prog Rows.testersGoodRow.laid W:=by rw[←MakeChecks.laidMetH_plain _ _ _ (by kernel_rfl)];exact h
 refine Ax.holds_of_laid UInst.ok (laid:=Rows.testersGoodRow.laid) h' ?_;intro g cs hg;have hg:UInst.GT g=some cs:=hg;unfold UInst.GT at hg;simp only[cond_eq_ite]at hg;split at hg
 ·rename_i h1;have:g=0:=by simpa using h1
  subst this;cases hg;exact⟨_,List.mem_cons_of_mem _ (List.mem_cons_of_mem _ (List.mem_cons_of_mem _ List.mem_cons_self)),by kernel_rfl,239,by kernel_rfl,by kernel_rfl⟩
 ·cases hg
open Go.Ax Go.Pc in
theorem d2g(aK:List AV)(h:Typ UInst.L.env 8 27 aK):∃x:CX,x.ok∧aK=x.enc:=by have h:=a9l UInst.ft27 h;obtain⟨p0,_,rfl,t0,p1,_,rfl,t1,p2,_,rfl,t2,p3,_,rfl,t3,p4,_,rfl,t4,p5,_,rfl,t5,p6,_,rfl,t6,p7,_,rfl,t7,rfl⟩:=h;obtain⟨inn,rfl,h0⟩:=a50 UInst.in5 t0;obtain⟨dffs,rfl,h1⟩:=a50 UInst.in5 t1;obtain⟨q0,_,rfl,u0,q1,_,rfl,u1,rfl⟩:=b1k UInst.ar22 t2;obtain⟨d0,rfl,lS⟩:=a50 UInst.in5 u0;obtain⟨d1,rfl,rx⟩:=a50 UInst.in5 u1;obtain⟨bus,rfl⟩:=c18 UInst.un4 t3;obtain⟨mem,rfl⟩:=c18 UInst.un4 t4;obtain⟨r0,_,rfl,v0,r1,_,rfl,v1,r2,_,rfl,v2,r3,_,rfl,v3,rfl⟩:=b1k UInst.ar23 t5;obtain⟨a0,rfl,_⟩:=a50 UInst.in5 v0;obtain⟨a1,rfl,_⟩:=a50 UInst.in5 v1;obtain⟨a2,rfl,_⟩:=a50 UInst.in5 v2;obtain⟨a3,rfl,_⟩:=a50 UInst.in5 v3;obtain⟨gc,gates,rfl,_,hg⟩:=a6y (f:=GX.enc) (P:=GX.ok) UInst.st24 (λr hr=>by have hr:=a9l UInst.ft116 hr;obtain⟨p0,_,rfl,t0,p1,_,rfl,t1,rfl⟩:=hr;obtain⟨k,rfl,hk⟩:=a50 UInst.in5 t0;obtain⟨q0,_,rfl,u0,q1,_,rfl,u1,q2,_,rfl,u2,rfl⟩:=b1k UInst.ar114 t1;obtain⟨i0,rfl,e0⟩:=a50 UInst.in5 u0;obtain⟨i1,rfl,e1⟩:=a50 UInst.in5 u1;obtain⟨i2,rfl,e2⟩:=a50 UInst.in5 u2;exact⟨⟨k,i0,i1,i2⟩,⟨hk,e0,e1,e2⟩,rfl⟩) t6;obtain⟨oc,outs,rfl,_,ho⟩:=a6y (f:=u8R) (P:=λo=>o<256) UInst.st25 (λr hr=>by obtain⟨o,rfl,h⟩:=a50 UInst.in5 hr;exact⟨o,h,rfl⟩) t7;exact⟨⟨inn,dffs,d0,d1,bus,mem,a0,a1,a2,a3,gc,gates,oc,outs⟩,⟨h0,h1,lS,rx,hg,ho⟩,rfl⟩
open Go.Ax Go.Pc in
theorem d4x(args:List Ax.AV)(h:Ax.TypAs UInst.L.env 8 Tryz.f6.params.toList args) :
 ∃(x:CX) (pr:Rep) (ps:List Pat),args=[.agg x.enc,sl pr (ps.map Pat.enc)]∧x.ok∧(∀p∈ps,UInst.PxOk p)∧ps.length<9223372036854775808:=by
 have hq:Tryz.f6.params.toList=[27,46]:=by kernel_rfl
 rw[hq]at h;obtain⟨a,_,rfl,h1,b,_,rfl,h2,rfl⟩:=h;obtain⟨aK,rfl,fa⟩:=c9x (UInst.ag27) h1;obtain⟨x,hx,rfl⟩:=d2g aK fa;have h2:=Ax.typA_one (UInst.ag46) h2;obtain⟨pr,ps,e1,hl,hp⟩:=a6y (f:=Pat.enc) (P:=UInst.PxOk) UInst.st46 (λr hr=>by have hr:=a9l UInst.ft68 hr;obtain⟨p0,_,rfl,t0,p1,_,rfl,t1,rfl⟩:=hr;obtain⟨ic,ins,rfl,ed,h0⟩:=a6y (f:=u8R) (P:=λo=>o<256) UInst.st25 (λr hr=>by obtain⟨o,rfl,h⟩:=a50 UInst.in5 hr;exact⟨o,h,rfl⟩) t0;obtain⟨sc,sts,rfl,jJ,h1⟩:=a6y (f:=u8R) (P:=λo=>o<256) UInst.st25 (λr hr=>by obtain⟨o,rfl,h⟩:=a50 UInst.in5 hr;exact⟨o,h,rfl⟩) t1;exact⟨⟨ic,ins,sc,sts⟩,⟨h0,h1,Nat.lt_of_le_of_lt ed (by simp[maxLen]),Nat.lt_of_le_of_lt jJ (by simp[maxLen])⟩,rfl⟩) h2;cases e1;exact⟨x,pr,ps,rfl,hx,hp,Nat.lt_of_le_of_lt hl (by simp[maxLen])⟩
theorem d2k(H:Type)(enc:TypeId×Value→H)(W:World)(base:Nat)(args:Array Value)(ds gs:List (DataW H))(bm:List MemPlace)
 (cF:∀(j:Nat) t v,Tryz.f6.params[j]?=some t→args[j]?=some v→Value.okWide Tryz.prog W .any base t v)
 (hW:DataW.Whole enc Tryz.prog Tryz.f6.params.toList Rows.testersGoodSpec.vars false W args.toList ds gs bm)(hL:laidMetH Tryz.prog Rows.testersGoodRow.laid W) :
 Calls Tryz.prog 6 args W λe W'=>∃v,e = .returned v∧Rows.testersGoodSpec.post enc Tryz.prog Tryz.f6 false true false false W args v W':=by
 refine Ax.law_contract (E:=UInst.L.env) (m:=8) (n:=2) (tb:=4) UInst.ok d6f (by decide) (Ax.sem_ok UInst.ok UInst.dr (M:=UInst.Mf) (λ_ h=>by cases h) 6) (by kernel_rfl) ?_ rfl (by kernel_rfl) ?_ (by kernel_rfl) (by kernel_rfl) (by kernel_rfl) W base args ds gs bm cF hW (e0t hL)
 ·intro args ha;obtain⟨x,pr,ps,rfl,hx,hp,hl⟩:=d4x args ha;exact⟨_,UInst.lawGood_ok UInst.lives_call x hx pr ps hp hl⟩
 ·intro ds hd
  match ds,hd with
  | [a,b],_=>exact⟨rfl,rfl,rfl⟩
def wArgs:Array Value:=#[.agg #[.int .u8 0,.int .u8 0,.int .u8 0,.int .u8 0,.bool false,.bool false,.int .u8 0,.int .u8 0,.int .u8 0,.int .u8 0,.slice none 0 0,.slice none 0 0],.slice none 0 0]
def lay(cs:List Value):Obj→Obj
 |.cells _ t frozen=>.cells cs.toArray t frozen
 |o=>o
noncomputable def b2h(os:Os):World:={ World.holding Tryz.prog os ⟨#[],#[],[]⟩with heap:=(((((World.holding Tryz.prog os ⟨#[],#[],[]⟩).heap.modify 5 (lay (([0,1,28,2,29,14,24,3,30,22,20,15,25,17,4,8,31,27,13,23,21,19,16,7,26,12,18,6,11,5,10,9]:List Int).map (Value.int .u8)))).modify 6 (lay (([0,1,56,2,57,49,28,3,61,58,42,50,38,29,17,4,62,47,59,36,45,43,51,22,53,39,33,30,24,18,12,5,63,55,48,27,60,41,37,16,46,35,44,21,52,32,23,11,54,26,40,15,34,20,31,10,25,14,19,9,13,8,7,6]:List Int).map (Value.int .u8)))).modify 1 (lay (([1,10,100,1000,10000,100000,1000000,10000000,100000000,1000000000,10000000000,100000000000,1000000000000,10000000000000,100000000000000,1000000000000000,10000000000000000,100000000000000000,1000000000000000000,10000000000000000000]:List Int).map (Value.int .u64)))).modify 0 (lay (([0,0,0,0,0,0,1,1,1,1,2,16,2,16,2,16,2,16,2,16,2,16,3,3,2,2,1,16,1,1,0,0]:List Int).map (Value.int .i64)))) }
theorem d1h(os:Os):laidMet Tryz.prog Rows.testersGoodRow.laid ((b2h os).forCall (λ_ _=>0) ⟨#[],wArgs,[]⟩).memory:=laidMet_of_run' 8 (by kernel_rfl) (by kernel_rfl)
def e47{H:Type}:List (DataW H)×List (DataW H)×List MemPlace:=([.agg [.lit (.int .u8 0),.lit (.int .u8 0),.agg [.lit (.int .u8 0),.lit (.int .u8 0)],.lit (.bool false),.lit (.bool false),.agg [.lit (.int .u8 0),.lit (.int .u8 0),.lit (.int .u8 0),.lit (.int .u8 0)],.nil,.nil],.nil],[],[])
theorem d0p(os:Os){H:Type}(enc:TypeId×Value→H):DataW.whole enc Tryz.prog ((b2h os).forCall (λ_ _=>0) ⟨#[],wArgs,[]⟩).memory Tryz.f6.params.toList Rows.testersGoodSpec.vars false wArgs.toList 8=some e47:=by kernel_rfl
theorem e0j(os:Os)(d5:os.Started)(H:Type)(enc:TypeId×Value→H)(F:Stop.Interp) :
 ReturnsInHanded {} Tryz.checked os 6 .any ((OpenSpec.ofChange Rows.testersGoodSpec).preRow enc Tryz.prog Tryz.f6 Rows.testersGoodRow.domain false Rows.testersGoodRow.laid) (((OpenSpec.ofChange Rows.testersGoodSpec).at F).post enc Tryz.prog Tryz.f6 false true false false):=by
 refine returnsInHanded_of_row (C:=Tryz.checked) (s:=OpenSpec.ofChange Rows.testersGoodSpec) own d5 (by kernel_rfl) Tryz.func6
  (witness_row_at (enc:=enc) (C:=Tryz.checked) false (b2h os) wArgs rfl (by kernel_rfl) (by kernel_rfl) (by kernel_rfl)
   (OpenSpec.preRow_of_cond 8 (d0p os enc) (by kernel_rfl) (λk hk=>by cases hk) (by kernel_rfl) (d1h os))) ?_
 intro W base args ds gs bm cF hW _ _ _ hL _ _;exact d2k H enc W base args ds gs bm cF hW hL
theorem e8z:Rows.TestersGoodSaid:=
 OpenClaim.holds_of_cond 6 Tryz.f6 rfl rfl rfl rfl rfl rfl rfl ⟨rfl,rfl,rfl,rfl,rfl⟩ rfl rfl rfl rfl rfl (by kernel_rfl) Tryz.func6 (by kernel_rfl)
  (of_decide_eq_true (by kernel_rfl)) (by unfold Func.isWrapper;first|(rw[if_pos (by decide+kernel)];kernel_rfl)|(rw[if_neg (by decide+kernel)];exact⟨rfl,rfl⟩))
  (λos d5 H enc _ F=>by rw[OpenClaim.pre_eq_preRow];exact e0j os d5 H enc F)
theorem d0s(f:FuncId)(fn:Func)(hf:Tryz.pinned.checked.prog.funcNamed Tryz.f6.name=some f)(bN:Tryz.pinned.checked.prog.funcs[f]?=some fn) :
 true=Tryz.pinned.checked.prog.looks []∧∀(j:Nat) t,fn.params[j]?=some t→Tryz.pinned.checked.prog.wantsStandIn t=false:=by
 obtain rfl:f=6:=Option.some.inj ((show Tryz.prog.funcNamed Tryz.f6.name=some 6 by kernel_rfl).symm.trans hf) |>.symm;obtain rfl:fn=Tryz.f6:=(Option.some.inj (Tryz.func6.symm.trans bN)).symm;refine⟨by kernel_rfl,λj t ht=>?_⟩;have aT:Tryz.f6.params.toList.all (λt=>!(Tryz.prog.wantsStandIn t))=true:=by kernel_rfl
 have hm:t∈Tryz.f6.params.toList:=by simpa using Array.mem_of_getElem? ht
 have:=List.all_eq_true.1 aT t hm;show Tryz.prog.wantsStandIn t=false;simpa using this
theorem card:Rows.TestersGoodCardSaid:=Claim7.holds_tied_plain_at .later [] _ _ _ _ e8z (λ_ h=>by cases h) (by kernel_rfl) (λ_ h=>by cases h) testersGood_row_tie rfl ⟨rfl,rfl⟩ (by kernel_rfl) rfl d0s (by kernel_rfl)
end lawGood
end Go.Proofs.YtmiegcjnimlbmaaGreatDoor
