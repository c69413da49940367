/- The statement TestersCompile and its card. No condition. -/
import Derived.Test.YtmiegcjnimlbmaaGreatDoorCards
import Derived.Test.YtmiegcjnimlbmaaGreatDoorTie
import Derived.WalkKit
import Derived.ProofKit
import Derived.OpenShut
import Derived.Deep.DeepHandedRow
import Derived.Lib.LaidTab
import Derived.MakeChecks
import Derived.Test.YtmiegcjnimlbmaaGreatDoorULives
import Derived.Test.YtmiegcjnimlbmaaGreatDoorUTc
set_option linter.unusedSimpArgs false
set_option linter.unusedVariables false
namespace Go.Proofs.YtmiegcjnimlbmaaGreatDoor
open Go.ChangeShapes Go.WideShapes Go.ChangeAt Go.RowKit
open Go.Ax (sl)
namespace lawComp
set_option maxRecDepth 100000
theorem own:ownKnob Tryz.prog.godebug=none:=by kernel_rfl
theorem c9m:laidOutB Tryz.prog=true:=by kernel_rfl
theorem d3q{W:World}(h:laidMetH Tryz.prog Rows.testersCompileRow.laid W):Ax.Holds UInst.L.env W:=by
 have h':laidMet Tryz.prog Rows.testersCompileRow.laid W:=by rw[←MakeChecks.laidMetH_plain _ _ _ (by kernel_rfl)];exact h
 refine Ax.holds_of_laid UInst.ok (laid:=Rows.testersCompileRow.laid) h' ?_;intro g cs hg;have hg:UInst.GT g=some cs:=hg;unfold UInst.GT at hg;simp only[cond_eq_ite]at hg;split at hg
 ·rename_i h1;have:g=0:=by simpa using h1
  subst this;cases hg;exact⟨_,List.mem_cons_of_mem _ (List.mem_cons_of_mem _ (List.mem_cons_of_mem _ List.mem_cons_self)),by kernel_rfl,239,by kernel_rfl,by kernel_rfl⟩
 ·cases hg
open Go.Ax Go.Pc in
theorem c62(avs:List AV)(h:Typ UInst.L.env 8 27 avs):∃x:CX,x.ok∧avs=x.enc:=by have h:=a6o UInst.ft27 h;obtain⟨p0,_,rfl,t0,p1,_,rfl,t1,p2,_,rfl,t2,p3,_,rfl,t3,p4,_,rfl,t4,p5,_,rfl,t5,p6,_,rfl,t6,p7,_,rfl,t7,rfl⟩:=h;obtain⟨inn,rfl,h0⟩:=a3n UInst.in5 t0;obtain⟨dffs,rfl,h1⟩:=a3n UInst.in5 t1;obtain⟨q0,_,rfl,u0,q1,_,rfl,u1,rfl⟩:=a9z UInst.ar22 t2;obtain⟨d0,rfl,hd0⟩:=a3n UInst.in5 u0;obtain⟨d1,rfl,hd1⟩:=a3n UInst.in5 u1;obtain⟨bus,rfl⟩:=b81 UInst.un4 t3;obtain⟨mem,rfl⟩:=b81 UInst.un4 t4;obtain⟨r0,_,rfl,v0,r1,_,rfl,v1,r2,_,rfl,v2,r3,_,rfl,v3,rfl⟩:=a9z UInst.ar23 t5;obtain⟨a0,rfl,_⟩:=a3n UInst.in5 v0;obtain⟨a1,rfl,_⟩:=a3n UInst.in5 v1;obtain⟨a2,rfl,_⟩:=a3n UInst.in5 v2;obtain⟨a3,rfl,_⟩:=a3n UInst.in5 v3;obtain⟨gc,gates,rfl,_,hg⟩:=a50 (f:=GX.enc) (P:=GX.ok) UInst.st24 (λr hr=>by have hr:=a6o UInst.ft116 hr;obtain⟨p0,_,rfl,t0,p1,_,rfl,t1,rfl⟩:=hr;obtain⟨k,rfl,hk⟩:=a3n UInst.in5 t0;obtain⟨q0,_,rfl,u0,q1,_,rfl,u1,q2,_,rfl,u2,rfl⟩:=a9z UInst.ar114 t1;obtain⟨i0,rfl,e0⟩:=a3n UInst.in5 u0;obtain⟨i1,rfl,e1⟩:=a3n UInst.in5 u1;obtain⟨i2,rfl,e2⟩:=a3n UInst.in5 u2;exact⟨⟨k,i0,i1,i2⟩,⟨hk,e0,e1,e2⟩,rfl⟩) t6;obtain⟨oc,outs,rfl,_,ho⟩:=a50 (f:=u8R) (P:=λo=>o<256) UInst.st25 (λr hr=>by obtain⟨o,rfl,h⟩:=a3n UInst.in5 hr;exact⟨o,h,rfl⟩) t7;exact⟨⟨inn,dffs,d0,d1,bus,mem,a0,a1,a2,a3,gc,gates,oc,outs⟩,⟨h0,h1,hd0,hd1,hg,ho⟩,rfl⟩
open Go.Ax Go.Pc in
theorem c8f(args:List Ax.AV)(h:Ax.TypAs UInst.L.env 8 Tryz.f4.params.toList args) :
 ∃(x:CX) (pr:Rep) (ps:List Pat) (zr:Rep) (zs:List Nat) (what:Nat),args=[.agg x.enc,sl pr (ps.map Pat.enc),.agg [sl zr (zs.map u8R),.int .u8 what]]∧x.ok∧(∀p∈ps,UInst.PxOk p)∧ps.length<9223372036854775808∧(∀z∈zs,z<256)∧zs.length<9223372036854775808∧what<256:=by
 have hq:Tryz.f4.params.toList=[27,46,48]:=by kernel_rfl
 rw[hq]at h;obtain⟨a,_,rfl,h1,b,_,rfl,h2,d,_,rfl,h3,rfl⟩:=h;obtain⟨avs,rfl,h1'⟩:=b82 (UInst.ag27) h1;obtain⟨x,hx,rfl⟩:=c62 avs h1';have h2:=Ax.typA_one (UInst.ag46) h2;obtain⟨pr,ps,e1,hl,hp⟩:=a50 (f:=Pat.enc) (P:=UInst.PxOk) UInst.st46 (λr hr=>by have hr:=a6o UInst.ft68 hr;obtain⟨p0,_,rfl,t0,p1,_,rfl,t1,rfl⟩:=hr;obtain⟨ic,ins,rfl,hl0,h0⟩:=a50 (f:=u8R) (P:=λo=>o<256) UInst.st25 (λr hr=>by obtain⟨o,rfl,h⟩:=a3n UInst.in5 hr;exact⟨o,h,rfl⟩) t0;obtain⟨sc,sts,rfl,hl1,h1⟩:=a50 (f:=u8R) (P:=λo=>o<256) UInst.st25 (λr hr=>by obtain⟨o,rfl,h⟩:=a3n UInst.in5 hr;exact⟨o,h,rfl⟩) t1;exact⟨⟨ic,ins,sc,sts⟩,⟨h0,h1,Nat.lt_of_le_of_lt hl0 (by simp[maxLen]),Nat.lt_of_le_of_lt hl1 (by simp[maxLen])⟩,rfl⟩) h2;obtain⟨avs3,rfl,h3'⟩:=b82 (UInst.ag48) h3;have hr:=a6o UInst.ft48 h3';obtain⟨p0,_,rfl,t0,p1,_,rfl,t1,rfl⟩:=hr;obtain⟨zr,zs,rfl,hzl,hz⟩:=a50 (f:=u8R) (P:=λo=>o<256) UInst.st25 (λr hr=>by obtain⟨o,rfl,h⟩:=a3n UInst.in5 hr;exact⟨o,h,rfl⟩) t0;obtain⟨what,rfl,hw⟩:=a3n UInst.in5 t1;cases e1;exact⟨x,pr,ps,zr,zs,what,rfl,hx,hp,Nat.lt_of_le_of_lt hl (by simp[maxLen]),hz,Nat.lt_of_le_of_lt hzl (by simp[maxLen]),hw⟩
theorem c66(H:Type)(enc:TypeId×Value→H)(W:World)(base:Nat)(args:Array Value)(ds gs:List (DataW H))(before:List MemPlace)
 (hval:∀(j:Nat) t v,Tryz.f4.params[j]?=some t→args[j]?=some v→Value.okWide Tryz.prog W .any base t v)
 (hW:DataW.Whole enc Tryz.prog Tryz.f4.params.toList Rows.testersCompileSpec.vars false W args.toList ds gs before)(hL:laidMetH Tryz.prog Rows.testersCompileRow.laid W) :
 Calls Tryz.prog 4 args W λe W'=>∃v,e = .returned v∧Rows.testersCompileSpec.post enc Tryz.prog Tryz.f4 false true false false W args v W':=by
 refine Ax.law_contract (E:=UInst.L.env) (m:=8) (n:=3) (tb:=4) UInst.ok c9m (by decide) (Ax.sem_ok UInst.ok UInst.dr (M:=UInst.Mf) (λ_ h=>by cases h) 4) (by kernel_rfl) ?_ rfl (by kernel_rfl) ?_ (by kernel_rfl) (by kernel_rfl) (by kernel_rfl) W base args ds gs before hval hW (d3q hL)
 ·intro args ha;obtain⟨x,pr,ps,zr,zs,what,rfl,hx,hp,hl,hz,hzl,hw⟩:=c8f args ha;exact⟨_,UInst.lawComp_ok UInst.lives_call x hx pr ps hp hl zr zs hz hzl what hw _ (λd H=>UInst.loose_call (d:=d) H x hx) (Go.Pc.CX.wf _) (UInst.tio_of x)⟩
 ·intro ds hd
  match ds,hd with
  | [a,b,c],_=>exact⟨rfl,rfl,rfl⟩
def wArgs:Array Value:=#[.agg #[.int .u8 0,.int .u8 0,.int .u8 0,.int .u8 0,.bool false,.bool false,.int .u8 0,.int .u8 0,.int .u8 0,.int .u8 0,.slice none 0 0,.slice none 0 0],.slice none 0 0,.agg #[.slice none 0 0,.int .u8 0]]
def lay(cs:List Value):Obj→Obj
 |.cells _ t frozen=>.cells cs.toArray t frozen
 |o=>o
noncomputable def b0n(os:Os):World:={ World.holding Tryz.prog os ⟨#[],#[],[]⟩with heap:=(((((World.holding Tryz.prog os ⟨#[],#[],[]⟩).heap.modify 5 (lay (([0,1,28,2,29,14,24,3,30,22,20,15,25,17,4,8,31,27,13,23,21,19,16,7,26,12,18,6,11,5,10,9]:List Int).map (Value.int .u8)))).modify 6 (lay (([0,1,56,2,57,49,28,3,61,58,42,50,38,29,17,4,62,47,59,36,45,43,51,22,53,39,33,30,24,18,12,5,63,55,48,27,60,41,37,16,46,35,44,21,52,32,23,11,54,26,40,15,34,20,31,10,25,14,19,9,13,8,7,6]:List Int).map (Value.int .u8)))).modify 1 (lay (([1,10,100,1000,10000,100000,1000000,10000000,100000000,1000000000,10000000000,100000000000,1000000000000,10000000000000,100000000000000,1000000000000000,10000000000000000,100000000000000000,1000000000000000000,10000000000000000000]:List Int).map (Value.int .u64)))).modify 0 (lay (([0,0,0,0,0,0,1,1,1,1,2,16,2,16,2,16,2,16,2,16,2,16,3,3,2,2,1,16,1,1,0,0]:List Int).map (Value.int .i64)))) }
theorem c58(os:Os):laidMet Tryz.prog Rows.testersCompileRow.laid ((b0n os).forCall (λ_ _=>0) ⟨#[],wArgs,[]⟩).memory:=laidMet_of_run' 8 (by kernel_rfl) (by kernel_rfl)
def d70{H:Type}:List (DataW H)×List (DataW H)×List MemPlace:=([.agg [.lit (.int .u8 0),.lit (.int .u8 0),.agg [.lit (.int .u8 0),.lit (.int .u8 0)],.lit (.bool false),.lit (.bool false),.agg [.lit (.int .u8 0),.lit (.int .u8 0),.lit (.int .u8 0),.lit (.int .u8 0)],.nil,.nil],.nil,.agg [.nil,.lit (.int .u8 0)]],[],[])
theorem c4t(os:Os){H:Type}(enc:TypeId×Value→H):DataW.whole enc Tryz.prog ((b0n os).forCall (λ_ _=>0) ⟨#[],wArgs,[]⟩).memory Tryz.f4.params.toList Rows.testersCompileSpec.vars false wArgs.toList 8=some d70:=by kernel_rfl
theorem d3j(os:Os)(started:os.Started)(H:Type)(enc:TypeId×Value→H)(F:Stop.Interp) :
 ReturnsInHanded {} Tryz.checked os 4 .any ((OpenSpec.ofChange Rows.testersCompileSpec).preRow enc Tryz.prog Tryz.f4 Rows.testersCompileRow.domain false Rows.testersCompileRow.laid) (((OpenSpec.ofChange Rows.testersCompileSpec).at F).post enc Tryz.prog Tryz.f4 false true false false):=by
 refine returnsInHanded_of_row (C:=Tryz.checked) (s:=OpenSpec.ofChange Rows.testersCompileSpec) own started (by kernel_rfl) Tryz.func4
  (witness_row_at (enc:=enc) (C:=Tryz.checked) false (b0n os) wArgs rfl (by kernel_rfl) (by kernel_rfl) (by kernel_rfl)
   (OpenSpec.preRow_of_cond 8 (c4t os enc) (by kernel_rfl) (λk hk=>by cases hk) (by kernel_rfl) (c58 os))) ?_
 intro W base args ds gs before hval hW _ _ _ hL _ _;exact c66 H enc W base args ds gs before hval hW hL
theorem e18:Rows.TestersCompileSaid:=
 OpenClaim.holds_of_cond 4 Tryz.f4 rfl rfl rfl rfl rfl rfl rfl ⟨rfl,rfl,rfl,rfl,rfl⟩ rfl rfl rfl rfl rfl (by kernel_rfl) Tryz.func4 (by kernel_rfl)
  (of_decide_eq_true (by kernel_rfl)) (by unfold Func.isWrapper;first|(rw[if_pos (by decide+kernel)];kernel_rfl)|(rw[if_neg (by decide+kernel)];exact⟨rfl,rfl⟩))
  (λos started H enc _ F=>by rw[OpenClaim.pre_eq_preRow];exact d3j os started H enc F)
theorem c4w(f:FuncId)(fn:Func)(hf:Tryz.pinned.checked.prog.funcNamed Tryz.f4.name=some f)(hfn:Tryz.pinned.checked.prog.funcs[f]?=some fn) :
 true=Tryz.pinned.checked.prog.looks []∧∀(j:Nat) t,fn.params[j]?=some t→Tryz.pinned.checked.prog.wantsStandIn t=false:=by
 obtain rfl:f=4:=Option.some.inj ((show Tryz.prog.funcNamed Tryz.f4.name=some 4 by kernel_rfl).symm.trans hf) |>.symm;obtain rfl:fn=Tryz.f4:=(Option.some.inj (Tryz.func4.symm.trans hfn)).symm;refine⟨by kernel_rfl,λj t ht=>?_⟩;have hall:Tryz.f4.params.toList.all (λt=>!(Tryz.prog.wantsStandIn t))=true:=by kernel_rfl
 have hm:t∈Tryz.f4.params.toList:=by simpa using Array.mem_of_getElem? ht
 have:=List.all_eq_true.1 hall t hm;show Tryz.prog.wantsStandIn t=false;simpa using this
theorem card:Rows.TestersCompileCardSaid:=Claim7.holds_tied_plain_at .later [] _ _ _ _ e18 (λ_ h=>by cases h) (by kernel_rfl) (λ_ h=>by cases h) testersCompile_row_tie rfl ⟨rfl,rfl⟩ (by kernel_rfl) rfl c4w (by kernel_rfl)
end lawComp
end Go.Proofs.YtmiegcjnimlbmaaGreatDoor
