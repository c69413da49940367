/- The statement TestersSlow and its card. No condition. -/
import Derived.Test.YtmiegcjnimlbmaaGreatDoorCards
import Derived.Test.YtmiegcjnimlbmaaGreatDoorTie
import Derived.WalkKit
import Derived.ProofKit
import Derived.OpenShut
import Derived.Deep.DeepHandedRow
import Derived.Lib.LaidTab
import Derived.MakeChecks
import Derived.Test.YtmiegcjnimlbmaaGreatDoorULives
import Derived.Test.YtmiegcjnimlbmaaGreatDoorUSl
set_option linter.unusedSimpArgs false
set_option linter.unusedVariables false
namespace Go.Proofs.YtmiegcjnimlbmaaGreatDoor
open Go.ChangeShapes Go.WideShapes Go.ChangeAt Go.RowKit
open Go.Ax (sl)
namespace lawSlow
set_option maxRecDepth 100000
theorem own:ownKnob Tryz.prog.godebug=none:=by kernel_rfl
theorem d8p:laidOutB Tryz.prog=true:=by kernel_rfl
theorem e3o{W:World}(h:laidMetH Tryz.prog Rows.testersSlowRow.laid W):Ax.Holds UInst.L.env W:=by
 have h':laidMet Tryz.prog Rows.testersSlowRow.laid W:=by rw[←MakeChecks.laidMetH_plain _ _ _ (by kernel_rfl)];exact h
 refine Ax.holds_of_laid UInst.ok (laid:=Rows.testersSlowRow.laid) h' ?_;intro g cs hg;have hg:UInst.GT g=some cs:=hg;unfold UInst.GT at hg;simp only[cond_eq_ite]at hg;split at hg
 ·rename_i h1;have:g=0:=by simpa using h1
  subst this;cases hg;exact⟨_,List.mem_cons_of_mem _ (List.mem_cons_of_mem _ (List.mem_cons_of_mem _ List.mem_cons_self)),by kernel_rfl,239,by kernel_rfl,by kernel_rfl⟩
 ·cases hg
open Go.Ax Go.Pc in
theorem d4k(avs:List AV)(h:Typ UInst.L.env 8 27 avs):∃x:CX,x.ok∧avs=x.enc:=by have h:=a8e UInst.ft27 h;obtain⟨p0,_,rfl,t0,p1,_,rfl,t1,p2,_,rfl,t2,p3,_,rfl,t3,p4,_,rfl,t4,p5,_,rfl,t5,p6,_,rfl,t6,p7,_,rfl,t7,rfl⟩:=h;obtain⟨inn,rfl,h0⟩:=a43 UInst.in5 t0;obtain⟨dffs,rfl,h1⟩:=a43 UInst.in5 t1;obtain⟨q0,_,rfl,u0,q1,_,rfl,u1,rfl⟩:=a9n UInst.ar22 t2;obtain⟨d0,rfl,hd0⟩:=a43 UInst.in5 u0;obtain⟨d1,rfl,hd1⟩:=a43 UInst.in5 u1;obtain⟨bus,rfl⟩:=b70 UInst.un4 t3;obtain⟨mem,rfl⟩:=b70 UInst.un4 t4;obtain⟨r0,_,rfl,v0,r1,_,rfl,v1,r2,_,rfl,v2,r3,_,rfl,v3,rfl⟩:=a9n UInst.ar23 t5;obtain⟨a0,rfl,_⟩:=a43 UInst.in5 v0;obtain⟨a1,rfl,_⟩:=a43 UInst.in5 v1;obtain⟨a2,rfl,_⟩:=a43 UInst.in5 v2;obtain⟨a3,rfl,_⟩:=a43 UInst.in5 v3;obtain⟨gc,gates,rfl,_,hg⟩:=a9m (f:=GX.enc) (P:=GX.ok) UInst.st24 (λr hr=>by have hr:=a8e UInst.ft116 hr;obtain⟨p0,_,rfl,t0,p1,_,rfl,t1,rfl⟩:=hr;obtain⟨k,rfl,hk⟩:=a43 UInst.in5 t0;obtain⟨q0,_,rfl,u0,q1,_,rfl,u1,q2,_,rfl,u2,rfl⟩:=a9n UInst.ar114 t1;obtain⟨i0,rfl,e0⟩:=a43 UInst.in5 u0;obtain⟨i1,rfl,e1⟩:=a43 UInst.in5 u1;obtain⟨i2,rfl,e2⟩:=a43 UInst.in5 u2;exact⟨⟨k,i0,i1,i2⟩,⟨hk,e0,e1,e2⟩,rfl⟩) t6;obtain⟨oc,outs,rfl,_,ho⟩:=a9m (f:=u8R) (P:=λo=>o<256) UInst.st25 (λr hr=>by obtain⟨o,rfl,h⟩:=a43 UInst.in5 hr;exact⟨o,h,rfl⟩) t7;exact⟨⟨inn,dffs,d0,d1,bus,mem,a0,a1,a2,a3,gc,gates,oc,outs⟩,⟨h0,h1,hd0,hd1,hg,ho⟩,rfl⟩
open Go.Ax Go.Pc in
theorem d74(args:List Ax.AV)(h:Ax.TypAs UInst.L.env 8 Tryz.f5.params.toList args) :
 ∃(x:CX) (p0 p1:Pat) (y:UInst.FX),args=[.agg x.enc,.agg (p0.enc++p1.enc),.agg y.enc]∧x.ok∧UInst.PxOk p0∧UInst.PxOk p1∧y.ok:=by
 have hq:Tryz.f5.params.toList=[27,69,71]:=by kernel_rfl
 rw[hq]at h;obtain⟨a,_,rfl,h1,b,_,rfl,h2,d,_,rfl,h3,rfl⟩:=h;obtain⟨avs,rfl,h1'⟩:=b71 (UInst.ag27) h1;obtain⟨x,hx,rfl⟩:=d4k avs h1';obtain⟨avs2,rfl,h2'⟩:=b71 (UInst.ag69) h2;obtain⟨q0,_,rfl,u0,q1,_,rfl,u1,rfl⟩:=a9n UInst.ar69 h2';have pat:∀r,Typ UInst.L.env 7 68 r→∃p:Pat,UInst.PxOk p∧r=p.enc:=λr hr=>by have hr:=a8e UInst.ft68 hr;obtain⟨p0,_,rfl,t0,p1,_,rfl,t1,rfl⟩:=hr;obtain⟨ic,ins,rfl,hl0,h0⟩:=a9m (f:=u8R) (P:=λo=>o<256) UInst.st25 (λr hr=>by obtain⟨o,rfl,h⟩:=a43 UInst.in5 hr;exact⟨o,h,rfl⟩) t0;obtain⟨sc,sts,rfl,hl1,h1⟩:=a9m (f:=u8R) (P:=λo=>o<256) UInst.st25 (λr hr=>by obtain⟨o,rfl,h⟩:=a43 UInst.in5 hr;exact⟨o,h,rfl⟩) t1;exact⟨⟨ic,ins,sc,sts⟩,⟨h0,h1,Nat.lt_of_le_of_lt hl0 (by simp[maxLen]),Nat.lt_of_le_of_lt hl1 (by simp[maxLen])⟩,rfl⟩
 obtain⟨p0,hp0,rfl⟩:=pat _ u0;obtain⟨p1,hp1,rfl⟩:=pat _ u1;obtain⟨avs3,rfl,h3'⟩:=b71 (UInst.ag71) h3;have hr:=a8e UInst.ft71 h3';obtain⟨c0,_,rfl,t0,c1,_,rfl,t1,c2,_,rfl,t2,c3,_,rfl,t3,c4,_,rfl,t4,rfl⟩:=hr;obtain⟨a,rfl,k0⟩:=a43 UInst.in5 t0;obtain⟨b,rfl,k1⟩:=a43 UInst.in5 t1;obtain⟨c,rfl,k2⟩:=a43 UInst.in5 t2;obtain⟨d,rfl,k3⟩:=a43 UInst.in5 t3;obtain⟨e,rfl⟩:=b70 UInst.un4 t4;exact⟨x,p0,p1,⟨a,b,c,d,e⟩,by rw[List.append_nil];rfl,hx,hp0,hp1,⟨k0,k1,k2,k3⟩⟩
theorem d4o(H:Type)(enc:TypeId×Value→H)(W:World)(base:Nat)(args:Array Value)(ds gs:List (DataW H))(before:List MemPlace)
 (hval:∀(j:Nat) t v,Tryz.f5.params[j]?=some t→args[j]?=some v→Value.okWide Tryz.prog W .any base t v)
 (hW:DataW.Whole enc Tryz.prog Tryz.f5.params.toList Rows.testersSlowSpec.vars false W args.toList ds gs before)(hL:laidMetH Tryz.prog Rows.testersSlowRow.laid W) :
 Calls Tryz.prog 5 args W λe W'=>∃v,e = .returned v∧Rows.testersSlowSpec.post enc Tryz.prog Tryz.f5 false true false false W args v W':=by
 refine Ax.law_contract (E:=UInst.L.env) (m:=8) (n:=3) (tb:=4) UInst.ok d8p (by decide) (Ax.sem_ok UInst.ok UInst.dr (M:=UInst.Mf) (λ_ h=>by cases h) 5) (by kernel_rfl) ?_ rfl (by kernel_rfl) ?_ (by kernel_rfl) (by kernel_rfl) (by kernel_rfl) W base args ds gs before hval hW (e3o hL)
 ·intro args ha;obtain⟨x,p0,p1,y,rfl,hx,h0,h1,hy⟩:=d74 args ha;exact⟨_,UInst.lawSlow_ok (λH=>UInst.lives_call H) x hx p0 p1 h0 h1 y hy⟩
 ·intro ds hd
  match ds,hd with
  | [a,b,c],_=>exact⟨rfl,rfl,rfl⟩
def wArgs:Array Value:=#[.agg #[.int .u8 0,.int .u8 0,.int .u8 0,.int .u8 0,.bool false,.bool false,.int .u8 0,.int .u8 0,.int .u8 0,.int .u8 0,.slice none 0 0,.slice none 0 0],.agg #[.slice none 0 0,.slice none 0 0,.slice none 0 0,.slice none 0 0],.agg #[.int .u8 0,.int .u8 0,.int .u8 0,.int .u8 0,.bool false]]
def lay(cs:List Value):Obj→Obj
 |.cells _ t frozen=>.cells cs.toArray t frozen
 |o=>o
noncomputable def b3k(os:Os):World:={ World.holding Tryz.prog os ⟨#[],#[],[]⟩with heap:=(((((World.holding Tryz.prog os ⟨#[],#[],[]⟩).heap.modify 5 (lay (([0,1,28,2,29,14,24,3,30,22,20,15,25,17,4,8,31,27,13,23,21,19,16,7,26,12,18,6,11,5,10,9]:List Int).map (Value.int .u8)))).modify 6 (lay (([0,1,56,2,57,49,28,3,61,58,42,50,38,29,17,4,62,47,59,36,45,43,51,22,53,39,33,30,24,18,12,5,63,55,48,27,60,41,37,16,46,35,44,21,52,32,23,11,54,26,40,15,34,20,31,10,25,14,19,9,13,8,7,6]:List Int).map (Value.int .u8)))).modify 1 (lay (([1,10,100,1000,10000,100000,1000000,10000000,100000000,1000000000,10000000000,100000000000,1000000000000,10000000000000,100000000000000,1000000000000000,10000000000000000,100000000000000000,1000000000000000000,10000000000000000000]:List Int).map (Value.int .u64)))).modify 0 (lay (([0,0,0,0,0,0,1,1,1,1,2,16,2,16,2,16,2,16,2,16,2,16,3,3,2,2,1,16,1,1,0,0]:List Int).map (Value.int .i64)))) }
theorem d3i(os:Os):laidMet Tryz.prog Rows.testersSlowRow.laid ((b3k os).forCall (λ_ _=>0) ⟨#[],wArgs,[]⟩).memory:=laidMet_of_run' 8 (by kernel_rfl) (by kernel_rfl)
def e74{H:Type}:List (DataW H)×List (DataW H)×List MemPlace:=([.agg [.lit (.int .u8 0),.lit (.int .u8 0),.agg [.lit (.int .u8 0),.lit (.int .u8 0)],.lit (.bool false),.lit (.bool false),.agg [.lit (.int .u8 0),.lit (.int .u8 0),.lit (.int .u8 0),.lit (.int .u8 0)],.nil,.nil],.agg [.agg [.nil,.nil],.agg [.nil,.nil]],.agg [.lit (.int .u8 0),.lit (.int .u8 0),.lit (.int .u8 0),.lit (.int .u8 0),.lit (.bool false)]],[],[])
theorem d2r(os:Os){H:Type}(enc:TypeId×Value→H):DataW.whole enc Tryz.prog ((b3k os).forCall (λ_ _=>0) ⟨#[],wArgs,[]⟩).memory Tryz.f5.params.toList Rows.testersSlowSpec.vars false wArgs.toList 8=some e74:=by kernel_rfl
theorem e3g(os:Os)(started:os.Started)(H:Type)(enc:TypeId×Value→H)(F:Stop.Interp) :
 ReturnsInHanded {} Tryz.checked os 5 .any ((OpenSpec.ofChange Rows.testersSlowSpec).preRow enc Tryz.prog Tryz.f5 Rows.testersSlowRow.domain false Rows.testersSlowRow.laid) (((OpenSpec.ofChange Rows.testersSlowSpec).at F).post enc Tryz.prog Tryz.f5 false true false false):=by
 refine returnsInHanded_of_row (C:=Tryz.checked) (s:=OpenSpec.ofChange Rows.testersSlowSpec) own started (by kernel_rfl) Tryz.func5
  (witness_row_at (enc:=enc) (C:=Tryz.checked) false (b3k os) wArgs rfl (by kernel_rfl) (by kernel_rfl) (by kernel_rfl)
   (OpenSpec.preRow_of_cond 8 (d2r os enc) (by kernel_rfl) (λk hk=>by cases hk) (by kernel_rfl) (d3i os))) ?_
 intro W base args ds gs before hval hW _ _ _ hL _ _;exact d4o H enc W base args ds gs before hval hW hL
theorem f3w:Rows.TestersSlowSaid:=
 OpenClaim.holds_of_cond 5 Tryz.f5 rfl rfl rfl rfl rfl rfl rfl ⟨rfl,rfl,rfl,rfl,rfl⟩ rfl rfl rfl rfl rfl (by kernel_rfl) Tryz.func5 (by kernel_rfl)
  (of_decide_eq_true (by kernel_rfl)) (by unfold Func.isWrapper;first|(rw[if_pos (by decide+kernel)];kernel_rfl)|(rw[if_neg (by decide+kernel)];exact⟨rfl,rfl⟩))
  (λos started H enc _ F=>by rw[OpenClaim.pre_eq_preRow];exact e3g os started H enc F)
theorem d2s(f:FuncId)(fn:Func)(hf:Tryz.pinned.checked.prog.funcNamed Tryz.f5.name=some f)(hfn:Tryz.pinned.checked.prog.funcs[f]?=some fn) :
 true=Tryz.pinned.checked.prog.looks []∧∀(j:Nat) t,fn.params[j]?=some t→Tryz.pinned.checked.prog.wantsStandIn t=false:=by
 obtain rfl:f=5:=Option.some.inj ((show Tryz.prog.funcNamed Tryz.f5.name=some 5 by kernel_rfl).symm.trans hf) |>.symm;obtain rfl:fn=Tryz.f5:=(Option.some.inj (Tryz.func5.symm.trans hfn)).symm;refine⟨by kernel_rfl,λj t ht=>?_⟩;have hall:Tryz.f5.params.toList.all (λt=>!(Tryz.prog.wantsStandIn t))=true:=by kernel_rfl
 have hm:t∈Tryz.f5.params.toList:=by simpa using Array.mem_of_getElem? ht
 have:=List.all_eq_true.1 hall t hm;show Tryz.prog.wantsStandIn t=false;simpa using this
theorem card:Rows.TestersSlowCardSaid:=Claim7.holds_tied_plain_at .later [] _ _ _ _ f3w (λ_ h=>by cases h) (by kernel_rfl) (λ_ h=>by cases h) testersSlow_row_tie rfl ⟨rfl,rfl⟩ (by kernel_rfl) rfl d2s (by kernel_rfl)
end lawSlow
end Go.Proofs.YtmiegcjnimlbmaaGreatDoor
