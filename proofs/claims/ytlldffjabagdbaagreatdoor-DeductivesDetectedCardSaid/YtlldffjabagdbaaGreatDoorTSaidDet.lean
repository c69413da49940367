/- The statement DeductivesDetected and its card. No condition. -/
import Derived.Test.YtlldffjabagdbaaGreatDoorCards
import Derived.Test.YtlldffjabagdbaaGreatDoorTie
import Derived.WalkKit
import Derived.ProofKit
import Derived.OpenShut
import Derived.Deep.DeepHandedRow
import Derived.Lib.LaidTab
import Derived.MakeChecks
import Derived.Test.YtlldffjabagdbaaGreatDoorTSq
import Derived.Test.YtlldffjabagdbaaGreatDoorTLives
import Derived.Test.YtlldffjabagdbaaGreatDoorTDc
set_option linter.unusedSimpArgs false
set_option linter.unusedVariables false
namespace Go.Proofs.YtlldffjabagdbaaGreatDoor
open Go.ChangeShapes Go.WideShapes Go.ChangeAt Go.RowKit
open Go.Ax (sl)
namespace lawDet
set_option maxRecDepth 100000
theorem own:ownKnob Tryz.prog.godebug=none:=by kernel_rfl
theorem e42:laidOutB Tryz.prog=true:=by kernel_rfl
theorem e4b{W:World}(h:laidMetH Tryz.prog Rows.deductivesDetectedRow.laid W):Ax.Holds TInst.L.env W:=by
 have h':laidMet Tryz.prog Rows.deductivesDetectedRow.laid W:=by rw[←MakeChecks.laidMetH_plain _ _ _ (by kernel_rfl)];exact h
 refine Ax.holds_of_laid TInst.ok (laid:=Rows.deductivesDetectedRow.laid) h' ?_;intro g cs hg;have hg:TInst.GT g=some cs:=hg;unfold TInst.GT at hg;simp only[cond_eq_ite]at hg;split at hg
 ·rename_i h1;have:g=1:=by simpa using h1
  subst this;cases hg;exact⟨_,List.mem_cons_of_mem _ List.mem_cons_self,by kernel_rfl,195,by kernel_rfl,by kernel_rfl⟩
 ·split at hg
  ·rename_i h1;have:g=0:=by simpa using h1
   subst this;cases hg;exact⟨_,List.mem_cons_self,by kernel_rfl,180,by kernel_rfl,by kernel_rfl⟩
  ·cases hg
open Go.Ax Go.Pc in
theorem d96(aU:List AV)(h:Typ TInst.L.env 8 27 aU):∃x:CX,x.ok∧aU=x.enc:=by have h:=b2u TInst.ft27 h;obtain⟨p0,_,rfl,t0,p1,_,rfl,t1,p2,_,rfl,t2,p3,_,rfl,t3,p4,_,rfl,t4,p5,_,rfl,t5,p6,_,rfl,t6,p7,_,rfl,t7,rfl⟩:=h;obtain⟨inn,rfl,h0⟩:=a6b TInst.in5 t0;obtain⟨dffs,rfl,h1⟩:=a6b TInst.in5 t1;obtain⟨q0,_,rfl,u0,q1,_,rfl,u1,rfl⟩:=b5b TInst.ar22 t2;obtain⟨d0,rfl,ry⟩:=a6b TInst.in5 u0;obtain⟨d1,rfl,vj⟩:=a6b TInst.in5 u1;obtain⟨bus,rfl⟩:=c01 TInst.un4 t3;obtain⟨mem,rfl⟩:=c01 TInst.un4 t4;obtain⟨r0,_,rfl,v0,r1,_,rfl,v1,r2,_,rfl,v2,r3,_,rfl,v3,rfl⟩:=b5b TInst.ar23 t5;obtain⟨a0,rfl,_⟩:=a6b TInst.in5 v0;obtain⟨a1,rfl,_⟩:=a6b TInst.in5 v1;obtain⟨a2,rfl,_⟩:=a6b TInst.in5 v2;obtain⟨a3,rfl,_⟩:=a6b TInst.in5 v3;obtain⟨gc,gates,rfl,_,hg⟩:=b5a (f:=GX.enc) (P:=GX.ok) TInst.st24 (λr hr=>by have hr:=b2u TInst.ft168 hr;obtain⟨p0,_,rfl,t0,p1,_,rfl,t1,rfl⟩:=hr;obtain⟨k,rfl,hk⟩:=a6b TInst.in5 t0;obtain⟨q0,_,rfl,u0,q1,_,rfl,u1,q2,_,rfl,u2,rfl⟩:=b5b TInst.ar166 t1;obtain⟨i0,rfl,e0⟩:=a6b TInst.in5 u0;obtain⟨i1,rfl,e1⟩:=a6b TInst.in5 u1;obtain⟨i2,rfl,e2⟩:=a6b TInst.in5 u2;exact⟨⟨k,i0,i1,i2⟩,⟨hk,e0,e1,e2⟩,rfl⟩) t6;obtain⟨oc,outs,rfl,_,ho⟩:=b5a (f:=u8R) (P:=λo=>o<256) TInst.st25 (λr hr=>by obtain⟨o,rfl,h⟩:=a6b TInst.in5 hr;exact⟨o,h,rfl⟩) t7;exact⟨⟨inn,dffs,d0,d1,bus,mem,a0,a1,a2,a3,gc,gates,oc,outs⟩,⟨h0,h1,ry,vj,hg,ho⟩,rfl⟩
open Go.Ax Go.Pc in
theorem e2a(args:List Ax.AV)(h:Ax.TypAs TInst.L.env 8 Tryz.f6.params.toList args) :
 ∃(x:CX) (zr:Rep) (z:List TInst.FX) (w:BitVec 64),args=[.agg x.enc,sl zr (z.map TInst.FX.enc),u64 w]∧x.ok∧(∀f∈z,f.ok)∧z.length<9223372036854775808:=by
 have hp:Tryz.f6.params.toList=[27,66,28]:=by kernel_rfl
 rw[hp]at h;obtain⟨a,_,rfl,h1,b,_,rfl,h2,d,_,rfl,h3,rfl⟩:=h;obtain⟨aU,rfl,db⟩:=d6d (TInst.ag27) h1;obtain⟨x,hx,rfl⟩:=d96 aU db;have h2:=Ax.typA_one (TInst.ag66) h2;have h3:=Ax.typA_one (TInst.ag28) h3;obtain⟨fr,fs,e1,hl,hf⟩:=b5a (f:=TInst.FX.enc) (P:=TInst.FX.ok) TInst.st66 (λr hr=>by have hr:=b2u TInst.ft107 hr;obtain⟨p0,_,rfl,t0,p1,_,rfl,t1,p2,_,rfl,t2,p3,_,rfl,t3,p4,_,rfl,t4,rfl⟩:=hr;obtain⟨a,rfl,h0⟩:=a6b TInst.in5 t0;obtain⟨b,rfl,h1⟩:=a6b TInst.in5 t1;obtain⟨c,rfl,h2⟩:=a6b TInst.in5 t2;obtain⟨d,rfl,h3⟩:=a6b TInst.in5 t3;obtain⟨e,rfl⟩:=c01 TInst.un4 t4;exact⟨⟨a,b,c,d,e⟩,⟨h0,h1,h2,h3⟩,rfl⟩) h2;obtain⟨w,e2⟩:=e2b TInst.in28 h3;cases e1;cases e2;exact⟨x,fr,fs,w,rfl,hx,hf,Nat.lt_of_le_of_lt hl (by simp[maxLen])⟩
theorem d9a(H:Type)(enc:TypeId×Value→H)(W:World)(base:Nat)(args:Array Value)(ds gs:List (DataW H))(bL:List MemPlace)
 (cW:∀(j:Nat) t v,Tryz.f6.params[j]?=some t→args[j]?=some v→Value.okWide Tryz.prog W .any base t v)
 (hW:DataW.Whole enc Tryz.prog Tryz.f6.params.toList Rows.deductivesDetectedSpec.vars false W args.toList ds gs bL)(hL:laidMetH Tryz.prog Rows.deductivesDetectedRow.laid W) :
 Calls Tryz.prog 6 args W λe W'=>∃v,e = .returned v∧Rows.deductivesDetectedSpec.post enc Tryz.prog Tryz.f6 false true false false W args v W':=by
 refine Ax.law_contract (E:=TInst.L.env) (m:=8) (n:=3) (tb:=4) TInst.ok e42 (by decide) (Ax.sem_ok TInst.ok TInst.dr (M:=TInst.Mf) (λ_ h=>by cases h) 6) (by kernel_rfl) ?_ rfl (by kernel_rfl) ?_ (by kernel_rfl) (by kernel_rfl) (by kernel_rfl) W base args ds gs bL cW hW (e4b hL)
 ·intro args ha;obtain⟨x,zr,z,w,rfl,hx,hz,ge⟩:=e2a args ha;exact⟨_,TInst.lawDet_ok TInst.lives_call x hx zr z hz ge w⟩
 ·intro ds hd
  match ds,hd with
  | [a,b,c],_=>exact⟨rfl,rfl,rfl⟩
def wArgs:Array Value:=#[.agg #[.int .u8 0,.int .u8 0,.int .u8 0,.int .u8 0,.bool false,.bool false,.int .u8 0,.int .u8 0,.int .u8 0,.int .u8 0,.slice none 0 0,.slice none 0 0],.slice none 0 0,.int .u64 0]
def lay(cs:List Value):Obj→Obj
 |.cells _ t frozen=>.cells cs.toArray t frozen
 |o=>o
noncomputable def b6h(os:Os):World:={ World.holding Tryz.prog os ⟨#[],#[],[]⟩with heap:=((World.holding Tryz.prog os ⟨#[],#[],[]⟩).heap.modify 0 (lay (([0,0,0,0,0,0,1,1,1,1,2,16,2,16,2,16,2,16,2,16,2,16,3,3,2,2,1,16,1,1,0,0]:List Int).map (Value.int .i64)))).modify 1 (lay (([0,1,1,0,0,0,1,1]:List Int).map (Value.int .u64))) }
theorem d83(os:Os):laidMet Tryz.prog Rows.deductivesDetectedRow.laid ((b6h os).forCall (λ_ _=>0) ⟨#[],wArgs,[]⟩).memory:=laidMet_of_run' 8 (by kernel_rfl) (by kernel_rfl)
def f3h{H:Type}:List (DataW H)×List (DataW H)×List MemPlace:=([.agg [.lit (.int .u8 0),.lit (.int .u8 0),.agg [.lit (.int .u8 0),.lit (.int .u8 0)],.lit (.bool false),.lit (.bool false),.agg [.lit (.int .u8 0),.lit (.int .u8 0),.lit (.int .u8 0),.lit (.int .u8 0)],.nil,.nil],.nil,.lit (.int .u64 0)],[],[])
theorem reads(os:Os){H:Type}(enc:TypeId×Value→H):DataW.whole enc Tryz.prog ((b6h os).forCall (λ_ _=>0) ⟨#[],wArgs,[]⟩).memory Tryz.f6.params.toList Rows.deductivesDetectedSpec.vars false wArgs.toList 8=some f3h:=by kernel_rfl
theorem e91(os:Os)(fB:os.Started)(H:Type)(enc:TypeId×Value→H)(F:Stop.Interp) :
 ReturnsInHanded {} Tryz.checked os 6 .any ((OpenSpec.ofChange Rows.deductivesDetectedSpec).preRow enc Tryz.prog Tryz.f6 Rows.deductivesDetectedRow.domain false Rows.deductivesDetectedRow.laid) (((OpenSpec.ofChange Rows.deductivesDetectedSpec).at F).post enc Tryz.prog Tryz.f6 false true false false):=by
 refine returnsInHanded_of_row (C:=Tryz.checked) (s:=OpenSpec.ofChange Rows.deductivesDetectedSpec) own fB (by kernel_rfl) Tryz.func6
  (witness_row_at (enc:=enc) (C:=Tryz.checked) false (b6h os) wArgs rfl (by kernel_rfl) (by kernel_rfl) (by kernel_rfl)
   (OpenSpec.preRow_of_cond 8 (reads os enc) (by kernel_rfl) (λk hk=>by cases hk) (by kernel_rfl) (d83 os))) ?_
 intro W base args ds gs bL cW hW _ _ _ hL _ _;exact d9a H enc W base args ds gs bL cW hW hL
theorem g18:Rows.DeductivesDetectedSaid:=
 OpenClaim.holds_of_cond 6 Tryz.f6 rfl rfl rfl rfl rfl rfl rfl ⟨rfl,rfl,rfl,rfl,rfl⟩ rfl rfl rfl rfl rfl (by kernel_rfl) Tryz.func6 (by kernel_rfl)
  (of_decide_eq_true (by kernel_rfl)) (by unfold Func.isWrapper;first|(rw[if_pos (by decide+kernel)];kernel_rfl)|(rw[if_neg (by decide+kernel)];exact⟨rfl,rfl⟩))
  (λos fB H enc _ F=>by rw[OpenClaim.pre_eq_preRow];exact e91 os fB H enc F)
theorem plain(f:FuncId)(fn:Func)(hf:Tryz.pinned.checked.prog.funcNamed Tryz.f6.name=some f)(cj:Tryz.pinned.checked.prog.funcs[f]?=some fn) :
 false=Tryz.pinned.checked.prog.looks []∧∀(j:Nat) t,fn.params[j]?=some t→Tryz.pinned.checked.prog.wantsStandIn t=false:=by
 obtain rfl:f=6:=Option.some.inj ((show Tryz.prog.funcNamed Tryz.f6.name=some 6 by kernel_rfl).symm.trans hf) |>.symm;obtain rfl:fn=Tryz.f6:=(Option.some.inj (Tryz.func6.symm.trans cj)).symm;refine⟨by kernel_rfl,λj t ht=>?_⟩;have bd:Tryz.f6.params.toList.all (λt=>!(Tryz.prog.wantsStandIn t))=true:=by kernel_rfl
 have hm:t∈Tryz.f6.params.toList:=by simpa using Array.mem_of_getElem? ht
 have:=List.all_eq_true.1 bd t hm;show Tryz.prog.wantsStandIn t=false;simpa using this
theorem card:Rows.DeductivesDetectedCardSaid:=Claim7.holds_tied_plain_at .later [] _ _ _ _ g18 (λ_ h=>by cases h) (by kernel_rfl) (λ_ h=>by cases h) deductivesDetected_row_tie rfl ⟨rfl,rfl⟩ (by kernel_rfl) rfl plain (by kernel_rfl)
end lawDet
end Go.Proofs.YtlldffjabagdbaaGreatDoor
