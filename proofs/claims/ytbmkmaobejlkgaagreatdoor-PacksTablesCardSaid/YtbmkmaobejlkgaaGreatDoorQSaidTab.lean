/- The statement PacksTables and its card. No condition. -/
import Derived.Test.YtbmkmaobejlkgaaGreatDoorCards
import Derived.Test.YtbmkmaobejlkgaaGreatDoorTie
import Derived.WalkKit
import Derived.ProofKit
import Derived.OpenShut
import Derived.Deep.DeepHandedRow
import Derived.Lib.LaidTab
import Derived.MakeChecks
import Derived.Test.YtbmkmaobejlkgaaGreatDoorQFc
import Derived.Test.YtbmkmaobejlkgaaGreatDoorQTa
set_option linter.unusedSimpArgs false
set_option linter.unusedVariables false
namespace Go.Proofs.YtbmkmaobejlkgaaGreatDoor
open Go.ChangeShapes Go.WideShapes Go.ChangeAt Go.RowKit
open Go.Ax (sl)
namespace lawTab
set_option maxRecDepth 100000
theorem own:ownKnob Tryz.prog.godebug=none:=by kernel_rfl
theorem e0g:laidOutB Tryz.prog=true:=by kernel_rfl
theorem e5b{W:World}(h:laidMetH Tryz.prog Rows.packsTablesRow.laid W):Ax.Holds QInst.L.env W:=by
 have h':laidMet Tryz.prog Rows.packsTablesRow.laid W:=by rw[←MakeChecks.laidMetH_plain _ _ _ (by kernel_rfl)];exact h
 refine Ax.holds_of_laid QInst.ok (laid:=Rows.packsTablesRow.laid) h' ?_;intro g cs hg;have hg:QInst.GT g=some cs:=hg;unfold QInst.GT at hg;simp only[cond_eq_ite]at hg;split at hg
 ·rename_i h1;have:g=2:=by simpa using h1
  subst this;cases hg;exact⟨_,List.mem_cons_of_mem _ (List.mem_cons_of_mem _ List.mem_cons_self),by kernel_rfl,249,by kernel_rfl,by kernel_rfl⟩
 ·split at hg
  ·rename_i h1;have:g=1:=by simpa using h1
   subst this;cases hg;exact⟨_,List.mem_cons_of_mem _ List.mem_cons_self,by kernel_rfl,216,by kernel_rfl,by kernel_rfl⟩
  ·split at hg
   ·rename_i h1;have:g=0:=by simpa using h1
    subst this;cases hg;exact⟨_,List.mem_cons_self,by kernel_rfl,215,by kernel_rfl,by kernel_rfl⟩
   ·cases hg
open Go.Ax Go.Pc in
theorem d5r(aM:List AV)(h:Typ QInst.L.env 8 27 aM):∃x:CX,x.ok∧aM=x.enc:=by have h:=a8c QInst.ft27 h;obtain⟨p0,_,rfl,t0,p1,_,rfl,t1,p2,_,rfl,t2,p3,_,rfl,t3,p4,_,rfl,t4,p5,_,rfl,t5,p6,_,rfl,t6,p7,_,rfl,t7,rfl⟩:=h;obtain⟨inn,rfl,h0⟩:=a49 QInst.in5 t0;obtain⟨dffs,rfl,h1⟩:=a49 QInst.in5 t1;obtain⟨q0,_,rfl,u0,q1,_,rfl,u1,rfl⟩:=b2l QInst.ar22 t2;obtain⟨d0,rfl,qt⟩:=a49 QInst.in5 u0;obtain⟨d1,rfl,tS⟩:=a49 QInst.in5 u1;obtain⟨bus,rfl⟩:=b7c QInst.un4 t3;obtain⟨mem,rfl⟩:=b7c QInst.un4 t4;obtain⟨r0,_,rfl,v0,r1,_,rfl,v1,r2,_,rfl,v2,r3,_,rfl,v3,rfl⟩:=b2l QInst.ar23 t5;obtain⟨a0,rfl,_⟩:=a49 QInst.in5 v0;obtain⟨a1,rfl,_⟩:=a49 QInst.in5 v1;obtain⟨a2,rfl,_⟩:=a49 QInst.in5 v2;obtain⟨a3,rfl,_⟩:=a49 QInst.in5 v3;obtain⟨gc,gates,rfl,_,hg⟩:=a6b (f:=GX.enc) (P:=GX.ok) QInst.st24 (λr hr=>by have hr:=a8c QInst.ft144 hr;obtain⟨p0,_,rfl,t0,p1,_,rfl,t1,rfl⟩:=hr;obtain⟨k,rfl,hk⟩:=a49 QInst.in5 t0;obtain⟨q0,_,rfl,u0,q1,_,rfl,u1,q2,_,rfl,u2,rfl⟩:=b2l QInst.ar142 t1;obtain⟨i0,rfl,e0⟩:=a49 QInst.in5 u0;obtain⟨i1,rfl,e1⟩:=a49 QInst.in5 u1;obtain⟨i2,rfl,e2⟩:=a49 QInst.in5 u2;exact⟨⟨k,i0,i1,i2⟩,⟨hk,e0,e1,e2⟩,rfl⟩) t6;obtain⟨oc,outs,rfl,_,ho⟩:=a6b (f:=u8R) (P:=λo=>o<256) QInst.st25 (λr hr=>by obtain⟨o,rfl,h⟩:=a49 QInst.in5 hr;exact⟨o,h,rfl⟩) t7;exact⟨⟨inn,dffs,d0,d1,bus,mem,a0,a1,a2,a3,gc,gates,oc,outs⟩,⟨h0,h1,qt,tS,hg,ho⟩,rfl⟩
open Go.Ax Go.Pc in
theorem d8q(args:List Ax.AV)(h:Ax.TypAs QInst.L.env 8 Tryz.f3.params.toList args) :
 ∃(x:CX) (lr:Rep) (l:List QInst.FX) (pr:Rep) (ps:List Pat),args=[.agg x.enc,sl lr (l.map QInst.FX.enc),sl pr (ps.map Pat.enc)]∧x.ok∧(∀f∈l,f.ok)∧(∀p∈ps,QInst.PxOk p):=by
 have hq:Tryz.f3.params.toList=[27,28,29]:=by kernel_rfl
 rw[hq]at h;obtain⟨a,_,rfl,h1,d,_,rfl,h3,b,_,rfl,h2,rfl⟩:=h;obtain⟨aM,rfl,cO⟩:=d36 (QInst.ag27) h1;obtain⟨x,hx,rfl⟩:=d5r aM cO;have h3:=Ax.typA_one (QInst.ag28) h3;obtain⟨fr,fs,e2,_,hf⟩:=a6b (f:=QInst.FX.enc) (P:=QInst.FX.ok) QInst.st28 (λr hr=>by have hr:=a8c QInst.ft46 hr;obtain⟨p0,_,rfl,t0,p1,_,rfl,t1,p2,_,rfl,t2,p3,_,rfl,t3,p4,_,rfl,t4,rfl⟩:=hr;obtain⟨a,rfl,k0⟩:=a49 QInst.in5 t0;obtain⟨b,rfl,k1⟩:=a49 QInst.in5 t1;obtain⟨c,rfl,k2⟩:=a49 QInst.in5 t2;obtain⟨d,rfl,k3⟩:=a49 QInst.in5 t3;obtain⟨e,rfl⟩:=b7c QInst.un4 t4;exact⟨⟨a,b,c,d,e⟩,⟨k0,k1,k2,k3⟩,rfl⟩) h3;have h2:=Ax.typA_one (QInst.ag29) h2;obtain⟨pr,ps,e1,hl,hp⟩:=a6b (f:=Pat.enc) (P:=QInst.PxOk) QInst.st29 (λr hr=>by have hr:=a8c QInst.ft54 hr;obtain⟨p0,_,rfl,t0,p1,_,rfl,t1,rfl⟩:=hr;obtain⟨ic,ins,rfl,fO,h0⟩:=a6b (f:=u8R) (P:=λo=>o<256) QInst.st25 (λr hr=>by obtain⟨o,rfl,h⟩:=a49 QInst.in5 hr;exact⟨o,h,rfl⟩) t0;obtain⟨sc,sts,rfl,pZ,h1⟩:=a6b (f:=u8R) (P:=λo=>o<256) QInst.st25 (λr hr=>by obtain⟨o,rfl,h⟩:=a49 QInst.in5 hr;exact⟨o,h,rfl⟩) t1;exact⟨⟨ic,ins,sc,sts⟩,⟨h0,h1,Nat.lt_of_le_of_lt fO (by simp[maxLen]),Nat.lt_of_le_of_lt pZ (by simp[maxLen])⟩,rfl⟩) h2;cases e1;cases e2;exact⟨x,fr,fs,pr,ps,rfl,hx,hf,hp⟩
theorem d5y(H:Type)(enc:TypeId×Value→H)(W:World)(base:Nat)(args:Array Value)(ds gs:List (DataW H))(bt:List MemPlace)
 (cq:∀(j:Nat) t v,Tryz.f3.params[j]?=some t→args[j]?=some v→Value.okWide Tryz.prog W .any base t v)
 (hW:DataW.Whole enc Tryz.prog Tryz.f3.params.toList Rows.packsTablesSpec.vars false W args.toList ds gs bt)(hL:laidMetH Tryz.prog Rows.packsTablesRow.laid W) :
 Calls Tryz.prog 3 args W λe W'=>∃v,e = .returned v∧Rows.packsTablesSpec.post enc Tryz.prog Tryz.f3 false true false false W args v W':=by
 refine Ax.law_contract (E:=QInst.L.env) (m:=8) (n:=3) (tb:=4) QInst.ok e0g (by decide) (Ax.sem_ok QInst.ok QInst.dr QInst.livesFacts 3) (by kernel_rfl) ?_ rfl (by kernel_rfl) ?_ (by kernel_rfl) (by kernel_rfl) (by kernel_rfl) W base args ds gs bt cq hW (e5b hL)
 ·intro args ha;obtain⟨x,lr,l,pr,ps,rfl,hx,hf,hp⟩:=d8q args ha;exact⟨_,QInst.lawTab_ok x hx lr pr l hf ps hp⟩
 ·intro ds hd
  match ds,hd with
  | [a,b,c],_=>exact⟨rfl,rfl,rfl⟩
def wArgs:Array Value:=#[.agg #[.int .u8 0,.int .u8 0,.int .u8 0,.int .u8 0,.bool false,.bool false,.int .u8 0,.int .u8 0,.int .u8 0,.int .u8 0,.slice none 0 0,.slice none 0 0],.slice none 0 0,.slice none 0 0]
def lay(cs:List Value):Obj→Obj
 |.cells _ t frozen=>.cells cs.toArray t frozen
 |o=>o
noncomputable def b3o(os:Os):World:={ World.holding Tryz.prog os ⟨#[],#[],[]⟩with heap:=((((World.holding Tryz.prog os ⟨#[],#[],[]⟩).heap.modify 2 (lay (([0,0,0,0,0,0,1,1,1,1,2,16,2,16,2,16,2,16,2,16,2,16,3,3,2,2,1,16,1,1,0,0]:List Int).map (Value.int .i64)))).modify 1 (lay (([0,1,56,2,57,49,28,3,61,58,42,50,38,29,17,4,62,47,59,36,45,43,51,22,53,39,33,30,24,18,12,5,63,55,48,27,60,41,37,16,46,35,44,21,52,32,23,11,54,26,40,15,34,20,31,10,25,14,19,9,13,8,7,6]:List Int).map (Value.int .u8)))).modify 0 (lay (([0,1,28,2,29,14,24,3,30,22,20,15,25,17,4,8,31,27,13,23,21,19,16,7,26,12,18,6,11,5,10,9]:List Int).map (Value.int .u8)))) }
theorem d4o(os:Os):laidMet Tryz.prog Rows.packsTablesRow.laid ((b3o os).forCall (λ_ _=>0) ⟨#[],wArgs,[]⟩).memory:=laidMet_of_run' 8 (by kernel_rfl) (by kernel_rfl)
def e8u{H:Type}:List (DataW H)×List (DataW H)×List MemPlace:=([.agg [.lit (.int .u8 0),.lit (.int .u8 0),.agg [.lit (.int .u8 0),.lit (.int .u8 0)],.lit (.bool false),.lit (.bool false),.agg [.lit (.int .u8 0),.lit (.int .u8 0),.lit (.int .u8 0),.lit (.int .u8 0)],.nil,.nil],.nil,.nil],[],[])
theorem d3x(os:Os){H:Type}(enc:TypeId×Value→H):DataW.whole enc Tryz.prog ((b3o os).forCall (λ_ _=>0) ⟨#[],wArgs,[]⟩).memory Tryz.f3.params.toList Rows.packsTablesSpec.vars false wArgs.toList 8=some e8u:=by kernel_rfl
theorem e54(os:Os)(eS:os.Started)(H:Type)(enc:TypeId×Value→H)(F:Stop.Interp) :
 ReturnsInHanded {} Tryz.checked os 3 .any ((OpenSpec.ofChange Rows.packsTablesSpec).preRow enc Tryz.prog Tryz.f3 Rows.packsTablesRow.domain false Rows.packsTablesRow.laid) (((OpenSpec.ofChange Rows.packsTablesSpec).at F).post enc Tryz.prog Tryz.f3 false true false false):=by
 refine returnsInHanded_of_row (C:=Tryz.checked) (s:=OpenSpec.ofChange Rows.packsTablesSpec) own eS (by kernel_rfl) Tryz.func3
  (witness_row_at (enc:=enc) (C:=Tryz.checked) false (b3o os) wArgs rfl (by kernel_rfl) (by kernel_rfl) (by kernel_rfl)
   (OpenSpec.preRow_of_cond 8 (d3x os enc) (by kernel_rfl) (λk hk=>by cases hk) (by kernel_rfl) (d4o os))) ?_
 intro W base args ds gs bt cq hW _ _ _ hL _ _;exact d5y H enc W base args ds gs bt cq hW hL
theorem f4u:Rows.PacksTablesSaid:=
 OpenClaim.holds_of_cond 3 Tryz.f3 rfl rfl rfl rfl rfl rfl rfl ⟨rfl,rfl,rfl,rfl,rfl⟩ rfl rfl rfl rfl rfl (by kernel_rfl) Tryz.func3 (by kernel_rfl)
  (of_decide_eq_true (by kernel_rfl)) (by unfold Func.isWrapper;first|(rw[if_pos (by decide+kernel)];kernel_rfl)|(rw[if_neg (by decide+kernel)];exact⟨rfl,rfl⟩))
  (λos eS H enc _ F=>by rw[OpenClaim.pre_eq_preRow];exact e54 os eS H enc F)
theorem d3y(f:FuncId)(fn:Func)(hf:Tryz.pinned.checked.prog.funcNamed Tryz.f3.name=some f)(bv:Tryz.pinned.checked.prog.funcs[f]?=some fn) :
 false=Tryz.pinned.checked.prog.looks []∧∀(j:Nat) t,fn.params[j]?=some t→Tryz.pinned.checked.prog.wantsStandIn t=false:=by
 obtain rfl:f=3:=Option.some.inj ((show Tryz.prog.funcNamed Tryz.f3.name=some 3 by kernel_rfl).symm.trans hf) |>.symm;obtain rfl:fn=Tryz.f3:=(Option.some.inj (Tryz.func3.symm.trans bv)).symm;refine⟨by kernel_rfl,λj t ht=>?_⟩;have aR:Tryz.f3.params.toList.all (λt=>!(Tryz.prog.wantsStandIn t))=true:=by kernel_rfl
 have hm:t∈Tryz.f3.params.toList:=by simpa using Array.mem_of_getElem? ht
 have:=List.all_eq_true.1 aR t hm;show Tryz.prog.wantsStandIn t=false;simpa using this
theorem card:Rows.PacksTablesCardSaid:=Claim7.holds_tied_plain_at .later [] _ _ _ _ f4u (λ_ h=>by cases h) (by kernel_rfl) (λ_ h=>by cases h) packsTables_row_tie rfl ⟨rfl,rfl⟩ (by kernel_rfl) rfl d3y (by kernel_rfl)
end lawTab
end Go.Proofs.YtbmkmaobejlkgaaGreatDoor
