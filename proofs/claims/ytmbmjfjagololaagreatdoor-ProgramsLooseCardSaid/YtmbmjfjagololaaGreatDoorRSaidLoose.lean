/- The statement ProgramsLoose and its card. No condition. -/
import Derived.Test.YtmbmjfjagololaaGreatDoorCards
import Derived.Test.YtmbmjfjagololaaGreatDoorTie
import Derived.WalkKit
import Derived.ProofKit
import Derived.OpenShut
import Derived.Deep.DeepHandedRow
import Derived.Lib.LaidTab
import Derived.MakeChecks
import Derived.Test.YtmbmjfjagololaaGreatDoorRRo
set_option linter.unusedSimpArgs false
set_option linter.unusedVariables false
namespace Go.Proofs.YtmbmjfjagololaaGreatDoor
open Go.ChangeShapes Go.WideShapes Go.ChangeAt Go.RowKit
open Go.Ax (sl)
namespace lawLoose
set_option maxRecDepth 100000
noncomputable instance iPR:RInst.PR:=RInst.PR2
theorem own:ownKnob Tryz.prog.godebug=none:=by kernel_rfl
theorem d1g:laidOutB Tryz.prog=true:=by kernel_rfl
theorem c80{W:World}(h:laidMetH Tryz.prog Rows.programsLooseRow.laid W):Ax.Holds RInst.L.env W:=by
 have h':laidMet Tryz.prog Rows.programsLooseRow.laid W:=by rw[←MakeChecks.laidMetH_plain _ _ _ (by kernel_rfl)];exact h
 refine Ax.holds_of_laid RInst.ok (laid:=Rows.programsLooseRow.laid) h' ?_;intro g cs hg;have hg:RInst.GT g=some cs:=hg;unfold RInst.GT at hg;simp only[cond_eq_ite]at hg;split at hg
 ·rename_i h1;have:g=3:=by simpa using h1
  subst this;cases hg;exact⟨_,List.mem_cons_of_mem _ (List.mem_cons_of_mem _ List.mem_cons_self),by kernel_rfl,159,by kernel_rfl,by kernel_rfl⟩
 ·cases hg
open Go.Ax Go.Pc in
theorem c4j(avs:List AV)(h:Typ RInst.L.env 8 26 avs):∃(r0 r1 r2:Option (Option Nat)) (N:List (List UInt8)) (X:List Tm) (Y:List Vc),N.length<9223372036854775808∧X.length<9223372036854775808∧Y.length<9223372036854775808∧avs=[sl r0 (N.map RInst.stR),sl r1 (X.map RInst.Tm.enc),sl r2 (Y.map RInst.Vc.enc)]:=by have h:=b0a RInst.ft26 h;obtain⟨p0,_,rfl,t0,p1,_,rfl,t1,p2,_,rfl,t2,rfl⟩:=h;obtain⟨r0,N,rfl,h0,_⟩:=b2i (f:=RInst.stR) (P:=λ_=>True) RInst.st22 (λr hr=>by obtain⟨o,rfl,_⟩:=b9g (by kernel_rfl) hr;exact⟨o,trivial,rfl⟩) t0;obtain⟨r1,X,rfl,h1,_⟩:=b2i (f:=RInst.Tm.enc) (P:=λ_=>True) RInst.st23 (λr hr=>by have hr:=b0a RInst.ft41 hr;obtain⟨p0,_,rfl,t0,p1,_,rfl,t1,p2,_,rfl,t2,p3,_,rfl,t3,p4,_,rfl,t4,p5,_,rfl,t5,rfl⟩:=hr;obtain⟨a,rfl,_⟩:=b9g (by kernel_rfl) t0;obtain⟨b,rfl,_⟩:=a8n RInst.in3 t1;obtain⟨c,rfl,_⟩:=a8n RInst.in3 t2;obtain⟨d,rfl,_⟩:=a8n RInst.in3 t3;obtain⟨e,rfl,_⟩:=a8n RInst.in3 t4;obtain⟨f,rfl,_⟩:=a8n RInst.in3 t5;exact⟨⟨a,b,c,d,e,f⟩,trivial,rfl⟩) t1;obtain⟨r2,Y,rfl,h2,_⟩:=b2i (f:=RInst.Vc.enc) (P:=λ_=>True) RInst.st24 (λr hr=>by have hr:=b0a RInst.ft43 hr;obtain⟨p0,_,rfl,t0,p1,_,rfl,t1,p2,_,rfl,t2,rfl⟩:=hr;obtain⟨a,rfl,_⟩:=a8n RInst.in3 t0;obtain⟨b,rfl,_⟩:=b9g (by kernel_rfl) t1;obtain⟨c,rfl,_⟩:=a8n RInst.in3 t2;exact⟨⟨a,b,c⟩,trivial,rfl⟩) t2;exact⟨r0,r1,r2,N,X,Y,Nat.lt_of_le_of_lt h0 (by simp[maxLen]),Nat.lt_of_le_of_lt h1 (by simp[maxLen]),Nat.lt_of_le_of_lt h2 (by simp[maxLen]),rfl⟩
open Go.Ax Go.Pc in
theorem d09(args:List Ax.AV)(h:Ax.TypAs RInst.L.env 8 Tryz.f8.params.toList args) :
 ∃(r0 r1 r2:Option (Option Nat)) (N:List (List UInt8)) (X:List Tm) (Y:List Vc) (z0 z1 z2:Nat),N.length<9223372036854775808∧X.length<9223372036854775808∧Y.length<9223372036854775808∧z0<65536∧z1<65536∧z2<65536∧args=[.agg [sl r0 (N.map RInst.stR),sl r1 (X.map RInst.Tm.enc),sl r2 (Y.map RInst.Vc.enc)],.agg [.int .u16 z0,.int .u16 z1,.int .u16 z2]]:=by
 have hq:Tryz.f8.params.toList=[26,71]:=by kernel_rfl
 rw[hq]at h;obtain⟨a,_,rfl,h1,b,_,rfl,h2,rfl⟩:=h;obtain⟨avs,rfl,h1'⟩:=c0j (RInst.ag26) h1;obtain⟨r0,r1,r2,N,X,Y,k0,k1,k2,rfl⟩:=c4j avs h1';obtain⟨bvs,rfl,h2'⟩:=c0j (RInst.ag71) h2;have h2':=c3r RInst.ar71 h2';simp only[List.replicate]at h2';obtain⟨p0,_,rfl,t0,p1,_,rfl,t1,p2,_,rfl,t2,rfl⟩:=h2';have tu:∀p,Typ RInst.L.env 7 70 p→∃i:Nat,p=[.int .u16 i]∧i<65536:=by
  intro p hp;obtain⟨i,e1,e2⟩:=c3q RInst.in70 hp;simp only[Lit.wf,Bool.and_eq_true,decide_eq_true_eq]at e2;have f1:IntKind.u16.min=0:=by rfl
  have f2:IntKind.u16.max=65535:=by rfl
  rw[f1,f2]at e2;exact⟨i.toNat,by rw[e1,Int.toNat_of_nonneg e2.1],by omega⟩
 obtain⟨z0,rfl,u0⟩:=tu _ t0;obtain⟨z1,rfl,u1⟩:=tu _ t1;obtain⟨z2,rfl,u2⟩:=tu _ t2;exact⟨r0,r1,r2,N,X,Y,z0,z1,z2,k0,k1,k2,u0,u1,u2,rfl⟩
theorem c86(H:Type)(enc:TypeId×Value→H)(W:World)(base:Nat)(args:Array Value)(ds gs:List (DataW H))(before:List MemPlace)
 (hval:∀(j:Nat) t v,Tryz.f8.params[j]?=some t→args[j]?=some v→Value.okWide Tryz.prog W .any base t v)
 (hW:DataW.Whole enc Tryz.prog Tryz.f8.params.toList Rows.programsLooseSpec.vars false W args.toList ds gs before)(hL:laidMetH Tryz.prog Rows.programsLooseRow.laid W) :
 Calls Tryz.prog 8 args W λe W'=>∃v,e = .returned v∧Rows.programsLooseSpec.post enc Tryz.prog Tryz.f8 false true false false W args v W':=by
 refine Ax.law_contract (E:=RInst.L.env) (m:=8) (n:=2) (tb:=4) RInst.ok d1g (by decide) (Ax.sem_ok RInst.ok RInst.dr2 (M:=RInst.Mf) (λ_ h=>by cases h) 8) (by kernel_rfl) ?_ rfl (by kernel_rfl) ?_ (by kernel_rfl) (by kernel_rfl) (by kernel_rfl) W base args ds gs before hval hW (c80 hL)
 ·intro args ha;obtain⟨r0,r1,r2,N,X,Y,z0,z1,z2,k0,k1,k2,u0,u1,u2,rfl⟩:=d09 args ha;exact⟨_,RInst.loose_law RInst.pr2_so (λs r=>RInst.pr2_rd) r0 r1 r2 N X Y k0 k1 k2 z0 z1 z2 u0 u1 u2⟩
 ·intro ds hd
  match ds,hd with
  | [a,b],_=>exact⟨rfl,rfl,rfl⟩
def wArgs:Array Value:=#[.agg #[.slice none 0 0,.slice none 0 0,.slice none 0 0],.agg #[.int .u16 0,.int .u16 0,.int .u16 0]]
def lay(cs:List Value):Obj→Obj
 |.cells _ t frozen=>.cells cs.toArray t frozen
 |o=>o
noncomputable def b36(os:Os):World:={ World.holding Tryz.prog os ⟨#[],#[],[]⟩with heap:=((((((World.holding Tryz.prog os ⟨#[],#[],[]⟩).heap.modify 4 (lay (([0,1,28,2,29,14,24,3,30,22,20,15,25,17,4,8,31,27,13,23,21,19,16,7,26,12,18,6,11,5,10,9]:List Int).map (Value.int .u8)))).modify 5 (lay (([0,1,56,2,57,49,28,3,61,58,42,50,38,29,17,4,62,47,59,36,45,43,51,22,53,39,33,30,24,18,12,5,63,55,48,27,60,41,37,16,46,35,44,21,52,32,23,11,54,26,40,15,34,20,31,10,25,14,19,9,13,8,7,6]:List Int).map (Value.int .u8)))).modify 3 (lay (([1,10,100,1000,10000,100000,1000000,10000000,100000000,1000000000,10000000000,100000000000,1000000000000,10000000000000,100000000000000,1000000000000000,10000000000000000,100000000000000000,1000000000000000000,10000000000000000000]:List Int).map (Value.int .u64)))).modify 2 (lay (([128,191,160,191,128,159,144,191,128,143,0,0,0,0,0,0,0,0,0,0,0,0,0,0,0,0,0,0,0,0,0,0]:List Int).map (Value.int .u8)))).modify 1 (lay ((Go.Pinned.utf8FirstZ).map λn=>Value.int .u8 (n:Nat)))) }
theorem c7w(os:Os):laidMet Tryz.prog Rows.programsLooseRow.laid ((b36 os).forCall (λ_ _=>0) ⟨#[],wArgs,[]⟩).memory:=laidMet_of_run' 8 (by kernel_rfl) (by kernel_rfl)
def d9w{H:Type}:List (DataW H)×List (DataW H)×List MemPlace:=([.agg [.nil,.nil,.nil],.agg [.lit (.int .u16 0),.lit (.int .u16 0),.lit (.int .u16 0)]],[],[])
theorem d0z(os:Os){H:Type}(enc:TypeId×Value→H):DataW.whole enc Tryz.prog ((b36 os).forCall (λ_ _=>0) ⟨#[],wArgs,[]⟩).memory Tryz.f8.params.toList Rows.programsLooseSpec.vars false wArgs.toList 8=some d9w:=by kernel_rfl
theorem d5w(os:Os)(started:os.Started)(H:Type)(enc:TypeId×Value→H)(F:Stop.Interp) :
 ReturnsInHanded {} Tryz.checked os 8 .any ((OpenSpec.ofChange Rows.programsLooseSpec).preRow enc Tryz.prog Tryz.f8 Rows.programsLooseRow.domain false Rows.programsLooseRow.laid) (((OpenSpec.ofChange Rows.programsLooseSpec).at F).post enc Tryz.prog Tryz.f8 false true false false):=by
 refine returnsInHanded_of_row (C:=Tryz.checked) (s:=OpenSpec.ofChange Rows.programsLooseSpec) own started (by kernel_rfl) Tryz.func8
  (witness_row_at (enc:=enc) (C:=Tryz.checked) false (b36 os) wArgs rfl (by kernel_rfl) (by kernel_rfl) (by kernel_rfl)
   (OpenSpec.preRow_of_cond 8 (d0z os enc) (by kernel_rfl) (λk hk=>by cases hk) (by kernel_rfl) (c7w os))) ?_
 intro W base args ds gs before hval hW _ _ _ hL _ _;exact c86 H enc W base args ds gs before hval hW hL
theorem e42:Rows.ProgramsLooseSaid:=
 OpenClaim.holds_of_cond 8 Tryz.f8 rfl rfl rfl rfl rfl rfl rfl ⟨rfl,rfl,rfl,rfl,rfl⟩ rfl rfl rfl rfl rfl (by kernel_rfl) Tryz.func8 (by kernel_rfl)
  (of_decide_eq_true (by kernel_rfl)) (by unfold Func.isWrapper;first|(rw[if_pos (by decide+kernel)];kernel_rfl)|(rw[if_neg (by decide+kernel)];exact⟨rfl,rfl⟩))
  (λos started H enc _ F=>by rw[OpenClaim.pre_eq_preRow];exact d5w os started H enc F)
theorem plain(f:FuncId)(fn:Func)(hf:Tryz.pinned.checked.prog.funcNamed Tryz.f8.name=some f)(hfn:Tryz.pinned.checked.prog.funcs[f]?=some fn) :
 true=Tryz.pinned.checked.prog.looks []∧∀(j:Nat) t,fn.params[j]?=some t→Tryz.pinned.checked.prog.wantsStandIn t=false:=by
 obtain rfl:f=8:=Option.some.inj ((show Tryz.prog.funcNamed Tryz.f8.name=some 8 by kernel_rfl).symm.trans hf) |>.symm;obtain rfl:fn=Tryz.f8:=(Option.some.inj (Tryz.func8.symm.trans hfn)).symm;refine⟨by kernel_rfl,λj t ht=>?_⟩;have hall:Tryz.f8.params.toList.all (λt=>!(Tryz.prog.wantsStandIn t))=true:=by kernel_rfl
 have hm:t∈Tryz.f8.params.toList:=by simpa using Array.mem_of_getElem? ht
 have:=List.all_eq_true.1 hall t hm;show Tryz.prog.wantsStandIn t=false;simpa using this
theorem card:Rows.ProgramsLooseCardSaid:=Claim7.holds_tied_plain_at .later [] _ _ _ _ e42 (λ_ h=>by cases h) (by kernel_rfl) (λ_ h=>by cases h) programsLoose_row_tie rfl ⟨rfl,rfl⟩ (by kernel_rfl) rfl plain (by kernel_rfl)
end lawLoose
end Go.Proofs.YtmbmjfjagololaaGreatDoor
