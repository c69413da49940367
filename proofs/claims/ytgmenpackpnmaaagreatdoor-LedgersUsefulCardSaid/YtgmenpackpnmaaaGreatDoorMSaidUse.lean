/- The statement LedgersUseful and its card. No condition. -/
import Derived.Test.YtgmenpackpnmaaaGreatDoorCards
import Derived.Test.YtgmenpackpnmaaaGreatDoorTie
import Derived.WalkKit
import Derived.ProofKit
import Derived.OpenShut
import Derived.Deep.DeepHandedRow
import Derived.Lib.LaidTab
import Derived.MakeChecks
import Derived.Test.YtgmenpackpnmaaaGreatDoorMFacts
import Derived.Test.YtgmenpackpnmaaaGreatDoorMLe
set_option linter.unusedSimpArgs false
set_option linter.unusedVariables false
namespace Go.Proofs.YtgmenpackpnmaaaGreatDoor
open Go.ChangeShapes Go.WideShapes Go.ChangeAt Go.RowKit
open Go.Ax (sl)
namespace lawUse
set_option maxRecDepth 100000
theorem own:ownKnob Tryz.prog.godebug = none:=by kernel_rfl
theorem d6t:laidOutB Tryz.prog = true:=by kernel_rfl
theorem e1s {W:World} (h:laidMetH Tryz.prog Rows.ledgersUsefulRow.laid W):Ax.Holds MInst.L.env W:=by
 have h':laidMet Tryz.prog Rows.ledgersUsefulRow.laid W:=by
  rw [← MakeChecks.laidMetH_plain _ _ _ (by kernel_rfl)];exact h
 refine Ax.holds_of_laid MInst.ok (laid:=Rows.ledgersUsefulRow.laid) h' ?_
 intro g cs hg
 have hg:MInst.GT g = some cs:=hg
 unfold MInst.GT at hg
 simp only [cond_eq_ite] at hg
 split at hg
 ·rename_i h1
  have:g = 1:=by simpa using h1
  subst this
  cases hg
  exact ⟨_,List.mem_cons_of_mem _ List.mem_cons_self,by kernel_rfl,221,by kernel_rfl,by kernel_rfl⟩
 ·split at hg
  ·rename_i h1
   have:g = 0:=by simpa using h1
   subst this
   cases hg
   exact ⟨_,List.mem_cons_self,by kernel_rfl,214,by kernel_rfl,by kernel_rfl⟩
  ·cases hg
open Go.Ax Go.Pc in
theorem d2d (avs:List AV) (h:Typ MInst.L.env 7 27 avs):∃ x:CX,x.ok ∧ avs = x.enc:=by
 have h:=a6g MInst.ft27 h
 obtain ⟨p0,_,rfl,t0,p1,_,rfl,t1,p2,_,rfl,t2,p3,_,rfl,t3,p4,_,rfl,t4,p5,_,rfl,t5,p6,_,rfl,t6,p7,_,rfl,t7,rfl⟩:=h
 obtain ⟨inn,rfl,h0⟩:=a3u MInst.in5 t0
 obtain ⟨dffs,rfl,h1⟩:=a3u MInst.in5 t1
 obtain ⟨q0,_,rfl,u0,q1,_,rfl,u1,rfl⟩:=b1y MInst.ar22 t2
 obtain ⟨d0,rfl,hd0⟩:=a3u MInst.in5 u0
 obtain ⟨d1,rfl,hd1⟩:=a3u MInst.in5 u1
 obtain ⟨bus,rfl⟩:=b5l MInst.un4 t3
 obtain ⟨mem,rfl⟩:=b5l MInst.un4 t4
 obtain ⟨r0,_,rfl,v0,r1,_,rfl,v1,r2,_,rfl,v2,r3,_,rfl,v3,rfl⟩:=b1y MInst.ar23 t5
 obtain ⟨a0,rfl,_⟩:=a3u MInst.in5 v0
 obtain ⟨a1,rfl,_⟩:=a3u MInst.in5 v1
 obtain ⟨a2,rfl,_⟩:=a3u MInst.in5 v2
 obtain ⟨a3,rfl,_⟩:=a3u MInst.in5 v3
 obtain ⟨gc,gates,rfl,_,hg⟩:=a6h (f:=GX.enc) (P:=GX.ok) MInst.st24 (fun r hr=>by
  have hr:=a6g MInst.ft115 hr
  obtain ⟨p0,_,rfl,t0,p1,_,rfl,t1,rfl⟩:=hr
  obtain ⟨k,rfl,hk⟩:=a3u MInst.in5 t0
  obtain ⟨q0,_,rfl,u0,q1,_,rfl,u1,q2,_,rfl,u2,rfl⟩:=b1y MInst.ar113 t1
  obtain ⟨i0,rfl,e0⟩:=a3u MInst.in5 u0
  obtain ⟨i1,rfl,e1⟩:=a3u MInst.in5 u1
  obtain ⟨i2,rfl,e2⟩:=a3u MInst.in5 u2
  exact ⟨⟨k,i0,i1,i2⟩,⟨hk,e0,e1,e2⟩,rfl⟩) t6
 obtain ⟨oc,outs,rfl,_,ho⟩:=a6h (f:=u8R) (P:=fun o=>o < 256) MInst.st25 (fun r hr=>by
  obtain ⟨o,rfl,h⟩:=a3u MInst.in5 hr
  exact ⟨o,h,rfl⟩) t7
 exact ⟨⟨inn,dffs,d0,d1,bus,mem,a0,a1,a2,a3,gc,gates,oc,outs⟩,⟨h0,h1,hd0,hd1,hg,ho⟩,rfl⟩
open Go.Ax Go.Pc in
theorem c4b (avs:List AV) (h:Typ MInst.L.env 8 31 avs):∃ x:MInst.CaseX,x.ok ∧ avs = x.enc:=by
 have h:=a6g MInst.ft31 h
 obtain ⟨p0,_,rfl,t0,p1,_,rfl,t1,p2,_,rfl,t2,rfl⟩:=h
 obtain ⟨c,hc,rfl⟩:=d2d p0 t0
 obtain ⟨fr,fs,rfl,_,hf⟩:=a6h (f:=MInst.FX.enc) (P:=MInst.FX.ok) MInst.st28 (fun r hr=>by
  have hr:=a6g MInst.ft71 hr
  obtain ⟨p0,_,rfl,t0,p1,_,rfl,t1,p2,_,rfl,t2,p3,_,rfl,t3,p4,_,rfl,t4,rfl⟩:=hr
  obtain ⟨a,rfl,h0⟩:=a3u MInst.in5 t0
  obtain ⟨b,rfl,h1⟩:=a3u MInst.in5 t1
  obtain ⟨c,rfl,h2⟩:=a3u MInst.in5 t2
  obtain ⟨d,rfl,h3⟩:=a3u MInst.in5 t3
  obtain ⟨e,rfl⟩:=b5l MInst.un4 t4
  exact ⟨⟨a,b,c,d,e⟩,⟨h0,h1,h2,h3⟩,rfl⟩) t1
 obtain ⟨pr,ps,rfl,_,hp⟩:=a6h (f:=Pat.enc) (P:=MInst.PxOk) MInst.st29 (fun r hr=>by
  have hr:=a6g MInst.ft74 hr
  obtain ⟨p0,_,rfl,t0,p1,_,rfl,t1,rfl⟩:=hr
  obtain ⟨ic,ins,rfl,hl0,h0⟩:=a6h (f:=u8R) (P:=fun o=>o < 256) MInst.st25 (fun r hr=>by
   obtain ⟨o,rfl,h⟩:=a3u MInst.in5 hr
   exact ⟨o,h,rfl⟩) t0
  obtain ⟨sc,sts,rfl,hl1,h1⟩:=a6h (f:=u8R) (P:=fun o=>o < 256) MInst.st25 (fun r hr=>by
   obtain ⟨o,rfl,h⟩:=a3u MInst.in5 hr
   exact ⟨o,h,rfl⟩) t1
  exact ⟨⟨ic,ins,sc,sts⟩,⟨h0,h1,Nat.lt_of_le_of_lt hl0 (by simp [maxLen]),Nat.lt_of_le_of_lt hl1 (by simp [maxLen])⟩,rfl⟩) t2
 exact ⟨⟨c,fr,fs,pr,ps⟩,⟨hc,hf,hp⟩,rfl⟩
open Go.Ax Go.Pc in
theorem d52 (args:List Ax.AV) (h:Ax.TypAs MInst.L.env 8 Tryz.f3.params.toList args) :
 ∃ (x:MInst.CaseX),args = [.agg x.enc] ∧ x.ok:=by
 have hp:Tryz.f3.params.toList = [31]:=by kernel_rfl
 rw [hp] at h
 obtain ⟨a,_,rfl,h1,rfl⟩:=h
 obtain ⟨avs,rfl,h1'⟩:=c9v (MInst.ag31) h1
 obtain ⟨x,hx,rfl⟩:=c4b avs h1'
 exact ⟨x,rfl,hx⟩
theorem d2i (H:Type) (enc:TypeId × Value → H) (W:World) (base:Nat) (args:Array Value) (ds gs:List (DataW H)) (before:List MemPlace)
 (hval:∀ (j:Nat) t v,Tryz.f3.params[j]? = some t → args[j]? = some v → Value.okWide Tryz.prog W .any base t v)
 (hW:DataW.Whole enc Tryz.prog Tryz.f3.params.toList Rows.ledgersUsefulSpec.vars false W args.toList ds gs before) (hL:laidMetH Tryz.prog Rows.ledgersUsefulRow.laid W) :
 Calls Tryz.prog 3 args W fun e W'=>∃ v,e = .returned v ∧ Rows.ledgersUsefulSpec.post enc Tryz.prog Tryz.f3 false true false false W args v W':=by
 refine Ax.law_contract (E:=MInst.L.env) (m:=8) (n:=1) (tb:=4) MInst.ok d6t (Ax.sem_ok MInst.ok MInst.dr MInst.livesFacts 3) (by kernel_rfl) ?_ rfl (by kernel_rfl) ?_ (by kernel_rfl) (by kernel_rfl) (by kernel_rfl) W base args ds gs before hval hW (e1s hL)
 ·intro args ha
  obtain ⟨x,rfl,hx⟩:=d52 args ha
  exact ⟨_,MInst.lawUse_ok x hx⟩
 ·intro ds hd
  match ds,hd with
  | [a],_=>exact ⟨rfl,rfl,rfl⟩
def wArgs:Array Value:=#[.agg #[.int .u8 0,.int .u8 0,.int .u8 0,.int .u8 0,.bool false,.bool false,.int .u8 0,.int .u8 0,.int .u8 0,.int .u8 0,.slice none 0 0,.slice none 0 0,.slice none 0 0,.slice none 0 0]]
def lay (cs:List Value):Obj → Obj
 | .cells _ t frozen=>.cells cs.toArray t frozen
 | o=>o
noncomputable def b2s (os:Os):World:=
 { World.holding Tryz.prog os ⟨#[],#[],[]⟩ with heap:=((World.holding Tryz.prog os ⟨#[],#[],[]⟩).heap.modify 0 (lay (([0,0,0,0,0,0,1,1,1,1,2,16,2,16,2,16,2,16,2,16,2,16,3,3,2,2,1,16,1,1,0,0]:List Int).map (Value.int .i64)))).modify 1 (lay (([0,1,1,0,0,0,1,1]:List Int).map (Value.int .u64))) }
theorem d1f (os:Os):laidMet Tryz.prog Rows.ledgersUsefulRow.laid ((b2s os).forCall (fun _ _=>0) ⟨#[],wArgs,[]⟩).memory:=
 laidMet_of_run' 8 (by kernel_rfl) (by kernel_rfl)
def e53 {H:Type}:List (DataW H) × List (DataW H) × List MemPlace:=([.agg [.agg [.lit (.int .u8 0),.lit (.int .u8 0),.agg [.lit (.int .u8 0),.lit (.int .u8 0)],.lit (.bool false),.lit (.bool false),.agg [.lit (.int .u8 0),.lit (.int .u8 0),.lit (.int .u8 0),.lit (.int .u8 0)],.nil,.nil],.nil,.nil]],[],[])
theorem d0q (os:Os) {H:Type} (enc:TypeId × Value → H):DataW.whole enc Tryz.prog ((b2s os).forCall (fun _ _=>0) ⟨#[],wArgs,[]⟩).memory Tryz.f3.params.toList Rows.ledgersUsefulSpec.vars false wArgs.toList 8 = some e53:=by kernel_rfl
theorem e1k (os:Os) (started:os.Started) (H:Type) (enc:TypeId × Value → H) (F:Stop.Interp) :
 ReturnsInHanded {} Tryz.checked os 3 .any ((OpenSpec.ofChange Rows.ledgersUsefulSpec).preRow enc Tryz.prog Tryz.f3 Rows.ledgersUsefulRow.domain false Rows.ledgersUsefulRow.laid) (((OpenSpec.ofChange Rows.ledgersUsefulSpec).at F).post enc Tryz.prog Tryz.f3 false true false false):=by
 refine returnsInHanded_of_row (C:=Tryz.checked) (s:=OpenSpec.ofChange Rows.ledgersUsefulSpec) own started (by kernel_rfl) Tryz.func3
  (witness_row_at (enc:=enc) (C:=Tryz.checked) false (b2s os) wArgs rfl (by kernel_rfl) (by kernel_rfl) (by kernel_rfl)
   (OpenSpec.preRow_of_cond 8 (d0q os enc) (by kernel_rfl) (fun k hk=>by cases hk) (by kernel_rfl) (d1f os))) ?_
 intro W base args ds gs before hval hW _ _ _ hL _ _
 exact d2i H enc W base args ds gs before hval hW hL
theorem f1b:Rows.LedgersUsefulSaid:=
 OpenClaim.holds_of_cond 3 Tryz.f3 rfl rfl rfl rfl rfl rfl rfl ⟨rfl,rfl,rfl,rfl,rfl⟩ rfl rfl rfl rfl rfl (by kernel_rfl) Tryz.func3 (by kernel_rfl)
  (of_decide_eq_true (by kernel_rfl)) (by unfold Func.isWrapper;first|(rw [if_pos (by decide +kernel)];kernel_rfl)|(rw [if_neg (by decide +kernel)];exact ⟨rfl,rfl⟩))
  (fun os started H enc _ F=>by rw [OpenClaim.pre_eq_preRow];exact e1k os started H enc F)
theorem d0r (f:FuncId) (fn:Func) (hf:Tryz.pinned.checked.prog.funcNamed Tryz.f3.name = some f) (hfn:Tryz.pinned.checked.prog.funcs[f]? = some fn) :
 false = Tryz.pinned.checked.prog.looks [] ∧ ∀ (j:Nat) t,fn.params[j]? = some t → Tryz.pinned.checked.prog.wantsStandIn t = false:=by
 obtain rfl:f = 3:=Option.some.inj ((show Tryz.prog.funcNamed Tryz.f3.name = some 3 by kernel_rfl).symm.trans hf) |>.symm
 obtain rfl:fn = Tryz.f3:=(Option.some.inj (Tryz.func3.symm.trans hfn)).symm
 refine ⟨by kernel_rfl,fun j t ht=>?_⟩
 have hall:Tryz.f3.params.toList.all (fun t=>!(Tryz.prog.wantsStandIn t)) = true:=by kernel_rfl
 have hm:t ∈ Tryz.f3.params.toList:=by simpa using Array.mem_of_getElem? ht
 have:=List.all_eq_true.1 hall t hm
 show Tryz.prog.wantsStandIn t = false
 simpa using this
theorem card:Rows.LedgersUsefulCardSaid:=
 Claim7.holds_tied_plain_at .later [] _ _ _ _ f1b (fun _ h=>by cases h) (by kernel_rfl) (fun _ h=>by cases h) ledgersUseful_row_tie rfl ⟨rfl,rfl⟩ (by kernel_rfl) rfl d0r (by kernel_rfl)
end lawUse
end Go.Proofs.YtgmenpackpnmaaaGreatDoor
