/- The statement DeductivesOrder and its card. No condition. -/
import Derived.Test.YtlldffjabagdbaaGreatDoorCards
import Derived.Test.YtlldffjabagdbaaGreatDoorTie
import Derived.WalkKit
import Derived.ProofKit
import Derived.OpenShut
import Derived.Deep.DeepHandedRow
import Derived.Lib.LaidTab
import Derived.MakeChecks
import Derived.Test.YtlldffjabagdbaaGreatDoorTSq
import Derived.Test.YtlldffjabagdbaaGreatDoorTLives
import Derived.Test.YtlldffjabagdbaaGreatDoorTDc
set_option linter.unusedSimpArgs false
set_option linter.unusedVariables false
namespace Go.Proofs.YtlldffjabagdbaaGreatDoor
open Go.ChangeShapes Go.WideShapes Go.ChangeAt Go.RowKit
open Go.Ax (sl)
namespace lawOrder
set_option maxRecDepth 100000
theorem own:ownKnob Tryz.prog.godebug = none:=by kernel_rfl
theorem d7m:laidOutB Tryz.prog = true:=by kernel_rfl
theorem d7u {W:World} (h:laidMetH Tryz.prog Rows.deductivesOrderRow.laid W):Ax.Holds TInst.L.env W:=by
 have h':laidMet Tryz.prog Rows.deductivesOrderRow.laid W:=by
  rw [← MakeChecks.laidMetH_plain _ _ _ (by kernel_rfl)];exact h
 refine Ax.holds_of_laid TInst.ok (laid:=Rows.deductivesOrderRow.laid) h' ?_
 intro g cs hg
 have hg:TInst.GT g = some cs:=hg
 unfold TInst.GT at hg
 simp only [cond_eq_ite] at hg
 split at hg
 ·rename_i h1
  have:g = 0:=by simpa using h1
  subst this
  cases hg
  exact ⟨_,List.mem_cons_self,by kernel_rfl,180,by kernel_rfl,by kernel_rfl⟩
 ·cases hg
open Go.Ax Go.Pc in
theorem d3i (avs:List AV) (h:Typ TInst.L.env 8 27 avs):∃ x:CX,x.ok ∧ avs = x.enc:=by
 have h:=b0y TInst.ft27 h
 obtain ⟨p0,_,rfl,t0,p1,_,rfl,t1,p2,_,rfl,t2,p3,_,rfl,t3,p4,_,rfl,t4,p5,_,rfl,t5,p6,_,rfl,t6,p7,_,rfl,t7,rfl⟩:=h
 obtain ⟨inn,rfl,h0⟩:=a51 TInst.in5 t0
 obtain ⟨dffs,rfl,h1⟩:=a51 TInst.in5 t1
 obtain ⟨q0,_,rfl,u0,q1,_,rfl,u1,rfl⟩:=b3b TInst.ar22 t2
 obtain ⟨d0,rfl,hd0⟩:=a51 TInst.in5 u0
 obtain ⟨d1,rfl,hd1⟩:=a51 TInst.in5 u1
 obtain ⟨bus,rfl⟩:=b77 TInst.un4 t3
 obtain ⟨mem,rfl⟩:=b77 TInst.un4 t4
 obtain ⟨r0,_,rfl,v0,r1,_,rfl,v1,r2,_,rfl,v2,r3,_,rfl,v3,rfl⟩:=b3b TInst.ar23 t5
 obtain ⟨a0,rfl,_⟩:=a51 TInst.in5 v0
 obtain ⟨a1,rfl,_⟩:=a51 TInst.in5 v1
 obtain ⟨a2,rfl,_⟩:=a51 TInst.in5 v2
 obtain ⟨a3,rfl,_⟩:=a51 TInst.in5 v3
 obtain ⟨gc,gates,rfl,_,hg⟩:=b3a (f:=GX.enc) (P:=GX.ok) TInst.st24 (fun r hr=>by
  have hr:=b0y TInst.ft168 hr
  obtain ⟨p0,_,rfl,t0,p1,_,rfl,t1,rfl⟩:=hr
  obtain ⟨k,rfl,hk⟩:=a51 TInst.in5 t0
  obtain ⟨q0,_,rfl,u0,q1,_,rfl,u1,q2,_,rfl,u2,rfl⟩:=b3b TInst.ar166 t1
  obtain ⟨i0,rfl,e0⟩:=a51 TInst.in5 u0
  obtain ⟨i1,rfl,e1⟩:=a51 TInst.in5 u1
  obtain ⟨i2,rfl,e2⟩:=a51 TInst.in5 u2
  exact ⟨⟨k,i0,i1,i2⟩,⟨hk,e0,e1,e2⟩,rfl⟩) t6
 obtain ⟨oc,outs,rfl,_,ho⟩:=b3a (f:=u8R) (P:=fun o=>o < 256) TInst.st25 (fun r hr=>by
  obtain ⟨o,rfl,h⟩:=a51 TInst.in5 hr
  exact ⟨o,h,rfl⟩) t7
 exact ⟨⟨inn,dffs,d0,d1,bus,mem,a0,a1,a2,a3,gc,gates,oc,outs⟩,⟨h0,h1,hd0,hd1,hg,ho⟩,rfl⟩
open Go.Ax Go.Pc in
theorem d61 (args:List Ax.AV) (h:Ax.TypAs TInst.L.env 8 Tryz.f4.params.toList args) :
 ∃ (x:CX) (zr:Rep) (z:List TInst.FX) (w:BitVec 64),args = [.agg x.enc,sl zr (z.map TInst.FX.enc),u64 w] ∧ x.ok ∧ (∀ f ∈ z,f.ok) ∧ z.length < 9223372036854775808:=by
 have hp:Tryz.f4.params.toList = [27,66,28]:=by kernel_rfl
 rw [hp] at h
 obtain ⟨a,_,rfl,h1,b,_,rfl,h2,d,_,rfl,h3,rfl⟩:=h
 obtain ⟨avs,rfl,h1'⟩:=d1b (TInst.ag27) h1
 obtain ⟨x,hx,rfl⟩:=d3i avs h1'
 have h2:=Ax.typA_one (TInst.ag66) h2
 have h3:=Ax.typA_one (TInst.ag28) h3
 obtain ⟨fr,fs,e1,hl,hf⟩:=b3a (f:=TInst.FX.enc) (P:=TInst.FX.ok) TInst.st66 (fun r hr=>by
  have hr:=b0y TInst.ft107 hr
  obtain ⟨p0,_,rfl,t0,p1,_,rfl,t1,p2,_,rfl,t2,p3,_,rfl,t3,p4,_,rfl,t4,rfl⟩:=hr
  obtain ⟨a,rfl,h0⟩:=a51 TInst.in5 t0
  obtain ⟨b,rfl,h1⟩:=a51 TInst.in5 t1
  obtain ⟨c,rfl,h2⟩:=a51 TInst.in5 t2
  obtain ⟨d,rfl,h3⟩:=a51 TInst.in5 t3
  obtain ⟨e,rfl⟩:=b77 TInst.un4 t4
  exact ⟨⟨a,b,c,d,e⟩,⟨h0,h1,h2,h3⟩,rfl⟩) h2
 obtain ⟨w,e2⟩:=d62 TInst.in28 h3
 cases e1;cases e2
 exact ⟨x,fr,fs,w,rfl,hx,hf,Nat.lt_of_le_of_lt hl (by simp [maxLen])⟩
theorem d3m (H:Type) (enc:TypeId × Value → H) (W:World) (base:Nat) (args:Array Value) (ds gs:List (DataW H)) (before:List MemPlace)
 (hval:∀ (j:Nat) t v,Tryz.f4.params[j]? = some t → args[j]? = some v → Value.okWide Tryz.prog W .any base t v)
 (hW:DataW.Whole enc Tryz.prog Tryz.f4.params.toList Rows.deductivesOrderSpec.vars false W args.toList ds gs before) (hL:laidMetH Tryz.prog Rows.deductivesOrderRow.laid W) :
 Calls Tryz.prog 4 args W fun e W'=>∃ v,e = .returned v ∧ Rows.deductivesOrderSpec.post enc Tryz.prog Tryz.f4 false true false false W args v W':=by
 refine Ax.law_contract (E:=TInst.L.env) (m:=8) (n:=3) (tb:=4) TInst.ok d7m (by decide) (Ax.sem_ok TInst.ok TInst.dr (M:=TInst.Mf) (fun _ h=>by cases h) 4) (by kernel_rfl) ?_ rfl (by kernel_rfl) ?_ (by kernel_rfl) (by kernel_rfl) (by kernel_rfl) W base args ds gs before hval hW (d7u hL)
 ·intro args ha
  obtain ⟨x,zr,z,w,rfl,hx,hz,hzl⟩:=d61 args ha
  exact ⟨_,TInst.lawOrder_ok TInst.lives_call x hx zr z hz hzl w⟩
 ·intro ds hd
  match ds,hd with
  | [a,b,c],_=>exact ⟨rfl,rfl,rfl⟩
def wArgs:Array Value:=#[.agg #[.int .u8 0,.int .u8 0,.int .u8 0,.int .u8 0,.bool false,.bool false,.int .u8 0,.int .u8 0,.int .u8 0,.int .u8 0,.slice none 0 0,.slice none 0 0],.slice none 0 0,.int .u64 0]
def lay (cs:List Value):Obj → Obj
 | .cells _ t frozen=>.cells cs.toArray t frozen
 | o=>o
noncomputable def b4e (os:Os):World:=
 { World.holding Tryz.prog os ⟨#[],#[],[]⟩ with heap:=(World.holding Tryz.prog os ⟨#[],#[],[]⟩).heap.modify 0 (lay (([0,0,0,0,0,0,1,1,1,1,2,16,2,16,2,16,2,16,2,16,2,16,3,3,2,2,1,16,1,1,0,0]:List Int).map (Value.int .i64))) }
theorem d2n (os:Os):laidMet Tryz.prog Rows.deductivesOrderRow.laid ((b4e os).forCall (fun _ _=>0) ⟨#[],wArgs,[]⟩).memory:=
 laidMet_of_run' 8 (by kernel_rfl) (by kernel_rfl)
def e52 {H:Type}:List (DataW H) × List (DataW H) × List MemPlace:=([.agg [.lit (.int .u8 0),.lit (.int .u8 0),.agg [.lit (.int .u8 0),.lit (.int .u8 0)],.lit (.bool false),.lit (.bool false),.agg [.lit (.int .u8 0),.lit (.int .u8 0),.lit (.int .u8 0),.lit (.int .u8 0)],.nil,.nil],.nil,.lit (.int .u64 0)],[],[])
theorem reads (os:Os) {H:Type} (enc:TypeId × Value → H):DataW.whole enc Tryz.prog ((b4e os).forCall (fun _ _=>0) ⟨#[],wArgs,[]⟩).memory Tryz.f4.params.toList Rows.deductivesOrderSpec.vars false wArgs.toList 8 = some e52:=by kernel_rfl
theorem e1o (os:Os) (started:os.Started) (H:Type) (enc:TypeId × Value → H) (F:Stop.Interp) :
 ReturnsInHanded {} Tryz.checked os 4 .any ((OpenSpec.ofChange Rows.deductivesOrderSpec).preRow enc Tryz.prog Tryz.f4 Rows.deductivesOrderRow.domain false Rows.deductivesOrderRow.laid) (((OpenSpec.ofChange Rows.deductivesOrderSpec).at F).post enc Tryz.prog Tryz.f4 false true false false):=by
 refine returnsInHanded_of_row (C:=Tryz.checked) (s:=OpenSpec.ofChange Rows.deductivesOrderSpec) own started (by kernel_rfl) Tryz.func4
  (witness_row_at (enc:=enc) (C:=Tryz.checked) false (b4e os) wArgs rfl (by kernel_rfl) (by kernel_rfl) (by kernel_rfl)
   (OpenSpec.preRow_of_cond 8 (reads os enc) (by kernel_rfl) (fun k hk=>by cases hk) (by kernel_rfl) (d2n os))) ?_
 intro W base args ds gs before hval hW _ _ _ hL _ _
 exact d3m H enc W base args ds gs before hval hW hL
theorem e9u:Rows.DeductivesOrderSaid:=
 OpenClaim.holds_of_cond 4 Tryz.f4 rfl rfl rfl rfl rfl rfl rfl ⟨rfl,rfl,rfl,rfl,rfl⟩ rfl rfl rfl rfl rfl (by kernel_rfl) Tryz.func4 (by kernel_rfl)
  (of_decide_eq_true (by kernel_rfl)) (by unfold Func.isWrapper;first|(rw [if_pos (by decide +kernel)];kernel_rfl)|(rw [if_neg (by decide +kernel)];exact ⟨rfl,rfl⟩))
  (fun os started H enc _ F=>by rw [OpenClaim.pre_eq_preRow];exact e1o os started H enc F)
theorem plain (f:FuncId) (fn:Func) (hf:Tryz.pinned.checked.prog.funcNamed Tryz.f4.name = some f) (hfn:Tryz.pinned.checked.prog.funcs[f]? = some fn) :
 false = Tryz.pinned.checked.prog.looks [] ∧ ∀ (j:Nat) t,fn.params[j]? = some t → Tryz.pinned.checked.prog.wantsStandIn t = false:=by
 obtain rfl:f = 4:=Option.some.inj ((show Tryz.prog.funcNamed Tryz.f4.name = some 4 by kernel_rfl).symm.trans hf) |>.symm
 obtain rfl:fn = Tryz.f4:=(Option.some.inj (Tryz.func4.symm.trans hfn)).symm
 refine ⟨by kernel_rfl,fun j t ht=>?_⟩
 have hall:Tryz.f4.params.toList.all (fun t=>!(Tryz.prog.wantsStandIn t)) = true:=by kernel_rfl
 have hm:t ∈ Tryz.f4.params.toList:=by simpa using Array.mem_of_getElem? ht
 have:=List.all_eq_true.1 hall t hm
 show Tryz.prog.wantsStandIn t = false
 simpa using this
theorem card:Rows.DeductivesOrderCardSaid:=
 Claim7.holds_tied_plain_at .later [] _ _ _ _ e9u (fun _ h=>by cases h) (by kernel_rfl) (fun _ h=>by cases h) deductivesOrder_row_tie rfl ⟨rfl,rfl⟩ (by kernel_rfl) rfl plain (by kernel_rfl)
end lawOrder
end Go.Proofs.YtlldffjabagdbaaGreatDoor
