/- AxPan: code that ends in a panic. -/
import Derived.Test.YtnkhpfincnfloaaGreatDoorAxD
set_option linter.unusedSimpArgs false
set_option linter.unusedVariables false
namespace Go.Ax
/-! ### statements -/
section
variable {x:Cx}{F F1 F':Frm}{H H1 H':Heap}{p:Value}{a b:Code}
end
section
variable {E:Env}{M:List Fact}{m N:Nat}{F F1 F':Frm}{H H1 H':Heap}{p:Value}{o:Oper}
end
theorem runOps_pre{E:Env}(ok:EnvOk E){ro:Option Nat}{call:FuncId→List AV→Heap→Option (AV×Heap)}(hcall:CallsOk E call){e:Entry}{N:Nat}{ops:Array Oper}{R:Type}{k:Frm→Heap→Option R}{r:R}
 {Q:Exit→Act→World→Prop}{tl:List Nat}(hQ:∀F H I ρ a w,Now E e N F H I ρ a w→k F H=some r→wpOpsIn (wf ro) 0 E.P ops Q tl a w) :
 ∀(rest:List Oper) (s:Nat) (log:List LogE) (F:Frm) (H:Heap) (I:Nat→Prop) (ρ:PMap) (a:Act) (w:World),(∃post,ops.toList.drop s=rest++post)→Now E e N F H I ρ a w→
  runOps E false N call ops.toList rest log F H k=some r→wpOpsIn (wf ro) 0 E.P ops Q (List.range' s rest.length++tl) a w
 | [],s,log,F,H,I,ρ,a,w,_,hnow,hrun=>by simp only[runOps,Bool.not_false,Bool.true_or,cond_true]at hrun;simp only[List.length_nil,List.range'_zero,List.nil_append];exact hQ F H I ρ a w hnow hrun
 |o::rest,s,log,F,H,I,ρ,a,w,⟨post,hrest⟩,hnow,hrun=>by
  have ho:ops[s]?=some o:=by
   have:(ops.toList.drop s)[0]?=some o:=by rw[hrest];rfl
   rw[List.getElem?_drop]at this;simpa using this
  have hrest':ops.toList.drop (s+1)=rest++post:=by
   have:(ops.toList.drop s).drop 1=rest++post:=by rw[hrest];rfl
   rw[List.drop_drop]at this;exact this
  rw[List.length_cons,List.range'_succ,List.cons_append];unfold runOps at hrun;rw[cond_eq_ite]at hrun;split at hrun
  case isFalse=>cases hrun
  rename_i hd;have ih:=λlog F H I ρ a w hnow hrun=>runOps_pre (ro:=ro) ok hcall hQ rest (s+1) log F H I ρ a w ⟨post,hrest'⟩ hnow hrun;have exec:∀F0,Now E e N F0 H I ρ a w→(match stepOp E false call F0 H o.op with
   |some (v,H',l)=>runOps E false N call ops.toList rest (l::log) (setF F0 o.dst v) H' k
   |none=>none)=some r→Region.wanted o (yielded ops a.tmps)=true→wpOpsIn (wf ro) 0 E.P ops Q (s::(List.range' (s+1) rest.length++tl)) a w:=by
   intro F0 hn0 hr hw;split at hr
   case h_2=>cases hr
   rename_i v H' l hs;exact wpOps_here ho hw (stepOp_ok ok hcall hn0 hs hd (λI' ρ' a' w' hn'=>ih _ _ _ I' ρ' a' w' hn' hr))
  have skip:∀F0 log',Now E e N F0 H I ρ a w→runOps E false N call ops.toList rest log' (setF F0 o.dst (.tuple [])) H k=some r→Region.wanted o (yielded ops a.tmps)=false→
   wpOpsIn (wf ro) 0 E.P ops Q (s::(List.range' (s+1) rest.length++tl)) a w:=by
   intro F0 log' hn0 hr hw;exact wpOps_skip ho hw (ih _ _ _ I ρ _ w (hn0.skip hd) hr)
  split at hrun
  ·rename_i hg;exact exec F hnow hrun (by simp[Region.wanted,hg])
  ·rename_i j want hg;split at hrun
   case h_1=>cases hrun
   rename_i d hgs;obtain⟨hy1,hy2⟩:=yielded_of hnow hgs;split at hrun
   ·rename_i b hb;have hyb:=hy1 b hb;have hvb:=hnow.frm.2 d;rw[hb]at hvb;have hw:Region.wanted o (yielded ops a.tmps)=(b==want):=by simp[Region.wanted,hg,hyb]
    cases b
    ·simp only[cond_false]at hrun;have hn0:=hnow.refine (d:=d) (v:=.bool false) hvb;cases want
     ·simp only[cond_false]at hrun;exact exec _ hn0 hrun (by rw[hw];rfl)
     ·simp only[cond_true]at hrun;exact skip _ _ hn0 hrun (by rw[hw];rfl)
    ·simp only[cond_true]at hrun;have hn0:=hnow.refine (d:=d) (v:=.bool true) hvb;cases want
     ·simp only[cond_false]at hrun;exact skip _ _ hn0 hrun (by rw[hw];rfl)
     ·simp only[cond_true]at hrun;exact exec _ hn0 hrun (by rw[hw];rfl)
   ·rename_i hb;have hyb:=hy2 hb;exact skip F _ hnow hrun (by simp[Region.wanted,hg,hyb])
   ·cases hrun
/-! ### functions -/
end Go.Ax
/- AxPcs: walks of code that ends in a panic, in the style of AxWp. -/
namespace Go.Ax
section
variable {E:Env}{M:List Fact}{m N:Nat}{g:FuncId}{cur:Nat}{F F1 F':Frm}{H H1 H':Heap}{p:Value}{a b:Code}
end
end Go.Ax
/- AxKp: regions of plain operations leave the deferred calls alone. -/
namespace Go.Ax
def PlainO(P:Program)(o:Oper):Prop:=(∀c,o.op≠ .defer c)∧∀ρ w,(∃v w',(execOp ρ o).run P w = .ok (.value v) w')∨(∃w',(execOp ρ o).run P w = .ok .skip w')∨(∃x w',(execOp ρ o).run P w = .halt x w')
theorem plain_v{P:Program}{o:Oper}(hd:∀c,o.op≠ .defer c)(h:∀ρ,∃s:Sem Value,execOp ρ o=(do pure (.value (←s)))):PlainO P o:=by
 refine⟨hd,λρ w=>?_⟩;obtain⟨s,hs⟩:=h ρ;rw[hs];simp only[bind_pure_comp,Sem.run_map];cases h:s.run P w with
 |ok v w'=>exact .inl ⟨v,w',rfl⟩
 |halt x w'=>exact .inr (.inr ⟨x,w',rfl⟩)
theorem plain_u{P:Program}{o:Oper}(hd:∀c,o.op≠ .defer c)(h:∀ρ,∃s:Sem Unit,execOp ρ o=(do s;pure .skip)):PlainO P o:=by
 refine⟨hd,λρ w=>?_⟩;obtain⟨s,hs⟩:=h ρ;rw[hs];simp only[Sem.run_bind,Sem.run_pure];cases h:s.run P w with
 |ok v w'=>exact .inr (.inl ⟨w',rfl⟩)
 |halt x w'=>exact .inr (.inr ⟨x,w',rfl⟩)
def plainOp:Op→Bool
 |.move _|.assign _|.build ..|.load ..|.store ..|.binOp ..=>true
 |_=>false
theorem plain_of{P:Program}{o:Oper}(h:plainOp o.op=true):PlainO P o:=by
 have hd:∀c,o.op≠ .defer c:=by intro c e;rw[e]at h;cases h
 cases ho:o.op<;>rw[ho]at h<;>first|(cases h;done)|skip
 ·exact plain_v hd λρ=>⟨pure _,by unfold execOp;rw[ho];rfl⟩
 ·exact plain_v hd λρ=>⟨pure _,by unfold execOp;rw[ho];rfl⟩
 ·exact plain_v hd λρ=>⟨_,by unfold execOp;rw[ho]⟩
 ·exact plain_v hd λρ=>⟨_,by unfold execOp;rw[ho]⟩
 ·exact plain_u hd λρ=>⟨_,by unfold execOp;rw[ho]⟩
 ·exact plain_v hd λρ=>⟨_,by unfold execOp;rw[ho]⟩
theorem put_df(a:Act)(d:Option Tmp)(v:Value):(a.put d v).defers=a.defers:=by cases d<;>rfl
theorem wpOps_keep{ro:Option Nat}{P:Program}{ops:Array Oper}{Q Q':Exit→Act→World→Prop}{ds:List Deferred}(hops:∀o∈ops.toList,plainOp o.op=true)(hQ:∀e a w,Q e a w→a.defers=ds→Q' e a w) :
 ∀(l:List Nat) (a:Act) (w:World),a.defers=ds→wpOpsIn (wf ro) 0 P ops Q l a w→wpOpsIn (wf ro) 0 P ops Q' l a w
 | [],a,w,hd,h=>hQ _ _ _ h hd
 |i::rest,a,w,hd,h=>by
  unfold wpOpsIn at h⊢;split at h
  ·exact wpOps_keep hops hQ rest a w hd h
  ·rename_i o ho;have hp:=plain_of (P:=P) (hops o (by
    have:=Array.mem_of_getElem? ho;simpa using this))
   split at h
   ·rename_i hw;rw[if_pos hw];refine⟨h.1,?_⟩;have h2:=h.2;rw[wf_round,Oper.semAt_eq _ _ _ hp.1]at h2⊢;rcases hp.2 a.eval w with ⟨v,w',e⟩|⟨w',e⟩|⟨x,w',e⟩
    ·rw[e]at h2⊢;exact wpOps_keep hops hQ rest _ _ (by rw[put_df];exact hd) h2
    ·rw[e]at h2⊢;exact wpOps_keep hops hQ rest _ _ (by rw[put_df];exact hd) h2
    ·rw[e]at h2⊢;cases x<;>first|exact h2.elim|exact hQ _ _ _ h2 hd
   ·rename_i hw;rw[if_neg hw];exact⟨h.1,wpOps_keep hops hQ rest _ _ (by rw[put_df];exact hd) h.2⟩
theorem reg_keep{E:Env}(ok:EnvOk E)(hdr:DrOk E){M:List Fact}(hM:∀y∈M,FactOk E y){ro:Option Nat}{e:Entry}{N id:Nat}{ops:Array Oper}{F F1:Frm}{H H1:Heap}{log:List LogE}{Q:Exit→Act→World→Prop}
 (hops:∀o∈ops.toList,plainOp o.op=true)(hr:runD E false N (sem E M) ops.toList ops.toList [] F H=some (F1,H1,log)){I:Nat→Prop}{ρ:PMap}{a:Act}{w:World}(hnow:Now E e N F H I ρ a w)
 (hQ:∀I ρ a' w',Now E e N F1 H1 I ρ a' w'→a'.defers=a.defers→Q .normal a' w'):(Code.region id ops false).wpIn (wf ro) 0 E.P Q a w:=by
 refine wpIn_region ?_;have hl:List.range ops.size=List.range' 0 ops.toList.length++[]:=by rw[List.range_eq_range',List.append_nil,Array.length_toList]
 rw[hl];refine wpOps_keep (Q:=λex a w=>ex = .normal∧∃I ρ,Now E e N F1 H1 I ρ a w) hops ?_ _ a w rfl (runOps_pre ok (sem_ok ok hdr hM) (k:=λF H=>some (F,H)) (r:=(F1,H1)) (tl:=[]) ?_ ops.toList 0 [] F H I ρ a w ⟨[],by simp⟩ hnow (by rw[runOps_runD,hr];rfl))
 ·rintro ex a' w' ⟨rfl,I,ρ,hn⟩ hd
  exact hQ I ρ a' w' hn hd
 ·intro F2 H2 I2 ρ2 a2 w2 hn2 hk;cases hk;exact⟨rfl,_,_,hn2⟩
end Go.Ax
/- AxDfr: a function that defers a closure, laid once, before the code that may panic. -/
namespace Go.Ax
theorem leaves_marksG{P:Program}{n:Nat}{F:Fence}{fn:Func}{tmps:Array Value}{R:Ending→World→Prop}{u:FrameMode}(hu:u≠ .run){ds:List Deferred}:∀(rs:List Nat) (w:World),rs.Nodup→(∀r∈rs,w.heap[r]?=some (.deferred (some [])))→
 LeavesInM F n P fn tmps R ds u (shutAll rs w)→LeavesInM F n P fn tmps R (rs.map (λr=>(⟨.collected r,#[]⟩:Deferred))++ds) u w
 | [],w,_,_,h=>by simpa[shutAll]using h
 |r::rs,w,hnd,hr,h=>by simp only[List.map_cons,List.cons_append,LeavesInM];refine⟨hu,.inl ⟨r,w.putObj r (.deferred none),rfl,run_takeDeferred (hr r (by simp)),?_⟩⟩;have hnd:=List.nodup_cons.1 hnd;refine leaves_marksG hu rs _ hnd.2 (λq hq=>?_) h;have hne:q≠r:=λe=>hnd.1 (by rw[←e];exact hq);rw[World.putObj_heap_other hne];exact hr q (by simp[hq])
section
variable {E:Env}(ok:EnvOk E)(hdr:DrOk E){M:List Fact}(hM:∀y∈M,FactOk E y){ro:Option Nat}{e:Entry}{N:Nat}
include ok hdr hM
theorem dfr_reg{id:Nat}{o1 o2:Oper}{d:Nat}{g:FuncId}{caps:Array Operand}{ats:Array TypeId}(h1:o1.op = .makeFunc (.func g) #[] caps)(hd1:o1.dst=some d)(hg1:o1.guard=none)(h2:o2.op = .defer ⟨.value (.tmp d),#[],ats⟩)(hd2:o2.dst=none)(hg2:o2.guard=none)
 (hdN:dstOk N (some d)=true){F:Frm}{H:Heap}{Q:Exit→Act→World→Prop}{I:Nat→Prop}{ρ:PMap}{a:Act}{w:World}(hnow:Now E e N F H I ρ a w)
 (hQ:∀I1 ρ1 a1 w1 cs,Now E e N ((d,.func (.func g) [] (caps.toList.map (opv E F)))::F) H I1 ρ1 a1 w1→VRels I1 w1 ρ1 (caps.toList.map (opv E F)) cs→Q .normal { a1 with defers:=⟨.fn (.func g) cs.toArray,#[]⟩::a1.defers } w1) :
 (Code.region id #[o1,o2] false).wpIn (wf none) 0 E.P Q a w:=by
 refine wpIn_region ?_;show wpOpsIn (wf none) 0 E.P #[o1,o2] Q [0,1] a w;refine wpOps_here (i:=0) (o:=o1) rfl (by simp[Region.wanted,hg1]) ?_;have hs:stepOp E false (sem E M) F H o1.op=some (.func (.func g) [] (caps.toList.map (opv E F)),H,⟨[],[]⟩):=by rw[h1,st_makeFunc];rfl
 refine stepOp_ok ok (sem_ok ok hdr hM) hnow hs (by rw[hd1];exact hdN) ?_;intro I1 ρ1 a1 w1 hn1;rw[hd1]at hn1;have hn1:Now E e N ((d,.func (.func g) [] (caps.toList.map (opv E F)))::F) H I1 ρ1 a1 w1:=hn1;have hv:VRel I1 w1 ρ1 (.func (.func g) [] (caps.toList.map (opv E F))) (a1.eval (.tmp d)):=by
  have h0:=hn1.frm.2 d;have e0:getF ((d,AV.func (.func g) [] (caps.toList.map (opv E F)))::F) d = .func (.func g) [] (caps.toList.map (opv E F)):=by simp[getF]
  rw[e0]at h0;exact h0
 simp only[VRel,VRels]at hv;obtain⟨fs,cs,hve,hfs,hcs⟩:=hv;have hfs:fs = #[]:=by apply Array.ext';simpa using hfs
 subst hfs;show wpOpsIn (wf none) 0 E.P #[o1,o2] Q [1] a1 w1;unfold wpOpsIn;have ho:(#[o1,o2]:Array Oper)[1]?=some o2:=rfl;simp only[ho];rw[if_pos (by simp[Region.wanted,hg2])];refine⟨λf _=>wf_fn none f,?_⟩;have hrun:(o2.semAt (wf none).round a1.eval).run E.P w1 = .ok (.defer ⟨.fn (.func g) cs,#[]⟩) w1:=by rw[wf_round,Oper.semAt_none];unfold execOp;rw[h2];simp[resolve,hve,Deferred.ofValue]
 rw[hrun];have:=hQ I1 ρ1 a1 w1 cs.toList hn1 hcs;simpa[Oper.uponIn,hd2,Act.put,wpOpsIn]using this
end
theorem shut_ext{G:GTab (List AV)}{I I0 K:Nat→Prop}{ρ:PMap}{h:FHeap}{w0 w:World}{rs:List Nat}(hx:Ext I0 K w0 w)(hI:∀c,I0 c∨K c→c<w0.heap.size)(hr:HRel G I K ρ h w)(q:∀r∈rs,I r∧w0.heap.size≤r∧w.heap[r]?=some (.deferred (some []))) :
 HRel G I K ρ h (shutAll rs w)∧Ext I0 K w0 (shutAll rs w):=by
 obtain⟨s1,s2,s3,s4,s5⟩:=shutAll_rest rs w;refine⟨HRel.shut hr (S:=(·∈rs)) (λc hc=>⟨(q c hc).1,_,(q c hc).2.2⟩) s1 s5,by rw[s3];exact hx.os,by rw[s2];exact hx.tape,by rw[s4];exact hx.output,by rw[s1];exact hx.size,λc hc=>?_⟩;have hlt:=hI c hc;rw[s5 c (λhm=>by have h:w0.heap.size≤c:=(q c hm).2.1;omega)];exact hx.keep c hc
end Go.Ax
/- AxDfg: a function that defers one closure, laid once, where nothing panics. -/
namespace Go.Ax
def QuietD(E:Env)(gc:FuncId)(k:Nat):Prop:=∀{I K:Nat→Prop} {ρ:PMap} {w:World} {H:Heap} {cs:List Value},HRel E.G I K ρ (HeapF H) w→NRel ρ H.length→cs.length=k→
 CallsDIn Fence.wide 0 E.P gc cs.toArray .returning w λen u' w'=>en = .returned (.tuple #[])∧u' = .returning∧∃I' ρ',(∀c,I c→I' c)∧(∀b,b<H.length→ρ' b=ρ b)∧Ext I K w w'∧HRel E.G I' K ρ' (HeapF H) w'∧NRel ρ' H.length
end Go.Ax
/- AxDfh: a function that defers one closure which does nothing where nothing panics: its run by the evaluator, and that it is sound. -/
namespace Go.Ax
def mkOf(o:Oper):Option (Nat×FuncId×Array Operand):=match o.op,o.dst,o.guard with
 |.makeFunc (.func gc) bs caps,some d,none=>bif Nat.beq bs.size 0 then some (d,gc,caps)else none
 |_,_,_=>none
def dfOf(o:Oper):Option Nat:=match o.op,o.dst,o.guard with
 |.defer c,none,none=>match c.callee with
  |.value (.tmp d)=>bif Nat.beq c.args.size 0 then some d else none
  |_=>none
 |_,_,_=>none
theorem mkOf_ok{o:Oper}{d:Nat}{gc:FuncId}{caps:Array Operand}(h:mkOf o=some (d,gc,caps)):o.op = .makeFunc (.func gc) #[] caps∧o.dst=some d∧o.guard=none:=by
 obtain⟨dst,op,x3,x4,x5,g⟩:=o;unfold mkOf at h;dsimp only at h⊢;cases op with
 |makeFunc f bs cs=>
  cases f with
  |func gf=>
   cases dst with
   |none=>simp at h
   |some dd=>
    cases g with
    |some _=>simp at h
    |none=>
     simp only[cond_eq_ite]at h;split at h
     ·rename_i hb;cases h;have:bs = #[]:=Array.eq_empty_of_size_eq_zero (Nat.eq_of_beq_eq_true hb);subst this;exact⟨rfl,rfl,rfl⟩
     ·cases h
  |_=>simp at h
 |_=>simp at h
theorem dfOf_ok{o:Oper}{d:Nat}(h:dfOf o=some d):∃ats,o.op = .defer ⟨.value (.tmp d),#[],ats⟩∧o.dst=none∧o.guard=none:=by
 obtain⟨dst,op,x3,x4,x5,g⟩:=o;unfold dfOf at h;dsimp only at h⊢;cases op with
 |defer c=>
  obtain⟨cl,as,ats⟩:=c;cases dst with
  |some _=>simp at h
  |none=>
   cases g with
   |some _=>simp at h
   |none=>
    cases cl with
    |value v=>
     cases v with
     |tmp dd=>
      simp only[cond_eq_ite]at h;split at h
      ·rename_i hb;cases h;have:as = #[]:=Array.eq_empty_of_size_eq_zero (Nat.eq_of_beq_eq_true hb);subst this;exact⟨ats,rfl,rfl,rfl⟩
      ·cases h
     |_=>simp at h
    |_=>simp at h
 |_=>simp at h
def dfrOps:List Oper→Option (Nat×FuncId×Array Operand)
 | [o1,o2]=>match mkOf o1,dfOf o2 with
  |some x,some d'=>bif Nat.beq x.1 d' then some x else none
  |_,_=>none
 |_=>none
theorem dfrOps_ok{l:List Oper}{d:Nat}{gc:FuncId}{caps:Array Operand}(h:dfrOps l=some (d,gc,caps)):∃(o1 o2:Oper) (ats:Array TypeId),l=[o1,o2]∧o1.op = .makeFunc (.func gc) #[] caps∧o1.dst=some d∧o1.guard=none∧o2.op = .defer ⟨.value (.tmp d),#[],ats⟩∧o2.dst=none∧o2.guard=none:=by
 cases l with
 |nil=>cases h
 |cons o1 r=>
  cases r with
  |nil=>cases h
  |cons o2 r=>
   cases r with
   |cons o3 r=>cases h
   |nil=>
    simp only[dfrOps]at h;cases h1:mkOf o1 with
    |none=>rw[h1]at h;cases h
    |some x=>
     cases h2:dfOf o2 with
     |none=>rw[h1,h2]at h;cases h
     |some d'=>
      rw[h1,h2]at h;simp only[cond_eq_ite]at h;split at h
      ·rename_i hdd;have hdd:=Nat.eq_of_beq_eq_true hdd;obtain⟨d0,gc0,caps0⟩:=x;simp only[Option.some.injEq,Prod.mk.injEq]at h;obtain⟨rfl,rfl,rfl⟩:=h;dsimp only at hdd;subst hdd;obtain⟨a1,a2,a3⟩:=mkOf_ok h1;obtain⟨ats,b1,b2,b3⟩:=dfOf_ok h2;exact⟨o1,o2,ats,rfl,a1,a2,a3,b1,b2,b3⟩
      ·cases h
def aevD(E:Env)(m0 N:Nat)(keep:Nat→List Nat)(call:FuncId→List AV→Heap→Option (AV×Heap))(lf:Nat)(qd:FuncId→Nat→Bool):Code→Frm→Heap→Option (Frm×Heap)
 |.seq (.region id ops false) b,F,H=>match dfrOps ops.toList with
  |some (d,gc,caps)=>bif Nat.blt d N&&qd gc caps.size then aevC E H.length N keep call lf 0 b ((d,.func (.func gc) [] (caps.toList.map (opv E F)))::F) H λe F5 H5=>match e with
   |.exit _=>none
   |_=>some (F5,H5)
   else none
  |none=>aevC E m0 N keep call lf 0 (.region id ops false) F H λe F1 H1=>match e with
   |.normal=>aevD E m0 N keep call lf qd b F1 H1
   |_=>none
 |.seq a b,F,H=>aevC E m0 N keep call lf 0 a F H λe F1 H1=>match e with
  |.normal=>aevD E m0 N keep call lf qd b F1 H1
  |_=>none
 |_,_,_=>none
def cellF(F:Frm)(n:Nat):List ResultVar→Frm
 | []=>[]
 |.cell a _::r=>match getF F a with
  |.ptr b 0 0=>bif Nat.blt b n then(a,.ptr b 0 0)::cellF F n r else cellF F n r
  |_=>cellF F n r
 |.tmp _::r=>cellF F n r
def evalD(E:Env)(call:FuncId→List AV→Heap→Option (AV×Heap))(lf:Nat)(qd:FuncId→Nat→Bool)(g:FuncId)(args:List AV)(H:Heap):Option (AV×Heap):=match E.fn g with
 |some i=>bif Nat.ble args.length i.ntmps then match aevD E H.length i.ntmps (E.keep g) call lf qd i.code (entryF 0 args) H with
  |some (F5,H5)=>match aresults E (cellF F5 H5.length i.results) H5 i.results with
   |some vs=>finish (E.thaw g) H.length (oneOf vs) H5
   |none=>none
  |none=>none
  else none
 |none=>none
theorem cellF_get(F:Frm)(n:Nat):∀(rs:List ResultVar) (s:Nat),getF (cellF F n rs) s = .junk∨∃b,getF (cellF F n rs) s = .ptr b 0 0∧b<n∧getF F s = .ptr b 0 0
 | [],s=>.inl rfl
 |.tmp t::r,s=>by rw[cellF];exact cellF_get F n r s
 |.cell a t::r,s=>by
  rw[cellF];split
  ·rename_i b hb;rw[cond_eq_ite];split
   ·rename_i hlt;simp only[getF,nbeq];by_cases h:a=s
    ·subst h;exact .inr ⟨b,by simp,by simpa using hlt,hb⟩
    ·have:(a==s)=false:=beq_eq_false_iff_ne.2 h;rw[this];exact cellF_get F n r s
   ·exact cellF_get F n r s
  ·exact cellF_get F n r s
section
variable {E:Env}(ok:EnvOk E)(hdr:DrOk E){call:FuncId→List AV→Heap→Option (AV×Heap)}(hcall:CallsOk E call){lf N:Nat}{g:FuncId}{fn:Func}{e0:Entry}(hb0:e0.base=[])(hK0:∀c,e0.I c∨e0.K c→c<e0.w.heap.size)
 {qd:FuncId→Nat→Bool}(hq:∀gc k,qd gc k=true→(E.fn gc).isSome=true∧QuietD E gc k){F5:Frm}{H5:Heap}{vs:List AV}(hvs:aresults E (cellF F5 H5.length fn.results.toList) H5 fn.results.toList=some vs){z:Bool}{v:AV}{Hf:Heap}(hfin:finish z e0.m (oneOf vs) H5=some (v,Hf))
 {R:Ending→World→Prop}(hR:∀w' c I' ρ',Ret E e0.I e0.K e0.ρ e0.m e0.w I' ρ' Hf w'→VRel I' w' ρ' v c→R (.returned c) w')
include ok hdr hcall hb0 hK0 hq hvs hfin hR
theorem aevD_dfr{id:Nat}{ops:Array Oper}{b:Code}{d:Nat}{gc:FuncId}{caps:Array Operand}(ho:dfrOps ops.toList=some (d,gc,caps))(hd:Nat.blt d N=true)(hqd:qd gc caps.size=true)(hcd:drawsAt false b=true)(hrf:RFOk E g N (E.keep g) none 0 b){F:Frm}{H:Heap}
 (hrun:aevC E H.length N (E.keep g) call lf 0 b ((d,.func (.func gc) [] (caps.toList.map (opv E F)))::F) H (λe F5 H5=>match e with
  |.exit _=>none
  |_=>some (F5,H5))=some (F5,H5)){I:Nat→Prop}{ρ:PMap}{a:Act}{w:World}(hnow:Now E e0 N F H I ρ a w):(Code.seq (.region id ops false) b).wpIn (wf none) 0 E.P (bodyPostM Fence.wide 0 E.P fn R) a w:=by
 obtain⟨o1,o2,ats,hops,h1,hd1,hg1,h2,hd2,hg2⟩:∃(o1 o2:Oper) (ats:Array TypeId),ops = #[o1,o2]∧o1.op = .makeFunc (.func gc) #[] caps∧o1.dst=some d∧o1.guard=none∧o2.op = .defer ⟨.value (.tmp d),#[],ats⟩∧o2.dst=none∧o2.guard=none:=by obtain⟨o1,o2,ats,hl,hh⟩:=dfrOps_ok ho;exact⟨o1,o2,ats,by rw[←Array.toArray_toList (xs:=ops),hl],hh⟩
 subst hops;obtain⟨hgc,hqq⟩:=hq gc caps.size hqd;refine wpIn_seq (dfr_reg ok hdr (M:=[]) (λ_ h=>by cases h) h1 hd1 hg1 h2 hd2 hg2 (by simpa[dstOk]using hd) hnow ?_);intro I4 ρ4 a4 w4 cs hn4 hcs;show Code.wpIn _ _ _ _ _ _ _
 let e1:Entry:=⟨I4,e0.K,ρ4,H.length,w4,⟨.fn (.func gc) cs.toArray,#[]⟩::a4.defers⟩
 have hnow1:Now E e1 N ((d,.func (.func gc) [] (caps.toList.map (opv E F)))::F) H I4 ρ4 { a4 with defers:=⟨.fn (.func gc) cs.toArray,#[]⟩::a4.defers } w4:=⟨λ_ h=>h,λ_ _=>rfl,Ext.refl _ _ _,hn4.rel,hn4.nrel,hn4.frm,Nat.le_refl _,Marks.nil⟩
 refine code_ok ok hcall _ hcd hrf ?_ hnow1 hrun;intro ex F6 H6 I5 ρ5 a5 w5 hn5 hk;obtain⟨hex,rfl,rfl⟩:(ex = .ret∨ex = .normal)∧F6=F5∧H6=H5:=by
  cases ex with
  |exit _=>cases hk
  |ret=>cases hk;exact⟨.inl rfl,rfl,rfl⟩
  |normal=>cases hk;exact⟨.inr rfl,rfl,rfl⟩
 obtain⟨rs,q1,q2,q3⟩:=hn5.marks;have hgoal:LeavesInM Fence.wide 0 E.P fn a5.tmps R a5.defers .returning w5→bodyPostM Fence.wide 0 E.P fn R ex.conv a5 w5:=λh=>by rcases hex with rfl|rfl<;>exact h
 refine hgoal ?_;rw[q1];refine leaves_marksG (by simp) rs w5 q2 (λr hr=>(q3 r hr).2.2) ?_;obtain⟨r6,x6⟩:=shut_ext hn5.ext (λc hc=>hc.elim (hn4.rel.imm c) (hn4.rel.kept c)) hn5.rel q3;have hlc:cs.length=caps.size:=by have:=VRels.length hcs;simp at this;exact this.symm
 show LeavesInM _ _ _ _ _ _ (⟨.fn (.func gc) cs.toArray,#[]⟩::a4.defers) _ _;unfold LeavesInM;refine⟨by simp,.inr ⟨λh=>(by cases h),.func gc,cs.toArray,gc,cs.toArray,rfl,?_,λ_ _=>trivial,?_⟩⟩
 ·show(callFunc gc (#[]++cs.toArray)).run E.P _=_;rw[callFunc_enter ok hgc];simp
 refine CallsDIn.mono (hqq r6 hn5.nrel hlc) ?_
 rintro en u' w7 ⟨rfl,rfl,I7,ρ7,i7,m7,x7,r7',n7⟩
 show LeavesInM _ _ _ _ _ _ a4.defers .returning w7;obtain⟨rs0,p1,p2,p3⟩:=hn4.marks;rw[p1,hb0,List.append_nil];have hk7:∀c,I4 c→w7.heap[c]?=w4.heap[c]?:=λc hc=>(x7.keep c (.inl (hn5.imm c hc))).trans (x6.keep c (.inl hc));have x8:Ext e0.I e0.K e0.w w7:=hn4.ext.trans hn4.imm (x6.trans hn5.imm x7);have p4:∀r∈rs0,I7 r∧e0.w.heap.size≤r∧w7.heap[r]?=some (.deferred (some [])):=λr hr=>⟨i7 r (hn5.imm r (p3 r hr).1),(p3 r hr).2.1,(hk7 r (p3 r hr).1).trans (p3 r hr).2.2⟩
 obtain⟨r9,x9⟩:=shut_ext x8 hK0 r7' p4;refine leaves_marks rs0 w7 p2 (λr hr=>(p4 r hr).2.2) ?_;have hpt:∀{b:Nat} {c:Value} {I' I'':Nat→Prop} {u u':World} {ρ' ρ'':PMap},VRel I' u ρ' (.ptr b 0 0) c→ρ'' b=ρ' b→VRel I'' u' ρ'' (.ptr b 0 0) c:=by intro b c I' I'' u u' ρ' ρ'' h hb;simp only[VRel]at h⊢;obtain⟨m,hm,rfl⟩:=h;exact⟨m,by rw[hb];exact hm,rfl⟩
 have hlo:H.length≤H6.length:=hn5.low;have hlo0:e0.m≤H.length:=hn4.low;obtain⟨c,hrun,hv⟩:=results_ok (fn:=fn) (tmps:=a5.tmps) (F:=cellF F6 H6.length fn.results.toList) ok r9 (λs=>by
  rcases cellF_get F6 H6.length fn.results.toList s with hj|⟨b,hb1,hb2,hb3⟩
  ·rw[hj];simp[VRel]
  ·rw[hb1];have:=hn5.frm.2 s;rw[hb3]at this;exact hpt this (m7 b hb2)) hvs
 obtain⟨I8,ρ8,f1,g2,g3,g4,g5,g6⟩:=finish_ok hfin (by omega) r9 n7 hv;refine⟨c,hrun,hR _ c I8 ρ8 ⟨λc hc=>f1 c (i7 c (hn5.imm c (hn4.imm c hc))),λb hb=>?_,x9,g3,g4,g5⟩ g6⟩;exact(g2 b hb).trans ((m7 b (Nat.lt_of_lt_of_le hb (Nat.le_trans hlo0 hlo))).trans ((hn5.map b (show b<H.length from Nat.lt_of_lt_of_le hb hlo0)).trans (hn4.map b hb)))
theorem aevD_ok:∀(c:Code) {F:Frm} {H:Heap},aevD E e0.m N (E.keep g) call lf qd c F H=some (F5,H5)→drawsAt false c=true→RFOk E g N (E.keep g) none 0 c→∀{I:Nat→Prop} {ρ:PMap} {a:Act} {w:World},Now E e0 N F H I ρ a w→c.wpIn (wf none) 0 E.P (bodyPostM Fence.wide 0 E.P fn R) a w:=by
 intro c;have step:∀(a b:Code),(∀{F:Frm} {H:Heap},aevD E e0.m N (E.keep g) call lf qd b F H=some (F5,H5)→drawsAt false b=true→RFOk E g N (E.keep g) none 0 b→∀{I:Nat→Prop} {ρ:PMap} {a:Act} {w:World},Now E e0 N F H I ρ a w→b.wpIn (wf none) 0 E.P (bodyPostM Fence.wide 0 E.P fn R) a w)→
  ∀{F:Frm} {H:Heap},aevC E e0.m N (E.keep g) call lf 0 a F H (λe F1 H1=>match e with
   |.normal=>aevD E e0.m N (E.keep g) call lf qd b F1 H1
   |_=>none)=some (F5,H5)→drawsAt false (.seq a b)=true→RFOk E g N (E.keep g) none 0 (.seq a b)→∀{I:Nat→Prop} {ρ:PMap} {act:Act} {w:World},Now E e0 N F H I ρ act w→(Code.seq a b).wpIn (wf none) 0 E.P (bodyPostM Fence.wide 0 E.P fn R) act w:=by
  intro a b ih F H h hd hrf I ρ act w hnow;simp only[drawsAt,Bool.and_eq_true]at hd;refine wpIn_seq (code_ok ok hcall a hd.1 hrf.seq1 ?_ hnow h);intro y F2 H2 I ρ act w hn hk;cases y with
  |exit _=>cases hk
  |ret=>cases hk
  |normal=>exact ih hk hd.2 hrf.seq2 hn
 induction c with
 |seq a b iha ihb=>
  intro F H h hd hrf I ρ act w hnow;unfold aevD at h;split at h
  ·rename_i id ops b' F' H' heq;cases heq;split at h
   ·rename_i d gc caps ho;rw[cond_eq_ite]at h;split at h
    ·rename_i hc;rw[Bool.and_eq_true]at hc;simp only[drawsAt,Bool.and_eq_true]at hd;exact aevD_dfr ok hdr hcall hb0 hK0 hq hvs hfin hR ho hc.1 hc.2 hd.2 hrf.seq2 h hnow
    ·cases h
   ·exact step _ _ ihb h hd hrf hnow
  ·rename_i a' b' F' H' _ heq;cases heq;exact step _ _ ihb h hd hrf hnow
  ·cases h
 |_=>intro F H h;unfold aevD at h;cases h
end
theorem evalD_ok{E:Env}(ok:EnvOk E)(hdr:DrOk E){call:FuncId→List AV→Heap→Option (AV×Heap)}(hcall:CallsOk E call){lf:Nat}{qd:FuncId→Nat→Bool}(hq:∀gc k,qd gc k=true→(E.fn gc).isSome=true∧QuietD E gc k)(g:FuncId):FunOk E g (evalD E call lf qd g):=by
 intro args H v H' h I K ρ w cargs rel hn ha;unfold evalD at h;split at h
 case h_2=>cases h
 rename_i i hi;rw[cond_eq_ite]at h;split at h
 case isFalse=>cases h
 rename_i hle;split at h
 case h_2=>cases h
 rename_i F5 H5 hrun;split at h
 case h_2=>cases h
 rename_i vs hvs;obtain⟨fn,h1,h2,h3,h4,_⟩:=ok.fn g i hi;rw[XOf_fn (fn_ne ok hi)];refine callsIn_wide.1 (callsIn_of_wp_marks (F:=Fence.wide) (n:=0) h1 h2 trivial ?_);rw[h3]
 let e0:Entry:=⟨I,K,ρ,H.length,w,[]⟩
 have hnow:Now E e0 i.ntmps (entryF 0 args) H I ρ { tmps:=cargs.toArray++Array.replicate (i.ntmps-cargs.toArray.size) undef,defers:=[] } w:=⟨λ_ h=>h,λ_ _=>rfl,Ext.refl _ _ _,rel,hn,entry_frm (by simpa[Nat.ble_eq]using hle) ha,Nat.le_refl _,Marks.nil⟩
 refine aevD_ok (e0:=e0) ok hdr hcall rfl (λc hc=>hc.elim (rel.imm c) (rel.kept c)) hq (fn:=fn) (by rw[h4];exact hvs) h (λw' c I' ρ' r hv=>⟨c,I',ρ',rfl,r,hv⟩) i.code hrun (hdr.draws g i hi) (hdr.code hi) hnow
end Go.Ax
