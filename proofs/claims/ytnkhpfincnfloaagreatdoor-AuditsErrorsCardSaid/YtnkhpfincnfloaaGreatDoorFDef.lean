/- Part of a proof. No condition. -/
import Derived.Test.YtnkhpfincnfloaaGreatDoorFIn
import Derived.Test.YtnkhpfincnfloaaGreatDoorAxE
import Derived.Recover
import Derived.RecoverIn
import Derived.BigFrame
set_option linter.unusedSimpArgs false
set_option linter.unusedVariables false
namespace Go.FInst
open Go.Proofs Go.Ax
set_option maxRecDepth 100000
theorem noF0:∀y∈([]:List Fact),FactOk L.env y:=by intro y hy;cases hy
theorem abin_ni:abin L.env .neq 20 .nilifc .nilifc true=some (.bool false):=by kernel_rfl
theorem opv_ni(F:Frm):opv L.env F (.const .nilIface) = .nilifc:=by rfl
theorem isc_ni:(isConstOp (.tmp 6)||isConstOp (.const .nilIface))=true:=by rfl
/- the closure that a search defers, where nothing panics -/
theorem df_reg(c0 c1:Value)(cf:Frame)(cs:List Frame)(w:World)(hu:cf.mode = .returning){Q:Exit→Act→List Frame→World→Prop}
 (hQ:∀t:Array Value,t.size=24→t.getD 2 undef = .nilIface→Q .normal ⟨t,[]⟩ (cf::cs) w) :
 (match(Tryz.f176.body.getD .skip)with|.seq a b=>a|c=>c).wpSIn Fence.wide 0 Tryz.prog Q { tmps:=#[c0,c1]++Array.replicate 22 undef,defers:=[] } (cf::cs) w:=by
 simp only[Tryz.f176,gS];refine wpSIn_region ?_;simp[wpOpsSIn,go_sem,recoverD,hu];exact hQ _ (by simp) (by kernel_rfl)
theorem df_ok:QuietD L.env 176 2:=by
 intro I K ρ w H cs r hn hl;obtain⟨c0,c1,rfl⟩:∃c0 c1,cs=[c0,c1]:=by
  match cs,hl with
  | [a,b],_=>exact⟨a,b,rfl⟩
 have hfn:L.env.fn 176=some ⟨Tryz.f176.body.getD .skip,24,[]⟩:=by kernel_rfl
 refine callsDIn_of_wpSIn (fn:=Tryz.f176) (c:=Tryz.f176.body.getD .skip) (by kernel_rfl) rfl trivial ?_;intro cf cs hu;have hreg:=λQ=>df_reg (Q:=Q) c0 c1 cf cs w hu;simp only[Tryz.f176,gS]at hreg⊢;refine wpSIn_seq (hreg _ ?_);intro t hsz g2;refine wpSIn_of_wpIn rfl ?_
 let ent:Entry:=⟨I,K,ρ,H.length,w,[]⟩
 have hnow:Now L.env ent 24 [(2,.nilifc)] H I ρ ⟨t,[]⟩ w:=by
  refine⟨λ_ h=>h,λ_ _=>rfl,Ext.refl _ _ _,r,hn,⟨hsz,λs=>?_⟩,Nat.le_refl _,Marks.nil⟩;simp only[getF];by_cases e2:s=2
  ·subst e2;show VRel I w ρ .nilifc _;rw[g2];simp[VRel]
  have hj:∀k,k≠s→Nat.beq k s=false:=λk hk=>by rw[←Bool.not_eq_true,Nat.beq_eq];exact hk
  simp only[hj 2 (Ne.symm e2),cond_false];simp[VRel]
 refine wpIn_seq (reg_keep ok dr noF0 (ro:=none) (F1:=(7,.bool false)::_) (by simp[plainOp]) (by simp+decide only[go_sem,opv_ni,isc_ni,abin_ni];rfl) hnow ?_);intro I1 ρ1 a1 w1 hn1 hd1;show Code.wpIn _ _ _ _ _ _ _;have h7:VRel I1 w1 ρ1 (.bool false) (a1.tmps.getD 7 undef):=hn1.frm.2 7;simp only[VRel]at h7;refine wpIn_cond_false h7 (wpIn_skip ?_);refine⟨hd1,_,rfl,.tuple #[],by simp[results],rfl,hu,I1,ρ1,hn1.imm,hn1.map,hn1.ext,hn1.rel,hn1.nrel⟩
/-- Which closures may be deferred: that one. -/
def qdF(gc k:Nat):Bool:=Nat.beq gc 176&&Nat.beq k 2
theorem qdF_ok:∀gc k,qdF gc k=true→(L.env.fn gc).isSome=true∧QuietD L.env gc k:=by intro gc k h;unfold qdF at h;rw[Bool.and_eq_true]at h;have h1:=Nat.eq_of_beq_eq_true h.1;have h2:=Nat.eq_of_beq_eq_true h.2;subst h1;subst h2;exact⟨by kernel_rfl,df_ok⟩
/-- Calls, a search's run by the evaluator of functions that defer. -/
noncomputable def callD(M:List Fact)(n:Nat)(g:FuncId)(args:List AV)(H:Heap):Option (AV×Heap):=bif Nat.beq g 130 then evalD L.env (mcall L.env M n) n qdF g args H else mcall L.env M n g args H
theorem callD_ok{M:List Fact}(hM:∀x∈M,FactOk L.env x)(n:Nat):CallsOk L.env (callD M n):=by
 intro g;unfold callD;cases h:Nat.beq g 130 with
 |true=>simp only[cond_true];exact evalD_ok ok dr (mcall_ok ok dr hM n) qdF_ok g
 |false=>simp only[cond_false];exact mcall_ok ok dr hM n g
theorem fact_ofD{M:List Fact}(hM:∀x∈M,FactOk L.env x)(n:Nat){g:Nat}{args:List AV}{v:AV}(h:runFn L.env (callD M n) n g args []=some (v,[])) :
 FactOk L.env ⟨g,args,v⟩:=runFn_ok ok dr (callD_ok hM n) n g args [] v [] h
end Go.FInst
