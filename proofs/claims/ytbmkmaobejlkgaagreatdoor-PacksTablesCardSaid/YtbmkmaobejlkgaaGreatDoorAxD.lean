/- AxTop: a call from outside: a48 old block is immutable. -/
import Derived.Test.YtbmkmaobejlkgaaGreatDoorAxC
import Derived.Below
import GoSem.ClaimChange
import GoSem.ClaimJoined
import Derived.RowKit
import Derived.ChangeSame
import Derived.Carry
import Derived.IntWalk
import Derived.KernelRfl
set_option linter.unusedSimpArgs false
set_option linter.unusedVariables false
namespace Go.Ax
open Go.RowKit
def Old(w:World):Nat→Prop:=λc=>c<w.heap.size
def Holds(E:Env)(w:World):Prop:=∀g cs,E.G g=some cs→g<w.heap.size∧VAt (Old w) w noP cs g 0
theorem e3o{E:Env}{f:FuncId}{run:List AV→a02→Option (AV×a02)}(kd:f≠yId)(hf:b0d E f run){args:List AV}{v:AV}{H':a02}(h:run args []=some (v,H')){w:World}(hG:Holds E w){ak:List Value}(ha:VRels (Old w) w noP args ak) :
 Calls E.P f ak.toArray w λen w'=>∃c I' ρ',en = .returned c∧Below w.heap.size w w'∧VRel I' w' ρ' v c:=by
 have rel:HRel E.G (Old w) (λ_=>False) noP (a01 []) w:=by
  refine⟨?_,?_,?_,λc hc=>hc,λc hc=>hc.elim,λ_ _ h=>h,hG⟩
  ·intro b o hb;simp[a01]at hb
  ·intro b b' m m' hb;simp[a01]at hb
  ·intro b m hb;simp[noP]at hb
 have h0:=hf args [] v H' h (Old w) (λ_=>False) noP w ak rel (λ_ _=>rfl) ha;rw[b0b kd]at h0;refine Calls.mono h0 ?_
 rintro en w' ⟨c,I',ρ',rfl,aB,hv⟩
 exact⟨c,I',ρ',rfl,⟨aB.ext.os,aB.ext.tape,aB.ext.output,aB.ext.size,λk hk=>aB.ext.keep k (.inl hk)⟩,hv⟩
theorem d3c{E:Env}{f:FuncId}{run:List AV→a02→Option (AV×a02)}(kd:f≠yId)(hf:b0d E f run){args:List AV}{H':a02}(h:run args []=some (.bool true,H')){w:World}(hG:Holds E w){ak:List Value}(ha:VRels (Old w) w noP args ak) :
 Calls E.P f ak.toArray w λen w'=>en = .returned (.bool true)∧Below w.heap.size w w':=by
 refine(e3o kd hf h hG ha).mono ?_
 rintro en w' ⟨c,I',ρ',rfl,hb,hv⟩
 simp only[VRel]at hv;subst hv;exact⟨rfl,hb⟩
end Go.Ax
/- AxRead: what the row's reading of an argument gives: abstract values of the argument's type. -/
namespace Go.Ax
def Typ(E:Env):Nat→TypeId→List AV→Prop
 |0,_,_=>False
 |n+1,t,aM=>match E.und t with
  |some .bool=>∃b,aM=[.bool b]
  |some (.int k)=>∃i,aM=[.int k i]∧(Lit.int k i).wf=true
  |some .string=>∃s,aM=[.str s]∧s.length≤maxLen
  |some (.slice e)=>aM=[.nilslice]∨∃rows cap,aM=[.islice rows (some cap)]∧rows.length≤cap∧cap≤maxLen∧∀r∈rows,r.length=E.sz e∧Typ E n e r
  |some (.struct fs)=>∃aq:List (List AV),aM=aq.flatten∧aq.length=fs.toList.length∧∀(i:Nat) f p,fs.toList[i]?=some f→aq[i]?=some p→p.length=E.sz f.type∧Typ E n f.type p
  |some (.array m e)=>∃aq:List (List AV),aM=aq.flatten∧aq.length=m∧∀p∈aq,p.length=E.sz e∧Typ E n e p
  |_=>False
def c7y(E:Env):Nat→List Field→Option Nat
 |o,[]=>some o
 |o,f::r=>bif Nat.beq f.offset o then c7y E (o+E.sz f.type) r else none
def a50(E:Env):Nat→TypeId→Bool
 |0,_=>false
 |n+1,t=>match E.und t with
  |some .bool=>true
  |some (.int _)=>true
  |some .string=>true
  |some (.slice e)=>(E.und e).isSome&&Nat.blt 0 (E.sz e)&&a50 E n e
  |some (.struct fs)=>(match c7y E 0 fs.toList with|some m=>Nat.beq m (E.sz t)|none=>false)&&fs.toList.all (λf=>(E.und f.type).isSome&&a50 E n f.type)
  |some (.array m e)=>(E.und e).isSome&&Nat.beq (m*E.sz e) (E.sz t)&&a50 E n e
  |_=>false
section
variable {E:Env}{w:World}{H:Type}{enc:TypeId×Value→H}{base:Nat}{cC:Nat→Bool}{dq:Bool}
theorem a46(ok:EnvOk E){t:TypeId}{d:TypeDesc}(h:E.und t=some d):E.P.cellsOf t=E.sz t:=by obtain⟨_,i,hi,h1,_⟩:=ok.und t d h;simp[Program.cellsOf,hi,h1]
theorem c8o{I:Nat→Prop}{k:Nat}{b:Nat}{Pr:List AV→Prop}:∀(len off:Nat),(∀i,i<len→∃r,Pr r∧r.length=k∧VAt I w noP r b (off+i*k))→
 ∃rows:List (List AV),rows.length=len∧(∀r∈rows,r.length=k∧Pr r)∧VRows I w k noP rows b off
 |0,off,_=>⟨[],rfl,by simp,by simp[VRows]⟩
 |len+1,off,h=>by
  obtain⟨r,h1,h2,h3⟩:=h 0 (by omega);obtain⟨rows,g1,g2,g3⟩:=c8o (Pr:=Pr) len (off+k) (λi hi=>by obtain⟨r,q1,q2,q3⟩:=h (i+1) (by omega);refine⟨r,q1,q2,?_⟩;rw[show off+k+i*k=off+(i+1)*k by rw[f5o];omega];exact q3);refine⟨r::rows,by simp[g1],?_,?_⟩
  ·intro x hx;simp only[f2s]at hx;rcases hx with rfl|hx
   ·exact⟨h2,h1⟩
   ·exact g2 x hx
  ·simp only[VRows];exact⟨h2,by simpa using h3,g3⟩
theorem c3z{I:Nat→Prop}{cs:List Value}{n:Nat}:∀(fs:List Field) (o:Nat) {m:Nat},c7y E o fs=some m→m≤cs.length→
 (∀f∈fs,∃aM,VRels I w noP aM ((cs.drop f.offset).take (E.sz f.type))∧Typ E n f.type aM)→
 o≤m∧∃aq:List (List AV),aq.length=fs.length∧(∀(i:Nat) f p,fs[i]?=some f→aq[i]?=some p→p.length=E.sz f.type∧Typ E n f.type p)∧VRels I w noP aq.flatten ((cs.drop o).take (m-o))
 | [],o,m,ht,hm,_=>by simp only[c7y,Option.some.injEq]at ht;subst ht;exact⟨f1u _,[],rfl,by simp,by simp[VRels]⟩
 |f::r,o,m,ht,hm,h=>by
  simp only[c7y,cond_eq_ite]at ht;split at ht
  case isFalse=>cases ht
  rename_i dO;have dO:f.offset=o:=by simpa using dO
  obtain⟨bd,aq,h1,h2,h3⟩:=c3z r (o+E.sz f.type) ht hm (λg hg=>h g (by simp[hg]));obtain⟨aM,g1,g2⟩:=h f (by simp);rw[dO]at g1;have ai:aM.length=E.sz f.type:=by have:=VRels.length g1;rw[this];simp;omega
  refine⟨by omega,aM::aq,by simp[h1],?_,?_⟩
  ·intro i g p hg hp;cases i with
   |zero=>simp only[f1p,Option.some.injEq]at hg hp;subst hg;subst hp;exact⟨ai,g2⟩
   |succ i=>simp only[f1q]at hg hp;exact h2 i g p hg hp
  ·simp only[f4a];have:(cs.drop o).take (m-o)=(cs.drop o).take (E.sz f.type)++(cs.drop (o+E.sz f.type)).take (m-(o+E.sz f.type)):=by
    rw[show m-o=E.sz f.type+(m-(o+E.sz f.type)) by omega,List.take_add,List.drop_drop]
   rw[this];exact VRels.append g1 h3
theorem d8d{I:Nat→Prop}{cs:List Value}{n k:Nat}{e:TypeId}:∀(m o:Nat),o+m*k≤cs.length→
 (∀i,i<m→∃aM,VRels I w noP aM ((cs.drop (o+i*k)).take k)∧Typ E n e aM)→
 ∃aq:List (List AV),aq.length=m∧(∀p∈aq,p.length=k∧Typ E n e p)∧VRels I w noP aq.flatten ((cs.drop o).take (m*k))
 |0,o,_,_=>⟨[],rfl,by simp,by simp[VRels]⟩
 |m+1,o,hl,h=>by
  have l8:(m+1)*k=k+m*k:=by rw[f5o];omega
  obtain⟨aq,h1,h2,h3⟩:=d8d (cs:=cs) (k:=k) (e:=e) m (o+k) (by omega) (λi hi=>by obtain⟨aM,g1,g2⟩:=h (i+1) (by omega);refine⟨aM,?_,g2⟩;rw[show o+k+i*k=o+(i+1)*k by rw[f5o];omega];exact g1);obtain⟨aM,g1,g2⟩:=h 0 (by omega);rw[Nat.zero_mul,f6s]at g1;have ai:aM.length=k:=by have:=VRels.length g1;rw[this];simp;omega
  refine⟨aM::aq,by simp[h1],?_,?_⟩
  ·intro p hp;simp only[f2s]at hp;rcases hp with rfl|hp
   ·exact⟨ai,g2⟩
   ·exact h2 p hp
  ·simp only[f4a];rw[l8,List.take_add,List.drop_drop];exact VRels.append g1 h3
theorem b81{α β:Type}{f:α→Option β}{l:List α}{r:List β}(h:l.mapM f=some r):∀x∈l,∃y,f x=some y:=by
 induction l generalizing r with
 |nil=>simp
 |cons a l ih=>
  rw[List.mapM_cons]at h;intro x hx;cases gx:f a with
  |none=>simp[gx]at h
  |some y=>
   simp only[gx,Option.bind_eq_bind,f5m]at h;cases hl:l.mapM f with
   |none=>simp[hl]at h
   |some r'=>
    simp only[f2s]at hx;rcases hx with rfl|hx
    ·exact⟨y,gx⟩
    ·exact ih hl x hx
theorem b4r{I:Nat→Prop}{aM:List AV}{cs:List Value}{b off:Nat}(hc:∀i v,cs[i]?=some v→w.cell? ⟨b,off+i,none⟩=some v)(h:VRels I w noP aM cs):VAt I w noP aM b off:=VAt.of_cells (λi v hv=>hc i v hv) h
theorem c91(ok:EnvOk E):∀(n:Nat) (t:TypeId),a50 E n t=true→∀(aZ:Nat) (cs:List Value) (x:DataW H×List MemPlace),DataW.trod enc E.P w base cC dq aZ t cs=some x→
 ∃aM,VRels (Old w) w noP aM cs∧Typ E n t aM
 |0,t,hr=>by simp[a50]at hr
 |n+1,t,hr=>by
  intro aZ cs x h;cases aZ with
  |zero=>simp[DataW.trod]at h
  |succ aZ=>
  have ih:=c91 ok n;unfold a50 at hr;unfold DataW.trod at h;cases hu:E.und t with
  |none=>rw[hu]at hr;simp at hr
  |some d=>
   have hP:=(ok.und t d hu).1;have bJ:=a46 ok hu;rw[hu]at hr;rw[hP]at h;cases d<;>simp only[f3l]at hr
   case bool=>
    obtain⟨b,rfl⟩:∃b,cs=[.bool b]:=by split at h<;>simp_all
    exact⟨[.bool b],by simp[VRels,VRel],by simp[Typ,hu]⟩
   case int k=>
    obtain⟨i,rfl,hw⟩:∃i,cs=[.int k i]∧(Lit.int k i).wf=true:=by split at h<;>simp_all
    exact⟨[.int k i],by simp[VRels,VRel],by simp[Typ,hu,hw]⟩
   case string=>
    obtain⟨b,rfl,hw⟩:∃b:ByteArray,cs=[.string b]∧b.size≤maxLen:=by split at h<;>simp_all
    exact⟨[.str b.data.toList],by simp[VRels,VRel],by simp only[Typ,hu];exact⟨_,rfl,by simpa using hw⟩⟩
   case slice e=>
    simp only[e9l,f2p]at hr;obtain⟨⟨eA,e8⟩,lW⟩:=hr;obtain⟨de,bp⟩:=f0c.1 eA;have fW:=a46 ok bp;have bZ:cs=[.slice none 0 0]∨∃a len cap,cs=[.slice (some a) len cap]∧len≤cap∧cap≤maxLen∧
     ∃dP,((List.range len).mapM λi=>(w.cells? base (a.add (i*E.P.cellsOf e)) (E.P.cellsOf e)).bind (DataW.trod enc E.P w base cC dq aZ e))=some dP:=by
     split at h
     all_goals first|(rename_i cQ;cases cQ;done)|(cases h;done)|skip
     ·left;rfl
     ·rename_i e' a len cap cQ;cases cQ;dsimp only at h;split at h
      case isFalse=>cases h
      rename_i hc;right;refine⟨a,len,cap,rfl,hc.2.1,hc.2.2,?_⟩;cases hm:((List.range len).mapM λi=>(w.cells? base (a.add (i*E.P.cellsOf e)) (E.P.cellsOf e)).bind (DataW.trod enc E.P w base cC dq aZ e))with
      |none=>rw[hm]at h;simp at h
      |some dP=>exact⟨dP,rfl⟩
    rcases bZ with rfl|⟨a,len,cap,rfl,ma,dv,dP,jE⟩
    ·exact⟨[.nilslice],by simp[VRels,VRel],by simp only[Typ,hu];exact .inl trivial⟩
    ·have gM:∀i,i<len→∃r,Typ E n e r∧r.length=E.sz e∧VAt (Old w) w noP r a.block (a.off+i*E.sz e)∧a.spot=none∧a.block<w.heap.size:=by
      have aW:∀i,i<len→∃aJ y,aJ.length=E.sz e∧(∀j,j<E.sz e→w.cell? ((a.add (i*E.sz e)).add j)=aJ[j]?)∧DataW.trod enc E.P w base cC dq aZ e aJ=some y:=by
       intro i hi;obtain⟨y,hy⟩:=b81 jE i (by simpa using hi);rw[fW]at hy;cases hc:w.cells? base (a.add (i*E.sz e)) (E.sz e)with
       |none=>rw[hc]at hy;simp at hy
       |some aJ=>rw[hc]at hy;obtain⟨_,h2,h3⟩:=World.cells?_some hc;exact⟨aJ,y,h2,h3,by simpa using hy⟩
      intro i hi;have eI:a.spot=none∧a.block<w.heap.size:=by
       obtain⟨cs0,y0,h1,h2,_⟩:=aW 0 (by omega);have h3:=h2 0 e8;rw[Nat.zero_mul,show(a.add 0).add 0=a from by simp[Addr.add],z9e (by omega)]at h3;unfold World.cell? at h3;split at h3
       ·rename_i hb;refine⟨?_,(f3d.1 hb).1⟩;cases hs:a.spot with
        |none=>rfl
        |some _=>rw[hs]at h3;simp at h3
       ·cases h3
      obtain⟨aJ,y,h1,h2,h3⟩:=aW i hi;obtain⟨r,q1,q2⟩:=ih e lW aZ aJ y h3;refine⟨r,q2,by rw[VRels.length q1,h1],b4r ?_ q1,eI⟩;intro j v hv;have hj:j<E.sz e:=by rw[←h1];exact(e9k.1 hv).1
      have:=h2 j hj;rw[hv]at this;rw[←this]
      congr 1
      obtain⟨ab,ao,as⟩:=a;obtain⟨rfl,_⟩:=eI;unfold Addr.add;split<;>split<;>simp_all
     obtain⟨rows,g1,g2,g3⟩:=c8o (Pr:=Typ E n e) len a.off (λi hi=>by obtain⟨r,q1,q2,q3,_⟩:=gM i hi;exact⟨r,q1,q2,q3⟩);refine⟨[.islice rows (some cap)],?_,by simp only[Typ,hu];exact .inr ⟨rows,cap,rfl,by omega,dv,g2⟩⟩;simp only[VRels];refine⟨_,[],rfl,?_,rfl⟩;simp only[VRel];refine⟨a,cap,E.sz e,by rw[g1],by omega,by simp,?_⟩;cases len with
     |zero=>exact .inl (List.length_eq_zero_iff.1 g1)
     |succ len=>obtain⟨_,_,_,_,q4,q5⟩:=gM 0 (by omega);exact .inr ⟨q4,q5,g3⟩
   case struct fs=>
    simp only[e9l,f2u]at hr;obtain⟨eA,e8⟩:=hr;split at eA
    case h_2=>cases eA
    rename_i m hm;have rJ:m=E.sz t:=by simpa using eA
    have bZ:cs.length=E.P.cellsOf t∧∃xs,(fs.toList.mapM λf=>DataW.trod enc E.P w base cC dq aZ f.type ((cs.drop f.offset).take (E.P.cellsOf f.type)))=some xs:=by
     dsimp only at h;split at h
     ·rename_i hl;obtain⟨xs,bI,_⟩:=a05 h;exact⟨hl,xs,bI⟩
     ·cases h
    obtain⟨ai,xs,bI⟩:=bZ;obtain⟨_,aq,h1,h2,h3⟩:=c3z (E:=E) (I:=Old w) (w:=w) (cs:=cs) (n:=n) fs.toList 0 hm (by omega) (λf hf=>by obtain⟨y,hy⟩:=b81 bI f hf;have h2:=e8 f hf;obtain⟨df,tR⟩:=f0c.1 h2.1;rw[a46 ok tR]at hy;exact ih f.type h2.2 aZ _ _ hy);refine⟨aq.flatten,?_,by simp only[Typ,hu];exact⟨aq,rfl,h1,h2⟩⟩;rw[f4g,Nat.sub_zero,f0f (by omega)]at h3;exact h3
   case array m e=>
    simp only[e9l]at hr;obtain⟨⟨eA,e8⟩,lW⟩:=hr;obtain⟨de,bp⟩:=f0c.1 eA;have fW:=a46 ok bp;have l8:m*E.sz e=E.sz t:=by simpa using e8
    have bZ:cs.length=E.P.cellsOf t∧∃xs,((List.range m).mapM λi=>DataW.trod enc E.P w base cC dq aZ e ((cs.drop (i*E.P.cellsOf e)).take (E.P.cellsOf e)))=some xs:=by
     dsimp only at h;split at h
     ·rename_i hl;obtain⟨xs,bI,_⟩:=a05 h;exact⟨hl,xs,bI⟩
     ·cases h
    obtain⟨ai,xs,bI⟩:=bZ;obtain⟨aq,h1,h2,h3⟩:=d8d (E:=E) (I:=Old w) (w:=w) (cs:=cs) (n:=n) (k:=E.sz e) (e:=e) m 0 (by omega) (λi hi=>by obtain⟨y,hy⟩:=b81 bI i (by simpa using hi);rw[fW]at hy;rw[f3e];exact ih e lW aZ _ _ hy);refine⟨aq.flatten,?_,by simp only[Typ,hu];exact⟨aq,rfl,h1,h2⟩⟩;rw[f4g,f0f (by omega)]at h3;exact h3
end
end Go.Ax
/- AxArgs: a row's arguments as abstract values. -/
namespace Go.Ax
def d8i(E:Env)(n:Nat)(t:TypeId)(av:AV):Prop:=
 match E.und t with
 |some d=>bif a2d d then ∃aM,av = .agg aM∧Typ E n t aM else Typ E n t [av]
 |none=>False
def TypAs(E:Env)(n:Nat):List TypeId→List AV→Prop
 | [],aM=>aM=[]
 |t::ts,aM=>∃a r,aM=a::r∧d8i E n t a∧TypAs E n ts r
section
variable {E:Env}{w:World}{H:Type}{enc:TypeId×Value→H}{cC:Nat→Bool}{dq:Bool}{b0:Nat}
theorem e6c(ok:EnvOk E){n:Nat}{t:TypeId}{v:Value}{d:DataW H}{ps:List MemPlace}(hr:a50 E n t=true)(hv:Value.okWide E.P w .any b0 t v)(h:DataW.Trod enc E.P w 0 cC dq t v d ps) :
 ∃a,VRel (Old w) w noP a v∧d8i E n t a:=by
 obtain⟨aZ,hf⟩:=h;obtain⟨aM,h1,h2⟩:=c91 ok n t hr aZ _ _ hf;cases hu:E.und t with
 |none=>cases n<;>simp[a50,hu]at hr
 |some dd=>
  have hP:=(ok.und t dd hu).1;unfold Value.okWide at hv;rw[hP]at hv;cases dC:a2d dd with
  |true=>
   have hv:∃cs,v = .agg cs∧cs.size=E.P.cellsOf t∧Row.okWide E.P w .any b0 t cs:=by cases dd<;>simp[a2d]at dC<;>exact hv
   obtain⟨cs,rfl,_,_⟩:=hv;exact⟨.agg aM,by simp only[VRel];exact⟨cs,rfl,h1⟩,by simp only[d8i,hu,dC,f2m];exact⟨aM,rfl,h2⟩⟩
  |false=>
   have cg:v.cells = #[v]:=by
    cases v with
    |agg cs=>exfalso;cases dd<;>simp[a2d]at dC<;>simp[Cell.okWide,Cell.ok,hP]at hv
    |_=>rfl
   rw[cg]at h1;have h3:=h1;obtain⟨a,rfl⟩:∃a,aM=[a]:=by
    have:=VRels.length h1
    match aM,this with
    | [a],_=>exact⟨a,rfl⟩
   simp only[VRels]at h3;obtain⟨c,_,hc,h4,rfl⟩:=h3;simp only[List.cons.injEq,and_true]at hc;subst hc;exact⟨a,h4,by simp only[d8i,hu,dC,f2z];exact h2⟩
theorem d29(ok:EnvOk E){n:Nat}:∀(ts:List TypeId) (vs:List Value) (ds:List (DataW H)) (ps:List MemPlace),DataW.TrodAll enc E.P w 0 cC dq ts vs ds ps→
 (∀(j:Nat) t v,ts[j]?=some t→vs[j]?=some v→Value.okWide E.P w .any b0 t v)→(ts.all (a50 E n))=true→∃args,VRels (Old w) w noP args vs∧TypAs E n ts args
 | [],vs,ds,ps,h,_,_=>by
  cases vs with
  |nil=>exact⟨[],by simp[VRels],rfl⟩
  |cons v vs=>cases ds<;>simp[DataW.TrodAll]at h
 |t::ts,vs,ds,ps,h,hv,hr=>by
  cases vs with
  |nil=>cases ds<;>simp[DataW.TrodAll]at h
  |cons v vs=>
   cases ds with
   |nil=>simp[DataW.TrodAll]at h
   |cons d ds=>simp only[DataW.TrodAll]at h;obtain⟨p,q,h1,h2,_⟩:=h;simp only[List.all_cons,e9l]at hr;obtain⟨a,g1,g2⟩:=e6c ok hr.1 (hv 0 t v rfl rfl) h1;obtain⟨r,g3,g4⟩:=d29 ok ts vs ds q h2 (λj t v ht tf=>hv (j+1) t v (by simpa using ht) (by simpa using tf)) hr.2;exact⟨a::r,by simp only[VRels];exact⟨v,vs,rfl,g1,g3⟩,⟨a,r,rfl,g2,g4⟩⟩
end
end Go.Ax
/- AxLaid: what a listed package-level variable d3x as, as abstract cells. -/
namespace Go.Ax
def c4r(E:Env)(f:TypeId→DataW Unit→Option (List AV)):Nat→List Field→List (DataW Unit)→Option (List AV)
 |_,[],[]=>some []
 |o,x::fs,d::ds=>bif Nat.beq x.offset o&&(E.und x.type).isSome then
  match f x.type d,c4r E f (o+E.sz x.type) fs ds with
  |some a,some b=>bif Nat.beq a.length (E.sz x.type)then some (a++b)else none
  |_,_=>none
  else none
 |_,_,_=>none
def b43(k:Nat)(f:DataW Unit→Option (List AV)):List (DataW Unit)→Option (List (List AV))
 | []=>some []
 |d::ds=>match f d,b43 k f ds with
  |some a,some b=>bif Nat.beq a.length k then some (a::b)else none
  |_,_=>none
def b57(E:Env):Nat→TypeId→DataW Unit→Option (List AV)
 |0,_,_=>none
 |n+1,t,d=>match E.und t,d with
  |some .bool,.lit (.bool b)=>some [.bool b]
  |some (.int k),.lit (.int k' i)=>bif k==k' then some [.int k i]else none
  |some .string,.lit (.string s)=>some [.str s]
  |some (.struct fs),.agg ds=>match c4r E (b57 E n) 0 fs.toList ds with
   |some aM=>bif Nat.beq aM.length (E.sz t)then some aM else none
   |none=>none
  |some (.array m e),.agg ds=>bif (E.und e).isSome&&Nat.beq (m*E.sz e) (E.sz t)&&Nat.beq ds.length m then(b43 (E.sz e) (b57 E n e) ds).map List.flatten else none
  |some (.slice _),.nil=>some [.nilslice]
  |some (.slice e),.slice es cC=>bif (E.und e).isSome&&Nat.blt 0 (E.sz e)&&Nat.blt 0 es.length then(b43 (E.sz e) (b57 E n e) es).map λrows=>[.islice rows (some (es.length+cC.length))]else none
  |_,_=>none
section
variable {E:Env}{w:World}{enc:TypeId×Value→Unit}{base:Nat}{dq:Bool}
theorem a76{α β:Type}{f:α→Option β}{a:α}{l:List α}{r:List β}(h:(a::l).mapM f=some r):∃b r',f a=some b∧l.mapM f=some r'∧r=b::r':=by
 rw[List.mapM_cons]at h;cases gx:f a with
 |none=>simp[gx]at h
 |some y=>
  simp only[gx,Option.bind_eq_bind,f5m]at h;cases hl:l.mapM f with
  |none=>simp[hl]at h
  |some r'=>simp only[hl,f5m]at h;cases h;exact⟨y,r',rfl,rfl,rfl⟩
theorem b7z{α β:Type}{f:α→Option β}:∀{l:List α} {r:List β},l.mapM f=some r→r.length=l.length
 | [],r,h=>by cases h;rfl
 |a::l,r,h=>by obtain⟨b,r',_,h2,rfl⟩:=a76 h;simp[b7z h2]
theorem b80{α β:Type}{f:α→Option β}:∀{l:List α} {r:List β},l.mapM f=some r→∀(i:Nat) a,l[i]?=some a→∃b,f a=some b∧r[i]?=some b
 | [],r,h,i,a,ha=>by simp at ha
 |x::l,r,h,i,a,ha=>by
  obtain⟨b,r',h1,h2,rfl⟩:=a76 h;cases i with
  |zero=>simp only[f1p,Option.some.injEq]at ha;subst ha;exact⟨b,h1,rfl⟩
  |succ i=>simp only[f1q]at ha⊢;exact b80 h2 i a ha
theorem b10{k:Nat}{f:DataW Unit→Option (List AV)}:∀{ds:List (DataW Unit)} {rows:List (List AV)},b43 k f ds=some rows→rows.length=ds.length
 | [],rows,h=>by cases h;rfl
 |d::ds,rows,h=>by
  simp only[b43]at h;split at h
  case h_2=>cases h
  rename_i a b ha hb;rw[cond_eq_ite]at h;split at h
  ·cases h;simp[b10 hb]
  ·cases h
theorem b11{k:Nat}{f:DataW Unit→Option (List AV)}:∀{ds:List (DataW Unit)} {rows:List (List AV)},b43 k f ds=some rows→∀(i:Nat) d,ds[i]?=some d→∃a,f d=some a∧a.length=k∧rows[i]?=some a
 | [],rows,h,i,d,hd=>by simp at hd
 |x::ds,rows,h,i,d,hd=>by
  simp only[b43]at h;split at h
  case h_2=>cases h
  rename_i a b ha hb;rw[cond_eq_ite]at h;split at h
  case isFalse=>cases h
  rename_i hk;cases h;cases i with
  |zero=>simp only[f1p,Option.some.injEq]at hd;subst hd;exact⟨a,ha,by simpa using hk,rfl⟩
  |succ i=>simp only[f1q]at hd⊢;exact b11 hb i d hd
theorem b46{I:Nat→Prop}{cs:List Value}{f:TypeId→DataW Unit→Option (List AV)}{g:Field→Option (DataW Unit×List MemPlace)}
 (hg:∀x y aM,g x=some y→f x.type y.1=some aM→VRels I w noP aM ((cs.drop x.offset).take (E.sz x.type))) :
 ∀(fs:List Field) (o:Nat) {xs:List (DataW Unit×List MemPlace)} {aM:List AV},fs.mapM g=some xs→c4r E f o fs (xs.map (·.1))=some aM→VRels I w noP aM ((cs.drop o).take aM.length)
 | [],o,xs,aM,hm,hf=>by cases hm;cases hf;simp[VRels]
 |x::fs,o,xs,aM,hm,hf=>by
  obtain⟨y,ys,h1,h2,rfl⟩:=a76 hm;simp only[e12,c4r]at hf;rw[cond_eq_ite]at hf;split at hf
  case isFalse=>cases hf
  rename_i hc;simp only[e9l,f7g]at hc;split at hf
  case h_2=>cases hf
  rename_i a b ha hb;rw[cond_eq_ite]at hf;split at hf
  case isFalse=>cases hf
  rename_i hl;rw[f7g]at hl;cases hf;have ih:=b46 hg fs _ h2 hb;have h3:=hg x y a h1 ha;rw[hc.1,←hl]at h3;rw[f1o,List.take_add,List.drop_drop,hl]at *;exact VRels.append h3 ih
theorem b9o{I:Nat→Prop}{cs:List Value}{k:Nat}:∀(rows:List (List AV)) (o:Nat),(∀(i:Nat) r,rows[i]?=some r→r.length=k∧VRels I w noP r ((cs.drop (o+i*k)).take k))→
 VRels I w noP rows.flatten ((cs.drop o).take (rows.length*k))
 | [],o,_=>by simp[VRels]
 |r::rows,o,h=>by have h0:=h 0 r rfl;have ih:=b9o rows (o+k) (λi r hr=>by have:=h (i+1) r (by simpa using hr);rw[show o+k+i*k=o+(i+1)*k by rw[f5o];omega];exact this);simp only[f4a,e9m];rw[show(rows.length+1)*k=k+rows.length*k by rw[f5o];omega,List.take_add,List.drop_drop];refine VRels.append ?_ ih;simpa using h0.2
theorem c0f(ok:EnvOk E):∀(n:Nat) (t:TypeId) (aZ:Nat) (cs:List Value) (x:DataW Unit×List MemPlace) (aM:List AV),DataW.trod enc E.P w base (λ_=>true) dq aZ t cs=some x→b57 E n t x.1=some aM→
 VRels (Old w) w noP aM cs
 |0,t,aZ,cs,x,aM,_,hf=>by simp[b57]at hf
 |n+1,t,0,cs,x,aM,h,hf=>by simp[DataW.trod]at h
 |n+1,t,aZ+1,cs,x,aM,h,hf=>by
  have ih:=c0f ok n;unfold b57 at hf;unfold DataW.trod at h;cases hu:E.und t with
  |none=>rw[hu]at hf;simp at hf
  |some dd=>
   have hP:=(ok.und t dd hu).1;have ti:=a46 ok hu;rw[hu]at hf;rw[hP]at h;cases dd
   case bool=>
    obtain⟨b,rfl,rfl⟩:∃b,cs=[.bool b]∧x=(.lit (.bool b),[]):=by split at h<;>simp_all
    simp only[Option.some.injEq]at hf;subst hf;simp[VRels,VRel]
   case int k=>
    obtain⟨b,rfl,rfl⟩:∃b,cs=[.int k b]∧x=(.lit (.int k b),[]):=by split at h<;>simp_all
    simp only[cond_eq_ite]at hf;split at hf
    ·cases hf;simp[VRels,VRel]
    ·cases hf
   case string=>
    obtain⟨b,rfl,rfl⟩:∃b:ByteArray,cs=[.string b]∧x=(.lit (.string b.data.toList),[]):=by split at h<;>simp_all
    simp only[Option.some.injEq]at hf;subst hf;simp[VRels,VRel]
   case struct fs=>
    dsimp only at h;split at h
    case isFalse=>cases h
    rename_i hl;obtain⟨xs,bI,rfl⟩:=a05 h;dsimp only at hf;split at hf
    case h_2=>cases hf
    rename_i uo nC;rw[cond_eq_ite]at hf;split at hf
    case isFalse=>cases hf
    rename_i gO;rw[f7g]at gO;cases hf;have key:=b46 (E:=E) (I:=Old w) (w:=w) (cs:=cs) (f:=b57 E n)
     (g:=λf=>DataW.trod enc E.P w base (λ_=>true) dq aZ f.type ((cs.drop f.offset).take (E.P.cellsOf f.type))) ?_ fs.toList 0 bI nC
    ·rw[f4g,f0f (by omega)]at key;exact key
    ·intro x y aM hy gx;have eT:∃dx,E.und x.type=some dx:=by
      cases n with
      |zero=>simp[b57]at gx
      |succ n=>unfold b57 at gx;cases hux:E.und x.type with
       |none=>rw[hux]at gx;simp at gx
       |some dx=>exact⟨dx,rfl⟩
     obtain⟨dx,tO⟩:=eT;rw[a46 ok tO]at hy;exact ih x.type aZ _ y aM hy gx
   case array m e=>
    dsimp only at h;split at h
    case isFalse=>cases h
    rename_i hl;obtain⟨xs,bI,rfl⟩:=a05 h;dsimp only at hf;rw[cond_eq_ite]at hf;split at hf
    case isFalse=>cases hf
    rename_i hc;simp only[e9l,f7g]at hc;obtain⟨rows,az,rfl⟩:=a05 hf;obtain⟨de,bp⟩:=f0c.1 hc.1.1;have fW:=a46 ok bp;have ai:rows.length=m:=by rw[b10 az];simpa using hc.2
    have key:=b9o (I:=Old w) (w:=w) (cs:=cs) (k:=E.sz e) rows 0 (λi r hr=>by
     have hi:i<m:=by rw[←ai];exact(e9k.1 hr).1
     obtain⟨y,hy,pi⟩:=b80 bI i i (by simp[hi]);obtain⟨a,ha,eE,nW⟩:=b11 az i y.1 (by simp[pi]);rw[hr]at nW;cases nW;refine⟨eE,?_⟩;rw[f3e];rw[fW]at hy;exact ih e aZ _ y r hy ha)
    rw[f4g,f0f (by rw[ai];omega)]at key;exact key
   case slice e=>
    split at h
    all_goals first|(rename_i cQ;cases cQ;done)|(cases h;done)|skip
    ·cases h;simp only[Option.some.injEq]at hf;subst hf;simp[VRels,VRel]
    ·rename_i e' a len cap cQ;cases cQ;dsimp only at h;split at h
     case isFalse=>cases h
     rename_i hc;cases hm:((List.range len).mapM λi=>(w.cells? base (a.add (i*E.P.cellsOf e)) (E.P.cellsOf e)).bind (DataW.trod enc E.P w base (λ_=>true) dq aZ e))with
     |none=>rw[hm]at h;simp at h
     |some dP=>
      rw[hm]at h;simp only[f5m,f4b]at h;obtain⟨af,cE,rfl⟩:=a05 h;dsimp only at hf;rw[cond_eq_ite]at hf;split at hf
      case isFalse=>cases hf
      rename_i eP;simp only[e9l,f2p,c11]at eP;obtain⟨rows,az,rfl⟩:=a05 hf;obtain⟨de,bp⟩:=f0c.1 eP.1.1;have fW:=a46 ok bp;have rO:rows.length=dP.length:=by rw[b10 az];simp
      have bd:dP.length=len:=by rw[b7z hm];simp
      have pW:af.length=cap-len:=by rw[b7z cE];simp
      have aW:∀i,i<len→∃aJ y,dP[i]?=some y∧aJ.length=E.sz e∧(∀j,j<E.sz e→w.cell? ((a.add (i*E.sz e)).add j)=aJ[j]?)∧DataW.trod enc E.P w base (λ_=>true) dq aZ e aJ=some y:=by
       intro i hi;obtain⟨y,hy,pi⟩:=b80 hm i i (by simp[hi]);rw[fW]at hy;cases dY:w.cells? base (a.add (i*E.sz e)) (E.sz e)with
       |none=>rw[dY]at hy;simp at hy
       |some aJ=>rw[dY]at hy;obtain⟨_,h2,h3⟩:=World.cells?_some dY;exact⟨aJ,y,pi,h2,h3,by simpa using hy⟩
      have eI:a.spot=none∧a.block<w.heap.size:=by
       obtain⟨cs0,y0,_,h1,h2,_⟩:=aW 0 (by omega);have h3:=h2 0 eP.1.2;rw[Nat.zero_mul,show(a.add 0).add 0=a from by simp[Addr.add],z9e (by omega)]at h3;unfold World.cell? at h3;split at h3
       ·rename_i hb;refine⟨?_,(f3d.1 hb).1⟩;cases hs:a.spot with
        |none=>rfl
        |some _=>rw[hs]at h3;simp at h3
       ·cases h3
      simp only[VRels];refine⟨_,[],rfl,?_,rfl⟩;simp only[VRel];refine⟨a,cap,E.sz e,by rw[rO,bd],by omega,λn hn=>by cases hn;simp;omega,.inr ⟨eI.1,eI.2,?_⟩⟩;have key:∀(be:List (List AV)) (o:Nat),(∀(i:Nat) r,be[i]?=some r→r.length=E.sz e∧VAt (Old w) w noP r a.block (a.off+(o+i)*E.sz e))→VRows (Old w) w (E.sz e) noP be a.block (a.off+o*E.sz e):=by
       intro be
       induction be with
       |nil=>intro o _;simp[VRows]
       |cons r rs ihr=>intro o hh;have h0:=hh 0 r rfl;simp only[VRows];refine⟨h0.1,by simpa using h0.2,?_⟩;rw[show a.off+o*E.sz e+E.sz e=a.off+(o+1)*E.sz e by rw[f5o];omega];refine ihr (o+1) (λi r hr=>?_);have:=hh (i+1) r (by simpa using hr);rw[show o+1+i=o+(i+1) by omega];exact this
      have:=key rows 0 (λi r hr=>by
       have hi:i<len:=by rw[←bd,←rO];exact(e9k.1 hr).1
       obtain⟨aJ,y,h0,h1,h2,h3⟩:=aW i hi;obtain⟨av,ha,eE,nW⟩:=b11 az i y.1 (by simp[h0]);rw[hr]at nW;cases nW;refine⟨eE,?_⟩;rw[f3e];refine b4r ?_ (ih e aZ _ y r h3 ha);intro j v hv;have hj:j<E.sz e:=by rw[←h1];exact(e9k.1 hv).1
       have:=h2 j hj;rw[hv]at this;rw[←this]
       congr 1
       obtain⟨ab,ao,as⟩:=a;obtain⟨rfl,_⟩:=eI;unfold Addr.add;split<;>split<;>simp_all)
      simpa using this
   all_goals (simp only at hf;first|(cases hf;done)|(split at hf<;>cases hf))
theorem holds_of_laid(ok:EnvOk E){laid:List (String×DataW Unit)}(h:laidMet E.P laid w)
 (hG:∀g cs,E.G g=some cs→∃x∈laid,E.P.globalNamed x.1=some g∧∃t,(E.P.globals[g]?).map (·.type)=some t∧b57 E 8 t x.2=some cs):Holds E w:=by
 obtain⟨ps,hv,aY,cg⟩:=h;have aR:∀(l:List (String×DataW Unit)) ps,DataW.LaidVars E.P w l ps→∀x∈l,∃g t cs aZ p,E.P.globalNamed x.1=some g∧(E.P.globals[g]?).map (·.type)=some t∧w.var? E.P x.1=some cs∧DataW.trod (λ_=>()) E.P w 0 (λ_=>true) false aZ t cs.toList=some (x.2,p):=by
  intro l
  induction l with
  |nil=>intro ps _ x hx;simp at hx
  |cons y r ih=>
   intro ps hv x hx;obtain⟨n,d⟩:=y;simp only[DataW.LaidVars]at hv;obtain⟨g,t,cs,aZ,p,q,h1,h2,h3,h4,h5,_⟩:=hv;simp only[f2s]at hx;rcases hx with rfl|hx
   ·exact⟨g,t,cs,aZ,p,h1,h2,h3,h4⟩
   ·exact ih q h5 x hx
 intro g cs hg;obtain⟨x,hx,h1,t,h2,h3⟩:=hG g cs hg;obtain⟨g',t',aJ,aZ,p,k1,k2,k3,k4⟩:=aR laid ps hv x hx;obtain rfl:g'=g:=z9o (k1.symm.trans h1);obtain rfl:t'=t:=z9o (k2.symm.trans h2);have hr:=c0f ok 8 t' aZ _ (x.2,p) cs k4 h3;unfold World.var? at k3;rw[k1]at k3;simp only[f5m]at k3;split at k3
 case h_2=>cases k3
 rename_i cs2 e fz j7;cases k3;refine⟨(f3d.1 j7).1,?_⟩;refine VAt.of_cells (cs:=aJ.toList) (CellsAt.of_heap j7 ?_) hr;intro j v hv;simpa using hv
end
end Go.Ax
/- AxLaw: from a run of a law's body that answers true, for all d8q arguments, to what a row asks. -/
namespace Go.Ax
open Go.ChangeShapes Go.WideShapes Go.RowKit
section
variable {E:Env}{H:Type}{enc:TypeId×Value→H}
theorem a9f{P:Program}(hl:laidOutB P=true){W W':World}(hb:Below W.heap.size W W'){sp:Nat→Bool}:∀(ts:List TypeId) (vs:List Value) (ds:List (DataW H)) (ps:List MemPlace),
 (ts.all λt=>P.readableRec t&&decide (t<P.types.size))=true→(∀p∈ps,p.block<W.heap.size)→(∀p∈ps,sp p.block=true)→
 DataW.TrodAll enc P W 0 (λ_=>true) true ts vs ds ps→DataW.TrodAll enc P W' 0 sp true ts vs ds ps
 | [],vs,ds,ps,_,_,_,h=>by cases vs<;>cases ds<;>simp only[DataW.TrodAll]at h⊢<;>exact h
 |t::ts,vs,ds,ps,hr,ag,hs,h=>by
  cases vs with
  |nil=>simp[DataW.TrodAll]at h
  |cons v vs=>
   cases ds with
   |nil=>simp[DataW.TrodAll]at h
   |cons d ds=>simp only[DataW.TrodAll]at h⊢;obtain⟨p,q,h1,h2,rfl⟩:=h;simp only[List.all_cons,e9l,f0l]at hr;refine⟨p,q,?_,a9f hl hb ts vs ds q hr.2 (λx hx=>ag x (by simp[hx])) (λx hx=>hs x (by simp[hx])) h2,rfl⟩;exact WideElems.Trod_stays hl hr.1.1 hr.1.2 h1 (λx hx=>hb.same (ag x (by simp[hx]))) (λx hx=>hs x (by simp[hx]))
theorem d4n{P:Program}(hl:laidOutB P=true){f:Func}{s:ChangeSpec}(eH:s.vars=[]){n:Nat}(hn:f.params.toList.length=n)
 (hs:∀ds:List (DataW H),ds.length=n→(s.fn H ds).results=[.lit (.bool true)]∧(s.fn H ds).args=ds∧(s.fn H ds).vars=[]){tb:TypeId}(ez:f.resultTypes = #[tb])(jU:P.underlying tb=some .bool)
 (kW:(f.params.toList.all λt=>P.readableRec t&&decide (t<P.types.size))=true)
 {W W':World}{args:Array Value}{ds gs:List (DataW H)}{bt:List MemPlace}(hW:DataW.Whole enc P f.params.toList s.vars false W args.toList ds gs bt)(hb:Below W.heap.size W W') :
 s.post enc P f false true false false W args (.bool true) W':=by
 have ag:∀p∈bt,p.block<W.heap.size:=λp hp=>hW.lt p hp;have aF:∀p∈bt,(λb=>decide (b<W.heap.size)) p.block=true:=λp hp=>by simpa using ag p hp
 have ua:=hW;obtain⟨p,q,hA,hV,rfl,hz,aY⟩:=hW;rw[eH]at hV;obtain⟨rfl,rfl⟩:=trodVars_none hV;have ai:ds.length=n:=by
  have:∀(ts:List TypeId) (vs:List Value) (ds:List (DataW H)) (ps:List MemPlace),DataW.TrodAll enc P W 0 (λ_=>true) true ts vs ds ps→ds.length=ts.length:=by
   intro ts
   induction ts with
   |nil=>intro vs ds ps h;cases vs<;>cases ds<;>simp[DataW.TrodAll]at h<;>rfl
   |cons t ts ih=>
    intro vs ds ps h;cases vs with
    |nil=>simp[DataW.TrodAll]at h
    |cons v vs=>cases ds with
     |nil=>simp[DataW.TrodAll]at h
     |cons d ds=>simp only[DataW.TrodAll]at h;obtain⟨p,q,_,h2,_⟩:=h;simp[ih vs ds q h2]
  rw[this _ _ _ _ hA,hn]
 obtain⟨s1,s2,s3⟩:=hs (ds++[]) (by simpa using ai);rw[e9n]at ag aF;have aC:∀sp:Nat→Bool,(∀x∈p,sp x.block=true)→DataW.TrodAll enc P W' 0 sp true f.params.toList args.toList (s.fn H (ds++[])).args p:=by intro sp tj;rw[s2,e9n];exact a9f hl hb _ _ _ _ kW ag tj hA
 have jS:∀sp:Nat→Bool,DataW.TrodVars enc P W' sp s.vars (s.fn H (ds++[])).vars []:=by intro sp;rw[s3,eH];rfl
 have eA:∀(b:Nat) (sp:Nat→Bool) (hd:Bool),DataW.TrodAll enc P W' b sp hd f.resultTypes.toList ((Value.bool true).resultList f.resultTypes.size) (s.fn H (ds++[])).results []:=by intro b sp hd;rw[s1,ez];exact⟨[],[],⟨1,by simp[DataW.trod,jU,Value.cells]⟩,rfl,rfl⟩
 refine⟨ds,[],p++[],[],p,[],ua,eA _ _ _,aC _ aF,jS _,World.keptBut_mono (λx hx=>⟨hx,?_⟩) (hb.frame (·∈p++[])),λ_=>?_⟩
 ·simpa using hx
 ·refine⟨?_,_,_,([]++p)++[],⟨[]++p,[],trodAll_append (aC _ (λ_ _=>rfl)) (eA _ _ _),jS _,rfl,?_,?_⟩,?_⟩
  ·intro j t r hj hv;rw[ez]at hj hv
   match j,hj,hv with
   |0,hj,hv=>simp[Value.resultList]at hj hv;subst hj;subst hv;exact okWide_bool_mk jU true
  ·intro b off hp;have dG:MemPlace.cell b off∈p:=by simpa using hp
   rw[hb.frozen (ag _ dG)];exact hz b off (by simpa using dG)
  ·intro ha;cases ha
  ·intro x hx _;simpa using hx
theorem law_contract(ok:EnvOk E)(hl:laidOutB E.P=true){f:FuncId}{fn:Func}{run:List AV→a02→Option (AV×a02)}(kd:f≠yId)(hf:b0d E f run){m:Nat}
 (mV:(fn.params.toList.all (a50 E m))=true)(ac:∀args,TypAs E m fn.params.toList args→∃H',run args []=some (.bool true,H'))
 {s:ChangeSpec}(eH:s.vars=[]){n:Nat}(hn:fn.params.toList.length=n)
 (hs:∀ds:List (DataW H),ds.length=n→(s.fn H ds).results=[.lit (.bool true)]∧(s.fn H ds).args=ds∧(s.fn H ds).vars=[]){tb:TypeId}(ez:fn.resultTypes = #[tb])(jU:E.P.underlying tb=some .bool)
 (kW:(fn.params.toList.all λt=>E.P.readableRec t&&decide (t<E.P.types.size))=true)
 (W:World)(base:Nat)(args:Array Value)(ds gs:List (DataW H))(bt:List MemPlace)
 (cq:∀(j:Nat) t v,fn.params[j]?=some t→args[j]?=some v→Value.okWide E.P W .any base t v)
 (hW:DataW.Whole enc E.P fn.params.toList s.vars false W args.toList ds gs bt)(hG:Holds E W) :
 Calls E.P f args W λe W'=>∃v,e = .returned v∧s.post enc E.P fn false true false false W args v W':=by
 have hA:=hW;obtain⟨p,q,hA,_⟩:=hA;obtain⟨aM,h1,h2⟩:=d29 (b0:=base) ok (n:=m) fn.params.toList args.toList ds p hA (λj t v ht hv=>cq j t v (by simpa using ht) (by simpa using hv)) mV;obtain⟨H',hr⟩:=ac aM h2;have:=d3c kd hf hr hG h1;rw[Array.toArray_toList]at this;refine this.mono ?_
 rintro e W' ⟨rfl,hb⟩
 exact⟨_,rfl,d4n hl eH hn hs ez jU kW hW hb⟩
end
end Go.Ax
/- AxSem: what a call comes to, a4o fuel for the calls: a function 'sem', closed under running a body over itself. No condition. -/
namespace Go.Ax
abbrev CallF:=FuncId→List AV→a02→Option (AV×a02)
def CallF.le(c c':CallF):Prop:=∀g a H r,c g a H=some r→c' g a H=some r
theorem a86{r r':List AV→a02→Option (AV×a02)}(h:∀a H x,r a H=some x→r' a H=some x){args:List AV}{H:a02}{x:AV×a02×List Nat}
 (hc:a1r r args H=some x):a1r r' args H=some x:=by
 unfold a1r at hc⊢;simp only at hc⊢;rw[cond_eq_ite]at hc⊢;split at hc
 case isFalse=>cases hc
 rename_i h1;rw[f1r h1];split at hc
 case h_2=>cases hc
 rename_i v H1 hr;rw[h _ _ _ hr];exact hc
theorem c0d{r r':List AV→a02→Option (AV×a02)}(h:∀a H x,r a H=some x→r' a H=some x){args:List AV}{H:a02}{x:AV×a02×List Nat}
 (hc:a93 r args H=some x):a93 r' args H=some x:=by
 unfold a93 at hc⊢;split at hc
 case h_2=>cases hc
 rename_i ap h1;split at hc
 case h_2=>cases hc
 rename_i v H1 hr;rw[h _ _ _ hr];exact hc
section
variable {E:Env}{ah:Bool}{N:Nat}{c c':CallF}(hc:CallF.le c c')
include hc
theorem c78{f:AV}{args:List AV}{H:a02}{x:AV×a02×List Nat}(h:a09 E ah c f args H=some x):a09 E ah c' f args H=some x:=by
 unfold a09 at h⊢;split at h
 case h_3=>cases h
 case h_2=>
  split at h
  case h_2=>cases h
  rename_i v H' σ hr;rw[a86 (λa H x=>hc yId a H x) hr];exact h
 rename_i g fs cs;rw[cond_eq_ite]at h⊢;split at h
 ·rename_i h1;rw[f1r h1];rw[cond_eq_ite]at h⊢;split at h
  ·rename_i h2;rw[f1r h2];exact c0d (λa H x=>hc g a H x) h
  ·rename_i h2;rw[f0j h2];exact h
 ·rename_i h1;rw[f0j h1];rw[cond_eq_ite]at h⊢;split at h
  case isFalse=>cases h
  rename_i h2;rw[f1r h2];split at h
  case h_2=>cases h
  rename_i v H' σ hr;rw[a86 (λa H x=>hc g a H x) hr];exact h
theorem c1v{F:Frm}{H:a02}{op:Op}{x:AV×a02×LogE}(h:a0u E ah c F H op=some x):a0u E ah c' F H op=some x:=by
 unfold a0u at h⊢;split at h
 ·split at h
  case h_2=>cases h
  rename_i v H' σ hr;rw[c78 hc hr];exact h
 ·exact h
theorem b2u{R:Type}{all:List Oper}{k k':Frm→a02→Option R}(hk:∀F H r,k F H=some r→k' F H=some r):∀(am:List Oper) (log:List LogE) (F:Frm) (H:a02) {r:R},
 a2e E ah N c all am log F H k=some r→a2e E ah N c' all am log F H k'=some r:=by
 intro am
 induction am with
 |nil=>
  intro log F H r h;unfold a2e at h⊢;rw[cond_eq_ite]at h⊢;split at h
  case isFalse=>cases h
  rename_i h1;rw[f1r h1];exact hk _ _ _ h
 |cons o af ih=>
  have step:∀(log:List LogE) (F F':Frm) (H:a02) (op:Op) (r:R),(match a0u E ah c F H op with
   |some (v,H',l)=>a2e E ah N c all af (l::log) (a3l F' o.dst v) H' k
   |none=>none)=some r→(match a0u E ah c' F H op with
   |some (v,H',l)=>a2e E ah N c' all af (l::log) (a3l F' o.dst v) H' k'
   |none=>none)=some r:=by
   intro log F F' H op r h;split at h
   case h_2=>cases h
   rename_i v H' l hs;rw[c1v hc hs];exact ih _ _ _ h
  intro log F H r h;unfold a2e at h⊢;rw[cond_eq_ite]at h⊢;split at h
  case isFalse=>cases h
  rename_i h1;rw[f1r h1];split at h
  ·exact step _ _ _ _ _ _ h
  ·rename_i j bj hg;split at h
   ·cases h
   ·rename_i d hd;split at h
    ·rename_i b hb;rw[cond_eq_ite]at h⊢;split at h
     ·rename_i qB;rw[f1r qB];rw[cond_eq_ite]at h⊢;split at h
      ·rename_i hw;rw[f1r hw];exact step _ _ _ _ _ _ h
      ·rename_i hw;rw[f0j hw];exact ih _ _ _ h
     ·rename_i qB;rw[f0j qB];rw[cond_eq_ite]at h⊢;split at h
      ·rename_i hw;rw[f1r hw];exact ih _ _ _ h
      ·rename_i hw;rw[f0j hw];exact step _ _ _ _ _ _ h
    ·exact ih _ _ _ h
    ·cases h
omit hc in
theorem b6a{m0:Nat}{keep:List Nat}{R:Type}{b b':Frm→a02→(AExit→Frm→a02→Option R)→Option R}
 (hb:∀F H (k k':AExit→Frm→a02→Option R),(∀e F H r,k e F H=some r→k' e F H=some r)→∀r,b F H k=some r→b' F H k'=some r):∀(n n':Nat),n≤n'→∀(F:Frm) (H:a02) (k k':AExit→Frm→a02→Option R),(∀e F H r,k e F H=some r→k' e F H=some r)→∀{r:R},
 b1y m0 keep b n F H k=some r→b1y m0 keep b' n' F H k'=some r
 |0,_,_,F,H,k,k',_,r,h=>by simp[b1y]at h
 |n+1,0,hn,F,H,k,k',_,r,h=>by omega
 |n+1,n'+1,hn,F,H,k,k',hk,r,h=>by
  unfold b1y at h⊢;simp only at h⊢;rw[cond_eq_ite]at h⊢;split at h
  case isFalse=>cases h
  rename_i h1;rw[f1r h1];refine hb _ _ _ _ ?_ r h;intro e F H r h;cases e with
  |normal=>exact b6a hb n n' (by omega) F H k k' hk h
  |exit id=>exact hk _ _ _ _ h
  |ret=>exact hk _ _ _ _ h
omit hc in
theorem b2w{m0 it:Nat}{keep:List Nat}{ks aK:List Int}{b b':Frm→a02→(AExit→Frm→a02→Option R3)→Option R3}
 (hb:∀F H (k k':AExit→Frm→a02→Option R3),(∀e F H r,k e F H=some r→k' e F H=some r)→∀r,b F H k=some r→b' F H k'=some r){a:Option Int}{F:Frm}{H:a02}{x:R3}(h:b1g m0 it keep ks aK b a F H=some x):b1g m0 it keep ks aK b' a F H=some x:=by
 unfold b1g at h⊢;split at h
 case h_2=>cases h
 rename_i F1 H1 hg;split at h
 case h_2=>cases h
 rename_i H2 ha;exact hb _ _ _ _ (λ_ _ _ _ h=>h) _ h
omit hc in
theorem b33{m0 it:Nat}{keep:List Nat}{ks:List Int}{b b':Frm→a02→(AExit→Frm→a02→Option R3)→Option R3}
 (hb:∀F H (k k':AExit→Frm→a02→Option R3),(∀e F H r,k e F H=some r→k' e F H=some r)→∀r,b F H k=some r→b' F H k'=some r):∀{o aK:List Int} {F:Frm} {H:a02} {x:R3},a5a m0 it keep ks b aK o F H=some x→a5a m0 it keep ks b' aK o F H=some x
 | [],aK,F,H,x,h=>by
  unfold a5a at h⊢;split at h
  ·cases h
  ·rename_i e F' H' au hr;rw[b2w hb hr];cases e with
   |normal=>exact(au rfl).elim
   |exit id=>exact h
   |ret=>exact h
  ·cases h
 |i::o,aK,F,H,x,h=>by
  unfold a5a at h⊢;split at h
  case h_2=>cases h
  rename_i F' H' hr;rw[b2w hb hr];exact b33 hb h
omit hc in
theorem c65{m0 it:Nat}{keep:List Nat}{R:Type}{b b':Frm→a02→(AExit→Frm→a02→Option R3)→Option R3}
 (hb:∀F H (k k':AExit→Frm→a02→Option R3),(∀e F H r,k e F H=some r→k' e F H=some r)→∀r,b F H k=some r→b' F H k'=some r){F:Frm}{H:a02}{k k':AExit→Frm→a02→Option R}(hk:∀e F H r,k e F H=some r→k' e F H=some r){r:R}
 (h:c66 m0 it keep b F H k=some r):c66 m0 it keep b' F H k'=some r:=by
 unfold c66 at h⊢;split at h
 case h_2=>cases h
 rename_i ks cK;split at h
 case h_2=>cases h
 rename_i r0 rs jx;rw[cond_eq_ite]at h;split at h
 case isFalse=>cases h
 rename_i aR;have hm:(b62 ks).map (λo=>a5a m0 it keep ks b' [] o F H)=some r0::rs:=by
  rw[←jx];refine f3h λo ho=>?_;have hm:=f4f (f:=λo=>a5a m0 it keep ks b [] o F H) ho;rw[jx]at hm;have he:a5a m0 it keep ks b [] o F H=some r0:=by
   rcases f2s.1 hm with h|h
   ·exact h
   ·exact c3t (f2u.1 aR _ h)
  rw[he];exact b33 hb he
 rw[hm];simp only[aR,f2m];exact hk _ _ _ _ h
theorem b09{m0 lf fT:Nat}(hl:lf≤fT){keep:Nat→List Nat}:∀(code:Code) {R:Type} (cur:Nat) (F:Frm) (H:a02) (k k':AExit→Frm→a02→Option R),(∀e F H r,k e F H=some r→k' e F H=some r)→∀{r:R},
 a3x E m0 N keep c lf cur code F H k=some r→a3x E m0 N keep c' fT cur code F H k'=some r:=by
 intro code
 induction code with
 |skip=>intro R cur F H k k' hk r h;unfold a3x at h⊢;exact hk _ _ _ _ h
 |label l=>intro R cur F H k k' hk r h;unfold a3x at h⊢;exact hk _ _ _ _ h
 |exit id=>intro R cur F H k k' hk r h;unfold a3x at h⊢;exact hk _ _ _ _ h
 |ret=>intro R cur F H k k' hk r h;unfold a3x at h⊢;exact hk _ _ _ _ h
 |region id am ah=>
  intro R cur F H k k' hk r h;unfold a3x at h⊢;cases hn:d42 am.toList with
  |none=>rw[hn]at h;exact b2u hc (λF H r h=>hk _ _ _ _ h) _ _ _ _ h
  |some x=>
   obtain⟨it,nx,af⟩:=x;rw[hn]at h;simp only[cond_eq_ite]at h⊢;split at h
   case isTrue=>cases h
   rename_i h1;rw[f0j h1];split at h
   case h_2=>cases h
   rename_i v H' hx;exact b2u hc (λF H r h=>hk _ _ _ _ h) _ _ _ _ h
 |seq x y ihx ihy=>
  intro R cur F H k k' hk r h;unfold a3x at h⊢;refine ihx _ _ _ _ _ ?_ h;intro e F H r h;cases e with
  |normal=>exact ihy _ _ _ _ _ hk h
  |exit id=>exact hk _ _ _ _ h
  |ret=>exact hk _ _ _ _ h
 |cond x y z ihy ihz=>
  intro R cur F H k k' hk r h;unfold a3x at h⊢;split at h
  case h_2=>cases h
  rename_i t ht;simp only[cond_eq_ite]at h⊢;split at h
  ·rename_i h1;rw[f1r h1];exact ihy _ _ _ _ _ hk h
  ·rename_i h1;rw[f0j h1];exact ihz _ _ _ _ _ hk h
 |block id b ih=>
  intro R cur F H k k' hk r h;unfold a3x at h⊢;refine ih _ _ _ _ _ ?_ h;intro e F H r h;cases e with
  |normal=>exact hk _ _ _ _ h
  |exit id'=>
   simp only[cond_eq_ite]at h⊢;split at h
   ·rename_i h1;rw[f1r h1];exact hk _ _ _ _ h
   ·rename_i h1;rw[f0j h1];exact hk _ _ _ _ h
  |ret=>exact hk _ _ _ _ h
 |loop b ih=>
  intro R cur F H k k' hk r h;unfold a3x at h⊢;cases hn:a7m b with
  |some it=>rw[hn]at h;exact c65 (λF H k k' hk r h=>ih _ F H k k' hk h) hk h
  |none=>
  rw[hn]at h;dsimp only at h⊢;refine b6a (λF H k k' hk r h=>ih _ F H k k' hk h) _ _ hl F H _ _ ?_ h;intro e F H r h;rw[cond_eq_ite]at h⊢;split at h
  ·rename_i h1;rw[f1r h1];exact hk _ _ _ _ h
  ·rename_i h1;rw[f0j h1];exact hk _ _ _ _ h
 |scope b ih=>intro R cur F H k k' hk r h;unfold a3x at h⊢;exact ih _ _ _ _ _ hk h
 |rangeFunc f ps as b=>
  intro R cur F H k k' hk r h;unfold a3x at h⊢;split at h
  case h_2=>cases h
  rename_i g fs cs y _ _;rw[cond_eq_ite]at h⊢;split at h
  case isFalse=>cases h
  rename_i h1;rw[f1r h1];split at h
  case h_2=>cases h
  rename_i v H2 σ hr;rw[a86 (λa H x=>hc g a H x) hr];dsimp only;split at h
  ·exact hk _ _ _ _ h
  ·exact hk _ _ _ _ h
  ·exact hk _ _ _ _ h
  ·cases h
 |_=>intro R cur F H k k' hk r h;simp[a3x]at h
theorem b7o{lf fT:Nat}(hl:lf≤fT){args:List AV}{H:a02}{r:AV×a02}(h:a70 E c lf args H=some r):a70 E c' fT args H=some r:=by
 unfold a70 at h⊢;split at h
 case h_2=>cases h
 rename_i b vs;split at h
 case h_2=>cases h
 rename_i y F hb;split at h
 case h_2=>cases h
 rename_i ri gt;rw[cond_eq_ite]at h⊢;split at h
 case isFalse=>cases h
 rename_i h1;rw[f1r h1];refine b09 hc hl _ _ _ _ _ _ ?_ h;intro e F H r h;cases e with
 |normal=>
  dsimp only at h⊢;split at h
  case h_2=>cases h
  rename_i H1 hy;exact b09 hc hl _ _ _ _ _ _ (λ_ _ _ _ h=>h) h
 |exit id=>exact h
 |ret=>exact h
theorem d2p{m0 lf fT:Nat}(hl:lf≤fT){keep:Nat→List Nat}:∀(code:Code) {R:Type} (cur:Nat) (F:Frm) (H:a02) (k k':AExit→Frm→a02→Option R),(∀e F H r,k e F H=some r→k' e F H=some r)→∀{r:R},
 e20 E m0 N keep c lf cur code F H k=some r→e20 E m0 N keep c' fT cur code F H k'=some r:=by
 intro code
 induction code with
 |seq x y ihx ihy=>
  intro R cur F H k k' hk r h;unfold e20 at h⊢;refine ihx _ _ _ _ _ ?_ h;intro e F H r h;cases e with
  |normal=>exact ihy _ _ _ _ _ hk h
  |exit id=>exact hk _ _ _ _ h
  |ret=>exact hk _ _ _ _ h
 |_=>intro R cur F H k k' hk r h;exact b09 hc hl _ _ _ _ _ _ hk h
theorem b5p{lf fT:Nat}(hl:lf≤fT){g:FuncId}{args:List AV}{H:a02}{r:AV×a02}(h:b2v E c lf g args H=some r):b2v E c' fT g args H=some r:=by
 unfold b2v at h⊢;split at h
 ·exact h
 split at h
 ·skip
  rw[cond_eq_ite]at h⊢;split at h
  case isFalse=>cases h
  rename_i h1;rw[f1r h1];exact b7o hc hl h
 rename_i i hi;rw[cond_eq_ite]at h⊢;split at h
 case isFalse=>cases h
 rename_i h1;rw[f1r h1];unfold e8d at h⊢;cases hz:E.zf g with
 |true=>rw[hz,f2m]at h;rw[f2m];exact d2p hc hl _ _ _ _ _ _ (λ_ _ _ _ h=>h) h
 |false=>rw[hz,f2z]at h;rw[f2z];exact b09 hc hl _ _ _ _ _ _ (λ_ _ _ _ h=>h) h
end
inductive Der(E:Env)(M:List Fact):FuncId→List AV→a02→AV×a02→Prop
 |run (g:FuncId) (args:List AV) (H:a02) (r:AV×a02) (c:CallF) (lf:Nat) (hc:∀g a H r,c g a H=some r→Der E M g a H r)
  (bU:∀x∈M,x.g≠g) (h:b2v E c lf g args H=some r):Der E M g args H r
 |fact (x:Fact) (hx:x∈M) (ql:∀y∈M,y.g=x.g→y.args=x.args→y.v=x.v):Der E M x.g x.args [] (x.v,[])
open Classical in
noncomputable def e84(c c':CallF):CallF:=λg a H=>match c g a H with|some r=>some r|none=>c' g a H
theorem Der.one{E:Env}{M:List Fact}{g:FuncId}{args:List AV}{H:a02}{r r':AV×a02}(h:Der E M g args H r)(h':Der E M g args H r'):r=r':=by
 induction h generalizing r' with
 |run g args H r c lf hc bU h ih=>
  cases h' with
  |run _ _ _ _ c' fT oV hno' h'=>
   have l1:CallF.le c (e84 c c'):=by intro g a H r h;simp[e84,h]
   have l2:CallF.le c' (e84 c c'):=by
    intro g a H r h;unfold e84;cases cR:c g a H with
    |none=>exact h
    |some s=>exact congrArg some (ih g a H s cR (oV g a H r h))
   have e1:=b5p l1 (Nat.le_max_left lf fT) h;have e2:=b5p l2 (Nat.le_max_right lf fT) h';exact z9o (e1.symm.trans e2)
  |fact x hx=>exact absurd rfl (bU x hx)
 |fact x hx hf=>
  generalize hg:x.g=g at h';generalize ha:x.args=args at h';generalize hH:([]:a02)=H at h';cases h' with
  |run _ _ _ _ c' fT oV hno' h'=>exact absurd hg (hno' x hx)
  |fact y hy ls=>rw[hf y hy hg.symm ha.symm]
theorem Der.ok{E:Env}(ok:EnvOk E)(fR:DrOk E){M:List Fact}(hM:∀x∈M,a0m E x){g:FuncId}{args:List AV}{H:a02}{r:AV×a02}(h:Der E M g args H r) :
 b0d E g (λa H'=>open Classical in if a=args∧H'=H then some r else none):=by
 induction h with
 |run g args H r c lf hc bU h ih=>
  have ae:a35 E c:=by intro g a H v H' hr;have:=ih g a H (v,H') hr;exact this a H v H' (by simp)
  intro a H' v sL hr;dsimp only at hr;split at hr
  ·rename_i hh;obtain⟨rfl,rfl⟩:=hh;cases hr;exact b7p ok fR ae lf g a H' v sL h
  ·cases hr
 |fact x hx hf=>
  intro a H' v sL hr;dsimp only at hr;split at hr
  ·rename_i hh;obtain⟨rfl,rfl⟩:=hh;cases hr;intro I K ρ w ak h1 h2 h3;exact hM x hx I K ρ w ak h1 h2 h3
  ·cases hr
open Classical in
noncomputable def sem(E:Env)(M:List Fact):CallF:=λg args H=>if h:∃r,Der E M g args H r then some h.choose else none
section
variable {E:Env}{M:List Fact}
theorem b7h{g:FuncId}{args:List AV}{H:a02}{r:AV×a02}:sem E M g args H=some r↔Der E M g args H r:=by
 unfold sem;constructor
 ·intro h;split at h
  ·rename_i hh;cases h;exact hh.choose_spec
  ·cases h
 ·intro h;have hh:∃r,Der E M g args H r:=⟨r,h⟩
  rw[dif_pos hh];exact congrArg some (Der.one hh.choose_spec h)
theorem c8j{g:FuncId}{args:List AV}{H:a02}{r:AV×a02}(bU:∀x∈M,x.g≠g)(lf:Nat)(h:b2v E (sem E M) lf g args H=some r):sem E M g args H=some r:=b7h.2 (.run g args H r (sem E M) lf (λ_ _ _ _ h=>b7h.1 h) bU h)
theorem sem_ok(ok:EnvOk E)(fR:DrOk E)(hM:∀x∈M,a0m E x):a35 E (sem E M):=by intro g args H v H' h;exact(Der.ok ok fR hM (b7h.1 h)) args H v H' (by simp)
end
end Go.Ax
/- AxEv: runs of statements in direct style: what a statement comes to, for a48 loop fuel that is great enough. -/
namespace Go.Ax
def d7s{α β:Type}(x:Option α)(f:α→β)(d:β):β:=match x with|some a=>f a|none=>d
def a0k{α β:Type}(x:Option α)(f:α→Option β):Option β:=match x with|some a=>f a|none=>none
@[go_sem] theorem e2v{α β:Type}(a:α)(f:α→Option β):a0k (some a) f=f a:=by rfl
@[congr] theorem d9y{α β:Type}{x y:Option α}{f:α→Option β}(h:x=y):a0k x f=a0k y f:=by rw[h]
def a8u(E:Env)(ah:Bool)(N:Nat)(call:CallF)(all:List Oper):List Oper→List LogE→Frm→a02→Option (Frm×a02×List LogE)
 | [],log,F,H=>some (F,H,log)
 |o::af,log,F,H=>
  bif a6t N o.dst then
   match o.guard with
   |none=>a0k (a0u E ah call F H o.op) λx=>a8u E ah N call all af (x.2.2::log) (a3l F o.dst x.1) x.2.1
   |some (j,bj)=>match a2y all j with
    |none=>none
    |some d=>match a38 F d with
     |.bool b=>bif b then
      (bif bj then a0k (a0u E ah call (a3l F (some d) (.bool true)) H o.op) λx=>a8u E ah N call all af (x.2.2::log) (a3l (a3l F (some d) (.bool true)) o.dst x.1) x.2.1
      else a8u E ah N call all af (⟨[],[]⟩::log) (a3l (a3l F (some d) (.bool true)) o.dst (.tuple [])) H)
      else
       (bif bj then a8u E ah N call all af (⟨[],[]⟩::log) (a3l (a3l F (some d) (.bool false)) o.dst (.tuple [])) H
       else a0k (a0u E ah call (a3l F (some d) (.bool false)) H o.op) λx=>a8u E ah N call all af (x.2.2::log) (a3l (a3l F (some d) (.bool false)) o.dst x.1) x.2.1)
     |.tuple []=>a8u E ah N call all af (⟨[],[]⟩::log) (a3l F o.dst (.tuple [])) H
     |_=>none
  else none
theorem c20{E:Env}{ah:Bool}{N:Nat}{call:CallF}{all:List Oper}{R:Type}{k:Frm→a02→Option R}:∀(am:List Oper) (log:List LogE) (F:Frm) (H:a02),
 a2e E ah N call all am log F H k=(match a8u E ah N call all am log F H with|some (F',H',fe)=>(bif !ah||logOk all fe.length fe then k F' H' else none)|none=>none):=by
 intro am
 induction am with
 |nil=>intro log F H;rfl
 |cons o af ih=>
  intro log F H;have step:∀(F1 F2:Frm),(match a0u E ah call F1 H o.op with
   |some (v,H',l)=>a2e E ah N call all af (l::log) (a3l F2 o.dst v) H' k
   |none=>none)=(match a0k (a0u E ah call F1 H o.op) λx=>a8u E ah N call all af (x.2.2::log) (a3l F2 o.dst x.1) x.2.1 with|some (F',H',fe)=>(bif !ah||logOk all fe.length fe then k F' H' else none)|none=>none):=by
   intro F1 F2;cases a0u E ah call F1 H o.op with
   |none=>rfl
   |some x=>exact ih _ _ _
  obtain⟨dst,op,ty,pos,after,guard⟩:=o;unfold a2e a8u;cases hd:a6t N dst with
  |false=>rfl
  |true=>
   cases guard with
   |none=>exact step F F
   |some g=>
    obtain⟨j,bj⟩:=g;simp only[f2m];cases hs:a2y all j with
    |none=>rfl
    |some d=>
     simp only;cases hv:a38 F d with
     |bool b=>cases b<;>cases bj<;>simp only[f2m,f2z]<;>first|exact step _ _|exact ih _ _ _
     |tuple vs=>cases vs with
      |nil=>exact ih _ _ _
      |cons a r=>rfl
     |_=>rfl
structure Cx where
 E:Env
 M:List Fact
 m0:Nat
 N:Nat
 keep:Nat→List Nat
 cur:Nat
def Ev(x:Cx)(c:Code)(F:Frm)(H:a02)(r:AExit×Frm×a02):Prop:=∃n0,∀lf,n0≤lf→∀(R:Type) (k:AExit→Frm→a02→Option R),a3x x.E x.m0 x.N x.keep (sem x.E x.M) lf x.cur c F H k=k r.1 r.2.1 r.2.2
section
variable {x:Cx}{F F1:Frm}{H H1:a02}{r:AExit×Frm×a02}
theorem Ev.skip:Ev x .skip F H (.normal,F,H):=⟨0,λ_ _ _ _=>rfl⟩
theorem Ev.label{l}:Ev x (.label l) F H (.normal,F,H):=⟨0,λ_ _ _ _=>rfl⟩
theorem Ev.leave{id}:Ev x (.exit id) F H (.exit id,F,H):=⟨0,λ_ _ _ _=>rfl⟩
theorem Ev.ret:Ev x .ret F H (.ret,F,H):=⟨0,λ_ _ _ _=>rfl⟩
theorem e00{E:Env}{ah:Bool}{N:Nat}{call:CallF}{all am:List Oper}{log:List LogE}{F:Frm}{H:a02}{r:Frm×a02×List LogE}(h:a8u E ah N call all am log F H=some r):d42 am=none:=by
 unfold d42;split
 ·rfl
 ·rename_i o af;split
  ·rename_i it nx h1 h2 h3;obtain⟨d,op,ty,pos,after,guard⟩:=o;simp only at h1 h2 h3;subst h1 h2 h3;unfold a8u at h;have hs:a0u E ah call F H (.next (.tmp it) false)=none:=by
    have:aop E H.length (a01 H) (.next (.tmp it) false) (opv E F)=none:=by show c1h (a01 H) (opv E F (.tmp it)) false=none;unfold c1h;split<;>rfl
    unfold a0u;simp only[this]
   rw[cond_eq_ite]at h;split at h
   ·simp only[hs,a0k]at h;cases h
   ·cases h
  ·rfl
theorem Ev.region{id am ah}{log:List LogE}(h:a8u x.E ah x.N (sem x.E x.M) am.toList am.toList [] F H=some (F1,H1,log))(hl:(!ah||logOk am.toList log.length log)=true):Ev x (.region id am ah) F H (.normal,F1,H1):=⟨0,λ_ _ R k=>by simp only[a3x,e00 h,c20,h,hl,f2m]⟩
theorem Ev.seq{a b}(h:Ev x a F H (.normal,F1,H1))(h2:Ev x b F1 H1 r):Ev x (.seq a b) F H r:=by obtain⟨n,h⟩:=h;obtain⟨m,h2⟩:=h2;exact⟨max n m,λlf hl R k=>by simp only[a3x];rw[h lf (by omega)];exact h2 lf (by omega) R k⟩
theorem Ev.seq_ret{a b}(h:Ev x a F H (.ret,F1,H1)):Ev x (.seq a b) F H (.ret,F1,H1):=by obtain⟨n,h⟩:=h;exact⟨n,λlf hl R k=>by simp only[a3x];rw[h lf hl]⟩
theorem Ev.seq_exit{a b id}(h:Ev x a F H (.exit id,F1,H1)):Ev x (.seq a b) F H (.exit id,F1,H1):=by obtain⟨n,h⟩:=h;exact⟨n,λlf hl R k=>by simp only[a3x];rw[h lf hl]⟩
theorem Ev.cond_t{c a b}(hc:opv x.E F c = .bool true)(h:Ev x a F H r):Ev x (.cond c a b) F H r:=by obtain⟨n,h⟩:=h;exact⟨n,λlf hl R k=>by simp only[a3x,hc,f2m];exact h lf hl R k⟩
theorem Ev.cond_f{c a b}(hc:opv x.E F c = .bool false)(h:Ev x b F H r):Ev x (.cond c a b) F H r:=by obtain⟨n,h⟩:=h;exact⟨n,λlf hl R k=>by simp only[a3x,hc,f2z];exact h lf hl R k⟩
theorem Ev.block{id b}(h:Ev { x with cur:=id } b F H (.normal,F1,H1)):Ev x (.block id b) F H (.normal,F1,H1):=by obtain⟨n,h⟩:=h;exact⟨n,λlf hl R k=>by simp only[a3x];rw[h lf hl]⟩
theorem Ev.block_ret{id b}(h:Ev { x with cur:=id } b F H (.ret,F1,H1)):Ev x (.block id b) F H (.ret,F1,H1):=by obtain⟨n,h⟩:=h;exact⟨n,λlf hl R k=>by simp only[a3x];rw[h lf hl]⟩
theorem Ev.block_exit{id b}(h:Ev { x with cur:=id } b F H (.exit id,F1,H1)):Ev x (.block id b) F H (.normal,F1,H1):=by obtain⟨n,h⟩:=h;exact⟨n,λlf hl R k=>by simp only[a3x];rw[h lf hl];simp⟩
theorem Ev.block_on{id id' b}(h:Ev { x with cur:=id } b F H (.exit id',F1,H1))(au:(id'==id)=false):Ev x (.block id b) F H (.exit id',F1,H1):=by obtain⟨n,h⟩:=h;exact⟨n,λlf hl R k=>by simp only[a3x];rw[h lf hl];simp only[au,f2z]⟩
theorem Ev.scope{b}(h:Ev x b F H r):Ev x (.scope b) F H r:=by obtain⟨n,h⟩:=h;exact⟨n,λlf hl R k=>by simp only[a3x];exact h lf hl R k⟩
def EvL(x:Cx)(b:Code)(F:Frm)(H:a02)(r:AExit×Frm×a02):Prop:=
 ∃n0,∀lf,n0≤lf→∀n,n0≤n→∀(R:Type) (k:AExit→Frm→a02→Option R),
  b1y x.m0 (x.keep x.cur) (λF H k=>a3x x.E x.m0 x.N x.keep (sem x.E x.M) lf x.cur b F H k) n F H k=k r.1 r.2.1 r.2.2
theorem Ev.loop{b}(hx:a7m b=none)(hz:d2x (x.keep x.cur)=false)(h:EvL x b F H r):Ev x (.loop b) F H r:=by obtain⟨n,h⟩:=h;exact⟨n,λlf hl R k=>by simp only[a3x,hx,hz,f2z];exact h lf hl lf hl R k⟩
theorem Ev.loopZ{b}{e:AExit}(hx:a7m b=none)(hz:d2x (x.keep x.cur)=true)(h:EvL x b F H (e,F1,H1)):Ev x (.loop b) F H (e,c2w (x.m0+c7p (x.keep x.cur)) H1 F1,c2v (x.m0+c7p (x.keep x.cur)) H1):=by obtain⟨n,h⟩:=h;exact⟨n,λlf hl R k=>by simp only[a3x,hx,hz,f2m];exact h lf hl lf hl R _⟩
theorem d0x{m0:Nat}{keep:List Nat}(hg:gcD m0 keep F H=some (F1,H1)) :
 (a54 (b0v m0 (a1i keep F) H)&&(b0v m0 (a1i keep F) H).all (λb=>Nat.ble m0 b)&&Nat.ble m0 H.length)=true∧b50 (b8a m0 (b0v m0 (a1i keep F) H)) (a1i keep F)=F1∧gcH m0 (b0v m0 (a1i keep F) H) H=H1:=by
 unfold gcD at hg;simp only[cond_eq_ite]at hg;split at hg
 case isFalse=>cases hg
 rename_i hc;cases hg;exact⟨hc,rfl,rfl⟩
theorem EvL.leave{b:Code}{F2:Frm}{H2:a02}{e:AExit}(hg:gcD x.m0 (x.keep x.cur) F H=some (F1,H1))(h:Ev x b F1 H1 (e,F2,H2))(he:e≠ .normal):EvL x b F H (e,F2,H2):=by
 obtain⟨n0,h⟩:=h;refine⟨n0+1,λlf hl n hn R k=>?_⟩;obtain⟨n,rfl⟩:∃l,n=l+1:=⟨n-1,by omega⟩
 obtain⟨h1,h2,h3⟩:=d0x hg;simp only[b1y,h1,h2,h3,f2m];rw[h lf (by omega)];cases e with
 |normal=>exact absurd rfl he
 |exit id=>rfl
 |ret=>rfl
theorem EvL.again{b:Code}{F2:Frm}{H2:a02}(hg:gcD x.m0 (x.keep x.cur) F H=some (F1,H1))(h:Ev x b F1 H1 (.normal,F2,H2))(h':EvL x b F2 H2 r):EvL x b F H r:=by
 obtain⟨n0,h⟩:=h;obtain⟨m0,h'⟩:=h';refine⟨max n0 m0+1,λlf hl n hn R k=>?_⟩;obtain⟨n,rfl⟩:∃l,n=l+1:=⟨n-1,by omega⟩
 obtain⟨h1,h2,h3⟩:=d0x hg;simp only[b1y,h1,h2,h3,f2m];rw[h lf (by omega)];exact h' lf (by omega) n (by omega) R k
theorem c3q{E:Env}{M:List Fact}{g:FuncId}{args:List AV}{H:a02}{code:Code}{N:Nat}{results:List ResultVar}{e:AExit}{F':Frm}{H':a02}{vs:List AV}{v:AV}{H2:a02}
 (bv:E.fn g=some ⟨code,N,results⟩)(bU:∀y∈M,y.g≠g)(hN:Nat.ble args.length N=true)(h:Ev ⟨E,M,H.length,N,E.keep g,0⟩ code (a4n 0 args) H (e,F',H'))(he:∀id,e≠ .exit id)
 (hr:a18 E F' H' results=some vs)(bD:a10 (E.thaw g) H.length (a66 vs) H'=some (v,H2))(hp:E.prim g args=none)(hz:E.zf g=false):sem E M g args H=some (v,H2):=by
 obtain⟨n,h⟩:=h;refine c8j bU n ?_;unfold b2v;have pK:c5z E g args H=none:=by
  unfold c5z;cases H with
  |nil=>exact hp
  |cons a r=>rfl
 rw[pK,bv];simp only;rw[hN];simp only[f2m];unfold e8d;rw[hz];simp only[f2z];refine(h n (f1u _) _ _).trans ?_;cases e with
 |exit id=>exact absurd rfl (he id)
 |normal=>simp only[hr];exact bD
 |ret=>simp only[hr];exact bD
end
end Go.Ax
/- AxSimp: the evaluator's steps as rewrite rules. -/
namespace Go.Ax
section
variable {E:Env}{ah:Bool}{N:Nat}{call:CallF}{all af:List Oper}{log:List LogE}{F:Frm}{H:a02}
@[go_sem] theorem e7r(s:Nat)(v:AV)(r:Frm):a38 ((s,v)::r) s=v:=by simp only[a38,d2w,cond_eq_ite,beq_self_eq_true,f4b]
@[go_sem] theorem e5f{s t:Nat}(h:(s=t)=False)(v:AV)(r:Frm):a38 ((s,v)::r) t=a38 r t:=by have:¬s=t:=λe=>h▸e;simp only[a38,d2w,cond_eq_ite,f6k,f0j this]
@[go_sem] theorem e3x(d:Nat)(v:AV):a3l F (some d) v=(d,v)::F:=by rfl
@[go_sem] theorem e3y(v:AV):a3l F none v=F:=by rfl
@[go_sem] theorem e9s(t:Nat):opv E F (.tmp t)=a38 F t:=by rfl
@[go_sem] theorem e7c(f:Nat):opv E F (.func f) = .func (.func f) [] []:=by rfl
@[go_sem] theorem e7d(b:Bool):opv E F (.const (.bool b)) = .bool b:=by rfl
@[go_sem] theorem e9u(k:IntKind)(n:Int):opv E F (.const (.int k n)) = .int k n:=by rfl
@[go_sem] theorem e2u:opv E F (.const (.pointer none)) = .nilptr:=by rfl
@[go_sem] theorem d7r:opv E F (.const (.slice none 0 0)) = .nilslice:=by rfl
@[go_sem] theorem d9w:opv E F (.const .nilFunc) = .nilfunc:=by rfl
@[go_sem] theorem e9t(s:ByteArray):opv E F (.const (.string s)) = .str s.data.toList:=by rfl
@[go_sem] theorem e6w:a8u E ah N call all [] log F H=some (F,H,log):=by rfl
@[go_sem] theorem e37(d:Nat):a6t N (some d)=decide (d<N):=by rw[a6t,f6l];simp[f2p]
@[go_sem] theorem e38:a6t N none=true:=by rfl
theorem d9c(dst:Option Nat)(op:Op)(ty:TypeId)(pos:String)(after:Array Edge) :
 a8u E ah N call all ({ dst:=dst,op:=op,type:=ty,pos:=pos,after:=after,guard:=none }::af) log F H =
  bif a6t N dst then a0k (a0u E ah call F H op) λx=>a8u E ah N call all af (x.2.2::log) (a3l F dst x.1) x.2.1 else none:=by
 rfl
def d3n(E:Env)(ah:Bool)(N:Nat)(call:CallF)(all:List Oper)(dst:Option Nat)(op:Op)(af:List Oper)(log:List LogE)(F:Frm)(H:a02)(d:Nat)(bj:Bool):AV→Option (Frm×a02×List LogE)
 |.bool b=>bif b then
  (bif bj then a0k (a0u E ah call (a3l F (some d) (.bool true)) H op) λx=>a8u E ah N call all af (x.2.2::log) (a3l (a3l F (some d) (.bool true)) dst x.1) x.2.1
  else a8u E ah N call all af (⟨[],[]⟩::log) (a3l (a3l F (some d) (.bool true)) dst (.tuple [])) H)
  else
   (bif bj then a8u E ah N call all af (⟨[],[]⟩::log) (a3l (a3l F (some d) (.bool false)) dst (.tuple [])) H
   else a0k (a0u E ah call (a3l F (some d) (.bool false)) H op) λx=>a8u E ah N call all af (x.2.2::log) (a3l (a3l F (some d) (.bool false)) dst x.1) x.2.1)
 |.tuple []=>a8u E ah N call all af (⟨[],[]⟩::log) (a3l F dst (.tuple [])) H
 |_=>none
theorem c5u(dst:Option Nat)(op:Op)(ty:TypeId)(pos:String)(after:Array Edge)(j:Nat)(bj:Bool) :
 a8u E ah N call all ({ dst:=dst,op:=op,type:=ty,pos:=pos,after:=after,guard:=some (j,bj) }::af) log F H =
  bif a6t N dst then a0k (a2y all j) λd=>d3n E ah N call all dst op af log F H d bj (a38 F d)else none:=by
 unfold a8u;cases a6t N dst with
 |false=>rfl
 |true=>
  simp only[f2m];cases a2y all j with
  |none=>rfl
  |some d=>simp only[a0k];unfold d3n;rfl
section
variable {dst:Option Nat}{op:Op}{d:Nat}
theorem d98:d3n E ah N call all dst op af log F H d true (.bool true)=a0k (a0u E ah call ((d,.bool true)::F) H op) λx=>a8u E ah N call all af (x.2.2::log) (a3l ((d,.bool true)::F) dst x.1) x.2.1:=by rfl
theorem d99:d3n E ah N call all dst op af log F H d true (.bool false)=a8u E ah N call all af (⟨[],[]⟩::log) (a3l ((d,.bool false)::F) dst (.tuple [])) H:=by rfl
theorem d9a:d3n E ah N call all dst op af log F H d false (.bool true)=a8u E ah N call all af (⟨[],[]⟩::log) (a3l ((d,.bool true)::F) dst (.tuple [])) H:=by rfl
theorem d9b:d3n E ah N call all dst op af log F H d false (.bool false)=a0k (a0u E ah call ((d,.bool false)::F) H op) λx=>a8u E ah N call all af (x.2.2::log) (a3l ((d,.bool false)::F) dst x.1) x.2.1:=by rfl
theorem d97{bj:Bool}:d3n E ah N call all dst op af log F H d bj (.tuple [])=a8u E ah N call all af (⟨[],[]⟩::log) (a3l F dst (.tuple [])) H:=by cases bj<;>rfl
end
attribute [go_sem] d9c c5u d98 d99 d9a d9b d97
@[congr] theorem e2n{dst:Option Nat}{op:Op}{d:Nat}{bj:Bool}{v v':AV}(h:v=v'):d3n E ah N call all dst op af log F H d bj v=d3n E ah N call all dst op af log F H d bj v':=by rw[h]
/-! ### one operation -/
@[go_sem] theorem e98(x:Operand):a0u E ah call F H (.move x)=some (opv E F x,H,⟨[],[]⟩):=by rfl
@[go_sem] theorem e3u(x:Operand):a0u E ah call F H (.assign x)=some (opv E F x,H,⟨[],[]⟩):=by rfl
theorem a1w{op:Op}{v:Option AV}(h:aop E H.length (a01 H) op (opv E F)=v.map (·,.none))(hs:a0u E ah call F H op=match aop E H.length (a01 H) op (opv E F)with
 |some (v,e)=>bif e.fits H.length then some (v,b16 H e,⟨a89 op (opv E F),e.keys H.length⟩)else none
 |none=>none):a0u E ah call F H op=a0k v λv=>some (v,H,⟨a89 op (opv E F),[]⟩):=by
 rw[hs,h];cases v<;>rfl
@[go_sem] theorem f1l(op:BinOp)(t:TypeId)(x y:Operand)(z):a0u E ah call F H (.binOp op t x y z)=a0k (b1u E op t (opv E F x) (opv E F y) (a4h x||a4h y)) λv=>some (v,H,⟨[],[]⟩):=a1w rfl rfl
@[go_sem] theorem f4o(op:UnOp)(t:TypeId)(x:Operand):a0u E ah call F H (.unOp op t x)=a0k (aun op (opv E F x)) λv=>some (v,H,⟨[],[]⟩):=a1w rfl rfl
@[go_sem] theorem e9a(s d:TypeId)(x:Operand):a0u E ah call F H (.convert s d x)=a0k (a6v E (a01 H) s d (opv E F x)) λv=>some (v,H,⟨a0i (opv E F x),[]⟩):=a1w rfl rfl
@[go_sem] theorem e99(t:TypeId)(x:Operand):a0u E ah call F H (.load t x)=a0k (a5e E (a01 H) t (opv E F x)) λv=>some (v,H,⟨a0i (opv E F x),[]⟩):=a1w rfl rfl
@[go_sem] theorem e6s(t:TypeId)(x:Operand)(lo hi mx:Option Operand):a0u E ah call F H (.slice t x lo hi mx)=a0k (a5b E (a01 H) t (opv E F x) (lo.map (opv E F)) (hi.map (opv E F)) (mx.map (opv E F))) λv=>some (v,H,⟨a0i (opv E F x),[]⟩):=a1w rfl rfl
@[go_sem] theorem d7h(t:TypeId)(x:Operand)(f:Nat):a0u E ah call F H (.fieldAddr t x f)=a0k (a5l E t (opv E F x) f) λv=>some (v,H,⟨[],[]⟩):=a1w rfl rfl
@[go_sem] theorem d7g(t:TypeId)(x i:Operand):a0u E ah call F H (.indexAddr t x i)=a0k (a0s E (a01 H) t (opv E F x) (opv E F i)) λv=>some (v,H,⟨a0i (opv E F x),[]⟩):=a1w rfl rfl
@[go_sem] theorem e6t(t:TypeId)(ps:Array (Nat×Operand)):a0u E ah call F H (.build t ps)=a0k (b77 E t (ps.toList.map λp=>(p.1,opv E F p.2))) λv=>some (v,H,⟨[],[]⟩):=a1w rfl rfl
@[go_sem] theorem e3t(t:TypeId)(x k:Operand)(o:Bool):a0u E ah call F H (.lookup t x k o)=a0k (oor (a7j E (a01 H) t (opv E F x) (opv E F k) o) (b4u E (a01 H) t (opv E F x) (opv E F k) o)) λv=>some (v,H,⟨a0i (opv E F x),[]⟩):=a1w rfl rfl
@[go_sem] theorem d8x(fn:Fn)(first cap:Array Operand):a0u E ah call F H (.makeFunc fn first cap)=some (.func fn (first.toList.map (opv E F)) (cap.toList.map (opv E F)),H,⟨[],[]⟩):=by rfl
def c1g(c a b:AV):Option AV:=match c with|.bool t=>some (b5d t a b)|_=>none
@[go_sem] theorem e97(c a b:Operand):a0u E ah call F H (.pick c a b)=a0k (c1g (opv E F c) (opv E F a) (opv E F b)) λv=>some (v,H,⟨[],[]⟩):=by refine a1w ?_ rfl;simp only[aop,c1g];cases opv E F c<;>rfl
@[go_sem] theorem e1t(t a b:Bool):c1g (.bool t) (.bool a) (.bool b)=some (.bool (bif t then a else b)):=by rfl
@[go_sem] theorem e1s(a b:AV):c1g (.bool true) a b=some (b5d true a b):=by rfl
@[go_sem] theorem d8e(a b:AV):c1g (.bool false) a b=some (b5d false a b):=by rfl
theorem e1q(a b:AV):b5d true a b=a:=by unfold b5d;split<;>simp
theorem e1r(a b:AV):b5d false a b=b:=by unfold b5d;split<;>simp
attribute [go_sem] e1q e1r
def b05(x:AV):Option AV:=match x with
 |.ptr b i o=>some (.ptr b i o)
 |.iptr cs=>some (.iptr cs)
 |.func (.func f) fs cs=>some (.func (.func f) fs cs)
 |_=>none
attribute [go_sem] b05
@[go_sem] theorem d8w(x:Operand):a0u E ah call F H (.nilCheck x)=a0k (b05 (opv E F x)) λv=>some (v,H,⟨[],[]⟩):=by
 refine a1w ?_ rfl;simp only[aop];generalize opv E F x=y;cases y<;>try rfl
 rename_i fn _ _;cases fn<;>rfl
def b8z(x:AV)(i:Nat):Option AV:=match x with|.tuple vs=>vs[i]?|_=>none
attribute [go_sem] b8z
@[go_sem] theorem e2k(t:Operand)(i:Nat):a0u E ah call F H (.extract t i)=a0k (b8z (opv E F t) i) λv=>some (v,H,⟨[],[]⟩):=by
 refine a1w ?_ rfl;simp only[aop,b8z];cases opv E F t with
 |tuple vs=>simp only;cases vs[i]?<;>rfl
 |_=>rfl
theorem a6w{op:Op}{v:Option (AV×Eff)}(h:aop E H.length (a01 H) op (opv E F)=v)(hs:a0u E ah call F H op=match aop E H.length (a01 H) op (opv E F)with
 |some (v,e)=>bif e.fits H.length then some (v,b16 H e,⟨a89 op (opv E F),e.keys H.length⟩)else none
 |none=>none){n:List Nat}(hn:a89 op (opv E F)=n):a0u E ah call F H op=a0k v λx=>bif x.2.fits H.length then some (x.1,b16 H x.2,⟨n,x.2.keys H.length⟩)else none:=by
 rw[hs,h];subst hn;cases v<;>rfl
@[go_sem] theorem e6u(t:TypeId):a0u E ah call F H (.alloc t)=a0k (e1v E H.length t) λx=>bif x.2.fits H.length then some (x.1,b16 H x.2,⟨[],x.2.keys H.length⟩)else none:=a6w rfl rfl rfl
@[go_sem] theorem f1k(t:TypeId)(x:Operand):a0u E ah call F H (.box t x)=a0k (e27 H.length (opv E F x)) λx=>bif x.2.fits H.length then some (x.1,b16 H x.2,⟨[],x.2.keys H.length⟩)else none:=a6w rfl rfl rfl
@[go_sem] theorem e6r(t:TypeId)(a x:Operand):a0u E ah call F H (.store t a x)=a0k (a7n E (a01 H) t (opv E F a) (opv E F x)) λe=>bif e.fits H.length then some (.tuple [],b16 H e,⟨a0i (opv E F a),e.keys H.length⟩)else none:=by refine(a6w (v:=(a7n E (a01 H) t (opv E F a) (opv E F x)).map (.tuple [],·)) rfl rfl rfl).trans ?_;cases a7n E (a01 H) t (opv E F a) (opv E F x)<;>rfl
@[go_sem] theorem d3i(t:TypeId)(n:Nat)(ps:Array (Nat×Operand)):a0u E ah call F H (.buildSlice t n ps)=a0k (a3d E H.length t n (ps.toList.map λp=>(p.1,opv E F p.2))) λx=>bif x.2.fits H.length then some (x.1,b16 H x.2,⟨[],x.2.keys H.length⟩)else none:=a6w rfl rfl rfl
@[go_sem] theorem d7f(t:TypeId)(l c:Operand):a0u E ah call F H (.makeSlice t l c)=a0k (a47 E H.length t (opv E F l) (opv E F c)) λx=>bif x.2.fits H.length then some (x.1,b16 H x.2,⟨[],x.2.keys H.length⟩)else none:=a6w rfl rfl rfl
@[go_sem] theorem e2j(t:TypeId):a0u E ah call F H (.makeMap t none)=some (.map H.length,H++[some (b66 E t)],⟨[],[H.length]⟩):=by rfl
@[go_sem] theorem d7e(t:TypeId)(m k x:Operand):a0u E ah call F H (.mapUpdate t m k x)=a0k (oor (a2o E (a01 H) t (opv E F m) (opv E F k) (opv E F x)) (b5c E (a01 H) t (opv E F m) (opv E F k) (opv E F x))) λe=>bif e.fits H.length then some (.tuple [],b16 H e,⟨a0i (opv E F m),e.keys H.length⟩)else none:=by refine(a6w (v:=(oor (a2o E (a01 H) t (opv E F m) (opv E F k) (opv E F x)) (b5c E (a01 H) t (opv E F m) (opv E F k) (opv E F x))).map (.tuple [],·)) rfl rfl rfl).trans ?_;cases oor (a2o E (a01 H) t (opv E F m) (opv E F k) (opv E F x)) (b5c E (a01 H) t (opv E F m) (opv E F k) (opv E F x))<;>rfl
@[go_sem] theorem f1i(x:Operand)(t:TypeId):a0u E ah call F H (.call { callee:=.builtin .len,args:=#[x],argTypes:=#[t] })=a0k (b8v E (a01 H) t (opv E F x)) λv=>some (v,H,⟨a0i (opv E F x),[]⟩):=by refine(a1w (v:=b8v E (a01 H) t (opv E F x)) rfl rfl).trans ?_;simp[a89]
@[go_sem] theorem f1j(x:Operand)(t:TypeId):a0u E ah call F H (.call { callee:=.builtin .cap,args:=#[x],argTypes:=#[t] })=a0k (d32 E t (opv E F x)) λv=>some (v,H,⟨a0i (opv E F x),[]⟩):=by refine(a1w (v:=d32 E t (opv E F x)) rfl rfl).trans ?_;simp[a89]
@[go_sem] theorem f1g(x:Operand)(xs:List Operand)(ts:Array TypeId):a0u E ah call F H (.call { callee:=.builtin .min,args:=⟨x::xs⟩,argTypes:=ts })=a0k (d2g (opv E F x) (xs.map (opv E F))) λv=>some (v,H,⟨(x::xs).flatMap λx=>a0i (opv E F x),[]⟩):=a1w rfl rfl
@[go_sem] theorem f1h(x:Operand)(xs:List Operand)(ts:Array TypeId):a0u E ah call F H (.call { callee:=.builtin .max,args:=⟨x::xs⟩,argTypes:=ts })=a0k (d6u (opv E F x) (xs.map (opv E F))) λv=>some (v,H,⟨(x::xs).flatMap λx=>a0i (opv E F x),[]⟩):=a1w rfl rfl
@[go_sem] theorem e3v(x y:Operand)(t u:TypeId):a0u E ah call F H (.call { callee:=.builtin .append,args:=#[x,y],argTypes:=#[t,u] })=a0k (oor (a4k E (a01 H) H.length t u (opv E F x) (opv E F y)) (a2t E H.length t u (opv E F x) (opv E F y))) λz=>bif z.2.fits H.length then some (z.1,b16 H z.2,⟨a0i (opv E F x)++a0i (opv E F y),z.2.keys H.length⟩)else none:=a6w rfl rfl (by simp[a89])
@[go_sem] theorem e3k{E:Env}{n:Nat}{t u:TypeId}{x:AV}{b off len:Nat}{cap:Option Nat}:a2t E n t u (.slice b off len cap) x=none:=by unfold a2t;rfl
@[go_sem] theorem e2a{E:Env}{n:Nat}{t u:TypeId}{b off len:Nat}{cap:Option Nat}:a2t E n t u .nilslice (.slice b off len cap)=none:=by unfold a2t;rfl
@[go_sem] theorem e7f{α:Type}(x:Option α):oor x none=x:=by cases x<;>rfl
@[go_sem] theorem e7e{α:Type}(x:α)(y:Option α):oor (some x) y=some x:=by rfl
@[go_sem] theorem d9d{g:FuncId}{fs cs:List AV}{H H':a02}{σ:List Nat}:a6g E (.func (.func g) fs cs) H H' σ=(E.ro g&&σ.all λb=>b1x (a01 H b) (a01 H' b)):=by rfl
@[go_sem] theorem e5z{α:Type}(b:Bool)(x:α):(bif b then x else x)=x:=by cases b<;>rfl
@[go_sem] theorem e2y(ro:Bool)(σ:List Nat)(n:Nat):b53 ro σ n n=bif ro then[]else σ:=by unfold b53;rw[cond_eq_ite,f1r (by rw[f7g])]
attribute [go_sem] List.range'_succ List.range'_zero
@[go_sem] theorem e9b(f:Operand)(args:Array Operand)(ts:Array TypeId):a0u E ah call F H (.call { callee:=.value f,args:=args,argTypes:=ts })=a0k (a09 E ah call (opv E F f) (args.toList.map (opv E F)) H) λx=>some (x.1,x.2.1,⟨x.2.2,b53 (a6g E (opv E F f) H x.2.1 x.2.2) x.2.2 H.length x.2.1.length⟩):=by simp only[a0u];cases a09 E ah call (opv E F f) (args.toList.map (opv E F)) H<;>rfl
end
/-! ### tables read by type -/
section
variable (E:Env)
def a7k(t:TypeId):Option Bool:=(E.und t).map a2d
def a68(t:TypeId)(f:Nat):Option (Nat×TypeId):=match E.und t with|some (.struct fs)=>(fs[f]?).map λd=>(d.offset,d.type)|_=>none
def d6h(t:TypeId):Bool:=match E.und t with
 |some (.struct fs)=>fs.toList.all (λf=>(E.und f.type).isSome)
 |some (.array _ e)=>(E.und e).isSome
 |_=>false
def b9y(t:TypeId)(i:Nat):Option (Nat×Nat):=match E.und t with
 |some (.struct fs)=>(fs[i]?).map λf=>(f.offset,E.sz f.type)
 |some (.array _ e)=>some (i*E.sz e,E.sz e)
 |_=>none
def isT(t:TypeId):Bool:=(E.und t).isSome
end
section
variable {E:Env}{h:FHeap}
def d9s:Option Bool→List AV→Option AV
 |some true,cs=>some (.agg cs)
 |some false,cs=>cs.head?
 |none,_=>none
attribute [go_sem] d9s List.head?_cons
@[go_sem] theorem e4s(t:TypeId)(cs:List AV):a2k E t cs=bif decide (cs.length=E.sz t)then d9s (a7k E t) cs else none:=by
 unfold a2k a7k;have e:(cs.length==E.sz t)=decide (cs.length=E.sz t):=by by_cases h:cs.length=E.sz t<;>simp[h]
 rw[e];cases E.und t with
 |none=>cases decide (cs.length=E.sz t)<;>rfl
 |some d=>cases decide (cs.length=E.sz t)<;>simp[d9s]<;>cases a2d d<;>rfl
def fieldAt(E:Env)(p:AV)(o:Nat)(t:TypeId):Option AV:=
 bif decide (E.sz t≠0)&&isT E t then match p with
  |.ptr b i q=>some (.ptr b i (q+o))
  |.iptr cs=>some (.iptr (cs.drop o))
  |_=>none
 else none
attribute [go_sem] fieldAt
@[go_sem] theorem d8h(t:TypeId)(p:AV)(f:Nat):a5l E t p f=a0k (a68 E t f) λx=>fieldAt E p x.1 x.2:=by
 unfold a5l a68 fieldAt isT;cases E.und t with
 |none=>rfl
 |some d=>
  cases d<;>try rfl
  rename_i fs;simp only;cases fs[f]? with
  |none=>rfl
  |some fd=>
   by_cases h:E.sz fd.type=0
   ·simp[h,a0k]
   ·have e:(E.sz fd.type==0)=false:=f3k.2 h;simp[h,e,a0k];rfl
@[go_sem] theorem e8f(t:TypeId)(aq:List (Nat×AV)):b77 E t aq=bif d6h E t then a0k (E.zero t) λz=>a0k (b19 (b9y E t) z aq) λcs=>some (.agg cs)else none:=by
 unfold b77 d6h b9y;cases hz:E.zero t with
 |none=>
  simp only[a0k];cases E.und t with
  |none=>rfl
  |some d=>cases d<;>simp
 |some z=>
  cases hu:E.und t with
  |none=>rfl
  |some d=>
   cases d<;>try rfl
   ·simp only[a0k];split<;>simp_all<;>split<;>simp_all<;>rfl
   ·simp only[a0k];split<;>simp_all<;>split<;>simp_all<;>rfl
end
/-! ### values -/
section
variable {E:Env}{h:FHeap}{t:TypeId}{k:IntKind}{a b:Int}{p q:Bool}{c:Bool}
theorem ikb(k:IntKind):(k==k)=true:=by cases k<;>rfl
@[go_sem] theorem e8q:b1u E .add t (.int k a) (.int k b) c=some (.int k (k.wrap (a+b))):=by simp only[b1u,ikb,c5b,f2m]
@[go_sem] theorem e8h:b1u E .sub t (.int k a) (.int k b) c=some (.int k (k.wrap (a-b))):=by simp only[b1u,ikb,c5b,f2m]
@[go_sem] theorem e8j(hb:(b=0)=False):b1u E .quo t (.int k a) (.int k b) c=some (.int k (k.wrap (a.tdiv b))):=by
 have:(b==0)=false:=by rw[f3k];exact λe=>hb▸e
 simp only[b1u,ikb,c5b,f2m,this,f2z]
@[go_sem] theorem e8i(hb:(b=0)=False):b1u E .rem t (.int k a) (.int k b) c=some (.int k (a.tmod b)):=by
 have:(b==0)=false:=by rw[f3k];exact λe=>hb▸e
 simp only[b1u,ikb,c5b,f2m,this,f2z]
def e9z(k:IntKind)(a b:Int):Int:=k.wrap (BitVec.ofInt k.bits a^^^BitVec.ofInt k.bits b).toNat
@[go_sem] theorem e8g:b1u E .xor t (.int k a) (.int k b) c=some (.int k (e9z k a b)):=by simp only[b1u,ikb,c5b,f2m,e9z]
theorem f3t(a b:Int):(a==b)=decide (a=b):=by
 by_cases h:a=b
 ·subst h;simp
 ·rw[f3k.2 h,f7a h]
@[go_sem] theorem e8p:b1u E .eql t (.int k a) (.int k b) c=some (.bool (decide (a=b))):=by simp only[b1u,ikb,c5b,f2m,f3t]
@[go_sem] theorem e8k:b1u E .neq t (.int k a) (.int k b) c=some (.bool (!decide (a=b))):=by simp only[b1u,ikb,c5b,f2m,bne,f3t]
@[go_sem] theorem e8l:b1u E .lss t (.int k a) (.int k b) c=some (.bool (decide (a<b))):=by simp only[b1u,ikb,c5b,f2m]
@[go_sem] theorem e8m:b1u E .leq t (.int k a) (.int k b) c=some (.bool (decide (a≤b))):=by simp only[b1u,ikb,c5b,f2m]
@[go_sem] theorem e8n:b1u E .gtr t (.int k a) (.int k b) c=some (.bool (decide (b<a))):=by simp only[b1u,ikb,c5b,f2m]
@[go_sem] theorem e8o:b1u E .geq t (.int k a) (.int k b) c=some (.bool (decide (b≤a))):=by simp only[b1u,ikb,c5b,f2m]
@[go_sem] theorem f0w:aun .not (.bool p)=some (.bool (!p)):=by rfl
@[go_sem] theorem e3m(o:Option AObj)(r:a02):a01 (o::r) 0=o:=by simp[a01]
@[go_sem] theorem e3n(o:Option AObj)(r:a02)(n:Nat):a01 (o::r) (n+1)=a01 r n:=by simp[a01]
@[go_sem] theorem e6k(n:Nat):a01 [] n=none:=by rfl
def slT(E:Env)(t:TypeId):Option TypeId:=match E.und t with|some (.slice e)=>some e|_=>none
theorem a3y{e:TypeId}:slT E t=some e↔E.und t=some (.slice e):=by
 unfold slT;constructor
 ·intro h;split at h
  ·rename_i cQ;cases h;exact cQ
  ·cases h
 ·intro h;rw[h]
def b1f:Option AObj→Option (Nat×List (List AV))
 |some (.row k rows)=>some (k,rows)
 |_=>none
attribute [go_sem] b1f
def rowAt(rows:List (List AV))(i:Int):Option (List AV):=if 0≤i then rows[i.toNat]? else none
@[go_sem] theorem c8s(rows:List (List AV))(n:Nat):rowAt rows (n:Int)=rows[n]?:=by simp[rowAt]
theorem c8r{rows:List (List AV)}{i:Int}(h:0≤i):rowAt rows i=rows[i.toNat]?:=by simp[rowAt,h]
def inR(i:Int)(n:Nat):Bool:=decide (0≤i)&&decide (i<n)
@[go_sem] theorem c2p(j n:Nat):inR (j:Int) n=decide (j<n):=by
 unfold inR;rw[f2x (by omega:(0:Int)≤j),f5n];by_cases h:j<n
 ·rw[f2x h,f2x (by omega)]
 ·rw[f7a h,f7a (by omega)]
theorem b8x{i:Int}{n:Nat}:c7e (.int k i) n=bif inR i n then some i.toNat else none:=rfl
@[go_sem] theorem e3h{b o n:Nat}{cp:Option Nat}(hs:(slT E t).isSome=true):b8v E h t (.slice b o n cp)=some (.int .i64 n):=by obtain⟨e,he⟩:=f0c.1 hs;simp only[b8v,a3y.1 he]
@[go_sem] theorem e1y{rows:List (List AV)}{cp:Option Nat}(hs:(slT E t).isSome=true):b8v E h t (.islice rows cp)=some (.int .i64 rows.length):=by obtain⟨e,he⟩:=f0c.1 hs;simp only[b8v,a3y.1 he]
@[go_sem] theorem e8c(hs:(slT E t).isSome=true):b8v E h t .nilslice=some (.int .i64 0):=by obtain⟨e,he⟩:=f0c.1 hs;simp only[b8v,a3y.1 he]
@[go_sem] theorem e24{rows:List (List AV)}{c:Nat}(hs:(slT E t).isSome=true):d32 E t (.islice rows (some c))=some (.int .i64 c):=by obtain⟨e,he⟩:=f0c.1 hs;simp only[d32,a3y.1 he]
@[go_sem] theorem e8e(hs:(slT E t).isSome=true):d32 E t .nilslice=some (.int .i64 0):=by obtain⟨e,he⟩:=f0c.1 hs;simp only[d32,a3y.1 he]
def b56(E:Env)(e:Option TypeId)(r:Option (List AV)):Option AV:=match e,r with
 |some e,some r=>bif isT E e&&decide (r.length=E.sz e)then some (.iptr r)else none
 |_,_=>none
attribute [go_sem] b56
theorem c1b(a b:Nat):(a==b)=decide (a=b):=by
 by_cases h:a=b
 ·subst h;simp
 ·rw[f3k.2 h,f7a h]
@[go_sem] theorem b3u{rows:List (List AV)}{cp:Option Nat}{i:Int}:a0s E h t (.islice rows cp) (.int k i)=match slT E t with|some e=>b56 E (some e) (rowAt rows i)|none=>a0s E h t (.islice rows cp) (.int k i):=by
 cases hs:slT E t with
 |none=>rfl
 |some e=>
  have hu:=a3y.1 hs;simp only[a0s,hu,b8x,inR,b56,isT];by_cases h0:0≤i
  ·rw[f2x h0,c8r h0];by_cases h1:i<rows.length
   ·rw[f2x h1];have:i.toNat<rows.length:=by omega
    simp only[z9e this,f4t,f2m,c1b];cases(E.und e).isSome<;>rfl
   ·rw[f7a h1];rw[f2n (by omega)];simp
  ·simp[h0,rowAt]
def f03(E:Env)(e:Option TypeId)(ok:Bool)(r:Option (Nat×List (List AV)))(b j:Nat):Option AV:=match e,r with
 |some e,some r=>bif isT E e&&ok&&decide (r.1=E.sz e)then some (.ptr b j 0)else none
 |_,_=>none
attribute [go_sem] f03 Int.toNat_natCast
@[go_sem] theorem e32{b o n:Nat}{cp:Option Nat}{i:Int}:a0s E h t (.slice b o n cp) (.int k i)=match slT E t with|some e=>f03 E (some e) (inR i n) (b1f (h b)) b (o+i.toNat)|none=>a0s E h t (.slice b o n cp) (.int k i):=by
 cases hs:slT E t with
 |none=>rfl
 |some e=>
  have hu:=a3y.1 hs;simp only[a0s,hu,b8x,f03,isT];cases hb:h b with
  |none=>cases inR i n<;>simp[b1f]
  |some o=>cases o<;>cases inR i n<;>simp[b1f,c1b];cases(E.und e).isSome<;>simp
def c59(E:Env)(t:TypeId):Option (Nat×TypeId):=match E.und t with|some (.array m e)=>some (m,e)|_=>none
theorem d6p{m:Nat}{e:TypeId}:c59 E t=some (m,e)→E.und t=some (.array m e):=by
 unfold c59;intro h;split at h
 ·rename_i cQ;cases h;exact cQ
 ·cases h
def b6j(E:Env)(n:Nat)(e:TypeId)(p:AV)(j:Int):Option AV:=
 bif inR j n&&isT E e then match p with
  |.ptr b i o=>some (.ptr b i (o+j.toNat*E.sz e))
  |.iptr cs=>some (.iptr (cs.drop (j.toNat*E.sz e)))
  |_=>none
 else none
@[go_sem] theorem e31(n:Nat)(e:TypeId)(b i o:Nat)(j:Int):b6j E n e (.ptr b i o) j=bif inR j n&&isT E e then some (.ptr b i (o+j.toNat*E.sz e))else none:=by rfl
@[go_sem] theorem e0n(n:Nat)(e:TypeId)(cs:List AV)(j:Int):b6j E n e (.iptr cs) j=bif inR j n&&isT E e then some (.iptr (cs.drop (j.toNat*E.sz e)))else none:=by rfl
theorem c4e{n:Nat}{e:TypeId}{p:AV}{j:Int}(hu:c59 E t=some (n,e)):a0s E h t p (.int k j)=b6j E n e p j:=by
 simp only[a0s,d6p hu,b8x,b6j,isT];cases inR j n with
 |false=>rfl
 |true=>simp only[f2m,f5n];cases(E.und e).isSome<;>cases p<;>rfl
@[go_sem] theorem e7q{b i o:Nat}{j:Int}:a0s E h t (.ptr b i o) (.int k j)=match c59 E t with|some (n,e)=>b6j E n e (.ptr b i o) j|none=>a0s E h t (.ptr b i o) (.int k j):=by
 cases hu:c59 E t with
 |none=>rfl
 |some x=>exact c4e hu
@[go_sem] theorem e5a{cs:List AV}{j:Int}:a0s E h t (.iptr cs) (.int k j)=match c59 E t with|some (n,e)=>b6j E n e (.iptr cs) j|none=>a0s E h t (.iptr cs) (.int k j):=by
 cases hu:c59 E t with
 |none=>rfl
 |some x=>exact c4e hu
@[go_sem] theorem f5x(n:Nat):inR 0 n=decide (0<n):=c2p 0 n
@[go_sem] theorem e90:Int.toNat 0=0:=by rfl
@[go_sem] theorem f5w(n:Nat):inR 1 n=decide (1<n):=c2p 1 n
@[go_sem] theorem e8z:Int.toNat 1=1:=by rfl
@[go_sem] theorem f5v(n:Nat):inR 2 n=decide (2<n):=c2p 2 n
@[go_sem] theorem e8y:Int.toNat 2=2:=by rfl
@[go_sem] theorem e3g{cs:List AV}:a5e E h t (.iptr cs)=a2k E t (cs.take (E.sz t)):=by rfl
@[go_sem] theorem e6f{b i o:Nat}:a5e E h t (.ptr b i o)=a0k (b1f (h b)) λkr=>a0k (kr.2[i]?) λr=>a2k E t ((r.drop o).take (E.sz t)):=by
 unfold a5e;cases hb:h b with
 |none=>simp only[hb];rfl
 |some ob=>cases ob<;>simp only[hb,b1f,a0k];rename_i rows;cases rows[i]?<;>rfl
@[go_sem] theorem e3c{b i o:Nat}{x:AV}:a7n E h t (.ptr b i o) x=a0k (b1f (h b)) λkr=>a0k (kr.2[i]?) λr=>
 bif decide (x.cells.length=E.sz t)&&isT E t&&Nat.ble (o+x.cells.length) r.length&&x.cells.all AV.storable then some (.set b (.row kr.1 (kr.2.set i (splice r o x.cells))))else none:=by
 unfold a7n;cases hb:h b with
 |none=>simp only[hb];rfl
 |some ob=>cases ob<;>simp only[hb,b1f,a0k];rename_i rows;cases rows[i]?<;>simp only[isT,c1b]
@[go_sem] theorem f3v{n:Nat}:e1v E n t=a0k (E.zero t) λz=>bif decide (0<z.length)then some (.ptr n 0 0,.new (.row z.length [z]))else none:=by
 unfold e1v;cases E.zero t with
 |none=>rfl
 |some z=>simp only[a0k];cases z<;>rfl
@[go_sem] theorem f3w{n:Nat}{x:AV}:e27 n x=bif !x.isJunk&&decide (0<x.cells.length)then some (.ptr n 0 0,.new (.row x.cells.length [x.cells]))else none:=by
 have e:Nat.blt 0 x.cells.length=decide (0<x.cells.length):=by rw[f6l];simp[f2p]
 cases x<;>simp only[e27,e,AV.isJunk,Bool.not_false,f5n,f6m,Bool.false_and,f2z]
theorem d30(a b:Nat):Nat.ble a b=decide (a≤b):=by rw[f6l];simp[f4k]
theorem c55(a b:Nat):Nat.blt a b=decide (a<b):=by rw[f6l];simp[f2p]
attribute [go_sem] d30 c55
@[go_sem] theorem e6v(r:List AV)(o:Nat)(cs:List AV):splice r o cs=r.take o++cs++r.drop (o+cs.length):=by rfl
def c9p(E:Env)(e:TypeId)(l c:Int):Bool:=decide (0≤l)&&decide (l≤c)&&decide (c≤281474976710656)&&decide ((E.bytes e:Int)*c≤281474976710656)
@[go_sem] theorem d8g{n:Nat}{k':IntKind}{l c:Int}:a47 E n t (.int k l) (.int k' c)=a0k (slT E t) λe=>a0k (E.zero e) λz=>bif c9p E e l c&&decide (0<z.length)then
 some (AV.slice n 0 l.toNat (some c.toNat),Eff.new (.row z.length (List.replicate c.toNat z)))else none:=by
 cases hs:slT E t with
 |none=>
  unfold a47;unfold slT at hs;cases hu:E.und t with
  |none=>rfl
  |some d=>cases d<;>first|rfl|(rw[hu]at hs;cases hs)
 |some e=>have hu:=a3y.1 hs;simp only[a47,hu,a0k,c9p,c55];cases E.zero e<;>rfl
theorem a8k{e:TypeId}{m:Nat}(h:m≤1000000000)(hb:E.bytes e≤1000):c9p E e (m:Int) (m:Int)=true:=by
 unfold c9p;have h1:E.bytes e*m≤1000*1000000000:=Nat.mul_le_mul hb h;have h2:((E.bytes e:Int)*(m:Int))=((E.bytes e*m:Nat):Int):=by simp
 rw[h2];simp only[e9l,f0l];omega
@[go_sem] theorem d71{n m:Nat}{ps:List (Nat×AV)}:a3d E n t m ps=a0k (slT E t) λe=>a0k (E.zero e) λz=>bif decide (0<z.length)&&decide (m*z.length≤16777216)then
 a0k (b4s z.length (List.replicate m z) ps) λrows=>some (AV.slice n 0 m (some m),Eff.new (.row z.length rows))else none:=by
 cases hs:slT E t with
 |none=>
  unfold a3d;unfold slT at hs;cases hu:E.und t with
  |none=>rfl
  |some d=>cases d<;>first|rfl|(rw[hu]at hs;cases hs)
 |some e=>
  have hu:=a3y.1 hs;simp only[a3d,hu,a0k];cases E.zero e with
  |none=>rfl
  |some z=>
   simp only[c55,d30];cases decide (0<z.length)&&decide (m*z.length≤16777216)with
   |false=>rfl
   |true=>simp only[f2m];cases b4s z.length (List.replicate m z) ps<;>rfl
@[go_sem] theorem e6b(m:Nat)(rows:List (List AV)):b4s m rows []=some rows:=by rfl
@[go_sem] theorem e3f(m:Nat)(rows:List (List AV))(i:Nat)(v:AV)(r:List (Nat×AV)):b4s m rows ((i,v)::r)=bif !v.isJunk&&decide (v.cells.length=m)&&decide (i<rows.length)then b4s m (rows.set i v.cells) r else none:=by simp only[b4s,c1b,c55]
@[go_sem] theorem e6g(pl:Nat→Option (Nat×Nat))(cs:List AV):b19 pl cs []=some cs:=by rfl
@[go_sem] theorem e3i(pl:Nat→Option (Nat×Nat))(cs:List AV)(i:Nat)(v:AV)(r:List (Nat×AV)):b19 pl cs ((i,v)::r)=a0k (pl i) λx=>bif !v.isJunk&&decide (v.cells.length=x.2)&&decide (x.1+x.2≤cs.length)then b19 pl (splice cs x.1 v.cells) r else none:=by
 simp only[b19];cases pl i with
 |none=>rfl
 |some x=>simp only[a0k,c1b,d30]
@[go_sem] theorem e5u{H:a02}:b16 H .none=H:=by rfl
@[go_sem] theorem e83{H:a02}{o:AObj}:b16 H (.new o)=H++[some o]:=by rfl
@[go_sem] theorem e82{H:a02}{b:Nat}{o:AObj}:b16 H (.set b o)=H.set b (some o):=by rfl
@[go_sem] theorem e5v{H:a02}{b:Nat}{o:AObj}:b16 H (.kill b o)=H.set b none++[some o]:=by rfl
@[go_sem] theorem e81{n:Nat}{o:AObj}:Eff.fits n (.new o)=true:=by rfl
@[go_sem] theorem e5n{n:Nat}:Eff.fits n .none=true:=by rfl
@[go_sem] theorem e80{n b:Nat}{o:AObj}:Eff.fits n (.set b o)=decide (b<n):=c55 b n
@[go_sem] theorem e5o{n b:Nat}{o:AObj}:Eff.fits n (.kill b o)=decide (b<n):=c55 b n
attribute [go_sem] List.all_cons List.all_nil List.set_cons_zero List.set_cons_succ List.set_nil List.replicate_zero
end
@[go_sem] theorem e3b(b:Bool):AV.cells (.bool b)=[(AV.bool b)]:=by rfl
@[go_sem] theorem d3h(b:Bool):AV.storable (.bool b)=true:=by rfl
@[go_sem] theorem e62(k:IntKind)(n:Int):AV.cells (.int k n)=[(AV.int k n)]:=by rfl
@[go_sem] theorem d7d(k:IntKind)(n:Int):AV.storable (.int k n)=true:=by rfl
@[go_sem] theorem e7m(k:IntKind)(n:Int):AV.isJunk (.int k n)=false:=by rfl
@[go_sem] theorem e2i(k:IntKind)(n:Int):a0i (.int k n)=[]:=by rfl
@[go_sem] theorem e61(s:List UInt8):AV.cells (.str s)=[(AV.str s)]:=by rfl
@[go_sem] theorem d7c(s:List UInt8):AV.storable (.str s)=true:=by rfl
@[go_sem] theorem e7l(s:List UInt8):AV.isJunk (.str s)=false:=by rfl
@[go_sem] theorem d2z:AV.cells .nilslice=[AV.nilslice]:=by rfl
@[go_sem] theorem c5o:AV.storable .nilslice=true:=by rfl
@[go_sem] theorem d4q:AV.isJunk .nilslice=false:=by rfl
@[go_sem] theorem c7x:a0i .nilslice=[]:=by rfl
@[go_sem] theorem e2g(b i o:Nat):a0i (.ptr b i o)=[b]:=by rfl
@[go_sem] theorem d8u(l:List AV):a0i (.iptr l)=[]:=by rfl
@[go_sem] theorem e1h(b o n:Nat)(c:Option Nat):AV.cells (.slice b o n c)=[(AV.slice b o n c)]:=by rfl
@[go_sem] theorem d2v(b o n:Nat)(c:Option Nat):AV.storable (.slice b o n c)=true:=by rfl
@[go_sem] theorem e30(b o n:Nat)(c:Option Nat):AV.isJunk (.slice b o n c)=false:=by rfl
@[go_sem] theorem d7b(b o n:Nat)(c:Option Nat):a0i (.slice b o n c)=[b]:=by rfl
@[go_sem] theorem d8a(r:List (List AV))(c:Option Nat):AV.cells (.islice r c)=[(AV.islice r c)]:=by rfl
@[go_sem] theorem c87(r:List (List AV))(c:Option Nat):AV.storable (.islice r c)=true:=by rfl
@[go_sem] theorem e0i(r:List (List AV))(c:Option Nat):AV.isJunk (.islice r c)=false:=by rfl
@[go_sem] theorem d3d(r:List (List AV))(c:Option Nat):a0i (.islice r c)=[]:=by rfl
@[go_sem] theorem e2h(b:Nat):a0i (.map b)=[b]:=by rfl
@[go_sem] theorem e3a(f:Fn)(a b:List AV):AV.cells (.func f a b)=[(AV.func f a b)]:=by rfl
@[go_sem] theorem d3g(f:Fn)(a b:List AV):AV.storable (.func f a b)=true:=by rfl
@[go_sem] theorem e58(f:Fn)(a b:List AV):AV.isJunk (.func f a b)=false:=by rfl
@[go_sem] theorem e63(l:List AV):AV.cells (.agg l)=l:=by rfl
@[go_sem] theorem e7n(l:List AV):AV.isJunk (.agg l)=false:=by rfl
@[go_sem] theorem e55(n:Nat):Eff.keys n .none=[]:=by rfl
@[go_sem] theorem e7k(n:Nat)(o:AObj):Eff.keys n (.new o)=[n]:=by rfl
@[go_sem] theorem e7j(n b:Nat)(o:AObj):Eff.keys n (.set b o)=[b]:=by rfl
@[go_sem] theorem e56(n b:Nat)(o:AObj):Eff.keys n (.kill b o)=[b,n]:=by rfl
@[go_sem] theorem f5e:1+1=2:=by rfl
@[go_sem] theorem f5d:2+1=3:=by rfl
@[go_sem] theorem f5c:3+1=4:=by rfl
@[go_sem] theorem f5b:4+1=5:=by rfl
@[go_sem] theorem f5a:5+1=6:=by rfl
@[go_sem] theorem f4z:6+1=7:=by rfl
@[go_sem] theorem f4y:7+1=8:=by rfl
@[go_sem] theorem f4x:8+1=9:=by rfl
@[go_sem] theorem f4w:9+1=10:=by rfl
@[go_sem] theorem f2e:10+1=11:=by rfl
@[go_sem] theorem f2d:11+1=12:=by rfl
@[go_sem] theorem f1z:2+2=4:=by rfl
@[go_sem] theorem f1y:2+3=5:=by rfl
@[go_sem] theorem f1x:3+2=5:=by rfl
@[go_sem] theorem f1w:3+3=6:=by rfl
@[go_sem] theorem f1v:3+4=7:=by rfl
@[go_sem] theorem f2c:1+2=3:=by rfl
@[go_sem] theorem f2b:1+3=4:=by rfl
@[go_sem] theorem f2a:1+4=5:=by rfl
@[go_sem] theorem e70{α:Type}(a:α):List.replicate 1 a=[a]:=by rfl
@[go_sem] theorem e6z{α:Type}(a:α):List.replicate 2 a=[a,a]:=by rfl
@[go_sem] theorem e6y{α:Type}(a:α):List.replicate 3 a=[a,a,a]:=by rfl
attribute [go_sem] List.map_cons List.map_nil List.append_nil List.nil_append List.cons_append List.length_cons List.length_nil a2d cond_true cond_false Option.map_some Option.map_none List.drop_zero List.drop_succ_cons List.take_succ_cons List.take_zero List.drop_nil List.take_nil List.getElem?_cons_zero List.getElem?_cons_succ List.getElem?_nil Nat.zero_add Nat.add_zero Nat.zero_mul Nat.mul_one decide_true decide_false Bool.and_true Bool.true_and Bool.and_false Bool.false_and Bool.or_true Bool.true_or Bool.or_false Bool.false_or Bool.not_true Bool.not_false Option.bind_some Option.isSome_some a2y decide_eq_true_eq
end Go.Ax
/- AxFlat: values that refer to no mutable block: renaming and freezing leave them; calls on them. -/
namespace Go.Ax
mutual
theorem a0x(π:Nat→Option Nat):∀(v:AV),refs v=[]→ren π v=v
 |.ptr ..,h=>by simp[refs]at h
 |.slice ..,h=>by simp[refs]at h
 |.map ..,h=>by simp[refs]at h
 |.yfn ..,h=>by simp[refs]at h
 |.func fn fs cs,h=>by simp only[refs,f6u]at h;simp only[ren,a6h π fs h.1,a6h π cs h.2]
 |.iface t x,h=>by simp only[refs]at h;simp only[ren,a0x π x h]
 |.agg cs,h=>by simp only[refs]at h;simp only[ren,a6h π cs h]
 |.tuple cs,h=>by simp only[refs]at h;simp only[ren,a6h π cs h]
 |.junk,_|.bool _,_|.int ..,_|.str _,_|.nilptr,_|.nilslice,_|.nilmap,_|.nilfunc,_|.nilifc,_|.iptr _,_|.islice ..,_|.imap ..,_|.iset _,_=>rfl
theorem a6h(π:Nat→Option Nat):∀(l:List AV),a08 l=[]→b5s π l=l
 | [],_=>rfl
 |v::vs,h=>by simp only[a08,f6u]at h;simp only[b5s,a0x π v h.1,a6h π vs h.2]
end
theorem a3q(π:Nat→Option Nat){l:List AV}(h:a08 l=[]):l.map (ren π)=l:=by rw[←a72];exact a6h π l h
mutual
theorem a4i(m:Nat)(top:Bool)(d:AV→Option AV):∀(v:AV),refs v=[]→a3i m top d v=some v
 |.ptr ..,h=>by simp[refs]at h
 |.slice ..,h=>by simp[refs]at h
 |.map ..,h=>by simp[refs]at h
 |.yfn ..,h=>by simp[refs]at h
 |.func fn fs cs,h=>by simp only[refs,f6u]at h;simp only[a3i,a6q m top d fs h.1,a6q m top d cs h.2]
 |.iface t x,h=>by simp only[refs]at h;simp only[a3i,a4i m top d x h]
 |.agg cs,h=>by simp only[refs]at h;simp only[a3i,a6q m top d cs h]
 |.tuple cs,h=>by simp only[refs]at h;simp only[a3i,a6q m top d cs h]
 |.junk,_|.bool _,_|.int ..,_|.str _,_|.nilptr,_|.nilslice,_|.nilmap,_|.nilfunc,_|.nilifc,_|.iptr _,_|.islice ..,_|.imap ..,_|.iset _,_=>rfl
theorem a6q(m:Nat)(top:Bool)(d:AV→Option AV):∀(l:List AV),a08 l=[]→a5i m top d l=some l
 | [],_=>rfl
 |v::vs,h=>by simp only[a08,f6u]at h;simp only[a5i,a4i m top d v h.1,a6q m top d vs h.2]
end
def FlatR(rows:List (List AV)):Prop:=∀r∈rows,a08 r=[]
theorem FlatR.nil:FlatR []:=λr h=>by simp at h
theorem FlatR.cons{r:List AV}{rows:List (List AV)}(h:a08 r=[])(hs:FlatR rows):FlatR (r::rows):=by
 intro x hx;simp only[f2s]at hx;rcases hx with rfl|hx
 ·exact h
 ·exact hs x hx
theorem FlatR.append{a b:List (List AV)}(h:FlatR a)(k:FlatR b):FlatR (a++b):=by intro x hx;simp only[f2w]at hx;exact hx.elim (h x) (k x)
theorem FlatR.map{α:Type}{f:α→List AV}{l:List α}(h:∀x,a08 (f x)=[]):FlatR (l.map f):=by intro x hx;simp only[f4l]at hx;obtain⟨y,_,rfl⟩:=hx;exact h y
theorem FlatR.replicate{n:Nat}{r:List AV}(h:a08 r=[]):FlatR (List.replicate n r):=by intro x hx;rw[(List.mem_replicate.1 hx).2];exact h
theorem a0e{rows:List (List AV)}(h:FlatR rows):rows.flatMap a08=[]:=by rw[List.flatMap_eq_nil_iff];exact h
theorem a0b(π:Nat→Option Nat){rows:List (List AV)}(h:FlatR rows):rows.map (λr=>r.map (ren π))=rows:=by
 conv=>rhs;rw[←List.map_id rows]
 exact f3h λr hr=>a3q π (h r hr)
theorem a1g(m:Nat)(d:AV→Option AV):∀{rows:List (List AV)},FlatR rows→a8m m d rows=some rows
 | [],_=>rfl
 |r::rs,h=>by simp only[a8m,a6q m false d r (h r (by simp)),a1g m d (rows:=rs) (λx hx=>h x (by simp[hx]))]
/-! ### slices that are immutable, nil or not -/
def sl(c:Option (Option Nat))(rows:List (List AV)):AV:=match c,rows with
 |none,[]=>.nilslice
 |none,r::rs=>.islice (r::rs) none
 |some c,rows=>.islice rows c
@[go_sem] theorem c1w(c:Option Nat)(rows:List (List AV)):sl (some c) rows = .islice rows c:=by cases rows<;>rfl
@[go_sem] theorem d91:sl none [] = .nilslice:=by rfl
@[go_sem] theorem a7t(r:List AV)(rs:List (List AV)):sl none (r::rs) = .islice (r::rs) none:=by rfl
theorem b5l{rows:List (List AV)}(h:rows≠[]):sl none rows = .islice rows none:=by cases rows with|nil=>exact absurd rfl h|cons=>rfl
@[go_sem] theorem a33(c:Option (Option Nat))(rows:List (List AV)):refs (sl c rows)=[]:=by cases c<;>cases rows<;>rfl
@[go_sem] theorem b5q(π:Nat→Option Nat)(c:Option (Option Nat))(rows:List (List AV)):ren π (sl c rows)=sl c rows:=a0x π _ (a33 c rows)
@[go_sem] theorem e3p(c:Option (Option Nat))(rows:List (List AV)):a0i (sl c rows)=[]:=by cases c<;>cases rows<;>rfl
@[go_sem] theorem e86(c:Option (Option Nat))(rows:List (List AV)):(sl c rows).cells=[sl c rows]:=by cases c<;>cases rows<;>rfl
@[go_sem] theorem d8v(c:Option (Option Nat))(rows:List (List AV)):(sl c rows).storable=true:=by cases c<;>cases rows<;>rfl
@[go_sem] theorem e9y(c:Option (Option Nat))(rows:List (List AV)):(sl c rows).isJunk=false:=by cases c<;>cases rows<;>rfl
section
variable {E:Env}{h:FHeap}{t e:TypeId}{c:Option (Option Nat)}{rows:List (List AV)}{k:IntKind}
@[go_sem] theorem f1a(hs:(slT E t).isSome=true):b8v E h t (sl c rows)=some (.int .i64 rows.length):=by obtain⟨e,he⟩:=f0c.1 hs;have ht:=a3y.1 he;cases c<;>cases rows<;>simp[sl,b8v,ht]
@[go_sem] theorem f04{i:Int}:a0s E h t (sl c rows) (.int k i)=match slT E t with|some e=>b56 E (some e) (rowAt rows i)|none=>a0s E h t (sl c rows) (.int k i):=by
 cases c with
 |some c=>rw[c1w];exact b3u
 |none=>cases rows with
  |nil=>
   cases hs:slT E t with
   |none=>rfl
   |some e=>
    have hu:=a3y.1 hs;simp only[sl,a0s,hu,b56];cases h2:rowAt [] i with
    |none=>simp
    |some r=>unfold rowAt at h2;split at h2<;>simp at h2
  |cons a l=>exact b3u
end
/-! ### calls -/
@[go_sem] theorem f0r(a:AV):a4n 0 [a]=[(0,a)]:=by rfl
@[go_sem] theorem f0q(a b:AV):a4n 0 [a,b]=[(0,a),(1,b)]:=by rfl
@[go_sem] theorem f0p(a b c:AV):a4n 0 [a,b,c]=[(0,a),(1,b),(2,c)]:=by rfl
@[go_sem] theorem f0o(a b c d:AV):a4n 0 [a,b,c,d]=[(0,a),(1,b),(2,c),(3,d)]:=by rfl
@[go_sem] theorem f0n(a b c d e:AV):a4n 0 [a,b,c,d,e]=[(0,a),(1,b),(2,c),(3,d),(4,e)]:=by rfl
theorem a5t(n:Nat)(H1:a02):∀(b:Nat) (H:a02),a0w [] n H1 b H=H
 |_,[]=>rfl
 |b,o::r=>by simp only[a0w,List.idxOf?_nil,a5t n H1 (b+1) r]
theorem c1a{run:List AV→a02→Option (AV×a02)}{args:List AV}{H:a02}{v:AV}(ha:a08 args=[])(h:run args []=some (v,[]))(hv:refs v=[]):a1r run args H=some (v,H,[]):=by
 unfold a1r;have hr:a2p H a53 (a08 args) []=[]:=by rw[ha];rfl
 simp only[hr,a54,List.all_nil,f4t,f2m,a3q _ ha,a1k,e9p,h,a0x _ v hv,a5t,List.drop_nil,e9n,f0g]
theorem a04{E:Env}{ah:Bool}{call:CallF}{g:FuncId}{fs cs ar args:List AV}{H:a02}{v:AV}(hx:E.ext g=false)(hf:(E.fn g).isSome=true)(he:fs++ar++cs=args)(ha:a08 args=[])(h:call g args []=some (v,[]))(hv:refs v=[]) :
 a09 E ah call (.func (.func g) fs cs) ar H=some (v,H,[]):=by
 simp only[a09,hx,hf,he,f2m,f2z,c1a ha h hv];cases ah
 ·rfl
 ·simp only[f5n];rw[show Nat.ble H.length H.length=true by rw[f4k];exact f1u _];rfl
@[go_sem] theorem e79(k:IntKind)(n:Int):refs (.int k n)=[]:=by rfl
@[go_sem] theorem e4h(b:Bool):refs (.bool b)=[]:=by rfl
@[go_sem] theorem e76(s:List UInt8):refs (.str s)=[]:=by rfl
@[go_sem] theorem c25(r:List (List AV))(c:Option Nat):refs (.islice r c)=[]:=by rfl
@[go_sem] theorem e4f(r:List AV):refs (.iptr r)=[]:=by rfl
@[go_sem] theorem b7r:refs .nilslice=[]:=by rfl
@[go_sem] theorem a1a(l:List AV):refs (.agg l)=a08 l:=by rfl
@[go_sem] theorem b0n(l:List AV):refs (.tuple l)=a08 l:=by rfl
@[go_sem] theorem e4g(f:Fn)(a b:List AV):refs (.func f a b)=a08 a++a08 b:=by rfl
@[go_sem] theorem e77(b i o:Nat):refs (.ptr b i o)=[b]:=by rfl
@[go_sem] theorem b0o(b i o:Nat)(c:Option Nat):refs (.slice b i o c)=[b]:=by rfl
@[go_sem] theorem e78(b:Nat):refs (.map b)=[b]:=by rfl
@[go_sem] theorem a3r:a08 []=[]:=by rfl
@[go_sem] theorem a0c(v:AV)(l:List AV):a08 (v::l)=refs v++a08 l:=by rfl
/-! ### what a loop's head keeps -/
/-! ### globals -/
def gV:Option (List AV)→AV|some cs=>.iptr cs|none=>.junk
@[go_sem] theorem e7b{E:Env}{F:Frm}(g:Nat):opv E F (.global g)=gV (E.G g):=by simp only[opv,gV];cases E.G g<;>rfl
@[go_sem] theorem f05(cs:List AV):gV (some cs) = .iptr cs:=by rfl
end Go.Ax
/- AxBits: words of 64 bits; sums that fit. -/
namespace Go.Ax
def u64(x:BitVec 64):AV:=.int .u64 (x.toNat:Int)
section
variable {E:Env}{t:TypeId}{c:Bool}{x y:BitVec 64}{k:IntKind}
def d55(E:Env)(t:TypeId):Option IntKind:=match E.und t with|some (.int k)=>some k|_=>none
theorem c4b{k:IntKind}:d55 E t=some k→E.und t=some (.int k):=by
 unfold d55;intro h;split at h
 ·rename_i cQ;cases h;exact cQ
 ·cases h
def cvI(k:IntKind)(n:Int):AV:=.int k (k.wrap n)
@[go_sem] theorem f0u(n:Int):cvI .i64 n = .int .i64 (IntKind.i64.wrap n):=by rfl
@[go_sem] theorem f3q(n:Int):cvI .u8 n = .int .u8 (IntKind.u8.wrap n):=by rfl
@[go_sem] theorem e85{h:FHeap}{s d:TypeId}{k:IntKind}{n:Int}(hs:isT E s=true):a6v E h s d (.int k n)=match d55 E d with|some k'=>some (cvI k' n)|none=>a6v E h s d (.int k n):=by
 cases hd:d55 E d with
 |none=>rfl
 |some k'=>have hu:=c4b hd;obtain⟨ds,cZ⟩:=f0c.1 (show(E.und s).isSome=true from hs);simp only[a6v,hu,cZ];cases ds<;>simp[d70,hu,cZ,cvI]
theorem w64{n:Int}(h1:-9223372036854775808≤n)(h2:n≤9223372036854775807):IntKind.i64.wrap n=n:=IntWalk.i64_in n ⟨h1,h2⟩
end
end Go.Ax
/- AxWp: what a statement comes to, by a condition on the end. -/
namespace Go.Ax
@[go_sem] theorem e57(F:Frm):a1i [] F=[]:=by rfl
@[go_sem] theorem e2z(s:Nat)(r:List Nat)(F:Frm):a1i (s::r) F=(s,a38 F s)::a1i r F:=by rfl
@[go_sem] theorem a42{v:AV}{H:a02}(h:refs v=[]):a10 false 0 v H=some (v,[]):=by simp only[a10,a4i _ _ _ _ h,f2q,e9p,f2z]
@[go_sem] theorem e4o(v:AV):a66 [v]=v:=by rfl
@[go_sem] theorem c9b(v w:AV)(l:List AV):a66 (v::w::l) = .tuple (v::w::l):=by rfl
@[go_sem] theorem e89{E:Env}{F:Frm}{H:a02}:a18 E F H []=some []:=by rfl
@[go_sem] theorem e88{E:Env}{F:Frm}{H:a02}(t:Nat)(r:List ResultVar):a18 E F H (.tmp t::r)=a0k (a18 E F H r) λvs=>some (a38 F t::vs):=by simp only[a18];cases a18 E F H r<;>rfl
@[go_sem] theorem e6d{E:Env}{F:Frm}{H:a02}(a t:Nat)(r:List ResultVar):a18 E F H (.cell a t::r)=a0k (a5e E (a01 H) t (a38 F a)) λv=>a0k (a18 E F H r) λvs=>some (v::vs):=by simp only[a18];cases a5e E (a01 H) t (a38 F a)<;>cases a18 E F H r<;>rfl
abbrev b1v:=AExit→Frm→a02→Prop
def bk(id:Nat)(Q:b1v):b1v:=λe F H=>match e with|.exit i=>if i=id then Q .normal F H else Q (.exit i) F H|e=>Q e F H
def WpR:Code→Cx→Frm→a02→b1v→Prop
 |.skip,_,F,H,Q=>Q .normal F H
 |.label _,_,F,H,Q=>Q .normal F H
 |.exit id,_,F,H,Q=>Q (.exit id) F H
 |.ret,_,F,H,Q=>Q .ret F H
 |.seq a b,x,F,H,Q=>WpR a x F H λe F H=>match e with|.normal=>WpR b x F H Q|e=>Q e F H
 |.block id b,x,F,H,Q=>WpR b { x with cur:=id } F H (bk id Q)
 |.scope b,x,F,H,Q=>WpR b x F H Q
 |c,x,F,H,Q=>∃e F' H',Ev x c F H (e,F',H')∧Q e F' H'
def Wp(x:Cx)(c:Code)(F:Frm)(H:a02)(Q:b1v):Prop:=WpR c x F H Q
def sq(x:Cx)(b:Code)(Q:b1v):b1v:=λe F H=>match e with|.normal=>Wp x b F H Q|e=>Q e F H
def cx(E:Env)(M:List Fact)(m N:Nat)(g:FuncId)(cur:Nat):Cx:=⟨E,M,m,N,E.keep g,cur⟩
def lp{σ:Type}(m:Nat)(keep:List Nat)(Fs:σ→Frm)(Hs:σ→a02)(cD:σ→Nat)(Inv:σ→Prop)(n:Nat)(Q:b1v):b1v:=λe F H=>match e with|.normal=>∃s,gcD m keep F H=some (Fs s,Hs s)∧cD s<n∧Inv s|e=>Q e F H
def fq(E:Env)(g:FuncId)(m:Nat)(results:List ResultVar)(r:AV×a02):b1v:=λe F H=>match e with|.exit _=>False|_=>∃vs,a18 E F H results=some vs∧a10 (E.thaw g) m (a66 vs) H=some r
def lpJ(m:Nat)(keep:List Nat)(J:Nat→Frm→a02→Prop)(n:Nat)(Q:b1v):b1v:=λe F H=>match e with|.normal=>∃F1 H1 n',gcD m keep F H=some (F1,H1)∧n'<n∧J n' F1 H1|e=>Q e F H
@[irreducible] def d7y:AV→Option Bool|.bool b=>some b|_=>none
@[go_sem] theorem f2f:d7y (.bool true)=some true:=by unfold d7y;rfl
@[go_sem] theorem f2g:d7y (.bool false)=some false:=by unfold d7y;rfl
theorem e0c{v:AV}{t:Bool}(h:d7y v=some t):v = .bool t:=by
 unfold d7y at h;split at h
 ·cases h;rfl
 ·cases h
def hs(E:Env)(M:List Fact)(N:Nat):Code→Frm→a02→Frm→a02→List LogE→Bool→Prop
 |.region id am ah,F,H,F1,H1,log,t=>(a8u E ah N (sem E M) am.toList am.toList [] F H,true)=(some (F1,H1,log),t)
 |.cond c a b,F,H,F1,H1,log,t=>(d7y (opv E F c),F,H,[])=(some t,F1,H1,log)
 |_,_,_,_,_,_,_=>False
def sd:Code→List LogE→Bool
 |.region id am ah,log=>!ah||logOk am.toList log.length log
 |_,_=>true
def ct(x:Cx):Code→Bool→Frm→a02→b1v→Prop
 |.region id am ah,t,F,H,Q=>Q .normal F H
 |.cond c a b,t,F,H,Q=>Wp x (bif t then a else b) F H Q
 |_,_,_,_,_=>False
@[go_sem] theorem f9m(E:Env)(M:List Fact)(N:Nat)(id am ah F H F1 H1 log t):hs E M N (.region id am ah) F H F1 H1 log t=((a8u E ah N (sem E M) am.toList am.toList [] F H,true)=(some (F1,H1,log),t)):=by rfl
@[go_sem] theorem f9n(E:Env)(M:List Fact)(N:Nat)(c a b F H F1 H1 log t):hs E M N (.cond c a b) F H F1 H1 log t=((d7y (opv E F c),F,H,[])=(some t,F1,H1,log)):=by rfl
theorem wx:(∀x id am ah t F H Q,ct x (.region id am ah) t F H Q=Q .normal F H)∧(∀x c a b F H Q,ct x (.cond c a b) true F H Q=Wp x a F H Q)∧(∀x c a b F H Q,ct x (.cond c a b) false F H Q=Wp x b F H Q):=⟨λ_ _ _ _ _ _ _ _=>rfl,λ_ _ _ _ _ _ _=>rfl,λ_ _ _ _ _ _ _=>rfl⟩
theorem ww:(∀x F H Q,Wp x .skip F H Q=Q .normal F H)∧(∀x F H Q l,Wp x (.label l) F H Q=Q .normal F H)∧(∀x F H Q i,Wp x (.exit i) F H Q=Q (.exit i) F H)∧(∀x F H Q,Wp x .ret F H Q=Q .ret F H)∧
 (∀x a b F H Q,Wp x (.seq a b) F H Q=Wp x a F H (sq x b Q))∧(∀E M m N g cur i b F H Q,Wp (cx E M m N g cur) (.block i b) F H Q=Wp (cx E M m N g i) b F H (bk i Q))∧(∀x b F H Q,Wp x (.scope b) F H Q=Wp x b F H Q)∧
 (∀x b F H Q,sq x b Q .normal F H=Wp x b F H Q)∧(∀x b F H Q i,sq x b Q (.exit i) F H=Q (.exit i) F H)∧(∀x b F H Q,sq x b Q .ret F H=Q .ret F H)∧
 (∀i F H Q,bk i Q .normal F H=Q .normal F H)∧(∀i F H Q,bk i Q .ret F H=Q .ret F H)∧(∀i F H Q,bk i Q (.exit i) F H=Q .normal F H)∧(∀i j F H Q,(j=i)=False→bk i Q (.exit j) F H=Q (.exit j) F H)∧
 (∀m keep J n Q i F H,lpJ m keep J n Q (.exit i) F H=Q (.exit i) F H)∧(∀m keep J n Q F H,lpJ m keep J n Q .ret F H=Q .ret F H)∧
 (∀(σ:Type) m keep (Fs:σ→Frm) Hs cD Inv n Q i F H,lp m keep Fs Hs cD Inv n Q (.exit i) F H=Q (.exit i) F H)∧(∀(σ:Type) m keep (Fs:σ→Frm) Hs cD Inv n Q F H,lp m keep Fs Hs cD Inv n Q .ret F H=Q .ret F H)∧
 (∀a b:Code,cond true a b=a)∧(∀a b:Code,cond false a b=b)∧
 (∀x id am ah t F H Q,ct x (.region id am ah) t F H Q=Q .normal F H)∧(∀x c a b F H Q,ct x (.cond c a b) true F H Q=Wp x a F H Q)∧(∀x c a b F H Q,ct x (.cond c a b) false F H Q=Wp x b F H Q):=
 ⟨λ_ _ _ _=>rfl,λ_ _ _ _ _=>rfl,λ_ _ _ _ _=>rfl,λ_ _ _ _=>rfl,λ_ _ _ _ _ _=>rfl,λ_ _ _ _ _ _ _ _ _ _ _=>rfl,λ_ _ _ _ _=>rfl,λ_ _ _ _ _=>rfl,λ_ _ _ _ _ _=>rfl,λ_ _ _ _ _=>rfl,
  λ_ _ _ _=>rfl,λ_ _ _ _=>rfl,λi F H Q=>by simp only[bk,f1r],λi j F H Q h=>by simp only[bk,h,f7c],λ_ _ _ _ _ _ _ _=>rfl,λ_ _ _ _ _ _ _=>rfl,λ_ _ _ _ _ _ _ _ _ _ _ _=>rfl,λ_ _ _ _ _ _ _ _ _ _ _=>rfl,λ_ _=>rfl,λ_ _=>rfl,wx⟩
theorem c1p:∀(c:Code) {x:Cx} {F:Frm} {H:a02} {Q:b1v},Wp x c F H Q→∃e F' H',Ev x c F H (e,F',H')∧Q e F' H':=by
 intro c
 induction c with
 |skip=>intro x F H Q h;exact⟨_,_,_,Ev.skip,h⟩
 |label l=>intro x F H Q h;exact⟨_,_,_,Ev.label,h⟩
 |exit i=>intro x F H Q h;exact⟨_,_,_,Ev.leave,h⟩
 |ret=>intro x F H Q h;exact⟨_,_,_,Ev.ret,h⟩
 |seq a b iha ihb=>
  intro x F H Q h;obtain⟨e,F',H',h1,h2⟩:=iha h;cases e with
  |normal=>obtain⟨e2,F2,H2,h3,h4⟩:=ihb h2;exact⟨e2,F2,H2,Ev.seq h1 h3,h4⟩
  |exit id=>exact⟨_,_,_,Ev.seq_exit h1,h2⟩
  |ret=>exact⟨_,_,_,Ev.seq_ret h1,h2⟩
 |block id b ih=>
  intro x F H Q h;obtain⟨e,F',H',h1,h2⟩:=ih h;cases e with
  |normal=>exact⟨_,_,_,Ev.block h1,h2⟩
  |exit i=>
   by_cases hi:i=id
   ·subst hi;simp only[bk,f1r]at h2;exact⟨_,_,_,Ev.block_exit h1,h2⟩
   ·simp only[bk,f0j hi]at h2;exact⟨_,_,_,Ev.block_on h1 (by simpa using hi),h2⟩
  |ret=>exact⟨_,_,_,Ev.block_ret h1,h2⟩
 |scope b ih=>intro x F H Q h;obtain⟨e,F',H',h1,h2⟩:=ih h;exact⟨e,F',H',Ev.scope h1,h2⟩
 |_=>intro x F H Q h;exact h
theorem d8m:∀{c:Code} {x:Cx} {F:Frm} {H:a02} {Q Q':b1v},Wp x c F H Q→(∀e F H,Q e F H→Q' e F H)→Wp x c F H Q':=by
 intro c
 induction c with
 |skip=>intro x F H Q Q' h hq;exact hq _ _ _ h
 |label l=>intro x F H Q Q' h hq;exact hq _ _ _ h
 |exit i=>intro x F H Q Q' h hq;exact hq _ _ _ h
 |ret=>intro x F H Q Q' h hq;exact hq _ _ _ h
 |seq a b iha ihb=>
  intro x F H Q Q' h hq;refine iha (Q:=sq x b Q) (Q':=sq x b Q') h ?_;intro e F H h;cases e with
  |normal=>exact ihb (x:=x) h hq
  |exit id=>exact hq _ _ _ h
  |ret=>exact hq _ _ _ h
 |block id b ih=>
  intro x F H Q Q' h hq;refine ih (Q:=bk id Q) (Q':=bk id Q') h ?_;intro e F H h;cases e with
  |normal=>exact hq _ _ _ h
  |exit i=>
   simp only[bk]at h⊢;split
   ·rename_i hi;rw[f1r hi]at h;exact hq _ _ _ h
   ·rename_i hi;rw[f0j hi]at h;exact hq _ _ _ h
  |ret=>exact hq _ _ _ h
 |scope b ih=>intro x F H Q Q' h hq;exact ih (x:=x) h hq
 |_=>intro x F H Q Q' h hq;obtain⟨e,F',H',h1,h2⟩:=h;exact⟨e,F',H',h1,hq _ _ _ h2⟩
section
variable {x:Cx}{F F1:Frm}{H H1:a02}{Q:b1v}
theorem xs{E:Env}{M:List Fact}{m N:Nat}{g:FuncId}{cur:Nat}{id am ah}{log:List LogE}(h:a8u E ah N (sem E M) am.toList am.toList [] F H=some (F1,H1,log))(hl:(!ah||logOk am.toList log.length log)=true)(hq:Q .normal F1 H1):Wp (cx E M m N g cur) (.region id am ah) F H Q:=⟨_,_,_,Ev.region h hl,hq⟩
theorem xI{E:Env}{M:List Fact}{m N:Nat}{g:FuncId}{cur:Nat}{c a b t}(hc:opv E F c = .bool t)(h:Wp (cx E M m N g cur) (bif t then a else b) F H Q):Wp (cx E M m N g cur) (.cond c a b) F H Q:=by
 cases t
 ·obtain⟨e,F',H',h1,h2⟩:=c1p _ h;exact⟨e,F',H',Ev.cond_f hc h1,h2⟩
 ·obtain⟨e,F',H',h1,h2⟩:=c1p _ h;exact⟨e,F',H',Ev.cond_t hc h1,h2⟩
theorem xT{a b}(h:Wp x a F H Q):Wp x (bif true then a else b) F H Q:=h
theorem xF{a b}(h:Wp x b F H Q):Wp x (bif false then a else b) F H Q:=h
theorem d76{E:Env}{M:List Fact}{m N:Nat}{g:FuncId}{cur:Nat}{keep:List Nat}{b:Code}(hk:E.keep g cur=keep)(J:Nat→Frm→a02→Prop)(n0:Nat)(h0:∃F1 H1,gcD m keep F H=some (F1,H1)∧J n0 F1 H1)
 (h:∀n F1 H1,J n F1 H1→Wp (cx E M m N g cur) b F1 H1 (lpJ m keep J n Q)):∃r:AExit×Frm×a02,Q r.1 r.2.1 r.2.2∧EvL (cx E M m N g cur) b F H r:=by
 subst hk;have key:∀n F H F1 H1,gcD m (E.keep g cur) F H=some (F1,H1)→J n F1 H1→∃r:AExit×Frm×a02,Q r.1 r.2.1 r.2.2∧EvL (cx E M m N g cur) b F H r:=by
  intro n
  induction n using Nat.strongRecOn with
  |ind n ih=>
   intro F H F1 H1 hg hJ;obtain⟨e,F',H',h1,h2⟩:=c1p _ (h n F1 H1 hJ);cases e with
   |normal=>obtain⟨F2,H2,n',g1,g2,g3⟩:=h2;obtain⟨r,hr,hl⟩:=ih n' g2 F' H' F2 H2 g1 g3;exact⟨r,hr,EvL.again (x:=cx E M m N g cur) hg h1 hl⟩
   |exit id=>exact⟨(_,_,_),h2,EvL.leave (x:=cx E M m N g cur) hg h1 (λh=>by cases h)⟩
   |ret=>exact⟨(_,_,_),h2,EvL.leave (x:=cx E M m N g cur) hg h1 (λh=>by cases h)⟩
 obtain⟨F1,H1,hg,hJ⟩:=h0;exact key n0 F H F1 H1 hg hJ
theorem a1x{E:Env}{M:List Fact}{m N:Nat}{g:FuncId}{cur:Nat}{keep:List Nat}{b:Code}(hk:E.keep g cur=keep)(J:Nat→Frm→a02→Prop)(n0:Nat)(h0:∃F1 H1,gcD m keep F H=some (F1,H1)∧J n0 F1 H1)
 (h:∀n F1 H1,J n F1 H1→Wp (cx E M m N g cur) b F1 H1 (lpJ m keep J n Q))(hz:d2x keep=false:=by rfl)(hx:a7m b=none:=by rfl):Wp (cx E M m N g cur) (.loop b) F H Q:=by
 obtain⟨⟨e,F',H'⟩,hr,hl⟩:=d76 hk J n0 h0 h;exact⟨e,F',H',Ev.loop hx (by rw[←hk]at hz;exact hz) hl,hr⟩
def fz(m:Nat)(Q:b1v):b1v:=λe F H=>Q e (c2w m H F) (c2v m H)
theorem d8n{E:Env}{M:List Fact}{m N:Nat}{g:FuncId}{cur:Nat}{keep:List Nat}{b:Code}(hk:E.keep g cur=keep)(hz:d2x keep=true)(j:Nat)(hj:c7p keep=j)(J:Nat→Frm→a02→Prop)(n0:Nat)(h0:∃F1 H1,gcD m keep F H=some (F1,H1)∧J n0 F1 H1)
 (h:∀n F1 H1,J n F1 H1→Wp (cx E M m N g cur) b F1 H1 (lpJ m keep J n (fz (m+j) Q)))(hx:a7m b=none:=by rfl):Wp (cx E M m N g cur) (.loop b) F H Q:=by
 obtain⟨⟨e,F',H'⟩,hr,hl⟩:=d76 hk J n0 h0 h;subst hk;subst hj;exact⟨e,_,_,Ev.loopZ hx (x:=cx E M m N g cur) hz hl,hr⟩
theorem d75{E:Env}{M:List Fact}{m N:Nat}{g:FuncId}{cur:Nat}{keep:List Nat}{b:Code}(hk:E.keep g cur=keep)(hz:d2x keep=true)(J:Nat→Frm→a02→Prop)(n0:Nat)(h0:∃F1 H1,gcD m keep F H=some (F1,H1)∧J n0 F1 H1)
 (h:∀n F1 H1,J n F1 H1→Wp (cx E M m N g cur) b F1 H1 (lpJ m keep J n (fz m Q)))(hx:a7m b=none:=by rfl)(hj:c7p keep=0:=by rfl):Wp (cx E M m N g cur) (.loop b) F H Q:=d8n hk hz 0 hj J n0 h0 h hx
theorem a1j{E:Env}{M:List Fact}{m N:Nat}{g:FuncId}{cur:Nat}{keep:List Nat}{b:Code}(hk:E.keep g cur=keep){σ:Type}(Fs:σ→Frm)(Hs:σ→a02)(cD:σ→Nat)(Inv:σ→Prop)(s0:σ)(h0:gcD m keep F H=some (Fs s0,Hs s0))(hi:Inv s0)
 (h:∀s,Inv s→Wp (cx E M m N g cur) b (Fs s) (Hs s) (lp m keep Fs Hs cD Inv (cD s) Q))(hz:d2x keep=false:=by rfl)(hx:a7m b=none:=by rfl):Wp (cx E M m N g cur) (.loop b) F H Q:=by
 refine a1x hk (λn F1 H1=>∃s,F1=Fs s∧H1=Hs s∧n=cD s∧Inv s) (cD s0) ⟨_,_,h0,s0,rfl,rfl,rfl,hi⟩ ?_ hz hx
 rintro n F1 H1 ⟨s,rfl,rfl,rfl,hs⟩
 refine d8m (h s hs) ?_;intro e F' H' h2;cases e with
 |normal=>obtain⟨s',g1,g2,g3⟩:=h2;exact⟨_,_,_,g1,g2,s',rfl,rfl,rfl,g3⟩
 |exit id=>exact h2
 |ret=>exact h2
theorem a2q{E:Env}{M:List Fact}{m N:Nat}{g:FuncId}{cur:Nat}{keep:List Nat}(hk:E.keep g cur=keep){b:Code}{σ:Type}(Fs:σ→Frm)(Hs:σ→a02)(cD:σ→Nat)(Inv:σ→Prop)(s0:σ)(h0:gcD m keep F H=some (Fs s0,Hs s0))(hi:Inv s0)
 (_:∀s,Inv s→gcD m keep (Fs s) (Hs s)=some (Fs s,Hs s))(h:∀s,Inv s→Wp (cx E M m N g cur) b (Fs s) (Hs s) (lp m keep Fs Hs cD Inv (cD s) Q))(hz:d2x keep=false:=by rfl)(hx:a7m b=none:=by rfl):Wp (cx E M m N g cur) (.loop b) F H Q:=a1j hk Fs Hs cD Inv s0 h0 hi h hz hx
theorem a0p{m:Nat}{keep:List Nat}{J:Nat→Frm→a02→Prop}{n:Nat}(n':Nat)(hn:n'<n)(h:∃F1 H1,gcD m keep F H=some (F1,H1)∧J n' F1 H1):lpJ m keep J n Q .normal F H:=by obtain⟨F1,H1,h1,h2⟩:=h;exact⟨F1,H1,n',h1,hn,h2⟩
theorem a4g{σ:Type}{m:Nat}{keep:List Nat}{Fs:σ→Frm}{Hs:σ→a02}{cD:σ→Nat}{Inv:σ→Prop}{n:Nat}(s:σ)(h1:gcD m keep F H=some (Fs s,Hs s))(h2:cD s<n)(h3:Inv s):lp m keep Fs Hs cD Inv n Q .normal F H:=⟨s,h1,h2,h3⟩
theorem a6r{E:Env}{g:FuncId}{m:Nat}{results:List ResultVar}{r:AV×a02}{vs:List AV}(h1:a18 E F H results=some vs)(h2:a10 (E.thaw g) m (a66 vs) H=some r):fq E g m results r .ret F H:=⟨vs,h1,h2⟩
end
theorem e3z{E:Env}{M:List Fact}{g:FuncId}{args:List AV}{H:a02}{code:Code}{N:Nat}{results:List ResultVar}{r:AV×a02}
 (bv:E.fn g=some ⟨code,N,results⟩)(bU:∀y∈M,y.g≠g)(hN:Nat.ble args.length N=true){m:Nat}(hm:H.length=m)(h:Wp (cx E M m N g 0) code (a4n 0 args) H (fq E g m results r))(hp:E.prim g args=none:=by rfl)(hz:E.zf g=false:=by rfl):sem E M g args H=some r:=by
 subst hm;obtain⟨e,F',H',h1,h2⟩:=c1p _ h;obtain⟨v,H2⟩:=r;cases e with
 |normal=>obtain⟨vs,h3,h4⟩:=h2;exact c3q bv bU hN h1 (λ_ h=>by cases h) h3 h4 hp hz
 |ret=>obtain⟨vs,h3,h4⟩:=h2;exact c3q bv bU hN h1 (λ_ h=>by cases h) h3 h4 hp hz
 |exit id=>exact h2.elim
theorem xa{E:Env}{M:List Fact}{m N:Nat}{g:FuncId}{cur:Nat}{c:Code}{F F1:Frm}{H H1:a02}{log:List LogE}{t:Bool}{Q:b1v}(h:hs E M N c F H F1 H1 log t)(hl:sd c log=true)(k:ct (cx E M m N g cur) c t F1 H1 Q):Wp (cx E M m N g cur) c F H Q:=by
 cases c with
 |region id am ah=>exact xs (congrArg Prod.fst h) hl k
 |cond c a b=>have h1:opv E F c = .bool t:=e0c (congrArg Prod.fst h);have h2:(F,H,([]:List LogE))=(F1,H1,log):=congrArg Prod.snd h;cases h2;exact xI h1 k
 |_=>exact k.elim
theorem gS:(∀a b:Code,(some a).getD b=a)∧(∀l:List ResultVar,(List.toArray l).toList=l):=⟨λ_ _=>rfl,λ_=>rfl⟩
def AExit.fin:AExit→Bool
 |.exit _=>false
 |_=>true
@[go_sem] theorem f6a:AExit.ret.fin=true:=by rfl
theorem fqb{E:Env}{g:FuncId}{m:Nat}{results:List ResultVar}{r:AV×a02}{e:AExit}{F:Frm}{H:a02}(h:(bif e.fin then a0k (a18 E F H results) λvs=>a10 (E.thaw g) m (a66 vs) H else none)=some r):fq E g m results r e F H:=by
 cases ha:a18 E F H results with
 |none=>rw[ha]at h;cases e<;>cases h
 |some vs=>
  rw[ha]at h;cases e with
  |exit i=>cases h
  |_=>exact⟨vs,ha,h⟩
theorem sv{E:Env}{M:List Fact}{g:FuncId}{args:List AV}{H:a02}{r:AV×a02}(f:Func)(h:Wp (cx E M H.length f.ntmps g 0) (f.body.getD .skip) (a4n 0 args) H (fq E g H.length f.results.toList r))(bv:E.fn g=some ⟨f.body.getD .skip,f.ntmps,f.results.toList⟩:=by kernel_rfl)
 (bU:(M.all λy=>!Nat.beq y.g g)=true:=by rfl)(hN:Nat.ble args.length f.ntmps=true:=by rfl)(hp:E.prim g args=none:=by rfl)(hz:E.zf g=false:=by rfl):sem E M g args H=some r:=e3z bv (λy hy e=>by
 have:=f2u.1 bU y hy;rw[e]at this;simp at this) hN rfl h hp hz
end Go.Ax
/- AxTyp: d8q abstract values, taken apart. -/
namespace Go.Ax
section
variable {E:Env}{n:Nat}{t e:TypeId}{aM:List AV}
theorem a6b{α:Type}{f:α→List AV}{P:α→Prop}(hs:slT E t=some e)(he:∀r,Typ E n e r→∃x,P x∧r=f x)(h:Typ E (n+1) t aM) :
 ∃(c:Option (Option Nat)) (l:List α),aM=[sl c (l.map f)]∧l.length≤maxLen∧∀x∈l,P x:=by
 simp only[Typ,a3y.1 hs]at h;rcases h with rfl|⟨rows,cap,rfl,h1,h2,h3⟩
 ·exact⟨none,[],rfl,by simp,by simp⟩
 ·have key:∀rows:List (List AV),(∀r∈rows,r.length=E.sz e∧Typ E n e r)→∃l:List α,rows=l.map f∧∀x∈l,P x:=by
   intro rows
   induction rows with
   |nil=>intro _;exact⟨[],rfl,by simp⟩
   |cons r rs ih=>
    intro hh;obtain⟨x,hx,rfl⟩:=he r (hh r (by simp)).2;obtain⟨l,rfl,hl⟩:=ih (λr hr=>hh r (by simp[hr]));refine⟨x::l,rfl,?_⟩;intro y hy;simp only[f2s]at hy;rcases hy with rfl|hy
    ·exact hx
    ·exact hl y hy
  obtain⟨l,rfl,hl⟩:=key rows h3;exact⟨some (some cap),l,by rw[c1w],by simpa using f7j h1 h2,hl⟩
theorem d8r{k:IntKind}(hk:d55 E t=some k)(h:Typ E (n+1) t aM):∃i,aM=[.int k i]∧(Lit.int k i).wf=true:=by simpa only[Typ,c4b hk]using h
theorem a49(hk:d55 E t=some .u8)(h:Typ E (n+1) t aM):∃i:Nat,aM=[.int .u8 i]∧i<256:=by
 obtain⟨i,h1,h2⟩:=d8r hk h;simp only[Lit.wf,e9l,f0l]at h2;have e1:IntKind.u8.min=0:=by rfl
 have e2:IntKind.u8.max=255:=by rfl
 rw[e1,e2]at h2;exact⟨i.toNat,by rw[h1,Int.toNat_of_nonneg h2.1],by omega⟩
theorem b7c(hb:E.und t=some .bool)(h:Typ E (n+1) t aM):∃b,aM=[.bool b]:=by simpa only[Typ,hb]using h
def b13(E:Env)(t:TypeId):Option (List TypeId):=match E.und t with|some (.struct fs)=>some (fs.toList.map (·.type))|_=>none
def c5e(E:Env)(n:Nat):List TypeId→List AV→Prop
 | [],aM=>aM=[]
 |t::ts,aM=>∃p r,aM=p++r∧Typ E n t p∧c5e E n ts r
theorem a8c{ts:List TypeId}(hf:b13 E t=some ts)(h:Typ E (n+1) t aM):c5e E n ts aM:=by
 unfold b13 at hf;split at hf
 case h_2=>cases hf
 rename_i fs hu;cases hf;simp only[Typ,hu]at h;obtain⟨aq,rfl,h1,h2⟩:=h;have key:∀(fs:List Field) (aq:List (List AV)),aq.length=fs.length→(∀(i:Nat) f p,fs[i]?=some f→aq[i]?=some p→p.length=E.sz f.type∧Typ E n f.type p)→c5e E n (fs.map (·.type)) aq.flatten:=by
  intro fs
  induction fs with
  |nil=>intro aq hl _;have:=List.length_eq_zero_iff.1 hl;subst this;rfl
  |cons f fs ih=>
   intro aq hl hh;cases aq with
   |nil=>simp at hl
   |cons p aq=>exact⟨p,aq.flatten,by simp,(hh 0 f p rfl rfl).2,ih aq (by simpa using hl) (λi f p hf hp=>hh (i+1) f p (by simpa using hf) (by simpa using hp))⟩
 exact key fs.toList aq h1 h2
theorem b2l{m:Nat}(hf:c59 E t=some (m,e))(h:Typ E (n+1) t aM):c5e E n (List.replicate m e) aM:=by
 unfold c59 at hf;split at hf
 case h_2=>cases hf
 rename_i m' e' hu;cases hf;simp only[Typ,hu]at h;obtain⟨aq,rfl,h1,h2⟩:=h;subst h1;clear hu
 induction aq with
 |nil=>rfl
 |cons p aq ih=>simp only[e9m,f6o];exact⟨p,aq.flatten,by simp,(h2 p (by simp)).2,ih (λq hq=>h2 q (by simp[hq]))⟩
theorem typA_one{a:AV}(hg:a7k E t=some false)(h:d8i E n t a):Typ E n t [a]:=by
 unfold d8i at h;unfold a7k at hg;cases hu:E.und t with
 |none=>rw[hu]at h;exact h.elim
 |some d=>rw[hu]at h hg;simp only[f0e,Option.some.injEq]at hg;simpa[hg]using h
theorem d36{a:AV}(hg:a7k E t=some true)(h:d8i E n t a):∃aM,a = .agg aM∧Typ E n t aM:=by
 unfold d8i at h;unfold a7k at hg;cases hu:E.und t with
 |none=>rw[hu]at h;exact h.elim
 |some d=>rw[hu]at h hg;simp only[f0e,Option.some.injEq]at hg;simpa[hg]using h
end
end Go.Ax
/- AxHeap: calls on, and loops over, heaps of a few known blocks: what is reached, renamed and put back, ar rewrite rules. -/
namespace Go.Ax
@[go_sem] theorem e2s(H:a02)(n:Nat)(aK:List Nat):a2p H n [] aK=aK.reverse:=by cases n<;>rfl
theorem c5y(H:a02)(n:Nat)(b:Nat)(todo aK:List Nat):a2p H (n+1) (b::todo) aK=bif a1c aK b then a2p H n todo aK else a2p H n (a0o (a01 H b)++todo) (b::aK):=by rfl
@[go_sem] theorem e2t{n:Nat}(hn:(0<n)=True)(H:a02)(b:Nat)(todo aK:List Nat):a2p H n (b::todo) aK=bif a1c aK b then a2p H (n-1) todo aK else a2p H (n-1) (a0o (a01 H b)++todo) (b::aK):=by
 obtain⟨m,rfl⟩:∃m,n=m+1:=⟨n-1,by have:=f6h hn;omega⟩
 exact c5y H m b todo aK
@[go_sem] theorem d61(x:Nat):a1c [] x=false:=by rfl
@[go_sem] theorem d2y(a:Nat)(r:List Nat)(x:Nat):a1c (a::r) x=bif decide (a=x)then true else a1c r x:=by simp only[a1c,d2w,c1b]
@[go_sem] theorem e2w:a54 []=true:=by rfl
@[go_sem] theorem c29(a:Nat)(r:List Nat):a54 (a::r)=(!(a1c r a)&&a54 r):=by rfl
@[go_sem] theorem e4i(k:Nat)(rows:List (List AV)):a0o (some (.row k rows))=rows.flatMap a08:=by rfl
@[go_sem] theorem f02(b:Nat):List.idxOf? b []=none:=by rfl
@[go_sem] theorem e7p(a:Nat)(l:List Nat)(b:Nat):List.idxOf? b (a::l)=bif decide (a=b)then some 0 else(List.idxOf? b l).map (·+ 1):=by rw[f5s,c1b];cases decide (a=b)<;>rfl
@[go_sem] theorem e9r(σ:List Nat)(b:Nat):a4m σ b=σ.idxOf? b:=by rfl
@[go_sem] theorem e65(σ:List Nat)(n j:Nat):a13 σ n j=bif decide (j<σ.length)then σ[j]? else some (n+(j-σ.length)):=by simp only[a13,c55]
@[go_sem] theorem e2l(H:a02)(π:Nat→Option Nat):a1k H [] π=[]:=by rfl
@[go_sem] theorem d90(H:a02)(b:Nat)(σ:List Nat)(π:Nat→Option Nat):a1k H (b::σ) π=(a01 H b).map (a0g π)::a1k H σ π:=by rfl
@[go_sem] theorem d7p(σ:List Nat)(n:Nat)(H1:a02)(b:Nat):a0w σ n H1 b []=[]:=by rfl
def c3y(σ:List Nat)(n:Nat)(H1:a02)(o:Option AObj):Option Nat→Option AObj
 |some j=>(a01 H1 j).map (a0g (a13 σ n))
 |none=>o
@[go_sem] theorem d9o(σ:List Nat)(n:Nat)(H1:a02)(o:Option AObj)(j:Nat):c3y σ n H1 o (some j)=(a01 H1 j).map (a0g (a13 σ n)):=by rfl
@[go_sem] theorem d9p(σ:List Nat)(n:Nat)(H1:a02)(o:Option AObj):c3y σ n H1 o none=o:=by rfl
@[go_sem] theorem b9v(σ:List Nat)(n:Nat)(H1:a02)(b:Nat)(o:Option AObj)(r:a02):a0w σ n H1 b (o::r)=c3y σ n H1 o (σ.idxOf? b)::a0w σ n H1 (b+1) r:=by simp only[a0w];cases σ.idxOf? b<;>rfl
@[go_sem] theorem e2q(π:Nat→Option Nat)(k:Nat)(rows:List (List AV)):a0g π (.row k rows) = .row k (rows.map λr=>r.map (ren π)):=by rfl
/- renaming a value -/
section
variable (π:Nat→Option Nat)
def e4d(f:Nat→AV):Option Nat→AV|some b=>f b|none=>.junk
@[go_sem] theorem e4b(f:Nat→AV)(b:Nat):e4d f (some b)=f b:=by rfl
@[go_sem] theorem e4c(f:Nat→AV):e4d f none = .junk:=by rfl
@[go_sem] theorem e9h(b i o:Nat):ren π (.ptr b i o)=e4d (λb=>.ptr b i o) (π b):=by simp only[ren];cases π b<;>rfl
@[go_sem] theorem e4a(b i o:Nat)(c:Option Nat):ren π (.slice b i o c)=e4d (λb=>.slice b i o c) (π b):=by simp only[ren];cases π b<;>rfl
@[go_sem] theorem e9i(b:Nat):ren π (.map b)=e4d (λb=>.map b) (π b):=by simp only[ren];cases π b<;>rfl
@[go_sem] theorem c8w(k:IntKind)(n:Int):ren π (.int k n) = .int k n:=by rfl
@[go_sem] theorem e73(b:Bool):ren π (.bool b) = .bool b:=by rfl
@[go_sem] theorem e9g(s:List UInt8):ren π (.str s) = .str s:=by rfl
@[go_sem] theorem e2o(r:List (List AV))(c:Option Nat):ren π (.islice r c) = .islice r c:=by rfl
@[go_sem] theorem e72(r:List AV):ren π (.iptr r) = .iptr r:=by rfl
@[go_sem] theorem a7w:ren π .nilslice = .nilslice:=by rfl
@[go_sem] theorem e71:ren π .junk = .junk:=by rfl
@[go_sem] theorem c24(l:List AV):ren π (.agg l) = .agg (l.map (ren π)):=by simp only[ren,a72]
@[go_sem] theorem e49(l:List AV):ren π (.tuple l) = .tuple (l.map (ren π)):=by simp only[ren,a72]
@[go_sem] theorem d3u(f:Fn)(a b:List AV):ren π (.func f a b) = .func f (a.map (ren π)) (b.map (ren π)):=by simp only[ren,a72]
@[go_sem] theorem e74:b50 π []=[]:=by rfl
@[go_sem] theorem c8y(s:Nat)(v:AV)(r:Frm):b50 π ((s,v)::r)=(s,ren π v)::b50 π r:=by rfl
end
@[go_sem] theorem d0w(m:Nat)(σ:List Nat)(b:Nat):b8a m σ b=bif decide (b<m)then some b else(σ.idxOf? b).map (m + ·):=by simp only[b8a,c55]
theorem a03{m:Nat}{keep:List Nat}{F:Frm}{H:a02}:gcD m keep F H=bif a54 (b0v m (a1i keep F) H)&&(b0v m (a1i keep F) H).all (λb=>decide (m≤b))&&decide (m≤H.length)then
 some (b50 (b8a m (b0v m (a1i keep F) H)) (a1i keep F),gcH m (b0v m (a1i keep F) H) H)else none:=by
 have e:(λb=>Nat.ble m b)=λb=>decide (m≤b):=funext λb=>d30 m b;simp only[gcD,e,d30]
theorem a00(m:Nat)(F:Frm)(H:a02):b0v m F H=(a2p H 1000000 ((H.take m).flatMap a0o++a08 (F.map (·.2))) []).filter λb=>decide (m≤b):=by have e:(λb=>Nat.ble m b)=λb=>decide (m≤b):=funext λb=>d30 m b;simp only[b0v,a53,e]
@[go_sem] theorem d81(m:Nat)(σ:List Nat)(H:a02):gcH m σ H=(H.take m).map (Option.map (a0g (b8a m σ)))++a1k H σ (b8a m σ):=by rfl
@[go_sem] theorem f0m{α:Type}(p:α→Bool)(a:α)(l:List α):(a::l).filter p=bif p a then a::l.filter p else l.filter p:=by rw[List.filter_cons];cases p a<;>rfl
attribute [go_sem] List.reverse_cons List.reverse_nil List.filter_nil List.flatMap_cons List.flatMap_nil
theorem a12(run:List AV→a02→Option (AV×a02))(args:List AV)(H:a02){σ:List Nat}(hσ:a2p H 1000000 (a08 args) []=σ)(hn:a54 σ=true)(hl:(σ.all λb=>decide (b<H.length))=true)
 {ap:List AV}(ha:args.map (ren (a4m σ))=ap){H0:a02}(hH:a1k H σ (a4m σ)=H0){v:AV}{H1:a02}(hr:run ap H0=some (v,H1)) :
 a1r run args H=some (ren (a13 σ H.length) v,a0w σ H.length H1 0 H++(H1.drop σ.length).map (Option.map (a0g (a13 σ H.length))),σ):=by
 have e:(λb=>Nat.blt b H.length)=λb=>decide (b<H.length):=funext λb=>c55 b H.length;unfold a1r;simp only[a53,hσ,hn,e,hl,f4t,f2m,ha,hH,hr]
theorem a7g{E:Env}{ah:Bool}{call:CallF}{g:FuncId}{fs cs ar args:List AV}{H:a02}(hx:E.ext g=false)(hf:(E.fn g).isSome=true)(he:fs++ar++cs=args){v:AV}{H':a02}{σ:List Nat}
 (h:a1r (call g) args H=some (v,H',σ))(hl:H'.length=H.length):a09 E ah call (.func (.func g) fs cs) ar H=some (v,H',σ):=by
 have hb:Nat.ble H.length H.length=true:=by rw[f4k];exact f1u _
 simp only[a09,hx,hf,he,f2m,f2z,h,hl,hb,f6m,Bool.and_false]
theorem a85{E:Env}{call:CallF}{g:FuncId}{fs cs ar args:List AV}{H:a02}(hx:E.ext g=false)(hf:(E.fn g).isSome=true)(he:fs++ar++cs=args){v:AV}{H':a02}{σ:List Nat}
 (h:a1r (call g) args H=some (v,H',σ)):a09 E false call (.func (.func g) fs cs) ar H=some (v,H',σ):=by
 simp only[a09,hx,hf,he,f2m,f2z,h,Bool.false_and]
/- freezing -/
@[go_sem] theorem d9z{α β:Type}(a:α)(f:α→β)(d:β):d7s (some a) f d=f a:=by rfl
@[go_sem] theorem b44{m:Nat}{v:AV}{H:a02}:a10 false m v H=d7s (a3i m true (a58 (a01 H) m 12) v) (λv'=>some (v',(H.take m).map (Option.map (a0g (a1b m))))) (some (v,H)):=by simp only[a10,f2z];cases a3i m true (a58 (a01 H) m 12) v<;>rfl
section
variable {m:Nat}{top:Bool}{d:AV→Option AV}{h:FHeap}{n:Nat}
@[go_sem] theorem f08(k:IntKind)(i:Int):a3i m top d (.int k i)=some (.int k i):=by rfl
@[go_sem] theorem e7v(b:Bool):a3i m top d (.bool b)=some (.bool b):=by rfl
@[go_sem] theorem f06(s:List UInt8):a3i m top d (.str s)=some (.str s):=by rfl
@[go_sem] theorem e33(r:List (List AV))(c:Option Nat):a3i m top d (.islice r c)=some (.islice r c):=by rfl
@[go_sem] theorem e7t(r:List AV):a3i m top d (.iptr r)=some (.iptr r):=by rfl
@[go_sem] theorem d84:a3i m top d .nilslice=some .nilslice:=by rfl
@[go_sem] theorem f2j(c:Option (Option Nat))(rows:List (List AV)):a3i m top d (sl c rows)=some (sl c rows):=a4i m top d _ (a33 c rows)
@[go_sem] theorem f0a(l:List AV):a3i m top d (.agg l)=a0k (a5i m top d l) λl=>some (.agg l):=by simp only[a3i];cases a5i m top d l<;>rfl
@[go_sem] theorem e5j(l:List AV):a3i m top d (.tuple l)=a0k (a5i m top d l) λl=>some (.tuple l):=by simp only[a3i];cases a5i m top d l<;>rfl
@[go_sem] theorem e7u(f:Fn)(a b:List AV):a3i m top d (.func f a b)=a0k (a5i m top d a) λa=>a0k (a5i m top d b) λb=>some (.func f a b):=by simp only[a3i];cases a5i m top d a<;>cases a5i m top d b<;>rfl
@[go_sem] theorem d5h:a5i m top d []=some []:=by rfl
@[go_sem] theorem d13(v:AV)(l:List AV):a5i m top d (v::l)=a0k (a3i m top d v) λv=>a0k (a5i m top d l) λl=>some (v::l):=by simp only[a5i];cases a3i m top d v<;>cases a5i m top d l<;>rfl
@[go_sem] theorem b3z(b o l:Nat)(c:Option Nat):a3i m top d (.slice b o l c)=bif decide (b<m)then(bif top then some (.slice b o l c)else none)else d (.slice b o l c):=by simp only[a3i,d85,c55]
@[go_sem] theorem f07(b o l:Nat):a3i m top d (.ptr b o l)=bif decide (b<m)then(bif top then some (.ptr b o l)else none)else d (.ptr b o l):=by simp only[a3i,d85,c55]
@[go_sem] theorem b6p(hn:(0<n)=True)(b o l:Nat)(c:Option Nat):a58 h m n (.slice b o l c)=a0k (b1f (h b)) λkr=>bif decide (o+l≤kr.2.length)then a0k (a8m m (a58 h m (n-1)) ((kr.2.drop o).take l)) λrs=>some (.islice rs c)else none:=by
 obtain⟨n,rfl⟩:∃k,n=k+1:=⟨n-1,by have:=f6h hn;omega⟩
 simp only[a58,Nat.add_sub_cancel];cases hb:h b with
 |none=>simp only[hb];rfl
 |some ob=>cases ob<;>simp only[hb,b1f,a0k,d30];rename_i kk rows;cases a8m m (a58 h m n) ((rows.drop o).take l)<;>rfl
@[go_sem] theorem e7y(hn:(0<n)=True)(b i o:Nat):a58 h m n (.ptr b i o)=a0k (b1f (h b)) λkr=>a0k (kr.2[i]?) λr=>a0k (a5i m false (a58 h m (n-1)) (r.drop o)) λcs=>some (.iptr cs):=by
 obtain⟨n,rfl⟩:∃k,n=k+1:=⟨n-1,by have:=f6h hn;omega⟩
 simp only[a58,Nat.add_sub_cancel];cases hb:h b with
 |none=>simp only[hb];rfl
 |some ob=>
  cases ob<;>simp only[hb,b1f,a0k];rename_i kk rows;cases rows[i]? with
  |none=>rfl
  |some r=>simp only;cases a5i m false (a58 h m n) (r.drop o)<;>rfl
theorem c4l:a8m m d []=some []:=by rfl
theorem b41(r:List AV)(rs:List (List AV)):a8m m d (r::rs)=a0k (a5i m false d r) λr=>a0k (a8m m d rs) λrs=>some (r::rs):=by simp only[a8m];cases a5i m false d r<;>cases a8m m d rs<;>rfl
theorem a4s(a b:List (List AV)):a8m m d (a++b)=a0k (a8m m d a) λa=>a0k (a8m m d b) λb=>some (a++b):=by
 induction a with
 |nil=>simp only[e9q,c4l,a0k];cases a8m m d b<;>rfl
 |cons x a ih=>
  simp only[f0k,b41,ih];cases a5i m false d x with
  |none=>rfl
  |some x=>simp only[a0k];cases a8m m d a<;>cases a8m m d b<;>rfl
attribute [go_sem] c4l b41
end
/-! ### append -/
section
variable {E:Env}{h:FHeap}{n:Nat}
@[go_sem] theorem e1p(k b o l:Nat)(c:Option Nat):a1z h k (.slice b o l c)=a0k (b1f (h b)) λkr=>bif decide (kr.1=k)&&decide (o+l≤kr.2.length)then some ((kr.2.drop o).take l)else none:=by
 simp only[a1z];cases hb:h b with
 |none=>simp only[hb];rfl
 |some ob=>cases ob<;>simp only[hb,b1f,a0k,c1b,d30]
@[go_sem] theorem d31(k:Nat):a1z h k .nilslice=some []:=by rfl
@[go_sem] theorem b1s(k:Nat)(rows:List (List AV))(c:Option Nat):a1z h k (.islice rows c)=bif rows.all (λr=>decide (r.length=k))then some rows else none:=by simp only[a1z,c1b]
@[go_sem] theorem e87(k:Nat)(rows:List (List AV))(c:Option (Option Nat)):a1z h k (sl c rows)=bif rows.all (λr=>decide (r.length=k))then some rows else none:=by
 cases c with
 |some c=>rw[c1w];exact b1s k rows c
 |none=>cases rows with
  |nil=>rfl
  |cons a r=>exact b1s k _ none
def apT(E:Env)(st xt:TypeId):Option TypeId:=match E.und st,E.und xt with
 |some (.slice e),some dx=>bif a2m dx || !(E.zero e).isSome || !(Nat.blt 0 (E.sz e))then none else some e
 |_,_=>none
def apS(E:Env)(h:FHeap)(n:Nat)(aa:TypeId)(xs:List (List AV)):AV→Option (AV×Eff)
 |.nilslice=>match xs with
  | []=>some (.nilslice,.none)
  |y::ys=>bif a2f E aa (y::ys).length then some (.slice n 0 (y::ys).length none,.new (.row (E.sz aa) (y::ys)))else none
 |.islice rows cap=>bif rows.all (λr=>r.length==E.sz aa)then match xs with
  | []=>some (.islice rows cap,.none)
  |y::ys=>match cap with
   |some c=>bif Nat.blt c (rows.length+(y::ys).length)&&a2f E aa (rows.length+(y::ys).length)then
    some (.slice n 0 (rows.length+(y::ys).length) none,.new (.row (E.sz aa) (rows++(y::ys))))else none
   |none=>none
  else none
 |.slice b off len cap=>match h b with
  |some (.row kk rows)=>bif kk==E.sz aa&&Nat.ble (off+len) rows.length then
   match cap with
   |none=>bif a2f E aa (len+xs.length)&&xs.all (λr=>r.all AV.storable)then
    some (.slice n 0 (len+xs.length) none,.kill b (.row (E.sz aa) (bif Nat.beq (off+len) rows.length then rows.drop off++xs else(rows.drop off).take len++xs)))else none
   |some c=>bif Nat.ble (len+xs.length) c then
    bif Nat.ble (off+len+xs.length) rows.length&&xs.all (λr=>r.all AV.storable)then
     some (.slice b off (len+xs.length) (some c),.set b (.row (E.sz aa) (rows.take (off+len)++xs++rows.drop (off+len+xs.length))))else none
    else bif a2f E aa (len+xs.length)then
     some (.slice n 0 (len+xs.length) none,.new (.row (E.sz aa) ((rows.drop off).take len++xs)))else none
   else none
  |_=>none
 |_=>none
@[go_sem] theorem e6h(st xt:TypeId)(s x:AV):a4k E h n st xt s x=a0k (apT E st xt) λe=>a0k (a1z h (E.sz e) x) λxs=>apS E h n e xs s:=by
 unfold a4k apT;cases E.und st with
 |none=>rfl
 |some d=>cases E.und xt with
  |none=>cases d<;>rfl
  |some dx=>
   cases d<;>try rfl
   rename_i e;simp only;cases(a2m dx || !(E.zero e).isSome || !(Nat.blt 0 (E.sz e)))with
   |true=>rfl
   |false=>
    simp only[f2z,a0k];cases a1z h (E.sz e) x with
    |none=>rfl
    |some xs=>cases s<;>rfl
@[go_sem] theorem f0y(e:TypeId)(y:List AV)(ys:List (List AV)):apS E h n e (y::ys) .nilslice=bif a2f E e (y::ys).length then some (.slice n 0 (y::ys).length none,.new (.row (E.sz e) (y::ys)))else none:=by rfl
@[go_sem] theorem e8a(e:TypeId):apS E h n e [] .nilslice=some (.nilslice,.none):=by rfl
@[go_sem] theorem e8b(e:TypeId)(xs:List (List AV))(b o l:Nat):apS E h n e xs (.slice b o l none)=a0k (b1f (h b)) λkr=>
 bif decide (kr.1=E.sz e)then(bif decide (o+l=kr.2.length)then(bif a2f E e (l+xs.length)&&xs.all (λr=>r.all AV.storable)then some (.slice n 0 (l+xs.length) none,.kill b (.row (E.sz e) (kr.2.drop o++xs)))else none)
  else(bif decide (o+l≤kr.2.length)&&a2f E e (l+xs.length)&&xs.all (λr=>r.all AV.storable)then some (.slice n 0 (l+xs.length) none,.kill b (.row (E.sz e) ((kr.2.drop o).take l++xs)))else none))else none:=by
 simp only[apS];cases hb:h b with
 |none=>simp only[hb];rfl
 |some ob=>
  cases ob<;>simp only[hb,b1f,a0k,c1b,d30];rename_i kk rows;have e1:Nat.beq (o+l) rows.length=decide (o+l=rows.length):=by rw[d2w,c1b]
  rw[e1];by_cases h1:o+l=rows.length
  ·rw[f2x h1,f2x (by omega:o+l≤rows.length)];cases decide (kk=E.sz e)<;>rfl
  ·rw[f7a h1];cases decide (kk=E.sz e)<;>cases decide (o+l≤rows.length)<;>rfl
@[go_sem] theorem e6e(e:TypeId)(xs:List (List AV))(b o l c:Nat):apS E h n e xs (.slice b o l (some c))=a0k (b1f (h b)) λkr=>
 bif decide (kr.1=E.sz e)&&decide (o+l≤kr.2.length)then(bif decide (l+xs.length≤c)then
  (bif decide (o+l+xs.length≤kr.2.length)&&xs.all (λr=>r.all AV.storable)then some (.slice b o (l+xs.length) (some c),.set b (.row (E.sz e) (kr.2.take (o+l)++xs++kr.2.drop (o+l+xs.length))))else none)
  else(bif a2f E e (l+xs.length)then some (.slice n 0 (l+xs.length) none,.new (.row (E.sz e) ((kr.2.drop o).take l++xs)))else none))else none:=by
 simp only[apS];cases hb:h b with
 |none=>simp only[hb];rfl
 |some ob=>cases ob<;>simp only[hb,b1f,a0k,c1b,d30]
theorem a71{e:TypeId}{k:Nat}(hk:k≤1000000000)(hb:E.bytes e≤1000):a2f E e k=true:=by
 unfold a2f;rw[f2x (by omega),f5n,f0l]
 calc E.bytes e*(2*k+192)≤1000*(2*1000000000+192):=Nat.mul_le_mul hb (by omega)
  _≤281474976710656:=by decide
end
/- The length of a block's rows, by hand. -/
@[go_sem] theorem e6p(a b:Nat):(a:Int).tmod (b:Int)=((a%b:Nat):Int):=by rfl
@[go_sem] theorem f1f(a:Nat):(a:Int).tmod 2=((a%2:Nat):Int):=by rfl
@[go_sem] theorem f1e(a:Nat):(a:Int).tmod 3=((a%3:Nat):Int):=by rfl
@[go_sem] theorem f1d(a:Nat):(a:Int).tmod 4=((a%4:Nat):Int):=by rfl
@[go_sem] theorem f1c(a:Nat):(a:Int).tmod 9=((a%9:Nat):Int):=by rfl
@[go_sem] theorem e92(a:Nat):(a:Int).tmod 10=((a%10:Nat):Int):=by rfl
@[go_sem] theorem e93(a:Nat):(a:Int).tdiv 10=((a/10:Nat):Int):=by rfl
@[go_sem] theorem e91(a:Nat):(a:Int).tmod 13=((a%13:Nat):Int):=by rfl
theorem wI{n:Nat}(h:n<9223372036854775808):IntKind.i64.wrap (n:Int)=n:=w64 (by omega) (by omega)
theorem wB{n:Nat}(h:n<256):IntKind.u8.wrap (n:Int)=n:=IntWalk.u8_in _ ⟨by omega,by omega⟩
theorem wI1{n:Nat}(h:n<9223372036854775807):IntKind.i64.wrap ((n:Int)+1)=((n+1:Nat):Int):=by rw[w64 (by omega) (by omega)];rfl
theorem b60(m b:Nat):a1b m b=bif decide (b<m)then some b else none:=by simp only[a1b,c55]
attribute [go_sem] b60
/-! ### bytes to a string -/
def byT(E:Env)(s d:TypeId):Bool:=match E.und s,E.und d with
 |some (.slice e),some .string=>match E.und e with|some (.int .u8)=>true|_=>false
 |_,_=>false
section
variable {E:Env}{h:FHeap}{s d:TypeId}
theorem c6w{x:AV}(hb:byT E s d=true)(hx:∀t,x≠ .str t):a6v E h s d x=a0k (a1z h 1 x) λrows=>a0k (a64 rows) λl=>some (.str l):=by
 unfold byT at hb;cases hs:E.und s with
 |none=>rw[hs]at hb;cases hb
 |some ds=>
  cases hd:E.und d with
  |none=>rw[hs,hd]at hb;cases ds<;>cases hb
  |some dd=>
   rw[hs,hd]at hb;cases ds<;>first|(cases hb;done)|skip
   rename_i e;cases dd<;>first|(cases hb;done)|skip
   simp only at hb;cases he:E.und e with
   |none=>rw[he]at hb;cases hb
   |some de=>
    rw[he]at hb;cases de<;>first|(cases hb;done)|skip
    rename_i k;cases k<;>first|(cases hb;done)|skip
    unfold a6v;simp only[hs,hd,he];cases x<;>first|(exact absurd rfl (hx _))|skip
    all_goals
     simp only[a0k];cases a1z h 1 _ with
     |none=>rfl
     |some rows=>simp only;cases a64 rows<;>rfl
@[go_sem] theorem e1b{b o l:Nat}{c:Option Nat}(hb:byT E s d=true):a6v E h s d (.slice b o l c)=a0k (a1z h 1 (.slice b o l c)) λrows=>a0k (a64 rows) λl=>some (.str l):=c6w hb (λ_ h=>by cases h)
@[go_sem] theorem e3j:a64 []=some []:=by rfl
@[go_sem] theorem e25(n:Int)(r:List (List AV)):a64 ([.int .u8 n]::r)=a0k (a64 r) λl=>some (UInt8.ofNat n.toNat::l):=by simp only[a64];cases a64 r<;>rfl
end
@[go_sem] theorem e7z{r:List AV}{n:Nat}(h:a08 r=[]):(List.replicate n r).flatMap a08=[]:=a0e (FlatR.replicate h)
attribute [go_sem] List.length_replicate List.map_replicate List.length_append List.flatMap_append List.map_append
/-! ### calls that only read -/
def FlatO(o:Option AObj):Prop:=∀π,o.map (a0g π)=o
theorem FlatO.row{k:Nat}{rows:List (List AV)}(h:FlatR rows):FlatO (some (.row k rows)):=λπ=>by simp only[f0e,a0g,a0b π h]
theorem d2u(f:Nat→Option AObj)(σ:List Nat)(j:Nat):a01 (σ.map f) j=(σ[j]?).bind f:=by simp only[a01,f0d];cases σ[j]?<;>simp
theorem b1h{σ:List Nat}{n:Nat}{H:a02}(hf:∀b∈σ,FlatO (a01 H b)):∀(b:Nat) (H2:a02),(∀i,H2[i]?=H[b+i]?)→a0w σ n (σ.map (a01 H)) b H2=H2
 |_,[],_=>rfl
 |b,o::r,hh=>by
  have ih:=b1h hf (n:=n) (b+1) r (λi=>by
   have:=hh (i+1);rw[f1q]at this;rw[this]
   congr 1
   omega)
  simp only[a0w,ih]
  congr 1
  cases hx:σ.idxOf? b with
  |none=>rfl
  |some j=>simp only;have hj:=a1p hx;have hm:b∈σ:=c10 hj;rw[d2u,hj];simp only[f5m];rw[hf b hm _];have h0:=hh 0;simp only[f1p,f6s]at h0;simp[a01,←h0]
theorem c76{E:Env}{ah:Bool}{call:CallF}{g:FuncId}{fs cs ar args:List AV}{H:a02}{v:AV}(σ:List Nat)(hx:E.ext g=false)(hf:(E.fn g).isSome=true)(he:fs++ar++cs=args)
 (hσ:a2p H 1000000 (a08 args) []=σ)(hn:a54 σ=true)(hl:(σ.all λb=>decide (b<H.length))=true)(bF:∀b∈σ,FlatO (a01 H b))
 {ap:List AV}(ha:args.map (ren (a4m σ))=ap){H0:a02}(hH:σ.map (a01 H)=H0)(hr:call g ap H0=some (v,H0))(hv:refs v=[]) :
 a09 E ah call (.func (.func g) fs cs) ar H=some (v,H,σ):=by
 have hs:a1k H σ (a4m σ)=H0:=by rw[←hH];unfold a1k;exact f3h λb hb=>bF b hb _
 have hc:=a12 (call g) args H hσ hn hl ha hs hr;have e1:ren (a13 σ H.length) v=v:=a0x _ v hv;have e2:a0w σ H.length H0 0 H=H:=by rw[←hH];exact b1h bF 0 H (λi=>by rw[f3e])
 have e3:H0.drop σ.length=[]:=by rw[←hH];simp
 rw[e1,e2,e3,e9p,e9n]at hc;exact a7g hx hf he hc rfl
end Go.Ax
/- AxMore: facts that all say 'true'; loops over any states; what a heap's values a2p. -/
namespace Go.Ax
theorem a23{E:Env}{M:List Fact}(hT:∀y∈M,y.v = .bool true){x:Fact}(hx:x∈M):sem E M x.g x.args []=some (.bool true,[]):=by have h:sem E M x.g x.args []=some (x.v,[]):=b7h.2 (.fact x hx (λy hy _ _=>by rw[hT y hy,hT x hx]));rw[hT x hx]at h;exact h
/-! ### what is reached -/
theorem b9e{f:Nat→Nat}:∀{L:List Nat} {b:Nat},b∈L→(L.map f).sum=f b+((L.erase b).map f).sum
 | [],b,h=>by simp at h
 |a::L,b,h=>by
  by_cases aX:a=b
  ·subst aX;simp
  ·have hb:b∈L:=by simpa[f4j aX]using h
   rw[List.erase_cons_tail (by simpa using aX)];simp only[e12,List.sum_cons,b9e hb];omega
structure Reached(H:a02)(dQ σ:List Nat):Prop where
 nodup:σ.Nodup
 start:∀b∈dQ,b∈σ
 closed:∀b∈σ,∀c∈a0o (a01 H b),c∈σ
 least:∀T:Nat→Prop,(∀b∈dQ,T b)→(∀b,T b→∀c∈a0o (a01 H b),T c)→∀b∈σ,T b
theorem b7t(H:a02):∀(n:Nat) (todo aK L:List Nat),aK.Nodup→(∀b∈aK,∀c∈a0o (a01 H b),c∈aK∨c∈todo)→(∀b∈todo,b∈aK∨b∈L)→(∀b∈L,∀c∈a0o (a01 H b),c∈aK∨c∈L)→
 todo.length+(L.map λb=>(a0o (a01 H b)).length).sum<n→
 (a2p H n todo aK).Nodup∧(∀b∈aK,b∈a2p H n todo aK)∧(∀b∈todo,b∈a2p H n todo aK)∧(∀b∈a2p H n todo aK,∀c∈a0o (a01 H b),c∈a2p H n todo aK)∧
 ∀T:Nat→Prop,(∀b∈aK,T b)→(∀b∈todo,T b)→(∀b,T b→∀c∈a0o (a01 H b),T c)→∀b∈a2p H n todo aK,T b
 |0,todo,aK,L,_,_,_,_,hn=>by omega
 |n+1,[],aK,L,h1,h2,h3,h4,hn=>by
  unfold a2p;refine⟨List.pairwise_reverse.2 (h1.imp λh=>f4j h),by simp,by simp,?_,?_⟩
  ·intro b hb c hc;rcases h2 b (by simpa using hb) c hc with h|h
   ·simpa using h
   ·simp at h
  ·intro T t1 t2 t3 b hb;exact t1 b (by simpa using hb)
 |n+1,b::todo,aK,L,h1,h2,h3,h4,hn=>by
  unfold a2p;cases hc:a1c aK b with
  |true=>
   have hb:b∈aK:=a2s.1 hc;simp only[f2m];obtain⟨r1,r2,r3,r4,r5⟩:=b7t H n todo aK L h1 (λx hx c cR=>by
    rcases h2 x hx c cR with h|h
    ·exact .inl h
    ·simp only[f2s]at h;rcases h with rfl|h
     ·exact .inl hb
     ·exact .inr h) (λx hx=>h3 x (by simp[hx])) h4 (by simp only[e9m]at hn;omega)
   refine⟨r1,r2,?_,r4,?_⟩
   ·intro x hx;simp only[f2s]at hx;rcases hx with rfl|hx
    ·exact r2 _ hb
    ·exact r3 x hx
   ·intro T t1 t2 t3;exact r5 T t1 (λx hx=>t2 x (by simp[hx])) t3
  |false=>
   have hb:b∉aK:=λh=>by rw[a2s.2 h]at hc;cases hc
   simp only[f2z];have sk:b∈L:=(h3 b (by simp)).resolve_left hb;have hs:=b9e (f:=λb=>(a0o (a01 H b)).length) sk;obtain⟨r1,r2,r3,r4,r5⟩:=b7t H n (a0o (a01 H b)++todo) (b::aK) (L.erase b) (f5q.2 ⟨hb,h1⟩) (λx hx c cR=>by
    simp only[f2s]at hx⊢;rcases hx with rfl|hx
    ·exact .inr (by simp[cR])
    ·rcases h2 x hx c cR with h|h
     ·exact .inl (.inr h)
     ·simp only[f2s]at h;rcases h with rfl|h
      ·exact .inl (.inl rfl)
      ·exact .inr (by simp[h])) (λx hx=>by
    have fU:x∈aK∨x∈L:=by
     rw[f2w]at hx;rcases hx with hx|hx
     ·exact h4 b sk x hx
     ·exact h3 x (by simp[hx])
    by_cases mI:x=b
    ·exact .inl (by simp[mI])
    ·rcases fU with h|h
     ·exact .inl (by simp[h])
     ·exact .inr ((List.mem_erase_of_ne mI).2 h)) (λx hx c cR=>by
    have:=h4 x (List.mem_of_mem_erase hx) c cR;by_cases mI:c=b
    ·exact .inl (by simp[mI])
    ·rcases this with h|h
     ·exact .inl (by simp[h])
     ·exact .inr ((List.mem_erase_of_ne mI).2 h)) (by
    simp only[e9m]at hn;rw[hs]at hn;simp only[f1o];omega)
   refine⟨r1,λx hx=>r2 x (by simp[hx]),?_,r4,?_⟩
   ·intro x hx;simp only[f2s]at hx;rcases hx with rfl|hx
    ·exact r2 _ (by simp)
    ·exact r3 x (by simp[hx])
   ·intro T t1 t2 t3;refine r5 T ?_ ?_ t3
    ·intro x hx;simp only[f2s]at hx;rcases hx with rfl|hx
     ·exact t2 _ (by simp)
     ·exact t1 x hx
    ·intro x hx;rw[f2w]at hx;rcases hx with hx|hx
     ·exact t3 b (t2 b (by simp)) x hx
     ·exact t2 x (by simp[hx])
theorem b5x{H:a02}{dQ:List Nat}(S:List Nat)(h1:∀b∈dQ,b∈S)(h2:∀b∈S,∀c∈a0o (a01 H b),c∈S)
 (hn:dQ.length+(S.map λb=>(a0o (a01 H b)).length).sum<1000000):Reached H dQ (a2p H 1000000 dQ []):=by
 obtain⟨r1,_,r3,r4,r5⟩:=b7t H 1000000 dQ [] S List.nodup_nil (λb hb=>by simp at hb) (λb hb=>.inr (h1 b hb)) (λb hb c hc=>.inr (h2 b hb c hc)) hn;exact⟨r1,r3,r4,λT t1 t2=>r5 T (λb hb=>by simp at hb) t1 t2⟩
theorem a9k:∀{l:List Nat},l.Nodup→a54 l=true
 | [],_=>rfl
 |a::l,h=>by
  rw[f5q]at h;have hc:a1c l a=false:=by
   cases hc:a1c l a with
   |false=>rfl
   |true=>exact absurd (a2s.1 hc) h.1
  rw[c29,hc,a9k h.2];rfl
structure Gc(m:Nat)(F:Frm)(H:a02)(R:Nat→Prop)(π:Nat→Option Nat)(H1:a02):Prop where
 low:∀b,b<m→π b=some b
 inj:∀a b c,π a=some c→π b=some c→a=b
 refs:∀b∈a08 (F.map (·.2)),R b
 lows:∀b,b<m→∀c∈a0o (a01 H b),R c
 closed:∀b,R b→∀c∈a0o (a01 H b),R c
 least:∀T:Nat→Prop,(∀b∈a08 (F.map (·.2)),T b)→(∀b,b<m→∀c∈a0o (a01 H b),T c)→(∀b,T b→∀c∈a0o (a01 H b),T c)→∀b,R b→T b
 here:∀b,R b→∃c,π b=some c
 heap:∀b c,π b=some c→a01 H1 c=(a01 H b).map (a0g π)
 len:∀T:List Nat,(∀b,R b→m≤b→b∈T)→H1.length≤m+T.length
theorem b82{m:Nat}{H:a02}{c:Nat}:c∈(H.take m).flatMap a0o↔∃b,b<m∧c∈a0o (a01 H b):=by
 simp only[List.mem_flatMap];constructor
 ·rintro⟨o,ho,hc⟩
  obtain⟨b,hb⟩:=f3o.1 ho;rw[f4r]at hb;split at hb
  case isFalse=>cases hb
  rename_i ag;refine⟨b,ag,?_⟩;simp only[a01,hb,f3n];exact hc
 ·rintro⟨b,ag,hc⟩
  cases hb:H[b]? with
  |none=>simp[a01,hb,a0o]at hc
  |some o=>refine⟨o,f3o.2 ⟨b,by rw[f4r,f1r ag,hb]⟩,?_⟩;simpa[a01,hb]using hc
theorem b3m:∀{l T:List Nat},l.Nodup→(∀b∈l,b∈T)→l.length≤T.length
 | [],_,_,_=>by simp
 |a::l,T,aY,aT=>by rw[f5q]at aY;have ha:a∈T:=aT a (by simp);have:=b3m (l:=l) (T:=T.erase a) aY.2 (λb hb=>(List.mem_erase_of_ne (λe=>aY.1 (by rw[←e];exact hb))).2 (aT b (by simp[hb])));rw[List.length_erase_of_mem ha]at this;have:0<T.length:=List.length_pos_of_mem ha;simp only[e9m];omega
theorem c0n{m:Nat}{keep:List Nat}{F:Frm}{H:a02}(hm:m≤H.length)(S:List Nat)(h1:∀b∈a08 ((a1i keep F).map (·.2)),b∈S)(h2:∀b,b<m→∀c∈a0o (a01 H b),c∈S)(h3:∀b∈S,∀c∈a0o (a01 H b),c∈S)
 (hn:((H.take m).flatMap a0o).length+(a08 ((a1i keep F).map (·.2))).length+(S.map λb=>(a0o (a01 H b)).length).sum<1000000) :
 ∃(R:Nat→Prop) (π:Nat→Option Nat) (H1:a02),gcD m keep F H=some (b50 π (a1i keep F),H1)∧Gc m (a1i keep F) H R π H1∧m≤H1.length:=by
 have hr:=b5x (H:=H) (dQ:=(H.take m).flatMap a0o++a08 ((a1i keep F).map (·.2))) S (λb hb=>by
  rw[f2w]at hb;rcases hb with hb|hb
  ·obtain⟨a,ha,hc⟩:=b82.1 hb;exact h2 a ha b hc
  ·exact h1 b hb) h3 (by rw[f1o];exact hn)
 generalize hρ:a2p H 1000000 ((H.take m).flatMap a0o++a08 ((a1i keep F).map (·.2))) []=ρ at hr;have hσ:b0v m (a1i keep F) H=ρ.filter λb=>decide (m≤b):=by rw[a00,hρ]
 have aY:(ρ.filter λb=>decide (m≤b)).Nodup:=hr.nodup.filter _;have cF:∀b,b∈(ρ.filter λb=>decide (m≤b))↔b∈ρ∧m≤b:=λb=>by rw[f4p];simp
 have cJ:(H.take m).length=m:=by simp;omega
 have ai:(gcH m (ρ.filter λb=>decide (m≤b)) H).length=m+(ρ.filter λb=>decide (m≤b)).length:=by rw[d81];simp[a1k];omega
 refine⟨(·∈ρ),b8a m (ρ.filter λb=>decide (m≤b)),gcH m (ρ.filter λb=>decide (m≤b)) H,?_,?_,by rw[ai];omega⟩
 ·rw[a03,hσ,a9k aY,f2x hm];have:(ρ.filter λb=>decide (m≤b)).all (λb=>decide (m≤b))=true:=by
   rw[f2u];intro b hb;simpa using((cF b).1 hb).2
  rw[this];rfl
 ·have hπ:∀b,b8a m (ρ.filter λb=>decide (m≤b)) b=if b<m then some b else((ρ.filter λb=>decide (m≤b)).idxOf? b).map (m + ·):=by
   intro b;rw[d0w];by_cases h:b<m<;>simp[h]
  refine⟨λb hb=>by rw[hπ,f1r hb],?_,λb hb=>hr.start b (by simp[hb]),λb hb c hc=>hr.start c (by rw[f2w];exact .inl (b82.2 ⟨b,hb,hc⟩)),λb hb c hc=>hr.closed b hb c hc,?_,?_,?_,?_⟩
  ·intro a b c ha hb;rw[hπ]at ha hb;split at ha<;>split at hb
   ·cases ha;cases hb;rfl
   ·cases ha;obtain⟨j,hj,e⟩:=a05 hb;omega
   ·cases hb;obtain⟨j,hj,e⟩:=a05 ha;omega
   ·obtain⟨i,hi,e1⟩:=a05 ha;obtain⟨j,hj,e2⟩:=a05 hb;have g1:=a1p hi;have g2:=a1p hj;obtain rfl:i=j:=by omega
    rw[g1]at g2;exact z9o g2
  ·intro T t1 t2 t3 b hb;refine hr.least T (λx hx=>?_) t3 b hb;rw[f2w]at hx;rcases hx with hx|hx
   ·obtain⟨a,ha,hc⟩:=b82.1 hx;exact t2 a ha x hc
   ·exact t1 x hx
  ·intro b hb;rw[hπ];split
   ·exact⟨_,rfl⟩
   ·rename_i h;have gm:=(cF b).2 ⟨hb,by omega⟩;obtain⟨j,hj⟩:=f3o.1 gm;rw[a44 aY hj];exact⟨_,rfl⟩
  ·intro b c qE;have jI:=qE;rw[hπ]at jI;rw[d81];split at jI
   ·rename_i h;cases jI;simp only[a01];rw[f0i (by simp;omega),f0d,f4r,f1r h];cases H[b]? with
    |none=>rfl
    |some o=>rfl
   ·rename_i h;obtain⟨j,hj,rfl⟩:=a05 jI;have hg:=a1p hj;simp only[a01];rw[f1n (by simp only[c11,cJ];omega)];simp only[c11,cJ,f5t,a1k,f0d,hg,f0e,f3n];rfl
  ·intro T hT;rw[ai];have:(ρ.filter λb=>decide (m≤b)).length≤T.length:=by
    have aT:∀b∈(ρ.filter λb=>decide (m≤b)),b∈T:=λb hb=>hT b ((cF b).1 hb).1 ((cF b).1 hb).2;exact b3m aY aT
   omega
end Go.Ax
/- AxGrow: grown slices; calls that read one block. -/
namespace Go.Ax
def grV(b:Nat):List (List AV)→AV|[]=>.nilslice|_::rs=>.slice b 0 (rs.length+1) none
def grH(k:Nat):List (List AV)→a02|[]=>[]|r::rs=>[some (.row k (r::rs))]
theorem a0q(b:Nat):grV b [] = .nilslice:=by rfl
theorem a0r(k:Nat):grH k []=[]:=by rfl
theorem a06(b:Nat)(r:List AV)(rs:List (List AV)):grV b (r::rs) = .slice b 0 (rs.length+1) none:=by rfl
theorem a07(k:Nat)(r:List AV)(rs:List (List AV)):grH k (r::rs)=[some (.row k (r::rs))]:=by rfl
theorem b88(b:Nat)(l:List (List AV))(x:List AV):grV b (l++[x]) = .slice b 0 (l.length+1) none:=by cases l<;>simp[grV]
theorem d5b(k:Nat)(l:List (List AV))(x:List AV):grH k (l++[x])=[some (.row k (l++[x]))]:=by cases l<;>simp[grH]
theorem b3w(b:Nat){l:List (List AV)}(h:l≠[]):grV b l = .slice b 0 l.length none:=by cases l with|nil=>exact absurd rfl h|cons a r=>rfl
theorem b3x(k:Nat){l:List (List AV)}(h:l≠[]):grH k l=[some (.row k l)]:=by cases l with|nil=>exact absurd rfl h|cons a r=>rfl
theorem b9s{H:a02}{b:Nat}(hr:a0o (a01 H b)=[]):a2p H 1000000 [b] []=[b]:=by
 have e1:∀n,a2p H (n+2) [b] []=[b]:=by intro n;unfold a2p;simp only[a1c,f2z,hr,e9n];unfold a2p;rfl
 exact e1 999998
theorem a1q{E:Env}{ah:Bool}{call:CallF}{g:FuncId}{fs cs ar args:List AV}{H:a02}{v:AV}{b:Nat}{o:AObj}(hx:E.ext g=false)(hf:(E.fn g).isSome=true)(he:fs++ar++cs=args)
 (hb:a01 H b=some o)(ho:a0o (some o)=[])(bF:FlatO (some o))(aC:a08 args=[b]){ap:List AV}(ha:args.map (ren (a4m [b]))=ap)(hr:call g ap [some o]=some (v,[some o]))(hv:refs v=[]) :
 a09 E ah call (.func (.func g) fs cs) ar H=some (v,H,[b]):=by
 have ag:b<H.length:=by
  unfold a01 at hb;cases hh:H[b]? with
  |none=>rw[hh]at hb;cases hb
  |some x=>exact(e9k.1 hh).1
 refine c76 [b] hx hf he (by rw[aC];exact b9s (by rw[hb];exact ho)) rfl (by simpa using ag) ?_ ha (by simp only[e12,e9p,hb]) hr hv;intro c hc;simp only[f1s]at hc;subst hc;rw[hb];exact bF
theorem a0f{k:Nat}{rows:List (List AV)}(h:FlatR rows):a0o (some (.row k rows))=[]:=by simp only[a0o];exact a0e h
theorem a0t{H:a02}{b:Nat}{o:AObj}(hb:a01 H b=some o):b<H.length:=by
 unfold a01 at hb;cases hh:H[b]? with
 |none=>rw[hh]at hb;cases hb
 |some x=>exact(e9k.1 hh).1
theorem a5c{H:a02}{b:Nat}{o:AObj}(hb:a01 H b=some o):H.set b (some o)=H:=by have ag:=a0t hb;unfold a01 at hb;rw[z9e ag]at hb;simp only[f3n]at hb;rw[←hb];exact List.set_getElem_self ag
theorem b30(b n:Nat)(o:Option AObj)(ho:∀π,o.map (a0g π)=o):∀(s:Nat) (H:a02),s≤b→a0w [b] n [o] s H=H.set (b-s) o
 |s,[],_=>by simp[a0w]
 |s,x::H,hs=>by
  simp only[a0w];by_cases kM:s=b
  ·subst kM;have e:([s]:List Nat).idxOf? s=some 0:=by simp[f5s]
   have cE:∀(t:Nat) (H:a02),s<t→a0w [s] n [o] t H=H:=by
    intro t H
    induction H generalizing t with
    |nil=>intro _;rfl
    |cons y H ih=>
     intro ht;have e2:([s]:List Nat).idxOf? t=none:=by simp[f5s];omega
     simp only[a0w,e2,ih (t+1) (by omega)]
   simp only[e,cE (s+1) H (by omega),Nat.sub_self,List.set_cons_zero]
   congr 1
   exact ho _
  ·have e:([b]:List Nat).idxOf? s=none:=by simp[f5s];omega
   have e2:b-s=(b-(s+1))+1:=by omega
   rw[e2,List.set_cons_succ];simp only[e,b30 b n o ho (s+1) H (by omega)]
theorem a3k{E:Env}{ah:Bool}{call:CallF}{g:FuncId}{fs cs ar args:List AV}{H:a02}{v v':AV}{b:Nat}{o o':AObj}(hx:E.ext g=false)(hf:(E.fn g).isSome=true)(he:fs++ar++cs=args)
 (hb:a01 H b=some o)(ho:a0o (some o)=[])(bF:FlatO (some o))(aC:a08 args=[b]){ap:List AV}(ha:args.map (ren (a4m [b]))=ap)(hr:call g ap [some o]=some (v,[some o']))(qk:FlatO (some o'))(hv:ren (a13 [b] H.length) v=v') :
 a09 E ah call (.func (.func g) fs cs) ar H=some (v',H.set b (some o'),[b]):=by
 have ag:=a0t hb;have hc:=a12 (call g) args H (σ:=[b]) (by rw[aC];exact b9s (by rw[hb];exact ho)) rfl (by simpa using ag) ha (H0:=[some o]) (by simp only[a1k,e12,e9p,hb];congr 1;exact bF _) hr;rw[hv,b30 b _ _ qk 0 H (f0h _)]at hc;simp only[Nat.sub_zero,List.drop_succ_cons,f4g,e9p,e9n,e9m,f0g]at hc;exact a7g hx hf he hc (by simp)
theorem a1t(b o l:Nat)(c:Option Nat):ren (a4m [b]) (.slice b o l c) = .slice 0 o l c:=by simp[ren,a4m]
theorem a4t(b o n l:Nat)(c:Option Nat):ren (a13 [b] n) (.slice 0 o l c) = .slice b o l c:=by rfl
/-! ### slices of slices -/
def inB(i:Int)(n:Nat):Bool:=decide (0≤i)&&decide (i≤(n:Int))
@[go_sem] theorem f01(a n:Nat):inB (a:Int) n=decide (a≤n):=by unfold inB;rw[f2x (by omega),f5n,f6l,f0l,f0l];omega
@[go_sem] theorem f5y(n:Nat):inB 0 n=true:=by simp[inB]
theorem b91{k:IntKind}{i:Int}{n d:Nat}:a19 (some (.int k i)) n d=bif inB i n then some i.toNat else none:=by rfl
attribute [go_sem] Option.map_some Option.map_none
section
variable {E:Env}{h:FHeap}{t:TypeId}
theorem b8r{x:AV}{lo hi mx:Option AV}(hs:slT E t=none)(hx:∀s,x≠ .str s):a5b E h t x lo hi mx=none:=by
 unfold a5b;unfold slT at hs;cases hu:E.und t with
 |none=>rfl
 |some d=>rw[hu]at hs;cases d<;>first|(cases hs;done)|(cases x<;>first|rfl|exact absurd rfl (hx _))
@[go_sem] theorem e1o{k k':IntKind}{i j:Int}:a5b E h t .nilslice none (some (.int k i)) (some (.int k' j))=a0k (slT E t) λe=>bif isT E e&&inB j 0&&inB i j.toNat then some .nilslice else none:=by
 cases hs:slT E t with
 |none=>exact b8r hs (λ_ h=>by cases h)
 |some e=>simp only[a5b,a3y.1 hs,a0k,b91,isT];cases(E.und e).isSome<;>cases inB j 0<;>first|rfl|(simp only[f2m,f5n];cases inB i j.toNat<;>rfl)
@[go_sem] theorem e3e{b o n:Nat}{c:Option Nat}{k k':IntKind}{i j:Int}:a5b E h t (.slice b o n c) none (some (.int k i)) (some (.int k' j))=a0k (slT E t) λe=>a0k (b1f (h b)) λkr=>bif isT E e&&decide (kr.1=E.sz e)&&inB j (a1h n c)&&inB i j.toNat then some (.slice b o i.toNat (some j.toNat))else none:=by
 cases hs:slT E t with
 |none=>exact b8r hs (λ_ h=>by cases h)
 |some e=>
  simp only[a5b,a3y.1 hs,a0k,b91,isT];cases hb:h b with
  |none=>cases(E.und e).isSome<;>rfl
  |some ob=>cases ob with
   |map=>cases(E.und e).isSome<;>rfl
   |siter=>cases(E.und e).isSome<;>rfl
   |uset=>cases(E.und e).isSome<;>rfl
   |miter=>cases(E.und e).isSome<;>rfl
   |yloop=>cases(E.und e).isSome<;>rfl
   |row kk rows=>simp only[b1f,c1b];cases(E.und e).isSome<;>cases decide (kk=E.sz e)<;>cases inB j (a1h n c)<;>first|rfl|(simp only[f2m,f5n];cases inB i j.toNat<;>rfl)
@[go_sem] theorem e3d{b o n:Nat}{c:Option Nat}{k:IntKind}{j:Int}:a5b E h t (.slice b o n c) none (some (.int k j)) none=a0k (slT E t) λe=>a0k (b1f (h b)) λkr=>bif isT E e&&decide (kr.1=E.sz e)&&inB j (a1h n c)then some (.slice b o j.toNat c)else none:=by
 cases hs:slT E t with
 |none=>exact b8r hs (λ_ h=>by cases h)
 |some e=>
  have hc:c.map (λx=>x-0)=c:=by cases c<;>rfl
  simp only[a5b,a3y.1 hs,a0k,b91,isT];cases hb:h b with
  |none=>cases(E.und e).isSome<;>rfl
  |some ob=>cases ob with
   |map=>cases(E.und e).isSome<;>rfl
   |siter=>cases(E.und e).isSome<;>rfl
   |uset=>cases(E.und e).isSome<;>rfl
   |miter=>cases(E.und e).isSome<;>rfl
   |yloop=>cases(E.und e).isSome<;>rfl
   |row kk rows=>simp only[b1f,c1b];have e0:∀m,a19 (none:Option AV) m 0=some 0:=λ_=>rfl;cases(E.und e).isSome<;>cases decide (kk=E.sz e)<;>cases inB j (a1h n c)<;>first|rfl|(simp only[f2m,f5n,e0,hc];rfl)
end
attribute [go_sem] Nat.le_refl Int.toNat_natCast
@[go_sem] theorem b9d{α β:Type}(f:α→β)(l:List α):(l.map f).take l.length=l.map f:=by rw[←c11 (f:=f),f3a]
attribute [go_sem] List.take_length
@[go_sem] theorem d20(n c:Nat):a1h n (some c)=c:=by rfl
@[go_sem] theorem d21(n:Nat):a1h n none=n:=by rfl
end Go.Ax
/- AxMelt: calls over flat arguments that return a pointer to a block of their own. -/
namespace Go.Ax
theorem c79{E:Env}{call:CallF}{g:FuncId}{fs cs ar args:List AV}{H:a02}{k:Nat}{rows:List (List AV)}(hx:E.ext g=false)(hf:(E.fn g).isSome=true)(he:fs++ar++cs=args)(aC:a08 args=[])(hr:call g args []=some (.ptr 0 0 0,[some (.row k rows)]))(bF:FlatR rows) :
 a09 E false call (.func (.func g) fs cs) ar H=some (.ptr H.length 0 0,H++[some (.row k rows)],[]):=by
 have hc:=a12 (call g) args H (σ:=[]) (by rw[aC];rfl) rfl rfl (ap:=args) (a3q _ aC) (H0:=[]) rfl hr;have hp:∀(s:Nat) (H:a02),a0w [] H.length [some (AObj.row k rows)] s H=H:=by
  intro s H;have:∀(n s:Nat) (H:a02),a0w [] n [some (AObj.row k rows)] s H=H:=by
   intro n s H
   induction H generalizing s with
   |nil=>rfl
   |cons x H ih=>simp[a0w,ih]
  exact this _ _ _
 rw[hp]at hc;have h1:=λπ=>a0b π bF;have hb:ren (a13 [] H.length) (.ptr 0 0 0) = .ptr H.length 0 0:=rfl;rw[hb]at hc;simp only[f0g,f4g,e12,e9p,f0e,a0g,h1]at hc;exact a85 hx hf he hc
@[go_sem] theorem e0y{v:AV}{H:a02}:a10 true 0 v H=d7w 0 v H:=by rfl
theorem c6o{m:Nat}(hm:(m=0)=False){v:AV}{H:a02}:a10 true m v H=some (v,H):=by
 cases m with
 |zero=>simp at hm
 |succ n=>rfl
attribute [go_sem] c6o
@[go_sem] theorem e7h{m b i o:Nat}{H:a02}:d7w m (.ptr b i o) H=bif decide (m≤b)then a0k (b1f (a01 H b)) λkr=>a0k (b97 m (a58 (a4o (a01 H) b) m 12) kr.2) λbe=>some (.ptr m i o,(H.take m).map (Option.map (a0g (a1b m)))++[some (.row kr.1 be)])else none:=by
 have e:Nat.ble m b=decide (m≤b):=by rw[f6l,f4k,f0l]
 simp only[d7w,e];cases decide (m≤b)with
 |false=>rfl
 |true=>
  simp only[f2m];cases h:a01 H b with
  |none=>rfl
  |some ob=>cases ob with
   |row k rows=>simp only[b1f,a0k];cases b97 m (a58 (a4o (a01 H) b) m 12) rows<;>rfl
   |map=>rfl
   |siter=>rfl
   |uset=>rfl
   |miter=>rfl
   |yloop=>rfl
@[go_sem] theorem e7g{m:Nat}{l:List AV}{H:a02}:d7w m (.tuple l) H=some (.tuple l,H):=by rfl
@[go_sem] theorem e51{m:Nat}{H:a02}:d7w m .nilslice H=some (.nilslice,(H.take m).map (Option.map (a0g (a1b m)))):=by rfl
@[go_sem] theorem e7w{m:Nat}{d:AV→Option AV}:b97 m d []=some []:=by rfl
@[go_sem] theorem e5k{m:Nat}{d:AV→Option AV}{r:List AV}{rs:List (List AV)}:b97 m d (r::rs)=a0k (a5i m true d r) λr'=>a0k (b97 m d rs) λd8=>some (r'::d8):=by
 simp only[b97];cases a5i m true d r with
 |none=>rfl
 |some r'=>cases b97 m d rs<;>rfl
@[go_sem] theorem e2f{h:FHeap}{b x:Nat}:a4o h b x=bif decide (x=b)then none else h x:=by
 unfold a4o;by_cases hx:x=b
 ·subst hx;rw[show Nat.beq x x=true from Nat.beq_refl x,f2x rfl]
 ·rw[f7a hx];cases hq:Nat.beq x b with
  |false=>rfl
  |true=>exact absurd (f4s hq) hx
theorem b5z{n:Nat}{H1:a02}:∀(R:a02) (s:Nat),2≤s→a0w [0,1] n H1 s R=R
 | [],s,_=>by simp[a0w]
 |o::R,s,hs=>by
  have e:([0,1]:List Nat).idxOf? s=none:=by rw[List.idxOf?_eq_none_iff];simp;omega
  simp only[a0w,e,b5z R (s+1) (by omega)]
theorem c53{E:Env}{ah:Bool}{call:CallF}{g:FuncId}{fs cs ar args:List AV}{X Y:AObj}{R:a02}{v:AV}(hx:E.ext g=false)(hf:(E.fn g).isSome=true)(he:fs++ar++cs=args)(aC:a08 args=[0])(hX:a0o (some X)=[1])(hY:a0o (some Y)=[])
 (ha:args.map (ren (a4m [0,1]))=args)(tY:a0g (a4m [0,1]) X=X)(fa:∀n,a0g (a13 [0,1] n) X=X)(lI:FlatO (some Y))(hr:call g args [some X,some Y]=some (v,[some X,some Y]))(hv:refs v=[]) :
 a09 E ah call (.func (.func g) fs cs) ar (some X::some Y::R)=some (v,some X::some Y::R,[0,1]):=by
 have su:∀π,a0g π Y=Y:=λπ=>by have:=lI π;simpa using this
 have hc:=a12 (call g) args (some X::some Y::R) (σ:=[0,1]) (by rw[aC];simp+decide only[go_sem,hX,hY]) rfl (by simp) ha (H0:=[some X,some Y]) (by simp[a1k,a01,tY,su]) hr;have hp:a0w [0,1] (some X::some Y::R).length [some X,some Y] 0 (some X::some Y::R)=some X::some Y::R:=by simp only[b9v,b5z R 2 (by omega)];simp+decide [c3y,a01,fa,su,f5s]
 rw[hp,a0x _ v hv]at hc;simp only[e9m,f0g,List.drop_succ_cons,f4g,e9p,e9n]at hc;exact a7g hx hf he hc rfl
end Go.Ax
/- AxCpy: copy and clear, ar rewrite rules. -/
namespace Go.Ax
section
variable {E:Env}{ah:Bool}{call:CallF}{F:Frm}{H:a02}{h:FHeap}
end
section
variable {E:Env}{t:TypeId}{c:Bool}{x y:BitVec 64}
end
section
variable {E:Env}{h:FHeap}{t:TypeId}
end
end Go.Ax
/- AxFz: a loop that freezes at its end, as rewrite rules. -/
namespace Go.Ax
@[go_sem] theorem f0b(m:Nat)(H:a02)(v:AV):e34 m H v=(a3i m true (a58 (a01 H) m 12) v).getD .junk:=by unfold e34;cases a3i m true (a58 (a01 H) m 12) v<;>rfl
@[go_sem] theorem e7s(m:Nat)(top:Bool)(d:AV→Option AV):a3i m top d .junk=some .junk:=by rfl
@[go_sem] theorem e5l(m:Nat)(H:a02)(s:Nat)(v:AV)(F:Frm):c2w m H ((s,v)::F)=(s,e34 m H v)::c2w m H F:=by rfl
@[go_sem] theorem e7x(m:Nat)(H:a02):c2w m H []=[]:=by rfl
@[go_sem] theorem f2l(H:a02):c2v 0 H=[]:=by simp[c2v]
@[go_sem] theorem e5e(s:Nat):a38 [] s = .junk:=by rfl
@[go_sem] theorem e4e:refs .junk=[]:=by rfl
theorem e5g(m:Nat)(Q:b1v)(e:AExit)(F:Frm)(H:a02):fz m Q e F H=Q e (c2w m H F) (c2v m H):=by rfl
end Go.Ax
/- AxMl: a loop over a set of numbers: as a condition on its end. -/
namespace Go.Ax
section
variable {E:Env}{M:List Fact}{m N:Nat}{g:FuncId}{cur:Nat}{keep:List Nat}{id:Nat}{am:Array Oper}{it nx:Nat}{lT:List Oper}{af:Code}
end
end Go.Ax
/- AxSetS: sets of numbers, as rewrite rules. -/
namespace Go.Ax
section
variable {E:Env}{h:FHeap}{t:TypeId}{ah:Bool}{call:CallF}{F:Frm}{H:a02}
@[go_sem] theorem e4u:b66 E t=bif b7b E t then .uset []else .map [] [] [] 0:=by rfl
/-! lookup -/
/-! update -/
/-! delete -/
/-! length -/
/-! ranging -/
/-! frames and heaps -/
variable (π:Nat→Option Nat)
end
end Go.Ax
/- AxTwo: slices of slices that grow: one block of rows, a block for each that is not empty. -/
namespace Go.Ax
theorem a1m{H L:a02}{c:Nat}(h:(c<H.length)=True):a01 (H++L) c=a01 H c:=by unfold a01;rw[f0i (f6h h)]
theorem a37{H L:a02}(i:Nat):a01 (H++L) (H.length+i)=a01 L i:=by unfold a01;rw[f1n (by omega)];congr 1;rw[f5t]
theorem a28{H L:a02}:a01 (H++L) H.length=a01 L 0:=a37 0
theorem b3v{H:a02}{a c:Nat}{o:Option AObj}:a01 (H.set a o) c=if a=c∧a<H.length then o else a01 H c:=by
 unfold a01;rw[f2v];by_cases h:a=c
 ·subst h;by_cases hl:a<H.length
  ·simp[hl]
  ·simp[hl]
 ·simp[h]
theorem a0z{H:a02}{a c:Nat}{o:Option AObj}(h:a≠c):a01 (H.set a o) c=a01 H c:=by rw[b3v,f0j (λe=>h e.1)]
theorem a6p{H:a02}{a c:Nat}{o:Option AObj}(h:(a=c)=False):a01 (H.set a o) c=a01 H c:=a0z (λe=>h▸e)
theorem a3c{H:a02}{a:Nat}{o:Option AObj}(h:a<H.length):a01 (H.set a o) a=o:=by rw[b3v,f1r ⟨rfl,h⟩]
def slV(b:Nat)(c:Option Nat):List (List AV)→AV|[]=>.nilslice|_::rs=>.slice b 0 (rs.length+1) c
theorem c3o(b:Nat)(f:List (List AV)):slV b none f=grV b f:=by cases f<;>rfl
theorem d7i(b:Nat)(c:Option Nat){f:List (List AV)}(h:f≠[]):slV b c f = .slice b 0 f.length c:=by cases f with|nil=>exact absurd rfl h|cons a r=>rfl
theorem a6e{H L:a02}{o:Option AObj}(i:Nat):(H++L).set (H.length+i) o=H++L.set i o:=by rw[List.set_append_right _ _ (by omega),f5t]
theorem a57{H L:a02}{o:Option AObj}:(H++L).set H.length o=H++L.set 0 o:=a6e 0
theorem a7u{H L:a02}{o:Option AObj}{a:Nat}(h:(a<H.length)=True):(H++L).set a o=H.set a o++L:=List.set_append_left _ _ (f6h h)
theorem a4f(n:Nat):(n<n+1)=True:=by simp
theorem a4e{a n k:Nat}(h:(a<n)=True):(a<n+k)=True:=by have:=f6h h;simp;omega
def a24(al:Nat→Nat)(cp:Nat→Option Nat)(fo:List (List (List AV))):List (List AV):=fo.mapIdx λj f=>[slV (al j) (cp j) f]
structure Two(H:a02)(b k:Nat)(al:Nat→Nat)(cp:Nat→Option Nat)(fo:List (List (List AV))):Prop where
 top:a01 H b=some (.row 1 (a24 al cp fo))
 sub:∀(j:Nat) (f:List (List AV)),fo[j]?=some f→f≠[]→a01 H (al j)=some (.row k f)∧al j≠b
 inj:∀(i j:Nat) (f g:List (List AV)),fo[i]?=some f→fo[j]?=some g→f≠[]→g≠[]→al i=al j→i=j
 flat:∀f∈fo,FlatR f
theorem a6f{al:Nat→Nat}{cp:Nat→Option Nat}{fo:List (List (List AV))}{j:Nat}{f:List (List AV)}(h:fo[j]?=some f):(a24 al cp fo)[j]?=some [slV (al j) (cp j) f]:=by unfold a24;rw[f1t,h];rfl
theorem a3o(al:Nat→Nat)(cp:Nat→Option Nat)(fo:List (List (List AV))):(a24 al cp fo).length=fo.length:=by unfold a24;simp
theorem b23(b:Nat)(c:Option Nat){f:List (List AV)}:refs (slV b c f)=if f=[]then[]else[b]:=by cases f<;>rfl
theorem a8e{al:Nat→Nat}{cp:Nat→Option Nat}{fo:List (List (List AV))}{c:Nat}:c∈(a24 al cp fo).flatMap a08↔∃j f,fo[j]?=some f∧f≠[]∧c=al j:=by
 unfold a24;simp only[List.mem_flatMap];constructor
 ·rintro⟨r,hr,hc⟩
  obtain⟨j,hj⟩:=f3o.1 hr;rw[f1t]at hj;cases hf:fo[j]? with
  |none=>rw[hf]at hj;cases hj
  |some f=>
   rw[hf]at hj;cases hj;simp only[a08,b23,e9n]at hc;split at hc
   ·simp at hc
   ·rename_i au;exact⟨j,f,hf,au,by simpa using hc⟩
 ·rintro⟨j,f,hf,au,rfl⟩
  refine⟨[slV (al j) (cp j) f],f3o.2 ⟨j,by rw[f1t,hf];rfl⟩,?_⟩;simp[a08,b23,au]
theorem c8g{π:Nat→Option Nat}{b c:Nat}{q:Option Nat}{f:List (List AV)}(h:f≠[]→π b=some c):ren π (slV b q f)=slV c q f:=by
 cases f with
 |nil=>rfl
 |cons a r=>simp only[slV,ren,h (by simp)]
section
variable {m:Nat}{F:Frm}{H H1:a02}{R:Nat→Prop}{π:Nat→Option Nat}{b k:Nat}{al:Nat→Nat}{cp:Nat→Option Nat}{fo:List (List (List AV))}
theorem Two.ren(hg:Gc m F H R π H1)(h:Two H b k al cp fo)(hb:R b):∃b' aD,π b=some b'∧Two H1 b' k aD cp fo:=by
 obtain⟨b',aL⟩:=hg.here b hb;have aT:∀(j:Nat) (f:List (List AV)),fo[j]?=some f→f≠[]→π (al j)=some ((π (al j)).getD 0):=by intro j f hf au;have:R (al j):=hg.closed b hb _ (by rw[h.top];exact a8e.2 ⟨j,f,hf,au,rfl⟩);obtain⟨c,hc⟩:=hg.here _ this;rw[hc];rfl
 refine⟨b',λj=>(π (al j)).getD 0,aL,?_,?_,?_,h.flat⟩
 ·rw[hg.heap b b' aL,h.top];simp only[f0e,a0g]
  congr 2
  unfold a24;apply f3g;intro j;simp only[f0d,f1t];cases hf:fo[j]? with
  |none=>rfl
  |some f=>simp only[f0e,e12,e9p,c8g (aT j f hf)]
 ·intro j f hf au;have e:=aT j f hf au;obtain⟨h1,h2⟩:=h.sub j f hf au;refine⟨?_,?_⟩
  ·rw[hg.heap _ _ e,h1];simp only[f0e,a0g,a0b π (h.flat f (c10 hf))]
  ·intro he;rw[he]at e;exact h2 (hg.inj _ _ _ e aL)
 ·intro i j f g hf cY au dl e;have e1:=aT i f hf au;have e2:=aT j g cY dl;rw[e]at e1;exact h.inj i j f g hf cY au dl (hg.inj _ _ _ e1 e2)
theorem Two.app(h:Two H b k al cp fo){j n:Nat}{f:List (List AV)}{x:List AV}(hf:fo[j]?=some f)(hc:cp j=none)(hx:a08 x=[])(hn:H.length≤n)
 (h1:a01 H1 b=some (.row 1 ((a24 al cp fo).set j [.slice n 0 (f.length+1) none])))(h2:a01 H1 n=some (.row k (f++[x])))
 (h3:∀(i:Nat) (g:List (List AV)),i≠j→fo[i]?=some g→g≠[]→a01 H1 (al i)=a01 H (al i)) :
 Two H1 b k (λi=>if i=j then n else al i) cp (fo.set j (f++[x])):=by
 have bu:j<fo.length:=(e9k.1 hf).1;have ag:∀(i:Nat) (g:List (List AV)),fo[i]?=some g→g≠[]→al i<H.length:=λi g hg au=>a0t (h.sub i g hg au).1;have bE:b<H.length:=a0t h.top;refine⟨?_,?_,?_,?_⟩
 ·rw[h1]
  congr 2
  apply f3g;intro i;unfold a24;rw[f2v,List.length_mapIdx];by_cases bB:j=i
  ·subst bB;simp only[f4b,bu];rw[f1t,f2v];simp only[f4b,bu,f0e,hc,c3o,b88]
  ·simp only[f0j bB];rw[f1t,f1t,f2v,f0j bB];simp only[f0j (f4j bB)]
 ·intro i g hg au;rw[f2v]at hg;by_cases bB:j=i
  ·subst bB;simp only[f4b,bu,Option.some.injEq]at hg;subst hg;simp only[f4b];exact⟨h2,by omega⟩
  ·rw[f0j bB]at hg;simp only[f0j (f4j bB)];rw[h3 i g (f4j bB) hg au];exact h.sub i g hg au
 ·intro i i' g g' hg cY au dl e;rw[f2v]at hg cY;by_cases bB:j=i<;>by_cases iN:j=i'
  ·omega
  ·subst bB;simp only[f0j iN]at cY;simp only[f4b,f0j (f4j iN)]at e;have:=ag i' g' cY dl;omega
  ·subst iN;simp only[f0j bB]at hg;simp only[f4b,f0j (f4j bB)]at e;have:=ag i g hg au;omega
  ·simp only[f0j bB]at hg;simp only[f0j iN]at cY;simp only[f0j (f4j bB),f0j (f4j iN)]at e;exact h.inj i i' g g' hg cY au dl e
 ·intro g hg;rcases f3j hg with hg|rfl
  ·exact h.flat g hg
  ·exact(h.flat f (c10 hf)).append (FlatR.cons hx FlatR.nil)
theorem b22{H:a02}:∀(l:List Nat),(∀c∈l,a0o (a01 H c)=[])→(l.map λc=>(a0o (a01 H c)).length).sum=0
 | [],_=>rfl
 |a::l,h=>by simp only[e12,List.sum_cons,h a (by simp),f0g,b22 l (λc hc=>h c (by simp[hc]))]
theorem Two.gc{keep:List Nat}(h:Two H b k al cp fo)(hF:a08 ((a1i keep F).map (·.2))=[b]∨a08 ((a1i keep F).map (·.2))=[b,b])(hn:fo.length<900000) :
 ∃π b' aD H1,gcD 0 keep F H=some (b50 π (a1i keep F),H1)∧π b=some b'∧Two H1 b' k aD cp fo:=by
 -- the blocks that rows lead to
 obtain⟨S,hS⟩:∃S,S=b::((List.range fo.length).filter λj=>(fo[j]?).any λf=>!f.isEmpty).map al:=⟨_,rfl⟩
 have j5:∀c∈((List.range fo.length).filter λj=>(fo[j]?).any λf=>!f.isEmpty).map al,a0o (a01 H c)=[]:=by
  intro c hc;obtain⟨j,hj,rfl⟩:=f4l.1 hc;rw[f4p]at hj;have bu:j<fo.length:=by simpa using hj.1
  obtain⟨f,hf⟩:∃f,fo[j]?=some f:=⟨_,z9e bu⟩
  have au:=hj.2;rw[hf]at au;rw[(h.sub j f hf (λe=>by rw[e]at au;simp at au)).1];exact a0f (h.flat f (c10 hf))
 have ir:((((List.range fo.length).filter λj=>(fo[j]?).any λf=>!f.isEmpty).map al).map λc=>(a0o (a01 H c)).length).sum=0:=by exact b22 _ j5
 have gM:(a0o (a01 H b)).length≤fo.length:=by
  rw[h.top];show((a24 al cp fo).flatMap a08).length≤_;have:∀(l:List (List AV)),(∀r∈l,(a08 r).length≤1)→(l.flatMap a08).length≤l.length:=by
   intro l
   induction l with
   |nil=>intro _;simp
   |cons r l ih=>intro hl;have h1:=hl r (by simp);have h2:=ih (λr hr=>hl r (by simp[hr]));simp only[f4c,f1o,e9m];omega
  have h2:=this (a24 al cp fo) (by
   intro r hr;obtain⟨j,hj⟩:=f3o.1 hr;unfold a24 at hj;rw[f1t]at hj;cases hf:fo[j]? with
   |none=>rw[hf]at hj;cases hj
   |some f=>rw[hf]at hj;cases hj;simp only[a08,b23];split<;>simp)
  rw[a3o]at h2;exact h2
 obtain⟨R,π,H1,g1,g2,_⟩:=c0n (m:=0) (keep:=keep) (F:=F) (H:=H) (f0h _) S (by intro c hc;rcases hF with hF|hF<;>rw[hF]at hc<;>simp at hc<;>subst hc<;>simp[hS]) (λc hc=>absurd hc (Nat.not_lt_zero c)) (by
  intro c hc d hd;simp only[hS,f2s]at hc;rcases hc with rfl|hc
  ·rw[h.top]at hd;obtain⟨j,f,hf,au,rfl⟩:=a8e.1 hd;simp only[hS,f2s];refine .inr (f4l.2 ⟨j,f4p.2 ⟨by simpa using(e9k.1 hf).1,?_⟩,rfl⟩);rw[hf];cases f with|nil=>exact absurd rfl au|cons=>rfl
  ·rw[j5 c hc]at hd;simp at hd) (by
  have hl:(a08 ((a1i keep F).map (·.2))).length≤2:=by rcases hF with hF|hF<;>rw[hF]<;>simp
  simp only[hS,e12,List.sum_cons,ir,f2q,List.flatMap_nil,f0g];omega)
 obtain⟨b',aD,e1,e2⟩:=h.ren g2 (g2.refs b (by rcases hF with hF|hF<;>rw[hF]<;>simp));exact⟨π,b',aD,H1,g1,e1,e2⟩
theorem Two.clip(h:Two H b k al cp fo){j c:Nat}{f:List (List AV)}(hf:fo[j]?=some f)(h1:a01 H1 b=some (.row 1 ((a24 al cp fo).set j [slV (al j) (some c) f])))
 (h3:∀c,c≠b→a01 H1 c=a01 H c):Two H1 b k al (λi=>if i=j then some c else cp i) fo:=by
 have bu:j<fo.length:=(e9k.1 hf).1;refine⟨?_,λi g hg au=>?_,h.inj,h.flat⟩
 ·rw[h1]
  congr 2
  apply f3g;intro i;unfold a24;rw[f2v,List.length_mapIdx];by_cases bB:j=i
  ·subst bB;simp only[f4b,bu];rw[f1t,hf];simp
  ·simp only[f0j bB];rw[f1t,f1t];simp only[f0j (f4j bB)]
 ·obtain⟨g1,g2⟩:=h.sub i g hg au;rw[h3 _ g2];exact⟨g1,g2⟩
def slF(c:Option Nat):List (List AV)→AV|[]=>.nilslice|r::rs=>.islice (r::rs) c
theorem Two.frz(h:Two H b k al cp fo)(c:Option Nat):a3i 0 true (a58 (a01 H) 0 12) (.slice b 0 fo.length c)=some (.islice (fo.mapIdx λj f=>[slF (cp j) f]) c):=by
 have key:∀(rows:List (List AV)) (out:List (List AV)),rows.length=out.length→(∀(j:Nat) r o,rows[j]?=some r→out[j]?=some o→a5i 0 false (a58 (a01 H) 0 11) r=some o)→a8m 0 (a58 (a01 H) 0 11) rows=some out:=by
  intro rows
  induction rows with
  |nil=>intro out hl _;cases out with|nil=>rfl|cons=>simp at hl
  |cons r rows ih=>
   intro out hl hh;cases out with
   |nil=>simp at hl
   |cons o out=>rw[b41,hh 0 r o rfl rfl];simp only[a0k];rw[ih out (by simpa using hl) (λj r o hr ho=>hh (j+1) r o (by simpa using hr) (by simpa using ho))]
 have uO:∀x,a58 (a01 H) 0 12 x=a58 (a01 H) 0 (11+1) x:=λ_=>rfl;rw[b3z,f7a (Nat.not_lt_zero b),f2z,b6p (f7k (by omega:0<12)),h.top];simp only[b1f,a0k,a3o,f4g,f3e];rw[f2x (f1u _),f2m,←a3o al cp fo,f3a];rw[key (a24 al cp fo) (fo.mapIdx λj f=>[slF (cp j) f]) (by rw[a3o];simp)];intro j r o hr ho;rw[f1t]at ho;cases hf:fo[j]? with
 |none=>rw[hf]at ho;cases ho
 |some f=>
  rw[hf]at ho;rw[a6f hf]at hr;cases ho;cases hr;rw[d13,d5h];cases f with
  |nil=>rfl
  |cons x xs=>obtain⟨g1,_⟩:=h.sub j _ hf (by simp);have bF:=h.flat _ (c10 hf);simp only[slV,slF];rw[b3z,f7a (Nat.not_lt_zero _),f2z,b6p (f7k (by omega:0<11)),g1];simp only[b1f,a0k,f4g,f3e];rw[f2x (by simp),f2m];have:List.take (xs.length+1) (x::xs)=x::xs:=f3a (l:=x::xs);rw[this,a1g _ _ bF]
end
theorem Two.more{H L:a02}{b k:Nat}{al:Nat→Nat}{cp:Nat→Option Nat}{fo:List (List (List AV))}(h:Two H b k al cp fo):Two (H++L) b k al cp fo:=by
 have hl:∀{c:Nat} {o:AObj},a01 H c=some o→a01 (H++L) c=some o:=λhc=>by rw[a1m (f7k (a0t hc))];exact hc
 exact⟨hl h.top,λj f hf au=>⟨hl (h.sub j f hf au).1,(h.sub j f hf au).2⟩,h.inj,h.flat⟩
theorem a2x{H L:a02}{a:Nat}{o:Option AObj}(i:Nat):a01 (H.set a o++L) (H.length+i)=a01 L i:=by
 have:=a37 (H:=H.set a o) (L:=L) i
 rwa [f2r]at this
theorem a2w{H L:a02}{a c:Nat}{o:Option AObj}(hc:c<H.length):a01 (H.set a o++L) c=if a=c then o else a01 H c:=by
 rw[a1m (f7k (by rw[f2r];exact hc)),b3v];by_cases h:a=c
 ·subst h;simp[hc]
 ·simp[h]
section
variable {H:a02}{b k:Nat}{al:Nat→Nat}{cp:Nat→Option Nat}{fo:List (List (List AV))}{j:Nat}{x:List AV}{o:Option AObj}
theorem Two.app1(h:Two H b k al cp fo)(hf:fo[j]?=some [])(hc:cp j=none)(hx:a08 x=[]) :
 Two (H.set b (some (.row 1 ((a24 al cp fo).set j [.slice (H.length+1) 0 1 none])))++[o,some (.row k [x])]) b k (λi=>if i=j then H.length+1 else al i) cp (fo.set j [x]):=by
 have bE:=a0t h.top;refine h.app hf hc hx (by omega) ?_ ?_ ?_
 ·rw[a2w bE,f1r rfl];rfl
 ·rw[a2x];rfl
 ·intro i g bB hg au;obtain⟨g1,g2⟩:=h.sub i g hg au;rw[a2w (a0t g1),f0j (f4j g2)]
theorem Two.app2{a:List AV}{r:List (List AV)}(h:Two H b k al cp fo)(hf:fo[j]?=some (a::r))(hc:cp j=none)(hx:a08 x=[]) :
 Two ((H.set (al j) none).set b (some (.row 1 ((a24 al cp fo).set j [.slice (H.length+1) 0 (r.length+1+1) none])))++[o,some (.row k (a::(r++[x])))]) b k (λi=>if i=j then H.length+1 else al i) cp (fo.set j (a::r++[x])):=by
 have bE:=a0t h.top;have bl:(H.set (al j) none).length=H.length:=f2r;refine h.app hf hc hx (by omega) ?_ ?_ ?_
 ·rw[a2w (by rw[bl];exact bE),f1r rfl];rfl
 ·have:=a2x (H:=H.set (al j) none) (L:=[o,some (.row k (a::(r++[x])))]) (a:=b) (o:=some (.row 1 ((a24 al cp fo).set j [.slice (H.length+1) 0 (r.length+1+1) none]))) 1;rw[bl]at this;rw[this];rfl
 ·intro i g bB hg au;obtain⟨g1,g2⟩:=h.sub i g hg au;rw[a2w (by rw[bl];exact a0t g1),f0j (f4j g2),a0z];intro e;exact bB (h.inj i j g (a::r) hg hf au (by simp) e.symm)
end
theorem a5y{keep:List Nat}{F:Frm}{H:a02}{b k:Nat}{al:Nat→Nat}{cp:Nat→Option Nat}{fo:List (List (List AV))}{P:Frm→a02→Prop}(h:Two H b k al cp fo)(hF:a08 ((a1i keep F).map (·.2))=[b]∨a08 ((a1i keep F).map (·.2))=[b,b])(hn:fo.length<900000)
 (hP:∀π b' aD H1,π b=some b'→Two H1 b' k aD cp fo→P (b50 π (a1i keep F)) H1):∃F1 H1,gcD 0 keep F H=some (F1,H1)∧P F1 H1:=by
 obtain⟨π,b',aD,H1,g1,g2,g3⟩:=h.gc hF hn;exact⟨_,H1,g1,hP π b' aD H1 g2 g3⟩
def fqE(E:Env)(g:FuncId)(m:Nat)(results:List ResultVar)(P:AV×a02→Prop):b1v:=λe F H=>match e with|.exit _=>False|_=>∃vs r,a18 E F H results=some vs∧a10 (E.thaw g) m (a66 vs) H=some r∧P r
theorem a1v{E:Env}{g:FuncId}{m:Nat}{results:List ResultVar}{P:AV×a02→Prop}{F:Frm}{H:a02}{vs:List AV}{r:AV×a02}(h1:a18 E F H results=some vs)(h2:a10 (E.thaw g) m (a66 vs) H=some r)(h3:P r):fqE E g m results P .ret F H:=⟨vs,r,h1,h2,h3⟩
theorem a8r{E:Env}{g:FuncId}{m:Nat}{results:List ResultVar}{P:AV×a02→Prop}{F:Frm}{H:a02}{vs:List AV}{r:AV×a02}(h1:a18 E F H results=some vs)(h2:a10 (E.thaw g) m (a66 vs) H=some r)(h3:P r):fqE E g m results P .normal F H:=⟨vs,r,h1,h2,h3⟩
theorem d92{E:Env}{M:List Fact}{g:FuncId}{args:List AV}{H:a02}{code:Code}{N:Nat}{results:List ResultVar}{P:AV×a02→Prop}
 (bv:E.fn g=some ⟨code,N,results⟩)(bU:∀y∈M,y.g≠g)(hN:Nat.ble args.length N=true){m:Nat}(hm:H.length=m)(h:Wp (cx E M m N g 0) code (a4n 0 args) H (fqE E g m results P))(hp:E.prim g args=none:=by rfl)(hz:E.zf g=false:=by rfl):∃r,P r∧sem E M g args H=some r:=by
 subst hm;obtain⟨e,F',H',h1,h2⟩:=c1p _ h;cases e with
 |normal=>obtain⟨vs,⟨v,H2⟩,h3,h4,h5⟩:=h2;exact⟨_,h5,c3q bv bU hN h1 (λ_ h=>by cases h) h3 h4 hp hz⟩
 |ret=>obtain⟨vs,⟨v,H2⟩,h3,h4,h5⟩:=h2;exact⟨_,h5,c3q bv bU hN h1 (λ_ h=>by cases h) h3 h4 hp hz⟩
 |exit id=>exact h2.elim
theorem svE{E:Env}{M:List Fact}{g:FuncId}{args:List AV}{H:a02}{P:AV×a02→Prop}(f:Func)(h:Wp (cx E M H.length f.ntmps g 0) (f.body.getD .skip) (a4n 0 args) H (fqE E g H.length f.results.toList P))(bv:E.fn g=some ⟨f.body.getD .skip,f.ntmps,f.results.toList⟩:=by kernel_rfl)
 (bU:(M.all λy=>!Nat.beq y.g g)=true:=by rfl)(hN:Nat.ble args.length f.ntmps=true:=by rfl)(hp:E.prim g args=none:=by rfl)(hz:E.zf g=false:=by rfl):∃r,P r∧sem E M g args H=some r:=d92 bv (λy hy e=>by
 have:=f2u.1 bU y hy;rw[e]at this;simp at this) hN rfl h hp hz
end Go.Ax
/- AxCall3: calls over two blocks, which they may write. -/
namespace Go.Ax
theorem a61{σ:List Nat}{n:Nat}{H1:a02}:∀(s:Nat) (H:a02) (i:Nat),(a0w σ n H1 s H)[i]?=(H[i]?).map λo=>match σ.idxOf? (s+i)with|some j=>(a01 H1 j).map (a0g (a13 σ n))|none=>o
 |s,[],i=>by simp[a0w]
 |s,o::H,0=>by simp[a0w];rfl
 |s,o::H,i+1=>by simp only[a0w,f1q,a61 (s+1) H i];rw[show s+1+i=s+(i+1) by omega]
theorem c92{H:a02}{a b:Nat}(aX:a≠b)(ha:a0o (a01 H a)=[])(hb:a0o (a01 H b)=[]):a2p H 1000000 [a,b] []=[a,b]:=by
 have e:a2p H (999996+4) [a,b] []=[a,b]:=by
  unfold a2p;simp only[a1c,f2z,ha,e9q];unfold a2p;have h1:a1c [a] b=false:=by
   cases hc:a1c [a] b with
   |false=>rfl
   |true=>exact absurd (by simpa using a2s.1 hc) (f4j aX)
  simp only[h1,f2z,hb,e9q];unfold a2p;rfl
 exact e
theorem b03{E:Env}{ah:Bool}{call:CallF}{g:FuncId}{fs cs ar args:List AV}{H:a02}{v v':AV}{a b:Nat}{o1 o2 p1 p2:AObj}(hx:E.ext g=false)(hf:(E.fn g).isSome=true)(he:fs++ar++cs=args)
 (aX:a≠b)(ha:a01 H a=some o1)(hb:a01 H b=some o2)(eA:a0o (some o1)=[])(e8:a0o (some o2)=[])(gy:FlatO (some o1))(mi:FlatO (some o2))(aC:a08 args=[a,b])
 {ap:List AV}(pF:args.map (ren (a4m [a,b]))=ap)(hr:call g ap [some o1,some o2]=some (v,[some p1,some p2]))(cI:FlatO (some p1))(cH:FlatO (some p2))(hv:ren (a13 [a,b] H.length) v=v') :
 a09 E ah call (.func (.func g) fs cs) ar H=some (v',(H.set a (some p1)).set b (some p2),[a,b]):=by
 have l1:=a0t ha;have l2:=a0t hb;have hn:a54 [a,b]=true:=a9k (by simp[aX]);have hc:=a12 (call g) args H (σ:=[a,b]) (by rw[aC];exact c92 aX (by rw[ha];exact eA) (by rw[hb];exact e8)) hn (by simp[l1,l2]) pF (H0:=[some o1,some o2])
  (by simp only[a1k,e12,e9p,ha,hb];rw[gy,mi]) hr
 have gb:a0w [a,b] H.length [some p1,some p2] 0 H=(H.set a (some p1)).set b (some p2):=by
  apply f3g;intro i;rw[a61,f2v,f2v,f2r,f3e];by_cases jC:a=i
  ·subst jC;have e:([a,b]:List Nat).idxOf? a=some 0:=by simp[f5s]
   rw[z9e l1];simp only[f0e,e,f0j (f4j aX),f4b,l1]
   congr 1
   exact cI _
  ·by_cases je:b=i
   ·subst je;have e:([a,b]:List Nat).idxOf? b=some 1:=by simp[f5s,aX]
    rw[z9e l2];simp only[f0e,e,f4b,l2]
    congr 1
    exact cH _
   ·have e:([a,b]:List Nat).idxOf? i=none:=by simp[f5s,jC,je]
    rw[f0j je,f0j jC];cases H[i]? with
    |none=>rfl
    |some o=>simp only[f0e,e]
 rw[hv,gb]at hc;simp only[List.drop_succ_cons,f4g,e9p,e9n,e9m,f0g]at hc;exact a7g hx hf he hc (by simp)
theorem c23(a b o l:Nat)(c:Option Nat):ren (a4m [a,b]) (.slice a o l c) = .slice 0 o l c:=by simp[ren,a4m,f5s]
theorem c8v{a b:Nat}(h:a≠b)(i o:Nat):ren (a4m [a,b]) (.ptr b i o) = .ptr 1 i o:=by simp[ren,a4m,f5s,h]
end Go.Ax
/- AxTab: a table of rows of words in blocks, wherever they lie; heads of loops and calls over it. -/
namespace Go.Ax
structure Mv(H:a02)(R:Nat→Prop)(π:Nat→Option Nat)(H1:a02):Prop where
 inj:∀a b c,π a=some c→π b=some c→a=b
 closed:∀b,R b→∀c∈a0o (a01 H b),R c
 here:∀b,R b→∃c,π b=some c
 heap:∀b c,R b→π b=some c→a01 H1 c=(a01 H b).map (a0g π)
theorem Gc.mv{m:Nat}{F:Frm}{H H1:a02}{R:Nat→Prop}{π:Nat→Option Nat}(g:Gc m F H R π H1):Mv H R π H1:=⟨g.inj,g.closed,g.here,λb c _ h=>g.heap b c h⟩
section
variable {H H1:a02}{R:Nat→Prop}{π:Nat→Option Nat}{a b q:Nat}{al:Nat→Nat}{w:Nat}{fo:List (List (BitVec 64))}{fr:Int}
end
/-! ### calls, wherever the blocks lie -/
theorem b9h{H:a02}{σ:List Nat}(hn:σ.Nodup){b:Nat}(hb:b∈σ):∃j,a4m σ b=some j∧σ[j]?=some b∧a01 (a1k H σ (a4m σ)) j=(a01 H b).map (a0g (a4m σ)):=by obtain⟨j,hj⟩:=f3o.1 hb;refine⟨j,a44 hn hj,hj,?_⟩;unfold a1k a01;rw[f0d,hj];rfl
theorem e4l{H H1:a02}{σ:List Nat}{n b j:Nat}(hn:σ.Nodup)(hj:σ[j]?=some b)(hb:b<H.length):a01 (a0w σ n H1 0 H) b=(a01 H1 j).map (a0g (a13 σ n)):=by unfold a01;rw[a61,z9e hb,f3e,a44 hn hj];rfl
theorem b31{σ:List Nat}{n:Nat}{H1:a02}:∀(s:Nat) (H:a02),(a0w σ n H1 s H).length=H.length
 |_,[]=>rfl
 |s,o::H=>by simp[a0w,b31 (s+1) H]
theorem d47{H:a02}{dQ σ:List Nat}(hr:Reached H dQ σ):Mv H (·∈σ) (a4m σ) (a1k H σ (a4m σ)):=by
 refine⟨?_,hr.closed,λb hb=>?_,λb c hb hc=>?_⟩
 ·intro a b c ha hb;have h1:=a1p ha;have h2:=a1p hb;rw[h1]at h2;exact z9o h2
 ·obtain⟨j,hj,_⟩:=b9h (H:=H) hr.nodup hb;exact⟨j,hj⟩
 ·obtain⟨j,hj,_,e⟩:=b9h (H:=H) hr.nodup hb;rw[hj]at hc;cases hc;exact e
theorem e04{H H1:a02}{σ:List Nat}(hn:σ.Nodup)(hl:∀b∈σ,b<H.length)(R:Nat→Prop)(hR:∀j,R j→j<σ.length)(hc:∀j,R j→∀c∈a0o (a01 H1 j),R c):Mv H1 R (a13 σ H.length) (a0w σ H.length H1 0 H):=by
 have hb:∀j,j<σ.length→a13 σ H.length j=σ[j]?:=λj hj=>by unfold a13;rw[show Nat.blt j σ.length=true by rw[f2p];exact hj];rfl
 have gX:∀j,¬j<σ.length→a13 σ H.length j=some (H.length+(j-σ.length)):=λj hj=>by
  unfold a13;have:Nat.blt j σ.length=false:=by rw[Bool.eq_false_iff];intro h;rw[f2p]at h;exact hj h
  rw[this];rfl
 refine⟨?_,hc,λj hj=>?_,λj c hj ns=>?_⟩
 ·intro x y c hx hy;by_cases h1:x<σ.length<;>by_cases h2:y<σ.length
  ·rw[hb x h1]at hx;rw[hb y h2]at hy;exact(List.getElem?_inj h1 hn).1 (hx.trans hy.symm)
  ·rw[hb x h1]at hx;rw[gX y h2]at hy;have:=hl c (c10 hx);cases hy;omega
  ·rw[gX x h1]at hx;rw[hb y h2]at hy;have:=hl c (c10 hy);cases hx;omega
  ·rw[gX x h1]at hx;rw[gX y h2]at hy;cases hx;simp only[Option.some.injEq]at hy;omega
 ·rw[hb j (hR j hj)];exact⟨_,z9e (hR j hj)⟩
 ·rw[hb j (hR j hj)]at ns;exact e4l hn ns (hl c (c10 ns))
theorem d26{σ:List Nat}{n b j:Nat}(hj:a4m σ b=some j):a13 σ n j=some b:=by have h:=a1p hj;have hl:=(e9k.1 h).1;unfold a13;rw[show Nat.blt j σ.length=true by rw[f2p];exact hl];exact h
theorem c38(run:List AV→a02→Option (AV×a02))(args:List AV)(H:a02)(S:List Nat)(h1:∀b∈a08 args,b∈S)(h2:∀b∈S,∀c∈a0o (a01 H b),c∈S)(h3:∀b∈S,b<H.length)
 (hn:(a08 args).length+(S.map λb=>(a0o (a01 H b)).length).sum<1000000) :
 ∃σ:List Nat,Reached H (a08 args) σ∧(∀b∈σ,b<H.length)∧∀v H1,run (args.map (ren (a4m σ))) (a1k H σ (a4m σ))=some (v,H1)→
  a1r run args H=some (ren (a13 σ H.length) v,a0w σ H.length H1 0 H++(H1.drop σ.length).map (Option.map (a0g (a13 σ H.length))),σ):=by
 have hr:=b5x (H:=H) (dQ:=a08 args) S h1 h2 hn;have ag:∀b∈a2p H 1000000 (a08 args) [],b<H.length:=λb hb=>h3 b (hr.least (·∈S) h1 h2 b hb);refine⟨_,hr,ag,λv H1 ac=>?_⟩;exact a12 run args H rfl (a9k hr.nodup) (by rw[f2u];intro b hb;simpa using ag b hb) rfl rfl ac
end Go.Ax
/- AxGw: a flat block and a slice of rows that grow together. -/
namespace Go.Ax
section
variable {H H1:a02}{R:Nat→Prop}{π:Nat→Option Nat}{w b k:Nat}{al:Nat→Nat}{cp:Nat→Option Nat}{ws:List (List AV)}{fo:List (List (List AV))}
theorem Two.mv(hg:Mv H R π H1)(h:Two H b k al cp fo)(hb:R b):∃b' aD,π b=some b'∧Two H1 b' k aD cp fo∧∀(j:Nat) (f:List (List AV)),fo[j]?=some f→f≠[]→π (al j)=some (aD j):=by
 obtain⟨b',aL⟩:=hg.here b hb;have hR:∀(j:Nat) (f:List (List AV)),fo[j]?=some f→f≠[]→R (al j):=λj f hf au=>hg.closed b hb _ (by rw[h.top];exact a8e.2 ⟨j,f,hf,au,rfl⟩);have aT:∀(j:Nat) (f:List (List AV)),fo[j]?=some f→f≠[]→π (al j)=some ((π (al j)).getD 0):=by intro j f hf au;obtain⟨c,hc⟩:=hg.here _ (hR j f hf au);rw[hc];rfl
 refine⟨b',λj=>(π (al j)).getD 0,aL,⟨?_,?_,?_,h.flat⟩,aT⟩
 ·rw[hg.heap b b' hb aL,h.top];simp only[f0e,a0g]
  congr 2
  unfold a24;apply f3g;intro j;simp only[f0d,f1t];cases hf:fo[j]? with
  |none=>rfl
  |some f=>simp only[f0e,e12,e9p,c8g (aT j f hf)]
 ·intro j f hf au;have e:=aT j f hf au;obtain⟨h1,h2⟩:=h.sub j f hf au;refine⟨?_,?_⟩
  ·rw[hg.heap _ _ (hR j f hf au) e,h1];simp only[f0e,a0g,a0b π (h.flat f (c10 hf))]
  ·intro he;rw[he]at e;exact h2 (hg.inj _ _ _ e aL)
 ·intro i j f g hf cY au dl e;have e1:=aT i f hf au;have e2:=aT j g cY dl;rw[e]at e1;exact h.inj i j f g hf cY au dl (hg.inj _ _ _ e1 e2)
structure Gw(H:a02)(w b:Nat)(al:Nat→Nat)(cp:Nat→Option Nat)(ws:List (List AV))(fo:List (List (List AV))):Prop where
 out:a01 H w=some (.row 2 ws)
 flat:FlatR ws
 two:Two H b 1 al cp fo
 wb:w≠b
 wi:∀(j:Nat) (f:List (List AV)),fo[j]?=some f→f≠[]→al j≠w
def a6c(b:Nat)(al:Nat→Nat)(fo:List (List (List AV))):List Nat:=b::((List.range fo.length).filter λj=>(fo[j]?).any λf=>!f.isEmpty).map al
theorem b9b{j:Nat}{f:List (List AV)}(hf:fo[j]?=some f)(au:f≠[]):al j∈a6c b al fo:=by unfold a6c;refine f7d _ (f4l.2 ⟨j,f4p.2 ⟨by simpa using(e9k.1 hf).1,?_⟩,rfl⟩);rw[hf];cases f with|nil=>exact absurd rfl au|cons=>rfl
theorem a9e{c:Nat}(h:c∈a6c b al fo):c=b∨∃j f,fo[j]?=some f∧f≠[]∧c=al j:=by
 unfold a6c at h;rcases f2s.1 h with h|h
 ·exact .inl h
 ·obtain⟨j,hj,rfl⟩:=f4l.1 h;rw[f4p]at hj;obtain⟨f,hf⟩:∃f,fo[j]?=some f:=⟨_,z9e (by simpa using hj.1)⟩
  have:=hj.2;rw[hf]at this;exact .inr ⟨j,f,hf,by intro e;rw[e]at this;simp at this,rfl⟩
theorem Two.closed(h:Two H b k al cp fo):∀c∈a6c b al fo,∀d∈a0o (a01 H c),d∈a6c b al fo:=by
 intro c hc d hd;rcases a9e hc with rfl|⟨j,f,hf,au,rfl⟩
 ·rw[h.top]at hd;obtain⟨j,f,hf,au,rfl⟩:=a8e.1 hd;exact b9b hf au
 ·rw[(h.sub j f hf au).1,a0f (h.flat f (c10 hf))]at hd;simp at hd
theorem Two.cost(h:Two H b k al cp fo):((a6c b al fo).map λc=>(a0o (a01 H c)).length).sum≤fo.length:=by
 have hz:((((List.range fo.length).filter λj=>(fo[j]?).any λf=>!f.isEmpty).map al).map λc=>(a0o (a01 H c)).length).sum=0:=b22 _ (by
  intro c hc;obtain⟨j,hj,rfl⟩:=f4l.1 hc;rw[f4p]at hj;obtain⟨f,hf⟩:∃f,fo[j]?=some f:=⟨_,z9e (by simpa using hj.1)⟩
  have:=hj.2;rw[hf]at this;rw[(h.sub j f hf (by intro e;rw[e]at this;simp at this)).1];exact a0f (h.flat f (c10 hf)))
 unfold a6c;rw[e12,List.sum_cons,hz,f6s,h.top];show((a24 al cp fo).flatMap a08).length≤_;have:∀(l:List (List AV)),(∀r∈l,(a08 r).length≤1)→(l.flatMap a08).length≤l.length:=by
  intro l
  induction l with
  |nil=>intro _;simp
  |cons r l ih=>intro hl;have h1:=hl r (by simp);have h2:=ih (λr hr=>hl r (by simp[hr]));simp only[f4c,f1o,e9m];omega
 have h2:=this (a24 al cp fo) (by
  intro r hr;obtain⟨j,hj⟩:=f3o.1 hr;unfold a24 at hj;rw[f1t]at hj;cases hf:fo[j]? with
  |none=>rw[hf]at hj;cases hj
  |some f=>rw[hf]at hj;cases hj;simp only[a08,b23];split<;>simp)
 rw[a3o]at h2;exact h2
theorem Two.lt(h:Two H b k al cp fo):∀c∈a6c b al fo,c<H.length:=by
 intro c hc;rcases a9e hc with rfl|⟨j,f,hf,au,rfl⟩
 ·exact a0t h.top
 ·exact a0t (h.sub j f hf au).1
theorem Gw.head{keep:List Nat}{F:Frm}{P:Frm→a02→Prop}(h:Gw H w b al cp ws fo)(hF:∀c∈a08 ((a1i keep F).map (·.2)),c=w∨c=b)(hw:w∈a08 ((a1i keep F).map (·.2)))(hb:b∈a08 ((a1i keep F).map (·.2)))(hl:(a08 ((a1i keep F).map (·.2))).length≤10)(hn:fo.length<900000)
 (hP:∀π w' b' aD H1,π w=some w'→π b=some b'→Gw H1 w' b' aD cp ws fo→P (b50 π (a1i keep F)) H1):∃F1 H1,gcD 0 keep F H=some (F1,H1)∧P F1 H1:=by
 have kh:=h.two.cost;obtain⟨R,π,H1,g1,g2,_⟩:=c0n (m:=0) (keep:=keep) (F:=F) (H:=H) (f0h _) (w::a6c b al fo) (λc hc=>by
  rcases hF c hc with rfl|rfl
  ·simp
  ·simp[a6c]) (λc hc=>absurd hc (Nat.not_lt_zero c)) (by
  intro c hc d hd;rcases f2s.1 hc with rfl|hc
  ·rw[h.out,a0f h.flat]at hd;simp at hd
  ·exact f7d _ (h.two.closed c hc d hd)) (by
  have e:(a0o (a01 H w)).length=0:=by rw[h.out,a0f h.flat];rfl
  simp only[e12,List.sum_cons,e,f2q,List.flatMap_nil,f0g];omega)
 have hm:=g2.mv;have uc:=g2.refs w hw;obtain⟨w',eo⟩:=hm.here w uc;obtain⟨b',aD,e1,e2,e3⟩:=h.two.mv hm (g2.refs b hb);refine⟨_,H1,g1,hP π w' b' aD H1 eo e1 ⟨?_,h.flat,e2,?_,?_⟩⟩
 ·rw[g2.heap w w' eo,h.out];simp only[f0e,a0g,a0b π h.flat]
 ·intro e;subst e;exact h.wb (hm.inj _ _ _ eo e1)
 ·intro j f hf au e;have:=e3 j f hf au;rw[e]at this;exact h.wi j f hf au (hm.inj _ _ _ this eo)
theorem Gw.new(h:Gw H w b al cp ws fo){w' b' x':Nat}{x:List AV}{z:List AV}{q:Option Nat}(hx:a08 x=[])(hz:a08 z=[])(h1:a01 H1 w'=some (.row 2 (ws++[x])))(h2:a01 H1 b'=some (.row 1 (a24 al cp fo++[[.slice x' 0 1 q]])))(h3:a01 H1 x'=some (.row 1 [z]))
 (h4:∀c,c<H.length→c≠w→c≠b→a01 H1 c=a01 H c)(l1:H.length≤w')(l2:H.length≤b')(l3:H.length≤x')(n1:w'≠b')(n2:x'≠w')(n3:x'≠b') :
 Gw H1 w' b' (λj=>if j=fo.length then x' else al j) (λj=>if j=fo.length then q else cp j) (ws++[x]) (fo++[[z]]):=by
 have aW:∀(j:Nat) (f:List (List AV)),(fo++[[z]])[j]?=some f→(j=fo.length∧f=[z])∨(j≠fo.length∧fo[j]?=some f):=by
  intro j f hf;by_cases hj:j<fo.length
  ·rw[f0i hj]at hf;exact .inr ⟨by omega,hf⟩
  ·have bu:=(e9k.1 hf).1;simp only[f1o,List.length_singleton]at bu;obtain rfl:j=fo.length:=by omega
   rw[f1n (f1u _)]at hf;simp only[Nat.sub_self,f1p,Option.some.injEq]at hf;exact .inl ⟨rfl,hf.symm⟩
 have aF:∀(j:Nat) (f:List (List AV)),fo[j]?=some f→f≠[]→a01 H1 (al j)=some (.row 1 f)∧al j<H.length:=by intro j f hf au;obtain⟨g1,g2⟩:=h.two.sub j f hf au;have hl:=a0t g1;exact⟨by rw[h4 _ hl (h.wi j f hf au) g2,g1],hl⟩
 refine⟨h1,h.flat.append (FlatR.cons hx FlatR.nil),⟨?_,?_,?_,?_⟩,n1,?_⟩
 ·rw[h2]
  congr 2
  unfold a24;rw[List.mapIdx_append]
  congr 1
  ·apply f3g;intro j;rw[f1t,f1t];cases hf:fo[j]? with
   |none=>rfl
   |some f=>have:=(e9k.1 hf).1;simp only[f0e,f0j (show j≠fo.length by omega)]
  ·simp[slV]
 ·intro j f hf au;rcases aW j f hf with ⟨rfl,rfl⟩|⟨hj,ls⟩
  ·simp only[f4b];exact⟨h3,n3⟩
  ·simp only[f0j hj];obtain⟨g1,g2⟩:=aF j f ls au;exact⟨g1,by omega⟩
 ·intro i j f g hf hg au dl e;rcases aW i f hf with ⟨rfl,rfl⟩|⟨hi,ls⟩<;>rcases aW j g hg with ⟨rfl,rfl⟩|⟨hj,cY⟩
  ·rfl
  ·simp only[f4b,f0j hj]at e;have:=(aF j g cY dl).2;omega
  ·simp only[f4b,f0j hi]at e;have:=(aF i f ls au).2;omega
  ·simp only[f0j hi,f0j hj]at e;exact h.two.inj i j f g ls cY au dl e
 ·intro f hf;rw[f2w,f1s]at hf;rcases hf with hf|rfl
  ·exact h.two.flat f hf
  ·exact FlatR.cons hz FlatR.nil
 ·intro j f hf au;rcases aW j f hf with ⟨rfl,rfl⟩|⟨hj,ls⟩
  ·simp only[f4b];exact n2
  ·simp only[f0j hj];have:=(aF j f ls au).2;omega
theorem Gw.first{w' b' x':Nat}{x:List AV}{z:List AV}{q:Option Nat}(hx:a08 x=[])(hz:a08 z=[])(h1:a01 H1 w'=some (.row 2 [x]))(h2:a01 H1 b'=some (.row 1 [[.slice x' 0 1 q]]))(h3:a01 H1 x'=some (.row 1 [z]))(n1:w'≠b')(n2:x'≠w')(n3:x'≠b') :
 Gw H1 w' b' (λ_=>x') (λ_=>q) [x] [[z]]:=by
 have aW:∀(j:Nat) (f:List (List AV)),[[z]][j]?=some f→j=0∧f=[z]:=by
  intro j f hf;cases j with
  |zero=>simp at hf;exact⟨rfl,hf.symm⟩
  |succ j=>simp at hf
 refine⟨h1,FlatR.cons hx FlatR.nil,⟨h2,λj f hf au=>?_,λi j f g hf hg _ _ _=>?_,λf hf=>?_⟩,n1,λj f _ _=>n2⟩
 ·obtain⟨rfl,rfl⟩:=aW j f hf;exact⟨h3,n3⟩
 ·rw[(aW i f hf).1,(aW j g hg).1]
 ·rw[f1s]at hf;subst hf;exact FlatR.cons hz FlatR.nil
theorem Gw.upd(h:Gw H w b al cp ws fo){k n:Nat}{f:List (List AV)}{x z:List AV}(hf:fo[k]?=some f)(hx:a08 x=[])(hz:a08 z=[])(hn:H.length≤n)
 (h1:a01 H1 w=some (.row 2 (ws.set k x)))(h2:a01 H1 b=some (.row 1 ((a24 al cp fo).set k [.slice n 0 (f.length+1) none])))(h3:a01 H1 n=some (.row 1 (f++[z])))
 (h4:∀c,c<H.length→c≠w→c≠b→(f≠[]→c≠al k)→a01 H1 c=a01 H c) :
 Gw H1 w b (λi=>if i=k then n else al i) (λi=>if i=k then none else cp i) (ws.set k x) (fo.set k (f++[z])):=by
 have bw:k<fo.length:=(e9k.1 hf).1;have fI:=a0t h.out;have bE:=a0t h.two.top;have aW:∀(j:Nat) (g:List (List AV)),(fo.set k (f++[z]))[j]?=some g→(j=k∧g=f++[z])∨(j≠k∧fo[j]?=some g):=by
  intro j g hg;rw[f2v]at hg;by_cases hj:k=j
  ·subst hj;simp only[f4b,bw,Option.some.injEq]at hg;exact .inl ⟨rfl,hg.symm⟩
  ·rw[f0j hj]at hg;exact .inr ⟨f4j hj,hg⟩
 have aF:∀(j:Nat) (g:List (List AV)),j≠k→fo[j]?=some g→g≠[]→a01 H1 (al j)=some (.row 1 g)∧al j<H.length:=by intro j g hj hg au;obtain⟨g1,g2⟩:=h.two.sub j g hg au;have hl:=a0t g1;exact⟨by rw[h4 _ hl (h.wi j g hg au) g2 (λbv e=>hj (h.two.inj j k g f hg hf au bv e)),g1],hl⟩
 refine⟨h1,λr hr=>?_,⟨?_,?_,?_,?_⟩,h.wb,?_⟩
 ·rcases f3j hr with h'|rfl
  ·exact h.flat r h'
  ·exact hx
 ·rw[h2]
  congr 2
  apply f3g;intro i;unfold a24;rw[f2v,List.length_mapIdx];by_cases gh:k=i
  ·subst gh;simp only[f4b,bw];rw[f1t,f2v];simp only[f4b,bw,f0e];rw[c3o,b88]
  ·rw[f0j gh,f1t,f1t,f2v,f0j gh];simp only[f0j (f4j gh)]
 ·intro j g hg au;rcases aW j g hg with ⟨rfl,rfl⟩|⟨hj,cY⟩
  ·simp only[f4b];exact⟨h3,by omega⟩
  ·simp only[f0j hj];exact⟨(aF j g hj cY au).1,(h.two.sub j g cY au).2⟩
 ·intro i j g g' hg cY au dl e;rcases aW i g hg with ⟨rfl,rfl⟩|⟨hi,rY⟩<;>rcases aW j g' cY with ⟨rfl,rfl⟩|⟨hj,gW⟩
  ·rfl
  ·simp only[f4b,f0j hj]at e;have:=(aF j g' hj gW dl).2;omega
  ·simp only[f4b,f0j hi]at e;have:=(aF i g hi rY au).2;omega
  ·simp only[f0j hi,f0j hj]at e;exact h.two.inj i j g g' rY gW au dl e
 ·intro g hg;rcases f3j hg with hg|rfl
  ·exact h.two.flat g hg
  ·exact(h.two.flat f (c10 hf)).append (FlatR.cons hz FlatR.nil)
 ·intro j g hg au;rcases aW j g hg with ⟨rfl,rfl⟩|⟨hj,cY⟩
  ·simp only[f4b];omega
  ·simp only[f0j hj];exact h.wi j g cY au
theorem Gw.clip(h:Gw H w b al cp ws fo){j c:Nat}{f:List (List AV)}(hf:fo[j]?=some f)(h1:a01 H1 b=some (.row 1 ((a24 al cp fo).set j [slV (al j) (some c) f])))
 (h3:∀c,c≠b→a01 H1 c=a01 H c):Gw H1 w b al (λi=>if i=j then some c else cp i) ws fo:=
 ⟨by rw[h3 w h.wb,h.out],h.flat,h.two.clip hf h1 h3,h.wb,h.wi⟩
end
theorem c77{E:Env}{d:Bool}{call:CallF}{g:FuncId}{H:a02}{w b:Nat}{al:Nat→Nat}{cp:Nat→Option Nat}{ws:List (List AV)}{fo:List (List (List AV))}{n:Nat}{c c':Option Nat}(hx:E.ext g=false)(hf:(E.fn g).isSome=true)
 (h:Gw H w b al cp ws fo)(hn:fo.length≤1000)
 (ac:∀(H0:a02) (b':Nat) (R:List (List AV)),a01 H0 b'=some (.row 1 R)→(∀x,∀y∈a0o (a01 H0 x),y<H0.length)→call g [.slice b' 0 n c] H0=some (.slice b' 0 n c',H0)) :
 ∃H' σ aD,a09 E d call (.func (.func g) [] []) [.slice b 0 n c] H=some (.slice b 0 n c',H',σ)∧Gw H' w b aD cp ws fo∧H'.length=H.length:=by
 have cu:a08 ([]++[AV.slice b 0 n c]++[])=[b]:=rfl;have kh:=h.two.cost;obtain⟨σ,hr,ag,mg⟩:=c38 (call g) ([]++[AV.slice b 0 n c]++[]) H (a6c b al fo) (by rw[cu];simp[a6c]) h.two.closed h.two.lt (by rw[cu];simp only[e9m,f0g];omega);rw[cu]at hr;have aT:∀x∈σ,x∈a6c b al fo:=hr.least (·∈a6c b al fo) (by simp[a6c]) (λx hx y hy=>h.two.closed x hx y hy);have tu:=d47 hr;have hbσ:=hr.start b (by simp);obtain⟨b',aD,e1,e2,e3⟩:=h.two.mv tu hbσ;have fh:(a1k H σ (a4m σ)).length=σ.length:=by simp[a1k]
 have aR:∀x,x<(a1k H σ (a4m σ)).length→x∈a6c b' aD fo:=by
  intro j hj;rw[fh]at hj;obtain⟨x,hx⟩:∃x,σ[j]?=some x:=⟨_,z9e hj⟩
  have ft:a4m σ x=some j:=a44 hr.nodup hx;rcases a9e (aT x (c10 hx))with rfl|⟨i,f,hf,au,rfl⟩
  ·rw[ft]at e1;cases e1;simp[a6c]
  ·have:=e3 i f hf au;rw[ft]at this;cases this;exact b9b hf au
 have bg:∀x,∀y∈a0o (a01 (a1k H σ (a4m σ)) x),y<(a1k H σ (a4m σ)).length:=by
  intro x y hy;by_cases kC:x<(a1k H σ (a4m σ)).length
  ·exact e2.lt y (e2.closed x (aR x kC) y hy)
  ·have:a01 (a1k H σ (a4m σ)) x=none:=by unfold a01;rw[f2n (by omega)];rfl
   rw[this]at hy;simp[a0o]at hy
 have bE:=a0t e2.top;have dZ:=ac _ b' _ e2.top bg;have pF:([]++[AV.slice b 0 n c]++[]).map (ren (a4m σ))=[.slice b' 0 n c]:=by simp only[e9q,e9n,e12,e9p,ren,e1]
 have mg:=mg (.slice b' 0 n c') _ (by rw[pF];exact dZ);have hd:((a1k H σ (a4m σ)).drop σ.length)=[]:=f6j (by rw[fh];exact f1u _);have nR:a13 σ H.length b'=some b:=d26 e1;rw[hd,e9p,e9n]at mg;simp only[ren,nR]at mg;have ml:=e04 (H:=H) (H1:=a1k H σ (a4m σ)) hr.nodup ag (λj=>j<σ.length) (λj hj=>hj) (by intro j hj x hx;have:=bg j x hx;rw[fh]at this;exact this);obtain⟨b2,mG,f1,f2,f3⟩:=e2.mv ml (by rw[fh]at bE;exact bE);rw[nR]at f1;cases f1;have ai:(a0w σ H.length (a1k H σ (a4m σ)) 0 H).length=H.length:=b31 0 H;have qf:∀(j:Nat) (f:List (List AV)),fo[j]?=some f→f≠[]→mG j=al j:=by intro j f hf au;have h1:=f3 j f hf au;rw[d26 (e3 j f hf au)]at h1;exact(z9o h1).symm
 have hwσ:w∉σ:=by
  intro hw;rcases a9e (aT w hw)with e|⟨j,f,hf,au,e⟩
  ·exact h.wb e
  ·exact h.wi j f hf au e.symm
 refine⟨_,σ,mG,?_,⟨?_,h.flat,f2,h.wb,λj f hf au=>by rw[qf j f hf au];exact h.wi j f hf au⟩,ai⟩
 ·have hb:Nat.ble H.length (a0w σ H.length (a1k H σ (a4m σ)) 0 H).length=true:=by rw[ai,f4k];exact f1u _
  simp only[e9n]at mg;simp only[a09,hx,hf,e9n,mg,hb,f2m,f2z,f6m,Bool.and_false]
 ·have jr:a01 (a0w σ H.length (a1k H σ (a4m σ)) 0 H) w=a01 H w:=by
   unfold a01;rw[a61,f3e];have:σ.idxOf? w=none:=by rw[List.idxOf?_eq_none_iff];exact hwσ
   rw[this];cases H[w]?<;>rfl
  rw[jr,h.out]
end Go.Ax
/- AxTwX: a slice of growing slices beside flat blocks: a loop's head. -/
namespace Go.Ax
section
variable {H:a02}{b k:Nat}{al:Nat→Nat}{cp:Nat→Option Nat}{fo:List (List (List AV))}
theorem Two.headX{keep:List Nat}{F:Frm}{P:Frm→a02→Prop}(h:Two H b k al cp fo)(X:List Nat)(hX:∀x∈X,a0o (a01 H x)=[])(hF:∀c∈a08 ((a1i keep F).map (·.2)),c∈X∨c=b)(hb:b∈a08 ((a1i keep F).map (·.2)))(dG:∀x∈X,x∈a08 ((a1i keep F).map (·.2)))(hl:(a08 ((a1i keep F).map (·.2))).length≤10)(hn:fo.length<900000)
 (hP:∀π b' aD H1,π b=some b'→Two H1 b' k aD cp fo→(∀x∈X,∃x',π x=some x'∧a01 H1 x'=(a01 H x).map (a0g π))→P (b50 π (a1i keep F)) H1):∃F1 H1,gcD 0 keep F H=some (F1,H1)∧P F1 H1:=by
 have kh:=h.cost;have tZ:(X.map λb=>(a0o (a01 H b)).length).sum=0:=b22 _ λb hb=>by rw[hX b hb]
 obtain⟨R,π,H1,g1,g2,_⟩:=c0n (m:=0) (keep:=keep) (F:=F) (H:=H) (f0h _) (X++a6c b al fo) (λc hc=>by
  rcases hF c hc with h|rfl
  ·exact List.mem_append_left _ h
  ·exact List.mem_append_right _ (by simp[a6c])) (λc hc=>absurd hc (Nat.not_lt_zero c)) (by
  intro c hc d hd;rcases f2w.1 hc with hc|hc
  ·rw[hX c hc]at hd;cases hd
  ·exact List.mem_append_right _ (h.closed c hc d hd)) (by
  simp only[f2o,List.sum_append,tZ,f2q,List.flatMap_nil,f0g];omega)
 have hm:=g2.mv;obtain⟨b',aD,e1,e2,e3⟩:=h.mv hm (g2.refs b hb);refine⟨_,H1,g1,hP π b' aD H1 e1 e2 λx hx=>?_⟩;obtain⟨x',ex⟩:=g2.here x (g2.refs x (dG x hx));exact⟨x',ex,g2.heap x x' ex⟩
theorem Two.apart(h:Two H b k al cp fo){d q:Nat}{rows:List (List AV)}(hd:a01 H d=some (.row q rows))(hq:q≠1)(hk:q≠k):d≠b∧∀j f,fo[j]?=some f→f≠[]→d≠al j:=by
 refine⟨λe=>?_,λj f hf au e=>?_⟩
 ·rw[e,h.top]at hd;cases hd;exact hq rfl
 ·rw[e,(h.sub j f hf au).1]at hd;cases hd;exact hk rfl
end
end Go.Ax
/- AxTab2: a table that a call has been given: heads of loops and calls that write it. -/
namespace Go.Ax
section
variable {H H1:a02}{a b q:Nat}{al:Nat→Nat}{w:Nat}{fo:List (List (BitVec 64))}{fr:Int}
mutual
theorem b2y{m:Nat}{π:Nat→Option Nat}(hπ:∀c,c<m→π c=some c):∀(v:AV),(∀c∈refs v,c<m)→ren π v=v
 |.ptr b i o,h=>by simp only[ren,hπ b (h b (by simp[refs]))]
 |.slice b o l c,h=>by simp only[ren,hπ b (h b (by simp[refs]))]
 |.map b,h=>by simp only[ren,hπ b (h b (by simp[refs]))]
 |.yfn b,h=>by simp only[ren,hπ b (h b (by simp[refs]))]
 |.func fn fs cs,h=>by simp only[refs,f2w]at h;simp only[ren,a5g hπ fs (λc hc=>h c (.inl hc)),a5g hπ cs (λc hc=>h c (.inr hc))]
 |.iface t x,h=>by simp only[refs]at h;simp only[ren,b2y hπ x h]
 |.agg cs,h=>by simp only[refs]at h;simp only[ren,a5g hπ cs h]
 |.tuple cs,h=>by simp only[refs]at h;simp only[ren,a5g hπ cs h]
 |.junk,_|.bool _,_|.int ..,_|.str _,_|.nilptr,_|.nilslice,_|.nilmap,_|.nilfunc,_|.nilifc,_|.iptr _,_|.islice ..,_|.imap ..,_|.iset _,_=>rfl
theorem a5g{m:Nat}{π:Nat→Option Nat}(hπ:∀c,c<m→π c=some c):∀(l:List AV),(∀c∈a08 l,c<m)→b5s π l=l
 | [],_=>rfl
 |v::vs,h=>by simp only[a08,f2w]at h;simp only[b5s,b2y hπ v (λc hc=>h c (.inl hc)),a5g hπ vs (λc hc=>h c (.inr hc))]
end
theorem a8g{m:Nat}{π:Nat→Option Nat}(hπ:∀c,c<m→π c=some c)(l:List AV)(h:∀c∈a08 l,c<m):l.map (ren π)=l:=by rw[←a72];exact a5g hπ l h
theorem a8f{m:Nat}{π:Nat→Option Nat}(hπ:∀c,c<m→π c=some c)(o:AObj)(h:∀c∈a0o (some o),c<m):a0g π o=o:=by
 cases o with
 |row k rows=>
  simp only[a0g]
  congr 1
  conv=>rhs;rw[←List.map_id rows]
  refine f3h λr hr=>?_;refine a8g hπ r λe he=>h e ?_;simp only[a0o,List.mem_flatMap];exact⟨r,hr,he⟩
 |map ks vs bs cl=>simp only[a0g];rw[a8g hπ ks (λe he=>h e (by simp[a0o,he])),a8g hπ vs (λe he=>h e (by simp[a0o,he]))]
 |siter s p=>rfl
 |uset ks=>rfl
 |miter ks cG cT=>rfl
 |yloop y Fy st=>
  simp only[a0g]
  congr 1
  conv=>rhs;rw[←List.map_id Fy]
  refine f3h λx hx=>?_;rw[b2y hπ x.2 λc hc=>h c (c90 hx hc)];rfl
theorem b0l{m:Nat}{π:Nat→Option Nat}(hπ:∀c,c<m→π c=some c):∀F:Frm,(∀c∈a08 (F.map (·.2)),c<m)→b50 π F=F
 | [],_=>rfl
 |(s,v)::F,h=>by simp only[e12,a08,f2w]at h;have:=a8g hπ [v] (by simp only[a08,e9n];exact λc hc=>h c (.inl hc));simp only[e12,e9p,List.cons.injEq,and_true]at this;rw[c8y,this,b0l hπ F (λc hc=>h c (.inr hc))]
end
theorem a52(a b:List AV):a08 (a++b)=a08 a++a08 b:=by
 induction a with
 |nil=>rfl
 |cons v a ih=>simp only[f0k,a08,ih,e9o]
end Go.Ax
/- AxLow: a loop's head over blocks that all stood before the call and refer to nothing. -/
namespace Go.Ax
theorem c4f{H H1:a02}(hl:H1.length=H.length)(h:∀b,b<H.length→a01 H1 b=a01 H b):H1=H:=by apply List.ext_getElem hl;intro b h1 h2;have:=h b h2;unfold a01 at this;rw[z9e h1,z9e h2]at this;exact this
theorem d80{keep:List Nat}{F F':Frm}{H:a02}(hk:a1i keep F=F')(hF:∀b∈a08 (F'.map (·.2)),b<H.length)(hn:(a08 (F'.map (·.2))).length<1000)(hH:∀b,a0o (a01 H b)=[]):gcD H.length keep F H=some (F',H):=by
 subst hk;have ir:((List.range H.length).map λb=>(a0o (a01 H b)).length).sum=0:=by
  have:((List.range H.length).map λb=>(a0o (a01 H b)).length)=List.replicate H.length 0:=by rw[←f3b (n:=H.length),←List.map_const',f3b];exact f3h λb _=>by rw[hH];rfl
  rw[this];simp
 have bF:(H.take H.length).flatMap a0o=[]:=by rw[f3a,List.flatMap_eq_nil_iff];intro o ho;obtain⟨b,hb⟩:=f3o.1 ho;have:=hH b;unfold a01 at this;rw[hb]at this;exact this
 obtain⟨R,π,H1,h1,hg,hl⟩:=c0n (m:=H.length) (keep:=keep) (F:=F) (H:=H) (f1u _) (List.range H.length) (λb hb=>f6z.2 (hF b hb)) (λb _ c hc=>by rw[hH]at hc;simp at hc) (λb _ c hc=>by rw[hH]at hc;simp at hc) (by rw[ir,bF];simp only[f0g];omega);have ai:H1.length=H.length:=by have:=hg.len [] (λb hR hb=>by have:=hg.least (λb=>b<H.length) hF (λb _ c hc=>by rw[hH]at hc;simp at hc) (λb _ c hc=>by rw[hH]at hc;simp at hc) b hR;omega);simp only[f0g,f6s]at this;omega
 rw[h1,b0l hg.low _ hF];have:H1=H:=c4f ai λb hb=>by
  rw[hg.heap b b (hg.low b hb)];cases ho:a01 H b with
  |none=>rfl
  |some o=>have h2:=hH b;rw[ho]at h2;simp only[f0e];rw[a8f hg.low o (λc hc=>by rw[h2]at hc;simp at hc)]
 rw[this]
end Go.Ax
/- AxRf: loops over functions, as conditions on their ends; their rounds. -/
namespace Go.Ax
theorem d5l(H:a02):((List.range H.length).map λb=>(a0o (a01 H b)).length).sum=(H.flatMap a0o).length:=by
 have:((List.range H.length).map λb=>(a0o (a01 H b)).length)=H.map λo=>(a0o o).length:=by apply List.ext_getElem (by simp);intro b h1 h2;simp only[c11,f3b]at h1;simp only[List.getElem_map,List.getElem_range];unfold a01;rw[z9e h1];rfl
 rw[this,List.length_flatMap]
theorem d0v{keep:List Nat}{F F':Frm}{H:a02}{m:Nat}(hm:m=H.length)(hk:a1i keep F=F')(hF:∀b∈a08 (F'.map (·.2)),b<H.length)(hn:(a08 (F'.map (·.2))).length<1000)(hH:∀b,∀c∈a0o (a01 H b),c<H.length)(hs:(H.flatMap a0o).length<100000):gcD m keep F H=some (F',H):=by
 subst hk;subst hm;have bF:(H.take H.length).flatMap a0o=H.flatMap a0o:=by rw[f3a]
 obtain⟨R,π,H1,h1,hg,hl⟩:=c0n (m:=H.length) (keep:=keep) (F:=F) (H:=H) (f1u _) (List.range H.length) (λb hb=>f6z.2 (hF b hb)) (λb _ c hc=>f6z.2 (hH b c hc)) (λb _ c hc=>f6z.2 (hH b c hc)) (by rw[d5l,bF];omega);have ai:H1.length=H.length:=by have:=hg.len [] (λb hR hb=>by have:=hg.least (λb=>b<H.length) hF (λb _ c hc=>hH b c hc) (λb _ c hc=>hH b c hc) b hR;omega);simp only[f0g,f6s]at this;omega
 rw[h1,b0l hg.low _ hF];have:H1=H:=c4f ai λb hb=>by
  rw[hg.heap b b (hg.low b hb)];cases ho:a01 H b with
  |none=>rfl
  |some o=>simp only[f0e];rw[a8f hg.low o (λc hc=>hH b c (by rw[ho];exact hc))]
 rw[this]
def rfQ(Q:b1v)(F:Frm)(H:a02):Option YSt→Prop
 |some .ready=>Q .normal F H
 |some (.done none)=>Q .ret F H
 |some (.done (some id))=>Q (.exit id) F H
 |_=>False
theorem d8l{E:Env}{M:List Fact}{m N:Nat}{g:FuncId}{cur:Nat}{keep:List Nat}{f:Operand}{ps:Array Nat}{asg body:Code}{F:Frm}{H H2:a02}{Q:b1v}{g':FuncId}{fs cs:List AV}{y:Nat}{v:AV}{s:List Nat}
 (hk:E.keep g cur=keep)(hf:opv E F f = .func (.func g') fs cs)(hy:yOf keep=some y)(bv:((E.fn g').isSome && !E.ext g')=true)
 (hc:a1r (sem E M g') (fs++[.yfn H.length]++cs) (H++[some (.yloop y (a1i keep F) .ready)])=some (v,H2,s))
 (hq:rfQ Q F (H2.set H.length none) (e2e H2 H.length)):Wp (cx E M m N g cur) (.rangeFunc f ps asg body) F H Q:=by
 subst hk;cases aw:e2e H2 H.length with
 |none=>rw[aw]at hq;exact hq.elim
 |some st=>
  rw[aw]at hq;cases st with
  |busy=>exact hq.elim
  |ready=>exact⟨.normal,F,H2.set H.length none,⟨0,λlf _ R k=>by simp only[a3x,cx,hf,hy,bv,f2m,hc,aw]⟩,hq⟩
  |done j=>
   cases j with
   |none=>exact⟨.ret,F,H2.set H.length none,⟨0,λlf _ R k=>by simp only[a3x,cx,hf,hy,bv,f2m,hc,aw]⟩,hq⟩
   |some id=>exact⟨.exit id,F,H2.set H.length none,⟨0,λlf _ R k=>by simp only[a3x,cx,hf,hy,bv,f2m,hc,aw]⟩,hq⟩
def ryE(b:Nat)(r:AV×a02):b1v:=λe _ H2=>match e with
 |.normal=>(c3l H2 b .busy .ready).map (λH=>(AV.bool true,H))=some r
 |.ret=>(c3l H2 b .busy (.done none)).map (λH=>(AV.bool false,H))=some r
 |.exit id=>(c3l H2 b .busy (.done (some id))).map (λH=>(AV.bool false,H))=some r
def ryA(x:Cx)(b:Nat)(body:Code)(r:AV×a02):b1v:=λe F H=>match e with
 |.normal=>∃H1,c3l H b .ready .busy=some H1∧Wp x body F H1 (ryE b r)
 |_=>False
theorem b2r{E:Env}{M:List Fact}{b y:Nat}{vs:List AV}{H:a02}{F:Frm}{ri:RInfo}{r:AV×a02}(bU:∀x∈M,x.g≠yId)(bv:E.fn yId=none)(hb:a01 H b=some (.yloop y F .ready))(hr:E.G.rnd y=some ri)
 (hl:(Nat.beq vs.length ri.ps.length&&ri.ps.all (Nat.blt · ri.N))=true){m:Nat}(hm:H.length=m)
 (h:Wp (cx E M m ri.N ri.fid 0) ri.asg (b2q F ri.ps vs) H (ryA (cx E M m ri.N ri.fid 0) b ri.body r))(hp:E.prim yId (.yfn b::vs)=none:=by rfl):sem E M yId (.yfn b::vs) H=some r:=by
 subst hm;obtain⟨e,F',H',⟨n1,h1⟩,h2⟩:=c1p _ h;cases e with
 |exit id=>exact h2.elim
 |ret=>exact h2.elim
 |normal=>
  obtain⟨H1,h3,h4⟩:=h2;obtain⟨e,F2,H2,⟨n2,h5⟩,h6⟩:=c1p _ h4;refine c8j bU (max n1 n2) ?_;unfold b2v;have pK:c5z E yId (.yfn b::vs) H=none:=by
   unfold c5z;cases H with
   |nil=>exact hp
   |cons a r=>rfl
  rw[pK,bv];simp only;have kB:Nat.beq yId yId=true:=by simp
  rw[kB];simp only[f2m];unfold a70;simp only[hb,hr,hl,f2m];refine(h1 _ (Nat.le_max_left _ _) _ _).trans ?_;simp only[h3];refine(h5 _ (Nat.le_max_right _ _) _ _).trans ?_;cases e with
  |normal=>exact h6
  |ret=>exact h6
  |exit id=>exact h6
theorem d96{x:Cx}{b:Nat}{body:Code}{r:AV×a02}{F:Frm}{H H1:a02}(h1:c3l H b .ready .busy=some H1)(h2:Wp x body F H1 (ryE b r)):ryA x b body r .normal F H:=⟨H1,h1,h2⟩
theorem d3m{b:Nat}{r:AV×a02}{F:Frm}{H2 H3:a02}(h1:c3l H2 b .busy .ready=some H3)(h2:(AV.bool true,H3)=r):ryE b r .normal F H2:=by show(c3l H2 b .busy .ready).map _=_;rw[h1,←h2];rfl
@[go_sem] theorem b0h(F:Frm)(t:Nat)(ts:List Nat)(v:AV)(vs:List AV):b2q F (t::ts) (v::vs)=b2q (a3l F (some t) v) ts vs:=by rfl
@[go_sem] theorem b2p(F:Frm):b2q F [] []=F:=by rfl
theorem c3k{E:Env}{ah:Bool}{call:CallF}{b:Nat}{args:List AV}{H H':a02}{v:AV}{σ:List Nat}(h:a1r (call yId) (.yfn b::args) H=some (v,H',σ))(hl:H'.length=H.length):a09 E ah call (.yfn b) args H=some (v,H',σ):=by
 have hb:Nat.ble H.length H'.length=true:=by rw[hl,f4k];exact f1u _
 simp only[a09,h,hb,f6m,Bool.and_false,f2z]
@[go_sem] theorem d9j(y:Nat)(F:List (Nat×AV))(st:YSt):a0o (some (.yloop y F st))=a9j F:=by rfl
@[go_sem] theorem e4k:a9j []=[]:=by rfl
@[go_sem] theorem e2r(s:Nat)(v:AV)(r:List (Nat×AV)):a9j ((s,v)::r)=refs v++a9j r:=by rfl
@[go_sem] theorem d7m(π:Nat→Option Nat)(y:Nat)(F:List (Nat×AV))(st:YSt):a0g π (.yloop y F st) = .yloop y (b50 π F) st:=by rfl
@[go_sem] theorem e75(b:Nat):refs (.yfn b)=[b]:=by rfl
theorem b8n{E:Env}{ah:Bool}{call:CallF}{g:FuncId}{fs cs as args:List AV}{H:a02}(hx:E.ext g=false)(hf:(E.fn g).isSome=true)(he:fs++as++cs=args){v:AV}{H':a02}{σ:List Nat}
 (h:a1r (call g) args H=some (v,H',σ))(hl:H.length≤H'.length):a09 E ah call (.func (.func g) fs cs) as H=some (v,H',σ):=by
 have hb:Nat.ble H.length H'.length=true:=by rw[f4k];exact hl
 simp only[a09,hx,hf,he,h,hb,f2m,f2z,f6m,Bool.and_false]
theorem d6m(n b:Nat):a13 [] n b=some (n+b):=by simp[a13,Nat.blt];rfl
@[go_sem] theorem f0z(k k':IntKind)(a b:Int):d2g (.int k a) [.int k' b]=some (.int k (if b<a then b else a)):=by rfl
end Go.Ax
/- AxTwY: a slice of slices: a new slice in an empty place; the numbers that a loop's head gives to the first blocks. -/
namespace Go.Ax
section
variable {H H1:a02}{b k:Nat}{al:Nat→Nat}{cp:Nat→Option Nat}{fo:List (List (List AV))}
end
end Go.Ax
/- AxTwZ: a slice of slices: a new slice behind the others, a slice that is b2j. -/
namespace Go.Ax
section
variable {H H1:a02}{b k:Nat}{al:Nat→Nat}{cp:Nat→Option Nat}{fo:List (List (List AV))}
end
theorem b4m{E:Env}{d:Bool}{call:CallF}{g:FuncId}{fs cs ar args:List AV}{H L:a02}{v:AV}(hx:E.ext g=false)(hf:(E.fn g).isSome=true)(he:fs++ar++cs=args)(aC:a08 args=[])(hr:call g args []=some (v,L)) :
 a09 E d call (.func (.func g) fs cs) ar H=some (ren (a13 [] H.length) v,H++L.map (Option.map (a0g (a13 [] H.length))),[]):=by
 have hc:=a12 (call g) args H (σ:=[]) (by rw[aC];rfl) rfl rfl (ap:=args) (a3q _ aC) (H0:=[]) rfl hr;rw[a5t]at hc;simp only[f0g,f4g]at hc;exact b8n hx hf he hc (by simp)
section
variable {L:a02}{b k:Nat}{al:Nat→Nat}{cp:Nat→Option Nat}{fo:List (List (List AV))}
theorem c3a(n i:Nat):a13 [] n i=some (n+i):=by
 have h:Nat.blt i 0=false:=by cases i<;>rfl
 simp[a13,h]
end
section
variable {H2:a02}{b k:Nat}{al:Nat→Nat}{cp:Nat→Option Nat}{fo:List (List (List AV))}
end
theorem b8g{keep:List Nat}{F1:Frm}{H2:a02}{P Q:Frm→a02→Prop}(h:∃F H,gcD 0 keep F1 H2=some (F,H)∧P F H)(hq:∀F H,P F H→Q F H):∃F H,gcD 0 keep F1 H2=some (F,H)∧Q F H:=by obtain⟨F,H,h1,h2⟩:=h;exact⟨F,H,h1,hq F H h2⟩
end Go.Ax
/- AxLog: the look at a drawn region's log, the order first. -/
namespace Go.Ax
def a77(all:List Oper)(j:Nat)(y:LogE):Nat→List LogE→Bool
 |_,[]=>true
 |0,_::_=>false
 |i+1,x::af=>(a4c all i j || !(x.clash y))&&a77 all j y i af
def a9p(all:List Oper):Nat→List LogE→Bool
 |_,[]=>true
 |0,_::_=>false
 |j+1,y::af=>a77 all j y j af&&a9p all j af
theorem b6c(all:List Oper)(j:Nat)(y:LogE):∀(i:Nat) (l:List LogE),a77 all j y i l=logOk.logRow all j y i l
 |_,[]=>by unfold a77 logOk.logRow;rfl
 |0,_::_=>by unfold a77 logOk.logRow;rfl
 |i+1,x::af=>by unfold a77 logOk.logRow;rw[b6c all j y i af,Bool.or_comm]
theorem c0a(all:List Oper):∀(i:Nat) (l:List LogE),a9p all i l=logOk all i l
 |_,[]=>by unfold a9p logOk;rfl
 |0,_::_=>by unfold a9p logOk;rfl
 |j+1,y::af=>by unfold a9p logOk;rw[c0a all j af,b6c]
theorem xs2{F F1:Frm}{H H1:a02}{Q:b1v}{E:Env}{M:List Fact}{m N:Nat}{g:FuncId}{cur:Nat}{id am ah}{log:List LogE}(h:a8u E ah N (sem E M) am.toList am.toList [] F H=some (F1,H1,log))(hl:(!ah||a9p am.toList log.length log)=true)(hq:Q .normal F1 H1):Wp (cx E M m N g cur) (.region id am ah) F H Q:=xs h (by rw[←c0a];exact hl) hq
def c7q(all:List Oper)(j:Nat)(y:LogE):List LogE→Prop
 | []=>True
 |x::af=>(a4c all af.length j=true∨x.clash y=false)∧c7q all j y af
def d8j(all:List Oper):List LogE→Prop
 | []=>True
 |y::af=>c7q all af.length y af∧d8j all af
theorem d4h{all:List Oper}:d8j all []:=by unfold d8j;trivial
theorem c9w{all:List Oper}{y:LogE}{af:List LogE}(h1:c7q all af.length y af)(h2:d8j all af):d8j all (y::af):=by unfold d8j;exact⟨h1,h2⟩
theorem d3p{all:List Oper}{j:Nat}{y:LogE}:c7q all j y []:=by unfold c7q;trivial
theorem d3o{all:List Oper}{j:Nat}{y x:LogE}{af:List LogE}(h1:a4c all af.length j=true)(h2:c7q all j y af):c7q all j y (x::af):=by unfold c7q;exact⟨.inl h1,h2⟩
theorem d3q{all:List Oper}{j:Nat}{y x:LogE}{af:List LogE}(h1:x.clash y=false)(h2:c7q all j y af):c7q all j y (x::af):=by unfold c7q;exact⟨.inr h1,h2⟩
theorem c8q{all:List Oper}{j:Nat}{y:LogE}:∀{l:List LogE},c7q all j y l→a77 all j y l.length l=true
 | [],_=>by unfold a77;rfl
 |x::af,h=>by
  rw[e9m];unfold a77;rw[c8q h.2,Bool.and_true];rcases h.1 with h1|h1
  ·rw[h1,Bool.true_or]
  ·rw[h1];simp
theorem c9v{all:List Oper}:∀{l:List LogE},d8j all l→a9p all l.length l=true
 | [],_=>by unfold a9p;rfl
 |y::af,h=>by rw[e9m];unfold a9p;rw[c9v h.2,Bool.and_true];exact c8q h.1
theorem xs3{F F1:Frm}{H H1:a02}{Q:b1v}{E:Env}{M:List Fact}{m N:Nat}{g:FuncId}{cur:Nat}{id am ah}{log:List LogE}(h:a8u E ah N (sem E M) am.toList am.toList [] F H=some (F1,H1,log))(hl:d8j am.toList log)(hq:Q .normal F1 H1):Wp (cx E M m N g cur) (.region id am ah) F H Q:=xs2 h (by rw[c9v hl];simp) hq
theorem d1z{x y:LogE}(h1:∀a∈x.keys,a∉y.needs)(h2:∀a∈x.keys,a∉y.keys)(h3:∀a∈x.needs,a∉y.keys):x.clash y=false:=by
 have hm:∀l k:List Nat,(∀a∈l,a∉k)→b3d l k=false:=by
  intro l k h;unfold b3d;rw[List.any_eq_false];intro a ha;have:=h a ha;rw[Bool.not_eq_true];cases hc:a1c k a with
  |false=>rfl
  |true=>exact absurd (a2s.1 hc) this
 unfold LogE.clash;rw[hm _ _ h1,hm _ _ h2,hm _ _ h3];rfl
end Go.Ax
namespace Go.Ax
end Go.Ax
/- AxSts: a slice of sets that are c45 and filled: one block of rows, a block for each set. -/
namespace Go.Ax
section
variable {m:Nat}{F:Frm}{H H1:a02}{R:Nat→Prop}{π:Nat→Option Nat}{b:Nat}{al:Nat→Nat}{cs:List (Option (List Int))}
end
end Go.Ax
/- AxTwN: a loop's head with two flat blocks in any order. -/
namespace Go.Ax
section
variable {H2:a02}{b k:Nat}{al:Nat→Nat}{cp:Nat→Option Nat}{fo:List (List (List AV))}
theorem Two.headN{keep:List Nat}{F1:Frm}(hT:Two H2 b k al cp fo){x y kx ky:Nat}{X Y:List (List AV)}(hx:a01 H2 x=some (.row kx X))(r9:FlatR X)(hy:a01 H2 y=some (.row ky Y))(kd:FlatR Y)(L:List Nat)(ku:a08 ((a1i keep F1).map (·.2))=L)
 (h1:∀z∈L,z=x∨z=y∨z=b)(h2:x∈L)(h3:y∈L)(h4:b∈L)(h5:L.length≤10)(hn:fo.length<900000)(G:Nat→Nat→Nat→Frm)
 (oo:∀(π:Nat→Option Nat) (x' y' b':Nat),π x=some x'→π y=some y'→π b=some b'→b50 π (a1i keep F1)=G x' y' b') :
 ∃F H,gcD 0 keep F1 H2=some (F,H)∧∃(x' y' b':Nat) (aD:Nat→Nat),F=G x' y' b'∧a01 H x'=some (.row kx X)∧a01 H y'=some (.row ky Y)∧Two H b' k aD cp fo:=by
 refine hT.headX (P:=λF H=>∃(x' y' b':Nat) (aD:Nat→Nat),F=G x' y' b'∧a01 H x'=some (.row kx X)∧a01 H y'=some (.row ky Y)∧Two H b' k aD cp fo) [x,y] ?_ (by rw[ku];intro z hz;rcases h1 z hz with e|e|e<;>simp[e]) (by rw[ku];exact h4) (by rw[ku];intro z hz;simp only[f2s,List.not_mem_nil,or_false]at hz;rcases hz with rfl|rfl;exact h2;exact h3) (by rw[ku];exact h5) hn ?_
 ·intro z hz;simp only[f2s,List.not_mem_nil,or_false]at hz;rcases hz with rfl|rfl
  ·rw[hx];exact a0f r9
  ·rw[hy];exact a0f kd
 ·intro π b' aD H3 hb cB hX;obtain⟨x',e1,e2⟩:=hX x (by simp);obtain⟨y',e3,e4⟩:=hX y (by simp);refine⟨x',y',b',aD,oo π x' y' b' e1 e3 hb,?_,?_,cB⟩
  ·rw[e2,hx];show some (AObj.row kx _)=_;rw[a0b π r9]
  ·rw[e4,hy];show some (AObj.row ky _)=_;rw[a0b π kd]
end
end Go.Ax
/- AxTwc: a slice of rows that grows, and the row that is to come next: a block of rows, a block for each row that is not empty. -/
namespace Go.Ax
def c41(b:Nat)(fo:List (List (List AV))):AV:=match fo with|[]=>.nilslice|_::r=>.slice b 0 (r.length+1) none
section
variable {H H1:a02}{b:Nat}{al:Nat→Nat}{fo:List (List (List AV))}{cur:List (List AV)}
end
end Go.Ax
