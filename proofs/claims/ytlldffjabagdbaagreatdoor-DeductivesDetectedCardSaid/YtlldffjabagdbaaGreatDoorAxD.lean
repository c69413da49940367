/- AxTop: a call from outside: a55 old block is immutable. -/
import Derived.Test.YtlldffjabagdbaaGreatDoorAxC
import Derived.Below
import GoSem.ClaimChange
import GoSem.ClaimJoined
import Derived.RowKit
import Derived.ChangeSame
import Derived.Carry
import Derived.IntWalk
import Derived.KernelRfl
set_option linter.unusedSimpArgs false
set_option linter.unusedVariables false
namespace Go.Ax
open Go.RowKit
def Old(w:World):Nat→Prop:=λc=>c<w.heap.size
def Holds(E:Env)(w:World):Prop:=∀g cs,E.G g=some cs→g<w.heap.size∧VAt (Old w) w noP cs g 0
theorem e82{E:Env}{f:FuncId}{run:List AV→a03→Option (AV×a03)}(oM:f≠yId)(hf:b1g E f run){args:List AV}{v:AV}{H':a03}(h:run args []=some (v,H')){w:World}(hG:Holds E w){ap:List Value}(ha:VRels (Old w) w noP args ap) :
 Calls E.P f ap.toArray w λen w'=>∃c I' ρ',en = .returned c∧Below w.heap.size w w'∧VRel I' w' ρ' v c:=by
 have rel:HRel E.G (Old w) (λ_=>False) noP (a01 []) w:=by
  refine⟨?_,?_,?_,λc hc=>hc,λc hc=>hc.elim,λ_ _ h=>h,hG⟩
  ·intro b o hb;simp[a01]at hb
  ·intro b b' m m' hb;simp[a01]at hb
  ·intro b m hb;simp[noP]at hb
 have h0:=hf args [] v H' h (Old w) (λ_=>False) noP w ap rel (λ_ _=>rfl) ha;rw[b4i oM]at h0;refine Calls.mono h0 ?_
 rintro en w' ⟨c,I',ρ',rfl,aB,hv⟩
 exact⟨c,I',ρ',rfl,⟨aB.ext.os,aB.ext.tape,aB.ext.output,aB.ext.size,λk hk=>aB.ext.keep k (.inl hk)⟩,hv⟩
theorem d6i{E:Env}{f:FuncId}{run:List AV→a03→Option (AV×a03)}(oM:f≠yId)(hf:b1g E f run){args:List AV}{H':a03}(h:run args []=some (.bool true,H')){w:World}(hG:Holds E w){ap:List Value}(ha:VRels (Old w) w noP args ap) :
 Calls E.P f ap.toArray w λen w'=>en = .returned (.bool true)∧Below w.heap.size w w':=by
 refine(e82 oM hf h hG ha).mono ?_
 rintro en w' ⟨c,I',ρ',rfl,hb,hv⟩
 simp only[VRel]at hv;subst hv;exact⟨rfl,hb⟩
end Go.Ax
/- AxRead: what the row's reading of an argument gives: abstract values of the argument's type. -/
namespace Go.Ax
def Typ(E:Env):Nat→TypeId→List AV→Prop
 |0,_,_=>False
 |n+1,t,aU=>match E.und t with
  |some .bool=>∃b,aU=[.bool b]
  |some (.int k)=>∃i,aU=[.int k i]∧(Lit.int k i).wf=true
  |some .string=>∃s,aU=[.str s]∧s.length≤maxLen
  |some (.slice e)=>aU=[.nilslice]∨∃aa cap,aU=[.islice aa (some cap)]∧aa.length≤cap∧cap≤maxLen∧∀r∈aa,r.length=E.sz e∧Typ E n e r
  |some (.struct fs)=>∃aq:List (List AV),aU=aq.flatten∧aq.length=fs.toList.length∧∀(i:Nat) f p,fs.toList[i]?=some f→aq[i]?=some p→p.length=E.sz f.type∧Typ E n f.type p
  |some (.array m e)=>∃aq:List (List AV),aU=aq.flatten∧aq.length=m∧∀p∈aq,p.length=E.sz e∧Typ E n e p
  |_=>False
def d1d(E:Env):Nat→List Field→Option Nat
 |o,[]=>some o
 |o,f::r=>bif Nat.beq f.offset o then d1d E (o+E.sz f.type) r else none
def a67(E:Env):Nat→TypeId→Bool
 |0,_=>false
 |n+1,t=>match E.und t with
  |some .bool=>true
  |some (.int _)=>true
  |some .string=>true
  |some (.slice e)=>(E.und e).isSome&&Nat.blt 0 (E.sz e)&&a67 E n e
  |some (.struct fs)=>(match d1d E 0 fs.toList with|some m=>Nat.beq m (E.sz t)|none=>false)&&fs.toList.all (λf=>(E.und f.type).isSome&&a67 E n f.type)
  |some (.array m e)=>(E.und e).isSome&&Nat.beq (m*E.sz e) (E.sz t)&&a67 E n e
  |_=>false
section
variable {E:Env}{w:World}{H:Type}{enc:TypeId×Value→H}{base:Nat}{cT:Nat→Bool}{dT:Bool}
theorem a50(ok:EnvOk E){t:TypeId}{d:TypeDesc}(h:E.und t=some d):E.P.cellsOf t=E.sz t:=by obtain⟨_,i,hi,h1,_⟩:=ok.und t d h;simp[Program.cellsOf,hi,h1]
theorem d1u{I:Nat→Prop}{k:Nat}{b:Nat}{Pr:List AV→Prop}:∀(len off:Nat),(∀i,i<len→∃r,Pr r∧r.length=k∧VAt I w noP r b (off+i*k))→
 ∃aa:List (List AV),aa.length=len∧(∀r∈aa,r.length=k∧Pr r)∧VRows I w k noP aa b off
 |0,off,_=>⟨[],rfl,by simp,by simp[VRows]⟩
 |len+1,off,h=>by
  obtain⟨r,h1,h2,h3⟩:=h 0 (by omega);obtain⟨aa,g1,g2,g3⟩:=d1u (Pr:=Pr) len (off+k) (λi hi=>by obtain⟨r,q1,q2,q3⟩:=h (i+1) (by omega);refine⟨r,q1,q2,?_⟩;rw[show off+k+i*k=off+(i+1)*k by rw[g0j];omega];exact q3);refine⟨r::aa,by simp[g1],?_,?_⟩
  ·intro x hx;simp only[f6m]at hx;rcases hx with rfl|hx
   ·exact⟨h2,h1⟩
   ·exact g2 x hx
  ·simp only[VRows];exact⟨h2,by simpa using h3,g3⟩
theorem c7b{I:Nat→Prop}{cs:List Value}{n:Nat}:∀(fs:List Field) (o:Nat) {m:Nat},d1d E o fs=some m→m≤cs.length→
 (∀f∈fs,∃aU,VRels I w noP aU ((cs.drop f.offset).take (E.sz f.type))∧Typ E n f.type aU)→
 o≤m∧∃aq:List (List AV),aq.length=fs.length∧(∀(i:Nat) f p,fs[i]?=some f→aq[i]?=some p→p.length=E.sz f.type∧Typ E n f.type p)∧VRels I w noP aq.flatten ((cs.drop o).take (m-o))
 | [],o,m,ht,hm,_=>by simp only[d1d,Option.some.injEq]at ht;subst ht;exact⟨f6l _,[],rfl,by simp,by simp[VRels]⟩
 |f::r,o,m,ht,hm,h=>by
  simp only[d1d,cond_eq_ite]at ht;split at ht
  case isFalse=>cases ht
  rename_i fW;have fW:f.offset=o:=by simpa using fW
  obtain⟨bC,aq,h1,h2,h3⟩:=c7b r (o+E.sz f.type) ht hm (λg hg=>h g (by simp[hg]));obtain⟨aU,g1,g2⟩:=h f (by simp);rw[fW]at g1;have ai:aU.length=E.sz f.type:=by have:=VRels.length g1;rw[this];simp;omega
  refine⟨by omega,aU::aq,by simp[h1],?_,?_⟩
  ·intro i g p hg hp;cases i with
   |zero=>simp only[f6n,Option.some.injEq]at hg hp;subst hg;subst hp;exact⟨ai,g2⟩
   |succ i=>simp only[f8h]at hg hp;exact h2 i g p hg hp
  ·simp only[g00];have:(cs.drop o).take (m-o)=(cs.drop o).take (E.sz f.type)++(cs.drop (o+E.sz f.type)).take (m-(o+E.sz f.type)):=by
    rw[show m-o=E.sz f.type+(m-(o+E.sz f.type)) by omega,List.take_add,List.drop_drop]
   rw[this];exact VRels.append g1 h3
theorem e1p{I:Nat→Prop}{cs:List Value}{n k:Nat}{e:TypeId}:∀(m o:Nat),o+m*k≤cs.length→
 (∀i,i<m→∃aU,VRels I w noP aU ((cs.drop (o+i*k)).take k)∧Typ E n e aU)→
 ∃aq:List (List AV),aq.length=m∧(∀p∈aq,p.length=k∧Typ E n e p)∧VRels I w noP aq.flatten ((cs.drop o).take (m*k))
 |0,o,_,_=>⟨[],rfl,by simp,by simp[VRels]⟩
 |m+1,o,hl,h=>by
  have m8:(m+1)*k=k+m*k:=by rw[g0j];omega
  obtain⟨aq,h1,h2,h3⟩:=e1p (cs:=cs) (k:=k) (e:=e) m (o+k) (by omega) (λi hi=>by obtain⟨aU,g1,g2⟩:=h (i+1) (by omega);refine⟨aU,?_,g2⟩;rw[show o+k+i*k=o+(i+1)*k by rw[g0j];omega];exact g1);obtain⟨aU,g1,g2⟩:=h 0 (by omega);rw[Nat.zero_mul,g1w]at g1;have ai:aU.length=k:=by have:=VRels.length g1;rw[this];simp;omega
  refine⟨aU::aq,by simp[h1],?_,?_⟩
  ·intro p hp;simp only[f6m]at hp;rcases hp with rfl|hp
   ·exact⟨ai,g2⟩
   ·exact h2 p hp
  ·simp only[g00];rw[m8,List.take_add,List.drop_drop];exact VRels.append g1 h3
theorem c0z{α β:Type}{f:α→Option β}{l:List α}{r:List β}(h:l.mapM f=some r):∀x∈l,∃y,f x=some y:=by
 induction l generalizing r with
 |nil=>simp
 |cons a l ih=>
  rw[List.mapM_cons]at h;intro x hx;cases iG:f a with
  |none=>simp[iG]at h
  |some y=>
   simp only[iG,Option.bind_eq_bind,g08]at h;cases hl:l.mapM f with
   |none=>simp[hl]at h
   |some r'=>
    simp only[f6m]at hx;rcases hx with rfl|hx
    ·exact⟨y,iG⟩
    ·exact ih hl x hx
theorem b7k{I:Nat→Prop}{aU:List AV}{cs:List Value}{b off:Nat}(hc:∀i v,cs[i]?=some v→w.cell? ⟨b,off+i,none⟩=some v)(h:VRels I w noP aU cs):VAt I w noP aU b off:=VAt.of_cells (λi v hv=>hc i v hv) h
theorem c0h(ok:EnvOk E):∀(n:Nat) (t:TypeId),a67 E n t=true→∀(bj:Nat) (cs:List Value) (x:DataW H×List MemPlace),DataW.trod enc E.P w base cT dT bj t cs=some x→
 ∃aU,VRels (Old w) w noP aU cs∧Typ E n t aU
 |0,t,hr=>by simp[a67]at hr
 |n+1,t,hr=>by
  intro bj cs x h;cases bj with
  |zero=>simp[DataW.trod]at h
  |succ bj=>
  have ih:=c0h ok n;unfold a67 at hr;unfold DataW.trod at h;cases hu:E.und t with
  |none=>rw[hu]at hr;simp at hr
  |some d=>
   have hP:=(ok.und t d hu).1;have bU:=a50 ok hu;rw[hu]at hr;rw[hP]at h;cases d<;>simp only[f9h]at hr
   case bool=>
    obtain⟨b,rfl⟩:∃b,cs=[.bool b]:=by split at h<;>simp_all
    exact⟨[.bool b],by simp[VRels,VRel],by simp[Typ,hu]⟩
   case int k=>
    obtain⟨i,rfl,hw⟩:∃i,cs=[.int k i]∧(Lit.int k i).wf=true:=by split at h<;>simp_all
    exact⟨[.int k i],by simp[VRels,VRel],by simp[Typ,hu,hw]⟩
   case string=>
    obtain⟨b,rfl,hw⟩:∃b:ByteArray,cs=[.string b]∧b.size≤maxLen:=by split at h<;>simp_all
    exact⟨[.str b.data.toList],by simp[VRels,VRel],by simp only[Typ,hu];exact⟨_,rfl,by simpa using hw⟩⟩
   case slice e=>
    simp only[d14,f8f]at hr;obtain⟨⟨ez,eW⟩,iW⟩:=hr;obtain⟨de,bD⟩:=f4k.1 ez;have gX:=a50 ok bD;have cA:cs=[.slice none 0 0]∨∃a len cap,cs=[.slice (some a) len cap]∧len≤cap∧cap≤maxLen∧
     ∃ew,((List.range len).mapM λi=>(w.cells? base (a.add (i*E.P.cellsOf e)) (E.P.cellsOf e)).bind (DataW.trod enc E.P w base cT dT bj e))=some ew:=by
     split at h
     all_goals first|(rename_i dy;cases dy;done)|(cases h;done)|skip
     ·left;rfl
     ·rename_i e' a len cap dy;cases dy;dsimp only at h;split at h
      case isFalse=>cases h
      rename_i hc;right;refine⟨a,len,cap,rfl,hc.2.1,hc.2.2,?_⟩;cases hm:((List.range len).mapM λi=>(w.cells? base (a.add (i*E.P.cellsOf e)) (E.P.cellsOf e)).bind (DataW.trod enc E.P w base cT dT bj e))with
      |none=>rw[hm]at h;simp at h
      |some ew=>exact⟨ew,rfl⟩
    rcases cA with rfl|⟨a,len,cap,rfl,lC,dG,ew,jm⟩
    ·exact⟨[.nilslice],by simp[VRels,VRel],by simp only[Typ,hu];exact .inl trivial⟩
    ·have dC:∀i,i<len→∃r,Typ E n e r∧r.length=E.sz e∧VAt (Old w) w noP r a.block (a.off+i*E.sz e)∧a.spot=none∧a.block<w.heap.size:=by
      have bg:∀i,i<len→∃aO y,aO.length=E.sz e∧(∀j,j<E.sz e→w.cell? ((a.add (i*E.sz e)).add j)=aO[j]?)∧DataW.trod enc E.P w base cT dT bj e aO=some y:=by
       intro i hi;obtain⟨y,hy⟩:=c0z jm i (by simpa using hi);rw[gX]at hy;cases hc:w.cells? base (a.add (i*E.sz e)) (E.sz e)with
       |none=>rw[hc]at hy;simp at hy
       |some aO=>rw[hc]at hy;obtain⟨_,h2,h3⟩:=World.cells?_some hc;exact⟨aO,y,h2,h3,by simpa using hy⟩
      intro i hi;have fk:a.spot=none∧a.block<w.heap.size:=by
       obtain⟨qb,y0,h1,h2,_⟩:=bg 0 (by omega);have h3:=h2 0 eW;rw[Nat.zero_mul,show(a.add 0).add 0=a from by simp[Addr.add],z9e (by omega)]at h3;unfold World.cell? at h3;split at h3
       ·rename_i hb;refine⟨?_,(f8m.1 hb).1⟩;cases hs:a.spot with
        |none=>rfl
        |some _=>rw[hs]at h3;simp at h3
       ·cases h3
      obtain⟨aO,y,h1,h2,h3⟩:=bg i hi;obtain⟨r,q1,q2⟩:=ih e iW bj aO y h3;refine⟨r,q2,by rw[VRels.length q1,h1],b7k ?_ q1,fk⟩;intro j v hv;have hj:j<E.sz e:=by rw[←h1];exact(c13.1 hv).1
      have:=h2 j hj;rw[hv]at this;rw[←this]
      congr 1
      obtain⟨ab,ao,as⟩:=a;obtain⟨rfl,_⟩:=fk;unfold Addr.add;split<;>split<;>simp_all
     obtain⟨aa,g1,g2,g3⟩:=d1u (Pr:=Typ E n e) len a.off (λi hi=>by obtain⟨r,q1,q2,q3,_⟩:=dC i hi;exact⟨r,q1,q2,q3⟩);refine⟨[.islice aa (some cap)],?_,by simp only[Typ,hu];exact .inr ⟨aa,cap,rfl,by omega,dG,g2⟩⟩;simp only[VRels];refine⟨_,[],rfl,?_,rfl⟩;simp only[VRel];refine⟨a,cap,E.sz e,by rw[g1],by omega,by simp,?_⟩;cases len with
     |zero=>exact .inl (g0q.1 g1)
     |succ len=>obtain⟨_,_,_,_,q4,q5⟩:=dC 0 (by omega);exact .inr ⟨q4,q5,g3⟩
   case struct fs=>
    simp only[d14,f8c]at hr;obtain⟨ez,eW⟩:=hr;split at ez
    case h_2=>cases ez
    rename_i m hm;have wi:m=E.sz t:=by simpa using ez
    have cA:cs.length=E.P.cellsOf t∧∃xs,(fs.toList.mapM λf=>DataW.trod enc E.P w base cT dT bj f.type ((cs.drop f.offset).take (E.P.cellsOf f.type)))=some xs:=by
     dsimp only at h;split at h
     ·rename_i hl;obtain⟨xs,ce,_⟩:=a08 h;exact⟨hl,xs,ce⟩
     ·cases h
    obtain⟨ai,xs,ce⟩:=cA;obtain⟨_,aq,h1,h2,h3⟩:=c7b (E:=E) (I:=Old w) (w:=w) (cs:=cs) (n:=n) fs.toList 0 hm (by omega) (λf hf=>by obtain⟨y,hy⟩:=c0z ce f hf;have h2:=eW f hf;obtain⟨df,vh⟩:=f4k.1 h2.1;rw[a50 ok vh]at hy;exact ih f.type h2.2 bj _ _ hy);refine⟨aq.flatten,?_,by simp only[Typ,hu];exact⟨aq,rfl,h1,h2⟩⟩;rw[f9o,Nat.sub_zero,f4l (by omega)]at h3;exact h3
   case array m e=>
    simp only[d14]at hr;obtain⟨⟨ez,eW⟩,iW⟩:=hr;obtain⟨de,bD⟩:=f4k.1 ez;have gX:=a50 ok bD;have m8:m*E.sz e=E.sz t:=by simpa using eW
    have cA:cs.length=E.P.cellsOf t∧∃xs,((List.range m).mapM λi=>DataW.trod enc E.P w base cT dT bj e ((cs.drop (i*E.P.cellsOf e)).take (E.P.cellsOf e)))=some xs:=by
     dsimp only at h;split at h
     ·rename_i hl;obtain⟨xs,ce,_⟩:=a08 h;exact⟨hl,xs,ce⟩
     ·cases h
    obtain⟨ai,xs,ce⟩:=cA;obtain⟨aq,h1,h2,h3⟩:=e1p (E:=E) (I:=Old w) (w:=w) (cs:=cs) (n:=n) (k:=E.sz e) (e:=e) m 0 (by omega) (λi hi=>by obtain⟨y,hy⟩:=c0z ce i (by simpa using hi);rw[gX]at hy;rw[f8j];exact ih e iW bj _ _ hy);refine⟨aq.flatten,?_,by simp only[Typ,hu];exact⟨aq,rfl,h1,h2⟩⟩;rw[f9o,f4l (by omega)]at h3;exact h3
end
end Go.Ax
/- AxArgs: a row's arguments as abstract values. -/
namespace Go.Ax
def e1v(E:Env)(n:Nat)(t:TypeId)(av:AV):Prop:=
 match E.und t with
 |some d=>bif a2q d then ∃aU,av = .agg aU∧Typ E n t aU else Typ E n t [av]
 |none=>False
def TypAs(E:Env)(n:Nat):List TypeId→List AV→Prop
 | [],aU=>aU=[]
 |t::ts,aU=>∃a r,aU=a::r∧e1v E n t a∧TypAs E n ts r
section
variable {E:Env}{w:World}{H:Type}{enc:TypeId×Value→H}{cT:Nat→Bool}{dT:Bool}{b0:Nat}
theorem f09(ok:EnvOk E){n:Nat}{t:TypeId}{v:Value}{d:DataW H}{ps:List MemPlace}(hr:a67 E n t=true)(hv:Value.okWide E.P w .any b0 t v)(h:DataW.Trod enc E.P w 0 cT dT t v d ps) :
 ∃a,VRel (Old w) w noP a v∧e1v E n t a:=by
 obtain⟨bj,hf⟩:=h;obtain⟨aU,h1,h2⟩:=c0h ok n t hr bj _ _ hf;cases hu:E.und t with
 |none=>cases n<;>simp[a67,hu]at hr
 |some dd=>
  have hP:=(ok.und t dd hu).1;unfold Value.okWide at hv;rw[hP]at hv;cases d5:a2q dd with
  |true=>
   have hv:∃cs,v = .agg cs∧cs.size=E.P.cellsOf t∧Row.okWide E.P w .any b0 t cs:=by cases dd<;>simp[a2q]at d5<;>exact hv
   obtain⟨cs,rfl,_,_⟩:=hv;exact⟨.agg aU,by simp only[VRel];exact⟨cs,rfl,h1⟩,by simp only[e1v,hu,d5,f6g];exact⟨aU,rfl,h2⟩⟩
  |false=>
   have cP:v.cells = #[v]:=by
    cases v with
    |agg cs=>exfalso;cases dd<;>simp[a2q]at d5<;>simp[Cell.okWide,Cell.ok,hP]at hv
    |_=>rfl
   rw[cP]at h1;have h3:=h1;obtain⟨a,rfl⟩:∃a,aU=[a]:=by
    have:=VRels.length h1
    match aU,this with
    | [a],_=>exact⟨a,rfl⟩
   simp only[VRels]at h3;obtain⟨c,_,hc,h4,rfl⟩:=h3;simp only[List.cons.injEq,and_true]at hc;subst hc;exact⟨a,h4,by simp only[e1v,hu,d5,f7z];exact h2⟩
theorem d5b(ok:EnvOk E){n:Nat}:∀(ts:List TypeId) (vs:List Value) (ds:List (DataW H)) (ps:List MemPlace),DataW.TrodAll enc E.P w 0 cT dT ts vs ds ps→
 (∀(j:Nat) t v,ts[j]?=some t→vs[j]?=some v→Value.okWide E.P w .any b0 t v)→(ts.all (a67 E n))=true→∃args,VRels (Old w) w noP args vs∧TypAs E n ts args
 | [],vs,ds,ps,h,_,_=>by
  cases vs with
  |nil=>exact⟨[],by simp[VRels],rfl⟩
  |cons v vs=>cases ds<;>simp[DataW.TrodAll]at h
 |t::ts,vs,ds,ps,h,hv,hr=>by
  cases vs with
  |nil=>cases ds<;>simp[DataW.TrodAll]at h
  |cons v vs=>
   cases ds with
   |nil=>simp[DataW.TrodAll]at h
   |cons d ds=>simp only[DataW.TrodAll]at h;obtain⟨p,q,h1,h2,_⟩:=h;simp only[List.all_cons,d14]at hr;obtain⟨a,g1,g2⟩:=f09 ok hr.1 (hv 0 t v rfl rfl) h1;obtain⟨r,g3,g4⟩:=d5b ok ts vs ds q h2 (λj t v ht uy=>hv (j+1) t v (by simpa using ht) (by simpa using uy)) hr.2;exact⟨a::r,by simp only[VRels];exact⟨v,vs,rfl,g1,g3⟩,⟨a,r,rfl,g2,g4⟩⟩
end
end Go.Ax
/- AxLaid: what a listed package-level variable reads as, as abstract cells. -/
namespace Go.Ax
def c84(E:Env)(f:TypeId→DataW Unit→Option (List AV)):Nat→List Field→List (DataW Unit)→Option (List AV)
 |_,[],[]=>some []
 |o,x::fs,d::ds=>bif Nat.beq x.offset o&&(E.und x.type).isSome then
  match f x.type d,c84 E f (o+E.sz x.type) fs ds with
  |some a,some b=>bif Nat.beq a.length (E.sz x.type)then some (a++b)else none
  |_,_=>none
  else none
 |_,_,_=>none
def b6w(k:Nat)(f:DataW Unit→Option (List AV)):List (DataW Unit)→Option (List (List AV))
 | []=>some []
 |d::ds=>match f d,b6w k f ds with
  |some a,some b=>bif Nat.beq a.length k then some (a::b)else none
  |_,_=>none
def b82(E:Env):Nat→TypeId→DataW Unit→Option (List AV)
 |0,_,_=>none
 |n+1,t,d=>match E.und t,d with
  |some .bool,.lit (.bool b)=>some [.bool b]
  |some (.int k),.lit (.int k' i)=>bif k==k' then some [.int k i]else none
  |some .string,.lit (.string s)=>some [.str s]
  |some (.struct fs),.agg ds=>match c84 E (b82 E n) 0 fs.toList ds with
   |some aU=>bif Nat.beq aU.length (E.sz t)then some aU else none
   |none=>none
  |some (.array m e),.agg ds=>bif (E.und e).isSome&&Nat.beq (m*E.sz e) (E.sz t)&&Nat.beq ds.length m then(b6w (E.sz e) (b82 E n e) ds).map List.flatten else none
  |some (.slice _),.nil=>some [.nilslice]
  |some (.slice e),.slice es cT=>bif (E.und e).isSome&&Nat.blt 0 (E.sz e)&&Nat.blt 0 es.length then(b6w (E.sz e) (b82 E n e) es).map λaa=>[.islice aa (some (es.length+cT.length))]else none
  |_,_=>none
section
variable {E:Env}{w:World}{enc:TypeId×Value→Unit}{base:Nat}{dT:Bool}
theorem a8u{α β:Type}{f:α→Option β}{a:α}{l:List α}{r:List β}(h:(a::l).mapM f=some r):∃b r',f a=some b∧l.mapM f=some r'∧r=b::r':=by
 rw[List.mapM_cons]at h;cases iG:f a with
 |none=>simp[iG]at h
 |some y=>
  simp only[iG,Option.bind_eq_bind,g08]at h;cases hl:l.mapM f with
  |none=>simp[hl]at h
  |some r'=>simp only[hl,g08]at h;cases h;exact⟨y,r',rfl,rfl,rfl⟩
theorem c0x{α β:Type}{f:α→Option β}:∀{l:List α} {r:List β},l.mapM f=some r→r.length=l.length
 | [],r,h=>by cases h;rfl
 |a::l,r,h=>by obtain⟨b,r',_,h2,rfl⟩:=a8u h;simp[c0x h2]
theorem c0y{α β:Type}{f:α→Option β}:∀{l:List α} {r:List β},l.mapM f=some r→∀(i:Nat) a,l[i]?=some a→∃b,f a=some b∧r[i]?=some b
 | [],r,h,i,a,ha=>by simp at ha
 |x::l,r,h,i,a,ha=>by
  obtain⟨b,r',h1,h2,rfl⟩:=a8u h;cases i with
  |zero=>simp only[f6n,Option.some.injEq]at ha;subst ha;exact⟨b,h1,rfl⟩
  |succ i=>simp only[f8h]at ha⊢;exact c0y h2 i a ha
theorem b3i{k:Nat}{f:DataW Unit→Option (List AV)}:∀{ds:List (DataW Unit)} {aa:List (List AV)},b6w k f ds=some aa→aa.length=ds.length
 | [],aa,h=>by cases h;rfl
 |d::ds,aa,h=>by
  simp only[b6w]at h;split at h
  case h_2=>cases h
  rename_i a b ha hb;rw[cond_eq_ite]at h;split at h
  ·cases h;simp[b3i hb]
  ·cases h
theorem b3j{k:Nat}{f:DataW Unit→Option (List AV)}:∀{ds:List (DataW Unit)} {aa:List (List AV)},b6w k f ds=some aa→∀(i:Nat) d,ds[i]?=some d→∃a,f d=some a∧a.length=k∧aa[i]?=some a
 | [],aa,h,i,d,hd=>by simp at hd
 |x::ds,aa,h,i,d,hd=>by
  simp only[b6w]at h;split at h
  case h_2=>cases h
  rename_i a b ha hb;rw[cond_eq_ite]at h;split at h
  case isFalse=>cases h
  rename_i hk;cases h;cases i with
  |zero=>simp only[f6n,Option.some.injEq]at hd;subst hd;exact⟨a,ha,by simpa using hk,rfl⟩
  |succ i=>simp only[f8h]at hd⊢;exact b3j hb i d hd
theorem b6z{I:Nat→Prop}{cs:List Value}{f:TypeId→DataW Unit→Option (List AV)}{g:Field→Option (DataW Unit×List MemPlace)}
 (hg:∀x y aU,g x=some y→f x.type y.1=some aU→VRels I w noP aU ((cs.drop x.offset).take (E.sz x.type))) :
 ∀(fs:List Field) (o:Nat) {xs:List (DataW Unit×List MemPlace)} {aU:List AV},fs.mapM g=some xs→c84 E f o fs (xs.map (·.1))=some aU→VRels I w noP aU ((cs.drop o).take aU.length)
 | [],o,xs,aU,hm,hf=>by cases hm;cases hf;simp[VRels]
 |x::fs,o,xs,aU,hm,hf=>by
  obtain⟨y,ys,h1,h2,rfl⟩:=a8u hm;simp only[c10,c84]at hf;rw[cond_eq_ite]at hf;split at hf
  case isFalse=>cases hf
  rename_i hc;simp only[d14,g2e]at hc;split at hf
  case h_2=>cases hf
  rename_i a b ha hb;rw[cond_eq_ite]at hf;split at hf
  case isFalse=>cases hf
  rename_i hl;rw[g2e]at hl;cases hf;have ih:=b6z hg fs _ h2 hb;have h3:=hg x y a h1 ha;rw[hc.1,←hl]at h3;rw[f5z,List.take_add,List.drop_drop,hl]at *;exact VRels.append h3 ih
theorem c2k{I:Nat→Prop}{cs:List Value}{k:Nat}:∀(aa:List (List AV)) (o:Nat),(∀(i:Nat) r,aa[i]?=some r→r.length=k∧VRels I w noP r ((cs.drop (o+i*k)).take k))→
 VRels I w noP aa.flatten ((cs.drop o).take (aa.length*k))
 | [],o,_=>by simp[VRels]
 |r::aa,o,h=>by have h0:=h 0 r rfl;have ih:=c2k aa (o+k) (λi r hr=>by have:=h (i+1) r (by simpa using hr);rw[show o+k+i*k=o+(i+1)*k by rw[g0j];omega];exact this);simp only[g00,e12];rw[show(aa.length+1)*k=k+aa.length*k by rw[g0j];omega,List.take_add,List.drop_drop];refine VRels.append ?_ ih;simpa using h0.2
theorem c3g(ok:EnvOk E):∀(n:Nat) (t:TypeId) (bj:Nat) (cs:List Value) (x:DataW Unit×List MemPlace) (aU:List AV),DataW.trod enc E.P w base (λ_=>true) dT bj t cs=some x→b82 E n t x.1=some aU→
 VRels (Old w) w noP aU cs
 |0,t,bj,cs,x,aU,_,hf=>by simp[b82]at hf
 |n+1,t,0,cs,x,aU,h,hf=>by simp[DataW.trod]at h
 |n+1,t,bj+1,cs,x,aU,h,hf=>by
  have ih:=c3g ok n;unfold b82 at hf;unfold DataW.trod at h;cases hu:E.und t with
  |none=>rw[hu]at hf;simp at hf
  |some dd=>
   have hP:=(ok.und t dd hu).1;have uA:=a50 ok hu;rw[hu]at hf;rw[hP]at h;cases dd
   case bool=>
    obtain⟨b,rfl,rfl⟩:∃b,cs=[.bool b]∧x=(.lit (.bool b),[]):=by split at h<;>simp_all
    simp only[Option.some.injEq]at hf;subst hf;simp[VRels,VRel]
   case int k=>
    obtain⟨b,rfl,rfl⟩:∃b,cs=[.int k b]∧x=(.lit (.int k b),[]):=by split at h<;>simp_all
    simp only[cond_eq_ite]at hf;split at hf
    ·cases hf;simp[VRels,VRel]
    ·cases hf
   case string=>
    obtain⟨b,rfl,rfl⟩:∃b:ByteArray,cs=[.string b]∧x=(.lit (.string b.data.toList),[]):=by split at h<;>simp_all
    simp only[Option.some.injEq]at hf;subst hf;simp[VRels,VRel]
   case struct fs=>
    dsimp only at h;split at h
    case isFalse=>cases h
    rename_i hl;obtain⟨xs,ce,rfl⟩:=a08 h;dsimp only at hf;split at hf
    case h_2=>cases hf
    rename_i vY jU;rw[cond_eq_ite]at hf;split at hf
    case isFalse=>cases hf
    rename_i bR;rw[g2e]at bR;cases hf;have key:=b6z (E:=E) (I:=Old w) (w:=w) (cs:=cs) (f:=b82 E n)
     (g:=λf=>DataW.trod enc E.P w base (λ_=>true) dT bj f.type ((cs.drop f.offset).take (E.P.cellsOf f.type))) ?_ fs.toList 0 ce jU
    ·rw[f9o,f4l (by omega)]at key;exact key
    ·intro x y aU hy iG;have fH:∃dx,E.und x.type=some dx:=by
      cases n with
      |zero=>simp[b82]at iG
      |succ n=>unfold b82 at iG;cases hux:E.und x.type with
       |none=>rw[hux]at iG;simp at iG
       |some dx=>exact⟨dx,rfl⟩
     obtain⟨dx,vd⟩:=fH;rw[a50 ok vd]at hy;exact ih x.type bj _ y aU hy iG
   case array m e=>
    dsimp only at h;split at h
    case isFalse=>cases h
    rename_i hl;obtain⟨xs,ce,rfl⟩:=a08 h;dsimp only at hf;rw[cond_eq_ite]at hf;split at hf
    case isFalse=>cases hf
    rename_i hc;simp only[d14,g2e]at hc;obtain⟨aa,aA,rfl⟩:=a08 hf;obtain⟨de,bD⟩:=f4k.1 hc.1.1;have gX:=a50 ok bD;have ai:aa.length=m:=by rw[b3i aA];simpa using hc.2
    have key:=c2k (I:=Old w) (w:=w) (cs:=cs) (k:=E.sz e) aa 0 (λi r hr=>by
     have hi:i<m:=by rw[←ai];exact(c13.1 hr).1
     obtain⟨y,hy,qu⟩:=c0y ce i i (by simp[hi]);obtain⟨a,ha,eL,o5⟩:=b3j aA i y.1 (by simp[qu]);rw[hr]at o5;cases o5;refine⟨eL,?_⟩;rw[f8j];rw[gX]at hy;exact ih e bj _ y r hy ha)
    rw[f9o,f4l (by rw[ai];omega)]at key;exact key
   case slice e=>
    split at h
    all_goals first|(rename_i dy;cases dy;done)|(cases h;done)|skip
    ·cases h;simp only[Option.some.injEq]at hf;subst hf;simp[VRels,VRel]
    ·rename_i e' a len cap dy;cases dy;dsimp only at h;split at h
     case isFalse=>cases h
     rename_i hc;cases hm:((List.range len).mapM λi=>(w.cells? base (a.add (i*E.P.cellsOf e)) (E.P.cellsOf e)).bind (DataW.trod enc E.P w base (λ_=>true) dT bj e))with
     |none=>rw[hm]at h;simp at h
     |some ew=>
      rw[hm]at h;simp only[g08,f9q]at h;obtain⟨af,cX,rfl⟩:=a08 h;dsimp only at hf;rw[cond_eq_ite]at hf;split at hf
      case isFalse=>cases hf
      rename_i dg;simp only[d14,f8f,f4j]at dg;obtain⟨aa,aA,rfl⟩:=a08 hf;obtain⟨de,bD⟩:=f4k.1 dg.1.1;have gX:=a50 ok bD;have s6:aa.length=ew.length:=by rw[b3i aA];simp
      have bC:ew.length=len:=by rw[c0x hm];simp
      have qU:af.length=cap-len:=by rw[c0x cX];simp
      have bg:∀i,i<len→∃aO y,ew[i]?=some y∧aO.length=E.sz e∧(∀j,j<E.sz e→w.cell? ((a.add (i*E.sz e)).add j)=aO[j]?)∧DataW.trod enc E.P w base (λ_=>true) dT bj e aO=some y:=by
       intro i hi;obtain⟨y,hy,qu⟩:=c0y hm i i (by simp[hi]);rw[gX]at hy;cases eJ:w.cells? base (a.add (i*E.sz e)) (E.sz e)with
       |none=>rw[eJ]at hy;simp at hy
       |some aO=>rw[eJ]at hy;obtain⟨_,h2,h3⟩:=World.cells?_some eJ;exact⟨aO,y,qu,h2,h3,by simpa using hy⟩
      have fk:a.spot=none∧a.block<w.heap.size:=by
       obtain⟨qb,y0,_,h1,h2,_⟩:=bg 0 (by omega);have h3:=h2 0 dg.1.2;rw[Nat.zero_mul,show(a.add 0).add 0=a from by simp[Addr.add],z9e (by omega)]at h3;unfold World.cell? at h3;split at h3
       ·rename_i hb;refine⟨?_,(f8m.1 hb).1⟩;cases hs:a.spot with
        |none=>rfl
        |some _=>rw[hs]at h3;simp at h3
       ·cases h3
      simp only[VRels];refine⟨_,[],rfl,?_,rfl⟩;simp only[VRel];refine⟨a,cap,E.sz e,by rw[s6,bC],by omega,λn hn=>by cases hn;simp;omega,.inr ⟨fk.1,fk.2,?_⟩⟩;have key:∀(cE:List (List AV)) (o:Nat),(∀(i:Nat) r,cE[i]?=some r→r.length=E.sz e∧VAt (Old w) w noP r a.block (a.off+(o+i)*E.sz e))→VRows (Old w) w (E.sz e) noP cE a.block (a.off+o*E.sz e):=by
       intro cE
       induction cE with
       |nil=>intro o _;simp[VRows]
       |cons r rs ihr=>intro o hh;have h0:=hh 0 r rfl;simp only[VRows];refine⟨h0.1,by simpa using h0.2,?_⟩;rw[show a.off+o*E.sz e+E.sz e=a.off+(o+1)*E.sz e by rw[g0j];omega];refine ihr (o+1) (λi r hr=>?_);have:=hh (i+1) r (by simpa using hr);rw[show o+1+i=o+(i+1) by omega];exact this
      have:=key aa 0 (λi r hr=>by
       have hi:i<len:=by rw[←bC,←s6];exact(c13.1 hr).1
       obtain⟨aO,y,h0,h1,h2,h3⟩:=bg i hi;obtain⟨av,ha,eL,o5⟩:=b3j aA i y.1 (by simp[h0]);rw[hr]at o5;cases o5;refine⟨eL,?_⟩;rw[f8j];refine b7k ?_ (ih e bj _ y r h3 ha);intro j v hv;have hj:j<E.sz e:=by rw[←h1];exact(c13.1 hv).1
       have:=h2 j hj;rw[hv]at this;rw[←this]
       congr 1
       obtain⟨ab,ao,as⟩:=a;obtain⟨rfl,_⟩:=fk;unfold Addr.add;split<;>split<;>simp_all)
      simpa using this
   all_goals (simp only at hf;first|(cases hf;done)|(split at hf<;>cases hf))
theorem holds_of_laid(ok:EnvOk E){laid:List (String×DataW Unit)}(h:laidMet E.P laid w)
 (hG:∀g cs,E.G g=some cs→∃x∈laid,E.P.globalNamed x.1=some g∧∃t,(E.P.globals[g]?).map (·.type)=some t∧b82 E 8 t x.2=some cs):Holds E w:=by
 obtain⟨ps,hv,bQ,cP⟩:=h;have bd:∀(l:List (String×DataW Unit)) ps,DataW.LaidVars E.P w l ps→∀x∈l,∃g t cs bj p,E.P.globalNamed x.1=some g∧(E.P.globals[g]?).map (·.type)=some t∧w.var? E.P x.1=some cs∧DataW.trod (λ_=>()) E.P w 0 (λ_=>true) false bj t cs.toList=some (x.2,p):=by
  intro l
  induction l with
  |nil=>intro ps _ x hx;simp at hx
  |cons y r ih=>
   intro ps hv x hx;obtain⟨n,d⟩:=y;simp only[DataW.LaidVars]at hv;obtain⟨g,t,cs,bj,p,q,h1,h2,h3,h4,h5,_⟩:=hv;simp only[f6m]at hx;rcases hx with rfl|hx
   ·exact⟨g,t,cs,bj,p,h1,h2,h3,h4⟩
   ·exact ih q h5 x hx
 intro g cs hg;obtain⟨x,hx,h1,t,h2,h3⟩:=hG g cs hg;obtain⟨g',t',aO,bj,p,k1,k2,k3,k4⟩:=bd laid ps hv x hx;obtain rfl:g'=g:=z9o (k1.symm.trans h1);obtain rfl:t'=t:=z9o (k2.symm.trans h2);have hr:=c3g ok 8 t' bj _ (x.2,p) cs k4 h3;unfold World.var? at k3;rw[k1]at k3;simp only[g08]at k3;split at k3
 case h_2=>cases k3
 rename_i wK e fz iD;cases k3;refine⟨(f8m.1 iD).1,?_⟩;refine VAt.of_cells (cs:=aO.toList) (CellsAt.of_heap iD ?_) hr;intro j v hv;simpa using hv
end
end Go.Ax
/- AxLaw: from a run of a law's body that answers true, for all e2a arguments, to what a row asks. -/
namespace Go.Ax
open Go.ChangeShapes Go.WideShapes Go.RowKit
section
variable {E:Env}{H:Type}{enc:TypeId×Value→H}
theorem b1l{P:Program}(hl:laidOutB P=true){W W':World}(hb:Below W.heap.size W W'){sp:Nat→Bool}:∀(ts:List TypeId) (vs:List Value) (ds:List (DataW H)) (ps:List MemPlace),
 (ts.all λt=>P.readableRec t&&decide (t<P.types.size))=true→(∀p∈ps,p.block<W.heap.size)→(∀p∈ps,sp p.block=true)→
 DataW.TrodAll enc P W 0 (λ_=>true) true ts vs ds ps→DataW.TrodAll enc P W' 0 sp true ts vs ds ps
 | [],vs,ds,ps,_,_,_,h=>by cases vs<;>cases ds<;>simp only[DataW.TrodAll]at h⊢<;>exact h
 |t::ts,vs,ds,ps,hr,ah,hs,h=>by
  cases vs with
  |nil=>simp[DataW.TrodAll]at h
  |cons v vs=>
   cases ds with
   |nil=>simp[DataW.TrodAll]at h
   |cons d ds=>simp only[DataW.TrodAll]at h⊢;obtain⟨p,q,h1,h2,rfl⟩:=h;simp only[List.all_cons,d14,f4p]at hr;refine⟨p,q,?_,b1l hl hb ts vs ds q hr.2 (λx hx=>ah x (by simp[hx])) (λx hx=>hs x (by simp[hx])) h2,rfl⟩;exact WideElems.Trod_stays hl hr.1.1 hr.1.2 h1 (λx hx=>hb.same (ah x (by simp[hx]))) (λx hx=>hs x (by simp[hx]))
theorem d7w{P:Program}(hl:laidOutB P=true){f:Func}{s:ChangeSpec}(fF:s.vars=[]){n:Nat}(hn:f.params.toList.length=n)
 (hs:∀ds:List (DataW H),ds.length=n→(s.fn H ds).results=[.lit (.bool true)]∧(s.fn H ds).args=ds∧(s.fn H ds).vars=[]){tb:TypeId}(e7:f.resultTypes = #[tb])(bN:P.underlying tb=some .bool)
 (mf:(f.params.toList.all λt=>P.readableRec t&&decide (t<P.types.size))=true)
 {W W':World}{args:Array Value}{ds gs:List (DataW H)}{bL:List MemPlace}(hW:DataW.Whole enc P f.params.toList s.vars false W args.toList ds gs bL)(hb:Below W.heap.size W W') :
 s.post enc P f false true false false W args (.bool true) W':=by
 have ah:∀p∈bL,p.block<W.heap.size:=λp hp=>hW.lt p hp;have aT:∀p∈bL,(λb=>decide (b<W.heap.size)) p.block=true:=λp hp=>by simpa using ah p hp
 have vq:=hW;obtain⟨p,q,hA,hV,rfl,hz,bQ⟩:=hW;rw[fF]at hV;obtain⟨rfl,rfl⟩:=trodVars_none hV;have ai:ds.length=n:=by
  have:∀(ts:List TypeId) (vs:List Value) (ds:List (DataW H)) (ps:List MemPlace),DataW.TrodAll enc P W 0 (λ_=>true) true ts vs ds ps→ds.length=ts.length:=by
   intro ts
   induction ts with
   |nil=>intro vs ds ps h;cases vs<;>cases ds<;>simp[DataW.TrodAll]at h<;>rfl
   |cons t ts ih=>
    intro vs ds ps h;cases vs with
    |nil=>simp[DataW.TrodAll]at h
    |cons v vs=>cases ds with
     |nil=>simp[DataW.TrodAll]at h
     |cons d ds=>simp only[DataW.TrodAll]at h;obtain⟨p,q,_,h2,_⟩:=h;simp[ih vs ds q h2]
  rw[this _ _ _ _ hA,hn]
 obtain⟨s1,s2,s3⟩:=hs (ds++[]) (by simpa using ai);rw[f4g]at ah aT;have aL:∀sp:Nat→Bool,(∀x∈p,sp x.block=true)→DataW.TrodAll enc P W' 0 sp true f.params.toList args.toList (s.fn H (ds++[])).args p:=by intro sp uC;rw[s2,f4g];exact b1l hl hb _ _ _ _ mf ah uC hA
 have lh:∀sp:Nat→Bool,DataW.TrodVars enc P W' sp s.vars (s.fn H (ds++[])).vars []:=by intro sp;rw[s3,fF];rfl
 have ez:∀(b:Nat) (sp:Nat→Bool) (hd:Bool),DataW.TrodAll enc P W' b sp hd f.resultTypes.toList ((Value.bool true).resultList f.resultTypes.size) (s.fn H (ds++[])).results []:=by intro b sp hd;rw[s1,e7];exact⟨[],[],⟨1,by simp[DataW.trod,bN,Value.cells]⟩,rfl,rfl⟩
 refine⟨ds,[],p++[],[],p,[],vq,ez _ _ _,aL _ aT,lh _,World.keptBut_mono (λx hx=>⟨hx,?_⟩) (hb.frame (·∈p++[])),λ_=>?_⟩
 ·simpa using hx
 ·refine⟨?_,_,_,([]++p)++[],⟨[]++p,[],trodAll_append (aL _ (λ_ _=>rfl)) (ez _ _ _),lh _,rfl,?_,?_⟩,?_⟩
  ·intro j t r hj hv;rw[e7]at hj hv
   match j,hj,hv with
   |0,hj,hv=>simp[Value.resultList]at hj hv;subst hj;subst hv;exact okWide_bool_mk bN true
  ·intro b off hp;have dS:MemPlace.cell b off∈p:=by simpa using hp
   rw[hb.frozen (ah _ dS)];exact hz b off (by simpa using dS)
  ·intro ha;cases ha
  ·intro x hx _;simpa using hx
theorem law_contract(ok:EnvOk E)(hl:laidOutB E.P=true){f:FuncId}{fn:Func}{run:List AV→a03→Option (AV×a03)}(oM:f≠yId)(hf:b1g E f run){m:Nat}
 (og:(fn.params.toList.all (a67 E m))=true)(ae:∀args,TypAs E m fn.params.toList args→∃H',run args []=some (.bool true,H'))
 {s:ChangeSpec}(fF:s.vars=[]){n:Nat}(hn:fn.params.toList.length=n)
 (hs:∀ds:List (DataW H),ds.length=n→(s.fn H ds).results=[.lit (.bool true)]∧(s.fn H ds).args=ds∧(s.fn H ds).vars=[]){tb:TypeId}(e7:fn.resultTypes = #[tb])(bN:E.P.underlying tb=some .bool)
 (mf:(fn.params.toList.all λt=>E.P.readableRec t&&decide (t<E.P.types.size))=true)
 (W:World)(base:Nat)(args:Array Value)(ds gs:List (DataW H))(bL:List MemPlace)
 (cW:∀(j:Nat) t v,fn.params[j]?=some t→args[j]?=some v→Value.okWide E.P W .any base t v)
 (hW:DataW.Whole enc E.P fn.params.toList s.vars false W args.toList ds gs bL)(hG:Holds E W) :
 Calls E.P f args W λe W'=>∃v,e = .returned v∧s.post enc E.P fn false true false false W args v W':=by
 have hA:=hW;obtain⟨p,q,hA,_⟩:=hA;obtain⟨aU,h1,h2⟩:=d5b (b0:=base) ok (n:=m) fn.params.toList args.toList ds p hA (λj t v ht hv=>cW j t v (by simpa using ht) (by simpa using hv)) og;obtain⟨H',hr⟩:=ae aU h2;have:=d6i oM hf hr hG h1;rw[Array.toArray_toList]at this;refine this.mono ?_
 rintro e W' ⟨rfl,hb⟩
 exact⟨_,rfl,d7w hl fF hn hs e7 bN mf hW hb⟩
end
end Go.Ax
/- AxSem: what a call comes to, a56 fuel for the calls: a function 'sem', closed under running a body over itself. No condition. -/
namespace Go.Ax
abbrev CallF:=FuncId→List AV→a03→Option (AV×a03)
def CallF.le(c c':CallF):Prop:=∀g a H r,c g a H=some r→c' g a H=some r
theorem b05{r r':List AV→a03→Option (AV×a03)}(h:∀a H x,r a H=some x→r' a H=some x){args:List AV}{H:a03}{x:AV×a03×List Nat}
 (hc:a3j r args H=some x):a3j r' args H=some x:=by
 unfold a3j at hc⊢;simp only at hc⊢;rw[cond_eq_ite]at hc⊢;split at hc
 case isFalse=>cases hc
 rename_i h1;rw[f6e h1];split at hc
 case h_2=>cases hc
 rename_i v H1 hr;rw[h _ _ _ hr];exact hc
theorem c3b{r r':List AV→a03→Option (AV×a03)}(h:∀a H x,r a H=some x→r' a H=some x){args:List AV}{H:a03}{x:AV×a03×List Nat}
 (hc:a9y r args H=some x):a9y r' args H=some x:=by
 unfold a9y at hc⊢;split at hc
 case h_2=>cases hc
 rename_i au h1;split at hc
 case h_2=>cases hc
 rename_i v H1 hr;rw[h _ _ _ hr];exact hc
section
variable {E:Env}{ag:Bool}{N:Nat}{c c':CallF}(hc:CallF.le c c')
include hc
theorem d0i{f:AV}{args:List AV}{H:a03}{x:AV×a03×List Nat}(h:a0b E ag c f args H=some x):a0b E ag c' f args H=some x:=by
 unfold a0b at h⊢;split at h
 case h_3=>cases h
 case h_2=>
  split at h
  case h_2=>cases h
  rename_i v H' σ hr;rw[b05 (λa H x=>hc yId a H x) hr];exact h
 rename_i g fs cs;rw[cond_eq_ite]at h⊢;split at h
 ·rename_i h1;rw[f6e h1];rw[cond_eq_ite]at h⊢;split at h
  ·rename_i h2;rw[f6e h2];exact c3b (λa H x=>hc g a H x) h
  ·rename_i h2;rw[f4n h2];exact h
 ·rename_i h1;rw[f4n h1];rw[cond_eq_ite]at h⊢;split at h
  case isFalse=>cases h
  rename_i h2;rw[f6e h2];split at h
  case h_2=>cases h
  rename_i v H' σ hr;rw[b05 (λa H x=>hc g a H x) hr];exact h
theorem c56{F:Frm}{H:a03}{op:Op}{x:AV×a03×LogE}(h:a0w E ag c F H op=some x):a0w E ag c' F H op=some x:=by
 unfold a0w at h⊢;split at h
 ·split at h
  case h_2=>cases h
  rename_i v H' σ hr;rw[d0i hc hr];exact h
 ·exact h
theorem b5k{R:Type}{all:List Oper}{k k':Frm→a03→Option R}(hk:∀F H r,k F H=some r→k' F H=some r):∀(al:List Oper) (log:List LogE) (F:Frm) (H:a03) {r:R},
 a2z E ag N c all al log F H k=some r→a2z E ag N c' all al log F H k'=some r:=by
 intro al
 induction al with
 |nil=>
  intro log F H r h;unfold a2z at h⊢;rw[cond_eq_ite]at h⊢;split at h
  case isFalse=>cases h
  rename_i h1;rw[f6e h1];exact hk _ _ _ h
 |cons o af ih=>
  have step:∀(log:List LogE) (F F':Frm) (H:a03) (op:Op) (r:R),(match a0w E ag c F H op with
   |some (v,H',l)=>a2z E ag N c all af (l::log) (a4i F' o.dst v) H' k
   |none=>none)=some r→(match a0w E ag c' F H op with
   |some (v,H',l)=>a2z E ag N c' all af (l::log) (a4i F' o.dst v) H' k'
   |none=>none)=some r:=by
   intro log F F' H op r h;split at h
   case h_2=>cases h
   rename_i v H' l hs;rw[c56 hc hs];exact ih _ _ _ h
  intro log F H r h;unfold a2z at h⊢;rw[cond_eq_ite]at h⊢;split at h
  case isFalse=>cases h
  rename_i h1;rw[f6e h1];split at h
  ·exact step _ _ _ _ _ _ h
  ·rename_i j bI hg;split at h
   ·cases h
   ·rename_i d hd;split at h
    ·rename_i b hb;rw[cond_eq_ite]at h⊢;split at h
     ·rename_i rF;rw[f6e rF];rw[cond_eq_ite]at h⊢;split at h
      ·rename_i hw;rw[f6e hw];exact step _ _ _ _ _ _ h
      ·rename_i hw;rw[f4n hw];exact ih _ _ _ h
     ·rename_i rF;rw[f4n rF];rw[cond_eq_ite]at h⊢;split at h
      ·rename_i hw;rw[f6e hw];exact ih _ _ _ h
      ·rename_i hw;rw[f4n hw];exact step _ _ _ _ _ _ h
    ·exact ih _ _ _ h
    ·cases h
omit hc in
theorem b8w{m0:Nat}{keep:List Nat}{R:Type}{b b':Frm→a03→(AExit→Frm→a03→Option R)→Option R}
 (hb:∀F H (k k':AExit→Frm→a03→Option R),(∀e F H r,k e F H=some r→k' e F H=some r)→∀r,b F H k=some r→b' F H k'=some r):∀(n n':Nat),n≤n'→∀(F:Frm) (H:a03) (k k':AExit→Frm→a03→Option R),(∀e F H r,k e F H=some r→k' e F H=some r)→∀{r:R},
 b4o m0 keep b n F H k=some r→b4o m0 keep b' n' F H k'=some r
 |0,_,_,F,H,k,k',_,r,h=>by simp[b4o]at h
 |n+1,0,hn,F,H,k,k',_,r,h=>by omega
 |n+1,n'+1,hn,F,H,k,k',hk,r,h=>by
  unfold b4o at h⊢;simp only at h⊢;rw[cond_eq_ite]at h⊢;split at h
  case isFalse=>cases h
  rename_i h1;rw[f6e h1];refine hb _ _ _ _ ?_ r h;intro e F H r h;cases e with
  |normal=>exact b8w hb n n' (by omega) F H k k' hk h
  |exit id=>exact hk _ _ _ _ h
  |ret=>exact hk _ _ _ _ h
omit hc in
theorem b5n{m0 it:Nat}{keep:List Nat}{ks aC:List Int}{b b':Frm→a03→(AExit→Frm→a03→Option R3)→Option R3}
 (hb:∀F H (k k':AExit→Frm→a03→Option R3),(∀e F H r,k e F H=some r→k' e F H=some r)→∀r,b F H k=some r→b' F H k'=some r){a:Option Int}{F:Frm}{H:a03}{x:R3}(h:b0p m0 it keep ks aC b a F H=some x):b0p m0 it keep ks aC b' a F H=some x:=by
 unfold b0p at h⊢;split at h
 case h_2=>cases h
 rename_i F1 H1 hg;split at h
 case h_2=>cases h
 rename_i H2 ha;exact hb _ _ _ _ (λ_ _ _ _ h=>h) _ h
omit hc in
theorem b5v{m0 it:Nat}{keep:List Nat}{ks:List Int}{b b':Frm→a03→(AExit→Frm→a03→Option R3)→Option R3}
 (hb:∀F H (k k':AExit→Frm→a03→Option R3),(∀e F H r,k e F H=some r→k' e F H=some r)→∀r,b F H k=some r→b' F H k'=some r):∀{o aC:List Int} {F:Frm} {H:a03} {x:R3},a4g m0 it keep ks b aC o F H=some x→a4g m0 it keep ks b' aC o F H=some x
 | [],aC,F,H,x,h=>by
  unfold a4g at h⊢;split at h
  ·cases h
  ·rename_i e F' H' aF hr;rw[b5n hb hr];cases e with
   |normal=>exact(aF rfl).elim
   |exit id=>exact h
   |ret=>exact h
  ·cases h
 |i::o,aC,F,H,x,h=>by
  unfold a4g at h⊢;split at h
  case h_2=>cases h
  rename_i F' H' hr;rw[b5n hb hr];exact b5v hb h
omit hc in
theorem c9f{m0 it:Nat}{keep:List Nat}{R:Type}{b b':Frm→a03→(AExit→Frm→a03→Option R3)→Option R3}
 (hb:∀F H (k k':AExit→Frm→a03→Option R3),(∀e F H r,k e F H=some r→k' e F H=some r)→∀r,b F H k=some r→b' F H k'=some r){F:Frm}{H:a03}{k k':AExit→Frm→a03→Option R}(hk:∀e F H r,k e F H=some r→k' e F H=some r){r:R}
 (h:c32 m0 it keep b F H k=some r):c32 m0 it keep b' F H k'=some r:=by
 unfold c32 at h⊢;split at h
 case h_2=>cases h
 rename_i ks cQ;split at h
 case h_2=>cases h
 rename_i r0 rs i3;rw[cond_eq_ite]at h;split at h
 case isFalse=>cases h
 rename_i bd;have hm:(a9q ks).map (λo=>a4g m0 it keep ks b' [] o F H)=some r0::rs:=by
  rw[←i3];refine f8e λo ho=>?_;have hm:=f9w (f:=λo=>a4g m0 it keep ks b [] o F H) ho;rw[i3]at hm;have he:a4g m0 it keep ks b [] o F H=some r0:=by
   rcases f6m.1 hm with h|h
   ·exact h
   ·exact c74 (f8c.1 bd _ h)
  rw[he];exact b5v hb he
 rw[hm];simp only[bd,f6g];exact hk _ _ _ _ h
theorem b2l{m0 lf gT:Nat}(hl:lf≤gT){keep:Nat→List Nat}:∀(code:Code) {R:Type} (cur:Nat) (F:Frm) (H:a03) (k k':AExit→Frm→a03→Option R),(∀e F H r,k e F H=some r→k' e F H=some r)→∀{r:R},
 a4k E m0 N keep c lf cur code F H k=some r→a4k E m0 N keep c' gT cur code F H k'=some r:=by
 intro code
 induction code with
 |skip=>intro R cur F H k k' hk r h;unfold a4k at h⊢;exact hk _ _ _ _ h
 |label l=>intro R cur F H k k' hk r h;unfold a4k at h⊢;exact hk _ _ _ _ h
 |exit id=>intro R cur F H k k' hk r h;unfold a4k at h⊢;exact hk _ _ _ _ h
 |ret=>intro R cur F H k k' hk r h;unfold a4k at h⊢;exact hk _ _ _ _ h
 |region id al ag=>
  intro R cur F H k k' hk r h;unfold a4k at h⊢;cases hn:d0z al.toList with
  |none=>rw[hn]at h;exact b5k hc (λF H r h=>hk _ _ _ _ h) _ _ _ _ h
  |some x=>
   obtain⟨it,nx,af⟩:=x;rw[hn]at h;simp only[cond_eq_ite]at h⊢;split at h
   case isTrue=>cases h
   rename_i h1;rw[f4n h1];split at h
   case h_2=>cases h
   rename_i v H' hx;exact b5k hc (λF H r h=>hk _ _ _ _ h) _ _ _ _ h
 |seq x y ihx ihy=>
  intro R cur F H k k' hk r h;unfold a4k at h⊢;refine ihx _ _ _ _ _ ?_ h;intro e F H r h;cases e with
  |normal=>exact ihy _ _ _ _ _ hk h
  |exit id=>exact hk _ _ _ _ h
  |ret=>exact hk _ _ _ _ h
 |cond x y z ihy ihz=>
  intro R cur F H k k' hk r h;unfold a4k at h⊢;split at h
  case h_2=>cases h
  rename_i t ht;simp only[cond_eq_ite]at h⊢;split at h
  ·rename_i h1;rw[f6e h1];exact ihy _ _ _ _ _ hk h
  ·rename_i h1;rw[f4n h1];exact ihz _ _ _ _ _ hk h
 |block id b ih=>
  intro R cur F H k k' hk r h;unfold a4k at h⊢;refine ih _ _ _ _ _ ?_ h;intro e F H r h;cases e with
  |normal=>exact hk _ _ _ _ h
  |exit id'=>
   simp only[cond_eq_ite]at h⊢;split at h
   ·rename_i h1;rw[f6e h1];exact hk _ _ _ _ h
   ·rename_i h1;rw[f4n h1];exact hk _ _ _ _ h
  |ret=>exact hk _ _ _ _ h
 |loop b ih=>
  intro R cur F H k k' hk r h;unfold a4k at h⊢;cases hn:b0q b with
  |some it=>rw[hn]at h;exact c9f (λF H k k' hk r h=>ih _ F H k k' hk h) hk h
  |none=>
  rw[hn]at h;dsimp only at h⊢;refine b8w (λF H k k' hk r h=>ih _ F H k k' hk h) _ _ hl F H _ _ ?_ h;intro e F H r h;rw[cond_eq_ite]at h⊢;split at h
  ·rename_i h1;rw[f6e h1];exact hk _ _ _ _ h
  ·rename_i h1;rw[f4n h1];exact hk _ _ _ _ h
 |scope b ih=>intro R cur F H k k' hk r h;unfold a4k at h⊢;exact ih _ _ _ _ _ hk h
 |rangeFunc f ps as b=>
  intro R cur F H k k' hk r h;unfold a4k at h⊢;split at h
  case h_2=>cases h
  rename_i g fs cs y _ _;rw[cond_eq_ite]at h⊢;split at h
  case isFalse=>cases h
  rename_i h1;rw[f6e h1];split at h
  case h_2=>cases h
  rename_i v H2 σ hr;rw[b05 (λa H x=>hc g a H x) hr];dsimp only;split at h
  ·exact hk _ _ _ _ h
  ·exact hk _ _ _ _ h
  ·exact hk _ _ _ _ h
  ·cases h
 |_=>intro R cur F H k k' hk r h;simp[a4k]at h
theorem c0d{lf gT:Nat}(hl:lf≤gT){args:List AV}{H:a03}{r:AV×a03}(h:b0c E c lf args H=some r):b0c E c' gT args H=some r:=by
 unfold b0c at h⊢;split at h
 case h_2=>cases h
 rename_i b vs;split at h
 case h_2=>cases h
 rename_i y F hb;split at h
 case h_2=>cases h
 rename_i ri od;rw[cond_eq_ite]at h⊢;split at h
 case isFalse=>cases h
 rename_i h1;rw[f6e h1];refine b2l hc hl _ _ _ _ _ _ ?_ h;intro e F H r h;cases e with
 |normal=>
  dsimp only at h⊢;split at h
  case h_2=>cases h
  rename_i H1 hy;exact b2l hc hl _ _ _ _ _ _ (λ_ _ _ _ h=>h) h
 |exit id=>exact h
 |ret=>exact h
theorem d5t{m0 lf gT:Nat}(hl:lf≤gT){keep:Nat→List Nat}:∀(code:Code) {R:Type} (cur:Nat) (F:Frm) (H:a03) (k k':AExit→Frm→a03→Option R),(∀e F H r,k e F H=some r→k' e F H=some r)→∀{r:R},
 e64 E m0 N keep c lf cur code F H k=some r→e64 E m0 N keep c' gT cur code F H k'=some r:=by
 intro code
 induction code with
 |seq x y ihx ihy=>
  intro R cur F H k k' hk r h;unfold e64 at h⊢;refine ihx _ _ _ _ _ ?_ h;intro e F H r h;cases e with
  |normal=>exact ihy _ _ _ _ _ hk h
  |exit id=>exact hk _ _ _ _ h
  |ret=>exact hk _ _ _ _ h
 |_=>intro R cur F H k k' hk r h;exact b2l hc hl _ _ _ _ _ _ hk h
theorem b30{lf gT:Nat}(hl:lf≤gT){g:FuncId}{args:List AV}{H:a03}{r:AV×a03}(h:b31 E c lf g args H=some r):b31 E c' gT g args H=some r:=by
 unfold b31 at h⊢;split at h
 ·exact h
 split at h
 ·skip
  rw[cond_eq_ite]at h⊢;split at h
  case isFalse=>cases h
  rename_i h1;rw[f6e h1];exact c0d hc hl h
 rename_i i hi;rw[cond_eq_ite]at h⊢;split at h
 case isFalse=>cases h
 rename_i h1;rw[f6e h1];unfold f2r at h⊢;cases hz:E.zf g with
 |true=>rw[hz,f6g]at h;rw[f6g];exact d5t hc hl _ _ _ _ _ _ (λ_ _ _ _ h=>h) h
 |false=>rw[hz,f7z]at h;rw[f7z];exact b2l hc hl _ _ _ _ _ _ (λ_ _ _ _ h=>h) h
end
inductive Der(E:Env)(M:List Fact):FuncId→List AV→a03→AV×a03→Prop
 |run (g:FuncId) (args:List AV) (H:a03) (r:AV×a03) (c:CallF) (lf:Nat) (hc:∀g a H r,c g a H=some r→Der E M g a H r)
  (dv:∀x∈M,x.g≠g) (h:b31 E c lf g args H=some r):Der E M g args H r
 |fact (x:Fact) (hx:x∈M) (rk:∀y∈M,y.g=x.g→y.args=x.args→y.v=x.v):Der E M x.g x.args [] (x.v,[])
open Classical in
noncomputable def f2j(c c':CallF):CallF:=λg a H=>match c g a H with|some r=>some r|none=>c' g a H
theorem Der.one{E:Env}{M:List Fact}{g:FuncId}{args:List AV}{H:a03}{r r':AV×a03}(h:Der E M g args H r)(h':Der E M g args H r'):r=r':=by
 induction h generalizing r' with
 |run g args H r c lf hc dv h ih=>
  cases h' with
  |run _ _ _ _ c' gT pN hno' h'=>
   have l1:CallF.le c (f2j c c'):=by intro g a H r h;simp[f2j,h]
   have l2:CallF.le c' (f2j c c'):=by
    intro g a H r h;unfold f2j;cases dl:c g a H with
    |none=>exact h
    |some s=>exact congrArg some (ih g a H s dl (pN g a H r h))
   have e1:=b30 l1 (Nat.le_max_left lf gT) h;have e2:=b30 l2 (Nat.le_max_right lf gT) h';exact z9o (e1.symm.trans e2)
  |fact x hx=>exact absurd rfl (dv x hx)
 |fact x hx hf=>
  generalize hg:x.g=g at h';generalize ha:x.args=args at h';generalize hH:([]:a03)=H at h';cases h' with
  |run _ _ _ _ c' gT pN hno' h'=>exact absurd hg (hno' x hx)
  |fact y hy tj=>rw[hf y hy hg.symm ha.symm]
theorem Der.ok{E:Env}(ok:EnvOk E)(fX:DrOk E){M:List Fact}(hM:∀x∈M,e1y E x){g:FuncId}{args:List AV}{H:a03}{r:AV×a03}(h:Der E M g args H r) :
 b1g E g (λa H'=>open Classical in if a=args∧H'=H then some r else none):=by
 induction h with
 |run g args H r c lf hc dv h ih=>
  have ak:a4w E c:=by intro g a H v H' hr;have:=ih g a H (v,H') hr;exact this a H v H' (by simp)
  intro a H' v tZ hr;dsimp only at hr;split at hr
  ·rename_i hh;obtain⟨rfl,rfl⟩:=hh;cases hr;exact d6x ok fX ak lf g a H' v tZ h
  ·cases hr
 |fact x hx hf=>
  intro a H' v tZ hr;dsimp only at hr;split at hr
  ·rename_i hh;obtain⟨rfl,rfl⟩:=hh;cases hr;intro I K ρ w ap h1 h2 h3;exact hM x hx I K ρ w ap h1 h2 h3
  ·cases hr
open Classical in
noncomputable def sem(E:Env)(M:List Fact):CallF:=λg args H=>if h:∃r,Der E M g args H r then some h.choose else none
section
variable {E:Env}{M:List Fact}
theorem c5b{g:FuncId}{args:List AV}{H:a03}{r:AV×a03}:sem E M g args H=some r↔Der E M g args H r:=by
 unfold sem;constructor
 ·intro h;split at h
  ·rename_i hh;cases h;exact hh.choose_spec
  ·cases h
 ·intro h;have hh:∃r,Der E M g args H r:=⟨r,h⟩
  rw[dif_pos hh];exact congrArg some (Der.one hh.choose_spec h)
theorem c5a{g:FuncId}{args:List AV}{H:a03}{r:AV×a03}(dv:∀x∈M,x.g≠g)(lf:Nat)(h:b31 E (sem E M) lf g args H=some r):sem E M g args H=some r:=c5b.2 (.run g args H r (sem E M) lf (λ_ _ _ _ h=>c5b.1 h) dv h)
theorem sem_ok(ok:EnvOk E)(fX:DrOk E)(hM:∀x∈M,e1y E x):a4w E (sem E M):=by intro g args H v H' h;exact(Der.ok ok fX hM (c5b.1 h)) args H v H' (by simp)
end
end Go.Ax
/- AxEv: runs of statements in direct style: what a statement comes to, for a55 loop fuel that is great enough. -/
namespace Go.Ax
def e13{α β:Type}(x:Option α)(f:α→β)(d:β):β:=match x with|some a=>f a|none=>d
def a0j{α β:Type}(x:Option α)(f:α→Option β):Option β:=match x with|some a=>f a|none=>none
@[go_sem] theorem e71{α β:Type}(a:α)(f:α→Option β):a0j (some a) f=f a:=by rfl
@[congr] theorem e3i{α β:Type}{x y:Option α}{f:α→Option β}(h:x=y):a0j x f=a0j y f:=by rw[h]
def a8j(E:Env)(ag:Bool)(N:Nat)(call:CallF)(all:List Oper):List Oper→List LogE→Frm→a03→Option (Frm×a03×List LogE)
 | [],log,F,H=>some (F,H,log)
 |o::af,log,F,H=>
  bif a8f N o.dst then
   match o.guard with
   |none=>a0j (a0w E ag call F H o.op) λx=>a8j E ag N call all af (x.2.2::log) (a4i F o.dst x.1) x.2.1
   |some (j,bI)=>match a3m all j with
    |none=>none
    |some d=>match a34 F d with
     |.bool b=>bif b then
      (bif bI then a0j (a0w E ag call (a4i F (some d) (.bool true)) H o.op) λx=>a8j E ag N call all af (x.2.2::log) (a4i (a4i F (some d) (.bool true)) o.dst x.1) x.2.1
      else a8j E ag N call all af (⟨[],[]⟩::log) (a4i (a4i F (some d) (.bool true)) o.dst (.tuple [])) H)
      else
       (bif bI then a8j E ag N call all af (⟨[],[]⟩::log) (a4i (a4i F (some d) (.bool false)) o.dst (.tuple [])) H
       else a0j (a0w E ag call (a4i F (some d) (.bool false)) H o.op) λx=>a8j E ag N call all af (x.2.2::log) (a4i (a4i F (some d) (.bool false)) o.dst x.1) x.2.1)
     |.tuple []=>a8j E ag N call all af (⟨[],[]⟩::log) (a4i F o.dst (.tuple [])) H
     |_=>none
  else none
theorem b5j{E:Env}{ag:Bool}{N:Nat}{call:CallF}{all:List Oper}{R:Type}{k:Frm→a03→Option R}:∀(al:List Oper) (log:List LogE) (F:Frm) (H:a03),
 a2z E ag N call all al log F H k=(match a8j E ag N call all al log F H with|some (F',H',gd)=>(bif !ag||logOk all gd.length gd then k F' H' else none)|none=>none):=by
 intro al
 induction al with
 |nil=>intro log F H;rfl
 |cons o af ih=>
  intro log F H;have step:∀(F1 F2:Frm),(match a0w E ag call F1 H o.op with
   |some (v,H',l)=>a2z E ag N call all af (l::log) (a4i F2 o.dst v) H' k
   |none=>none)=(match a0j (a0w E ag call F1 H o.op) λx=>a8j E ag N call all af (x.2.2::log) (a4i F2 o.dst x.1) x.2.1 with|some (F',H',gd)=>(bif !ag||logOk all gd.length gd then k F' H' else none)|none=>none):=by
   intro F1 F2;cases a0w E ag call F1 H o.op with
   |none=>rfl
   |some x=>exact ih _ _ _
  obtain⟨dst,op,ty,pos,after,guard⟩:=o;unfold a2z a8j;cases hd:a8f N dst with
  |false=>rfl
  |true=>
   cases guard with
   |none=>exact step F F
   |some g=>
    obtain⟨j,bI⟩:=g;simp only[f6g];cases hs:a3m all j with
    |none=>rfl
    |some d=>
     simp only;cases hv:a34 F d with
     |bool b=>cases b<;>cases bI<;>simp only[f6g,f7z]<;>first|exact step _ _|exact ih _ _ _
     |tuple vs=>cases vs with
      |nil=>exact ih _ _ _
      |cons a r=>rfl
     |_=>rfl
structure Cx where
 E:Env
 M:List Fact
 m0:Nat
 N:Nat
 keep:Nat→List Nat
 cur:Nat
def Ev(x:Cx)(c:Code)(F:Frm)(H:a03)(r:AExit×Frm×a03):Prop:=∃n0,∀lf,n0≤lf→∀(R:Type) (k:AExit→Frm→a03→Option R),a4k x.E x.m0 x.N x.keep (sem x.E x.M) lf x.cur c F H k=k r.1 r.2.1 r.2.2
section
variable {x:Cx}{F F1:Frm}{H H1:a03}{r:AExit×Frm×a03}
theorem Ev.skip:Ev x .skip F H (.normal,F,H):=⟨0,λ_ _ _ _=>rfl⟩
theorem Ev.label{l}:Ev x (.label l) F H (.normal,F,H):=⟨0,λ_ _ _ _=>rfl⟩
theorem Ev.leave{id}:Ev x (.exit id) F H (.exit id,F,H):=⟨0,λ_ _ _ _=>rfl⟩
theorem Ev.ret:Ev x .ret F H (.ret,F,H):=⟨0,λ_ _ _ _=>rfl⟩
theorem e3k{E:Env}{ag:Bool}{N:Nat}{call:CallF}{all al:List Oper}{log:List LogE}{F:Frm}{H:a03}{r:Frm×a03×List LogE}(h:a8j E ag N call all al log F H=some r):d0z al=none:=by
 unfold d0z;split
 ·rfl
 ·rename_i o af;split
  ·rename_i it nx h1 h2 h3;obtain⟨d,op,ty,pos,after,guard⟩:=o;simp only at h1 h2 h3;subst h1 h2 h3;unfold a8j at h;have hs:a0w E ag call F H (.next (.tmp it) false)=none:=by
    have:aop E H.length (a01 H) (.next (.tmp it) false) (opv E F)=none:=by show c4n (a01 H) (opv E F (.tmp it)) false=none;unfold c4n;split<;>rfl
    unfold a0w;simp only[this]
   rw[cond_eq_ite]at h;split at h
   ·simp only[hs,a0j]at h;cases h
   ·cases h
  ·rfl
theorem Ev.region{id al ag}{log:List LogE}(h:a8j x.E ag x.N (sem x.E x.M) al.toList al.toList [] F H=some (F1,H1,log))(hl:(!ag||logOk al.toList log.length log)=true):Ev x (.region id al ag) F H (.normal,F1,H1):=⟨0,λ_ _ R k=>by simp only[a4k,e3k h,b5j,h,hl,f6g]⟩
theorem Ev.seq{a b}(h:Ev x a F H (.normal,F1,H1))(h2:Ev x b F1 H1 r):Ev x (.seq a b) F H r:=by obtain⟨n,h⟩:=h;obtain⟨m,h2⟩:=h2;exact⟨max n m,λlf hl R k=>by simp only[a4k];rw[h lf (by omega)];exact h2 lf (by omega) R k⟩
theorem Ev.seq_ret{a b}(h:Ev x a F H (.ret,F1,H1)):Ev x (.seq a b) F H (.ret,F1,H1):=by obtain⟨n,h⟩:=h;exact⟨n,λlf hl R k=>by simp only[a4k];rw[h lf hl]⟩
theorem Ev.seq_exit{a b id}(h:Ev x a F H (.exit id,F1,H1)):Ev x (.seq a b) F H (.exit id,F1,H1):=by obtain⟨n,h⟩:=h;exact⟨n,λlf hl R k=>by simp only[a4k];rw[h lf hl]⟩
theorem Ev.cond_t{c a b}(hc:opv x.E F c = .bool true)(h:Ev x a F H r):Ev x (.cond c a b) F H r:=by obtain⟨n,h⟩:=h;exact⟨n,λlf hl R k=>by simp only[a4k,hc,f6g];exact h lf hl R k⟩
theorem Ev.cond_f{c a b}(hc:opv x.E F c = .bool false)(h:Ev x b F H r):Ev x (.cond c a b) F H r:=by obtain⟨n,h⟩:=h;exact⟨n,λlf hl R k=>by simp only[a4k,hc,f7z];exact h lf hl R k⟩
theorem Ev.block{id b}(h:Ev { x with cur:=id } b F H (.normal,F1,H1)):Ev x (.block id b) F H (.normal,F1,H1):=by obtain⟨n,h⟩:=h;exact⟨n,λlf hl R k=>by simp only[a4k];rw[h lf hl]⟩
theorem Ev.block_ret{id b}(h:Ev { x with cur:=id } b F H (.ret,F1,H1)):Ev x (.block id b) F H (.ret,F1,H1):=by obtain⟨n,h⟩:=h;exact⟨n,λlf hl R k=>by simp only[a4k];rw[h lf hl]⟩
theorem Ev.block_exit{id b}(h:Ev { x with cur:=id } b F H (.exit id,F1,H1)):Ev x (.block id b) F H (.normal,F1,H1):=by obtain⟨n,h⟩:=h;exact⟨n,λlf hl R k=>by simp only[a4k];rw[h lf hl];simp⟩
theorem Ev.block_on{id id' b}(h:Ev { x with cur:=id } b F H (.exit id',F1,H1))(aF:(id'==id)=false):Ev x (.block id b) F H (.exit id',F1,H1):=by obtain⟨n,h⟩:=h;exact⟨n,λlf hl R k=>by simp only[a4k];rw[h lf hl];simp only[aF,f7z]⟩
theorem Ev.scope{b}(h:Ev x b F H r):Ev x (.scope b) F H r:=by obtain⟨n,h⟩:=h;exact⟨n,λlf hl R k=>by simp only[a4k];exact h lf hl R k⟩
def EvL(x:Cx)(b:Code)(F:Frm)(H:a03)(r:AExit×Frm×a03):Prop:=
 ∃n0,∀lf,n0≤lf→∀n,n0≤n→∀(R:Type) (k:AExit→Frm→a03→Option R),
  b4o x.m0 (x.keep x.cur) (λF H k=>a4k x.E x.m0 x.N x.keep (sem x.E x.M) lf x.cur b F H k) n F H k=k r.1 r.2.1 r.2.2
theorem Ev.loop{b}(hx:b0q b=none)(hz:e4l (x.keep x.cur)=false)(h:EvL x b F H r):Ev x (.loop b) F H r:=by obtain⟨n,h⟩:=h;exact⟨n,λlf hl R k=>by simp only[a4k,hx,hz,f7z];exact h lf hl lf hl R k⟩
theorem d3x{m0:Nat}{keep:List Nat}(hg:gcD m0 keep F H=some (F1,H1)) :
 (a6g (b3e m0 (a2c keep F) H)&&(b3e m0 (a2c keep F) H).all (λb=>Nat.ble m0 b)&&Nat.ble m0 H.length)=true∧c0f (c1b m0 (b3e m0 (a2c keep F) H)) (a2c keep F)=F1∧gcH m0 (b3e m0 (a2c keep F) H) H=H1:=by
 unfold gcD at hg;simp only[cond_eq_ite]at hg;split at hg
 case isFalse=>cases hg
 rename_i hc;cases hg;exact⟨hc,rfl,rfl⟩
theorem EvL.leave{b:Code}{F2:Frm}{H2:a03}{e:AExit}(hg:gcD x.m0 (x.keep x.cur) F H=some (F1,H1))(h:Ev x b F1 H1 (e,F2,H2))(he:e≠ .normal):EvL x b F H (e,F2,H2):=by
 obtain⟨n0,h⟩:=h;refine⟨n0+1,λlf hl n hn R k=>?_⟩;obtain⟨n,rfl⟩:∃l,n=l+1:=⟨n-1,by omega⟩
 obtain⟨h1,h2,h3⟩:=d3x hg;simp only[b4o,h1,h2,h3,f6g];rw[h lf (by omega)];cases e with
 |normal=>exact absurd rfl he
 |exit id=>rfl
 |ret=>rfl
theorem EvL.again{b:Code}{F2:Frm}{H2:a03}(hg:gcD x.m0 (x.keep x.cur) F H=some (F1,H1))(h:Ev x b F1 H1 (.normal,F2,H2))(h':EvL x b F2 H2 r):EvL x b F H r:=by
 obtain⟨n0,h⟩:=h;obtain⟨m0,h'⟩:=h';refine⟨max n0 m0+1,λlf hl n hn R k=>?_⟩;obtain⟨n,rfl⟩:∃l,n=l+1:=⟨n-1,by omega⟩
 obtain⟨h1,h2,h3⟩:=d3x hg;simp only[b4o,h1,h2,h3,f6g];rw[h lf (by omega)];exact h' lf (by omega) n (by omega) R k
theorem c70{E:Env}{M:List Fact}{g:FuncId}{args:List AV}{H:a03}{code:Code}{N:Nat}{results:List ResultVar}{e:AExit}{F':Frm}{H':a03}{vs:List AV}{v:AV}{H2:a03}
 (cj:E.fn g=some ⟨code,N,results⟩)(dv:∀y∈M,y.g≠g)(hN:Nat.ble args.length N=true)(h:Ev ⟨E,M,H.length,N,E.keep g,0⟩ code (a5u 0 args) H (e,F',H'))(he:∀id,e≠ .exit id)
 (hr:a1h E F' H' results=some vs)(bh:a1f (E.thaw g) H.length (a5q vs) H'=some (v,H2))(hp:E.prim g args=none)(hz:E.zf g=false):sem E M g args H=some (v,H2):=by
 obtain⟨n,h⟩:=h;refine c5a dv n ?_;unfold b31;have uI:d2a E g args H=none:=by
  unfold d2a;cases H with
  |nil=>exact hp
  |cons a r=>rfl
 rw[uI,cj];simp only;rw[hN];simp only[f6g];unfold f2r;rw[hz];simp only[f7z];refine(h n (f6l _) _ _).trans ?_;cases e with
 |exit id=>exact absurd rfl (he id)
 |normal=>simp only[hr];exact bh
 |ret=>simp only[hr];exact bh
end
end Go.Ax
/- AxSimp: the evaluator's steps as rewrite rules. -/
namespace Go.Ax
section
variable {E:Env}{ag:Bool}{N:Nat}{call:CallF}{all af:List Oper}{log:List LogE}{F:Frm}{H:a03}
@[go_sem] theorem f2a(s:Nat)(v:AV)(r:Frm):a34 ((s,v)::r) s=v:=by simp only[a34,d63,cond_eq_ite,beq_self_eq_true,f9q]
@[go_sem] theorem e9b{s t:Nat}(h:(s=t)=False)(v:AV)(r:Frm):a34 ((s,v)::r) t=a34 r t:=by have:¬s=t:=λe=>h▸e;simp only[a34,d63,cond_eq_ite,g0i,f4n this]
@[go_sem] theorem e89(d:Nat)(v:AV):a4i F (some d) v=(d,v)::F:=by rfl
@[go_sem] theorem e8a(v:AV):a4i F none v=F:=by rfl
@[go_sem] theorem f4u(t:Nat):opv E F (.tmp t)=a34 F t:=by rfl
@[go_sem] theorem f1k(f:Nat):opv E F (.func f) = .func (.func f) [] []:=by rfl
@[go_sem] theorem f1l(b:Bool):opv E F (.const (.bool b)) = .bool b:=by rfl
@[go_sem] theorem f4w(k:IntKind)(n:Int):opv E F (.const (.int k n)) = .int k n:=by rfl
@[go_sem] theorem e6z:opv E F (.const (.pointer none)) = .nilptr:=by rfl
@[go_sem] theorem e11:opv E F (.const (.slice none 0 0)) = .nilslice:=by rfl
@[go_sem] theorem e70:opv E F (.const (.map none)) = .nilmap:=by rfl
@[go_sem] theorem e3g:opv E F (.const .nilFunc) = .nilfunc:=by rfl
@[go_sem] theorem f4v(s:ByteArray):opv E F (.const (.string s)) = .str s.data.toList:=by rfl
@[go_sem] theorem f0w:a8j E ag N call all [] log F H=some (F,H,log):=by rfl
@[go_sem] theorem e7b(d:Nat):a8f N (some d)=decide (d<N):=by rw[a8f,f9r];simp[f8f]
@[go_sem] theorem e7c:a8f N none=true:=by rfl
theorem e30(dst:Option Nat)(op:Op)(ty:TypeId)(pos:String)(after:Array Edge) :
 a8j E ag N call all ({ dst:=dst,op:=op,type:=ty,pos:=pos,after:=after,guard:=none }::af) log F H =
  bif a8f N dst then a0j (a0w E ag call F H op) λx=>a8j E ag N call all af (x.2.2::log) (a4i F dst x.1) x.2.1 else none:=by
 rfl
def e0u(E:Env)(ag:Bool)(N:Nat)(call:CallF)(all:List Oper)(dst:Option Nat)(op:Op)(af:List Oper)(log:List LogE)(F:Frm)(H:a03)(d:Nat)(bI:Bool):AV→Option (Frm×a03×List LogE)
 |.bool b=>bif b then
  (bif bI then a0j (a0w E ag call (a4i F (some d) (.bool true)) H op) λx=>a8j E ag N call all af (x.2.2::log) (a4i (a4i F (some d) (.bool true)) dst x.1) x.2.1
  else a8j E ag N call all af (⟨[],[]⟩::log) (a4i (a4i F (some d) (.bool true)) dst (.tuple [])) H)
  else
   (bif bI then a8j E ag N call all af (⟨[],[]⟩::log) (a4i (a4i F (some d) (.bool false)) dst (.tuple [])) H
   else a0j (a0w E ag call (a4i F (some d) (.bool false)) H op) λx=>a8j E ag N call all af (x.2.2::log) (a4i (a4i F (some d) (.bool false)) dst x.1) x.2.1)
 |.tuple []=>a8j E ag N call all af (⟨[],[]⟩::log) (a4i F dst (.tuple [])) H
 |_=>none
theorem c91(dst:Option Nat)(op:Op)(ty:TypeId)(pos:String)(after:Array Edge)(j:Nat)(bI:Bool) :
 a8j E ag N call all ({ dst:=dst,op:=op,type:=ty,pos:=pos,after:=after,guard:=some (j,bI) }::af) log F H =
  bif a8f N dst then a0j (a3m all j) λd=>e0u E ag N call all dst op af log F H d bI (a34 F d)else none:=by
 unfold a8j;cases a8f N dst with
 |false=>rfl
 |true=>
  simp only[f6g];cases a3m all j with
  |none=>rfl
  |some d=>simp only[a0j];unfold e0u;rfl
section
variable {dst:Option Nat}{op:Op}{d:Nat}
theorem e2w:e0u E ag N call all dst op af log F H d true (.bool true)=a0j (a0w E ag call ((d,.bool true)::F) H op) λx=>a8j E ag N call all af (x.2.2::log) (a4i ((d,.bool true)::F) dst x.1) x.2.1:=by rfl
theorem e2x:e0u E ag N call all dst op af log F H d true (.bool false)=a8j E ag N call all af (⟨[],[]⟩::log) (a4i ((d,.bool false)::F) dst (.tuple [])) H:=by rfl
theorem e2y:e0u E ag N call all dst op af log F H d false (.bool true)=a8j E ag N call all af (⟨[],[]⟩::log) (a4i ((d,.bool true)::F) dst (.tuple [])) H:=by rfl
theorem e2z:e0u E ag N call all dst op af log F H d false (.bool false)=a0j (a0w E ag call ((d,.bool false)::F) H op) λx=>a8j E ag N call all af (x.2.2::log) (a4i ((d,.bool false)::F) dst x.1) x.2.1:=by rfl
end
attribute [go_sem] e30 c91 e2w e2x e2y e2z
@[congr] theorem e6u{dst:Option Nat}{op:Op}{d:Nat}{bI:Bool}{v v':AV}(h:v=v'):e0u E ag N call all dst op af log F H d bI v=e0u E ag N call all dst op af log F H d bI v':=by rw[h]
/-! ### one operation -/
@[go_sem] theorem f3r(x:Operand):a0w E ag call F H (.move x)=some (opv E F x,H,⟨[],[]⟩):=by rfl
@[go_sem] theorem e86(x:Operand):a0w E ag call F H (.assign x)=some (opv E F x,H,⟨[],[]⟩):=by rfl
theorem a2b{op:Op}{v:Option AV}(h:aop E H.length (a01 H) op (opv E F)=v.map (·,.none))(hs:a0w E ag call F H op=match aop E H.length (a01 H) op (opv E F)with
 |some (v,e)=>bif e.fits H.length then some (v,b1i H e,⟨a9e op (opv E F),e.keys H.length⟩)else none
 |none=>none):a0w E ag call F H op=a0j v λv=>some (v,H,⟨a9e op (opv E F),[]⟩):=by
 rw[hs,h];cases v<;>rfl
@[go_sem] theorem f7x(op:BinOp)(t:TypeId)(x y:Operand)(z):a0w E ag call F H (.binOp op t x y z)=a0j (a6n E op t (opv E F x) (opv E F y) (a5j x||a5j y)) λv=>some (v,H,⟨[],[]⟩):=a2b rfl rfl
@[go_sem] theorem g13(op:UnOp)(t:TypeId)(x:Operand):a0w E ag call F H (.unOp op t x)=a0j (aun op (opv E F x)) λv=>some (v,H,⟨[],[]⟩):=a2b rfl rfl
@[go_sem] theorem f3t(s d:TypeId)(x:Operand):a0w E ag call F H (.convert s d x)=a0j (a7e E (a01 H) s d (opv E F x)) λv=>some (v,H,⟨a0o (opv E F x),[]⟩):=a2b rfl rfl
@[go_sem] theorem f3s(t:TypeId)(x:Operand):a0w E ag call F H (.load t x)=a0j (a7l E (a01 H) t (opv E F x)) λv=>some (v,H,⟨a0o (opv E F x),[]⟩):=a2b rfl rfl
@[go_sem] theorem f0p(t:TypeId)(x:Operand)(lo hi mx:Option Operand):a0w E ag call F H (.slice t x lo hi mx)=a0j (a5n E (a01 H) t (opv E F x) (lo.map (opv E F)) (hi.map (opv E F)) (mx.map (opv E F))) λv=>some (v,H,⟨a0o (opv E F x),[]⟩):=a2b rfl rfl
@[go_sem] theorem e0s(t:TypeId)(x:Operand)(f:Nat):a0w E ag call F H (.fieldAddr t x f)=a0j (a6x E t (opv E F x) f) λv=>some (v,H,⟨[],[]⟩):=a2b rfl rfl
@[go_sem] theorem e0r(t:TypeId)(x i:Operand):a0w E ag call F H (.indexAddr t x i)=a0j (a10 E (a01 H) t (opv E F x) (opv E F i)) λv=>some (v,H,⟨a0o (opv E F x),[]⟩):=a2b rfl rfl
@[go_sem] theorem f0s(t:TypeId)(ps:Array (Nat×Operand)):a0w E ag call F H (.build t ps)=a0j (b9v E t (ps.toList.map λp=>(p.1,opv E F p.2))) λv=>some (v,H,⟨[],[]⟩):=a2b rfl rfl
@[go_sem] theorem e84(t:TypeId)(x k:Operand)(o:Bool):a0w E ag call F H (.lookup t x k o)=a0j (oor (a2f E (a01 H) t (opv E F x) (opv E F k) o) (b2k E (a01 H) t (opv E F x) (opv E F k) o)) λv=>some (v,H,⟨a0o (opv E F x),[]⟩):=a2b rfl rfl
@[go_sem] theorem e2k(fn:Fn)(first cap:Array Operand):a0w E ag call F H (.makeFunc fn first cap)=some (.func fn (first.toList.map (opv E F)) (cap.toList.map (opv E F)),H,⟨[],[]⟩):=by rfl
def c4m(c a b:AV):Option AV:=match c with|.bool t=>some (b84 t a b)|_=>none
@[go_sem] theorem f3q(c a b:Operand):a0w E ag call F H (.pick c a b)=a0j (c4m (opv E F c) (opv E F a) (opv E F b)) λv=>some (v,H,⟨[],[]⟩):=by refine a2b ?_ rfl;simp only[aop,c4m];cases opv E F c<;>rfl
@[go_sem] theorem e5x(t a b:Bool):c4m (.bool t) (.bool a) (.bool b)=some (.bool (bif t then a else b)):=by rfl
@[go_sem] theorem e5w(a b:AV):c4m (.bool true) a b=some (b84 true a b):=by rfl
@[go_sem] theorem e1q(a b:AV):c4m (.bool false) a b=some (b84 false a b):=by rfl
theorem e5u(a b:AV):b84 true a b=a:=by unfold b84;split<;>simp
theorem e5v(a b:AV):b84 false a b=b:=by unfold b84;split<;>simp
attribute [go_sem] e5u e5v
def b2h(x:AV):Option AV:=match x with
 |.ptr b i o=>some (.ptr b i o)
 |.iptr cs=>some (.iptr cs)
 |.func (.func f) fs cs=>some (.func (.func f) fs cs)
 |_=>none
attribute [go_sem] b2h
@[go_sem] theorem e2i(x:Operand):a0w E ag call F H (.nilCheck x)=a0j (b2h (opv E F x)) λv=>some (v,H,⟨[],[]⟩):=by
 refine a2b ?_ rfl;simp only[aop];generalize opv E F x=y;cases y<;>try rfl
 rename_i fn _ _;cases fn<;>rfl
def c1z(x:AV)(i:Nat):Option AV:=match x with|.tuple vs=>vs[i]?|_=>none
attribute [go_sem] c1z
@[go_sem] theorem e6s(t:Operand)(i:Nat):a0w E ag call F H (.extract t i)=a0j (c1z (opv E F t) i) λv=>some (v,H,⟨[],[]⟩):=by
 refine a2b ?_ rfl;simp only[aop,c1z];cases opv E F t with
 |tuple vs=>simp only;cases vs[i]?<;>rfl
 |_=>rfl
theorem a59{op:Op}{v:Option (AV×Eff)}(h:aop E H.length (a01 H) op (opv E F)=v)(hs:a0w E ag call F H op=match aop E H.length (a01 H) op (opv E F)with
 |some (v,e)=>bif e.fits H.length then some (v,b1i H e,⟨a9e op (opv E F),e.keys H.length⟩)else none
 |none=>none){n:List Nat}(hn:a9e op (opv E F)=n):a0w E ag call F H op=a0j v λx=>bif x.2.fits H.length then some (x.1,b1i H x.2,⟨n,x.2.keys H.length⟩)else none:=by
 rw[hs,h];subst hn;cases v<;>rfl
@[go_sem] theorem f0t(t:TypeId):a0w E ag call F H (.alloc t)=a0j (e5z E H.length t) λx=>bif x.2.fits H.length then some (x.1,b1i H x.2,⟨[],x.2.keys H.length⟩)else none:=a59 rfl rfl rfl
@[go_sem] theorem f7w(t:TypeId)(x:Operand):a0w E ag call F H (.box t x)=a0j (e6b H.length (opv E F x)) λx=>bif x.2.fits H.length then some (x.1,b1i H x.2,⟨[],x.2.keys H.length⟩)else none:=a59 rfl rfl rfl
@[go_sem] theorem f0o(t:TypeId)(a x:Operand):a0w E ag call F H (.store t a x)=a0j (a9c E (a01 H) t (opv E F a) (opv E F x)) λe=>bif e.fits H.length then some (.tuple [],b1i H e,⟨a0o (opv E F a),e.keys H.length⟩)else none:=by refine(a59 (v:=(a9c E (a01 H) t (opv E F a) (opv E F x)).map (.tuple [],·)) rfl rfl rfl).trans ?_;cases a9c E (a01 H) t (opv E F a) (opv E F x)<;>rfl
@[go_sem] theorem d6r(t:TypeId)(n:Nat)(ps:Array (Nat×Operand)):a0w E ag call F H (.buildSlice t n ps)=a0j (a47 E H.length t n (ps.toList.map λp=>(p.1,opv E F p.2))) λx=>bif x.2.fits H.length then some (x.1,b1i H x.2,⟨[],x.2.keys H.length⟩)else none:=a59 rfl rfl rfl
@[go_sem] theorem e0q(t:TypeId)(l c:Operand):a0w E ag call F H (.makeSlice t l c)=a0j (a51 E H.length t (opv E F l) (opv E F c)) λx=>bif x.2.fits H.length then some (x.1,b1i H x.2,⟨[],x.2.keys H.length⟩)else none:=a59 rfl rfl rfl
@[go_sem] theorem e6r(t:TypeId):a0w E ag call F H (.makeMap t none)=some (.map H.length,H++[some (b8t E t)],⟨[],[H.length]⟩):=by rfl
@[go_sem] theorem e0p(t:TypeId)(m k x:Operand):a0w E ag call F H (.mapUpdate t m k x)=a0j (oor (a16 E (a01 H) t (opv E F m) (opv E F k) (opv E F x)) (b2e E (a01 H) t (opv E F m) (opv E F k) (opv E F x))) λe=>bif e.fits H.length then some (.tuple [],b1i H e,⟨a0o (opv E F m),e.keys H.length⟩)else none:=by refine(a59 (v:=(oor (a16 E (a01 H) t (opv E F m) (opv E F k) (opv E F x)) (b2e E (a01 H) t (opv E F m) (opv E F k) (opv E F x))).map (.tuple [],·)) rfl rfl rfl).trans ?_;cases oor (a16 E (a01 H) t (opv E F m) (opv E F k) (opv E F x)) (b2e E (a01 H) t (opv E F m) (opv E F k) (opv E F x))<;>rfl
@[go_sem] theorem e2j(t:TypeId)(m k:Operand):a0w E ag call F H (.mapEntry t m k)=a0j (a45 E (a01 H) t (opv E F m) (opv E F k)) λx=>bif x.2.fits H.length then some (x.1,b1i H x.2,⟨a0o (opv E F m),x.2.keys H.length⟩)else none:=a59 rfl rfl rfl
@[go_sem] theorem d6q(t:TypeId)(m s x:Operand):a0w E ag call F H (.entryStore t m s x)=a0j (a2o (a01 H) (opv E F m) (opv E F s) (opv E F x)) λe=>bif e.fits H.length then some (.tuple [],b1i H e,⟨a0o (opv E F m),e.keys H.length⟩)else none:=by refine(a59 (v:=(a2o (a01 H) (opv E F m) (opv E F s) (opv E F x)).map (.tuple [],·)) rfl rfl rfl).trans ?_;cases a2o (a01 H) (opv E F m) (opv E F s) (opv E F x)<;>rfl
@[go_sem] theorem f0q(t:TypeId)(x:Operand):a0w E ag call F H (.range t x)=a0j (oor (b4h E H.length t (opv E F x)) (b3u E H.length t (opv E F x))) λx=>bif x.2.fits H.length then some (x.1,b1i H x.2,⟨[],x.2.keys H.length⟩)else none:=a59 rfl rfl rfl
@[go_sem] theorem f7u(x:Operand)(t:TypeId):a0w E ag call F H (.call { callee:=.builtin .len,args:=#[x],argTypes:=#[t] })=a0j (c4t E (a01 H) t (opv E F x)) λv=>some (v,H,⟨a0o (opv E F x),[]⟩):=by refine(a2b (v:=c4t E (a01 H) t (opv E F x)) rfl rfl).trans ?_;simp[a9e]
@[go_sem] theorem f7v(x:Operand)(t:TypeId):a0w E ag call F H (.call { callee:=.builtin .cap,args:=#[x],argTypes:=#[t] })=a0j (e05 E t (opv E F x)) λv=>some (v,H,⟨a0o (opv E F x),[]⟩):=by refine(a2b (v:=e05 E t (opv E F x)) rfl rfl).trans ?_;simp[a9e]
@[go_sem] theorem f7s(x:Operand)(xs:List Operand)(ts:Array TypeId):a0w E ag call F H (.call { callee:=.builtin .min,args:=⟨x::xs⟩,argTypes:=ts })=a0j (d5k (opv E F x) (xs.map (opv E F))) λv=>some (v,H,⟨(x::xs).flatMap λx=>a0o (opv E F x),[]⟩):=a2b rfl rfl
@[go_sem] theorem f7t(x:Operand)(xs:List Operand)(ts:Array TypeId):a0w E ag call F H (.call { callee:=.builtin .max,args:=⟨x::xs⟩,argTypes:=ts })=a0j (d9y (opv E F x) (xs.map (opv E F))) λv=>some (v,H,⟨(x::xs).flatMap λx=>a0o (opv E F x),[]⟩):=a2b rfl rfl
@[go_sem] theorem e87(x y:Operand)(t u:TypeId):a0w E ag call F H (.call { callee:=.builtin .append,args:=#[x,y],argTypes:=#[t,u] })=a0j (oor (a5p E (a01 H) H.length t u (opv E F x) (opv E F y)) (a4f E H.length t u (opv E F x) (opv E F y))) λz=>bif z.2.fits H.length then some (z.1,b1i H z.2,⟨a0o (opv E F x)++a0o (opv E F y),z.2.keys H.length⟩)else none:=a59 rfl rfl (by simp[a9e])
@[go_sem] theorem e7q{E:Env}{n:Nat}{t u:TypeId}{x:AV}{b off len:Nat}{cap:Option Nat}:a4f E n t u (.slice b off len cap) x=none:=by unfold a4f;rfl
@[go_sem] theorem e6f{E:Env}{n:Nat}{t u:TypeId}{b off len:Nat}{cap:Option Nat}:a4f E n t u .nilslice (.slice b off len cap)=none:=by unfold a4f;rfl
@[go_sem] theorem f1n{α:Type}(x:Option α):oor x none=x:=by cases x<;>rfl
@[go_sem] theorem f1m{α:Type}(x:α)(y:Option α):oor (some x) y=some x:=by rfl
@[go_sem] theorem e31{g:FuncId}{fs cs:List AV}{H H':a03}{σ:List Nat}:a7o E (.func (.func g) fs cs) H H' σ=(E.ro g&&σ.all λb=>b2x (a01 H b) (a01 H' b)):=by rfl
@[go_sem] theorem e9q{α:Type}(b:Bool)(x:α):(bif b then x else x)=x:=by cases b<;>rfl
@[go_sem] theorem e74(ro:Bool)(σ:List Nat)(n:Nat):b7z ro σ n n=bif ro then[]else σ:=by unfold b7z;rw[cond_eq_ite,f6e (by rw[g2e])]
attribute [go_sem] List.range'_succ List.range'_zero
@[go_sem] theorem f3u(f:Operand)(args:Array Operand)(ts:Array TypeId):a0w E ag call F H (.call { callee:=.value f,args:=args,argTypes:=ts })=a0j (a0b E ag call (opv E F f) (args.toList.map (opv E F)) H) λx=>some (x.1,x.2.1,⟨x.2.2,b7z (a7o E (opv E F f) H x.2.1 x.2.2) x.2.2 H.length x.2.1.length⟩):=by simp only[a0w];cases a0b E ag call (opv E F f) (args.toList.map (opv E F)) H<;>rfl
end
/-! ### tables read by type -/
section
variable (E:Env)
def a6w(t:TypeId):Option Bool:=(E.und t).map a2q
def a6l(t:TypeId)(f:Nat):Option (Nat×TypeId):=match E.und t with|some (.struct fs)=>(fs[f]?).map λd=>(d.offset,d.type)|_=>none
def d58(t:TypeId):Bool:=match E.und t with
 |some (.struct fs)=>fs.toList.all (λf=>(E.und f.type).isSome)
 |some (.array _ e)=>(E.und e).isSome
 |_=>false
def b2p(t:TypeId)(i:Nat):Option (Nat×Nat):=match E.und t with
 |some (.struct fs)=>(fs[i]?).map λf=>(f.offset,E.sz f.type)
 |some (.array _ e)=>some (i*E.sz e,E.sz e)
 |_=>none
def isT(t:TypeId):Bool:=(E.und t).isSome
end
section
variable {E:Env}{h:FHeap}
def e3c:Option Bool→List AV→Option AV
 |some true,cs=>some (.agg cs)
 |some false,cs=>cs.head?
 |none,_=>none
attribute [go_sem] e3c List.head?_cons
@[go_sem] theorem e8s(t:TypeId)(cs:List AV):a39 E t cs=bif decide (cs.length=E.sz t)then e3c (a6w E t) cs else none:=by
 unfold a39 a6w;have e:(cs.length==E.sz t)=decide (cs.length=E.sz t):=by by_cases h:cs.length=E.sz t<;>simp[h]
 rw[e];cases E.und t with
 |none=>cases decide (cs.length=E.sz t)<;>rfl
 |some d=>cases decide (cs.length=E.sz t)<;>simp[e3c]<;>cases a2q d<;>rfl
def fieldAt(E:Env)(p:AV)(o:Nat)(t:TypeId):Option AV:=
 bif decide (E.sz t≠0)&&isT E t then match p with
  |.ptr b i q=>some (.ptr b i (q+o))
  |.iptr cs=>some (.iptr (cs.drop o))
  |_=>none
 else none
attribute [go_sem] fieldAt
@[go_sem] theorem e1u(t:TypeId)(p:AV)(f:Nat):a6x E t p f=a0j (a6l E t f) λx=>fieldAt E p x.1 x.2:=by
 unfold a6x a6l fieldAt isT;cases E.und t with
 |none=>rfl
 |some d=>
  cases d<;>try rfl
  rename_i fs;simp only;cases fs[f]? with
  |none=>rfl
  |some fd=>
   by_cases h:E.sz fd.type=0
   ·simp[h,a0j]
   ·have e:(E.sz fd.type==0)=false:=f9i.2 h;simp[h,e,a0j];rfl
@[go_sem] theorem f2u(t:TypeId)(aq:List (Nat×AV)):b9v E t aq=bif d58 E t then a0j (E.zero t) λz=>a0j (b3v (b2p E t) z aq) λcs=>some (.agg cs)else none:=by
 unfold b9v d58 b2p;cases hz:E.zero t with
 |none=>
  simp only[a0j];cases E.und t with
  |none=>rfl
  |some d=>cases d<;>simp
 |some z=>
  cases hu:E.und t with
  |none=>rfl
  |some d=>
   cases d<;>try rfl
   ·simp only[a0j];split<;>simp_all<;>split<;>simp_all<;>rfl
   ·simp only[a0j];split<;>simp_all<;>split<;>simp_all<;>rfl
end
/-! ### values -/
section
variable {E:Env}{h:FHeap}{t:TypeId}{k:IntKind}{a b:Int}{p q:Bool}{c:Bool}
theorem ikb(k:IntKind):(k==k)=true:=by cases k<;>rfl
@[go_sem] theorem e0e:a6n E .add t (.int k a) (.int k b) c=some (.int k (k.wrap (a+b))):=by simp only[a6n,ikb,c26,f6g]
@[go_sem] theorem f2w:a6n E .sub t (.int k a) (.int k b) c=some (.int k (k.wrap (a-b))):=by simp only[a6n,ikb,c26,f6g]
@[go_sem] theorem f2z:a6n E .mul t (.int k a) (.int k b) c=some (.int k (k.wrap (a*b))):=by simp only[a6n,ikb,c26,f6g]
@[go_sem] theorem f2x(hb:(b=0)=False):a6n E .quo t (.int k a) (.int k b) c=some (.int k (k.wrap (a.tdiv b))):=by
 have:(b==0)=false:=by rw[f9i];exact λe=>hb▸e
 simp only[a6n,ikb,c26,f6g,this,f7z]
@[go_sem] theorem e0b(hb:(b=0)=False):a6n E .rem t (.int k a) (.int k b) c=some (.int k (a.tmod b)):=by
 have:(b==0)=false:=by rw[f9i];exact λe=>hb▸e
 simp only[a6n,ikb,c26,f6g,this,f7z]
def f5o(k:IntKind)(a b:Int):Int:=k.wrap (BitVec.ofInt k.bits a&&&BitVec.ofInt k.bits b).toNat
def ior(k:IntKind)(a b:Int):Int:=k.wrap (BitVec.ofInt k.bits a|||BitVec.ofInt k.bits b).toNat
def f5h(k:IntKind)(a b:Int):Int:=k.wrap (BitVec.ofInt k.bits a^^^BitVec.ofInt k.bits b).toNat
def c62(k:IntKind)(a b:Int):Int:=k.wrap (BitVec.ofInt k.bits a &&& ~~~ BitVec.ofInt k.bits b).toNat
def f5j(k:IntKind)(a b:Int):Int:=k.wrap (a*2^(min b.toNat k.bits))
def f5i(k:IntKind)(a b:Int):Int:=a.fdiv (2^(min b.toNat k.bits))
def f9a(k:IntKind)(a:Int):Int:=k.wrap (BitVec.ofInt k.bits (if k.signed then -1 else k.max)^^^BitVec.ofInt k.bits a).toNat
@[go_sem] theorem e0d:a6n E .and t (.int k a) (.int k b) c=some (.int k (f5o k a b)):=by simp only[a6n,ikb,c26,f6g,f5o]
@[go_sem] theorem e6d:a6n E .or t (.int k a) (.int k b) c=some (.int k (ior k a b)):=by simp only[a6n,ikb,c26,f6g,ior]
@[go_sem] theorem f2v:a6n E .xor t (.int k a) (.int k b) c=some (.int k (f5h k a b)):=by simp only[a6n,ikb,c26,f6g,f5h]
@[go_sem] theorem c6q:a6n E .andNot t (.int k a) (.int k b) c=some (.int k (c62 k a b)):=by simp only[a6n,ikb,c26,f6g,c62]
@[go_sem] theorem e0a{k':IntKind}(hb:(b<0)=False):a6n E .shl t (.int k a) (.int k' b) c=some (.int k (f5j k a b)):=by
 have:decide (b<0)=false:=by rw[g11];exact λe=>hb▸e
 simp only[a6n,this,f7z,f5j]
@[go_sem] theorem e09{k':IntKind}(hb:(b<0)=False):a6n E .shr t (.int k a) (.int k' b) c=some (.int k (f5i k a b)):=by
 have:decide (b<0)=false:=by rw[g11];exact λe=>hb▸e
 simp only[a6n,this,f7z,f5i]
theorem g0d(a b:Int):(a==b)=decide (a=b):=by
 by_cases h:a=b
 ·subst h;simp
 ·rw[f9i.2 h,f9e h]
@[go_sem] theorem e0c:a6n E .eql t (.int k a) (.int k b) c=some (.bool (decide (a=b))):=by simp only[a6n,ikb,c26,f6g,g0d]
@[go_sem] theorem f2y:a6n E .neq t (.int k a) (.int k b) c=some (.bool (!decide (a=b))):=by simp only[a6n,ikb,c26,f6g,bne,g0d]
@[go_sem] theorem f3a:a6n E .lss t (.int k a) (.int k b) c=some (.bool (decide (a<b))):=by simp only[a6n,ikb,c26,f6g]
@[go_sem] theorem f3b:a6n E .leq t (.int k a) (.int k b) c=some (.bool (decide (a≤b))):=by simp only[a6n,ikb,c26,f6g]
@[go_sem] theorem f3c:a6n E .gtr t (.int k a) (.int k b) c=some (.bool (decide (b<a))):=by simp only[a6n,ikb,c26,f6g]
@[go_sem] theorem f3d:a6n E .geq t (.int k a) (.int k b) c=some (.bool (decide (b≤a))):=by simp only[a6n,ikb,c26,f6g]
@[go_sem] theorem g5r(b:Bool):(b==b)=true:=by cases b<;>rfl
@[go_sem] theorem f0e(ht:E.und t=some .bool):a6n E .neq t (.bool p) (.bool q) c=some (.bool (!(p==q))):=by simp[a6n,AV.eqShape,aeq,ht]
@[go_sem] theorem f7b:aun .not (.bool p)=some (.bool (!p)):=by rfl
@[go_sem] theorem e5l:aun .neg (.int k a)=some (.int k (k.wrap (0-a))):=by rfl
@[go_sem] theorem e5k:aun .xor (.int k a)=some (.int k (f9a k a)):=by rfl
@[go_sem] theorem e7r(o:Option AObj)(r:a03):a01 (o::r) 0=o:=by simp[a01]
@[go_sem] theorem e7s(o:Option AObj)(r:a03)(n:Nat):a01 (o::r) (n+1)=a01 r n:=by simp[a01]
@[go_sem] theorem f0h(n:Nat):a01 [] n=none:=by rfl
def slT(E:Env)(t:TypeId):Option TypeId:=match E.und t with|some (.slice e)=>some e|_=>none
theorem a3w{e:TypeId}:slT E t=some e↔E.und t=some (.slice e):=by
 unfold slT;constructor
 ·intro h;split at h
  ·rename_i dy;cases h;exact dy
  ·cases h
 ·intro h;rw[h]
def b0d:Option AObj→Option (Nat×List (List AV))
 |some (.row k aa)=>some (k,aa)
 |_=>none
attribute [go_sem] b0d
def rowAt(aa:List (List AV))(i:Int):Option (List AV):=if 0≤i then aa[i.toNat]? else none
@[go_sem] theorem rowAt_nat(aa:List (List AV))(n:Nat):rowAt aa (n:Int)=aa[n]?:=by simp[rowAt]
theorem d1x{aa:List (List AV)}{i:Int}(h:0≤i):rowAt aa i=aa[i.toNat]?:=by simp[rowAt,h]
def inR(i:Int)(n:Nat):Bool:=decide (0≤i)&&decide (i<n)
@[go_sem] theorem c5z(j n:Nat):inR (j:Int) n=decide (j<n):=by
 unfold inR;rw[f8b (by omega:(0:Int)≤j),f9p];by_cases h:j<n
 ·rw[f8b h,f8b (by omega)]
 ·rw[f9e h,f9e (by omega)]
theorem c1x{i:Int}{n:Nat}:d0q (.int k i) n=bif inR i n then some i.toNat else none:=rfl
@[go_sem] theorem e7n{b o n:Nat}{cp:Option Nat}(hs:(slT E t).isSome=true):c4t E h t (.slice b o n cp)=some (.int .i64 n):=by obtain⟨e,he⟩:=f4k.1 hs;simp only[c4t,a3w.1 he]
@[go_sem] theorem e62{aa:List (List AV)}{cp:Option Nat}(hs:(slT E t).isSome=true):c4t E h t (.islice aa cp)=some (.int .i64 aa.length):=by obtain⟨e,he⟩:=f4k.1 hs;simp only[c4t,a3w.1 he]
@[go_sem] theorem f2q(hs:(slT E t).isSome=true):c4t E h t .nilslice=some (.int .i64 0):=by obtain⟨e,he⟩:=f4k.1 hs;simp only[c4t,a3w.1 he]
@[go_sem] theorem e68{aa:List (List AV)}{c:Nat}(hs:(slT E t).isSome=true):e05 E t (.islice aa (some c))=some (.int .i64 c):=by obtain⟨e,he⟩:=f4k.1 hs;simp only[e05,a3w.1 he]
@[go_sem] theorem f2t(hs:(slT E t).isSome=true):e05 E t .nilslice=some (.int .i64 0):=by obtain⟨e,he⟩:=f4k.1 hs;simp only[e05,a3w.1 he]
def b81(E:Env)(e:Option TypeId)(r:Option (List AV)):Option AV:=match e,r with
 |some e,some r=>bif isT E e&&decide (r.length=E.sz e)then some (.iptr r)else none
 |_,_=>none
attribute [go_sem] b81
theorem c8h(a b:Nat):(a==b)=decide (a=b):=by
 by_cases h:a=b
 ·subst h;simp
 ·rw[f9i.2 h,f9e h]
@[go_sem] theorem b6l{aa:List (List AV)}{cp:Option Nat}{i:Int}:a10 E h t (.islice aa cp) (.int k i)=match slT E t with|some e=>b81 E (some e) (rowAt aa i)|none=>a10 E h t (.islice aa cp) (.int k i):=by
 cases hs:slT E t with
 |none=>rfl
 |some e=>
  have hu:=a3w.1 hs;simp only[a10,hu,c1x,inR,b81,isT];by_cases h0:0≤i
  ·rw[f8b h0,d1x h0];by_cases h1:i<aa.length
   ·rw[f8b h1];have:i.toNat<aa.length:=by omega
    simp only[z9e this,f9v,f6g,c8h];cases(E.und e).isSome<;>rfl
   ·rw[f9e h1];rw[f6h (by omega)];simp
  ·simp[h0,rowAt]
def f5m(E:Env)(e:Option TypeId)(ok:Bool)(r:Option (Nat×List (List AV)))(b j:Nat):Option AV:=match e,r with
 |some e,some r=>bif isT E e&&ok&&decide (r.1=E.sz e)then some (.ptr b j 0)else none
 |_,_=>none
attribute [go_sem] f5m Int.toNat_natCast
@[go_sem] theorem e79{b o n:Nat}{cp:Option Nat}{i:Int}:a10 E h t (.slice b o n cp) (.int k i)=match slT E t with|some e=>f5m E (some e) (inR i n) (b0d (h b)) b (o+i.toNat)|none=>a10 E h t (.slice b o n cp) (.int k i):=by
 cases hs:slT E t with
 |none=>rfl
 |some e=>
  have hu:=a3w.1 hs;simp only[a10,hu,c1x,f5m,isT];cases hb:h b with
  |none=>cases inR i n<;>simp[b0d]
  |some o=>cases o<;>cases inR i n<;>simp[b0d,c8h];cases(E.und e).isSome<;>simp
def c6k(E:Env)(t:TypeId):Option (Nat×TypeId):=match E.und t with|some (.array m e)=>some (m,e)|_=>none
theorem d9t{m:Nat}{e:TypeId}:c6k E t=some (m,e)→E.und t=some (.array m e):=by
 unfold c6k;intro h;split at h
 ·rename_i dy;cases h;exact dy
 ·cases h
def b99(E:Env)(n:Nat)(e:TypeId)(p:AV)(j:Int):Option AV:=
 bif inR j n&&isT E e then match p with
  |.ptr b i o=>some (.ptr b i (o+j.toNat*E.sz e))
  |.iptr cs=>some (.iptr (cs.drop (j.toNat*E.sz e)))
  |_=>none
 else none
@[go_sem] theorem e78(n:Nat)(e:TypeId)(b i o:Nat)(j:Int):b99 E n e (.ptr b i o) j=bif inR j n&&isT E e then some (.ptr b i (o+j.toNat*E.sz e))else none:=by rfl
@[go_sem] theorem e4a(n:Nat)(e:TypeId)(cs:List AV)(j:Int):b99 E n e (.iptr cs) j=bif inR j n&&isT E e then some (.iptr (cs.drop (j.toNat*E.sz e)))else none:=by rfl
theorem c7p{n:Nat}{e:TypeId}{p:AV}{j:Int}(hu:c6k E t=some (n,e)):a10 E h t p (.int k j)=b99 E n e p j:=by
 simp only[a10,d9t hu,c1x,b99,isT];cases inR j n with
 |false=>rfl
 |true=>simp only[f6g,f9p];cases(E.und e).isSome<;>cases p<;>rfl
@[go_sem] theorem f1z{b i o:Nat}{j:Int}:a10 E h t (.ptr b i o) (.int k j)=match c6k E t with|some (n,e)=>b99 E n e (.ptr b i o) j|none=>a10 E h t (.ptr b i o) (.int k j):=by
 cases hu:c6k E t with
 |none=>rfl
 |some x=>exact c7p hu
@[go_sem] theorem e98{cs:List AV}{j:Int}:a10 E h t (.iptr cs) (.int k j)=match c6k E t with|some (n,e)=>b99 E n e (.iptr cs) j|none=>a10 E h t (.iptr cs) (.int k j):=by
 cases hu:c6k E t with
 |none=>rfl
 |some x=>exact c7p hu
@[go_sem] theorem g22(n:Nat):inR 0 n=decide (0<n):=c5z 0 n
@[go_sem] theorem f3m:Int.toNat 0=0:=by rfl
@[go_sem] theorem g21(n:Nat):inR 1 n=decide (1<n):=c5z 1 n
@[go_sem] theorem f3l:Int.toNat 1=1:=by rfl
@[go_sem] theorem g20(n:Nat):inR 2 n=decide (2<n):=c5z 2 n
@[go_sem] theorem f3k:Int.toNat 2=2:=by rfl
@[go_sem] theorem e7m{cs:List AV}:a7l E h t (.iptr cs)=a39 E t (cs.take (E.sz t)):=by rfl
@[go_sem] theorem f0c{b i o:Nat}:a7l E h t (.ptr b i o)=a0j (b0d (h b)) λkr=>a0j (kr.2[i]?) λr=>a39 E t ((r.drop o).take (E.sz t)):=by
 unfold a7l;cases hb:h b with
 |none=>simp only[hb];rfl
 |some ob=>cases ob<;>simp only[hb,b0d,a0j];rename_i aa;cases aa[i]?<;>rfl
@[go_sem] theorem e7h{b i o:Nat}{x:AV}:a9c E h t (.ptr b i o) x=a0j (b0d (h b)) λkr=>a0j (kr.2[i]?) λr=>
 bif decide (x.cells.length=E.sz t)&&isT E t&&Nat.ble (o+x.cells.length) r.length&&x.cells.all AV.storable then some (.set b (.row kr.1 (kr.2.set i (splice r o x.cells))))else none:=by
 unfold a9c;cases hb:h b with
 |none=>simp only[hb];rfl
 |some ob=>cases ob<;>simp only[hb,b0d,a0j];rename_i aa;cases aa[i]?<;>simp only[isT,c8h]
@[go_sem] theorem g0e{n:Nat}:e5z E n t=a0j (E.zero t) λz=>bif decide (0<z.length)then some (.ptr n 0 0,.new (.row z.length [z]))else none:=by
 unfold e5z;cases E.zero t with
 |none=>rfl
 |some z=>simp only[a0j];cases z<;>rfl
@[go_sem] theorem g0f{n:Nat}{x:AV}:e6b n x=bif !x.isJunk&&decide (0<x.cells.length)then some (.ptr n 0 0,.new (.row x.cells.length [x.cells]))else none:=by
 have e:Nat.blt 0 x.cells.length=decide (0<x.cells.length):=by rw[f9r];simp[f8f]
 cases x<;>simp only[e6b,e,AV.isJunk,Bool.not_false,f9p,g17,Bool.false_and,f7z]
theorem d67(a b:Nat):Nat.ble a b=decide (a≤b):=by rw[f9r];simp[g0h]
theorem d0m(a b:Nat):Nat.blt a b=decide (a<b):=by rw[f9r];simp[f8f]
attribute [go_sem] d67 d0m
@[go_sem] theorem f0u(r:List AV)(o:Nat)(cs:List AV):splice r o cs=r.take o++cs++r.drop (o+cs.length):=by rfl
def d2q(E:Env)(e:TypeId)(l c:Int):Bool:=decide (0≤l)&&decide (l≤c)&&decide (c≤281474976710656)&&decide ((E.bytes e:Int)*c≤281474976710656)
@[go_sem] theorem e1t{n:Nat}{k':IntKind}{l c:Int}:a51 E n t (.int k l) (.int k' c)=a0j (slT E t) λe=>a0j (E.zero e) λz=>bif d2q E e l c&&decide (0<z.length)then
 some (AV.slice n 0 l.toNat (some c.toNat),Eff.new (.row z.length (List.replicate c.toNat z)))else none:=by
 cases hs:slT E t with
 |none=>
  unfold a51;unfold slT at hs;cases hu:E.und t with
  |none=>rfl
  |some d=>cases d<;>first|rfl|(rw[hu]at hs;cases hs)
 |some e=>have hu:=a3w.1 hs;simp only[a51,hu,a0j,d2q,d0m];cases E.zero e<;>rfl
theorem a8t{e:TypeId}{m:Nat}(h:m≤1000000000)(hb:E.bytes e≤1000):d2q E e (m:Int) (m:Int)=true:=by
 unfold d2q;have h1:E.bytes e*m≤1000*1000000000:=Nat.mul_le_mul hb h;have h2:((E.bytes e:Int)*(m:Int))=((E.bytes e*m:Nat):Int):=by simp
 rw[h2];simp only[d14,f4p];omega
@[go_sem] theorem e06{n m:Nat}{ps:List (Nat×AV)}:a47 E n t m ps=a0j (slT E t) λe=>a0j (E.zero e) λz=>bif decide (0<z.length)&&decide (m*z.length≤16777216)then
 a0j (b7m z.length (List.replicate m z) ps) λaa=>some (AV.slice n 0 m (some m),Eff.new (.row z.length aa))else none:=by
 cases hs:slT E t with
 |none=>
  unfold a47;unfold slT at hs;cases hu:E.und t with
  |none=>rfl
  |some d=>cases d<;>first|rfl|(rw[hu]at hs;cases hs)
 |some e=>
  have hu:=a3w.1 hs;simp only[a47,hu,a0j];cases E.zero e with
  |none=>rfl
  |some z=>
   simp only[d0m,d67];cases decide (0<z.length)&&decide (m*z.length≤16777216)with
   |false=>rfl
   |true=>simp only[f6g];cases b7m z.length (List.replicate m z) ps<;>rfl
@[go_sem] theorem f08(m:Nat)(aa:List (List AV)):b7m m aa []=some aa:=by rfl
@[go_sem] theorem e7k(m:Nat)(aa:List (List AV))(i:Nat)(v:AV)(r:List (Nat×AV)):b7m m aa ((i,v)::r)=bif !v.isJunk&&decide (v.cells.length=m)&&decide (i<aa.length)then b7m m (aa.set i v.cells) r else none:=by simp only[b7m,c8h,d0m]
@[go_sem] theorem f0d(pl:Nat→Option (Nat×Nat))(cs:List AV):b3v pl cs []=some cs:=by rfl
@[go_sem] theorem e7o(pl:Nat→Option (Nat×Nat))(cs:List AV)(i:Nat)(v:AV)(r:List (Nat×AV)):b3v pl cs ((i,v)::r)=a0j (pl i) λx=>bif !v.isJunk&&decide (v.cells.length=x.2)&&decide (x.1+x.2≤cs.length)then b3v pl (splice cs x.1 v.cells) r else none:=by
 simp only[b3v];cases pl i with
 |none=>rfl
 |some x=>simp only[a0j,c8h,d67]
@[go_sem] theorem f2i{H:a03}{o:AObj}:b1i H (.new o)=H++[some o]:=by rfl
@[go_sem] theorem f2h{H:a03}{b:Nat}{o:AObj}:b1i H (.set b o)=H.set b (some o):=by rfl
@[go_sem] theorem e9m{H:a03}{b:Nat}{o:AObj}:b1i H (.kill b o)=H.set b none++[some o]:=by rfl
@[go_sem] theorem f2f{n:Nat}{o:AObj}:Eff.fits n (.new o)=true:=by rfl
@[go_sem] theorem f2e{n b:Nat}{o:AObj}:Eff.fits n (.set b o)=decide (b<n):=d0m b n
@[go_sem] theorem e9g{n b:Nat}{o:AObj}:Eff.fits n (.kill b o)=decide (b<n):=d0m b n
attribute [go_sem] List.all_cons List.all_nil List.set_cons_zero List.set_cons_succ List.set_nil List.replicate_zero
end
@[go_sem] theorem e7g(b:Bool):AV.cells (.bool b)=[(AV.bool b)]:=by rfl
@[go_sem] theorem d6n(b:Bool):AV.storable (.bool b)=true:=by rfl
@[go_sem] theorem e9v(k:IntKind)(n:Int):AV.cells (.int k n)=[(AV.int k n)]:=by rfl
@[go_sem] theorem e0o(k:IntKind)(n:Int):AV.storable (.int k n)=true:=by rfl
@[go_sem] theorem f1w(k:IntKind)(n:Int):AV.isJunk (.int k n)=false:=by rfl
@[go_sem] theorem e6q(k:IntKind)(n:Int):a0o (.int k n)=[]:=by rfl
@[go_sem] theorem e9t(s:List UInt8):AV.cells (.str s)=[(AV.str s)]:=by rfl
@[go_sem] theorem e0m(s:List UInt8):AV.storable (.str s)=true:=by rfl
@[go_sem] theorem f1u(s:List UInt8):AV.isJunk (.str s)=false:=by rfl
@[go_sem] theorem d66:AV.cells .nilslice=[AV.nilslice]:=by rfl
@[go_sem] theorem c8t:AV.storable .nilslice=true:=by rfl
@[go_sem] theorem d84:AV.isJunk .nilslice=false:=by rfl
@[go_sem] theorem d1c:a0o .nilslice=[]:=by rfl
@[go_sem] theorem e6o(b i o:Nat):a0o (.ptr b i o)=[b]:=by rfl
@[go_sem] theorem e7e(l:List AV):AV.cells (.iptr l)=[(AV.iptr l)]:=by rfl
@[go_sem] theorem e94(l:List AV):AV.isJunk (.iptr l)=false:=by rfl
@[go_sem] theorem e2f(l:List AV):a0o (.iptr l)=[]:=by rfl
@[go_sem] theorem e5c(b o n:Nat)(c:Option Nat):AV.cells (.slice b o n c)=[(AV.slice b o n c)]:=by rfl
@[go_sem] theorem d62(b o n:Nat)(c:Option Nat):AV.storable (.slice b o n c)=true:=by rfl
@[go_sem] theorem e76(b o n:Nat)(c:Option Nat):AV.isJunk (.slice b o n c)=false:=by rfl
@[go_sem] theorem e0k(b o n:Nat)(c:Option Nat):a0o (.slice b o n c)=[b]:=by rfl
@[go_sem] theorem e1l(r:List (List AV))(c:Option Nat):AV.cells (.islice r c)=[(AV.islice r c)]:=by rfl
@[go_sem] theorem d1i(r:List (List AV))(c:Option Nat):AV.storable (.islice r c)=true:=by rfl
@[go_sem] theorem e45(r:List (List AV))(c:Option Nat):AV.isJunk (.islice r c)=false:=by rfl
@[go_sem] theorem d6j(r:List (List AV))(c:Option Nat):a0o (.islice r c)=[]:=by rfl
@[go_sem] theorem e9u(b:Nat):AV.cells (.map b)=[(AV.map b)]:=by rfl
@[go_sem] theorem e0n(b:Nat):AV.storable (.map b)=true:=by rfl
@[go_sem] theorem f1v(b:Nat):AV.isJunk (.map b)=false:=by rfl
@[go_sem] theorem e6p(b:Nat):a0o (.map b)=[b]:=by rfl
@[go_sem] theorem e2g(ks vs:List AV)(bs:List Nat)(c:Nat):a0o (.imap ks vs bs c)=[]:=by rfl
@[go_sem] theorem e7f(f:Fn)(a b:List AV):AV.cells (.func f a b)=[(AV.func f a b)]:=by rfl
@[go_sem] theorem d6m(f:Fn)(a b:List AV):AV.storable (.func f a b)=true:=by rfl
@[go_sem] theorem e95(f:Fn)(a b:List AV):AV.isJunk (.func f a b)=false:=by rfl
@[go_sem] theorem e9w(l:List AV):AV.cells (.agg l)=l:=by rfl
@[go_sem] theorem f1x(l:List AV):AV.isJunk (.agg l)=false:=by rfl
@[go_sem] theorem f1s(n:Nat)(o:AObj):Eff.keys n (.new o)=[n]:=by rfl
@[go_sem] theorem f1r(n b:Nat)(o:AObj):Eff.keys n (.set b o)=[b]:=by rfl
@[go_sem] theorem e92(n b:Nat)(o:AObj):Eff.keys n (.kill b o)=[b,n]:=by rfl
@[go_sem] theorem g1i:1+1=2:=by rfl
@[go_sem] theorem g1h:2+1=3:=by rfl
@[go_sem] theorem g1g:3+1=4:=by rfl
@[go_sem] theorem g1f:4+1=5:=by rfl
@[go_sem] theorem g1e:5+1=6:=by rfl
@[go_sem] theorem g1d:6+1=7:=by rfl
@[go_sem] theorem g1c:7+1=8:=by rfl
@[go_sem] theorem g1b:8+1=9:=by rfl
@[go_sem] theorem g1a:9+1=10:=by rfl
@[go_sem] theorem f8x:10+1=11:=by rfl
@[go_sem] theorem f8w:11+1=12:=by rfl
@[go_sem] theorem f8s:2+2=4:=by rfl
@[go_sem] theorem f8r:2+3=5:=by rfl
@[go_sem] theorem f8q:3+2=5:=by rfl
@[go_sem] theorem f8p:3+3=6:=by rfl
@[go_sem] theorem f8v:1+2=3:=by rfl
@[go_sem] theorem f8u:1+3=4:=by rfl
@[go_sem] theorem f8t:1+4=5:=by rfl
@[go_sem] theorem f1a{α:Type}(a:α):List.replicate 1 a=[a]:=by rfl
@[go_sem] theorem f0z{α:Type}(a:α):List.replicate 2 a=[a,a]:=by rfl
@[go_sem] theorem f0y{α:Type}(a:α):List.replicate 3 a=[a,a,a]:=by rfl
attribute [go_sem] List.map_cons List.map_nil List.append_nil List.nil_append List.cons_append List.length_cons List.length_nil a2q cond_true cond_false Option.map_some Option.map_none List.drop_zero List.drop_succ_cons List.take_succ_cons List.take_zero List.drop_nil List.take_nil List.getElem?_cons_zero List.getElem?_cons_succ List.getElem?_nil Nat.zero_add Nat.add_zero Nat.zero_mul Nat.mul_one decide_true decide_false Bool.and_true Bool.true_and Bool.and_false Bool.false_and Bool.or_true Bool.true_or Bool.or_false Bool.false_or Bool.not_true Bool.not_false Option.bind_some Option.isSome_some a3m decide_eq_true_eq
end Go.Ax
/- AxFlat: values that refer to no mutable block: renaming and freezing leave them; calls on them. -/
namespace Go.Ax
mutual
theorem a14(π:Nat→Option Nat):∀(v:AV),refs v=[]→ren π v=v
 |.ptr ..,h=>by simp[refs]at h
 |.slice ..,h=>by simp[refs]at h
 |.map ..,h=>by simp[refs]at h
 |.yfn ..,h=>by simp[refs]at h
 |.func fn fs cs,h=>by simp only[refs,List.append_eq_nil_iff]at h;simp only[ren,a86 π fs h.1,a86 π cs h.2]
 |.iface t x,h=>by simp only[refs]at h;simp only[ren,a14 π x h]
 |.agg cs,h=>by simp only[refs]at h;simp only[ren,a86 π cs h]
 |.tuple cs,h=>by simp only[refs]at h;simp only[ren,a86 π cs h]
 |.junk,_|.bool _,_|.int ..,_|.str _,_|.nilptr,_|.nilslice,_|.nilmap,_|.nilfunc,_|.nilifc,_|.iptr _,_|.islice ..,_|.imap ..,_|.iset _,_=>rfl
theorem a86(π:Nat→Option Nat):∀(l:List AV),a0l l=[]→c4w π l=l
 | [],_=>rfl
 |v::vs,h=>by simp only[a0l,List.append_eq_nil_iff]at h;simp only[c4w,a14 π v h.1,a86 π vs h.2]
end
theorem a4n(π:Nat→Option Nat){l:List AV}(h:a0l l=[]):l.map (ren π)=l:=by rw[←a9o];exact a86 π l h
mutual
theorem a43(m:Nat)(top:Bool)(d:AV→Option AV):∀(v:AV),refs v=[]→a4j m top d v=some v
 |.ptr ..,h=>by simp[refs]at h
 |.slice ..,h=>by simp[refs]at h
 |.map ..,h=>by simp[refs]at h
 |.yfn ..,h=>by simp[refs]at h
 |.func fn fs cs,h=>by simp only[refs,List.append_eq_nil_iff]at h;simp only[a4j,a6j m top d fs h.1,a6j m top d cs h.2]
 |.iface t x,h=>by simp only[refs]at h;simp only[a4j,a43 m top d x h]
 |.agg cs,h=>by simp only[refs]at h;simp only[a4j,a6j m top d cs h]
 |.tuple cs,h=>by simp only[refs]at h;simp only[a4j,a6j m top d cs h]
 |.junk,_|.bool _,_|.int ..,_|.str _,_|.nilptr,_|.nilslice,_|.nilmap,_|.nilfunc,_|.nilifc,_|.iptr _,_|.islice ..,_|.imap ..,_|.iset _,_=>rfl
theorem a6j(m:Nat)(top:Bool)(d:AV→Option AV):∀(l:List AV),a0l l=[]→a5t m top d l=some l
 | [],_=>rfl
 |v::vs,h=>by simp only[a0l,List.append_eq_nil_iff]at h;simp only[a5t,a43 m top d v h.1,a6j m top d vs h.2]
end
def FlatR(aa:List (List AV)):Prop:=∀r∈aa,a0l r=[]
theorem FlatR.nil:FlatR []:=λr h=>by simp at h
theorem FlatR.cons{r:List AV}{aa:List (List AV)}(h:a0l r=[])(hs:FlatR aa):FlatR (r::aa):=by
 intro x hx;simp only[f6m]at hx;rcases hx with rfl|hx
 ·exact h
 ·exact hs x hx
theorem FlatR.append{a b:List (List AV)}(h:FlatR a)(k:FlatR b):FlatR (a++b):=by intro x hx;simp only[f8n]at hx;exact hx.elim (h x) (k x)
theorem FlatR.map{α:Type}{f:α→List AV}{l:List α}(h:∀x,a0l (f x)=[]):FlatR (l.map f):=by intro x hx;simp only[g01]at hx;obtain⟨y,_,rfl⟩:=hx;exact h y
theorem FlatR.replicate{n:Nat}{r:List AV}(h:a0l r=[]):FlatR (List.replicate n r):=by intro x hx;rw[(List.mem_replicate.1 hx).2];exact h
theorem a0f{aa:List (List AV)}(h:FlatR aa):aa.flatMap a0l=[]:=by rw[List.flatMap_eq_nil_iff];exact h
theorem a0c(π:Nat→Option Nat){aa:List (List AV)}(h:FlatR aa):aa.map (λr=>r.map (ren π))=aa:=by
 conv=>rhs;rw[←List.map_id aa]
 exact f8e λr hr=>a4n π (h r hr)
theorem a12(m:Nat)(d:AV→Option AV):∀{aa:List (List AV)},FlatR aa→a9g m d aa=some aa
 | [],_=>rfl
 |r::rs,h=>by simp only[a9g,a6j m false d r (h r (by simp)),a12 m d (aa:=rs) (λx hx=>h x (by simp[hx]))]
/-! ### slices that are immutable, nil or not -/
def sl(c:Option (Option Nat))(aa:List (List AV)):AV:=match c,aa with
 |none,[]=>.nilslice
 |none,r::rs=>.islice (r::rs) none
 |some c,aa=>.islice aa c
@[go_sem] theorem b0v(c:Option Nat)(aa:List (List AV)):sl (some c) aa = .islice aa c:=by cases aa<;>rfl
@[go_sem] theorem c57:sl none [] = .nilslice:=by rfl
@[go_sem] theorem a6c(r:List AV)(rs:List (List AV)):sl none (r::rs) = .islice (r::rs) none:=by rfl
@[go_sem] theorem a2w(c:Option (Option Nat))(aa:List (List AV)):refs (sl c aa)=[]:=by cases c<;>cases aa<;>rfl
@[go_sem] theorem b8h(π:Nat→Option Nat)(c:Option (Option Nat))(aa:List (List AV)):ren π (sl c aa)=sl c aa:=a14 π _ (a2w c aa)
@[go_sem] theorem e83(c:Option (Option Nat))(aa:List (List AV)):a0o (sl c aa)=[]:=by cases c<;>cases aa<;>rfl
@[go_sem] theorem f2l(c:Option (Option Nat))(aa:List (List AV)):(sl c aa).cells=[sl c aa]:=by cases c<;>cases aa<;>rfl
@[go_sem] theorem e2h(c:Option (Option Nat))(aa:List (List AV)):(sl c aa).storable=true:=by cases c<;>cases aa<;>rfl
@[go_sem] theorem f5g(c:Option (Option Nat))(aa:List (List AV)):(sl c aa).isJunk=false:=by cases c<;>cases aa<;>rfl
section
variable {E:Env}{h:FHeap}{t e:TypeId}{c:Option (Option Nat)}{aa:List (List AV)}{k:IntKind}
@[go_sem] theorem f7g(hs:(slT E t).isSome=true):c4t E h t (sl c aa)=some (.int .i64 aa.length):=by obtain⟨e,he⟩:=f4k.1 hs;have ht:=a3w.1 he;cases c<;>cases aa<;>simp[sl,c4t,ht]
@[go_sem] theorem f5n{i:Int}:a10 E h t (sl c aa) (.int k i)=match slT E t with|some e=>b81 E (some e) (rowAt aa i)|none=>a10 E h t (sl c aa) (.int k i):=by
 cases c with
 |some c=>rw[b0v];exact b6l
 |none=>cases aa with
  |nil=>
   cases hs:slT E t with
   |none=>rfl
   |some e=>
    have hu:=a3w.1 hs;simp only[sl,a10,hu,b81];cases h2:rowAt [] i with
    |none=>simp
    |some r=>unfold rowAt at h2;split at h2<;>simp at h2
  |cons a l=>exact b6l
end
/-! ### calls -/
@[go_sem] theorem f6v(a:AV):a5u 0 [a]=[(0,a)]:=by rfl
@[go_sem] theorem f6u(a b:AV):a5u 0 [a,b]=[(0,a),(1,b)]:=by rfl
@[go_sem] theorem f6t(a b c:AV):a5u 0 [a,b,c]=[(0,a),(1,b),(2,c)]:=by rfl
@[go_sem] theorem f6s(a b c d:AV):a5u 0 [a,b,c,d]=[(0,a),(1,b),(2,c),(3,d)]:=by rfl
@[go_sem] theorem f6r(a b c d e:AV):a5u 0 [a,b,c,d,e]=[(0,a),(1,b),(2,c),(3,d),(4,e)]:=by rfl
theorem b5r(n:Nat)(H1:a03):∀(b:Nat) (H:a03),a1d [] n H1 b H=H
 |_,[]=>rfl
 |b,o::r=>by simp only[a1d,List.idxOf?_nil,b5r n H1 (b+1) r]
theorem c4c{run:List AV→a03→Option (AV×a03)}{args:List AV}{H:a03}{v:AV}(ha:a0l args=[])(h:run args []=some (v,[]))(hv:refs v=[]):a3j run args H=some (v,H,[]):=by
 unfold a3j;have hr:a3g H a6f (a0l args) []=[]:=by rw[ha];rfl
 simp only[hr,a6g,List.all_nil,f9v,f6g,a4n _ ha,a5a,f4h,h,a14 _ v hv,b5r,List.drop_nil,f4g,f4o]
theorem a04{E:Env}{ag:Bool}{call:CallF}{g:FuncId}{fs cs ar args:List AV}{H:a03}{v:AV}(hx:E.ext g=false)(hf:(E.fn g).isSome=true)(he:fs++ar++cs=args)(ha:a0l args=[])(h:call g args []=some (v,[]))(hv:refs v=[]) :
 a0b E ag call (.func (.func g) fs cs) ar H=some (v,H,[]):=by
 simp only[a0b,hx,hf,he,f6g,f7z,c4c ha h hv];cases ag
 ·rfl
 ·simp only[f9p];rw[show Nat.ble H.length H.length=true by rw[g0h];exact f6l _];rfl
@[go_sem] theorem b4t(k:IntKind)(n:Int):refs (.int k n)=[]:=by rfl
@[go_sem] theorem e8j(b:Bool):refs (.bool b)=[]:=by rfl
@[go_sem] theorem f1g(s:List UInt8):refs (.str s)=[]:=by rfl
@[go_sem] theorem b10(r:List (List AV))(c:Option Nat):refs (.islice r c)=[]:=by rfl
@[go_sem] theorem d22(r:List AV):refs (.iptr r)=[]:=by rfl
@[go_sem] theorem c0g:refs .nilslice=[]:=by rfl
@[go_sem] theorem a11(l:List AV):refs (.agg l)=a0l l:=by rfl
@[go_sem] theorem a4a(l:List AV):refs (.tuple l)=a0l l:=by rfl
@[go_sem] theorem e8i(f:Fn)(a b:List AV):refs (.func f a b)=a0l a++a0l b:=by rfl
@[go_sem] theorem d71(b i o:Nat):refs (.ptr b i o)=[b]:=by rfl
@[go_sem] theorem a87(b i o:Nat)(c:Option Nat):refs (.slice b i o c)=[b]:=by rfl
@[go_sem] theorem f1h(b:Nat):refs (.map b)=[b]:=by rfl
@[go_sem] theorem a1u:a0l []=[]:=by rfl
@[go_sem] theorem a07(v:AV)(l:List AV):a0l (v::l)=refs v++a0l l:=by rfl
/-! ### what a loop's head keeps -/
/-! ### globals -/
def gV:Option (List AV)→AV|some cs=>.iptr cs|none=>.junk
@[go_sem] theorem f1j{E:Env}{F:Frm}(g:Nat):opv E F (.global g)=gV (E.G g):=by simp only[opv,gV];cases E.G g<;>rfl
@[go_sem] theorem f5q(cs:List AV):gV (some cs) = .iptr cs:=by rfl
end Go.Ax
/- AxBits: words of 64 bits; sums that fit. -/
namespace Go.Ax
def u64(x:BitVec 64):AV:=.int .u64 (x.toNat:Int)
section
variable {E:Env}{t:TypeId}{c:Bool}{x y:BitVec 64}{k:IntKind}
theorem b1k(x:BitVec 64):IntKind.u64.wrap (x.toNat:Int)=x.toNat:=by have:=x.isLt;exact IntWalk.u64_in _ ⟨by omega,by omega⟩
theorem a75(x:BitVec 64):BitVec.ofInt 64 (x.toNat:Int)=x:=by apply BitVec.eq_of_toNat_eq;simp
@[go_sem] theorem f7e:a6n E .and t (u64 x) (u64 y) c=some (u64 (x&&&y)):=by have h1:=a75 x;have h2:=a75 y;simp only[u64,e0d,f5o,IntKind.bits,h1,h2,b1k];rfl
@[go_sem] theorem f8o:a6n E .or t (u64 x) (u64 y) c=some (u64 (x|||y)):=by have h1:=a75 x;have h2:=a75 y;simp only[u64,e6d,ior,IntKind.bits,h1,h2,b1k];rfl
@[go_sem] theorem e7l:a6n E .andNot t (u64 x) (u64 y) c=some (u64 (x &&& ~~~y)):=by have h1:=a75 x;have h2:=a75 y;simp only[u64,c6q,c62,IntKind.bits,h1,h2,b1k];rfl
@[go_sem] theorem f6q:a6n E .eql t (u64 x) (u64 y) c=some (.bool (decide (x=y))):=by
 simp only[u64,e0c]
 congr 2
 have:((x.toNat:Int)=(y.toNat:Int))↔x=y:=⟨λh=>BitVec.eq_of_toNat_eq (by omega),λh=>by rw[h]⟩
 simp only[this]
theorem b57(n:Int):IntKind.u64.wrap n=n%18446744073709551616:=by simp[IntKind.wrap,IntKind.bits,IntKind.signed]
@[go_sem] theorem f7j:a6n E .add t (u64 x) (u64 y) c=some (u64 (x+y)):=by
 simp only[u64,e0e,b57,BitVec.toNat_add]
 congr 2
@[go_sem] theorem f5a:aun .neg (u64 x)=some (u64 (-x)):=by
 have hx:=x.isLt;simp only[u64,e5l,b57,BitVec.toNat_neg]
 congr 2
 omega
@[go_sem] theorem f4y:aun .xor (u64 x)=some (u64 (~~~x)):=by
 have h1:=a75 x;have e:BitVec.ofInt 64 (if IntKind.u64.signed then -1 else IntKind.u64.max)=BitVec.allOnes 64:=by decide
 simp only[u64,e5k,f9a];rw[show BitVec.ofInt IntKind.u64.bits (if IntKind.u64.signed then -1 else IntKind.u64.max)=BitVec.allOnes 64 from e,show BitVec.ofInt IntKind.u64.bits (x.toNat:Int)=x from h1];have e2:((BitVec.allOnes 64:BitVec 64)^^^x) = ~~~x:=BitVec.allOnes_xor;exact congrArg (λz:BitVec 64=>some (AV.int IntKind.u64 (z.toNat:Int))) e2▸congrArg (λz=>some (AV.int IntKind.u64 z)) (b1k (BitVec.allOnes 64^^^x))
theorem e50(m n:Nat)(h:m<2^64):m/2^(min n 64)=m/2^n:=by
 by_cases hn:n≤64
 ·rw[Nat.min_eq_left hn]
 ·rw[Nat.min_eq_right (by omega),Nat.div_eq_of_lt h,Nat.div_eq_of_lt (g1t h (Nat.pow_le_pow_right (by omega) (by omega)))]
@[go_sem] theorem e2p{k':IntKind}{b:Int}(hb:(b<0)=False):a6n E .shr t (u64 x) (.int k' b) c=some (u64 (x>>>b.toNat)):=by
 have hx:=x.isLt;simp only[u64,e09 hb,f5i,IntKind.bits]
 congr 2
 rw[BitVec.toNat_ushiftRight,Nat.shiftRight_eq_div_pow,←e50 x.toNat b.toNat hx,Int.fdiv_eq_ediv_of_nonneg _ (Int.pow_nonneg (by decide)),Int.natCast_ediv,Int.natCast_pow];rfl
@[go_sem] theorem f0v:a6n E .shr t (u64 x) (u64 y) c=some (u64 (x>>>y.toNat)):=by rw[show u64 y = .int .u64 (y.toNat:Int)from rfl,e2p (eq_false (by omega))];simp
theorem e3p(m n:Nat):m*2^(min n 64)%18446744073709551616=m*2^n%18446744073709551616:=by
 by_cases hn:n≤64
 ·rw[Nat.min_eq_left hn]
 ·rw[Nat.min_eq_right (by omega)];have:2^n=2^64*2^(n-64):=by rw[←Nat.pow_add];congr 1;omega
  rw[this,show(18446744073709551616:Nat)=2^64 by decide,Nat.mul_mod_left,Nat.mul_left_comm,Nat.mul_mod_right]
@[go_sem] theorem f3v{k':IntKind}{b:Int}(hb:(b<0)=False):a6n E .shl t (u64 x) (.int k' b) c=some (u64 (x<<<b.toNat)):=by
 simp only[u64,e0a hb,f5j,IntKind.bits,b57]
 congr 2
 rw[BitVec.toNat_shiftLeft,Nat.shiftLeft_eq,show(2:Nat)^64=18446744073709551616 by decide,←e3p];rw[Int.natCast_emod,Int.natCast_mul,Int.natCast_pow];rfl
theorem e80{y:BitVec 64}(hy:(y=0)=False):(((y.toNat:Int))=0)=False:=by apply eq_false;intro h;have:y=0:=BitVec.eq_of_toNat_eq (by simpa using h);exact hy▸this
@[go_sem] theorem f4d(hy:(y=0)=False):a6n E .rem t (u64 x) (u64 y) c=some (u64 (x%y)):=by
 simp only[u64,e0b (e80 hy),BitVec.toNat_umod]
 congr 2
@[go_sem] theorem f7n{n:Int}(h0:(0≤n)=True)(h1:(n<18446744073709551616)=True):AV.int .u64 n=u64 (BitVec.ofInt 64 n):=by
 have h0:0≤n:=g06 h0;have h1:n<18446744073709551616:=g06 h1;unfold u64
 congr 1
 rw[BitVec.toNat_ofInt];omega
@[go_sem] theorem f1f:refs (u64 x)=[]:=by rfl
@[go_sem] theorem e9s:(u64 x).cells=[u64 x]:=by rfl
@[go_sem] theorem e0l:(u64 x).storable=true:=by rfl
@[go_sem] theorem f1t:(u64 x).isJunk=false:=by rfl
@[go_sem] theorem e6n:a0o (u64 x)=[]:=by rfl
@[go_sem] theorem f3z(π:Nat→Option Nat):ren π (u64 x)=u64 x:=by rfl
def c9q(E:Env)(t:TypeId):Option IntKind:=match E.und t with|some (.int k)=>some k|_=>none
theorem c7k{k:IntKind}:c9q E t=some k→E.und t=some (.int k):=by
 unfold c9q;intro h;split at h
 ·rename_i dy;cases h;exact dy
 ·cases h
def cvI(k:IntKind)(n:Int):AV:=.int k (k.wrap n)
@[go_sem] theorem f6z(n:Int):cvI .i64 n = .int .i64 (IntKind.i64.wrap n):=by rfl
@[go_sem] theorem g0b(n:Int):cvI .u8 n = .int .u8 (IntKind.u8.wrap n):=by rfl
@[go_sem] theorem d99{h:FHeap}{s d:TypeId}{k:IntKind}{n:Int}(hs:isT E s=true):a7e E h s d (.int k n)=match c9q E d with|some k'=>some (cvI k' n)|none=>a7e E h s d (.int k n):=by
 cases hd:c9q E d with
 |none=>rfl
 |some k'=>have hu:=c7k hd;obtain⟨ds,mF⟩:=f4k.1 (show(E.und s).isSome=true from hs);simp only[a7e,hu,mF];cases ds<;>simp[e04,hu,mF,cvI]
@[go_sem] theorem f2k{h:FHeap}{s d:TypeId}(hs:isT E s=true):a7e E h s d (u64 x)=match c9q E d with|some k'=>some (cvI k' x.toNat)|none=>a7e E h s d (u64 x):=by unfold u64;exact d99 hs
theorem c8g(w:BitVec 64)(j:Nat):decide (w>>>j&&&BitVec.ofInt 64 1=BitVec.ofInt 64 1)=w.getLsbD j:=by
 have e:BitVec.ofInt 64 1=1#64:=by decide
 rw[e,f9r,f4p];constructor
 ·intro h;have:=congrArg (λz:BitVec 64=>z.getLsbD 0) h;simpa using this
 ·intro h;apply BitVec.eq_of_getLsbD_eq;intro i hi;cases i with
  |zero=>simpa using h
  |succ i=>simp[BitVec.getLsbD_one]
theorem w64{n:Int}(h1:-9223372036854775808≤n)(h2:n≤9223372036854775807):IntKind.i64.wrap n=n:=IntWalk.i64_in n ⟨h1,h2⟩
end
end Go.Ax
/- AxWp: what a statement comes to, by a condition on the end. -/
namespace Go.Ax
@[go_sem] theorem e93(F:Frm):a2c [] F=[]:=by rfl
@[go_sem] theorem e75(s:Nat)(r:List Nat)(F:Frm):a2c (s::r) F=(s,a34 F s)::a2c r F:=by rfl
@[go_sem] theorem a7c{v:AV}{H:a03}(h:refs v=[]):a1f false 0 v H=some (v,[]):=by simp only[a1f,a43 _ _ _ _ h,f6b,f4h,f7z]
@[go_sem] theorem e8o(v:AV):a5q [v]=v:=by rfl
@[go_sem] theorem e8n(v w:AV)(l:List AV):a5q (v::w::l) = .tuple (v::w::l):=by rfl
@[go_sem] theorem f2o{E:Env}{F:Frm}{H:a03}:a1h E F H []=some []:=by rfl
@[go_sem] theorem f2n{E:Env}{F:Frm}{H:a03}(t:Nat)(r:List ResultVar):a1h E F H (.tmp t::r)=a0j (a1h E F H r) λvs=>some (a34 F t::vs):=by simp only[a1h];cases a1h E F H r<;>rfl
@[go_sem] theorem f0a{E:Env}{F:Frm}{H:a03}(a t:Nat)(r:List ResultVar):a1h E F H (.cell a t::r)=a0j (a7l E (a01 H) t (a34 F a)) λv=>a0j (a1h E F H r) λvs=>some (v::vs):=by simp only[a1h];cases a7l E (a01 H) t (a34 F a)<;>cases a1h E F H r<;>rfl
abbrev b2o:=AExit→Frm→a03→Prop
def bk(id:Nat)(Q:b2o):b2o:=λe F H=>match e with|.exit i=>if i=id then Q .normal F H else Q (.exit i) F H|e=>Q e F H
def WpR:Code→Cx→Frm→a03→b2o→Prop
 |.skip,_,F,H,Q=>Q .normal F H
 |.label _,_,F,H,Q=>Q .normal F H
 |.exit id,_,F,H,Q=>Q (.exit id) F H
 |.ret,_,F,H,Q=>Q .ret F H
 |.seq a b,x,F,H,Q=>WpR a x F H λe F H=>match e with|.normal=>WpR b x F H Q|e=>Q e F H
 |.block id b,x,F,H,Q=>WpR b { x with cur:=id } F H (bk id Q)
 |.scope b,x,F,H,Q=>WpR b x F H Q
 |c,x,F,H,Q=>∃e F' H',Ev x c F H (e,F',H')∧Q e F' H'
def Wp(x:Cx)(c:Code)(F:Frm)(H:a03)(Q:b2o):Prop:=WpR c x F H Q
def sq(x:Cx)(b:Code)(Q:b2o):b2o:=λe F H=>match e with|.normal=>Wp x b F H Q|e=>Q e F H
def cx(E:Env)(M:List Fact)(m N:Nat)(g:FuncId)(cur:Nat):Cx:=⟨E,M,m,N,E.keep g,cur⟩
def lp{σ:Type}(m:Nat)(keep:List Nat)(Fs:σ→Frm)(Hs:σ→a03)(cV:σ→Nat)(Inv:σ→Prop)(n:Nat)(Q:b2o):b2o:=λe F H=>match e with|.normal=>∃s,gcD m keep F H=some (Fs s,Hs s)∧cV s<n∧Inv s|e=>Q e F H
def fq(E:Env)(g:FuncId)(m:Nat)(results:List ResultVar)(r:AV×a03):b2o:=λe F H=>match e with|.exit _=>False|_=>∃vs,a1h E F H results=some vs∧a1f (E.thaw g) m (a5q vs) H=some r
def lpJ(m:Nat)(keep:List Nat)(J:Nat→Frm→a03→Prop)(n:Nat)(Q:b2o):b2o:=λe F H=>match e with|.normal=>∃F1 H1 n',gcD m keep F H=some (F1,H1)∧n'<n∧J n' F1 H1|e=>Q e F H
@[irreducible] def e18:AV→Option Bool|.bool b=>some b|_=>none
@[go_sem] theorem f8y:e18 (.bool true)=some true:=by unfold e18;rfl
@[go_sem] theorem f8z:e18 (.bool false)=some false:=by unfold e18;rfl
theorem e3v{v:AV}{t:Bool}(h:e18 v=some t):v = .bool t:=by
 unfold e18 at h;split at h
 ·cases h;rfl
 ·cases h
def hs(E:Env)(M:List Fact)(N:Nat):Code→Frm→a03→Frm→a03→List LogE→Bool→Prop
 |.region id al ag,F,H,F1,H1,log,t=>(a8j E ag N (sem E M) al.toList al.toList [] F H,true)=(some (F1,H1,log),t)
 |.cond c a b,F,H,F1,H1,log,t=>(e18 (opv E F c),F,H,[])=(some t,F1,H1,log)
 |_,_,_,_,_,_,_=>False
def sd:Code→List LogE→Bool
 |.region id al ag,log=>!ag||logOk al.toList log.length log
 |_,_=>true
def ct(x:Cx):Code→Bool→Frm→a03→b2o→Prop
 |.region id al ag,t,F,H,Q=>Q .normal F H
 |.cond c a b,t,F,H,Q=>Wp x (bif t then a else b) F H Q
 |_,_,_,_,_=>False
@[go_sem] theorem g5i(E:Env)(M:List Fact)(N:Nat)(id al ag F H F1 H1 log t):hs E M N (.region id al ag) F H F1 H1 log t=((a8j E ag N (sem E M) al.toList al.toList [] F H,true)=(some (F1,H1,log),t)):=by rfl
@[go_sem] theorem g5j(E:Env)(M:List Fact)(N:Nat)(c a b F H F1 H1 log t):hs E M N (.cond c a b) F H F1 H1 log t=((e18 (opv E F c),F,H,[])=(some t,F1,H1,log)):=by rfl
theorem wx:(∀x id al ag t F H Q,ct x (.region id al ag) t F H Q=Q .normal F H)∧(∀x c a b F H Q,ct x (.cond c a b) true F H Q=Wp x a F H Q)∧(∀x c a b F H Q,ct x (.cond c a b) false F H Q=Wp x b F H Q):=⟨λ_ _ _ _ _ _ _ _=>rfl,λ_ _ _ _ _ _ _=>rfl,λ_ _ _ _ _ _ _=>rfl⟩
theorem ww:(∀x F H Q,Wp x .skip F H Q=Q .normal F H)∧(∀x F H Q l,Wp x (.label l) F H Q=Q .normal F H)∧(∀x F H Q i,Wp x (.exit i) F H Q=Q (.exit i) F H)∧(∀x F H Q,Wp x .ret F H Q=Q .ret F H)∧
 (∀x a b F H Q,Wp x (.seq a b) F H Q=Wp x a F H (sq x b Q))∧(∀E M m N g cur i b F H Q,Wp (cx E M m N g cur) (.block i b) F H Q=Wp (cx E M m N g i) b F H (bk i Q))∧(∀x b F H Q,Wp x (.scope b) F H Q=Wp x b F H Q)∧
 (∀x b F H Q,sq x b Q .normal F H=Wp x b F H Q)∧(∀x b F H Q i,sq x b Q (.exit i) F H=Q (.exit i) F H)∧(∀x b F H Q,sq x b Q .ret F H=Q .ret F H)∧
 (∀i F H Q,bk i Q .normal F H=Q .normal F H)∧(∀i F H Q,bk i Q .ret F H=Q .ret F H)∧(∀i F H Q,bk i Q (.exit i) F H=Q .normal F H)∧(∀i j F H Q,(j=i)=False→bk i Q (.exit j) F H=Q (.exit j) F H)∧
 (∀m keep J n Q i F H,lpJ m keep J n Q (.exit i) F H=Q (.exit i) F H)∧(∀m keep J n Q F H,lpJ m keep J n Q .ret F H=Q .ret F H)∧
 (∀(σ:Type) m keep (Fs:σ→Frm) Hs cV Inv n Q i F H,lp m keep Fs Hs cV Inv n Q (.exit i) F H=Q (.exit i) F H)∧(∀(σ:Type) m keep (Fs:σ→Frm) Hs cV Inv n Q F H,lp m keep Fs Hs cV Inv n Q .ret F H=Q .ret F H)∧
 (∀a b:Code,cond true a b=a)∧(∀a b:Code,cond false a b=b)∧
 (∀x id al ag t F H Q,ct x (.region id al ag) t F H Q=Q .normal F H)∧(∀x c a b F H Q,ct x (.cond c a b) true F H Q=Wp x a F H Q)∧(∀x c a b F H Q,ct x (.cond c a b) false F H Q=Wp x b F H Q):=
 ⟨λ_ _ _ _=>rfl,λ_ _ _ _ _=>rfl,λ_ _ _ _ _=>rfl,λ_ _ _ _=>rfl,λ_ _ _ _ _ _=>rfl,λ_ _ _ _ _ _ _ _ _ _ _=>rfl,λ_ _ _ _ _=>rfl,λ_ _ _ _ _=>rfl,λ_ _ _ _ _ _=>rfl,λ_ _ _ _ _=>rfl,
  λ_ _ _ _=>rfl,λ_ _ _ _=>rfl,λi F H Q=>by simp only[bk,f6e],λi j F H Q h=>by simp only[bk,h,g0z],λ_ _ _ _ _ _ _ _=>rfl,λ_ _ _ _ _ _ _=>rfl,λ_ _ _ _ _ _ _ _ _ _ _ _=>rfl,λ_ _ _ _ _ _ _ _ _ _ _=>rfl,λ_ _=>rfl,λ_ _=>rfl,wx⟩
theorem c8p:∀(c:Code) {x:Cx} {F:Frm} {H:a03} {Q:b2o},Wp x c F H Q→∃e F' H',Ev x c F H (e,F',H')∧Q e F' H':=by
 intro c
 induction c with
 |skip=>intro x F H Q h;exact⟨_,_,_,Ev.skip,h⟩
 |label l=>intro x F H Q h;exact⟨_,_,_,Ev.label,h⟩
 |exit i=>intro x F H Q h;exact⟨_,_,_,Ev.leave,h⟩
 |ret=>intro x F H Q h;exact⟨_,_,_,Ev.ret,h⟩
 |seq a b iha ihb=>
  intro x F H Q h;obtain⟨e,F',H',h1,h2⟩:=iha h;cases e with
  |normal=>obtain⟨e2,F2,H2,h3,h4⟩:=ihb h2;exact⟨e2,F2,H2,Ev.seq h1 h3,h4⟩
  |exit id=>exact⟨_,_,_,Ev.seq_exit h1,h2⟩
  |ret=>exact⟨_,_,_,Ev.seq_ret h1,h2⟩
 |block id b ih=>
  intro x F H Q h;obtain⟨e,F',H',h1,h2⟩:=ih h;cases e with
  |normal=>exact⟨_,_,_,Ev.block h1,h2⟩
  |exit i=>
   by_cases hi:i=id
   ·subst hi;simp only[bk,f6e]at h2;exact⟨_,_,_,Ev.block_exit h1,h2⟩
   ·simp only[bk,f4n hi]at h2;exact⟨_,_,_,Ev.block_on h1 (by simpa using hi),h2⟩
  |ret=>exact⟨_,_,_,Ev.block_ret h1,h2⟩
 |scope b ih=>intro x F H Q h;obtain⟨e,F',H',h1,h2⟩:=ih h;exact⟨e,F',H',Ev.scope h1,h2⟩
 |_=>intro x F H Q h;exact h
theorem e23:∀{c:Code} {x:Cx} {F:Frm} {H:a03} {Q Q':b2o},Wp x c F H Q→(∀e F H,Q e F H→Q' e F H)→Wp x c F H Q':=by
 intro c
 induction c with
 |skip=>intro x F H Q Q' h hq;exact hq _ _ _ h
 |label l=>intro x F H Q Q' h hq;exact hq _ _ _ h
 |exit i=>intro x F H Q Q' h hq;exact hq _ _ _ h
 |ret=>intro x F H Q Q' h hq;exact hq _ _ _ h
 |seq a b iha ihb=>
  intro x F H Q Q' h hq;refine iha (Q:=sq x b Q) (Q':=sq x b Q') h ?_;intro e F H h;cases e with
  |normal=>exact ihb (x:=x) h hq
  |exit id=>exact hq _ _ _ h
  |ret=>exact hq _ _ _ h
 |block id b ih=>
  intro x F H Q Q' h hq;refine ih (Q:=bk id Q) (Q':=bk id Q') h ?_;intro e F H h;cases e with
  |normal=>exact hq _ _ _ h
  |exit i=>
   simp only[bk]at h⊢;split
   ·rename_i hi;rw[f6e hi]at h;exact hq _ _ _ h
   ·rename_i hi;rw[f4n hi]at h;exact hq _ _ _ h
  |ret=>exact hq _ _ _ h
 |scope b ih=>intro x F H Q Q' h hq;exact ih (x:=x) h hq
 |_=>intro x F H Q Q' h hq;obtain⟨e,F',H',h1,h2⟩:=h;exact⟨e,F',H',h1,hq _ _ _ h2⟩
section
variable {x:Cx}{F F1:Frm}{H H1:a03}{Q:b2o}
theorem xs{E:Env}{M:List Fact}{m N:Nat}{g:FuncId}{cur:Nat}{id al ag}{log:List LogE}(h:a8j E ag N (sem E M) al.toList al.toList [] F H=some (F1,H1,log))(hl:(!ag||logOk al.toList log.length log)=true)(hq:Q .normal F1 H1):Wp (cx E M m N g cur) (.region id al ag) F H Q:=⟨_,_,_,Ev.region h hl,hq⟩
theorem xI{E:Env}{M:List Fact}{m N:Nat}{g:FuncId}{cur:Nat}{c a b t}(hc:opv E F c = .bool t)(h:Wp (cx E M m N g cur) (bif t then a else b) F H Q):Wp (cx E M m N g cur) (.cond c a b) F H Q:=by
 cases t
 ·obtain⟨e,F',H',h1,h2⟩:=c8p _ h;exact⟨e,F',H',Ev.cond_f hc h1,h2⟩
 ·obtain⟨e,F',H',h1,h2⟩:=c8p _ h;exact⟨e,F',H',Ev.cond_t hc h1,h2⟩
theorem e7t{E:Env}{M:List Fact}{m N:Nat}{g:FuncId}{cur:Nat}{keep:List Nat}{b:Code}(hk:E.keep g cur=keep)(J:Nat→Frm→a03→Prop)(n0:Nat)(h0:∃F1 H1,gcD m keep F H=some (F1,H1)∧J n0 F1 H1)
 (h:∀n F1 H1,J n F1 H1→Wp (cx E M m N g cur) b F1 H1 (lpJ m keep J n Q)):∃r:AExit×Frm×a03,Q r.1 r.2.1 r.2.2∧EvL (cx E M m N g cur) b F H r:=by
 subst hk;have key:∀n F H F1 H1,gcD m (E.keep g cur) F H=some (F1,H1)→J n F1 H1→∃r:AExit×Frm×a03,Q r.1 r.2.1 r.2.2∧EvL (cx E M m N g cur) b F H r:=by
  intro n
  induction n using Nat.strongRecOn with
  |ind n ih=>
   intro F H F1 H1 hg hJ;obtain⟨e,F',H',h1,h2⟩:=c8p _ (h n F1 H1 hJ);cases e with
   |normal=>obtain⟨F2,H2,n',g1,g2,g3⟩:=h2;obtain⟨r,hr,hl⟩:=ih n' g2 F' H' F2 H2 g1 g3;exact⟨r,hr,EvL.again (x:=cx E M m N g cur) hg h1 hl⟩
   |exit id=>exact⟨(_,_,_),h2,EvL.leave (x:=cx E M m N g cur) hg h1 (λh=>by cases h)⟩
   |ret=>exact⟨(_,_,_),h2,EvL.leave (x:=cx E M m N g cur) hg h1 (λh=>by cases h)⟩
 obtain⟨F1,H1,hg,hJ⟩:=h0;exact key n0 F H F1 H1 hg hJ
theorem a4l{E:Env}{M:List Fact}{m N:Nat}{g:FuncId}{cur:Nat}{keep:List Nat}{b:Code}(hk:E.keep g cur=keep)(J:Nat→Frm→a03→Prop)(n0:Nat)(h0:∃F1 H1,gcD m keep F H=some (F1,H1)∧J n0 F1 H1)
 (h:∀n F1 H1,J n F1 H1→Wp (cx E M m N g cur) b F1 H1 (lpJ m keep J n Q))(hz:e4l keep=false:=by rfl)(hx:b0q b=none:=by rfl):Wp (cx E M m N g cur) (.loop b) F H Q:=by
 obtain⟨⟨e,F',H'⟩,hr,hl⟩:=e7t hk J n0 h0 h;exact⟨e,F',H',Ev.loop hx (by rw[←hk]at hz;exact hz) hl,hr⟩
def fz(m:Nat)(Q:b2o):b2o:=λe F H=>Q e (d64 m H F) (d45 m H)
theorem a0q{E:Env}{M:List Fact}{m N:Nat}{g:FuncId}{cur:Nat}{keep:List Nat}{b:Code}(hk:E.keep g cur=keep){σ:Type}(Fs:σ→Frm)(Hs:σ→a03)(cV:σ→Nat)(Inv:σ→Prop)(s0:σ)(h0:gcD m keep F H=some (Fs s0,Hs s0))(hi:Inv s0)
 (h:∀s,Inv s→Wp (cx E M m N g cur) b (Fs s) (Hs s) (lp m keep Fs Hs cV Inv (cV s) Q))(hz:e4l keep=false:=by rfl)(hx:b0q b=none:=by rfl):Wp (cx E M m N g cur) (.loop b) F H Q:=by
 refine a4l hk (λn F1 H1=>∃s,F1=Fs s∧H1=Hs s∧n=cV s∧Inv s) (cV s0) ⟨_,_,h0,s0,rfl,rfl,rfl,hi⟩ ?_ hz hx
 rintro n F1 H1 ⟨s,rfl,rfl,rfl,hs⟩
 refine e23 (h s hs) ?_;intro e F' H' h2;cases e with
 |normal=>obtain⟨s',g1,g2,g3⟩:=h2;exact⟨_,_,_,g1,g2,s',rfl,rfl,rfl,g3⟩
 |exit id=>exact h2
 |ret=>exact h2
theorem a29{E:Env}{M:List Fact}{m N:Nat}{g:FuncId}{cur:Nat}{keep:List Nat}(hk:E.keep g cur=keep){b:Code}{σ:Type}(Fs:σ→Frm)(Hs:σ→a03)(cV:σ→Nat)(Inv:σ→Prop)(s0:σ)(h0:gcD m keep F H=some (Fs s0,Hs s0))(hi:Inv s0)
 (_:∀s,Inv s→gcD m keep (Fs s) (Hs s)=some (Fs s,Hs s))(h:∀s,Inv s→Wp (cx E M m N g cur) b (Fs s) (Hs s) (lp m keep Fs Hs cV Inv (cV s) Q))(hz:e4l keep=false:=by rfl)(hx:b0q b=none:=by rfl):Wp (cx E M m N g cur) (.loop b) F H Q:=a0q hk Fs Hs cV Inv s0 h0 hi h hz hx
theorem a1j{m:Nat}{keep:List Nat}{J:Nat→Frm→a03→Prop}{n:Nat}(n':Nat)(hn:n'<n)(h:∃F1 H1,gcD m keep F H=some (F1,H1)∧J n' F1 H1):lpJ m keep J n Q .normal F H:=by obtain⟨F1,H1,h1,h2⟩:=h;exact⟨F1,H1,n',h1,hn,h2⟩
theorem a21{σ:Type}{m:Nat}{keep:List Nat}{Fs:σ→Frm}{Hs:σ→a03}{cV:σ→Nat}{Inv:σ→Prop}{n:Nat}(s:σ)(h1:gcD m keep F H=some (Fs s,Hs s))(h2:cV s<n)(h3:Inv s):lp m keep Fs Hs cV Inv n Q .normal F H:=⟨s,h1,h2,h3⟩
theorem a7j{E:Env}{g:FuncId}{m:Nat}{results:List ResultVar}{r:AV×a03}{vs:List AV}(h1:a1h E F H results=some vs)(h2:a1f (E.thaw g) m (a5q vs) H=some r):fq E g m results r .ret F H:=⟨vs,h1,h2⟩
end
theorem e8b{E:Env}{M:List Fact}{g:FuncId}{args:List AV}{H:a03}{code:Code}{N:Nat}{results:List ResultVar}{r:AV×a03}
 (cj:E.fn g=some ⟨code,N,results⟩)(dv:∀y∈M,y.g≠g)(hN:Nat.ble args.length N=true){m:Nat}(hm:H.length=m)(h:Wp (cx E M m N g 0) code (a5u 0 args) H (fq E g m results r))(hp:E.prim g args=none:=by rfl)(hz:E.zf g=false:=by rfl):sem E M g args H=some r:=by
 subst hm;obtain⟨e,F',H',h1,h2⟩:=c8p _ h;obtain⟨v,H2⟩:=r;cases e with
 |normal=>obtain⟨vs,h3,h4⟩:=h2;exact c70 cj dv hN h1 (λ_ h=>by cases h) h3 h4 hp hz
 |ret=>obtain⟨vs,h3,h4⟩:=h2;exact c70 cj dv hN h1 (λ_ h=>by cases h) h3 h4 hp hz
 |exit id=>exact h2.elim
theorem xa{E:Env}{M:List Fact}{m N:Nat}{g:FuncId}{cur:Nat}{c:Code}{F F1:Frm}{H H1:a03}{log:List LogE}{t:Bool}{Q:b2o}(h:hs E M N c F H F1 H1 log t)(hl:sd c log=true)(k:ct (cx E M m N g cur) c t F1 H1 Q):Wp (cx E M m N g cur) c F H Q:=by
 cases c with
 |region id al ag=>exact xs (congrArg Prod.fst h) hl k
 |cond c a b=>have h1:opv E F c = .bool t:=e3v (congrArg Prod.fst h);have h2:(F,H,([]:List LogE))=(F1,H1,log):=congrArg Prod.snd h;cases h2;exact xI h1 k
 |_=>exact k.elim
theorem gS:(∀a b:Code,(some a).getD b=a)∧(∀l:List ResultVar,(List.toArray l).toList=l):=⟨λ_ _=>rfl,λ_=>rfl⟩
def AExit.fin:AExit→Bool
 |.exit _=>false
 |_=>true
@[go_sem] theorem g25:AExit.ret.fin=true:=by rfl
theorem fqb{E:Env}{g:FuncId}{m:Nat}{results:List ResultVar}{r:AV×a03}{e:AExit}{F:Frm}{H:a03}(h:(bif e.fin then a0j (a1h E F H results) λvs=>a1f (E.thaw g) m (a5q vs) H else none)=some r):fq E g m results r e F H:=by
 cases ha:a1h E F H results with
 |none=>rw[ha]at h;cases e<;>cases h
 |some vs=>
  rw[ha]at h;cases e with
  |exit i=>cases h
  |_=>exact⟨vs,ha,h⟩
theorem sv{E:Env}{M:List Fact}{g:FuncId}{args:List AV}{H:a03}{r:AV×a03}(f:Func)(h:Wp (cx E M H.length f.ntmps g 0) (f.body.getD .skip) (a5u 0 args) H (fq E g H.length f.results.toList r))(cj:E.fn g=some ⟨f.body.getD .skip,f.ntmps,f.results.toList⟩:=by kernel_rfl)
 (dv:(M.all λy=>!Nat.beq y.g g)=true:=by rfl)(hN:Nat.ble args.length f.ntmps=true:=by rfl)(hp:E.prim g args=none:=by rfl)(hz:E.zf g=false:=by rfl):sem E M g args H=some r:=e8b cj (λy hy e=>by
 have:=f8c.1 dv y hy;rw[e]at this;simp at this) hN rfl h hp hz
end Go.Ax
/- AxTyp: e2a abstract values, taken apart. -/
namespace Go.Ax
section
variable {E:Env}{n:Nat}{t e:TypeId}{aU:List AV}
theorem b5a{α:Type}{f:α→List AV}{P:α→Prop}(hs:slT E t=some e)(he:∀r,Typ E n e r→∃x,P x∧r=f x)(h:Typ E (n+1) t aU) :
 ∃(c:Option (Option Nat)) (l:List α),aU=[sl c (l.map f)]∧l.length≤maxLen∧∀x∈l,P x:=by
 simp only[Typ,a3w.1 hs]at h;rcases h with rfl|⟨aa,cap,rfl,h1,h2,h3⟩
 ·exact⟨none,[],rfl,by simp,by simp⟩
 ·have key:∀aa:List (List AV),(∀r∈aa,r.length=E.sz e∧Typ E n e r)→∃l:List α,aa=l.map f∧∀x∈l,P x:=by
   intro aa
   induction aa with
   |nil=>intro _;exact⟨[],rfl,by simp⟩
   |cons r rs ih=>
    intro hh;obtain⟨x,hx,rfl⟩:=he r (hh r (by simp)).2;obtain⟨l,rfl,hl⟩:=ih (λr hr=>hh r (by simp[hr]));refine⟨x::l,rfl,?_⟩;intro y hy;simp only[f6m]at hy;rcases hy with rfl|hy
    ·exact hx
    ·exact hl y hy
  obtain⟨l,rfl,hl⟩:=key aa h3;exact⟨some (some cap),l,by rw[b0v],by simpa using g1v h1 h2,hl⟩
theorem d1b{k:IntKind}(hk:c9q E t=some k)(h:Typ E (n+1) t aU):∃i,aU=[.int k i]∧(Lit.int k i).wf=true:=by simpa only[Typ,c7k hk]using h
theorem a6b(hk:c9q E t=some .u8)(h:Typ E (n+1) t aU):∃i:Nat,aU=[.int .u8 i]∧i<256:=by
 obtain⟨i,h1,h2⟩:=d1b hk h;simp only[Lit.wf,d14,f4p]at h2;have e1:IntKind.u8.min=0:=by rfl
 have e2:IntKind.u8.max=255:=by rfl
 rw[e1,e2]at h2;exact⟨i.toNat,by rw[h1,Int.toNat_of_nonneg h2.1],by omega⟩
theorem e2b(hk:c9q E t=some .u64)(h:Typ E (n+1) t aU):∃w:BitVec 64,aU=[u64 w]:=by
 obtain⟨i,h1,h2⟩:=d1b hk h;simp only[Lit.wf,d14,f4p]at h2;have e1:IntKind.u64.min=0:=by rfl
 have e2:IntKind.u64.max=18446744073709551615:=by rfl
 rw[e1,e2]at h2;refine⟨BitVec.ofInt 64 i,?_⟩;rw[h1];unfold u64
 congr 2
 rw[BitVec.toNat_ofInt];omega
theorem c01(hb:E.und t=some .bool)(h:Typ E (n+1) t aU):∃b,aU=[.bool b]:=by simpa only[Typ,hb]using h
def b70(E:Env)(t:TypeId):Option (List TypeId):=match E.und t with|some (.struct fs)=>some (fs.toList.map (·.type))|_=>none
def c8m(E:Env)(n:Nat):List TypeId→List AV→Prop
 | [],aU=>aU=[]
 |t::ts,aU=>∃p r,aU=p++r∧Typ E n t p∧c8m E n ts r
theorem b2u{ts:List TypeId}(hf:b70 E t=some ts)(h:Typ E (n+1) t aU):c8m E n ts aU:=by
 unfold b70 at hf;split at hf
 case h_2=>cases hf
 rename_i fs hu;cases hf;simp only[Typ,hu]at h;obtain⟨aq,rfl,h1,h2⟩:=h;have key:∀(fs:List Field) (aq:List (List AV)),aq.length=fs.length→(∀(i:Nat) f p,fs[i]?=some f→aq[i]?=some p→p.length=E.sz f.type∧Typ E n f.type p)→c8m E n (fs.map (·.type)) aq.flatten:=by
  intro fs
  induction fs with
  |nil=>intro aq hl _;have:=g0q.1 hl;subst this;rfl
  |cons f fs ih=>
   intro aq hl hh;cases aq with
   |nil=>simp at hl
   |cons p aq=>exact⟨p,aq.flatten,by simp,(hh 0 f p rfl rfl).2,ih aq (by simpa using hl) (λi f p hf hp=>hh (i+1) f p (by simpa using hf) (by simpa using hp))⟩
 exact key fs.toList aq h1 h2
theorem b5b{m:Nat}(hf:c6k E t=some (m,e))(h:Typ E (n+1) t aU):c8m E n (List.replicate m e) aU:=by
 unfold c6k at hf;split at hf
 case h_2=>cases hf
 rename_i m' e' hu;cases hf;simp only[Typ,hu]at h;obtain⟨aq,rfl,h1,h2⟩:=h;subst h1;clear hu
 induction aq with
 |nil=>rfl
 |cons p aq ih=>simp only[e12,g0l];exact⟨p,aq.flatten,by simp,(h2 p (by simp)).2,ih (λq hq=>h2 q (by simp[hq]))⟩
theorem typA_one{a:AV}(hg:a6w E t=some false)(h:e1v E n t a):Typ E n t [a]:=by
 unfold e1v at h;unfold a6w at hg;cases hu:E.und t with
 |none=>rw[hu]at h;exact h.elim
 |some d=>rw[hu]at h hg;simp only[f5x,Option.some.injEq]at hg;simpa[hg]using h
theorem d6d{a:AV}(hg:a6w E t=some true)(h:e1v E n t a):∃aU,a = .agg aU∧Typ E n t aU:=by
 unfold e1v at h;unfold a6w at hg;cases hu:E.und t with
 |none=>rw[hu]at h;exact h.elim
 |some d=>rw[hu]at h hg;simp only[f5x,Option.some.injEq]at hg;simpa[hg]using h
end
end Go.Ax
/- AxHeap: calls on, and loops over, heaps of a few known blocks: what is reached, renamed and put back, ar rewrite rules. -/
namespace Go.Ax
@[go_sem] theorem e6x(H:a03)(n:Nat)(aC:List Nat):a3g H n [] aC=aC.reverse:=by cases n<;>rfl
theorem c98(H:a03)(n:Nat)(b:Nat)(todo aC:List Nat):a3g H (n+1) (b::todo) aC=bif a1n aC b then a3g H n todo aC else a3g H n (a0x (a01 H b)++todo) (b::aC):=by rfl
@[go_sem] theorem e6y{n:Nat}(hn:(0<n)=True)(H:a03)(b:Nat)(todo aC:List Nat):a3g H n (b::todo) aC=bif a1n aC b then a3g H (n-1) todo aC else a3g H (n-1) (a0x (a01 H b)++todo) (b::aC):=by
 obtain⟨m,rfl⟩:∃m,n=m+1:=⟨n-1,by have:=g06 hn;omega⟩
 exact c98 H m b todo aC
@[go_sem] theorem d9d(x:Nat):a1n [] x=false:=by rfl
@[go_sem] theorem d65(a:Nat)(r:List Nat)(x:Nat):a1n (a::r) x=bif decide (a=x)then true else a1n r x:=by simp only[a1n,d63,c8h]
@[go_sem] theorem e72:a6g []=true:=by rfl
@[go_sem] theorem c5k(a:Nat)(r:List Nat):a6g (a::r)=(!(a1n r a)&&a6g r):=by rfl
@[go_sem] theorem e8k(k:Nat)(aa:List (List AV)):a0x (some (.row k aa))=aa.flatMap a0l:=by rfl
@[go_sem] theorem f5l(b:Nat):List.idxOf? b []=none:=by rfl
@[go_sem] theorem f1y(a:Nat)(l:List Nat)(b:Nat):List.idxOf? b (a::l)=bif decide (a=b)then some 0 else(List.idxOf? b l).map (·+ 1):=by rw[g0v,c8h];cases decide (a=b)<;>rfl
@[go_sem] theorem f4s(σ:List Nat)(b:Nat):b0m σ b=σ.idxOf? b:=by rfl
@[go_sem] theorem f00(σ:List Nat)(n j:Nat):a1w σ n j=bif decide (j<σ.length)then σ[j]? else some (n+(j-σ.length)):=by simp only[a1w,d0m]
@[go_sem] theorem e6t(H:a03)(π:Nat→Option Nat):a5a H [] π=[]:=by rfl
@[go_sem] theorem e2n(H:a03)(b:Nat)(σ:List Nat)(π:Nat→Option Nat):a5a H (b::σ) π=(a01 H b).map (a0t π)::a5a H σ π:=by rfl
@[go_sem] theorem e0z(σ:List Nat)(n:Nat)(H1:a03)(b:Nat):a1d σ n H1 b []=[]:=by rfl
def c7a(σ:List Nat)(n:Nat)(H1:a03)(o:Option AObj):Option Nat→Option AObj
 |some j=>(a01 H1 j).map (a0t (a1w σ n))
 |none=>o
@[go_sem] theorem e39(σ:List Nat)(n:Nat)(H1:a03)(o:Option AObj)(j:Nat):c7a σ n H1 o (some j)=(a01 H1 j).map (a0t (a1w σ n)):=by rfl
@[go_sem] theorem e3a(σ:List Nat)(n:Nat)(H1:a03)(o:Option AObj):c7a σ n H1 o none=o:=by rfl
@[go_sem] theorem c2s(σ:List Nat)(n:Nat)(H1:a03)(b:Nat)(o:Option AObj)(r:a03):a1d σ n H1 b (o::r)=c7a σ n H1 o (σ.idxOf? b)::a1d σ n H1 (b+1) r:=by simp only[a1d];cases σ.idxOf? b<;>rfl
@[go_sem] theorem c93(π:Nat→Option Nat)(k:Nat)(aa:List (List AV)):a0t π (.row k aa) = .row k (aa.map λr=>r.map (ren π)):=by rfl
/- renaming a value -/
section
variable (π:Nat→Option Nat)
def f1e(f:Nat→AV):Option Nat→AV|some b=>f b|none=>.junk
@[go_sem] theorem e8h(f:Nat→AV)(b:Nat):f1e f (some b)=f b:=by rfl
@[go_sem] theorem f4b(b i o:Nat):ren π (.ptr b i o)=f1e (λb=>.ptr b i o) (π b):=by simp only[ren];cases π b<;>rfl
@[go_sem] theorem e8g(b i o:Nat)(c:Option Nat):ren π (.slice b i o c)=f1e (λb=>.slice b i o c) (π b):=by simp only[ren];cases π b<;>rfl
@[go_sem] theorem f4c(b:Nat):ren π (.map b)=f1e (λb=>.map b) (π b):=by simp only[ren];cases π b<;>rfl
@[go_sem] theorem d1z(k:IntKind)(n:Int):ren π (.int k n) = .int k n:=by rfl
@[go_sem] theorem f1c(b:Bool):ren π (.bool b) = .bool b:=by rfl
@[go_sem] theorem f4a(s:List UInt8):ren π (.str s) = .str s:=by rfl
@[go_sem] theorem e6v(r:List (List AV))(c:Option Nat):ren π (.islice r c) = .islice r c:=by rfl
@[go_sem] theorem f1b(r:List AV):ren π (.iptr r) = .iptr r:=by rfl
@[go_sem] theorem a9n:ren π .nilslice = .nilslice:=by rfl
@[go_sem] theorem c5h(l:List AV):ren π (.agg l) = .agg (l.map (ren π)):=by simp only[ren,a9o]
@[go_sem] theorem d70(f:Fn)(a b:List AV):ren π (.func f a b) = .func f (a.map (ren π)) (b.map (ren π)):=by simp only[ren,a9o]
@[go_sem] theorem f1d:c0f π []=[]:=by rfl
@[go_sem] theorem d20(s:Nat)(v:AV)(r:Frm):c0f π ((s,v)::r)=(s,ren π v)::c0f π r:=by rfl
end
@[go_sem] theorem d3w(m:Nat)(σ:List Nat)(b:Nat):c1b m σ b=bif decide (b<m)then some b else(σ.idxOf? b).map (m + ·):=by simp only[c1b,d0m]
theorem a02{m:Nat}{keep:List Nat}{F:Frm}{H:a03}:gcD m keep F H=bif a6g (b3e m (a2c keep F) H)&&(b3e m (a2c keep F) H).all (λb=>decide (m≤b))&&decide (m≤H.length)then
 some (c0f (c1b m (b3e m (a2c keep F) H)) (a2c keep F),gcH m (b3e m (a2c keep F) H) H)else none:=by
 have e:(λb=>Nat.ble m b)=λb=>decide (m≤b):=funext λb=>d67 m b;simp only[gcD,e,d67]
theorem a00(m:Nat)(F:Frm)(H:a03):b3e m F H=(a3g H 1000000 ((H.take m).flatMap a0x++a0l (F.map (·.2))) []).filter λb=>decide (m≤b):=by have e:(λb=>Nat.ble m b)=λb=>decide (m≤b):=funext λb=>d67 m b;simp only[b3e,a6f,e]
@[go_sem] theorem e1b(m:Nat)(σ:List Nat)(H:a03):gcH m σ H=(H.take m).map (Option.map (a0t (c1b m σ)))++a5a H σ (c1b m σ):=by rfl
@[go_sem] theorem f6p{α:Type}(p:α→Bool)(a:α)(l:List α):(a::l).filter p=bif p a then a::l.filter p else l.filter p:=by rw[g2g];cases p a<;>rfl
attribute [go_sem] List.reverse_cons List.reverse_nil List.filter_nil List.flatMap_cons List.flatMap_nil
theorem a2m(run:List AV→a03→Option (AV×a03))(args:List AV)(H:a03){σ:List Nat}(hσ:a3g H 1000000 (a0l args) []=σ)(hn:a6g σ=true)(hl:(σ.all λb=>decide (b<H.length))=true)
 {au:List AV}(ha:args.map (ren (b0m σ))=au){H0:a03}(hH:a5a H σ (b0m σ)=H0){v:AV}{H1:a03}(hr:run au H0=some (v,H1)) :
 a3j run args H=some (ren (a1w σ H.length) v,a1d σ H.length H1 0 H++(H1.drop σ.length).map (Option.map (a0t (a1w σ H.length))),σ):=by
 have e:(λb=>Nat.blt b H.length)=λb=>decide (b<H.length):=funext λb=>d0m b H.length;unfold a3j;simp only[a6f,hσ,hn,e,hl,f9v,f6g,ha,hH,hr]
theorem a95{E:Env}{ag:Bool}{call:CallF}{g:FuncId}{fs cs ar args:List AV}{H:a03}(hx:E.ext g=false)(hf:(E.fn g).isSome=true)(he:fs++ar++cs=args){v:AV}{H':a03}{σ:List Nat}
 (h:a3j (call g) args H=some (v,H',σ))(hl:H'.length=H.length):a0b E ag call (.func (.func g) fs cs) ar H=some (v,H',σ):=by
 have hb:Nat.ble H.length H.length=true:=by rw[g0h];exact f6l _
 simp only[a0b,hx,hf,he,f6g,f7z,h,hl,hb,g17,Bool.and_false]
theorem a8g{E:Env}{call:CallF}{g:FuncId}{fs cs ar args:List AV}{H:a03}(hx:E.ext g=false)(hf:(E.fn g).isSome=true)(he:fs++ar++cs=args){v:AV}{H':a03}{σ:List Nat}
 (h:a3j (call g) args H=some (v,H',σ)):a0b E false call (.func (.func g) fs cs) ar H=some (v,H',σ):=by
 simp only[a0b,hx,hf,he,f6g,f7z,h,Bool.false_and]
/- freezing -/
@[go_sem] theorem e3j{α β:Type}(a:α)(f:α→β)(d:β):e13 (some a) f d=f a:=by rfl
@[go_sem] theorem b25{m:Nat}{v:AV}{H:a03}:a1f false m v H=e13 (a4j m true (a54 (a01 H) m 12) v) (λv'=>some (v',(H.take m).map (Option.map (a0t (a1z m))))) (some (v,H)):=by simp only[a1f,f7z];cases a4j m true (a54 (a01 H) m 12) v<;>rfl
section
variable {m:Nat}{top:Bool}{d:AV→Option AV}{h:FHeap}{n:Nat}
@[go_sem] theorem f5u(k:IntKind)(i:Int):a4j m top d (.int k i)=some (.int k i):=by rfl
@[go_sem] theorem f2b(b:Bool):a4j m top d (.bool b)=some (.bool b):=by rfl
@[go_sem] theorem f5t(s:List UInt8):a4j m top d (.str s)=some (.str s):=by rfl
@[go_sem] theorem b9f(r:List (List AV))(c:Option Nat):a4j m top d (.islice r c)=some (.islice r c):=by rfl
@[go_sem] theorem b48:a4j m top d .nilslice=some .nilslice:=by rfl
@[go_sem] theorem e1e(c:Option (Option Nat))(aa:List (List AV)):a4j m top d (sl c aa)=some (sl c aa):=a43 m top d _ (a2w c aa)
@[go_sem] theorem f5s(x:BitVec 64):a4j m top d (u64 x)=some (u64 x):=by rfl
@[go_sem] theorem e4k(l:List AV):a4j m top d (.agg l)=a0j (a5t m top d l) λl=>some (.agg l):=by simp only[a4j];cases a5t m top d l<;>rfl
@[go_sem] theorem c3u(l:List AV):a4j m top d (.tuple l)=a0j (a5t m top d l) λl=>some (.tuple l):=by simp only[a4j];cases a5t m top d l<;>rfl
@[go_sem] theorem c7x(f:Fn)(a b:List AV):a4j m top d (.func f a b)=a0j (a5t m top d a) λa=>a0j (a5t m top d b) λb=>some (.func f a b):=by simp only[a4j];cases a5t m top d a<;>cases a5t m top d b<;>rfl
@[go_sem] theorem a7s:a5t m top d []=some []:=by rfl
@[go_sem] theorem a3n(v:AV)(l:List AV):a5t m top d (v::l)=a0j (a4j m top d v) λv=>a0j (a5t m top d l) λl=>some (v::l):=by simp only[a5t];cases a4j m top d v<;>cases a5t m top d l<;>rfl
@[go_sem] theorem a7a(b o l:Nat)(c:Option Nat):a4j m top d (.slice b o l c)=bif decide (b<m)then(bif top then some (.slice b o l c)else none)else d (.slice b o l c):=by simp only[a4j,d8r,d0m]
@[go_sem] theorem b6o(b o l:Nat):a4j m top d (.ptr b o l)=bif decide (b<m)then(bif top then some (.ptr b o l)else none)else d (.ptr b o l):=by simp only[a4j,d8r,d0m]
@[go_sem] theorem c64(b:Nat):a4j m top d (.map b)=bif decide (b<m)then(bif top then some (.map b)else none)else d (.map b):=by simp only[a4j,d8r,d0m]
@[go_sem] theorem a5z(hn:(0<n)=True)(b o l:Nat)(c:Option Nat):a54 h m n (.slice b o l c)=a0j (b0d (h b)) λkr=>bif decide (o+l≤kr.2.length)then a0j (a9g m (a54 h m (n-1)) ((kr.2.drop o).take l)) λrs=>some (.islice rs c)else none:=by
 obtain⟨n,rfl⟩:∃k,n=k+1:=⟨n-1,by have:=g06 hn;omega⟩
 simp only[a54,Nat.add_sub_cancel];cases hb:h b with
 |none=>simp only[hb];rfl
 |some ob=>cases ob<;>simp only[hb,b0d,a0j,d67];rename_i kk aa;cases a9g m (a54 h m n) ((aa.drop o).take l)<;>rfl
@[go_sem] theorem c1g(hn:(0<n)=True)(b i o:Nat):a54 h m n (.ptr b i o)=a0j (b0d (h b)) λkr=>a0j (kr.2[i]?) λr=>a0j (a5t m false (a54 h m (n-1)) (r.drop o)) λcs=>some (.iptr cs):=by
 obtain⟨n,rfl⟩:∃k,n=k+1:=⟨n-1,by have:=g06 hn;omega⟩
 simp only[a54,Nat.add_sub_cancel];cases hb:h b with
 |none=>simp only[hb];rfl
 |some ob=>
  cases ob<;>simp only[hb,b0d,a0j];rename_i kk aa;cases aa[i]? with
  |none=>rfl
  |some r=>simp only;cases a5t m false (a54 h m n) (r.drop o)<;>rfl
theorem c7y:a9g m d []=some []:=by rfl
theorem b6r(r:List AV)(rs:List (List AV)):a9g m d (r::rs)=a0j (a5t m false d r) λr=>a0j (a9g m d rs) λrs=>some (r::rs):=by simp only[a9g];cases a5t m false d r<;>cases a9g m d rs<;>rfl
theorem a5y(a b:List (List AV)):a9g m d (a++b)=a0j (a9g m d a) λa=>a0j (a9g m d b) λb=>some (a++b):=by
 induction a with
 |nil=>simp only[e14,c7y,a0j];cases a9g m d b<;>rfl
 |cons x a ih=>
  simp only[f6a,b6r,ih];cases a5t m false d x with
  |none=>rfl
  |some x=>simp only[a0j];cases a9g m d a<;>cases a9g m d b<;>rfl
attribute [go_sem] c7y b6r
end
/-! ### append -/
section
variable {E:Env}{h:FHeap}{n:Nat}
@[go_sem] theorem e5t(k b o l:Nat)(c:Option Nat):a3c h k (.slice b o l c)=a0j (b0d (h b)) λkr=>bif decide (kr.1=k)&&decide (o+l≤kr.2.length)then some ((kr.2.drop o).take l)else none:=by
 simp only[a3c];cases hb:h b with
 |none=>simp only[hb];rfl
 |some ob=>cases ob<;>simp only[hb,b0d,a0j,c8h,d67]
def apT(E:Env)(st xt:TypeId):Option TypeId:=match E.und st,E.und xt with
 |some (.slice e),some dx=>bif a42 dx || !(E.zero e).isSome || !(Nat.blt 0 (E.sz e))then none else some e
 |_,_=>none
def apS(E:Env)(h:FHeap)(n:Nat)(ac:TypeId)(xs:List (List AV)):AV→Option (AV×Eff)
 |.nilslice=>match xs with
  | []=>some (.nilslice,.none)
  |y::ys=>bif a3d E ac (y::ys).length then some (.slice n 0 (y::ys).length none,.new (.row (E.sz ac) (y::ys)))else none
 |.islice aa cap=>bif aa.all (λr=>r.length==E.sz ac)then match xs with
  | []=>some (.islice aa cap,.none)
  |y::ys=>match cap with
   |some c=>bif Nat.blt c (aa.length+(y::ys).length)&&a3d E ac (aa.length+(y::ys).length)then
    some (.slice n 0 (aa.length+(y::ys).length) none,.new (.row (E.sz ac) (aa++(y::ys))))else none
   |none=>none
  else none
 |.slice b off len cap=>match h b with
  |some (.row kk aa)=>bif kk==E.sz ac&&Nat.ble (off+len) aa.length then
   match cap with
   |none=>bif a3d E ac (len+xs.length)&&xs.all (λr=>r.all AV.storable)then
    some (.slice n 0 (len+xs.length) none,.kill b (.row (E.sz ac) (bif Nat.beq (off+len) aa.length then aa.drop off++xs else(aa.drop off).take len++xs)))else none
   |some c=>bif Nat.ble (len+xs.length) c then
    bif Nat.ble (off+len+xs.length) aa.length&&xs.all (λr=>r.all AV.storable)then
     some (.slice b off (len+xs.length) (some c),.set b (.row (E.sz ac) (aa.take (off+len)++xs++aa.drop (off+len+xs.length))))else none
    else bif a3d E ac (len+xs.length)then
     some (.slice n 0 (len+xs.length) none,.new (.row (E.sz ac) ((aa.drop off).take len++xs)))else none
   else none
  |_=>none
 |_=>none
@[go_sem] theorem f0f(st xt:TypeId)(s x:AV):a5p E h n st xt s x=a0j (apT E st xt) λe=>a0j (a3c h (E.sz e) x) λxs=>apS E h n e xs s:=by
 unfold a5p apT;cases E.und st with
 |none=>rfl
 |some d=>cases E.und xt with
  |none=>cases d<;>rfl
  |some dx=>
   cases d<;>try rfl
   rename_i e;simp only;cases(a42 dx || !(E.zero e).isSome || !(Nat.blt 0 (E.sz e)))with
   |true=>rfl
   |false=>
    simp only[f7z,a0j];cases a3c h (E.sz e) x with
    |none=>rfl
    |some xs=>cases s<;>rfl
@[go_sem] theorem f7d(e:TypeId)(y:List AV)(ys:List (List AV)):apS E h n e (y::ys) .nilslice=bif a3d E e (y::ys).length then some (.slice n 0 (y::ys).length none,.new (.row (E.sz e) (y::ys)))else none:=by rfl
@[go_sem] theorem f2p(e:TypeId)(xs:List (List AV))(b o l:Nat):apS E h n e xs (.slice b o l none)=a0j (b0d (h b)) λkr=>
 bif decide (kr.1=E.sz e)then(bif decide (o+l=kr.2.length)then(bif a3d E e (l+xs.length)&&xs.all (λr=>r.all AV.storable)then some (.slice n 0 (l+xs.length) none,.kill b (.row (E.sz e) (kr.2.drop o++xs)))else none)
  else(bif decide (o+l≤kr.2.length)&&a3d E e (l+xs.length)&&xs.all (λr=>r.all AV.storable)then some (.slice n 0 (l+xs.length) none,.kill b (.row (E.sz e) ((kr.2.drop o).take l++xs)))else none))else none:=by
 simp only[apS];cases hb:h b with
 |none=>simp only[hb];rfl
 |some ob=>
  cases ob<;>simp only[hb,b0d,a0j,c8h,d67];rename_i kk aa;have e1:Nat.beq (o+l) aa.length=decide (o+l=aa.length):=by rw[d63,c8h]
  rw[e1];by_cases h1:o+l=aa.length
  ·rw[f8b h1,f8b (by omega:o+l≤aa.length)];cases decide (kk=E.sz e)<;>rfl
  ·rw[f9e h1];cases decide (kk=E.sz e)<;>cases decide (o+l≤aa.length)<;>rfl
@[go_sem] theorem f0b(e:TypeId)(xs:List (List AV))(b o l c:Nat):apS E h n e xs (.slice b o l (some c))=a0j (b0d (h b)) λkr=>
 bif decide (kr.1=E.sz e)&&decide (o+l≤kr.2.length)then(bif decide (l+xs.length≤c)then
  (bif decide (o+l+xs.length≤kr.2.length)&&xs.all (λr=>r.all AV.storable)then some (.slice b o (l+xs.length) (some c),.set b (.row (E.sz e) (kr.2.take (o+l)++xs++kr.2.drop (o+l+xs.length))))else none)
  else(bif a3d E e (l+xs.length)then some (.slice n 0 (l+xs.length) none,.new (.row (E.sz e) ((kr.2.drop o).take l++xs)))else none))else none:=by
 simp only[apS];cases hb:h b with
 |none=>simp only[hb];rfl
 |some ob=>cases ob<;>simp only[hb,b0d,a0j,c8h,d67]
theorem b0z{e:TypeId}{k:Nat}(hk:k≤1000000000)(hb:E.bytes e≤1000):a3d E e k=true:=by
 unfold a3d;rw[f8b (by omega),f9p,f4p]
 calc E.bytes e*(2*k+192)≤1000*(2*1000000000+192):=Nat.mul_le_mul hb (by omega)
  _≤281474976710656:=by decide
end
/- The length of a block's rows, by hand. -/
@[go_sem] theorem f0n(a b:Nat):(a:Int).tmod (b:Int)=((a%b:Nat):Int):=by rfl
@[go_sem] theorem f7r(a:Nat):(a:Int).tmod 2=((a%2:Nat):Int):=by rfl
@[go_sem] theorem f7q(a:Nat):(a:Int).tmod 3=((a%3:Nat):Int):=by rfl
@[go_sem] theorem f7p(a:Nat):(a:Int).tmod 4=((a%4:Nat):Int):=by rfl
@[go_sem] theorem f7o(a:Nat):(a:Int).tmod 9=((a%9:Nat):Int):=by rfl
@[go_sem] theorem f3o(a:Nat):(a:Int).tmod 10=((a%10:Nat):Int):=by rfl
@[go_sem] theorem f3p(a:Nat):(a:Int).tdiv 10=((a/10:Nat):Int):=by rfl
@[go_sem] theorem f3n(a:Nat):(a:Int).tmod 13=((a%13:Nat):Int):=by rfl
theorem wI{n:Nat}(h:n<9223372036854775808):IntKind.i64.wrap (n:Int)=n:=w64 (by omega) (by omega)
theorem wB{n:Nat}(h:n<256):IntKind.u8.wrap (n:Int)=n:=IntWalk.u8_in _ ⟨by omega,by omega⟩
theorem wI1{n:Nat}(h:n<9223372036854775807):IntKind.i64.wrap ((n:Int)+1)=((n+1:Nat):Int):=by rw[w64 (by omega) (by omega)];rfl
theorem b8o(m b:Nat):a1z m b=bif decide (b<m)then some b else none:=by simp only[a1z,d0m]
attribute [go_sem] b8o
/-! ### bytes to a string -/
def byT(E:Env)(s d:TypeId):Bool:=match E.und s,E.und d with
 |some (.slice e),some .string=>match E.und e with|some (.int .u8)=>true|_=>false
 |_,_=>false
section
variable {E:Env}{h:FHeap}{s d:TypeId}
theorem d0a{x:AV}(hb:byT E s d=true)(hx:∀t,x≠ .str t):a7e E h s d x=a0j (a3c h 1 x) λaa=>a0j (a7x aa) λl=>some (.str l):=by
 unfold byT at hb;cases hs:E.und s with
 |none=>rw[hs]at hb;cases hb
 |some ds=>
  cases hd:E.und d with
  |none=>rw[hs,hd]at hb;cases ds<;>cases hb
  |some dd=>
   rw[hs,hd]at hb;cases ds<;>first|(cases hb;done)|skip
   rename_i e;cases dd<;>first|(cases hb;done)|skip
   simp only at hb;cases he:E.und e with
   |none=>rw[he]at hb;cases hb
   |some de=>
    rw[he]at hb;cases de<;>first|(cases hb;done)|skip
    rename_i k;cases k<;>first|(cases hb;done)|skip
    unfold a7e;simp only[hs,hd,he];cases x<;>first|(exact absurd rfl (hx _))|skip
    all_goals
     simp only[a0j];cases a3c h 1 _ with
     |none=>rfl
     |some aa=>simp only;cases a7x aa<;>rfl
@[go_sem] theorem e58{b o l:Nat}{c:Option Nat}(hb:byT E s d=true):a7e E h s d (.slice b o l c)=a0j (a3c h 1 (.slice b o l c)) λaa=>a0j (a7x aa) λl=>some (.str l):=d0a hb (λ_ h=>by cases h)
@[go_sem] theorem e7p:a7x []=some []:=by rfl
@[go_sem] theorem e69(n:Int)(r:List (List AV)):a7x ([.int .u8 n]::r)=a0j (a7x r) λl=>some (UInt8.ofNat n.toNat::l):=by simp only[a7x];cases a7x r<;>rfl
end
@[go_sem] theorem f2d{r:List AV}{n:Nat}(h:a0l r=[]):(List.replicate n r).flatMap a0l=[]:=a0f (FlatR.replicate h)
attribute [go_sem] List.length_replicate List.map_replicate List.length_append List.flatMap_append List.map_append
/-! ### calls that only read -/
def FlatO(o:Option AObj):Prop:=∀π,o.map (a0t π)=o
theorem FlatO.row{k:Nat}{aa:List (List AV)}(h:FlatR aa):FlatO (some (.row k aa)):=λπ=>by simp only[f5x,a0t,a0c π h]
theorem d5z(f:Nat→Option AObj)(σ:List Nat)(j:Nat):a01 (σ.map f) j=(σ[j]?).bind f:=by simp only[a01,f4q];cases σ[j]?<;>simp
theorem b41{σ:List Nat}{n:Nat}{H:a03}(hf:∀b∈σ,FlatO (a01 H b)):∀(b:Nat) (H2:a03),(∀i,H2[i]?=H[b+i]?)→a1d σ n (σ.map (a01 H)) b H2=H2
 |_,[],_=>rfl
 |b,o::r,hh=>by
  have ih:=b41 hf (n:=n) (b+1) r (λi=>by
   have:=hh (i+1);rw[f8h]at this;rw[this]
   congr 1
   omega)
  simp only[a1d,ih]
  congr 1
  cases hx:σ.idxOf? b with
  |none=>rfl
  |some j=>simp only;have hj:=a2t hx;have hm:b∈σ:=c11 hj;rw[d5z,hj];simp only[g08];rw[hf b hm _];have h0:=hh 0;simp only[f6n,g1w]at h0;simp[a01,←h0]
theorem a4e{E:Env}{ag:Bool}{call:CallF}{g:FuncId}{fs cs ar args:List AV}{H:a03}{v:AV}(σ:List Nat)(hx:E.ext g=false)(hf:(E.fn g).isSome=true)(he:fs++ar++cs=args)
 (hσ:a3g H 1000000 (a0l args) []=σ)(hn:a6g σ=true)(hl:(σ.all λb=>decide (b<H.length))=true)(aY:∀b∈σ,FlatO (a01 H b))
 {au:List AV}(ha:args.map (ren (b0m σ))=au){H0:a03}(hH:σ.map (a01 H)=H0)(hr:call g au H0=some (v,H0))(hv:refs v=[]) :
 a0b E ag call (.func (.func g) fs cs) ar H=some (v,H,σ):=by
 have hs:a5a H σ (b0m σ)=H0:=by rw[←hH];unfold a5a;exact f8e λb hb=>aY b hb _
 have hc:=a2m (call g) args H hσ hn hl ha hs hr;have e1:ren (a1w σ H.length) v=v:=a14 _ v hv;have e2:a1d σ H.length H0 0 H=H:=by rw[←hH];exact b41 aY 0 H (λi=>by rw[f8j])
 have e3:H0.drop σ.length=[]:=by rw[←hH];simp
 rw[e1,e2,e3,f4h,f4g]at hc;exact a95 hx hf he hc rfl
end Go.Ax
/- AxMore: facts that all say 'true'; loops over any states; what a heap's values a3g. -/
namespace Go.Ax
/-! ### what is reached -/
theorem c2d{f:Nat→Nat}:∀{L:List Nat} {b:Nat},b∈L→(L.map f).sum=f b+((L.erase b).map f).sum
 | [],b,h=>by simp at h
 |a::L,b,h=>by
  by_cases bu:a=b
  ·subst bu;simp
  ·have hb:b∈L:=by simpa[f9m bu]using h
   rw[List.erase_cons_tail (by simpa using bu)];simp only[c10,List.sum_cons,c2d hb];omega
structure Reached(H:a03)(fC σ:List Nat):Prop where
 nodup:σ.Nodup
 start:∀b∈fC,b∈σ
 closed:∀b∈σ,∀c∈a0x (a01 H b),c∈σ
 least:∀T:Nat→Prop,(∀b∈fC,T b)→(∀b,T b→∀c∈a0x (a01 H b),T c)→∀b∈σ,T b
theorem c0j(H:a03):∀(n:Nat) (todo aC L:List Nat),aC.Nodup→(∀b∈aC,∀c∈a0x (a01 H b),c∈aC∨c∈todo)→(∀b∈todo,b∈aC∨b∈L)→(∀b∈L,∀c∈a0x (a01 H b),c∈aC∨c∈L)→
 todo.length+(L.map λb=>(a0x (a01 H b)).length).sum<n→
 (a3g H n todo aC).Nodup∧(∀b∈aC,b∈a3g H n todo aC)∧(∀b∈todo,b∈a3g H n todo aC)∧(∀b∈a3g H n todo aC,∀c∈a0x (a01 H b),c∈a3g H n todo aC)∧
 ∀T:Nat→Prop,(∀b∈aC,T b)→(∀b∈todo,T b)→(∀b,T b→∀c∈a0x (a01 H b),T c)→∀b∈a3g H n todo aC,T b
 |0,todo,aC,L,_,_,_,_,hn=>by omega
 |n+1,[],aC,L,h1,h2,h3,h4,hn=>by
  unfold a3g;refine⟨List.pairwise_reverse.2 (h1.imp λh=>f9m h),by simp,by simp,?_,?_⟩
  ·intro b hb c hc;rcases h2 b (by simpa using hb) c hc with h|h
   ·simpa using h
   ·simp at h
  ·intro T t1 t2 t3 b hb;exact t1 b (by simpa using hb)
 |n+1,b::todo,aC,L,h1,h2,h3,h4,hn=>by
  unfold a3g;cases hc:a1n aC b with
  |true=>
   have hb:b∈aC:=a3i.1 hc;simp only[f6g];obtain⟨r1,r2,r3,r4,r5⟩:=c0j H n todo aC L h1 (λx hx c dl=>by
    rcases h2 x hx c dl with h|h
    ·exact .inl h
    ·simp only[f6m]at h;rcases h with rfl|h
     ·exact .inl hb
     ·exact .inr h) (λx hx=>h3 x (by simp[hx])) h4 (by simp only[e12]at hn;omega)
   refine⟨r1,r2,?_,r4,?_⟩
   ·intro x hx;simp only[f6m]at hx;rcases hx with rfl|hx
    ·exact r2 _ hb
    ·exact r3 x hx
   ·intro T t1 t2 t3;exact r5 T t1 (λx hx=>t2 x (by simp[hx])) t3
  |false=>
   have hb:b∉aC:=λh=>by rw[a3i.2 h]at hc;cases hc
   simp only[f7z];have tw:b∈L:=(h3 b (by simp)).resolve_left hb;have hs:=c2d (f:=λb=>(a0x (a01 H b)).length) tw;obtain⟨r1,r2,r3,r4,r5⟩:=c0j H n (a0x (a01 H b)++todo) (b::aC) (L.erase b) (g0m.2 ⟨hb,h1⟩) (λx hx c dl=>by
    simp only[f6m]at hx⊢;rcases hx with rfl|hx
    ·exact .inr (by simp[dl])
    ·rcases h2 x hx c dl with h|h
     ·exact .inl (.inr h)
     ·simp only[f6m]at h;rcases h with rfl|h
      ·exact .inl (.inl rfl)
      ·exact .inr (by simp[h])) (λx hx=>by
    have gW:x∈aC∨x∈L:=by
     rw[f8n]at hx;rcases hx with hx|hx
     ·exact h4 b tw x hx
     ·exact h3 x (by simp[hx])
    by_cases nO:x=b
    ·exact .inl (by simp[nO])
    ·rcases gW with h|h
     ·exact .inl (by simp[h])
     ·exact .inr ((List.mem_erase_of_ne nO).2 h)) (λx hx c dl=>by
    have:=h4 x (List.mem_of_mem_erase hx) c dl;by_cases nO:c=b
    ·exact .inl (by simp[nO])
    ·rcases this with h|h
     ·exact .inl (by simp[h])
     ·exact .inr ((List.mem_erase_of_ne nO).2 h)) (by
    simp only[e12]at hn;rw[hs]at hn;simp only[f5z];omega)
   refine⟨r1,λx hx=>r2 x (by simp[hx]),?_,r4,?_⟩
   ·intro x hx;simp only[f6m]at hx;rcases hx with rfl|hx
    ·exact r2 _ (by simp)
    ·exact r3 x (by simp[hx])
   ·intro T t1 t2 t3;refine r5 T ?_ ?_ t3
    ·intro x hx;simp only[f6m]at hx;rcases hx with rfl|hx
     ·exact t2 _ (by simp)
     ·exact t1 x hx
    ·intro x hx;rw[f8n]at hx;rcases hx with hx|hx
     ·exact t3 b (t2 b (by simp)) x hx
     ·exact t2 x (by simp[hx])
theorem c97{H:a03}{fC:List Nat}(S:List Nat)(h1:∀b∈fC,b∈S)(h2:∀b∈S,∀c∈a0x (a01 H b),c∈S)
 (hn:fC.length+(S.map λb=>(a0x (a01 H b)).length).sum<1000000):Reached H fC (a3g H 1000000 fC []):=by
 obtain⟨r1,_,r3,r4,r5⟩:=c0j H 1000000 fC [] S List.nodup_nil (λb hb=>by simp at hb) (λb hb=>.inr (h1 b hb)) (λb hb c hc=>.inr (h2 b hb c hc)) hn;exact⟨r1,r3,r4,λT t1 t2=>r5 T (λb hb=>by simp at hb) t1 t2⟩
theorem b60:∀{l:List Nat},l.Nodup→a6g l=true
 | [],_=>rfl
 |a::l,h=>by
  rw[g0m]at h;have hc:a1n l a=false:=by
   cases hc:a1n l a with
   |false=>rfl
   |true=>exact absurd (a3i.1 hc) h.1
  rw[c5k,hc,b60 h.2];rfl
structure Gc(m:Nat)(F:Frm)(H:a03)(R:Nat→Prop)(π:Nat→Option Nat)(H1:a03):Prop where
 low:∀b,b<m→π b=some b
 inj:∀a b c,π a=some c→π b=some c→a=b
 refs:∀b∈a0l (F.map (·.2)),R b
 lows:∀b,b<m→∀c∈a0x (a01 H b),R c
 closed:∀b,R b→∀c∈a0x (a01 H b),R c
 least:∀T:Nat→Prop,(∀b∈a0l (F.map (·.2)),T b)→(∀b,b<m→∀c∈a0x (a01 H b),T c)→(∀b,T b→∀c∈a0x (a01 H b),T c)→∀b,R b→T b
 here:∀b,R b→∃c,π b=some c
 heap:∀b c,π b=some c→a01 H1 c=(a01 H b).map (a0t π)
 len:∀T:List Nat,(∀b,R b→m≤b→b∈T)→H1.length≤m+T.length
theorem c14{m:Nat}{H:a03}{c:Nat}:c∈(H.take m).flatMap a0x↔∃b,b<m∧c∈a0x (a01 H b):=by
 simp only[g2d];constructor
 ·rintro⟨o,ho,hc⟩
  obtain⟨b,hb⟩:=f9g.1 ho;rw[g0s]at hb;split at hb
  case isFalse=>cases hb
  rename_i ah;refine⟨b,ah,?_⟩;simp only[a01,hb,g0o];exact hc
 ·rintro⟨b,ah,hc⟩
  cases hb:H[b]? with
  |none=>simp[a01,hb,a0x]at hc
  |some o=>refine⟨o,f9g.2 ⟨b,by rw[g0s,f6e ah,hb]⟩,?_⟩;simpa[a01,hb]using hc
theorem b6f:∀{l T:List Nat},l.Nodup→(∀b∈l,b∈T)→l.length≤T.length
 | [],_,_,_=>by simp
 |a::l,T,bQ,aV=>by rw[g0m]at bQ;have ha:a∈T:=aV a (by simp);have:=b6f (l:=l) (T:=T.erase a) bQ.2 (λb hb=>(List.mem_erase_of_ne (λe=>bQ.1 (by rw[←e];exact hb))).2 (aV b (by simp[hb])));rw[List.length_erase_of_mem ha]at this;have:0<T.length:=List.length_pos_of_mem ha;simp only[e12];omega
theorem c7u{m:Nat}{keep:List Nat}{F:Frm}{H:a03}(hm:m≤H.length)(S:List Nat)(h1:∀b∈a0l ((a2c keep F).map (·.2)),b∈S)(h2:∀b,b<m→∀c∈a0x (a01 H b),c∈S)(h3:∀b∈S,∀c∈a0x (a01 H b),c∈S)
 (hn:((H.take m).flatMap a0x).length+(a0l ((a2c keep F).map (·.2))).length+(S.map λb=>(a0x (a01 H b)).length).sum<1000000) :
 ∃(R:Nat→Prop) (π:Nat→Option Nat) (H1:a03),gcD m keep F H=some (c0f π (a2c keep F),H1)∧Gc m (a2c keep F) H R π H1∧m≤H1.length:=by
 have hr:=c97 (H:=H) (fC:=(H.take m).flatMap a0x++a0l ((a2c keep F).map (·.2))) S (λb hb=>by
  rw[f8n]at hb;rcases hb with hb|hb
  ·obtain⟨a,ha,hc⟩:=c14.1 hb;exact h2 a ha b hc
  ·exact h1 b hb) h3 (by rw[f5z];exact hn)
 generalize hρ:a3g H 1000000 ((H.take m).flatMap a0x++a0l ((a2c keep F).map (·.2))) []=ρ at hr;have hσ:b3e m (a2c keep F) H=ρ.filter λb=>decide (m≤b):=by rw[a00,hρ]
 have bQ:(ρ.filter λb=>decide (m≤b)).Nodup:=hr.nodup.filter _;have cz:∀b,b∈(ρ.filter λb=>decide (m≤b))↔b∈ρ∧m≤b:=λb=>by rw[f9s];simp
 have cH:(H.take m).length=m:=by simp;omega
 have ai:(gcH m (ρ.filter λb=>decide (m≤b)) H).length=m+(ρ.filter λb=>decide (m≤b)).length:=by rw[e1b];simp[a5a];omega
 refine⟨(·∈ρ),c1b m (ρ.filter λb=>decide (m≤b)),gcH m (ρ.filter λb=>decide (m≤b)) H,?_,?_,by rw[ai];omega⟩
 ·rw[a02,hσ,b60 bQ,f8b hm];have:(ρ.filter λb=>decide (m≤b)).all (λb=>decide (m≤b))=true:=by
   rw[f8c];intro b hb;simpa using((cz b).1 hb).2
  rw[this];rfl
 ·have hπ:∀b,c1b m (ρ.filter λb=>decide (m≤b)) b=if b<m then some b else((ρ.filter λb=>decide (m≤b)).idxOf? b).map (m + ·):=by
   intro b;rw[d3w];by_cases h:b<m<;>simp[h]
  refine⟨λb hb=>by rw[hπ,f6e hb],?_,λb hb=>hr.start b (by simp[hb]),λb hb c hc=>hr.start c (by rw[f8n];exact .inl (c14.2 ⟨b,hb,hc⟩)),λb hb c hc=>hr.closed b hb c hc,?_,?_,?_,?_⟩
  ·intro a b c ha hb;rw[hπ]at ha hb;split at ha<;>split at hb
   ·cases ha;cases hb;rfl
   ·cases ha;obtain⟨j,hj,e⟩:=a08 hb;omega
   ·cases hb;obtain⟨j,hj,e⟩:=a08 ha;omega
   ·obtain⟨i,hi,e1⟩:=a08 ha;obtain⟨j,hj,e2⟩:=a08 hb;have g1:=a2t hi;have g2:=a2t hj;obtain rfl:i=j:=by omega
    rw[g1]at g2;exact z9o g2
  ·intro T t1 t2 t3 b hb;refine hr.least T (λx hx=>?_) t3 b hb;rw[f8n]at hx;rcases hx with hx|hx
   ·obtain⟨a,ha,hc⟩:=c14.1 hx;exact t2 a ha x hc
   ·exact t1 x hx
  ·intro b hb;rw[hπ];split
   ·exact⟨_,rfl⟩
   ·rename_i h;have vk:=(cz b).2 ⟨hb,by omega⟩;obtain⟨j,hj⟩:=f9g.1 vk;rw[a9z bQ hj];exact⟨_,rfl⟩
  ·intro b c nk;have kS:=nk;rw[hπ]at kS;rw[e1b];split at kS
   ·rename_i h;cases kS;simp only[a01];rw[f6d (by simp;omega),f4q,g0s,f6e h];cases H[b]? with
    |none=>rfl
    |some o=>rfl
   ·rename_i h;obtain⟨j,hj,rfl⟩:=a08 kS;have hg:=a2t hj;simp only[a01];rw[f8k (by simp only[f4j,cH];omega)];simp only[f4j,cH,g10,a5a,f4q,hg,f5x,g0o];rfl
  ·intro T hT;rw[ai];have:(ρ.filter λb=>decide (m≤b)).length≤T.length:=by
    have aV:∀b∈(ρ.filter λb=>decide (m≤b)),b∈T:=λb hb=>hT b ((cz b).1 hb).1 ((cz b).1 hb).2;exact b6f bQ aV
   omega
end Go.Ax
/- AxSup: closed runs over facts of calls, a56 a given fact. -/
namespace Go.Ax
def a0m(E:Env)(x:Fact):Prop:=sem E [] x.g x.args []=some (x.v,[])
theorem c71{E:Env}{g:FuncId}{args:List AV}{v:AV}:∀{M:List Fact},(∀x∈M,a0m E x)→e8d M g args=some v→sem E [] g args []=some (v,[])
 | [],_,h=>by simp[e8d]at h
 |x::r,hM,h=>by
  simp only[e8d,cond_eq_ite]at h;split at h
  ·rename_i hc;simp only[d14,g2e]at hc;cases h;have:=hM x (by simp);obtain⟨g',a',v'⟩:=x;simp only at hc this;have h1:=hc.1;have h2:=b9l _ _ hc.2;subst h1;subst h2;exact this
  ·exact c71 (λx hx=>hM x (by simp[hx])) h
theorem b5l{E:Env}{c:CallF}(hc:CallF.le c (sem E []))(lf:Nat):CallF.le (b31 E c lf) (sem E []):=λg args H r h=>c5a (λ_ h=>by cases h) lf (b30 hc (f6l lf) h)
theorem b65{E:Env}{M:List Fact}(hM:∀x∈M,a0m E x):∀n,CallF.le (d2r E M n) (sem E [])
 |0=>λg args H r h=>by simp[d2r]at h
 |n+1=>λg args H r h=>by
  have h:f5b M (b31 E (d2r E M n) (n+1)) g args H=some r:=h;unfold f5b at h;split at h
  ·split at h
   ·rename_i v hs;cases h;exact c71 hM hs
   ·exact b5l (b65 hM n) _ _ _ _ _ h
  ·exact b5l (b65 hM n) _ _ _ _ _ h
theorem a0u{E:Env}{M:List Fact}(hM:∀x∈M,a0m E x)(n:Nat){g:Nat}{args:List AV}{v:AV}(h:b31 E (d2r E M n) n g args []=some (v,[])):a0m E ⟨g,args,v⟩:=b5l (b65 hM n) n _ _ _ _ h
theorem a3f{E:Env}:∀x∈([]:List Fact),a0m E x:=by simp
theorem a09{E:Env}{x:Fact}{M:List Fact}(hx:a0m E x)(hM:∀x∈M,a0m E x):∀y∈x::M,a0m E y:=by
 intro y hy;simp only[f6m]at hy;rcases hy with rfl|hy
 ·exact hx
 ·exact hM y hy
end Go.Ax
/- AxGrow: grown slices; calls that read one block. -/
namespace Go.Ax
def grV(b:Nat):List (List AV)→AV|[]=>.nilslice|_::rs=>.slice b 0 (rs.length+1) none
def grH(k:Nat):List (List AV)→a03|[]=>[]|r::rs=>[some (.row k (r::rs))]
theorem a0g(b:Nat):grV b [] = .nilslice:=by rfl
theorem a0h(k:Nat):grH k []=[]:=by rfl
theorem a05(b:Nat)(r:List AV)(rs:List (List AV)):grV b (r::rs) = .slice b 0 (rs.length+1) none:=by rfl
theorem a06(k:Nat)(r:List AV)(rs:List (List AV)):grH k (r::rs)=[some (.row k (r::rs))]:=by rfl
theorem c7q(b:Nat)(l:List (List AV))(x:List AV):grV b (l++[x]) = .slice b 0 (l.length+1) none:=by cases l<;>simp[grV]
theorem d8m(k:Nat)(l:List (List AV))(x:List AV):grH k (l++[x])=[some (.row k (l++[x]))]:=by cases l<;>simp[grH]
theorem b46(b:Nat){l:List (List AV)}(h:l≠[]):grV b l = .slice b 0 l.length none:=by cases l with|nil=>exact absurd rfl h|cons a r=>rfl
theorem b47(k:Nat){l:List (List AV)}(h:l≠[]):grH k l=[some (.row k l)]:=by cases l with|nil=>exact absurd rfl h|cons a r=>rfl
theorem c2o{H:a03}{b:Nat}(hr:a0x (a01 H b)=[]):a3g H 1000000 [b] []=[b]:=by
 have e1:∀n,a3g H (n+2) [b] []=[b]:=by intro n;unfold a3g;simp only[a1n,f7z,hr,f4g];unfold a3g;rfl
 exact e1 999998
theorem a2e{E:Env}{ag:Bool}{call:CallF}{g:FuncId}{fs cs ar args:List AV}{H:a03}{v:AV}{b:Nat}{o:AObj}(hx:E.ext g=false)(hf:(E.fn g).isSome=true)(he:fs++ar++cs=args)
 (hb:a01 H b=some o)(ho:a0x (some o)=[])(aY:FlatO (some o))(aL:a0l args=[b]){au:List AV}(ha:args.map (ren (b0m [b]))=au)(hr:call g au [some o]=some (v,[some o]))(hv:refs v=[]) :
 a0b E ag call (.func (.func g) fs cs) ar H=some (v,H,[b]):=by
 have ah:b<H.length:=by
  unfold a01 at hb;cases hh:H[b]? with
  |none=>rw[hh]at hb;cases hb
  |some x=>exact(c13.1 hh).1
 refine a4e [b] hx hf he (by rw[aL];exact c2o (by rw[hb];exact ho)) rfl (by simpa using ah) ?_ ha (by simp only[c10,f4h,hb]) hr hv;intro c hc;simp only[f6f]at hc;subst hc;rw[hb];exact aY
theorem a0r{k:Nat}{aa:List (List AV)}(h:FlatR aa):a0x (some (.row k aa))=[]:=by simp only[a0x];exact a0f h
theorem a0i{H:a03}{b:Nat}{o:AObj}(hb:a01 H b=some o):b<H.length:=by
 unfold a01 at hb;cases hh:H[b]? with
 |none=>rw[hh]at hb;cases hb
 |some x=>exact(c13.1 hh).1
theorem a8k{H:a03}{b:Nat}{o:AObj}(hb:a01 H b=some o):H.set b (some o)=H:=by have ah:=a0i hb;unfold a01 at hb;rw[z9e ah]at hb;simp only[g0o]at hb;rw[←hb];exact List.set_getElem_self ah
theorem b5q(b n:Nat)(o:Option AObj)(ho:∀π,o.map (a0t π)=o):∀(s:Nat) (H:a03),s≤b→a1d [b] n [o] s H=H.set (b-s) o
 |s,[],_=>by simp[a1d]
 |s,x::H,hs=>by
  simp only[a1d];by_cases l9:s=b
  ·subst l9;have e:([s]:List Nat).idxOf? s=some 0:=by simp[g0v]
   have cX:∀(t:Nat) (H:a03),s<t→a1d [s] n [o] t H=H:=by
    intro t H
    induction H generalizing t with
    |nil=>intro _;rfl
    |cons y H ih=>
     intro ht;have e2:([s]:List Nat).idxOf? t=none:=by simp[g0v];omega
     simp only[a1d,e2,ih (t+1) (by omega)]
   simp only[e,cX (s+1) H (by omega),Nat.sub_self,List.set_cons_zero]
   congr 1
   exact ho _
  ·have e:([b]:List Nat).idxOf? s=none:=by simp[g0v];omega
   have e2:b-s=(b-(s+1))+1:=by omega
   rw[e2,List.set_cons_succ];simp only[e,b5q b n o ho (s+1) H (by omega)]
theorem a60{E:Env}{ag:Bool}{call:CallF}{g:FuncId}{fs cs ar args:List AV}{H:a03}{v v':AV}{b:Nat}{o o':AObj}(hx:E.ext g=false)(hf:(E.fn g).isSome=true)(he:fs++ar++cs=args)
 (hb:a01 H b=some o)(ho:a0x (some o)=[])(aY:FlatO (some o))(aL:a0l args=[b]){au:List AV}(ha:args.map (ren (b0m [b]))=au)(hr:call g au [some o]=some (v,[some o']))(rj:FlatO (some o'))(hv:ren (a1w [b] H.length) v=v') :
 a0b E ag call (.func (.func g) fs cs) ar H=some (v',H.set b (some o'),[b]):=by
 have ah:=a0i hb;have hc:=a2m (call g) args H (σ:=[b]) (by rw[aL];exact c2o (by rw[hb];exact ho)) rfl (by simpa using ah) ha (H0:=[some o]) (by simp only[a5a,c10,f4h,hb];congr 1;exact aY _) hr;rw[hv,b5q b _ _ rj 0 H (f4m _)]at hc;simp only[Nat.sub_zero,List.drop_succ_cons,f9o,f4h,f4g,e12,f4o]at hc;exact a95 hx hf he hc (by simp)
theorem a20(b o l:Nat)(c:Option Nat):ren (b0m [b]) (.slice b o l c) = .slice 0 o l c:=by simp[ren,b0m]
theorem b1d(b o n l:Nat)(c:Option Nat):ren (a1w [b] n) (.slice 0 o l c) = .slice b o l c:=by rfl
/-! ### slices of slices -/
def inB(i:Int)(n:Nat):Bool:=decide (0≤i)&&decide (i≤(n:Int))
@[go_sem] theorem f5k(a n:Nat):inB (a:Int) n=decide (a≤n):=by unfold inB;rw[f8b (by omega),f9p,f9r,f4p,f4p];omega
@[go_sem] theorem g23(n:Nat):inB 0 n=true:=by simp[inB]
theorem b2n{k:IntKind}{i:Int}{n d:Nat}:a1k (some (.int k i)) n d=bif inB i n then some i.toNat else none:=by rfl
attribute [go_sem] Option.map_some Option.map_none
section
variable {E:Env}{h:FHeap}{t:TypeId}
theorem b2f{x:AV}{lo hi mx:Option AV}(hs:slT E t=none)(hx:∀s,x≠ .str s):a5n E h t x lo hi mx=none:=by
 unfold a5n;unfold slT at hs;cases hu:E.und t with
 |none=>rfl
 |some d=>rw[hu]at hs;cases d<;>first|(cases hs;done)|(cases x<;>first|rfl|exact absurd rfl (hx _))
@[go_sem] theorem e5q{k k':IntKind}{i j:Int}:a5n E h t .nilslice none (some (.int k i)) (some (.int k' j))=a0j (slT E t) λe=>bif isT E e&&inB j 0&&inB i j.toNat then some .nilslice else none:=by
 cases hs:slT E t with
 |none=>exact b2f hs (λ_ h=>by cases h)
 |some e=>simp only[a5n,a3w.1 hs,a0j,b2n,isT];cases(E.und e).isSome<;>cases inB j 0<;>first|rfl|(simp only[f6g,f9p];cases inB i j.toNat<;>rfl)
@[go_sem] theorem e7j{b o n:Nat}{c:Option Nat}{k k':IntKind}{i j:Int}:a5n E h t (.slice b o n c) none (some (.int k i)) (some (.int k' j))=a0j (slT E t) λe=>a0j (b0d (h b)) λkr=>bif isT E e&&decide (kr.1=E.sz e)&&inB j (a1s n c)&&inB i j.toNat then some (.slice b o i.toNat (some j.toNat))else none:=by
 cases hs:slT E t with
 |none=>exact b2f hs (λ_ h=>by cases h)
 |some e=>
  simp only[a5n,a3w.1 hs,a0j,b2n,isT];cases hb:h b with
  |none=>cases(E.und e).isSome<;>rfl
  |some ob=>cases ob with
   |map=>cases(E.und e).isSome<;>rfl
   |siter=>cases(E.und e).isSome<;>rfl
   |uset=>cases(E.und e).isSome<;>rfl
   |miter=>cases(E.und e).isSome<;>rfl
   |yloop=>cases(E.und e).isSome<;>rfl
   |row kk aa=>simp only[b0d,c8h];cases(E.und e).isSome<;>cases decide (kk=E.sz e)<;>cases inB j (a1s n c)<;>first|rfl|(simp only[f6g,f9p];cases inB i j.toNat<;>rfl)
@[go_sem] theorem e7i{b o n:Nat}{c:Option Nat}{k:IntKind}{j:Int}:a5n E h t (.slice b o n c) none (some (.int k j)) none=a0j (slT E t) λe=>a0j (b0d (h b)) λkr=>bif isT E e&&decide (kr.1=E.sz e)&&inB j (a1s n c)then some (.slice b o j.toNat c)else none:=by
 cases hs:slT E t with
 |none=>exact b2f hs (λ_ h=>by cases h)
 |some e=>
  have hc:c.map (λx=>x-0)=c:=by cases c<;>rfl
  simp only[a5n,a3w.1 hs,a0j,b2n,isT];cases hb:h b with
  |none=>cases(E.und e).isSome<;>rfl
  |some ob=>cases ob with
   |map=>cases(E.und e).isSome<;>rfl
   |siter=>cases(E.und e).isSome<;>rfl
   |uset=>cases(E.und e).isSome<;>rfl
   |miter=>cases(E.und e).isSome<;>rfl
   |yloop=>cases(E.und e).isSome<;>rfl
   |row kk aa=>simp only[b0d,c8h];have e0:∀m,a1k (none:Option AV) m 0=some 0:=λ_=>rfl;cases(E.und e).isSome<;>cases decide (kk=E.sz e)<;>cases inB j (a1s n c)<;>first|rfl|(simp only[f6g,f9p,e0,hc];rfl)
def slP:Option (Option Nat)→List (List AV)→Nat→Nat→AV
 |none,[],_,_=>.nilslice
 |none,r::rs,i,j=>.islice (((r::rs).take j).drop i) none
 |some c,aa,i,j=>.islice ((aa.take j).drop i) (c.map (·- i))
theorem c4h{aa:List (List AV)}{c:Option Nat}{k k':IntKind}{i j:Int}:a5n E h t (.islice aa c) (some (.int k i)) (some (.int k' j)) none=a0j (slT E t) λe=>bif isT E e&&aa.all (λr=>decide (r.length=E.sz e))&&inB j aa.length&&inB i j.toNat then some (.islice ((aa.take j.toNat).drop i.toNat) (c.map (·- i.toNat)))else none:=by
 cases hs:slT E t with
 |none=>exact b2f hs (λ_ h=>by cases h)
 |some e=>have e1:(λr:List AV=>r.length==E.sz e)=λr=>decide (r.length=E.sz e):=funext λr=>c8h _ _;simp only[a5n,a3w.1 hs,a0j,b2n,isT,e1];cases(E.und e).isSome<;>cases aa.all (λr=>decide (r.length=E.sz e))<;>cases inB j aa.length<;>first|rfl|(simp only[f6g,f9p];cases inB i j.toNat<;>rfl)
@[go_sem] theorem e5r{aa:List (List AV)}{c:Option (Option Nat)}{k k':IntKind}{i j:Int}:a5n E h t (sl c aa) (some (.int k i)) (some (.int k' j)) none=a0j (slT E t) λe=>bif isT E e&&aa.all (λr=>decide (r.length=E.sz e))&&inB j aa.length&&inB i j.toNat then some (slP c aa i.toNat j.toNat)else none:=by
 cases c with
 |some c=>rw[b0v];exact c4h
 |none=>cases aa with
  |cons a r=>rw[a6c];exact c4h
  |nil=>
   rw[c57];cases hs:slT E t with
   |none=>exact b2f hs (λ_ h=>by cases h)
   |some e=>simp only[a5n,a3w.1 hs,a0j,b2n,isT,List.all_nil,Bool.and_true,f4o];cases(E.und e).isSome<;>cases inB j 0<;>first|rfl|(simp only[f6g,f9p];cases inB i j.toNat<;>rfl)
end
attribute [go_sem] Nat.le_refl Int.toNat_natCast
@[go_sem] theorem c2c{α β:Type}(f:α→β)(l:List α):(l.map f).take l.length=l.map f:=by rw[←f4j (f:=f),f6i]
attribute [go_sem] List.take_length
@[go_sem] theorem d51(n c:Nat):a1s n (some c)=c:=by rfl
@[go_sem] theorem d52(n:Nat):a1s n none=n:=by rfl
end Go.Ax
/- AxMelt: calls over flat arguments that return a pointer to a block of their own. -/
namespace Go.Ax
theorem d0j{E:Env}{call:CallF}{g:FuncId}{fs cs ar args:List AV}{H:a03}{k:Nat}{aa:List (List AV)}(hx:E.ext g=false)(hf:(E.fn g).isSome=true)(he:fs++ar++cs=args)(aL:a0l args=[])(hr:call g args []=some (.ptr 0 0 0,[some (.row k aa)]))(aY:FlatR aa) :
 a0b E false call (.func (.func g) fs cs) ar H=some (.ptr H.length 0 0,H++[some (.row k aa)],[]):=by
 have hc:=a2m (call g) args H (σ:=[]) (by rw[aL];rfl) rfl rfl (au:=args) (a4n _ aL) (H0:=[]) rfl hr;have hp:∀(s:Nat) (H:a03),a1d [] H.length [some (AObj.row k aa)] s H=H:=by
  intro s H;have:∀(n s:Nat) (H:a03),a1d [] n [some (AObj.row k aa)] s H=H:=by
   intro n s H
   induction H generalizing s with
   |nil=>rfl
   |cons x H ih=>simp[a1d,ih]
  exact this _ _ _
 rw[hp]at hc;have h1:=λπ=>a0c π aY;have hb:ren (a1w [] H.length) (.ptr 0 0 0) = .ptr H.length 0 0:=rfl;rw[hb]at hc;simp only[f4o,f9o,c10,f4h,f5x,a0t,h1]at hc;exact a8g hx hf he hc
@[go_sem] theorem e4q{v:AV}{H:a03}:a1f true 0 v H=e73 0 v H:=by rfl
theorem c9y{m:Nat}(hm:(m=0)=False){v:AV}{H:a03}:a1f true m v H=some (v,H):=by
 cases m with
 |zero=>simp at hm
 |succ n=>rfl
attribute [go_sem] c9y
@[go_sem] theorem f1q{m b i o:Nat}{H:a03}:e73 m (.ptr b i o) H=bif decide (m≤b)then a0j (b0d (a01 H b)) λkr=>a0j (c65 m (a54 (a56 (a01 H) b) m 12) kr.2) λcE=>some (.ptr m i o,(H.take m).map (Option.map (a0t (a1z m)))++[some (.row kr.1 cE)])else none:=by
 have e:Nat.ble m b=decide (m≤b):=by rw[f9r,g0h,f4p]
 simp only[e73,e];cases decide (m≤b)with
 |false=>rfl
 |true=>
  simp only[f6g];cases h:a01 H b with
  |none=>rfl
  |some ob=>cases ob with
   |row k aa=>simp only[b0d,a0j];cases c65 m (a54 (a56 (a01 H) b) m 12) aa<;>rfl
   |map=>rfl
   |siter=>rfl
   |uset=>rfl
   |miter=>rfl
   |yloop=>rfl
@[go_sem] theorem f2c{m:Nat}{d:AV→Option AV}:c65 m d []=some []:=by rfl
@[go_sem] theorem e9f{m:Nat}{d:AV→Option AV}{r:List AV}{rs:List (List AV)}:c65 m d (r::rs)=a0j (a5t m true d r) λr'=>a0j (c65 m d rs) λeN=>some (r'::eN):=by
 simp only[c65];cases a5t m true d r with
 |none=>rfl
 |some r'=>cases c65 m d rs<;>rfl
@[go_sem] theorem e6i{h:FHeap}{b x:Nat}:a56 h b x=bif decide (x=b)then none else h x:=by
 unfold a56;by_cases hx:x=b
 ·subst hx;rw[show Nat.beq x x=true from Nat.beq_refl x,f8b rfl]
 ·rw[f9e hx];cases hq:Nat.beq x b with
  |false=>rfl
  |true=>exact absurd (g03 hq) hx
theorem b8m{n:Nat}{H1:a03}:∀(R:a03) (s:Nat),2≤s→a1d [0,1] n H1 s R=R
 | [],s,_=>by simp[a1d]
 |o::R,s,hs=>by
  have e:([0,1]:List Nat).idxOf? s=none:=by rw[List.idxOf?_eq_none_iff];simp;omega
  simp only[a1d,e,b8m R (s+1) (by omega)]
theorem c8e{E:Env}{ag:Bool}{call:CallF}{g:FuncId}{fs cs ar args:List AV}{X Y:AObj}{R:a03}{v:AV}(hx:E.ext g=false)(hf:(E.fn g).isSome=true)(he:fs++ar++cs=args)(aL:a0l args=[0])(hX:a0x (some X)=[1])(hY:a0x (some Y)=[])
 (ha:args.map (ren (b0m [0,1]))=args)(vo:a0t (b0m [0,1]) X=X)(iK:∀n,a0t (a1w [0,1] n) X=X)(mM:FlatO (some Y))(hr:call g args [some X,some Y]=some (v,[some X,some Y]))(hv:refs v=[]) :
 a0b E ag call (.func (.func g) fs cs) ar (some X::some Y::R)=some (v,some X::some Y::R,[0,1]):=by
 have tD:∀π,a0t π Y=Y:=λπ=>by have:=mM π;simpa using this
 have hc:=a2m (call g) args (some X::some Y::R) (σ:=[0,1]) (by rw[aL];simp+decide only[go_sem,hX,hY]) rfl (by simp) ha (H0:=[some X,some Y]) (by simp[a5a,a01,vo,tD]) hr;have hp:a1d [0,1] (some X::some Y::R).length [some X,some Y] 0 (some X::some Y::R)=some X::some Y::R:=by simp only[c2s,b8m R 2 (by omega)];simp+decide [c7a,a01,iK,tD,g0v]
 rw[hp,a14 _ v hv]at hc;simp only[e12,f4o,List.drop_succ_cons,f9o,f4h,f4g]at hc;exact a95 hx hf he hc rfl
end Go.Ax
/- AxCpy: copy and clear, ar rewrite rules. -/
namespace Go.Ax
section
variable {E:Env}{ag:Bool}{call:CallF}{F:Frm}{H:a03}{h:FHeap}
end
section
variable {E:Env}{t:TypeId}{c:Bool}{x y:BitVec 64}
end
section
variable {E:Env}{h:FHeap}{t:TypeId}
end
end Go.Ax
/- AxFz: a loop that freezes at its end, as rewrite rules. -/
namespace Go.Ax
end Go.Ax
/- AxMl: a loop over a set of numbers: as a condition on its end. -/
namespace Go.Ax
theorem b8d:∀H:a03,c2i H H=true
 | []=>rfl
 |a::H=>by simp only[c2i,b8c,b8d H,f9v]
theorem c8z(r:R3):c90 (some r) r=true:=by obtain⟨e,F,H⟩:=r;simp only[c90,b2y,b8d,f9v,Bool.and_true];cases e<;>simp[e2v]
def AExit.isN:AExit→Bool
 |.normal=>true
 |_=>false
def mlp(m:Nat)(keep:List Nat)(F2:Frm)(H2:a03):b2o:=λe F H=>match e with|.normal=>gcD m keep F H=some (F2,H2)|_=>False
def mle(it:Nat)(e0:AExit)(F0:Frm)(H0:a03):b2o:=λe F H=>e=e0∧F=F0∧dropIt F H it=H0
def Wq(x:Cx)(al fZ:List Oper)(af:Code)(nx:Nat)(v:AV)(F:Frm)(H:a03)(Q:b2o):Prop:=∃F4 H4 log,a8j x.E false x.N (sem x.E x.M) al fZ [⟨[],[]⟩] ((nx,v)::F) H=some (F4,H4,log)∧Wp x af F4 H4 Q
theorem xq{x:Cx}{al fZ:List Oper}{af:Code}{nx:Nat}{v:AV}{F F4:Frm}{H H4:a03}{Q:b2o}{log:List LogE}(h:a8j x.E false x.N (sem x.E x.M) al fZ [⟨[],[]⟩] ((nx,v)::F) H=some (F4,H4,log))(k:Wp x af F4 H4 Q):Wq x al fZ af nx v F H Q:=⟨_,_,_,h,k⟩
section
variable {E:Env}{M:List Fact}{m N:Nat}{g:FuncId}{cur:Nat}{keep:List Nat}{id:Nat}{al:Array Oper}{it nx:Nat}{fZ:List Oper}{af:Code}
noncomputable def c6j(E:Env)(M:List Fact)(m N:Nat)(g:FuncId)(cur:Nat)(lf:Nat)(b:Code):Frm→a03→(AExit→Frm→a03→Option R3)→Option R3:=λF H k=>a4k E m N (E.keep g) (sem E M) lf cur b F H k
theorem c6w(eX:d0z al.toList=some (it,nx,fZ))(hN:Nat.blt nx N=true){ks aC:List Int}{ib:Nat}{fR:Option Int}{F F1:Frm}{H H1 H3:a03}{v:AV}{Q:b2o}{bT:Option (Option Int)}
 (hg:gcD m (E.keep g cur) F H=some (F1,H1))(fx:a34 F1 it = .ptr ib 0 0)(dO:a01 H1 ib=some (.miter ks aC bT))
 (hv:c0t F1 (H1.set ib (some (.miter ks aC (some fR)))) it=some (v,H3))(hw:Wq (cx E M m N g cur) al.toList fZ af nx v F1 H3 Q) :
 ∃e F' H',Q e F' H'∧∃n0,∀lf,n0≤lf→b0p m it (E.keep g cur) ks aC (c6j E M m N g cur lf (.seq (.region id al false) af)) fR F H=some (e,F',H'):=by
 obtain⟨F4,H4,log,h1,h2⟩:=hw;obtain⟨e,F',H',⟨n0,h3⟩,h4⟩:=c8p _ h2;refine⟨e,F',H',h4,n0,λlf hl=>?_⟩;unfold b0p;rw[hg];have ha:f2m ks aC fR F1 H1 it=some (H1.set ib (some (.miter ks aC (some fR)))):=by unfold f2m;rw[fx];simp only[dO,g1u,f9v,f6g]
 simp only[ha,c6j];unfold a4k;unfold a4k;rw[eX];simp only[hN,g17,Bool.or_self,f7z,hv];rw[b5j];have db:a8j E false N (sem E M) al.toList fZ [⟨[],[]⟩] (a4i F1 (some nx) v) H3=some (F4,H4,log):=h1;rw[db];simp only[Bool.not_false,Bool.true_or,f6g];exact h3 lf hl R3 _
theorem d2l{ks aC:List Int}{ib:Nat}{i:Int}{F1:Frm}{H1:a03}{bT:Option (Option Int)}(fx:a34 F1 it = .ptr ib 0 0)(dO:a01 H1 ib=some (.miter ks aC bT)) :
 c0t F1 (H1.set ib (some (.miter ks aC (some (some i))))) it=some (.tuple [.bool true,.int .i64 i,.bool true],H1.set ib (some (.miter ks (aC++[i]) none))):=by
 unfold c0t;rw[fx];simp only[a8i,b22 dO,and_self,f9q,List.set_set]
theorem d2m{ks aC:List Int}{ib:Nat}{F1:Frm}{H1:a03}{bT:Option (Option Int)}(fx:a34 F1 it = .ptr ib 0 0)(dO:a01 H1 ib=some (.miter ks aC bT)) :
 c0t F1 (H1.set ib (some (.miter ks aC (some none)))) it=some (.tuple [.bool false],H1.set ib (some (.miter ks aC none))):=by
 unfold c0t;rw[fx];simp only[a8i,b22 dO,and_self,f9q,List.set_set]
theorem c4s{α:Type}{P:Nat→α→Prop}:∀(L:List α),(∀o∈L,∃n0,∀lf,n0≤lf→P lf o)→∃n0,∀lf,n0≤lf→∀o∈L,P lf o
 | [],_=>⟨0,λ_ _ _ h=>by cases h⟩
 |a::L,h=>by
  obtain⟨n1,h1⟩:=h a (by simp);obtain⟨n2,h2⟩:=c4s L λo ho=>h o (by simp[ho]);refine⟨max n1 n2,λlf hl o ho=>?_⟩;rcases f6m.1 ho with rfl|ho
  ·exact h1 lf (by omega)
  ·exact h2 lf (by omega) o ho
theorem d15{F:Frm}{H:a03}{Q:b2o}(hk:E.keep g cur=keep)(ks:List Int)(Fs:List Int→Frm)(Hs:List Int→a03)(ib:Nat)(e0:AExit)(F0:Frm)(H0:a03)(cQ:ks.Nodup)(h0:gcD m keep F H=some (Fs [],Hs []))
 (dO:∀V,V.Nodup→(∀x∈V,x∈ks)→a34 (Fs V) it = .ptr ib 0 0∧∃bT,a01 (Hs V) ib=some (.miter ks V bT))
 (br:∀V i,V.Nodup→(∀x∈V,x∈ks)→i∈ks→i∉V→Wq (cx E M m N g cur) al.toList fZ af nx (.tuple [.bool true,.int .i64 i,.bool true]) (Fs V) ((Hs V).set ib (some (.miter ks (V++[i]) none))) (mlp m keep (Fs (V++[i])) (Hs (V++[i]))))
 (mC:∀V,V.Perm ks→Wq (cx E M m N g cur) al.toList fZ af nx (.tuple [.bool false]) (Fs V) ((Hs V).set ib (some (.miter ks V none))) (mle it e0 F0 H0))
 (hq:Q e0 F0 H0)(he:e0.isN=false:=by rfl)(eX:d0z al.toList=some (it,nx,fZ):=by rfl)(hN:Nat.blt nx N=true:=by rfl):Wp (cx E M m N g cur) (.loop (.seq (.region id al false) af)) F H Q:=by
 subst hk;have key:∀(o aC:List Int) (F':Frm) (H':a03),(aC++o).Perm ks→gcD m (E.keep g cur) F' H'=some (Fs aC,Hs aC)→
  ∃n0,∀lf,n0≤lf→a4g m it (E.keep g cur) ks (c6j E M m N g cur lf (.seq (.region id al false) af)) aC o F' H'=some (e0,F0,H0):=by
  intro o
  induction o with
  |nil=>
   intro aC F' H' hp hg;rw[f4g]at hp;obtain⟨fx,bT,hh⟩:=dO aC (hp.nodup_iff.2 cQ) (λx hx=>hp.mem_iff.1 hx);obtain⟨e,F2,H2,⟨h1,h2,h3⟩,n0,h4⟩:=c6w (id:=id) (fR:=none) eX hN hg fx hh (d2m fx hh) (mC aC hp);refine⟨n0,λlf hl=>?_⟩;unfold a4g;rw[h4 lf hl];subst h1 h2 h3;cases e with
   |normal=>cases he
   |exit i=>rfl
   |ret=>rfl
  |cons i o ih=>
   intro aC F' H' hp hg;have bQ:=hp.nodup_iff.2 cQ;rw[List.nodup_append]at bQ;have aV:∀x∈aC,x∈ks:=λx hx=>hp.mem_iff.1 (by simp[hx]);obtain⟨fx,bT,hh⟩:=dO aC bQ.1 aV;obtain⟨e,F2,H2,h1,n0,h4⟩:=c6w (id:=id) (fR:=some i) eX hN hg fx hh (d2l fx hh) (br aC i bQ.1 aV (hp.mem_iff.1 (by simp)) (λh=>bQ.2.2 i h i (by simp) rfl));cases e with
   |exit id=>exact h1.elim
   |ret=>exact h1.elim
   |normal=>obtain⟨n1,h5⟩:=ih (aC++[i]) F2 H2 (by simpa using hp) h1;refine⟨max n0 n1,λlf hl=>?_⟩;unfold a4g;rw[h4 lf (by omega)];exact h5 lf (by omega)
 obtain⟨n0,bd⟩:=c4s (a9q ks) (P:=λlf o=>a4g m it (E.keep g cur) ks (c6j E M m N g cur lf (.seq (.region id al false) af)) [] o F H=some (e0,F0,H0)) (λo ho=>key o [] F H (b5t ho) h0);refine⟨e0,F0,H0,⟨n0,λlf hl R k=>?_⟩,hq⟩;have cG:b0q (.seq (.region id al false) af)=some it:=by show(d0z al.toList).map (·.1)=some it;rw[eX];rfl
 have bd:=bd lf hl;show a4k E m N (E.keep g) (sem E M) lf cur (.loop (.seq (.region id al false) af)) F H k=_;unfold a4k;rw[cG];show c32 m it (E.keep g cur) (c6j E M m N g cur lf (.seq (.region id al false) af)) F H k=_;unfold c32;have uD:e2q m it (E.keep g cur) F H=some ks:=by obtain⟨fx,bT,hh⟩:=dO [] List.nodup_nil (by simp);unfold e2q;rw[h0];simp only[fx,hh]
 rw[uD];simp only;cases hL:(a9q ks).map λo=>a4g m it (E.keep g cur) ks (c6j E M m N g cur lf (.seq (.region id al false) af)) [] o F H with
 |nil=>have:=f9w (f:=λo=>a4g m it (E.keep g cur) ks (c6j E M m N g cur lf (.seq (.region id al false) af)) [] o F H) (b34 (g1n ks));rw[hL]at this;cases this
 |cons x rs=>
  have hx:∀y∈x::rs,y=some (e0,F0,H0):=by intro y hy;rw[←hL]at hy;obtain⟨o,ho,rfl⟩:=g01.1 hy;exact bd o ho
  rw[hx x (by simp)];have:rs.all (λx=>c90 x (e0,F0,H0))=true:=by rw[f8c];intro y hy;rw[hx y (by simp[hy])];exact c8z _
  simp only[this,f6g]
end
end Go.Ax
/- AxSetS: sets of numbers, as rewrite rules. -/
namespace Go.Ax
section
variable {E:Env}{h:FHeap}{t:TypeId}{ag:Bool}{call:CallF}{F:Frm}{H:a03}
@[go_sem] theorem e8v:b8t E t=bif a9f E t then .uset []else .map [] [] [] 0:=by rfl
@[go_sem] theorem e77(k e:TypeId):b95 (some (.map k e))=true:=by rfl
/-! lookup -/
def d7m(E:Env)(t:TypeId)(ks:List Int)(o:Bool):AV→Option AV
 |.int .i64 i=>bif a9f E t then some (bif o then .tuple [.bool (ks.contains i),.bool (ks.contains i)]else .bool (ks.contains i))else none
 |_=>none
@[go_sem] theorem f5e(ks:List Int)(o:Bool)(i:Int):d7m E t ks o (.int .i64 i)=bif a9f E t then some (bif o then .tuple [.bool (ks.contains i),.bool (ks.contains i)]else .bool (ks.contains i))else none:=by rfl
def g1m(E:Env)(h:FHeap)(t:TypeId)(b:Nat)(k:AV)(o:Bool):Option AObj→Option AV
 |some (.uset ks)=>d7m E t ks o k
 |_=>a2f E h t (.map b) k o
theorem c4q{x k:AV}{o:Bool}(hm:b0r h x=none):a2f E h t x k o=none:=by
 unfold a2f;split
 ·rw[cond_eq_ite];split
  ·rw[hm]
  ·rfl
 ·rfl
@[go_sem] theorem f5d(ks:List Int)(k:AV)(o:Bool):oor (a2f E h t (.iset ks) k o) (b2k E h t (.iset ks) k o)=d7m E t ks o k:=by rw[c4q (by rfl)];simp only[oor,b2k,b59];unfold d7m;cases k<;>first|rfl|(rename_i kk i;cases kk<;>rfl)
/-! update -/
def f0m(E:Env)(t:TypeId)(b:Nat)(ks:List Int):AV→AV→Option Eff
 |.int .i64 i,.bool q=>bif a9f E t&&q then some (.set b (.uset (bif ks.contains i then ks else c5y i ks)))else none
 |_,_=>none
@[go_sem] theorem f7l(b:Nat)(ks:List Int)(i:Int)(q:Bool):f0m E t b ks (.int .i64 i) (.bool q)=bif a9f E t&&q then some (.set b (.uset (bif ks.contains i then ks else c5y i ks)))else none:=by rfl
def e7z(E:Env)(h:FHeap)(t:TypeId)(b:Nat)(k v:AV):Option AObj→Option Eff
 |some (.uset ks)=>f0m E t b ks k v
 |_=>a16 E h t (.map b) k v
@[go_sem] theorem f7m(b:Nat)(k v:AV)(ks:List Int):e7z E h t b k v (some (.uset ks))=f0m E t b ks k v:=by rfl
theorem c6l{b:Nat}{k:AV}(hb:∀ks vs bs cl,h b≠some (.map ks vs bs cl)):a9d E h t (.map b) k=none:=by
 unfold a9d;split
 ·rename_i kt _ b' hu he;cases he;rw[cond_eq_ite];split
  ·split
   ·rename_i hh;exact absurd hh (hb _ _ _ _)
   ·rfl
  ·rfl
 ·rfl
@[go_sem] theorem f7k(b:Nat)(k v:AV):oor (a16 E h t (.map b) k v) (b2e E h t (.map b) k v)=e7z E h t b k v (h b):=by
 have fi:(∀ks,h b≠some (.uset ks))→b2e E h t (.map b) k v=none:=by
  intro hn;unfold b2e;split
  ·rename_i b' i q he;cases he;split
   ·rename_i ks hh;exact absurd hh (hn ks)
   ·rfl
  ·rfl
 cases hb:h b with
 |none=>rw[fi (by rw[hb];simp)];simp only[e7z];cases a16 E h t (.map b) k v<;>rfl
 |some ob=>
  cases ob with
  |uset ks=>
   have:a16 E h t (.map b) k v=none:=by unfold a16;rw[c6l (by rw[hb];simp)]
   rw[this];simp only[oor,e7z];unfold f0m b2e;cases k<;>first|rfl|(rename_i kk i;cases kk<;>first|rfl|(cases v<;>first|rfl|(simp only[hb])))
  |_=>rw[fi (by rw[hb];simp)];simp only[e7z];cases a16 E h t (.map b) k v<;>rfl
/-! delete -/
@[go_sem] theorem e85(x y:Operand)(t u:TypeId):a0w E ag call F H (.call { callee:=.builtin .delete,args:=#[x,y],argTypes:=#[t,u] })=a0j (b7p E (a01 H) t (opv E F x) (opv E F y)) λe=>bif e.fits H.length then some (.tuple [],b1i H e,⟨a0o (opv E F x)++a0o (opv E F y),e.keys H.length⟩)else none:=by refine(a59 (v:=(b7p E (a01 H) t (opv E F x) (opv E F y)).map (.tuple [],·)) rfl rfl rfl).trans ?_;cases b7p E (a01 H) t (opv E F x) (opv E F y)<;>simp[a9e,a0j]
def f6y(E:Env)(t:TypeId)(b:Nat)(i:Int):Option AObj→Option Eff
 |some (.uset ks)=>bif a9f E t then some (.set b (.uset (ks.filter λy=>!decide (y=i))))else none
 |_=>none
@[go_sem] theorem g0a(b:Nat)(i:Int)(ks:List Int):f6y E t b i (some (.uset ks))=bif a9f E t then some (.set b (.uset (ks.filter λy=>!decide (y=i))))else none:=by rfl
@[go_sem] theorem f7i(b:Nat)(i:Int):b7p E h t (.map b) (.int .i64 i)=f6y E t b i (h b):=by
 unfold b7p f6y;cases hb:h b with
 |none=>simp only[hb]
 |some ob=>cases ob<;>simp only[hb]
/-! length -/
/-! ranging -/
@[go_sem] theorem f1i{n:Nat}{ks:List Int}:oor (b4h E n t (.iset ks)) (b3u E n t (.iset ks))=bif b95 (E.und t)then some (.ptr n 0 0,.new (.miter ks [] none))else none:=by
 have:b4h E n t (.iset ks)=none:=by unfold b4h;split<;>first|rfl|(rename_i h;cases h)
 rw[this];rfl
@[go_sem] theorem f0r(it:Operand):a0w E ag call F H (.entry it)=a0j (a98 (a01 H) (opv E F it)) λv=>some (v,H,⟨a0o (opv E F it),[]⟩):=a2b rfl rfl
def f2g:Option AObj→Option AV
 |some (.miter _ b9 _)=>(b9.getLast?).map λi=>.tuple [.int .i64 i,.bool true]
 |_=>none
@[go_sem] theorem f6w(ks b9:List Int)(i:Int)(bT:Option (Option Int)):f2g (some (.miter ks (b9++[i]) bT))=some (.tuple [.int .i64 i,.bool true]):=by simp[f2g]
@[go_sem] theorem f2s(b:Nat):a98 h (.ptr b 0 0)=f2g (h b):=by
 unfold a98 f2g;cases hb:h b with
 |none=>simp only[hb]
 |some ob=>
  cases ob
  case miter ks b9 bT=>simp only[hb];cases b9.getLast?<;>rfl
  all_goals simp only[hb]
/-! frames and heaps -/
variable (π:Nat→Option Nat)
@[go_sem] theorem e6w(ks:List Int):a0x (some (.uset ks))=[]:=by rfl
@[go_sem] theorem e33(ks b9:List Int)(bT:Option (Option Int)):a0x (some (.miter ks b9 bT))=[]:=by rfl
@[go_sem] theorem e32(ks:List Int):a0t π (.uset ks) = .uset ks:=by rfl
@[go_sem] theorem e0w(ks b9:List Int)(bT:Option (Option Int)):a0t π (.miter ks b9 bT) = .miter ks b9 bT:=by rfl
@[go_sem] theorem e7d(ks:List Int):AV.cells (.iset ks)=[.iset ks]:=by rfl
@[go_sem] theorem d6l(ks:List Int):AV.storable (.iset ks)=true:=by rfl
@[go_sem] theorem e2e(ks:List Int):a0o (.iset ks)=[]:=by rfl
end
theorem c3v{h:FHeap}{m n b:Nat}{ks:List Int}(hn:0<n)(hb:h b=some (.uset ks)):a54 h m n (.map b)=some (.iset ks):=by
 obtain⟨n,rfl⟩:∃k,n=k+1:=⟨n-1,by omega⟩
 simp only[a54,hb]
end Go.Ax
/- AxTwo: slices of slices that grow: one block of rows, a block for each that is not empty. -/
namespace Go.Ax
theorem a1g{H L:a03}{c:Nat}(h:(c<H.length)=True):a01 (H++L) c=a01 H c:=by unfold a01;rw[f6d (g06 h)]
theorem a2p{H L:a03}(i:Nat):a01 (H++L) (H.length+i)=a01 L i:=by unfold a01;rw[f8k (by omega)];congr 1;rw[g10]
theorem a1v{H L:a03}:a01 (H++L) H.length=a01 L 0:=a2p 0
theorem b6m{H:a03}{a c:Nat}{o:Option AObj}:a01 (H.set a o) c=if a=c∧a<H.length then o else a01 H c:=by
 unfold a01;rw[f6k];by_cases h:a=c
 ·subst h;by_cases hl:a<H.length
  ·simp[hl]
  ·simp[hl]
 ·simp[h]
theorem a7q{H:a03}{a c:Nat}{o:Option AObj}(h:a≠c):a01 (H.set a o) c=a01 H c:=by rw[b6m,f4n (λe=>h e.1)]
theorem a3r{H:a03}{a c:Nat}{o:Option AObj}(h:(a=c)=False):a01 (H.set a o) c=a01 H c:=a7q (λe=>h▸e)
theorem b44{H:a03}{a:Nat}{o:Option AObj}(h:a<H.length):a01 (H.set a o) a=o:=by rw[b6m,f6e ⟨rfl,h⟩]
def slV(b:Nat)(c:Option Nat):List (List AV)→AV|[]=>.nilslice|_::rs=>.slice b 0 (rs.length+1) c
theorem d6u(b:Nat)(f:List (List AV)):slV b none f=grV b f:=by cases f<;>rfl
theorem a6d{H L:a03}{o:Option AObj}(i:Nat):(H++L).set (H.length+i) o=H++L.set i o:=by rw[List.set_append_right _ _ (by omega),g10]
theorem a4h{H L:a03}{o:Option AObj}:(H++L).set H.length o=H++L.set 0 o:=a6d 0
theorem a9l{H L:a03}{o:Option AObj}{a:Nat}(h:(a<H.length)=True):(H++L).set a o=H.set a o++L:=List.set_append_left _ _ (g06 h)
theorem a3t(n:Nat):(n<n+1)=True:=by simp
theorem a5h{a n k:Nat}(h:(a<n)=True):(a<n+k)=True:=by have:=g06 h;simp;omega
def a72(am:Nat→Nat)(cp:Nat→Option Nat)(fo:List (List (List AV))):List (List AV):=fo.mapIdx λj f=>[slV (am j) (cp j) f]
structure Two(H:a03)(b k:Nat)(am:Nat→Nat)(cp:Nat→Option Nat)(fo:List (List (List AV))):Prop where
 top:a01 H b=some (.row 1 (a72 am cp fo))
 sub:∀(j:Nat) (f:List (List AV)),fo[j]?=some f→f≠[]→a01 H (am j)=some (.row k f)∧am j≠b
 inj:∀(i j:Nat) (f g:List (List AV)),fo[i]?=some f→fo[j]?=some g→f≠[]→g≠[]→am i=am j→i=j
 flat:∀f∈fo,FlatR f
theorem b5m{am:Nat→Nat}{cp:Nat→Option Nat}{fo:List (List (List AV))}{j:Nat}{f:List (List AV)}(h:fo[j]?=some f):(a72 am cp fo)[j]?=some [slV (am j) (cp j) f]:=by unfold a72;rw[f5y,h];rfl
theorem a85(am:Nat→Nat)(cp:Nat→Option Nat)(fo:List (List (List AV))):(a72 am cp fo).length=fo.length:=by unfold a72;simp
theorem c04(b:Nat)(c:Option Nat){f:List (List AV)}:refs (slV b c f)=if f=[]then[]else[b]:=by cases f<;>rfl
theorem b8g{am:Nat→Nat}{cp:Nat→Option Nat}{fo:List (List (List AV))}{c:Nat}:c∈(a72 am cp fo).flatMap a0l↔∃j f,fo[j]?=some f∧f≠[]∧c=am j:=by
 unfold a72;simp only[g2d];constructor
 ·rintro⟨r,hr,hc⟩
  obtain⟨j,hj⟩:=f9g.1 hr;rw[f5y]at hj;cases hf:fo[j]? with
  |none=>rw[hf]at hj;cases hj
  |some f=>
   rw[hf]at hj;cases hj;simp only[a0l,c04,f4g]at hc;split at hc
   ·simp at hc
   ·rename_i aF;exact⟨j,f,hf,aF,by simpa using hc⟩
 ·rintro⟨j,f,hf,aF,rfl⟩
  refine⟨[slV (am j) (cp j) f],f9g.2 ⟨j,by rw[f5y,hf];rfl⟩,?_⟩;simp[a0l,c04,aF]
theorem e2o{π:Nat→Option Nat}{b c:Nat}{q:Option Nat}{f:List (List AV)}(h:f≠[]→π b=some c):ren π (slV b q f)=slV c q f:=by
 cases f with
 |nil=>rfl
 |cons a r=>simp only[slV,ren,h (by simp)]
section
variable {m:Nat}{F:Frm}{H H1:a03}{R:Nat→Prop}{π:Nat→Option Nat}{b k:Nat}{am:Nat→Nat}{cp:Nat→Option Nat}{fo:List (List (List AV))}
theorem Two.ren(hg:Gc m F H R π H1)(h:Two H b k am cp fo)(hb:R b):∃b' aJ,π b=some b'∧Two H1 b' k aJ cp fo:=by
 obtain⟨b',bq⟩:=hg.here b hb;have aV:∀(j:Nat) (f:List (List AV)),fo[j]?=some f→f≠[]→π (am j)=some ((π (am j)).getD 0):=by intro j f hf aF;have:R (am j):=hg.closed b hb _ (by rw[h.top];exact b8g.2 ⟨j,f,hf,aF,rfl⟩);obtain⟨c,hc⟩:=hg.here _ this;rw[hc];rfl
 refine⟨b',λj=>(π (am j)).getD 0,bq,?_,?_,?_,h.flat⟩
 ·rw[hg.heap b b' bq,h.top];simp only[f5x,a0t]
  congr 2
  unfold a72;apply f8l;intro j;simp only[f4q,f5y];cases hf:fo[j]? with
  |none=>rfl
  |some f=>simp only[f5x,c10,f4h,e2o (aV j f hf)]
 ·intro j f hf aF;have e:=aV j f hf aF;obtain⟨h1,h2⟩:=h.sub j f hf aF;refine⟨?_,?_⟩
  ·rw[hg.heap _ _ e,h1];simp only[f5x,a0t,a0c π (h.flat f (c11 hf))]
  ·intro he;rw[he]at e;exact h2 (hg.inj _ _ _ e bq)
 ·intro i j f g hf fU aF jJ e;have e1:=aV i f hf aF;have e2:=aV j g fU jJ;rw[e]at e1;exact h.inj i j f g hf fU aF jJ (hg.inj _ _ _ e1 e2)
theorem Two.app(h:Two H b k am cp fo){j n:Nat}{f:List (List AV)}{x:List AV}(hf:fo[j]?=some f)(hc:cp j=none)(hx:a0l x=[])(hn:H.length≤n)
 (h1:a01 H1 b=some (.row 1 ((a72 am cp fo).set j [.slice n 0 (f.length+1) none])))(h2:a01 H1 n=some (.row k (f++[x])))
 (h3:∀(i:Nat) (g:List (List AV)),i≠j→fo[i]?=some g→g≠[]→a01 H1 (am i)=a01 H (am i)) :
 Two H1 b k (λi=>if i=j then n else am i) cp (fo.set j (f++[x])):=by
 have aS:j<fo.length:=(c13.1 hf).1;have ah:∀(i:Nat) (g:List (List AV)),fo[i]?=some g→g≠[]→am i<H.length:=λi g hg aF=>a0i (h.sub i g hg aF).1;have dZ:b<H.length:=a0i h.top;refine⟨?_,?_,?_,?_⟩
 ·rw[h1]
  congr 2
  apply f8l;intro i;unfold a72;rw[f6k,List.length_mapIdx];by_cases bX:j=i
  ·subst bX;simp only[f9q,aS];rw[f5y,f6k];simp only[f9q,aS,f5x,hc,d6u,c7q]
  ·simp only[f4n bX];rw[f5y,f5y,f6k,f4n bX];simp only[f4n (f9m bX)]
 ·intro i g hg aF;rw[f6k]at hg;by_cases bX:j=i
  ·subst bX;simp only[f9q,aS,Option.some.injEq]at hg;subst hg;simp only[f9q];exact⟨h2,by omega⟩
  ·rw[f4n bX]at hg;simp only[f4n (f9m bX)];rw[h3 i g (f9m bX) hg aF];exact h.sub i g hg aF
 ·intro i i' g g' hg fU aF jJ e;rw[f6k]at hg fU;by_cases bX:j=i<;>by_cases jR:j=i'
  ·omega
  ·subst bX;simp only[f4n jR]at fU;simp only[f9q,f4n (f9m jR)]at e;have:=ah i' g' fU jJ;omega
  ·subst jR;simp only[f4n bX]at hg;simp only[f9q,f4n (f9m bX)]at e;have:=ah i g hg aF;omega
  ·simp only[f4n bX]at hg;simp only[f4n jR]at fU;simp only[f4n (f9m bX),f4n (f9m jR)]at e;exact h.inj i i' g g' hg fU aF jJ e
 ·intro g hg;rcases g0u hg with hg|rfl
  ·exact h.flat g hg
  ·exact(h.flat f (c11 hf)).append (FlatR.cons hx FlatR.nil)
theorem b0b{H:a03}:∀(l:List Nat),(∀c∈l,a0x (a01 H c)=[])→(l.map λc=>(a0x (a01 H c)).length).sum=0
 | [],_=>rfl
 |a::l,h=>by simp only[c10,List.sum_cons,h a (by simp),f4o,b0b l (λc hc=>h c (by simp[hc]))]
theorem Two.gc{keep:List Nat}(h:Two H b k am cp fo)(hF:a0l ((a2c keep F).map (·.2))=[b]∨a0l ((a2c keep F).map (·.2))=[b,b])(hn:fo.length<900000) :
 ∃π b' aJ H1,gcD 0 keep F H=some (c0f π (a2c keep F),H1)∧π b=some b'∧Two H1 b' k aJ cp fo:=by
 -- the blocks that aa lead to
 obtain⟨S,hS⟩:∃S,S=b::((List.range fo.length).filter λj=>(fo[j]?).any λf=>!f.isEmpty).map am:=⟨_,rfl⟩
 have lB:∀c∈((List.range fo.length).filter λj=>(fo[j]?).any λf=>!f.isEmpty).map am,a0x (a01 H c)=[]:=by
  intro c hc;obtain⟨j,hj,rfl⟩:=g01.1 hc;rw[f9s]at hj;have aS:j<fo.length:=by simpa using hj.1
  obtain⟨f,hf⟩:∃f,fo[j]?=some f:=⟨_,z9e aS⟩
  have aF:=hj.2;rw[hf]at aF;rw[(h.sub j f hf (λe=>by rw[e]at aF;simp at aF)).1];exact a0r (h.flat f (c11 hf))
 have l5:((((List.range fo.length).filter λj=>(fo[j]?).any λf=>!f.isEmpty).map am).map λc=>(a0x (a01 H c)).length).sum=0:=by exact b0b _ lB
 have dC:(a0x (a01 H b)).length≤fo.length:=by
  rw[h.top];show((a72 am cp fo).flatMap a0l).length≤_;have:∀(l:List (List AV)),(∀r∈l,(a0l r).length≤1)→(l.flatMap a0l).length≤l.length:=by
   intro l
   induction l with
   |nil=>intro _;simp
   |cons r l ih=>intro hl;have h1:=hl r (by simp);have h2:=ih (λr hr=>hl r (by simp[hr]));simp only[f9j,f5z,e12];omega
  have h2:=this (a72 am cp fo) (by
   intro r hr;obtain⟨j,hj⟩:=f9g.1 hr;unfold a72 at hj;rw[f5y]at hj;cases hf:fo[j]? with
   |none=>rw[hf]at hj;cases hj
   |some f=>rw[hf]at hj;cases hj;simp only[a0l,c04];split<;>simp)
  rw[a85]at h2;exact h2
 obtain⟨R,π,H1,g1,g2,_⟩:=c7u (m:=0) (keep:=keep) (F:=F) (H:=H) (f4m _) S (by intro c hc;rcases hF with hF|hF<;>rw[hF]at hc<;>simp at hc<;>subst hc<;>simp[hS]) (λc hc=>absurd hc (f9t c)) (by
  intro c hc d hd;simp only[hS,f6m]at hc;rcases hc with rfl|hc
  ·rw[h.top]at hd;obtain⟨j,f,hf,aF,rfl⟩:=b8g.1 hd;simp only[hS,f6m];refine .inr (g01.2 ⟨j,f9s.2 ⟨by simpa using(c13.1 hf).1,?_⟩,rfl⟩);rw[hf];cases f with|nil=>exact absurd rfl aF|cons=>rfl
  ·rw[lB c hc]at hd;simp at hd) (by
  have hl:(a0l ((a2c keep F).map (·.2))).length≤2:=by rcases hF with hF|hF<;>rw[hF]<;>simp
  simp only[hS,c10,List.sum_cons,l5,f6b,List.flatMap_nil,f4o];omega)
 obtain⟨b',aJ,e1,e2⟩:=h.ren g2 (g2.refs b (by rcases hF with hF|hF<;>rw[hF]<;>simp));exact⟨π,b',aJ,H1,g1,e1,e2⟩
theorem Two.clip(h:Two H b k am cp fo){j c:Nat}{f:List (List AV)}(hf:fo[j]?=some f)(h1:a01 H1 b=some (.row 1 ((a72 am cp fo).set j [slV (am j) (some c) f])))
 (h3:∀c,c≠b→a01 H1 c=a01 H c):Two H1 b k am (λi=>if i=j then some c else cp i) fo:=by
 have aS:j<fo.length:=(c13.1 hf).1;refine⟨?_,λi g hg aF=>?_,h.inj,h.flat⟩
 ·rw[h1]
  congr 2
  apply f8l;intro i;unfold a72;rw[f6k,List.length_mapIdx];by_cases bX:j=i
  ·subst bX;simp only[f9q,aS];rw[f5y,hf];simp
  ·simp only[f4n bX];rw[f5y,f5y];simp only[f4n (f9m bX)]
 ·obtain⟨g1,g2⟩:=h.sub i g hg aF;rw[h3 _ g2];exact⟨g1,g2⟩
def slF(c:Option Nat):List (List AV)→AV|[]=>.nilslice|r::rs=>.islice (r::rs) c
theorem Two.frz(h:Two H b k am cp fo)(c:Option Nat):a4j 0 true (a54 (a01 H) 0 12) (.slice b 0 fo.length c)=some (.islice (fo.mapIdx λj f=>[slF (cp j) f]) c):=by
 have key:∀(aa:List (List AV)) (aD:List (List AV)),aa.length=aD.length→(∀(j:Nat) r o,aa[j]?=some r→aD[j]?=some o→a5t 0 false (a54 (a01 H) 0 11) r=some o)→a9g 0 (a54 (a01 H) 0 11) aa=some aD:=by
  intro aa
  induction aa with
  |nil=>intro aD hl _;cases aD with|nil=>rfl|cons=>simp at hl
  |cons r aa ih=>
   intro aD hl hh;cases aD with
   |nil=>simp at hl
   |cons o aD=>rw[b6r,hh 0 r o rfl rfl];simp only[a0j];rw[ih aD (by simpa using hl) (λj r o hr ho=>hh (j+1) r o (by simpa using hr) (by simpa using ho))]
 have wG:∀x,a54 (a01 H) 0 12 x=a54 (a01 H) 0 (11+1) x:=λ_=>rfl;rw[a7a,f9e (f9t b),f7z,a5z (g1p (by omega:0<12)),h.top];simp only[b0d,a0j,a85,f9o,f8j];rw[f8b (f6l _),f6g,←a85 am cp fo,f6i];rw[key (a72 am cp fo) (fo.mapIdx λj f=>[slF (cp j) f]) (by rw[a85];simp)];intro j r o hr ho;rw[f5y]at ho;cases hf:fo[j]? with
 |none=>rw[hf]at ho;cases ho
 |some f=>
  rw[hf]at ho;rw[b5m hf]at hr;cases ho;cases hr;rw[a3n,a7s];cases f with
  |nil=>rfl
  |cons x xs=>obtain⟨g1,_⟩:=h.sub j _ hf (by simp);have aY:=h.flat _ (c11 hf);simp only[slV,slF];rw[a7a,f9e (f9t _),f7z,a5z (g1p (by omega:0<11)),g1];simp only[b0d,a0j,f9o,f8j];rw[f8b (by simp),f6g];have:List.take (xs.length+1) (x::xs)=x::xs:=f6i (l:=x::xs);rw[this,a12 _ _ aY]
end
theorem Two.more{H L:a03}{b k:Nat}{am:Nat→Nat}{cp:Nat→Option Nat}{fo:List (List (List AV))}(h:Two H b k am cp fo):Two (H++L) b k am cp fo:=by
 have hl:∀{c:Nat} {o:AObj},a01 H c=some o→a01 (H++L) c=some o:=λhc=>by rw[a1g (g1p (a0i hc))];exact hc
 exact⟨hl h.top,λj f hf aF=>⟨hl (h.sub j f hf aF).1,(h.sub j f hf aF).2⟩,h.inj,h.flat⟩
theorem a5k{H L:a03}{a:Nat}{o:Option AObj}(i:Nat):a01 (H.set a o++L) (H.length+i)=a01 L i:=by
 have:=a2p (H:=H.set a o) (L:=L) i
 rwa [f6j]at this
theorem a1a{H L:a03}{a c:Nat}{o:Option AObj}(hc:c<H.length):a01 (H.set a o++L) c=if a=c then o else a01 H c:=by
 rw[a1g (g1p (by rw[f6j];exact hc)),b6m];by_cases h:a=c
 ·subst h;simp[hc]
 ·simp[h]
section
variable {H:a03}{b k:Nat}{am:Nat→Nat}{cp:Nat→Option Nat}{fo:List (List (List AV))}{j:Nat}{x:List AV}{o:Option AObj}
theorem Two.app1(h:Two H b k am cp fo)(hf:fo[j]?=some [])(hc:cp j=none)(hx:a0l x=[]) :
 Two (H.set b (some (.row 1 ((a72 am cp fo).set j [.slice (H.length+1) 0 1 none])))++[o,some (.row k [x])]) b k (λi=>if i=j then H.length+1 else am i) cp (fo.set j [x]):=by
 have dZ:=a0i h.top;refine h.app hf hc hx (by omega) ?_ ?_ ?_
 ·rw[a1a dZ,f6e rfl];rfl
 ·rw[a5k];rfl
 ·intro i g bX hg aF;obtain⟨g1,g2⟩:=h.sub i g hg aF;rw[a1a (a0i g1),f4n (f9m g2)]
theorem Two.app2{a:List AV}{r:List (List AV)}(h:Two H b k am cp fo)(hf:fo[j]?=some (a::r))(hc:cp j=none)(hx:a0l x=[]) :
 Two ((H.set (am j) none).set b (some (.row 1 ((a72 am cp fo).set j [.slice (H.length+1) 0 (r.length+1+1) none])))++[o,some (.row k (a::(r++[x])))]) b k (λi=>if i=j then H.length+1 else am i) cp (fo.set j (a::r++[x])):=by
 have dZ:=a0i h.top;have aQ:(H.set (am j) none).length=H.length:=f6j;refine h.app hf hc hx (by omega) ?_ ?_ ?_
 ·rw[a1a (by rw[aQ];exact dZ),f6e rfl];rfl
 ·have:=a5k (H:=H.set (am j) none) (L:=[o,some (.row k (a::(r++[x])))]) (a:=b) (o:=some (.row 1 ((a72 am cp fo).set j [.slice (H.length+1) 0 (r.length+1+1) none]))) 1;rw[aQ]at this;rw[this];rfl
 ·intro i g bX hg aF;obtain⟨g1,g2⟩:=h.sub i g hg aF;rw[a1a (by rw[aQ];exact a0i g1),f4n (f9m g2),a7q];intro e;exact bX (h.inj i j g (a::r) hg hf aF (by simp) e.symm)
end
theorem a7m{keep:List Nat}{F:Frm}{H:a03}{b k:Nat}{am:Nat→Nat}{cp:Nat→Option Nat}{fo:List (List (List AV))}{P:Frm→a03→Prop}(h:Two H b k am cp fo)(hF:a0l ((a2c keep F).map (·.2))=[b]∨a0l ((a2c keep F).map (·.2))=[b,b])(hn:fo.length<900000)
 (hP:∀π b' aJ H1,π b=some b'→Two H1 b' k aJ cp fo→P (c0f π (a2c keep F)) H1):∃F1 H1,gcD 0 keep F H=some (F1,H1)∧P F1 H1:=by
 obtain⟨π,b',aJ,H1,g1,g2,g3⟩:=h.gc hF hn;exact⟨_,H1,g1,hP π b' aJ H1 g2 g3⟩
def fqE(E:Env)(g:FuncId)(m:Nat)(results:List ResultVar)(P:AV×a03→Prop):b2o:=λe F H=>match e with|.exit _=>False|_=>∃vs r,a1h E F H results=some vs∧a1f (E.thaw g) m (a5q vs) H=some r∧P r
theorem a5l{E:Env}{g:FuncId}{m:Nat}{results:List ResultVar}{P:AV×a03→Prop}{F:Frm}{H:a03}{vs:List AV}{r:AV×a03}(h1:a1h E F H results=some vs)(h2:a1f (E.thaw g) m (a5q vs) H=some r)(h3:P r):fqE E g m results P .ret F H:=⟨vs,r,h1,h2,h3⟩
theorem c3w{E:Env}{g:FuncId}{m:Nat}{results:List ResultVar}{P:AV×a03→Prop}{F:Frm}{H:a03}{vs:List AV}{r:AV×a03}(h1:a1h E F H results=some vs)(h2:a1f (E.thaw g) m (a5q vs) H=some r)(h3:P r):fqE E g m results P .normal F H:=⟨vs,r,h1,h2,h3⟩
theorem e2r{E:Env}{M:List Fact}{g:FuncId}{args:List AV}{H:a03}{code:Code}{N:Nat}{results:List ResultVar}{P:AV×a03→Prop}
 (cj:E.fn g=some ⟨code,N,results⟩)(dv:∀y∈M,y.g≠g)(hN:Nat.ble args.length N=true){m:Nat}(hm:H.length=m)(h:Wp (cx E M m N g 0) code (a5u 0 args) H (fqE E g m results P))(hp:E.prim g args=none:=by rfl)(hz:E.zf g=false:=by rfl):∃r,P r∧sem E M g args H=some r:=by
 subst hm;obtain⟨e,F',H',h1,h2⟩:=c8p _ h;cases e with
 |normal=>obtain⟨vs,⟨v,H2⟩,h3,h4,h5⟩:=h2;exact⟨_,h5,c70 cj dv hN h1 (λ_ h=>by cases h) h3 h4 hp hz⟩
 |ret=>obtain⟨vs,⟨v,H2⟩,h3,h4,h5⟩:=h2;exact⟨_,h5,c70 cj dv hN h1 (λ_ h=>by cases h) h3 h4 hp hz⟩
 |exit id=>exact h2.elim
theorem svE{E:Env}{M:List Fact}{g:FuncId}{args:List AV}{H:a03}{P:AV×a03→Prop}(f:Func)(h:Wp (cx E M H.length f.ntmps g 0) (f.body.getD .skip) (a5u 0 args) H (fqE E g H.length f.results.toList P))(cj:E.fn g=some ⟨f.body.getD .skip,f.ntmps,f.results.toList⟩:=by kernel_rfl)
 (dv:(M.all λy=>!Nat.beq y.g g)=true:=by rfl)(hN:Nat.ble args.length f.ntmps=true:=by rfl)(hp:E.prim g args=none:=by rfl)(hz:E.zf g=false:=by rfl):∃r,P r∧sem E M g args H=some r:=e2r cj (λy hy e=>by
 have:=f8c.1 dv y hy;rw[e]at this;simp at this) hN rfl h hp hz
end Go.Ax
/- AxCall3: calls over two blocks, which they may write. -/
namespace Go.Ax
theorem b42{σ:List Nat}{n:Nat}{H1:a03}:∀(s:Nat) (H:a03) (i:Nat),(a1d σ n H1 s H)[i]?=(H[i]?).map λo=>match σ.idxOf? (s+i)with|some j=>(a01 H1 j).map (a0t (a1w σ n))|none=>o
 |s,[],i=>by simp[a1d]
 |s,o::H,0=>by simp[a1d];rfl
 |s,o::H,i+1=>by simp only[a1d,f8h,b42 (s+1) H i];rw[show s+1+i=s+(i+1) by omega]
theorem d24{H:a03}{a b:Nat}(bu:a≠b)(ha:a0x (a01 H a)=[])(hb:a0x (a01 H b)=[]):a3g H 1000000 [a,b] []=[a,b]:=by
 have e:a3g H (999996+4) [a,b] []=[a,b]:=by
  unfold a3g;simp only[a1n,f7z,ha,e14];unfold a3g;have h1:a1n [a] b=false:=by
   cases hc:a1n [a] b with
   |false=>rfl
   |true=>exact absurd (by simpa using a3i.1 hc) (f9m bu)
  simp only[h1,f7z,hb,e14];unfold a3g;rfl
 exact e
theorem b7f{E:Env}{ag:Bool}{call:CallF}{g:FuncId}{fs cs ar args:List AV}{H:a03}{v v':AV}{a b:Nat}{o1 o2 p1 p2:AObj}(hx:E.ext g=false)(hf:(E.fn g).isSome=true)(he:fs++ar++cs=args)
 (bu:a≠b)(ha:a01 H a=some o1)(hb:a01 H b=some o2)(ez:a0x (some o1)=[])(eW:a0x (some o2)=[])(kO:FlatO (some o1))(mB:FlatO (some o2))(aL:a0l args=[a,b])
 {au:List AV}(pz:args.map (ren (b0m [a,b]))=au)(hr:call g au [some o1,some o2]=some (v,[some p1,some p2]))(fL:FlatO (some p1))(dW:FlatO (some p2))(hv:ren (a1w [a,b] H.length) v=v') :
 a0b E ag call (.func (.func g) fs cs) ar H=some (v',(H.set a (some p1)).set b (some p2),[a,b]):=by
 have l1:=a0i ha;have l2:=a0i hb;have hn:a6g [a,b]=true:=b60 (by simp[bu]);have hc:=a2m (call g) args H (σ:=[a,b]) (by rw[aL];exact d24 bu (by rw[ha];exact ez) (by rw[hb];exact eW)) hn (by simp[l1,l2]) pz (H0:=[some o1,some o2])
  (by simp only[a5a,c10,f4h,ha,hb];rw[kO,mB]) hr
 have jh:a1d [a,b] H.length [some p1,some p2] 0 H=(H.set a (some p1)).set b (some p2):=by
  apply f8l;intro i;rw[b42,f6k,f6k,f6j,f8j];by_cases kM:a=i
  ·subst kM;have e:([a,b]:List Nat).idxOf? a=some 0:=by simp[g0v]
   rw[z9e l1];simp only[f5x,e,f4n (f9m bu),f9q,l1]
   congr 1
   exact fL _
  ·by_cases km:b=i
   ·subst km;have e:([a,b]:List Nat).idxOf? b=some 1:=by simp[g0v,bu]
    rw[z9e l2];simp only[f5x,e,f9q,l2]
    congr 1
    exact dW _
   ·have e:([a,b]:List Nat).idxOf? i=none:=by simp[g0v,kM,km]
    rw[f4n km,f4n kM];cases H[i]? with
    |none=>rfl
    |some o=>simp only[f5x,e]
 rw[hv,jh]at hc;simp only[List.drop_succ_cons,f9o,f4h,f4g,e12,f4o]at hc;exact a95 hx hf he hc (by simp)
theorem c5f(a b o l:Nat)(c:Option Nat):ren (b0m [a,b]) (.slice a o l c) = .slice 0 o l c:=by simp[ren,b0m,g0v]
theorem d1y{a b:Nat}(h:a≠b)(i o:Nat):ren (b0m [a,b]) (.ptr b i o) = .ptr 1 i o:=by simp[ren,b0m,g0v,h]
end Go.Ax
/- AxTab: a table of rows of words in blocks, wherever they lie; heads of loops and calls over it. -/
namespace Go.Ax
structure Mv(H:a03)(R:Nat→Prop)(π:Nat→Option Nat)(H1:a03):Prop where
 inj:∀a b c,π a=some c→π b=some c→a=b
 closed:∀b,R b→∀c∈a0x (a01 H b),R c
 here:∀b,R b→∃c,π b=some c
 heap:∀b c,R b→π b=some c→a01 H1 c=(a01 H b).map (a0t π)
theorem Gc.mv{m:Nat}{F:Frm}{H H1:a03}{R:Nat→Prop}{π:Nat→Option Nat}(g:Gc m F H R π H1):Mv H R π H1:=⟨g.inj,g.closed,g.here,λb c _ h=>g.heap b c h⟩
section
variable {H H1:a03}{R:Nat→Prop}{π:Nat→Option Nat}{a b q:Nat}{am:Nat→Nat}{w:Nat}{fo:List (List (BitVec 64))}{fr:Int}
end
/-! ### calls, wherever the blocks lie -/
end Go.Ax
/- AxTab2: a table that a call has been given: heads of loops and calls that write it. -/
namespace Go.Ax
section
variable {H H1:a03}{a b q:Nat}{am:Nat→Nat}{w:Nat}{fo:List (List (BitVec 64))}{fr:Int}
mutual
theorem b5o{m:Nat}{π:Nat→Option Nat}(hπ:∀c,c<m→π c=some c):∀(v:AV),(∀c∈refs v,c<m)→ren π v=v
 |.ptr b i o,h=>by simp only[ren,hπ b (h b (by simp[refs]))]
 |.slice b o l c,h=>by simp only[ren,hπ b (h b (by simp[refs]))]
 |.map b,h=>by simp only[ren,hπ b (h b (by simp[refs]))]
 |.yfn b,h=>by simp only[ren,hπ b (h b (by simp[refs]))]
 |.func fn fs cs,h=>by simp only[refs,f8n]at h;simp only[ren,a6t hπ fs (λc hc=>h c (.inl hc)),a6t hπ cs (λc hc=>h c (.inr hc))]
 |.iface t x,h=>by simp only[refs]at h;simp only[ren,b5o hπ x h]
 |.agg cs,h=>by simp only[refs]at h;simp only[ren,a6t hπ cs h]
 |.tuple cs,h=>by simp only[refs]at h;simp only[ren,a6t hπ cs h]
 |.junk,_|.bool _,_|.int ..,_|.str _,_|.nilptr,_|.nilslice,_|.nilmap,_|.nilfunc,_|.nilifc,_|.iptr _,_|.islice ..,_|.imap ..,_|.iset _,_=>rfl
theorem a6t{m:Nat}{π:Nat→Option Nat}(hπ:∀c,c<m→π c=some c):∀(l:List AV),(∀c∈a0l l,c<m)→c4w π l=l
 | [],_=>rfl
 |v::vs,h=>by simp only[a0l,f8n]at h;simp only[c4w,b5o hπ v (λc hc=>h c (.inl hc)),a6t hπ vs (λc hc=>h c (.inr hc))]
end
theorem b0e{m:Nat}{π:Nat→Option Nat}(hπ:∀c,c<m→π c=some c)(l:List AV)(h:∀c∈a0l l,c<m):l.map (ren π)=l:=by rw[←a9o];exact a6t hπ l h
theorem c94{m:Nat}{π:Nat→Option Nat}(hπ:∀c,c<m→π c=some c)(o:AObj)(h:∀c∈a0x (some o),c<m):a0t π o=o:=by
 cases o with
 |row k aa=>
  simp only[a0t]
  congr 1
  conv=>rhs;rw[←List.map_id aa]
  refine f8e λr hr=>?_;refine b0e hπ r λe he=>h e ?_;simp only[a0x,g2d];exact⟨r,hr,he⟩
 |map ks vs bs cl=>simp only[a0t];rw[b0e hπ ks (λe he=>h e (by simp[a0x,he])),b0e hπ vs (λe he=>h e (by simp[a0x,he]))]
 |siter s p=>rfl
 |uset ks=>rfl
 |miter ks b9 bT=>rfl
 |yloop y Fy st=>
  simp only[a0t]
  congr 1
  conv=>rhs;rw[←List.map_id Fy]
  refine f8e λx hx=>?_;rw[b5o hπ x.2 λc hc=>h c (d23 hx hc)];rfl
theorem d2w(H:a03):∀m,m≤H.length→((H.take m).flatMap a0x).length=((List.range m).map λc=>(a0x (a01 H c)).length).sum
 |0,_=>rfl
 |m+1,h=>by
  have ih:=d2w H m (by omega);rw[f9k,f6c,List.sum_append,←ih,List.take_add_one,List.flatMap_append,f5z]
  congr 1
  rw[z9e (by omega)];simp[a01,z9e (show m<H.length by omega)]
theorem b8j{m:Nat}{π:Nat→Option Nat}(hπ:∀c,c<m→π c=some c):∀F:Frm,(∀c∈a0l (F.map (·.2)),c<m)→c0f π F=F
 | [],_=>rfl
 |(s,v)::F,h=>by simp only[c10,a0l,f8n]at h;have:=b0e hπ [v] (by simp only[a0l,f4g];exact λc hc=>h c (.inl hc));simp only[c10,f4h,List.cons.injEq,and_true]at this;rw[d20,this,b8j hπ F (λc hc=>h c (.inr hc))]
end
theorem b40(a b:List AV):a0l (a++b)=a0l a++a0l b:=by
 induction a with
 |nil=>rfl
 |cons v a ih=>simp only[f6a,a0l,ih,f4i]
end Go.Ax
/- AxLow: a loop's head over blocks that all stood before the call and refer to nothing. -/
namespace Go.Ax
theorem d8l{H H1:a03}(hl:H1.length=H.length)(h:∀b,b<H.length→a01 H1 b=a01 H b):H1=H:=by apply List.ext_getElem hl;intro b h1 h2;have:=h b h2;unfold a01 at this;rw[z9e h1,z9e h2]at this;exact this
theorem e9c{keep:List Nat}{F F':Frm}{H:a03}(hk:a2c keep F=F')(hF:∀b∈a0l (F'.map (·.2)),b<H.length)(hn:(a0l (F'.map (·.2))).length<1000)(hH:∀b,a0x (a01 H b)=[]):gcD H.length keep F H=some (F',H):=by
 subst hk;have l5:((List.range H.length).map λb=>(a0x (a01 H b)).length).sum=0:=by
  have:((List.range H.length).map λb=>(a0x (a01 H b)).length)=List.replicate H.length 0:=by rw[←f8g (n:=H.length),←List.map_const',f8g];exact f8e λb _=>by rw[hH];rfl
  rw[this];simp
 have aY:(H.take H.length).flatMap a0x=[]:=by rw[f6i,List.flatMap_eq_nil_iff];intro o ho;obtain⟨b,hb⟩:=f9g.1 ho;have:=hH b;unfold a01 at this;rw[hb]at this;exact this
 obtain⟨R,π,H1,h1,hg,hl⟩:=c7u (m:=H.length) (keep:=keep) (F:=F) (H:=H) (f6l _) (List.range H.length) (λb hb=>g0y.2 (hF b hb)) (λb _ c hc=>by rw[hH]at hc;simp at hc) (λb _ c hc=>by rw[hH]at hc;simp at hc) (by rw[l5,aY];simp only[f4o];omega);have ai:H1.length=H.length:=by have:=hg.len [] (λb hR hb=>by have:=hg.least (λb=>b<H.length) hF (λb _ c hc=>by rw[hH]at hc;simp at hc) (λb _ c hc=>by rw[hH]at hc;simp at hc) b hR;omega);simp only[f4o,g1w]at this;omega
 rw[h1,b8j hg.low _ hF];have:H1=H:=d8l ai λb hb=>by
  rw[hg.heap b b (hg.low b hb)];cases ho:a01 H b with
  |none=>rfl
  |some o=>have h2:=hH b;rw[ho]at h2;simp only[f5x];rw[c94 hg.low o (λc hc=>by rw[h2]at hc;simp at hc)]
 rw[this]
end Go.Ax
/- AxLd: lent calls in the walks. -/
namespace Go.Ax
theorem b3q{E:Env}{ag:Bool}{call:CallF}{g:FuncId}{fs cs as args au:List AV}{H H1:a03}{v v':AV}(hx:E.ext g=true)(hf:(E.fn g).isSome=true)(he:fs++as++cs=args)(h1:a5t 0 false (a54 (a01 H) 0 12) args=some au)(hr:call g au []=some (v,H1))(hn:noI v=true)(hv:a4j 0 false (a54 (a7w H1) 0 12) v=some v') :
 a0b E ag call (.func (.func g) fs cs) as H=some (v',H,List.range H.length):=by
 simp only[a0b,hx,hf,he,f6g,a9y,h1,hr,hn,hv]
end Go.Ax
/- AxLog: the look at a drawn region's log, the order first. -/
namespace Go.Ax
def a8v(all:List Oper)(j:Nat)(y:LogE):Nat→List LogE→Bool
 |_,[]=>true
 |0,_::_=>false
 |i+1,x::af=>(a5e all i j || !(x.clash y))&&a8v all j y i af
def b1w(all:List Oper):Nat→List LogE→Bool
 |_,[]=>true
 |0,_::_=>false
 |j+1,y::af=>a8v all j y j af&&b1w all j af
theorem b8y(all:List Oper)(j:Nat)(y:LogE):∀(i:Nat) (l:List LogE),a8v all j y i l=logOk.logRow all j y i l
 |_,[]=>by unfold a8v logOk.logRow;rfl
 |0,_::_=>by unfold a8v logOk.logRow;rfl
 |i+1,x::af=>by unfold a8v logOk.logRow;rw[b8y all j y i af,Bool.or_comm]
theorem c36(all:List Oper):∀(i:Nat) (l:List LogE),b1w all i l=logOk all i l
 |_,[]=>by unfold b1w logOk;rfl
 |0,_::_=>by unfold b1w logOk;rfl
 |j+1,y::af=>by unfold b1w logOk;rw[c36 all j af,b8y]
theorem xs2{F F1:Frm}{H H1:a03}{Q:b2o}{E:Env}{M:List Fact}{m N:Nat}{g:FuncId}{cur:Nat}{id al ag}{log:List LogE}(h:a8j E ag N (sem E M) al.toList al.toList [] F H=some (F1,H1,log))(hl:(!ag||b1w al.toList log.length log)=true)(hq:Q .normal F1 H1):Wp (cx E M m N g cur) (.region id al ag) F H Q:=xs h (by rw[←c36];exact hl) hq
def d12(all:List Oper)(j:Nat)(y:LogE):List LogE→Prop
 | []=>True
 |x::af=>(a5e all af.length j=true∨x.clash y=false)∧d12 all j y af
def d5y(all:List Oper):List LogE→Prop
 | []=>True
 |y::af=>d12 all af.length y af∧d5y all af
theorem a8w{all:List Oper}:d5y all []:=by unfold d5y;trivial
theorem a77{all:List Oper}{y:LogE}{af:List LogE}(h1:d12 all af.length y af)(h2:d5y all af):d5y all (y::af):=by unfold d5y;exact⟨h1,h2⟩
theorem a8o{all:List Oper}{j:Nat}{y:LogE}:d12 all j y []:=by unfold d12;trivial
theorem a8n{all:List Oper}{j:Nat}{y x:LogE}{af:List LogE}(h1:a5e all af.length j=true)(h2:d12 all j y af):d12 all j y (x::af):=by unfold d12;exact⟨.inl h1,h2⟩
theorem a8p{all:List Oper}{j:Nat}{y x:LogE}{af:List LogE}(h1:x.clash y=false)(h2:d12 all j y af):d12 all j y (x::af):=by unfold d12;exact⟨.inr h1,h2⟩
theorem d1w{all:List Oper}{j:Nat}{y:LogE}:∀{l:List LogE},d12 all j y l→a8v all j y l.length l=true
 | [],_=>by unfold a8v;rfl
 |x::af,h=>by
  rw[e12];unfold a8v;rw[d1w h.2,Bool.and_true];rcases h.1 with h1|h1
  ·rw[h1,Bool.true_or]
  ·rw[h1];simp
theorem d2y{all:List Oper}:∀{l:List LogE},d5y all l→b1w all l.length l=true
 | [],_=>by unfold b1w;rfl
 |y::af,h=>by rw[e12];unfold b1w;rw[d2y h.2,Bool.and_true];exact d1w h.1
theorem xs3{F F1:Frm}{H H1:a03}{Q:b2o}{E:Env}{M:List Fact}{m N:Nat}{g:FuncId}{cur:Nat}{id al ag}{log:List LogE}(h:a8j E ag N (sem E M) al.toList al.toList [] F H=some (F1,H1,log))(hl:d5y al.toList log)(hq:Q .normal F1 H1):Wp (cx E M m N g cur) (.region id al ag) F H Q:=xs2 h (by rw[d2y hl];simp) hq
theorem a7d{x y:LogE}(h1:∀a∈x.keys,a∉y.needs)(h2:∀a∈x.keys,a∉y.keys)(h3:∀a∈x.needs,a∉y.keys):x.clash y=false:=by
 have hm:∀l k:List Nat,(∀a∈l,a∉k)→b64 l k=false:=by
  intro l k h;unfold b64;rw[List.any_eq_false];intro a ha;have:=h a ha;rw[Bool.not_eq_true];cases hc:a1n k a with
  |false=>rfl
  |true=>exact absurd (a3i.1 hc) this
 unfold LogE.clash;rw[hm _ _ h1,hm _ _ h2,hm _ _ h3];rfl
theorem c6v{F:Frm}{H:a03}{Q:b2o}{E:Env}{M:List Fact}{m N:Nat}{g:FuncId}{cur:Nat}{id al ag}(R:Frm→a03→Prop)(h:∃F1 H1 log,a8j E ag N (sem E M) al.toList al.toList [] F H=some (F1,H1,log)∧d5y al.toList log∧R F1 H1)(hq:∀F1 H1,R F1 H1→Q .normal F1 H1):Wp (cx E M m N g cur) (.region id al ag) F H Q:=by obtain⟨F1,H1,log,h1,h2,h3⟩:=h;exact xs3 h1 h2 (hq _ _ h3)
theorem a76{ag:Bool}{E:Env}{M:List Fact}{N:Nat}{al:List Oper}{F F1:Frm}{H H1:a03}{log:List LogE}{R:Frm→a03→Prop}(h1:a8j E ag N (sem E M) al al [] F H=some (F1,H1,log))(h2:d5y al log)(h3:R F1 H1):∃F1 H1 log,a8j E ag N (sem E M) al al [] F H=some (F1,H1,log)∧d5y al log∧R F1 H1:=⟨_,_,_,h1,h2,h3⟩
theorem e22{F:Frm}{H:a03}{Q:b2o}{E:Env}{M:List Fact}{m N:Nat}{g:FuncId}{cur:Nat}{id al}(R:Frm→a03→Prop)(h:∃F1 H1 log,a8j E false N (sem E M) al.toList al.toList [] F H=some (F1,H1,log)∧R F1 H1)(hq:∀F1 H1,R F1 H1→Q .normal F1 H1):Wp (cx E M m N g cur) (.region id al false) F H Q:=by obtain⟨F1,H1,log,h1,h3⟩:=h;exact xs h1 rfl (hq _ _ h3)
theorem b8u{ag:Bool}{E:Env}{M:List Fact}{N:Nat}{al:List Oper}{F F1:Frm}{H H1:a03}{log:List LogE}{R:Frm→a03→Prop}(h1:a8j E ag N (sem E M) al al [] F H=some (F1,H1,log))(h3:R F1 H1):∃F1 H1 log,a8j E ag N (sem E M) al al [] F H=some (F1,H1,log)∧R F1 H1:=⟨_,_,_,h1,h3⟩
theorem a2l{H L:a03}{a b d:Nat}{x y:Option AObj}(hd:d<H.length):a01 ((H.set a x).set b y++L) d=if b=d then y else if a=d then x else a01 H d:=by
 rw[a1a (by rw[f6j];exact hd)];by_cases h1:b=d
 ·rw[f6e h1,f6e h1]
 ·rw[f4n h1,f4n h1];have:=a1a (H:=H) (L:=[]) (a:=a) (o:=x) hd
  rwa [f4g]at this
theorem a8c{H L:a03}{a b:Nat}{x y:Option AObj}(i:Nat):a01 ((H.set a x).set b y++L) (H.length+i)=a01 L i:=by
 have:=a5k (H:=H.set a x) (L:=L) (a:=b) (o:=y) i
 rwa [f6j]at this
end Go.Ax
/- AxTab3: calls that are given a table (and a list in a block). -/
namespace Go.Ax
end Go.Ax
/- AxTab4: a table that is being c7h; heads of the loops that make and fill it. -/
namespace Go.Ax
section
variable {H H1:a03}{R:Nat→Prop}{π:Nat→Option Nat}{a b:Nat}{am:Nat→Nat}{w n i:Nat}
end
theorem e9a{m:Nat}{keep:List Nat}{F:Frm}{H:a03}{P:Frm→a03→Prop}(hm:m≤H.length)(S:List Nat)(h1:∀b∈a0l ((a2c keep F).map (·.2)),b∈S)(h2:∀b,b<m→a0x (a01 H b)=[])(h3:∀b∈S,∀c∈a0x (a01 H b),c∈S)
 (hc:(S.map λb=>(a0x (a01 H b)).length).sum≤100000)(hl:(a0l ((a2c keep F).map (·.2))).length≤100)
 (hP:∀(R:Nat→Prop) (π:Nat→Option Nat) (H1:a03),Gc m (a2c keep F) H R π H1→m≤H1.length→P (c0f π (a2c keep F)) H1):∃F1 H1,gcD m keep F H=some (F1,H1)∧P F1 H1:=by
 have cN:((H.take m).flatMap a0x).length=0:=by rw[d2w H m hm];have:∀l:List Nat,(∀c∈l,a0x (a01 H c)=[])→(l.map λc=>(a0x (a01 H c)).length).sum=0:=b0b;exact this _ (λc hc=>h2 c (by simpa using hc))
 obtain⟨R,π,H1,g1,g2,g3⟩:=c7u (m:=m) (keep:=keep) (F:=F) (H:=H) hm S h1 (λb hb c hc=>by rw[h2 b hb]at hc;simp at hc) h3 (by omega);exact⟨_,H1,g1,hP R π H1 g2 g3⟩
end Go.Ax
/- AxTab5: a table's number in another cell; a table that is given back. -/
namespace Go.Ax
section
variable {H:a03}{a b q:Nat}{am:Nat→Nat}{w:Nat}{fo:List (List (BitVec 64))}{fr:Int}
end
end Go.Ax
/- AxMapS: maps by keys that have an encoding; maps of growing slices of numbers. -/
namespace Go.Ax
def a7f{α:Type}[DecidableEq α](x:α):List α→Option Nat
 | []=>none
 |y::l=>if x=y then some 0 else(a7f x l).map (·+ 1)
theorem a38{α:Type}[DecidableEq α]{x:α}:∀{l:List α} {j:Nat},a7f x l=some j→l[j]?=some x
 | [],_,h=>by cases h
 |y::l,j,h=>by
  unfold a7f at h;split at h
  ·rename_i e;cases h;rw[e];rfl
  ·cases hp:a7f x l with
   |none=>rw[hp]at h;cases h
   |some k=>rw[hp]at h;cases h;rw[f8h];exact a38 hp
structure KeyOk{α:Type}[DecidableEq α](E:Env)(t kt et:TypeId)(enc:α→AV):Prop where
 und:E.und t=some (.map kt et)
 ty:c5v E kt=true
 val:∀x,c3h E kt (enc x)=true
 eq:∀x y,aeq E 6 kt (enc x) (enc y)=some (decide (x=y))
 same:∀x,c4l (enc x) (enc x)=true
section
variable {α:Type}[DecidableEq α]{E:Env}{t kt et:TypeId}{enc:α→AV}
theorem KeyOk.find(ho:KeyOk E t kt et enc)(x:α):∀(l:List α) (i:Nat),a2j (aeq E 6 kt) (enc x) (l.map enc) i=some ((a7f x l).map (i + ·))
 | [],i=>rfl
 |y::l,i=>by
  simp only[c10,a2j,ho.eq,a7f];by_cases h:x=y
  ·simp[h]
  ·rw[f9e h,f7z,ho.find x l (i+1),f4n h];cases a7f x l with
   |none=>rfl
   |some k=>simp only[f5x,Option.some.injEq];omega
theorem KeyOk.lookup(ho:KeyOk E t kt et enc){h:FHeap}{m v z:AV}{zl:List AV}{d:TypeDesc}{l:List α}{vs:List AV}(hz:E.zero et=some zl)(hd:E.und et=some d)(dB:a7y d zl=some z)(hm:b0r h m=some (l.map enc,vs))(x:α)
 (hv:(match a7f x l with|some i=>vs[i]?|none=>some z)=some v):a2f E h t m (enc x) false=some v:=by
 unfold a2f;rw[ho.und];simp only[ho.ty,ho.val,f9v,f6g,hm,hz,hd,ho.find];cases hp:a7f x l with
 |none=>
  rw[hp]at hv;cases hv;simp only[Option.map_none];unfold a7y at dB;cases ha:a2q d with
  |true=>rw[ha]at dB;simpa using dB
  |false=>
   rw[ha]at dB;simp only[f7z]at dB⊢;split at dB
   ·cases dB;rfl
   ·cases dB
 |some i=>rw[hp]at hv;simp only[f5x,f8j];simp only at hv;rw[hv];rfl
theorem KeyOk.pairs(ho:KeyOk E t kt et enc){h:FHeap}{b:Nat}{l:List α}{vs:List AV}{bs:List Nat}{cl:Nat}(hb:h b=some (.map (l.map enc) vs bs cl))(x:α):a9d E h t (.map b) (enc x)=some (b,l.map enc,vs,bs,cl,a7f x l):=by
 unfold a9d;rw[ho.und];simp only[ho.ty,ho.val,f9v,f6g,hb,ho.find];cases hp:a7f x l with
 |none=>rfl
 |some i=>
  simp only[f5x,f8j];have:(l.map enc)[i]?=some (enc x):=by rw[f4q,a38 hp];rfl
  rw[this];simp only[ho.same,f6g]
theorem KeyOk.update(ho:KeyOk E t kt et enc){h:FHeap}{b:Nat}{l:List α}{vs:List AV}{bs:List Nat}{cl:Nat}(hb:h b=some (.map (l.map enc) vs bs cl))(x:α)(v:AV) :
 a16 E h t (.map b) (enc x) v=some (.set b (match a7f x l with|some i=>.map (l.map enc) (vs.set i v) bs cl|none=>.map (l.map enc++[enc x]) (vs++[v]) (bs++[cl]) (cl+1))):=by
 unfold a16;rw[ho.pairs hb x];cases a7f x l<;>rfl
theorem KeyOk.entry(ho:KeyOk E t kt et enc){h:FHeap}{b:Nat}{l:List α}{vs:List AV}{bs:List Nat}{cl:Nat}(hb:h b=some (.map (l.map enc) vs bs cl))(x:α){r:AV×Eff}{zl:List AV}{d:TypeDesc}{z:AV}(hz:E.zero et=some zl)(hd:E.und et=some d)(dB:a7y d zl=some z)
 (hr:(match a7f x l with|some i=>(match vs[i]?,bs[i]? with|some v,some s=>some (.tuple [v,.int .i64 s],Eff.set b (.map (l.map enc) vs bs cl))|_,_=>none)|none=>some (.tuple [z,.int .i64 cl],.set b (.map (l.map enc++[enc x]) (vs++[z]) (bs++[cl]) (cl+1))))=some r) :
 a45 E h t (.map b) (enc x)=some r:=by
 unfold a45;rw[ho.pairs hb x];cases hp:a7f x l with
 |none=>rw[hp]at hr;simp only at hr⊢;rw[ho.und];simp only[hz,hd,dB];exact hr
 |some i=>rw[hp]at hr;simp only at hr⊢;exact hr
end
theorem c0l(n j:Nat)(h:j<n):(List.range n).findIdx? (λ(x:Nat)=>(x:Int)==(j:Int))=some j:=by rw[List.findIdx?_eq_some_iff_getElem];refine⟨by simpa using h,by simp,?_⟩;intro k hk;simp;omega
theorem a68{h:FHeap}{b:Nat}{ks vs:List AV}{n:Nat}{cl:Nat}{k:IntKind}(hb:h b=some (.map ks vs (List.range n) cl)){j:Nat}(hj:j<n)(v:AV):a2o h (.map b) (.int k j) v=some (.set b (.map ks (vs.set j v) (List.range n) cl)):=by unfold a2o;simp only[hb];rw[c0l n j hj]
/-! ### the values that a key has collected -/
def atE{α:Type}[DecidableEq α](x:α)(es:List (α×List Nat)):List Nat:=match a7f x (es.map (·.1))with
 |some j=>(es[j]?.map (·.2)).getD []
 |none=>[]
def a80{α:Type}[DecidableEq α](es:List (α×List Nat))(x:α)(i:Nat):List (α×List Nat):=match a7f x (es.map (·.1))with
 |some j=>es.set j (x,atE x es++[i])
 |none=>es++[(x,[i])]
theorem b5s{α:Type}[DecidableEq α]{x:α}:∀(a b:List α),a7f x (a++b)=(a7f x a).or ((a7f x b).map (a.length + ·))
 | [],b=>by simp[a7f]
 |y::a,b=>by
  simp only[f6a,a7f];split
  ·rfl
  ·rw[b5s a b];cases a7f x a with
   |some j=>rfl
   |none=>
    cases a7f x b with
    |none=>rfl
    |some j=>simp;omega
theorem b3t{α:Type}[DecidableEq α](es:List (α×List Nat))(x y:α)(i:Nat):atE y (a80 es x i)=if y=x then atE y es++[i]else atE y es:=by
 unfold a80;cases hp:a7f x (es.map (·.1))with
 |none=>
  simp only;unfold atE;rw[f6c,b5s];by_cases h:y=x
  ·subst h;rw[hp];simp[a7f]
  ·cases hy:a7f y (es.map (·.1))with
   |none=>simp[a7f,h]
   |some j=>have:=(c13.1 (a38 hy)).1;rw[f4j]at this;simp[h,f6d this]
 |some j=>
  simp only;have hj:=a38 hp;have aS:j<es.length:=by simpa using(c13.1 hj).1
  have key:∀X:List Nat,atE y (es.set j (x,X))=if y=x then X else atE y es:=by
   intro X;have hk:(es.set j (x,X)).map (·.1)=es.map (·.1):=by
    rw[f9n];apply f8l;intro k;rw[f6k];by_cases lE:j=k
    ·subst lE;rw[f6e rfl,f6e (by simpa using aS),hj]
    ·rw[f4n lE]
   unfold atE;rw[hk];by_cases h:y=x
   ·subst h;rw[hp,f6e rfl];simp[aS]
   ·rw[f4n h];cases hy:a7f y (es.map (·.1))with
    |none=>rfl
    |some k=>
     have aF:j≠k:=by intro e;subst e;have:=a38 hy;rw[hj]at this;exact h (z9o this).symm
     simp only;rw[f6k,f4n aF]
  rw[key];by_cases h:y=x
  ·rw[f6e h,f6e h,h]
  ·rw[f4n h,f4n h]
end Go.Ax
/- AxMapT: a map of growing slices of numbers, wherever its blocks lie. -/
namespace Go.Ax
def nR(n:Nat):List AV:=[.int .i64 n]
theorem b03(l:List Nat):FlatR (l.map nR):=FlatR.map λ_=>rfl
structure MSl{α:Type}[DecidableEq α](enc:α→AV)(H:a03)(c b:Nat)(am:Nat→Nat)(es:List (α×List Nat)):Prop where
 cell:a01 H c=some (.row 1 [[.map b]])
 top:a01 H b=some (.map ((es.map (·.1)).map enc) (es.mapIdx λj e=>.slice (am j) 0 e.2.length none) (List.range es.length) es.length)
 sub:∀(j:Nat) (e:α×List Nat),es[j]?=some e→a01 H (am j)=some (.row 1 (e.2.map nR))
 inj:∀j k,j<es.length→k<es.length→am j=am k→j=k
section
variable {α:Type}[DecidableEq α]{enc:α→AV}{H H1:a03}{R:Nat→Prop}{π:Nat→Option Nat}{c b:Nat}{am:Nat→Nat}{es:List (α×List Nat)}
def MSl.blocks(c b:Nat)(am:Nat→Nat)(n:Nat):List Nat:=c::b::(List.range n).map am
theorem MSl.mem_blocks{d n:Nat}:d∈MSl.blocks c b am n↔d=c∨d=b∨∃j,j<n∧d=am j:=by
 unfold MSl.blocks;simp only[f6m,g01,g0y];constructor
 ·rintro(h|h|⟨j,hj,rfl⟩)
  ·exact .inl h
  ·exact .inr (.inl h)
  ·exact .inr (.inr ⟨j,hj,rfl⟩)
 ·rintro(h|h|⟨j,hj,rfl⟩)
  ·exact .inl h
  ·exact .inr (.inl h)
  ·exact .inr (.inr ⟨j,hj,rfl⟩)
theorem MSl.bc(h:MSl enc H c b am es):c≠b:=by intro e;have h1:=h.cell;rw[e,h.top]at h1;cases h1
theorem MSl.sub_c(h:MSl enc H c b am es){j:Nat}(hj:j<es.length):am j≠c∧am j≠b:=by
 obtain⟨e,he⟩:∃e,es[j]?=some e:=⟨_,z9e hj⟩
 have h1:=h.sub j e he;refine⟨λhh=>?_,λhh=>?_⟩
 ·rw[hh,h.cell]at h1;cases hl:e.2 with
  |nil=>rw[hl]at h1;cases h1
  |cons a r=>rw[hl]at h1;cases h1
 ·rw[hh,h.top]at h1;cases h1
theorem MSl.lt(h:MSl enc H c b am es):∀d∈MSl.blocks c b am es.length,d<H.length:=by
 intro d hd;rcases MSl.mem_blocks.1 hd with rfl|rfl|⟨j,hj,rfl⟩
 ·exact a0i h.cell
 ·exact a0i h.top
 ·obtain⟨e,he⟩:∃e,es[j]?=some e:=⟨_,z9e hj⟩
  exact a0i (h.sub j e he)
omit [DecidableEq α]in
theorem a4b{enc:α→AV}(hf:∀x,refs (enc x)=[]):∀l:List α,a0l (l.map enc)=[]
 | []=>rfl
 |x::l=>by simp only[c10,a0l,hf x,a4b hf l,f4g]
theorem a5d:∀l:List AV,a0l l=l.flatMap refs
 | []=>rfl
 |v::l=>by simp only[a0l,f9j,a5d l]
theorem MSl.top_refs(hf:∀x,refs (enc x)=[])(h:MSl enc H c b am es){d:Nat}:d∈a0x (a01 H b)↔∃j,j<es.length∧d=am j:=by
 rw[h.top];show d∈a0l _++a0l _↔_;rw[a4b hf,e14,a5d];simp only[g2d];constructor
 ·rintro⟨r,hr,hc⟩
  obtain⟨j,hj⟩:=f9g.1 hr;rw[f5y]at hj;cases he:es[j]? with
  |none=>rw[he]at hj;cases hj
  |some e=>rw[he]at hj;cases hj;exact⟨j,(c13.1 he).1,by simpa[refs]using hc⟩
 ·rintro⟨j,hj,rfl⟩
  obtain⟨e,he⟩:∃e,es[j]?=some e:=⟨_,z9e hj⟩
  exact⟨.slice (am j) 0 e.2.length none,f9g.2 ⟨j,by rw[f5y,he];rfl⟩,by simp[refs]⟩
theorem MSl.closed(hf:∀x,refs (enc x)=[])(h:MSl enc H c b am es):∀d∈MSl.blocks c b am es.length,∀d'∈a0x (a01 H d),d'∈MSl.blocks c b am es.length:=by
 intro d hd d' fY;rw[MSl.mem_blocks]at hd⊢;rcases hd with rfl|rfl|⟨j,hj,rfl⟩
 ·rw[h.cell]at fY;simp[a0x,a0l,refs]at fY;exact .inr (.inl fY)
 ·exact .inr (.inr ((h.top_refs hf).1 fY))
 ·obtain⟨e,he⟩:∃e,es[j]?=some e:=⟨_,z9e hj⟩
  rw[h.sub j e he,a0r (b03 _)]at fY;simp at fY
theorem b1a{β:Type}:∀(l:List AV) (f:AV→List β),(∀v∈l,(f v).length≤1)→(l.flatMap f).length≤l.length
 | [],_,_=>by simp
 |v::l,f,h=>by have h1:=h v (by simp);have h2:=b1a l f (λv hv=>h v (by simp[hv]));simp only[f9j,f5z,e12];omega
theorem MSl.cost(hf:∀x,refs (enc x)=[])(h:MSl enc H c b am es):((MSl.blocks c b am es.length).map λd=>(a0x (a01 H d)).length).sum≤es.length+1:=by
 unfold MSl.blocks;have e1:(a0x (a01 H c)).length=1:=by rw[h.cell];rfl
 have e3:(a0x (a01 H b)).length≤es.length:=by
  rw[h.top];show(a0l _++a0l _).length≤_;rw[a4b hf,e14,a5d];refine g1v (b1a _ refs ?_) (by simp);intro v hv;obtain⟨j,hj⟩:=f9g.1 hv;rw[f5y]at hj;cases he:es[j]? with
  |none=>rw[he]at hj;cases hj
  |some e=>rw[he]at hj;cases hj;simp[refs]
 have e4:(((List.range es.length).map am).map λc=>(a0x (a01 H c)).length).sum=0:=by
  refine b0b _ ?_;intro d hd;obtain⟨j,hj,rfl⟩:=g01.1 hd;obtain⟨e,he⟩:∃e,es[j]?=some e:=⟨_,z9e (by simpa using hj)⟩
  rw[h.sub j e he];exact a0r (b03 _)
 simp only[c10,List.sum_cons,e1,e4];omega
theorem MSl.mv(hf:∀x,refs (enc x)=[])(h:MSl enc H c b am es)(hm:Mv H R π H1)(hc:R c):∃c' b' aJ,π c=some c'∧π b=some b'∧(∀j,j<es.length→π (am j)=some (aJ j))∧MSl enc H1 c' b' aJ es:=by
 have hb:R b:=hm.closed c hc b (by rw[h.cell];simp[a0x,a0l,refs]);have kL:∀j,j<es.length→R (am j):=λj hj=>hm.closed b hb _ ((h.top_refs hf).2 ⟨j,hj,rfl⟩);obtain⟨c',ec⟩:=hm.here c hc;obtain⟨b',eb⟩:=hm.here b hb;have ei:∀j,j<es.length→π (am j)=some ((π (am j)).getD 0):=λj hj=>by obtain⟨d,hd⟩:=hm.here _ (kL j hj);rw[hd];rfl
 refine⟨c',b',λj=>(π (am j)).getD 0,ec,eb,ei,?_,?_,?_,?_⟩
 ·rw[hm.heap c c' hc ec,h.cell];simp only[f5x,a0t,c10,f4h,Ax.ren,eb]
 ·rw[hm.heap b b' hb eb,h.top];simp only[f5x,a0t]
  congr 2
  ·exact a4n π (a4b hf _)
  ·apply f8l;intro j;rw[f4q,f5y,f5y];cases he:es[j]? with
   |none=>rfl
   |some e=>have:=ei j (c13.1 he).1;simp only[f5x,Ax.ren];rw[this];rfl
 ·intro j e he;have hj:=(c13.1 he).1;rw[hm.heap _ _ (kL j hj) (ei j hj),h.sub j e he];simp only[f5x,a0t,a0c π (b03 _)]
 ·intro j k hj hk e;have e1:=ei j hj;have e2:=ei k hk;rw[e]at e1;exact h.inj j k hj hk (hm.inj _ _ _ e1 e2)
theorem MSl.same(h:MSl enc H c b am es)(h1:∀d∈MSl.blocks c b am es.length,a01 H1 d=a01 H d):MSl enc H1 c b am es:=⟨by rw[h1 c (MSl.mem_blocks.2 (.inl rfl)),h.cell],by rw[h1 b (MSl.mem_blocks.2 (.inr (.inl rfl))),h.top],λj e he=>by rw[h1 (am j) (MSl.mem_blocks.2 (.inr (.inr ⟨j,(c13.1 he).1,rfl⟩))),h.sub j e he],h.inj⟩
theorem MSl.more{L:a03}(h:MSl enc H c b am es):MSl enc (H++L) c b am es:=h.same λd hd=>a1g (g1p (h.lt d hd))
def MSl.obj(enc:α→AV)(am:Nat→Nat)(es:List (α×List Nat))(x:α)(n:Nat):AObj:=match a7f x (es.map (·.1))with
 |some j=>.map ((es.map (·.1)).map enc) ((es.mapIdx λj e=>AV.slice (am j) 0 e.2.length none).set j (.slice n 0 ((atE x es).length+1) none)) (List.range es.length) es.length
 |none=>.map ((es.map (·.1)).map enc++[enc x]) ((es.mapIdx λj e=>AV.slice (am j) 0 e.2.length none)++[.slice n 0 ((atE x es).length+1) none]) (List.range es.length++[es.length]) (es.length+1)
theorem MSl.add(h:MSl enc H c b am es)(x:α)(i n:Nat)(hn:H.length≤n)(h1:a01 H1 b=some (MSl.obj enc am es x n))(h2:a01 H1 n=some (.row 1 ((atE x es++[i]).map nR)))
 (h3:∀d,d<H.length→d≠b→(∀j,a7f x (es.map (·.1))=some j→d≠am j)→a01 H1 d=a01 H d) :
 ∃aJ,MSl enc H1 c b aJ (a80 es x i)∧(∀j,j<(a80 es x i).length→aJ j=n∨(j<es.length∧aJ j=am j))∧(a80 es x i).length≤es.length+1:=by
 have ah:=h.lt;have ed:∀j,j<es.length→am j<H.length:=λj hj=>ah _ (MSl.mem_blocks.2 (.inr (.inr ⟨j,hj,rfl⟩)));have cD:=a0i h.cell;have dl:a01 H1 c=a01 H c:=h3 c cD h.bc (λj hj=>by
  have aS:j<es.length:=by simpa using(c13.1 (a38 hj)).1
  exact f9m (h.sub_c aS).1)
 unfold MSl.obj at h1;unfold a80;cases hp:a7f x (es.map (·.1))with
 |none=>
  rw[hp]at h1;have bg:atE x es=[]:=by unfold atE;rw[hp]
  simp only[bg,f4o,f8j,e14]at h1 h2⊢;refine⟨λj=>if j=es.length then n else am j,⟨by rw[dl,h.cell],?_,?_,?_⟩,?_,by simp⟩
  ·rw[h1]
   congr 2
   ·simp
   ·apply f8l;intro j;rw[f5y];by_cases hj:j<es.length
    ·rw[f6d (by simpa using hj),f6d hj,f5y,z9e hj];simp[show j≠es.length by omega]
    ·by_cases fw:j=es.length
     ·subst fw;simp
     ·rw[f6h (by simp;omega),f6h (by simp;omega)];rfl
   ·simp[f9k]
   ·simp
  ·intro j e he;by_cases hj:j<es.length
   ·rw[f6d hj]at he;simp only[f4n (show j≠es.length by omega)];rw[h3 _ (ed j hj) (h.sub_c hj).2 (λk hk=>by rw[hp]at hk;cases hk),h.sub j e he]
   ·have fw:j=es.length:=by
     have:=(c13.1 he).1;simp at this;omega
    subst fw;simp at he;subst he;simp only[f9q];rw[h2]
  ·intro j k hj hk e;simp only[f5z,List.length_singleton]at hj hk;by_cases h1:j=es.length<;>by_cases h2:k=es.length
   ·omega
   ·simp only[h1,f9q,f4n h2]at e;have:=ed k (by omega);omega
   ·simp only[h2,f9q,f4n h1]at e;have:=ed j (by omega);omega
   ·simp only[f4n h1,f4n h2]at e;exact h.inj j k (by omega) (by omega) e
  ·intro j hj;simp only[f5z,List.length_singleton]at hj;by_cases h1:j=es.length
   ·exact .inl (f6e h1)
   ·exact .inr ⟨by omega,f4n h1⟩
 |some q=>
  rw[hp]at h1;have hq:=a38 hp;have eQ:q<es.length:=by simpa using(c13.1 hq).1
  simp only at h1⊢;refine⟨λj=>if j=q then n else am j,⟨by rw[dl,h.cell],?_,?_,?_⟩,?_,by simp⟩
  ·rw[h1]
   congr 2
   ·congr 1
    rw[f9n];apply f8l;intro k;rw[f6k];by_cases lE:q=k
    ·subst lE;rw[f6e rfl,f6e (by simpa using eQ),hq]
    ·rw[f4n lE]
   ·apply f8l;intro j;rw[f6k,f5y,f5y,f6k,List.length_mapIdx];by_cases fO:q=j
    ·subst fO;simp[eQ]
    ·rw[f4n fO,f4n fO];simp only[f4n (f9m fO)]
   ·rw[f6j]
   ·rw[f6j]
  ·intro j e he;rw[f6k]at he;by_cases fO:q=j
   ·subst fO;rw[f6e rfl,f6e eQ]at he;cases he;simp only[f9q];exact h2
   ·rw[f4n fO]at he;have hj:=(c13.1 he).1;simp only[f4n (f9m fO)];rw[h3 _ (ed j hj) (h.sub_c hj).2 (λk hk=>by rw[hp]at hk;cases hk;intro e;exact fO (h.inj j q hj eQ e).symm),h.sub j e he]
  ·intro j k hj hk e;rw[f6j]at hj hk;by_cases h1:j=q<;>by_cases h2:k=q
   ·omega
   ·simp only[h1,f9q,f4n h2]at e;have:=ed k (by omega);omega
   ·simp only[h2,f9q,f4n h1]at e;have:=ed j (by omega);omega
   ·simp only[f4n h1,f4n h2]at e;exact h.inj j k (by omega) (by omega) e
  ·intro j hj;rw[f6j]at hj;by_cases h1:j=q
   ·exact .inl (f6e h1)
   ·exact .inr ⟨hj,f4n h1⟩
end
section
variable {α:Type}[DecidableEq α]{E:Env}{t kt et:TypeId}{enc:α→AV}
def a1t(enc:α→AV)(es:List (α×List Nat)):AV:=.imap ((es.map (·.1)).map enc) (es.map λe=>.islice (e.2.map nR) none) (List.range es.length) es.length
theorem KeyOk.ilook(ho:KeyOk E t kt et enc){zl:List AV}{d:TypeDesc}(hz:E.zero et=some zl)(hd:E.und et=some d)(dB:a7y d zl=some .nilslice)(es:List (α×List Nat))(x:α) :
 ∃rr:Option (Option Nat),∀h,a2f E h t (a1t enc es) (enc x) false=some (sl rr ((atE x es).map nR)):=by
 cases hp:a7f x (es.map (·.1))with
 |none=>
  refine⟨none,λh=>?_⟩;have e:atE x es=[]:=by unfold atE;rw[hp]
  rw[e];exact ho.lookup hz hd dB (l:=es.map (·.1)) (vs:=es.map λe=>.islice (e.2.map nR) none) rfl x (by rw[hp];rfl)
 |some j=>
  refine⟨some none,λh=>?_⟩;have aS:j<es.length:=by simpa using(c13.1 (a38 hp)).1
  have e:atE x es=es[j].2:=by unfold atE;rw[hp];simp[z9e aS]
  rw[e];refine ho.lookup hz hd dB (l:=es.map (·.1)) (vs:=es.map λe=>.islice (e.2.map nR) none) rfl x ?_;rw[hp];simp only;rw[f4q,z9e aS,f5x,b0v]
theorem KeyOk.look(ho:KeyOk E t kt et enc){zl:List AV}{d:TypeDesc}(hz:E.zero et=some zl)(hd:E.und et=some d)(dB:a7y d zl=some .nilslice){h:FHeap}{b:Nat}{am:Nat→Nat}{es:List (α×List Nat)}(hb:h b=some (.map ((es.map (·.1)).map enc) (es.mapIdx λj e=>.slice (am j) 0 e.2.length none) (List.range es.length) es.length))(x:α) :
 a2f E h t (.map b) (enc x) false=some (match a7f x (es.map (·.1))with|some j=>.slice (am j) 0 (atE x es).length none|none=>.nilslice):=by
 have hm:b0r h (.map b)=some ((es.map (·.1)).map enc,es.mapIdx λj e=>.slice (am j) 0 e.2.length none):=by unfold b0r;simp only[hb]
 refine ho.lookup hz hd dB hm x ?_;cases hp:a7f x (es.map (·.1))with
 |none=>rfl
 |some j=>
  have aS:j<es.length:=by simpa using(c13.1 (a38 hp)).1
  have e:atE x es=es[j].2:=by unfold atE;rw[hp];simp[z9e aS]
  simp only;rw[f5y,z9e aS,f5x,e]
end
section
variable {α:Type}[DecidableEq α]{enc:α→AV}{H:a03}{c b:Nat}{am:Nat→Nat}{es:List (α×List Nat)}
theorem c1f{m:Nat}{d:AV→Option AV}:∀(vs aD:List AV),vs.length=aD.length→(∀(j:Nat) r o,vs[j]?=some r→aD[j]?=some o→a4j m false d r=some o)→a5t m false d vs=some aD
 | [],aD,hl,_=>by cases aD with|nil=>rfl|cons=>simp at hl
 |r::aa,[],hl,_=>by simp at hl
 |r::aa,o::aD,hl,hh=>by rw[a3n,hh 0 r o rfl rfl];simp only[a0j];rw[c1f aa aD (by simpa using hl) (λj r o hr ho=>hh (j+1) r o (by simpa using hr) (by simpa using ho))]
theorem MSl.frz(hf:∀x,refs (enc x)=[])(h:MSl enc H c b am es)(n:Nat):a54 (a01 H) 0 (n+3) (.ptr c 0 0)=some (.iptr [a1t enc es]):=by
 have i3:a54 (a01 H) 0 (n+2) (.map b)=some (a1t enc es):=by
  show(match a01 H b with
   |some (.map ks vs bs cl)=>match a5t 0 false (a54 (a01 H) 0 (n+1)) ks,a5t 0 false (a54 (a01 H) 0 (n+1)) vs with
    |some ks,some vs=>some (AV.imap ks vs bs cl)
    |_,_=>none
   |some (.uset ks)=>some (.iset ks)
   |_=>none)=_
  rw[h.top];simp only;rw[a6j 0 false _ _ (a4b hf _)];rw[c1f _ (es.map λe=>.islice (e.2.map nR) none) (by simp)]
  ·rfl
  ·intro j r o hr ho;rw[f5y]at hr;rw[f4q]at ho;cases he:es[j]? with
   |none=>rw[he]at hr;cases hr
   |some e=>rw[he]at hr ho;cases hr;cases ho;rw[a7a,f9e (f9t _),f7z,a5z (g1p (by omega:0<n+1)),h.sub j e he];simp only[b0d,a0j,f9o,f8j,f4j];rw[f8b (f6l _),f6g,f4l (by simp),a12 _ _ (b03 _)]
 rw[c1g (g1p (by omega:0<n+3)),h.cell];simp only[b0d,a0j,f6n,f9o];rw[a3n,a7s,c64,f9e (f9t _),f7z];show a0j (a0j (a54 (a01 H) 0 (n+2) (.map b)) _) _=_;rw[i3];rfl
theorem b6s{n:Nat}{v v':AV}(h:a01 H c=some (.row 1 [[v]]))(hv:a4j 0 false (a54 (a01 H) 0 n) v=some v'):a54 (a01 H) 0 (n+1) (.ptr c 0 0)=some (.iptr [v']):=by rw[c1g (g1p (by omega:0<n+1)),h];simp only[b0d,a0j,f6n,f9o];show a0j (a5t 0 false (a54 (a01 H) 0 n) [v]) _=_;rw[a3n,a7s,hv];rfl
end
end Go.Ax
/- AxMapM: a map of growing slices of numbers, whoever e4b it. -/
namespace Go.Ax
structure MSm{α:Type}[DecidableEq α](enc:α→AV)(H:a03)(b:Nat)(am:Nat→Nat)(es:List (α×List Nat)):Prop where
 top:a01 H b=some (.map ((es.map (·.1)).map enc) (es.mapIdx λj e=>.slice (am j) 0 e.2.length none) (List.range es.length) es.length)
 sub:∀(j:Nat) (e:α×List Nat),es[j]?=some e→a01 H (am j)=some (.row 1 (e.2.map nR))
 inj:∀j k,j<es.length→k<es.length→am j=am k→j=k
section
variable {α:Type}[DecidableEq α]{enc:α→AV}{H H1:a03}{R:Nat→Prop}{π:Nat→Option Nat}{b:Nat}{am:Nat→Nat}{es:List (α×List Nat)}
def MSm.blocks(b:Nat)(am:Nat→Nat)(n:Nat):List Nat:=b::(List.range n).map am
theorem MSm.mem_blocks{d n:Nat}:d∈MSm.blocks b am n↔d=b∨∃j,j<n∧d=am j:=by
 unfold MSm.blocks;simp only[f6m,g01,g0y];constructor
 ·rintro(h|⟨j,hj,rfl⟩)
  ·exact .inl h
  ·exact .inr ⟨j,hj,rfl⟩
 ·rintro(h|⟨j,hj,rfl⟩)
  ·exact .inl h
  ·exact .inr ⟨j,hj,rfl⟩
theorem MSm.sub_c(h:MSm enc H b am es){j:Nat}(hj:j<es.length):am j≠b:=by
 obtain⟨e,he⟩:∃e,es[j]?=some e:=⟨_,z9e hj⟩
 have h1:=h.sub j e he;intro hh;rw[hh,h.top]at h1;cases h1
theorem MSm.lt(h:MSm enc H b am es):∀d∈MSm.blocks b am es.length,d<H.length:=by
 intro d hd;rcases MSm.mem_blocks.1 hd with rfl|⟨j,hj,rfl⟩
 ·exact a0i h.top
 ·obtain⟨e,he⟩:∃e,es[j]?=some e:=⟨_,z9e hj⟩
  exact a0i (h.sub j e he)
theorem MSm.top_refs(hf:∀x,refs (enc x)=[])(h:MSm enc H b am es){d:Nat}:d∈a0x (a01 H b)↔∃j,j<es.length∧d=am j:=by
 rw[h.top];show d∈a0l _++a0l _↔_;rw[a4b hf,e14,a5d];simp only[g2d];constructor
 ·rintro⟨r,hr,hc⟩
  obtain⟨j,hj⟩:=f9g.1 hr;rw[f5y]at hj;cases he:es[j]? with
  |none=>rw[he]at hj;cases hj
  |some e=>rw[he]at hj;cases hj;exact⟨j,(c13.1 he).1,by simpa[refs]using hc⟩
 ·rintro⟨j,hj,rfl⟩
  obtain⟨e,he⟩:∃e,es[j]?=some e:=⟨_,z9e hj⟩
  exact⟨.slice (am j) 0 e.2.length none,f9g.2 ⟨j,by rw[f5y,he];rfl⟩,by simp[refs]⟩
theorem MSm.closed(hf:∀x,refs (enc x)=[])(h:MSm enc H b am es):∀d∈MSm.blocks b am es.length,∀d'∈a0x (a01 H d),d'∈MSm.blocks b am es.length:=by
 intro d hd d' fY;rw[MSm.mem_blocks]at hd⊢;rcases hd with rfl|⟨j,hj,rfl⟩
 ·exact .inr ((h.top_refs hf).1 fY)
 ·obtain⟨e,he⟩:∃e,es[j]?=some e:=⟨_,z9e hj⟩
  rw[h.sub j e he,a0r (b03 _)]at fY;simp at fY
theorem MSm.cost(hf:∀x,refs (enc x)=[])(h:MSm enc H b am es):((MSm.blocks b am es.length).map λd=>(a0x (a01 H d)).length).sum≤es.length:=by
 unfold MSm.blocks;have e3:(a0x (a01 H b)).length≤es.length:=by
  rw[h.top];show(a0l _++a0l _).length≤_;rw[a4b hf,e14,a5d];refine g1v (b1a _ refs ?_) (by simp);intro v hv;obtain⟨j,hj⟩:=f9g.1 hv;rw[f5y]at hj;cases he:es[j]? with
  |none=>rw[he]at hj;cases hj
  |some e=>rw[he]at hj;cases hj;simp[refs]
 have e4:(((List.range es.length).map am).map λc=>(a0x (a01 H c)).length).sum=0:=by
  refine b0b _ ?_;intro d hd;obtain⟨j,hj,rfl⟩:=g01.1 hd;obtain⟨e,he⟩:∃e,es[j]?=some e:=⟨_,z9e (by simpa using hj)⟩
  rw[h.sub j e he];exact a0r (b03 _)
 simp only[c10,List.sum_cons,e4];omega
theorem MSm.mv(hf:∀x,refs (enc x)=[])(h:MSm enc H b am es)(hm:Mv H R π H1)(hb:R b):∃b' aJ,π b=some b'∧(∀j,j<es.length→π (am j)=some (aJ j))∧MSm enc H1 b' aJ es:=by
 have kL:∀j,j<es.length→R (am j):=λj hj=>hm.closed b hb _ ((h.top_refs hf).2 ⟨j,hj,rfl⟩);obtain⟨b',eb⟩:=hm.here b hb;have ei:∀j,j<es.length→π (am j)=some ((π (am j)).getD 0):=λj hj=>by obtain⟨d,hd⟩:=hm.here _ (kL j hj);rw[hd];rfl
 refine⟨b',λj=>(π (am j)).getD 0,eb,ei,?_,?_,?_⟩
 ·rw[hm.heap b b' hb eb,h.top];simp only[f5x,a0t]
  congr 2
  ·exact a4n π (a4b hf _)
  ·apply f8l;intro j;rw[f4q,f5y,f5y];cases he:es[j]? with
   |none=>rfl
   |some e=>have:=ei j (c13.1 he).1;simp only[f5x,Ax.ren];rw[this];rfl
 ·intro j e he;have hj:=(c13.1 he).1;rw[hm.heap _ _ (kL j hj) (ei j hj),h.sub j e he];simp only[f5x,a0t,a0c π (b03 _)]
 ·intro j k hj hk e;have e1:=ei j hj;have e2:=ei k hk;rw[e]at e1;exact h.inj j k hj hk (hm.inj _ _ _ e1 e2)
theorem MSm.same(h:MSm enc H b am es)(h1:∀d∈MSm.blocks b am es.length,a01 H1 d=a01 H d):MSm enc H1 b am es:=⟨by rw[h1 b (MSm.mem_blocks.2 (.inl rfl)),h.top],λj e he=>by rw[h1 (am j) (MSm.mem_blocks.2 (.inr ⟨j,(c13.1 he).1,rfl⟩)),h.sub j e he],h.inj⟩
theorem MSm.more{L:a03}(h:MSm enc H b am es):MSm enc (H++L) b am es:=h.same λd hd=>a1g (g1p (h.lt d hd))
theorem MSm.add(h:MSm enc H b am es)(x:α)(i n:Nat)(hn:H.length≤n)(h1:a01 H1 b=some (MSl.obj enc am es x n))(h2:a01 H1 n=some (.row 1 ((atE x es++[i]).map nR)))
 (h3:∀d,d<H.length→d≠b→(∀j,a7f x (es.map (·.1))=some j→d≠am j)→a01 H1 d=a01 H d) :
 ∃aJ,MSm enc H1 b aJ (a80 es x i)∧(∀j,j<(a80 es x i).length→aJ j=n∨(j<es.length∧aJ j=am j))∧(a80 es x i).length≤es.length+1:=by
 have ah:=h.lt;have ed:∀j,j<es.length→am j<H.length:=λj hj=>ah _ (MSm.mem_blocks.2 (.inr ⟨j,hj,rfl⟩));unfold MSl.obj at h1;unfold a80;cases hp:a7f x (es.map (·.1))with
 |none=>
  rw[hp]at h1;have bg:atE x es=[]:=by unfold atE;rw[hp]
  simp only[bg,f4o,f8j,e14]at h1 h2⊢;refine⟨λj=>if j=es.length then n else am j,⟨?_,?_,?_⟩,?_,by simp⟩
  ·rw[h1]
   congr 2
   ·simp
   ·apply f8l;intro j;rw[f5y];by_cases hj:j<es.length
    ·rw[f6d (by simpa using hj),f6d hj,f5y,z9e hj];simp[show j≠es.length by omega]
    ·by_cases fw:j=es.length
     ·subst fw;simp
     ·rw[f6h (by simp;omega),f6h (by simp;omega)];rfl
   ·simp[f9k]
   ·simp
  ·intro j e he;by_cases hj:j<es.length
   ·rw[f6d hj]at he;simp only[f4n (show j≠es.length by omega)];rw[h3 _ (ed j hj) (h.sub_c hj) (λk hk=>by rw[hp]at hk;cases hk),h.sub j e he]
   ·have fw:j=es.length:=by
     have:=(c13.1 he).1;simp at this;omega
    subst fw;simp at he;subst he;simp only[f9q];rw[h2]
  ·intro j k hj hk e;simp only[f5z,List.length_singleton]at hj hk;by_cases h1:j=es.length<;>by_cases h2:k=es.length
   ·omega
   ·simp only[h1,f9q,f4n h2]at e;have:=ed k (by omega);omega
   ·simp only[h2,f9q,f4n h1]at e;have:=ed j (by omega);omega
   ·simp only[f4n h1,f4n h2]at e;exact h.inj j k (by omega) (by omega) e
  ·intro j hj;simp only[f5z,List.length_singleton]at hj;by_cases h1:j=es.length
   ·exact .inl (f6e h1)
   ·exact .inr ⟨by omega,f4n h1⟩
 |some q=>
  rw[hp]at h1;have hq:=a38 hp;have eQ:q<es.length:=by simpa using(c13.1 hq).1
  simp only at h1⊢;refine⟨λj=>if j=q then n else am j,⟨?_,?_,?_⟩,?_,by simp⟩
  ·rw[h1]
   congr 2
   ·congr 1
    rw[f9n];apply f8l;intro k;rw[f6k];by_cases lE:q=k
    ·subst lE;rw[f6e rfl,f6e (by simpa using eQ),hq]
    ·rw[f4n lE]
   ·apply f8l;intro j;rw[f6k,f5y,f5y,f6k,List.length_mapIdx];by_cases fO:q=j
    ·subst fO;simp[eQ]
    ·rw[f4n fO,f4n fO];simp only[f4n (f9m fO)]
   ·rw[f6j]
   ·rw[f6j]
  ·intro j e he;rw[f6k]at he;by_cases fO:q=j
   ·subst fO;rw[f6e rfl,f6e eQ]at he;cases he;simp only[f9q];exact h2
   ·rw[f4n fO]at he;have hj:=(c13.1 he).1;simp only[f4n (f9m fO)];rw[h3 _ (ed j hj) (h.sub_c hj) (λk hk=>by rw[hp]at hk;cases hk;intro e;exact fO (h.inj j q hj eQ e).symm),h.sub j e he]
  ·intro j k hj hk e;rw[f6j]at hj hk;by_cases h1:j=q<;>by_cases h2:k=q
   ·omega
   ·simp only[h1,f9q,f4n h2]at e;have:=ed k (by omega);omega
   ·simp only[h2,f9q,f4n h1]at e;have:=ed j (by omega);omega
   ·simp only[f4n h1,f4n h2]at e;exact h.inj j k (by omega) (by omega) e
  ·intro j hj;rw[f6j]at hj;by_cases h1:j=q
   ·exact .inl (f6e h1)
   ·exact .inr ⟨hj,f4n h1⟩
theorem MSm.frz(hf:∀x,refs (enc x)=[])(h:MSm enc H b am es)(n:Nat):a54 (a01 H) 0 (n+2) (.map b)=some (a1t enc es):=by
 show(match a01 H b with
  |some (.map ks vs bs cl)=>match a5t 0 false (a54 (a01 H) 0 (n+1)) ks,a5t 0 false (a54 (a01 H) 0 (n+1)) vs with
   |some ks,some vs=>some (AV.imap ks vs bs cl)
   |_,_=>none
  |some (.uset ks)=>some (.iset ks)
  |_=>none)=_
 rw[h.top];simp only;rw[a6j 0 false _ _ (a4b hf _)];rw[c1f _ (es.map λe=>.islice (e.2.map nR) none) (by simp)]
 ·rfl
 ·intro j r o hr ho;rw[f5y]at hr;rw[f4q]at ho;cases he:es[j]? with
  |none=>rw[he]at hr;cases hr
  |some e=>rw[he]at hr ho;cases hr;cases ho;rw[a7a,f9e (f9t _),f7z,a5z (g1p (by omega:0<n+1)),h.sub j e he];simp only[b0d,a0j,f9o,f8j,f4j];rw[f8b (f6l _),f6g,f4l (by simp),a12 _ _ (b03 _)]
theorem MSm.other(h:MSm enc H b am es){d:Nat}{k:Nat}{aa:List (List AV)}(hd:a01 H d=some (.row k aa))(hk:∀l:List Nat,k=1→aa≠l.map nR):d≠b∧∀j,j<es.length→d≠am j:=by
 refine⟨λe=>?_,λj hj e=>?_⟩
 ·rw[e,h.top]at hd;cases hd
 ·obtain⟨x,hx⟩:∃x,es[j]?=some x:=⟨_,z9e hj⟩
  rw[e,h.sub j x hx]at hd;cases hd;exact hk _ rfl rfl
end
end Go.Ax
/- AxGw: a flat block and a slice of rows that grow together. -/
namespace Go.Ax
section
variable {H H1:a03}{R:Nat→Prop}{π:Nat→Option Nat}{w b k:Nat}{am:Nat→Nat}{cp:Nat→Option Nat}{ws:List (List AV)}{fo:List (List (List AV))}
end
end Go.Ax
