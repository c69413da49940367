/- AxTop: a call from outside: a41 old block is immutable. -/
import Derived.Test.YtmiegcjnimlbmaaGreatDoorAxC
import Derived.Below
import GoSem.ClaimChange
import GoSem.ClaimJoined
import Derived.RowKit
import Derived.ChangeSame
import Derived.Carry
import Derived.IntWalk
import Derived.KernelRfl
set_option linter.unusedSimpArgs false
set_option linter.unusedVariables false
namespace Go.Ax
open Go.RowKit
def Old(w:World):Nat→Prop:=λc=>c<w.heap.size
def Holds(E:Env)(w:World):Prop:=∀g cs,E.G g=some cs→g<w.heap.size∧VAt (Old w) w noP cs g 0
theorem e1y{E:Env}{f:FuncId}{run:List AV→a03→Option (AV×a03)}(kM:f≠yId)(hf:b08 E f run){args:List AV}{v:AV}{H':a03}(h:run args []=some (v,H')){w:World}(hG:Holds E w){am:List Value}(ha:VRels (Old w) w noP args am) :
 Calls E.P f am.toArray w λen w'=>∃c I' ρ',en = .returned c∧Below w.heap.size w w'∧VRel I' w' ρ' v c:=by
 have rel:HRel E.G (Old w) (λ_=>False) noP (a02 []) w:=by
  refine⟨?_,?_,?_,λc hc=>hc,λc hc=>hc.elim,λ_ _ h=>h,hG⟩
  ·intro b o hb;simp[a02]at hb
  ·intro b b' m m' hb;simp[a02]at hb
  ·intro b m hb;simp[noP]at hb
 have h0:=hf args [] v H' h (Old w) (λ_=>False) noP w am rel (λ_ _=>rfl) ha;rw[b4k kM]at h0;refine Calls.mono h0 ?_
 rintro en w' ⟨c,I',ρ',rfl,aC,hv⟩
 exact⟨c,I',ρ',rfl,⟨aC.ext.os,aC.ext.tape,aC.ext.output,aC.ext.size,λk hk=>aC.ext.keep k (.inl hk)⟩,hv⟩
theorem d26{E:Env}{f:FuncId}{run:List AV→a03→Option (AV×a03)}(kM:f≠yId)(hf:b08 E f run){args:List AV}{H':a03}(h:run args []=some (.bool true,H')){w:World}(hG:Holds E w){am:List Value}(ha:VRels (Old w) w noP args am) :
 Calls E.P f am.toArray w λen w'=>en = .returned (.bool true)∧Below w.heap.size w w':=by
 refine(e1y kM hf h hG ha).mono ?_
 rintro en w' ⟨c,I',ρ',rfl,hb,hv⟩
 simp only[VRel]at hv;subst hv;exact⟨rfl,hb⟩
end Go.Ax
/- AxRead: what the row's reading of an argument gives: abstract values of the argument's type. -/
namespace Go.Ax
def Typ(E:Env):Nat→TypeId→List AV→Prop
 |0,_,_=>False
 |n+1,t,aP=>match E.und t with
  |some .bool=>∃b,aP=[.bool b]
  |some (.int k)=>∃i,aP=[.int k i]∧(Lit.int k i).wf=true
  |some .string=>∃s,aP=[.str s]∧s.length≤maxLen
  |some (.slice e)=>aP=[.nilslice]∨∃aa cap,aP=[.islice aa (some cap)]∧aa.length≤cap∧cap≤maxLen∧∀r∈aa,r.length=E.sz e∧Typ E n e r
  |some (.struct fs)=>∃ap:List (List AV),aP=ap.flatten∧ap.length=fs.toList.length∧∀(i:Nat) f p,fs.toList[i]?=some f→ap[i]?=some p→p.length=E.sz f.type∧Typ E n f.type p
  |some (.array m e)=>∃ap:List (List AV),aP=ap.flatten∧ap.length=m∧∀p∈ap,p.length=E.sz e∧Typ E n e p
  |_=>False
def c76(E:Env):Nat→List Field→Option Nat
 |o,[]=>some o
 |o,f::r=>bif Nat.beq f.offset o then c76 E (o+E.sz f.type) r else none
def a4x(E:Env):Nat→TypeId→Bool
 |0,_=>false
 |n+1,t=>match E.und t with
  |some .bool=>true
  |some (.int _)=>true
  |some .string=>true
  |some (.slice e)=>(E.und e).isSome&&Nat.blt 0 (E.sz e)&&a4x E n e
  |some (.struct fs)=>(match c76 E 0 fs.toList with|some m=>Nat.beq m (E.sz t)|none=>false)&&fs.toList.all (λf=>(E.und f.type).isSome&&a4x E n f.type)
  |some (.array m e)=>(E.und e).isSome&&Nat.beq (m*E.sz e) (E.sz t)&&a4x E n e
  |_=>false
section
variable {E:Env}{w:World}{H:Type}{enc:TypeId×Value→H}{base:Nat}{cH:Nat→Bool}{dI:Bool}
theorem a3y(ok:EnvOk E){t:TypeId}{d:TypeDesc}(h:E.und t=some d):E.P.cellsOf t=E.sz t:=by obtain⟨_,i,hi,h1,_⟩:=ok.und t d h;simp[Program.cellsOf,hi,h1]
theorem c7s{I:Nat→Prop}{k:Nat}{b:Nat}{Pr:List AV→Prop}:∀(len off:Nat),(∀i,i<len→∃r,Pr r∧r.length=k∧VAt I w noP r b (off+i*k))→
 ∃aa:List (List AV),aa.length=len∧(∀r∈aa,r.length=k∧Pr r)∧VRows I w k noP aa b off
 |0,off,_=>⟨[],rfl,by simp,by simp[VRows]⟩
 |len+1,off,h=>by
  obtain⟨r,h1,h2,h3⟩:=h 0 (by omega);obtain⟨aa,g1,g2,g3⟩:=c7s (Pr:=Pr) len (off+k) (λi hi=>by obtain⟨r,q1,q2,q3⟩:=h (i+1) (by omega);refine⟨r,q1,q2,?_⟩;rw[show off+k+i*k=off+(i+1)*k by rw[f1r];omega];exact q3);refine⟨r::aa,by simp[g1],?_,?_⟩
  ·intro x hx;simp only[e9m]at hx;rcases hx with rfl|hx
   ·exact⟨h2,h1⟩
   ·exact g2 x hx
  ·simp only[VRows];exact⟨h2,by simpa using h3,g3⟩
theorem c38{I:Nat→Prop}{cs:List Value}{n:Nat}:∀(fs:List Field) (o:Nat) {m:Nat},c76 E o fs=some m→m≤cs.length→
 (∀f∈fs,∃aP,VRels I w noP aP ((cs.drop f.offset).take (E.sz f.type))∧Typ E n f.type aP)→
 o≤m∧∃ap:List (List AV),ap.length=fs.length∧(∀(i:Nat) f p,fs[i]?=some f→ap[i]?=some p→p.length=E.sz f.type∧Typ E n f.type p)∧VRels I w noP ap.flatten ((cs.drop o).take (m-o))
 | [],o,m,ht,hm,_=>by simp only[c76,Option.some.injEq]at ht;subst ht;exact⟨e9k _,[],rfl,by simp,by simp[VRels]⟩
 |f::r,o,m,ht,hm,h=>by
  simp only[c76,cond_eq_ite]at ht;split at ht
  case isFalse=>cases ht
  rename_i d9;have d9:f.offset=o:=by simpa using d9
  obtain⟨bl,ap,h1,h2,h3⟩:=c38 r (o+E.sz f.type) ht hm (λg hg=>h g (by simp[hg]));obtain⟨aP,g1,g2⟩:=h f (by simp);rw[d9]at g1;have al:aP.length=E.sz f.type:=by have:=VRels.length g1;rw[this];simp;omega
  refine⟨by omega,aP::ap,by simp[h1],?_,?_⟩
  ·intro i g p hg hp;cases i with
   |zero=>simp only[f0k,Option.some.injEq]at hg hp;subst hg;subst hp;exact⟨al,g2⟩
   |succ i=>simp only[f00]at hg hp;exact h2 i g p hg hp
  ·simp only[f0y];have:(cs.drop o).take (m-o)=(cs.drop o).take (E.sz f.type)++(cs.drop (o+E.sz f.type)).take (m-(o+E.sz f.type)):=by
    rw[show m-o=E.sz f.type+(m-(o+E.sz f.type)) by omega,List.take_add,List.drop_drop]
   rw[this];exact VRels.append g1 h3
theorem d6l{I:Nat→Prop}{cs:List Value}{n k:Nat}{e:TypeId}:∀(m o:Nat),o+m*k≤cs.length→
 (∀i,i<m→∃aP,VRels I w noP aP ((cs.drop (o+i*k)).take k)∧Typ E n e aP)→
 ∃ap:List (List AV),ap.length=m∧(∀p∈ap,p.length=k∧Typ E n e p)∧VRels I w noP ap.flatten ((cs.drop o).take (m*k))
 |0,o,_,_=>⟨[],rfl,by simp,by simp[VRels]⟩
 |m+1,o,hl,h=>by
  have kC:(m+1)*k=k+m*k:=by rw[f1r];omega
  obtain⟨ap,h1,h2,h3⟩:=d6l (cs:=cs) (k:=k) (e:=e) m (o+k) (by omega) (λi hi=>by obtain⟨aP,g1,g2⟩:=h (i+1) (by omega);refine⟨aP,?_,g2⟩;rw[show o+k+i*k=o+(i+1)*k by rw[f1r];omega];exact g1);obtain⟨aP,g1,g2⟩:=h 0 (by omega);rw[Nat.zero_mul,f3y]at g1;have al:aP.length=k:=by have:=VRels.length g1;rw[this];simp;omega
  refine⟨aP::ap,by simp[h1],?_,?_⟩
  ·intro p hp;simp only[e9m]at hp;rcases hp with rfl|hp
   ·exact⟨al,g2⟩
   ·exact h2 p hp
  ·simp only[f0y];rw[kC,List.take_add,List.drop_drop];exact VRels.append g1 h3
theorem b7c{α β:Type}{f:α→Option β}{l:List α}{r:List β}(h:l.mapM f=some r):∀x∈l,∃y,f x=some y:=by
 induction l generalizing r with
 |nil=>simp
 |cons a l ih=>
  rw[List.mapM_cons]at h;intro x hx;cases eQ:f a with
  |none=>simp[eQ]at h
  |some y=>
   simp only[eQ,Option.bind_eq_bind,f1l]at h;cases hl:l.mapM f with
   |none=>simp[hl]at h
   |some r'=>
    simp only[e9m]at hx;rcases hx with rfl|hx
    ·exact⟨y,eQ⟩
    ·exact ih hl x hx
theorem b4f{I:Nat→Prop}{aP:List AV}{cs:List Value}{b off:Nat}(hc:∀i v,cs[i]?=some v→w.cell? ⟨b,off+i,none⟩=some v)(h:VRels I w noP aP cs):VAt I w noP aP b off:=VAt.of_cells (λi v hv=>hc i v hv) h
theorem c83(ok:EnvOk E):∀(n:Nat) (t:TypeId),a4x E n t=true→∀(aZ:Nat) (cs:List Value) (x:DataW H×List MemPlace),DataW.trod enc E.P w base cH dI aZ t cs=some x→
 ∃aP,VRels (Old w) w noP aP cs∧Typ E n t aP
 |0,t,hr=>by simp[a4x]at hr
 |n+1,t,hr=>by
  intro aZ cs x h;cases aZ with
  |zero=>simp[DataW.trod]at h
  |succ aZ=>
  have ih:=c83 ok n;unfold a4x at hr;unfold DataW.trod at h;cases hu:E.und t with
  |none=>rw[hu]at hr;simp at hr
  |some d=>
   have hP:=(ok.und t d hu).1;have bF:=a3y ok hu;rw[hu]at hr;rw[hP]at h;cases d<;>simp only[f0s]at hr
   case bool=>
    obtain⟨b,rfl⟩:∃b,cs=[.bool b]:=by split at h<;>simp_all
    exact⟨[.bool b],by simp[VRels,VRel],by simp[Typ,hu]⟩
   case int k=>
    obtain⟨i,rfl,hw⟩:∃i,cs=[.int k i]∧(Lit.int k i).wf=true:=by split at h<;>simp_all
    exact⟨[.int k i],by simp[VRels,VRel],by simp[Typ,hu,hw]⟩
   case string=>
    obtain⟨b,rfl,hw⟩:∃b:ByteArray,cs=[.string b]∧b.size≤maxLen:=by split at h<;>simp_all
    exact⟨[.str b.data.toList],by simp[VRels,VRel],by simp only[Typ,hu];exact⟨_,rfl,by simpa using hw⟩⟩
   case slice e=>
    simp only[e7h,e9o]at hr;obtain⟨⟨dV,eo⟩,mf⟩:=hr;obtain⟨de,bp⟩:=e7n.1 dV;have gp:=a3y ok bp;have cf:cs=[.slice none 0 0]∨∃a len cap,cs=[.slice (some a) len cap]∧len≤cap∧cap≤maxLen∧
     ∃dX,((List.range len).mapM λi=>(w.cells? base (a.add (i*E.P.cellsOf e)) (E.P.cellsOf e)).bind (DataW.trod enc E.P w base cH dI aZ e))=some dX:=by
     split at h
     all_goals first|(rename_i cE;cases cE;done)|(cases h;done)|skip
     ·left;rfl
     ·rename_i e' a len cap cE;cases cE;dsimp only at h;split at h
      case isFalse=>cases h
      rename_i hc;right;refine⟨a,len,cap,rfl,hc.2.1,hc.2.2,?_⟩;cases hm:((List.range len).mapM λi=>(w.cells? base (a.add (i*E.P.cellsOf e)) (E.P.cellsOf e)).bind (DataW.trod enc E.P w base cH dI aZ e))with
      |none=>rw[hm]at h;simp at h
      |some dX=>exact⟨dX,rfl⟩
    rcases cf with rfl|⟨a,len,cap,rfl,mn,cN,dX,jY⟩
    ·exact⟨[.nilslice],by simp[VRels,VRel],by simp only[Typ,hu];exact .inl trivial⟩
    ·have fc:∀i,i<len→∃r,Typ E n e r∧r.length=E.sz e∧VAt (Old w) w noP r a.block (a.off+i*E.sz e)∧a.spot=none∧a.block<w.heap.size:=by
      have br:∀i,i<len→∃aI y,aI.length=E.sz e∧(∀j,j<E.sz e→w.cell? ((a.add (i*E.sz e)).add j)=aI[j]?)∧DataW.trod enc E.P w base cH dI aZ e aI=some y:=by
       intro i hi;obtain⟨y,hy⟩:=b7c jY i (by simpa using hi);rw[gp]at hy;cases hc:w.cells? base (a.add (i*E.sz e)) (E.sz e)with
       |none=>rw[hc]at hy;simp at hy
       |some aI=>rw[hc]at hy;obtain⟨_,h2,h3⟩:=World.cells?_some hc;exact⟨aI,y,h2,h3,by simpa using hy⟩
      intro i hi;have eT:a.spot=none∧a.block<w.heap.size:=by
       obtain⟨pq,y0,h1,h2,_⟩:=br 0 (by omega);have h3:=h2 0 eo;rw[Nat.zero_mul,show(a.add 0).add 0=a from by simp[Addr.add],z9e (by omega)]at h3;unfold World.cell? at h3;split at h3
       ·rename_i hb;refine⟨?_,(f0n.1 hb).1⟩;cases hs:a.spot with
        |none=>rfl
        |some _=>rw[hs]at h3;simp at h3
       ·cases h3
      obtain⟨aI,y,h1,h2,h3⟩:=br i hi;obtain⟨r,q1,q2⟩:=ih e mf aZ aI y h3;refine⟨r,q2,by rw[VRels.length q1,h1],b4f ?_ q1,eT⟩;intro j v hv;have hj:j<E.sz e:=by rw[←h1];exact(e7k.1 hv).1
      have:=h2 j hj;rw[hv]at this;rw[←this]
      congr 1
      obtain⟨ab,ao,as⟩:=a;obtain⟨rfl,_⟩:=eT;unfold Addr.add;split<;>split<;>simp_all
     obtain⟨aa,g1,g2,g3⟩:=c7s (Pr:=Typ E n e) len a.off (λi hi=>by obtain⟨r,q1,q2,q3,_⟩:=fc i hi;exact⟨r,q1,q2,q3⟩);refine⟨[.islice aa (some cap)],?_,by simp only[Typ,hu];exact .inr ⟨aa,cap,rfl,by omega,cN,g2⟩⟩;simp only[VRels];refine⟨_,[],rfl,?_,rfl⟩;simp only[VRel];refine⟨a,cap,E.sz e,by rw[g1],by omega,by simp,?_⟩;cases len with
     |zero=>exact .inl (f2w.1 g1)
     |succ len=>obtain⟨_,_,_,_,q4,q5⟩:=fc 0 (by omega);exact .inr ⟨q4,q5,g3⟩
   case struct fs=>
    simp only[e7h,e9r]at hr;obtain⟨dV,eo⟩:=hr;split at dV
    case h_2=>cases dV
    rename_i m hm;have uA:m=E.sz t:=by simpa using dV
    have cf:cs.length=E.P.cellsOf t∧∃xs,(fs.toList.mapM λf=>DataW.trod enc E.P w base cH dI aZ f.type ((cs.drop f.offset).take (E.P.cellsOf f.type)))=some xs:=by
     dsimp only at h;split at h
     ·rename_i hl;obtain⟨xs,bE,_⟩:=a07 h;exact⟨hl,xs,bE⟩
     ·cases h
    obtain⟨al,xs,bE⟩:=cf;obtain⟨_,ap,h1,h2,h3⟩:=c38 (E:=E) (I:=Old w) (w:=w) (cs:=cs) (n:=n) fs.toList 0 hm (by omega) (λf hf=>by obtain⟨y,hy⟩:=b7c bE f hf;have h2:=eo f hf;obtain⟨df,tH⟩:=e7n.1 h2.1;rw[a3y ok tH]at hy;exact ih f.type h2.2 aZ _ _ hy);refine⟨ap.flatten,?_,by simp only[Typ,hu];exact⟨ap,rfl,h1,h2⟩⟩;rw[f0u,Nat.sub_zero,e8b (by omega)]at h3;exact h3
   case array m e=>
    simp only[e7h]at hr;obtain⟨⟨dV,eo⟩,mf⟩:=hr;obtain⟨de,bp⟩:=e7n.1 dV;have gp:=a3y ok bp;have kC:m*E.sz e=E.sz t:=by simpa using eo
    have cf:cs.length=E.P.cellsOf t∧∃xs,((List.range m).mapM λi=>DataW.trod enc E.P w base cH dI aZ e ((cs.drop (i*E.P.cellsOf e)).take (E.P.cellsOf e)))=some xs:=by
     dsimp only at h;split at h
     ·rename_i hl;obtain⟨xs,bE,_⟩:=a07 h;exact⟨hl,xs,bE⟩
     ·cases h
    obtain⟨al,xs,bE⟩:=cf;obtain⟨ap,h1,h2,h3⟩:=d6l (E:=E) (I:=Old w) (w:=w) (cs:=cs) (n:=n) (k:=E.sz e) (e:=e) m 0 (by omega) (λi hi=>by obtain⟨y,hy⟩:=b7c bE i (by simpa using hi);rw[gp]at hy;rw[e9y];exact ih e mf aZ _ _ hy);refine⟨ap.flatten,?_,by simp only[Typ,hu];exact⟨ap,rfl,h1,h2⟩⟩;rw[f0u,e8b (by omega)]at h3;exact h3
end
end Go.Ax
/- AxArgs: a row's arguments as abstract values. -/
namespace Go.Ax
def d6r(E:Env)(n:Nat)(t:TypeId)(av:AV):Prop:=
 match E.und t with
 |some d=>bif a26 d then ∃aP,av = .agg aP∧Typ E n t aP else Typ E n t [av]
 |none=>False
def TypAs(E:Env)(n:Nat):List TypeId→List AV→Prop
 | [],aP=>aP=[]
 |t::ts,aP=>∃a r,aP=a::r∧d6r E n t a∧TypAs E n ts r
section
variable {E:Env}{w:World}{H:Type}{enc:TypeId×Value→H}{cH:Nat→Bool}{dI:Bool}{b0:Nat}
theorem e4a(ok:EnvOk E){n:Nat}{t:TypeId}{v:Value}{d:DataW H}{ps:List MemPlace}(hr:a4x E n t=true)(hv:Value.okWide E.P w .any b0 t v)(h:DataW.Trod enc E.P w 0 cH dI t v d ps) :
 ∃a,VRel (Old w) w noP a v∧d6r E n t a:=by
 obtain⟨aZ,hf⟩:=h;obtain⟨aP,h1,h2⟩:=c83 ok n t hr aZ _ _ hf;cases hu:E.und t with
 |none=>cases n<;>simp[a4x,hu]at hr
 |some dd=>
  have hP:=(ok.und t dd hu).1;unfold Value.okWide at hv;rw[hP]at hv;cases dA:a26 dd with
  |true=>
   have hv:∃cs,v = .agg cs∧cs.size=E.P.cellsOf t∧Row.okWide E.P w .any b0 t cs:=by cases dd<;>simp[a26]at dA<;>exact hv
   obtain⟨cs,rfl,_,_⟩:=hv;exact⟨.agg aP,by simp only[VRel];exact⟨cs,rfl,h1⟩,by simp only[d6r,hu,dA,e9i];exact⟨aP,rfl,h2⟩⟩
  |false=>
   have cu:v.cells = #[v]:=by
    cases v with
    |agg cs=>exfalso;cases dd<;>simp[a26]at dA<;>simp[Cell.okWide,Cell.ok,hP]at hv
    |_=>rfl
   rw[cu]at h1;have h3:=h1;obtain⟨a,rfl⟩:∃a,aP=[a]:=by
    have:=VRels.length h1
    match aP,this with
    | [a],_=>exact⟨a,rfl⟩
   simp only[VRels]at h3;obtain⟨c,_,hc,h4,rfl⟩:=h3;simp only[List.cons.injEq,and_true]at hc;subst hc;exact⟨a,h4,by simp only[d6r,hu,dA,e9q];exact h2⟩
theorem d15(ok:EnvOk E){n:Nat}:∀(ts:List TypeId) (vs:List Value) (ds:List (DataW H)) (ps:List MemPlace),DataW.TrodAll enc E.P w 0 cH dI ts vs ds ps→
 (∀(j:Nat) t v,ts[j]?=some t→vs[j]?=some v→Value.okWide E.P w .any b0 t v)→(ts.all (a4x E n))=true→∃args,VRels (Old w) w noP args vs∧TypAs E n ts args
 | [],vs,ds,ps,h,_,_=>by
  cases vs with
  |nil=>exact⟨[],by simp[VRels],rfl⟩
  |cons v vs=>cases ds<;>simp[DataW.TrodAll]at h
 |t::ts,vs,ds,ps,h,hv,hr=>by
  cases vs with
  |nil=>cases ds<;>simp[DataW.TrodAll]at h
  |cons v vs=>
   cases ds with
   |nil=>simp[DataW.TrodAll]at h
   |cons d ds=>simp only[DataW.TrodAll]at h;obtain⟨p,q,h1,h2,_⟩:=h;simp only[List.all_cons,e7h]at hr;obtain⟨a,g1,g2⟩:=e4a ok hr.1 (hv 0 t v rfl rfl) h1;obtain⟨r,g3,g4⟩:=d15 ok ts vs ds q h2 (λj t v ht s7=>hv (j+1) t v (by simpa using ht) (by simpa using s7)) hr.2;exact⟨a::r,by simp only[VRels];exact⟨v,vs,rfl,g1,g3⟩,⟨a,r,rfl,g2,g4⟩⟩
end
end Go.Ax
/- AxLaid: what a listed package-level variable d2s as, as abstract cells. -/
namespace Go.Ax
def c3x(E:Env)(f:TypeId→DataW Unit→Option (List AV)):Nat→List Field→List (DataW Unit)→Option (List AV)
 |_,[],[]=>some []
 |o,x::fs,d::ds=>bif Nat.beq x.offset o&&(E.und x.type).isSome then
  match f x.type d,c3x E f (o+E.sz x.type) fs ds with
  |some a,some b=>bif Nat.beq a.length (E.sz x.type)then some (a++b)else none
  |_,_=>none
  else none
 |_,_,_=>none
def b3t(k:Nat)(f:DataW Unit→Option (List AV)):List (DataW Unit)→Option (List (List AV))
 | []=>some []
 |d::ds=>match f d,b3t k f ds with
  |some a,some b=>bif Nat.beq a.length k then some (a::b)else none
  |_,_=>none
def b4v(E:Env):Nat→TypeId→DataW Unit→Option (List AV)
 |0,_,_=>none
 |n+1,t,d=>match E.und t,d with
  |some .bool,.lit (.bool b)=>some [.bool b]
  |some (.int k),.lit (.int k' i)=>bif k==k' then some [.int k i]else none
  |some .string,.lit (.string s)=>some [.str s]
  |some (.struct fs),.agg ds=>match c3x E (b4v E n) 0 fs.toList ds with
   |some aP=>bif Nat.beq aP.length (E.sz t)then some aP else none
   |none=>none
  |some (.array m e),.agg ds=>bif (E.und e).isSome&&Nat.beq (m*E.sz e) (E.sz t)&&Nat.beq ds.length m then(b3t (E.sz e) (b4v E n e) ds).map List.flatten else none
  |some (.slice _),.nil=>some [.nilslice]
  |some (.slice e),.slice es cH=>bif (E.und e).isSome&&Nat.blt 0 (E.sz e)&&Nat.blt 0 es.length then(b3t (E.sz e) (b4v E n e) es).map λaa=>[.islice aa (some (es.length+cH.length))]else none
  |_,_=>none
section
variable {E:Env}{w:World}{enc:TypeId×Value→Unit}{base:Nat}{dI:Bool}
theorem a71{α β:Type}{f:α→Option β}{a:α}{l:List α}{r:List β}(h:(a::l).mapM f=some r):∃b r',f a=some b∧l.mapM f=some r'∧r=b::r':=by
 rw[List.mapM_cons]at h;cases eQ:f a with
 |none=>simp[eQ]at h
 |some y=>
  simp only[eQ,Option.bind_eq_bind,f1l]at h;cases hl:l.mapM f with
  |none=>simp[hl]at h
  |some r'=>simp only[hl,f1l]at h;cases h;exact⟨y,r',rfl,rfl,rfl⟩
theorem b7a{α β:Type}{f:α→Option β}:∀{l:List α} {r:List β},l.mapM f=some r→r.length=l.length
 | [],r,h=>by cases h;rfl
 |a::l,r,h=>by obtain⟨b,r',_,h2,rfl⟩:=a71 h;simp[b7a h2]
theorem b7b{α β:Type}{f:α→Option β}:∀{l:List α} {r:List β},l.mapM f=some r→∀(i:Nat) a,l[i]?=some a→∃b,f a=some b∧r[i]?=some b
 | [],r,h,i,a,ha=>by simp at ha
 |x::l,r,h,i,a,ha=>by
  obtain⟨b,r',h1,h2,rfl⟩:=a71 h;cases i with
  |zero=>simp only[f0k,Option.some.injEq]at ha;subst ha;exact⟨b,h1,rfl⟩
  |succ i=>simp only[f00]at ha⊢;exact b7b h2 i a ha
theorem b0r{k:Nat}{f:DataW Unit→Option (List AV)}:∀{ds:List (DataW Unit)} {aa:List (List AV)},b3t k f ds=some aa→aa.length=ds.length
 | [],aa,h=>by cases h;rfl
 |d::ds,aa,h=>by
  simp only[b3t]at h;split at h
  case h_2=>cases h
  rename_i a b ha hb;rw[cond_eq_ite]at h;split at h
  ·cases h;simp[b0r hb]
  ·cases h
theorem b0s{k:Nat}{f:DataW Unit→Option (List AV)}:∀{ds:List (DataW Unit)} {aa:List (List AV)},b3t k f ds=some aa→∀(i:Nat) d,ds[i]?=some d→∃a,f d=some a∧a.length=k∧aa[i]?=some a
 | [],aa,h,i,d,hd=>by simp at hd
 |x::ds,aa,h,i,d,hd=>by
  simp only[b3t]at h;split at h
  case h_2=>cases h
  rename_i a b ha hb;rw[cond_eq_ite]at h;split at h
  case isFalse=>cases h
  rename_i hk;cases h;cases i with
  |zero=>simp only[f0k,Option.some.injEq]at hd;subst hd;exact⟨a,ha,by simpa using hk,rfl⟩
  |succ i=>simp only[f00]at hd⊢;exact b0s hb i d hd
theorem b3w{I:Nat→Prop}{cs:List Value}{f:TypeId→DataW Unit→Option (List AV)}{g:Field→Option (DataW Unit×List MemPlace)}
 (hg:∀x y aP,g x=some y→f x.type y.1=some aP→VRels I w noP aP ((cs.drop x.offset).take (E.sz x.type))) :
 ∀(fs:List Field) (o:Nat) {xs:List (DataW Unit×List MemPlace)} {aP:List AV},fs.mapM g=some xs→c3x E f o fs (xs.map (·.1))=some aP→VRels I w noP aP ((cs.drop o).take aP.length)
 | [],o,xs,aP,hm,hf=>by cases hm;cases hf;simp[VRels]
 |x::fs,o,xs,aP,hm,hf=>by
  obtain⟨y,ys,h1,h2,rfl⟩:=a71 hm;simp only[e12,c3x]at hf;rw[cond_eq_ite]at hf;split at hf
  case isFalse=>cases hf
  rename_i hc;simp only[e7h,f4h]at hc;split at hf
  case h_2=>cases hf
  rename_i a b ha hb;rw[cond_eq_ite]at hf;split at hf
  case isFalse=>cases hf
  rename_i hl;rw[f4h]at hl;cases hf;have ih:=b3w hg fs _ h2 hb;have h3:=hg x y a h1 ha;rw[hc.1,←hl]at h3;rw[e8i,List.take_add,List.drop_drop,hl]at *;exact VRels.append h3 ih
theorem b8x{I:Nat→Prop}{cs:List Value}{k:Nat}:∀(aa:List (List AV)) (o:Nat),(∀(i:Nat) r,aa[i]?=some r→r.length=k∧VRels I w noP r ((cs.drop (o+i*k)).take k))→
 VRels I w noP aa.flatten ((cs.drop o).take (aa.length*k))
 | [],o,_=>by simp[VRels]
 |r::aa,o,h=>by have h0:=h 0 r rfl;have ih:=b8x aa (o+k) (λi r hr=>by have:=h (i+1) r (by simpa using hr);rw[show o+k+i*k=o+(i+1)*k by rw[f1r];omega];exact this);simp only[f0y,e7g];rw[show(aa.length+1)*k=k+aa.length*k by rw[f1r];omega,List.take_add,List.drop_drop];refine VRels.append ?_ ih;simpa using h0.2
theorem b9i(ok:EnvOk E):∀(n:Nat) (t:TypeId) (aZ:Nat) (cs:List Value) (x:DataW Unit×List MemPlace) (aP:List AV),DataW.trod enc E.P w base (λ_=>true) dI aZ t cs=some x→b4v E n t x.1=some aP→
 VRels (Old w) w noP aP cs
 |0,t,aZ,cs,x,aP,_,hf=>by simp[b4v]at hf
 |n+1,t,0,cs,x,aP,h,hf=>by simp[DataW.trod]at h
 |n+1,t,aZ+1,cs,x,aP,h,hf=>by
  have ih:=b9i ok n;unfold b4v at hf;unfold DataW.trod at h;cases hu:E.und t with
  |none=>rw[hu]at hf;simp at hf
  |some dd=>
   have hP:=(ok.und t dd hu).1;have s9:=a3y ok hu;rw[hu]at hf;rw[hP]at h;cases dd
   case bool=>
    obtain⟨b,rfl,rfl⟩:∃b,cs=[.bool b]∧x=(.lit (.bool b),[]):=by split at h<;>simp_all
    simp only[Option.some.injEq]at hf;subst hf;simp[VRels,VRel]
   case int k=>
    obtain⟨b,rfl,rfl⟩:∃b,cs=[.int k b]∧x=(.lit (.int k b),[]):=by split at h<;>simp_all
    simp only[cond_eq_ite]at hf;split at hf
    ·cases hf;simp[VRels,VRel]
    ·cases hf
   case string=>
    obtain⟨b,rfl,rfl⟩:∃b:ByteArray,cs=[.string b]∧x=(.lit (.string b.data.toList),[]):=by split at h<;>simp_all
    simp only[Option.some.injEq]at hf;subst hf;simp[VRels,VRel]
   case struct fs=>
    dsimp only at h;split at h
    case isFalse=>cases h
    rename_i hl;obtain⟨xs,bE,rfl⟩:=a07 h;dsimp only at hf;split at hf
    case h_2=>cases hf
    rename_i ur eh;rw[cond_eq_ite]at hf;split at hf
    case isFalse=>cases hf
    rename_i gx;rw[f4h]at gx;cases hf;have key:=b3w (E:=E) (I:=Old w) (w:=w) (cs:=cs) (f:=b4v E n)
     (g:=λf=>DataW.trod enc E.P w base (λ_=>true) dI aZ f.type ((cs.drop f.offset).take (E.P.cellsOf f.type))) ?_ fs.toList 0 bE eh
    ·rw[f0u,e8b (by omega)]at key;exact key
    ·intro x y aP hy eQ;have fa:∃dx,E.und x.type=some dx:=by
      cases n with
      |zero=>simp[b4v]at eQ
      |succ n=>unfold b4v at eQ;cases hux:E.und x.type with
       |none=>rw[hux]at eQ;simp at eQ
       |some dx=>exact⟨dx,rfl⟩
     obtain⟨dx,tE⟩:=fa;rw[a3y ok tE]at hy;exact ih x.type aZ _ y aP hy eQ
   case array m e=>
    dsimp only at h;split at h
    case isFalse=>cases h
    rename_i hl;obtain⟨xs,bE,rfl⟩:=a07 h;dsimp only at hf;rw[cond_eq_ite]at hf;split at hf
    case isFalse=>cases hf
    rename_i hc;simp only[e7h,f4h]at hc;obtain⟨aa,az,rfl⟩:=a07 hf;obtain⟨de,bp⟩:=e7n.1 hc.1.1;have gp:=a3y ok bp;have al:aa.length=m:=by rw[b0r az];simpa using hc.2
    have key:=b8x (I:=Old w) (w:=w) (cs:=cs) (k:=E.sz e) aa 0 (λi r hr=>by
     have hi:i<m:=by rw[←al];exact(e7k.1 hr).1
     obtain⟨y,hy,py⟩:=b7b bE i i (by simp[hi]);obtain⟨a,ha,gj,n8⟩:=b0s az i y.1 (by simp[py]);rw[hr]at n8;cases n8;refine⟨gj,?_⟩;rw[e9y];rw[gp]at hy;exact ih e aZ _ y r hy ha)
    rw[f0u,e8b (by rw[al];omega)]at key;exact key
   case slice e=>
    split at h
    all_goals first|(rename_i cE;cases cE;done)|(cases h;done)|skip
    ·cases h;simp only[Option.some.injEq]at hf;subst hf;simp[VRels,VRel]
    ·rename_i e' a len cap cE;cases cE;dsimp only at h;split at h
     case isFalse=>cases h
     rename_i hc;cases hm:((List.range len).mapM λi=>(w.cells? base (a.add (i*E.P.cellsOf e)) (E.P.cellsOf e)).bind (DataW.trod enc E.P w base (λ_=>true) dI aZ e))with
     |none=>rw[hm]at h;simp at h
     |some dX=>
      rw[hm]at h;simp only[f1l,f1a]at h;obtain⟨ah,cJ,rfl⟩:=a07 h;dsimp only at hf;rw[cond_eq_ite]at hf;split at hf
      case isFalse=>cases hf
      rename_i fm;simp only[e7h,e9o,c10]at fm;obtain⟨aa,az,rfl⟩:=a07 hf;obtain⟨de,bp⟩:=e7n.1 fm.1.1;have gp:=a3y ok bp;have rQ:aa.length=dX.length:=by rw[b0r az];simp
      have bl:dX.length=len:=by rw[b7a hm];simp
      have p8:ah.length=cap-len:=by rw[b7a cJ];simp
      have br:∀i,i<len→∃aI y,dX[i]?=some y∧aI.length=E.sz e∧(∀j,j<E.sz e→w.cell? ((a.add (i*E.sz e)).add j)=aI[j]?)∧DataW.trod enc E.P w base (λ_=>true) dI aZ e aI=some y:=by
       intro i hi;obtain⟨y,hy,py⟩:=b7b hm i i (by simp[hi]);rw[gp]at hy;cases cR:w.cells? base (a.add (i*E.sz e)) (E.sz e)with
       |none=>rw[cR]at hy;simp at hy
       |some aI=>rw[cR]at hy;obtain⟨_,h2,h3⟩:=World.cells?_some cR;exact⟨aI,y,py,h2,h3,by simpa using hy⟩
      have eT:a.spot=none∧a.block<w.heap.size:=by
       obtain⟨pq,y0,_,h1,h2,_⟩:=br 0 (by omega);have h3:=h2 0 fm.1.2;rw[Nat.zero_mul,show(a.add 0).add 0=a from by simp[Addr.add],z9e (by omega)]at h3;unfold World.cell? at h3;split at h3
       ·rename_i hb;refine⟨?_,(f0n.1 hb).1⟩;cases hs:a.spot with
        |none=>rfl
        |some _=>rw[hs]at h3;simp at h3
       ·cases h3
      simp only[VRels];refine⟨_,[],rfl,?_,rfl⟩;simp only[VRel];refine⟨a,cap,E.sz e,by rw[rQ,bl],by omega,λn hn=>by cases hn;simp;omega,.inr ⟨eT.1,eT.2,?_⟩⟩;have key:∀(be:List (List AV)) (o:Nat),(∀(i:Nat) r,be[i]?=some r→r.length=E.sz e∧VAt (Old w) w noP r a.block (a.off+(o+i)*E.sz e))→VRows (Old w) w (E.sz e) noP be a.block (a.off+o*E.sz e):=by
       intro be
       induction be with
       |nil=>intro o _;simp[VRows]
       |cons r rs ihr=>intro o hh;have h0:=hh 0 r rfl;simp only[VRows];refine⟨h0.1,by simpa using h0.2,?_⟩;rw[show a.off+o*E.sz e+E.sz e=a.off+(o+1)*E.sz e by rw[f1r];omega];refine ihr (o+1) (λi r hr=>?_);have:=hh (i+1) r (by simpa using hr);rw[show o+1+i=o+(i+1) by omega];exact this
      have:=key aa 0 (λi r hr=>by
       have hi:i<len:=by rw[←bl,←rQ];exact(e7k.1 hr).1
       obtain⟨aI,y,h0,h1,h2,h3⟩:=br i hi;obtain⟨av,ha,gj,n8⟩:=b0s az i y.1 (by simp[h0]);rw[hr]at n8;cases n8;refine⟨gj,?_⟩;rw[e9y];refine b4f ?_ (ih e aZ _ y r h3 ha);intro j v hv;have hj:j<E.sz e:=by rw[←h1];exact(e7k.1 hv).1
       have:=h2 j hj;rw[hv]at this;rw[←this]
       congr 1
       obtain⟨ab,ao,as⟩:=a;obtain⟨rfl,_⟩:=eT;unfold Addr.add;split<;>split<;>simp_all)
      simpa using this
   all_goals (simp only at hf;first|(cases hf;done)|(split at hf<;>cases hf))
theorem holds_of_laid(ok:EnvOk E){laid:List (String×DataW Unit)}(h:laidMet E.P laid w)
 (hG:∀g cs,E.G g=some cs→∃x∈laid,E.P.globalNamed x.1=some g∧∃t,(E.P.globals[g]?).map (·.type)=some t∧b4v E 8 t x.2=some cs):Holds E w:=by
 obtain⟨ps,hv,aU,cu⟩:=h;have aY:∀(l:List (String×DataW Unit)) ps,DataW.LaidVars E.P w l ps→∀x∈l,∃g t cs aZ p,E.P.globalNamed x.1=some g∧(E.P.globals[g]?).map (·.type)=some t∧w.var? E.P x.1=some cs∧DataW.trod (λ_=>()) E.P w 0 (λ_=>true) false aZ t cs.toList=some (x.2,p):=by
  intro l
  induction l with
  |nil=>intro ps _ x hx;simp at hx
  |cons y r ih=>
   intro ps hv x hx;obtain⟨n,d⟩:=y;simp only[DataW.LaidVars]at hv;obtain⟨g,t,cs,aZ,p,q,h1,h2,h3,h4,h5,_⟩:=hv;simp only[e9m]at hx;rcases hx with rfl|hx
   ·exact⟨g,t,cs,aZ,p,h1,h2,h3,h4⟩
   ·exact ih q h5 x hx
 intro g cs hg;obtain⟨x,hx,h1,t,h2,h3⟩:=hG g cs hg;obtain⟨g',t',aI,aZ,p,k1,k2,k3,k4⟩:=aY laid ps hv x hx;obtain rfl:g'=g:=z9o (k1.symm.trans h1);obtain rfl:t'=t:=z9o (k2.symm.trans h2);have hr:=b9i ok 8 t' aZ _ (x.2,p) cs k4 h3;unfold World.var? at k3;rw[k1]at k3;simp only[f1l]at k3;split at k3
 case h_2=>cases k3
 rename_i uU e fz kI;cases k3;refine⟨(f0n.1 kI).1,?_⟩;refine VAt.of_cells (cs:=aI.toList) (CellsAt.of_heap kI ?_) hr;intro j v hv;simpa using hv
end
end Go.Ax
/- AxLaw: from a run of a law's body that answers true, for all d72 arguments, to what a row asks. -/
namespace Go.Ax
open Go.ChangeShapes Go.WideShapes Go.RowKit
section
variable {E:Env}{H:Type}{enc:TypeId×Value→H}
theorem a9k{P:Program}(hl:laidOutB P=true){W W':World}(hb:Below W.heap.size W W'){sp:Nat→Bool}:∀(ts:List TypeId) (vs:List Value) (ds:List (DataW H)) (ps:List MemPlace),
 (ts.all λt=>P.readableRec t&&decide (t<P.types.size))=true→(∀p∈ps,p.block<W.heap.size)→(∀p∈ps,sp p.block=true)→
 DataW.TrodAll enc P W 0 (λ_=>true) true ts vs ds ps→DataW.TrodAll enc P W' 0 sp true ts vs ds ps
 | [],vs,ds,ps,_,_,_,h=>by cases vs<;>cases ds<;>simp only[DataW.TrodAll]at h⊢<;>exact h
 |t::ts,vs,ds,ps,hr,aj,hs,h=>by
  cases vs with
  |nil=>simp[DataW.TrodAll]at h
  |cons v vs=>
   cases ds with
   |nil=>simp[DataW.TrodAll]at h
   |cons d ds=>simp only[DataW.TrodAll]at h⊢;obtain⟨p,q,h1,h2,rfl⟩:=h;simp only[List.all_cons,e7h,e9j]at hr;refine⟨p,q,?_,a9k hl hb ts vs ds q hr.2 (λx hx=>aj x (by simp[hx])) (λx hx=>hs x (by simp[hx])) h2,rfl⟩;exact WideElems.Trod_stays hl hr.1.1 hr.1.2 h1 (λx hx=>hb.same (aj x (by simp[hx]))) (λx hx=>hs x (by simp[hx]))
theorem d3h{P:Program}(hl:laidOutB P=true){f:Func}{s:ChangeSpec}(eD:s.vars=[]){n:Nat}(hn:f.params.toList.length=n)
 (hs:∀ds:List (DataW H),ds.length=n→(s.fn H ds).results=[.lit (.bool true)]∧(s.fn H ds).args=ds∧(s.fn H ds).vars=[]){tb:TypeId}(eK:f.resultTypes = #[tb])(kj:P.underlying tb=some .bool)
 (lw:(f.params.toList.all λt=>P.readableRec t&&decide (t<P.types.size))=true)
 {W W':World}{args:Array Value}{ds gs:List (DataW H)}{bq:List MemPlace}(hW:DataW.Whole enc P f.params.toList s.vars false W args.toList ds gs bq)(hb:Below W.heap.size W W') :
 s.post enc P f false true false false W args (.bool true) W':=by
 have aj:∀p∈bq,p.block<W.heap.size:=λp hp=>hW.lt p hp;have aN:∀p∈bq,(λb=>decide (b<W.heap.size)) p.block=true:=λp hp=>by simpa using aj p hp
 have ub:=hW;obtain⟨p,q,hA,hV,rfl,hz,aU⟩:=hW;rw[eD]at hV;obtain⟨rfl,rfl⟩:=trodVars_none hV;have al:ds.length=n:=by
  have:∀(ts:List TypeId) (vs:List Value) (ds:List (DataW H)) (ps:List MemPlace),DataW.TrodAll enc P W 0 (λ_=>true) true ts vs ds ps→ds.length=ts.length:=by
   intro ts
   induction ts with
   |nil=>intro vs ds ps h;cases vs<;>cases ds<;>simp[DataW.TrodAll]at h<;>rfl
   |cons t ts ih=>
    intro vs ds ps h;cases vs with
    |nil=>simp[DataW.TrodAll]at h
    |cons v vs=>cases ds with
     |nil=>simp[DataW.TrodAll]at h
     |cons d ds=>simp only[DataW.TrodAll]at h;obtain⟨p,q,_,h2,_⟩:=h;simp[ih vs ds q h2]
  rw[this _ _ _ _ hA,hn]
 obtain⟨s1,s2,s3⟩:=hs (ds++[]) (by simpa using al);rw[e7i]at aj aN;have aD:∀sp:Nat→Bool,(∀x∈p,sp x.block=true)→DataW.TrodAll enc P W' 0 sp true f.params.toList args.toList (s.fn H (ds++[])).args p:=by intro sp pH;rw[s2,e7i];exact a9k hl hb _ _ _ _ lw aj pH hA
 have kf:∀sp:Nat→Bool,DataW.TrodVars enc P W' sp s.vars (s.fn H (ds++[])).vars []:=by intro sp;rw[s3,eD];rfl
 have dV:∀(b:Nat) (sp:Nat→Bool) (hd:Bool),DataW.TrodAll enc P W' b sp hd f.resultTypes.toList ((Value.bool true).resultList f.resultTypes.size) (s.fn H (ds++[])).results []:=by intro b sp hd;rw[s1,eK];exact⟨[],[],⟨1,by simp[DataW.trod,kj,Value.cells]⟩,rfl,rfl⟩
 refine⟨ds,[],p++[],[],p,[],ub,dV _ _ _,aD _ aN,kf _,World.keptBut_mono (λx hx=>⟨hx,?_⟩) (hb.frame (·∈p++[])),λ_=>?_⟩
 ·simpa using hx
 ·refine⟨?_,_,_,([]++p)++[],⟨[]++p,[],trodAll_append (aD _ (λ_ _=>rfl)) (dV _ _ _),kf _,rfl,?_,?_⟩,?_⟩
  ·intro j t r hj hv;rw[eK]at hj hv
   match j,hj,hv with
   |0,hj,hv=>simp[Value.resultList]at hj hv;subst hj;subst hv;exact okWide_bool_mk kj true
  ·intro b off hp;have bX:MemPlace.cell b off∈p:=by simpa using hp
   rw[hb.frozen (aj _ bX)];exact hz b off (by simpa using bX)
  ·intro ha;cases ha
  ·intro x hx _;simpa using hx
theorem law_contract(ok:EnvOk E)(hl:laidOutB E.P=true){f:FuncId}{fn:Func}{run:List AV→a03→Option (AV×a03)}(kM:f≠yId)(hf:b08 E f run){m:Nat}
 (nj:(fn.params.toList.all (a4x E m))=true)(ae:∀args,TypAs E m fn.params.toList args→∃H',run args []=some (.bool true,H'))
 {s:ChangeSpec}(eD:s.vars=[]){n:Nat}(hn:fn.params.toList.length=n)
 (hs:∀ds:List (DataW H),ds.length=n→(s.fn H ds).results=[.lit (.bool true)]∧(s.fn H ds).args=ds∧(s.fn H ds).vars=[]){tb:TypeId}(eK:fn.resultTypes = #[tb])(kj:E.P.underlying tb=some .bool)
 (lw:(fn.params.toList.all λt=>E.P.readableRec t&&decide (t<E.P.types.size))=true)
 (W:World)(base:Nat)(args:Array Value)(ds gs:List (DataW H))(bq:List MemPlace)
 (cz:∀(j:Nat) t v,fn.params[j]?=some t→args[j]?=some v→Value.okWide E.P W .any base t v)
 (hW:DataW.Whole enc E.P fn.params.toList s.vars false W args.toList ds gs bq)(hG:Holds E W) :
 Calls E.P f args W λe W'=>∃v,e = .returned v∧s.post enc E.P fn false true false false W args v W':=by
 have hA:=hW;obtain⟨p,q,hA,_⟩:=hA;obtain⟨aP,h1,h2⟩:=d15 (b0:=base) ok (n:=m) fn.params.toList args.toList ds p hA (λj t v ht hv=>cz j t v (by simpa using ht) (by simpa using hv)) nj;obtain⟨H',hr⟩:=ae aP h2;have:=d26 kM hf hr hG h1;rw[Array.toArray_toList]at this;refine this.mono ?_
 rintro e W' ⟨rfl,hb⟩
 exact⟨_,rfl,d3h hl eD hn hs eK kj lw hW hb⟩
end
end Go.Ax
/- AxSem: what a call comes to, a3r fuel for the calls: a function 'sem', closed under running a body over itself. No condition. -/
namespace Go.Ax
abbrev CallF:=FuncId→List AV→a03→Option (AV×a03)
def CallF.le(c c':CallF):Prop:=∀g a H r,c g a H=some r→c' g a H=some r
theorem a86{r r':List AV→a03→Option (AV×a03)}(h:∀a H x,r a H=some x→r' a H=some x){args:List AV}{H:a03}{x:AV×a03×List Nat}
 (hc:a2f r args H=some x):a2f r' args H=some x:=by
 unfold a2f at hc⊢;simp only at hc⊢;rw[cond_eq_ite]at hc⊢;split at hc
 case isFalse=>cases hc
 rename_i h1;rw[e8j h1];split at hc
 case h_2=>cases hc
 rename_i v H1 hr;rw[h _ _ _ hr];exact hc
theorem b9h{r r':List AV→a03→Option (AV×a03)}(h:∀a H x,r a H=some x→r' a H=some x){args:List AV}{H:a03}{x:AV×a03×List Nat}
 (hc:a7y r args H=some x):a7y r' args H=some x:=by
 unfold a7y at hc⊢;split at hc
 case h_2=>cases hc
 rename_i au h1;split at hc
 case h_2=>cases hc
 rename_i v H1 hr;rw[h _ _ _ hr];exact hc
section
variable {E:Env}{ag:Bool}{N:Nat}{c c':CallF}(hc:CallF.le c c')
include hc
theorem c6d{f:AV}{args:List AV}{H:a03}{x:AV×a03×List Nat}(h:a0a E ag c f args H=some x):a0a E ag c' f args H=some x:=by
 unfold a0a at h⊢;split at h
 case h_3=>cases h
 case h_2=>
  split at h
  case h_2=>cases h
  rename_i v H' σ hr;rw[a86 (λa H x=>hc yId a H x) hr];exact h
 rename_i g fs cs;rw[cond_eq_ite]at h⊢;split at h
 ·rename_i h1;rw[e8j h1];rw[cond_eq_ite]at h⊢;split at h
  ·rename_i h2;rw[e8j h2];exact b9h (λa H x=>hc g a H x) h
  ·rename_i h2;rw[e8g h2];exact h
 ·rename_i h1;rw[e8g h1];rw[cond_eq_ite]at h⊢;split at h
  case isFalse=>cases h
  rename_i h2;rw[e8j h2];split at h
  case h_2=>cases h
  rename_i v H' σ hr;rw[a86 (λa H x=>hc g a H x) hr];exact h
theorem c0v{F:Frm}{H:a03}{op:Op}{x:AV×a03×LogE}(h:a0r E ag c F H op=some x):a0r E ag c' F H op=some x:=by
 unfold a0r at h⊢;split at h
 ·split at h
  case h_2=>cases h
  rename_i v H' σ hr;rw[c6d hc hr];exact h
 ·exact h
theorem b2m{R:Type}{all:List Oper}{k k':Frm→a03→Option R}(hk:∀F H r,k F H=some r→k' F H=some r):∀(an:List Oper) (log:List LogE) (F:Frm) (H:a03) {r:R},
 a2g E ag N c all an log F H k=some r→a2g E ag N c' all an log F H k'=some r:=by
 intro an
 induction an with
 |nil=>
  intro log F H r h;unfold a2g at h⊢;rw[cond_eq_ite]at h⊢;split at h
  case isFalse=>cases h
  rename_i h1;rw[e8j h1];exact hk _ _ _ h
 |cons o ah ih=>
  have step:∀(log:List LogE) (F F':Frm) (H:a03) (op:Op) (r:R),(match a0r E ag c F H op with
   |some (v,H',l)=>a2g E ag N c all ah (l::log) (a3i F' o.dst v) H' k
   |none=>none)=some r→(match a0r E ag c' F H op with
   |some (v,H',l)=>a2g E ag N c' all ah (l::log) (a3i F' o.dst v) H' k'
   |none=>none)=some r:=by
   intro log F F' H op r h;split at h
   case h_2=>cases h
   rename_i v H' l hs;rw[c0v hc hs];exact ih _ _ _ h
  intro log F H r h;unfold a2g at h⊢;rw[cond_eq_ite]at h⊢;split at h
  case isFalse=>cases h
  rename_i h1;rw[e8j h1];split at h
  ·exact step _ _ _ _ _ _ h
  ·rename_i j bi hg;split at h
   ·cases h
   ·rename_i d hd;split at h
    ·rename_i b hb;rw[cond_eq_ite]at h⊢;split at h
     ·rename_i qz;rw[e8j qz];rw[cond_eq_ite]at h⊢;split at h
      ·rename_i hw;rw[e8j hw];exact step _ _ _ _ _ _ h
      ·rename_i hw;rw[e8g hw];exact ih _ _ _ h
     ·rename_i qz;rw[e8g qz];rw[cond_eq_ite]at h⊢;split at h
      ·rename_i hw;rw[e8j hw];exact ih _ _ _ h
      ·rename_i hw;rw[e8g hw];exact step _ _ _ _ _ _ h
    ·exact ih _ _ _ h
    ·cases h
omit hc in
theorem b5u{m0:Nat}{keep:List Nat}{R:Type}{b b':Frm→a03→(AExit→Frm→a03→Option R)→Option R}
 (hb:∀F H (k k':AExit→Frm→a03→Option R),(∀e F H r,k e F H=some r→k' e F H=some r)→∀r,b F H k=some r→b' F H k'=some r):∀(n n':Nat),n≤n'→∀(F:Frm) (H:a03) (k k':AExit→Frm→a03→Option R),(∀e F H r,k e F H=some r→k' e F H=some r)→∀{r:R},
 b1p m0 keep b n F H k=some r→b1p m0 keep b' n' F H k'=some r
 |0,_,_,F,H,k,k',_,r,h=>by simp[b1p]at h
 |n+1,0,hn,F,H,k,k',_,r,h=>by omega
 |n+1,n'+1,hn,F,H,k,k',hk,r,h=>by
  unfold b1p at h⊢;simp only at h⊢;rw[cond_eq_ite]at h⊢;split at h
  case isFalse=>cases h
  rename_i h1;rw[e8j h1];refine hb _ _ _ _ ?_ r h;intro e F H r h;cases e with
  |normal=>exact b5u hb n n' (by omega) F H k k' hk h
  |exit id=>exact hk _ _ _ _ h
  |ret=>exact hk _ _ _ _ h
omit hc in
theorem b2o{m0 it:Nat}{keep:List Nat}{ks aJ:List Int}{b b':Frm→a03→(AExit→Frm→a03→Option R3)→Option R3}
 (hb:∀F H (k k':AExit→Frm→a03→Option R3),(∀e F H r,k e F H=some r→k' e F H=some r)→∀r,b F H k=some r→b' F H k'=some r){a:Option Int}{F:Frm}{H:a03}{x:R3}(h:b17 m0 it keep ks aJ b a F H=some x):b17 m0 it keep ks aJ b' a F H=some x:=by
 unfold b17 at h⊢;split at h
 case h_2=>cases h
 rename_i F1 H1 hg;split at h
 case h_2=>cases h
 rename_i H2 ha;exact hb _ _ _ _ (λ_ _ _ _ h=>h) _ h
omit hc in
theorem b2v{m0 it:Nat}{keep:List Nat}{ks:List Int}{b b':Frm→a03→(AExit→Frm→a03→Option R3)→Option R3}
 (hb:∀F H (k k':AExit→Frm→a03→Option R3),(∀e F H r,k e F H=some r→k' e F H=some r)→∀r,b F H k=some r→b' F H k'=some r):∀{o aJ:List Int} {F:Frm} {H:a03} {x:R3},a58 m0 it keep ks b aJ o F H=some x→a58 m0 it keep ks b' aJ o F H=some x
 | [],aJ,F,H,x,h=>by
  unfold a58 at h⊢;split at h
  ·cases h
  ·rename_i e F' H' aw hr;rw[b2o hb hr];cases e with
   |normal=>exact(aw rfl).elim
   |exit id=>exact h
   |ret=>exact h
  ·cases h
 |i::o,aJ,F,H,x,h=>by
  unfold a58 at h⊢;split at h
  case h_2=>cases h
  rename_i F' H' hr;rw[b2o hb hr];exact b2v hb h
omit hc in
theorem c5b{m0 it:Nat}{keep:List Nat}{R:Type}{b b':Frm→a03→(AExit→Frm→a03→Option R3)→Option R3}
 (hb:∀F H (k k':AExit→Frm→a03→Option R3),(∀e F H r,k e F H=some r→k' e F H=some r)→∀r,b F H k=some r→b' F H k'=some r){F:Frm}{H:a03}{k k':AExit→Frm→a03→Option R}(hk:∀e F H r,k e F H=some r→k' e F H=some r){r:R}
 (h:c5c m0 it keep b F H k=some r):c5c m0 it keep b' F H k'=some r:=by
 unfold c5c at h⊢;split at h
 case h_2=>cases h
 rename_i ks dz;split at h
 case h_2=>cases h
 rename_i r0 rs jP;rw[cond_eq_ite]at h;split at h
 case isFalse=>cases h
 rename_i aY;have hm:(b5p ks).map (λo=>a58 m0 it keep ks b' [] o F H)=some r0::rs:=by
  rw[←jP];refine f0i λo ho=>?_;have hm:=f0z (f:=λo=>a58 m0 it keep ks b [] o F H) ho;rw[jP]at hm;have he:a58 m0 it keep ks b [] o F H=some r0:=by
   rcases e9m.1 hm with h|h
   ·exact h
   ·exact c32 (e9r.1 aY _ h)
  rw[he];exact b2v hb he
 rw[hm];simp only[aY,e9i];exact hk _ _ _ _ h
theorem b04{m0 lf gm:Nat}(hl:lf≤gm){keep:Nat→List Nat}:∀(code:Code) {R:Type} (cur:Nat) (F:Frm) (H:a03) (k k':AExit→Frm→a03→Option R),(∀e F H r,k e F H=some r→k' e F H=some r)→∀{r:R},
 a40 E m0 N keep c lf cur code F H k=some r→a40 E m0 N keep c' gm cur code F H k'=some r:=by
 intro code
 induction code with
 |skip=>intro R cur F H k k' hk r h;unfold a40 at h⊢;exact hk _ _ _ _ h
 |label l=>intro R cur F H k k' hk r h;unfold a40 at h⊢;exact hk _ _ _ _ h
 |exit id=>intro R cur F H k k' hk r h;unfold a40 at h⊢;exact hk _ _ _ _ h
 |ret=>intro R cur F H k k' hk r h;unfold a40 at h⊢;exact hk _ _ _ _ h
 |region id an ag=>
  intro R cur F H k k' hk r h;unfold a40 at h⊢;cases hn:d2y an.toList with
  |none=>rw[hn]at h;exact b2m hc (λF H r h=>hk _ _ _ _ h) _ _ _ _ h
  |some x=>
   obtain⟨it,nx,ah⟩:=x;rw[hn]at h;simp only[cond_eq_ite]at h⊢;split at h
   case isTrue=>cases h
   rename_i h1;rw[e8g h1];split at h
   case h_2=>cases h
   rename_i v H' hx;exact b2m hc (λF H r h=>hk _ _ _ _ h) _ _ _ _ h
 |seq x y ihx ihy=>
  intro R cur F H k k' hk r h;unfold a40 at h⊢;refine ihx _ _ _ _ _ ?_ h;intro e F H r h;cases e with
  |normal=>exact ihy _ _ _ _ _ hk h
  |exit id=>exact hk _ _ _ _ h
  |ret=>exact hk _ _ _ _ h
 |cond x y z ihy ihz=>
  intro R cur F H k k' hk r h;unfold a40 at h⊢;split at h
  case h_2=>cases h
  rename_i t ht;simp only[cond_eq_ite]at h⊢;split at h
  ·rename_i h1;rw[e8j h1];exact ihy _ _ _ _ _ hk h
  ·rename_i h1;rw[e8g h1];exact ihz _ _ _ _ _ hk h
 |block id b ih=>
  intro R cur F H k k' hk r h;unfold a40 at h⊢;refine ih _ _ _ _ _ ?_ h;intro e F H r h;cases e with
  |normal=>exact hk _ _ _ _ h
  |exit id'=>
   simp only[cond_eq_ite]at h⊢;split at h
   ·rename_i h1;rw[e8j h1];exact hk _ _ _ _ h
   ·rename_i h1;rw[e8g h1];exact hk _ _ _ _ h
  |ret=>exact hk _ _ _ _ h
 |loop b ih=>
  intro R cur F H k k' hk r h;unfold a40 at h⊢;cases hn:a6i b with
  |some it=>rw[hn]at h;exact c5b (λF H k k' hk r h=>ih _ F H k k' hk h) hk h
  |none=>
  rw[hn]at h;dsimp only at h⊢;refine b5u (λF H k k' hk r h=>ih _ F H k k' hk h) _ _ hl F H _ _ ?_ h;intro e F H r h;rw[cond_eq_ite]at h⊢;split at h
  ·rename_i h1;rw[e8j h1];exact hk _ _ _ _ h
  ·rename_i h1;rw[e8g h1];exact hk _ _ _ _ h
 |scope b ih=>intro R cur F H k k' hk r h;unfold a40 at h⊢;exact ih _ _ _ _ _ hk h
 |rangeFunc f ps as b=>
  intro R cur F H k k' hk r h;unfold a40 at h⊢;split at h
  case h_2=>cases h
  rename_i g fs cs y _ _;rw[cond_eq_ite]at h⊢;split at h
  case isFalse=>cases h
  rename_i h1;rw[e8j h1];split at h
  case h_2=>cases h
  rename_i v H2 σ hr;rw[a86 (λa H x=>hc g a H x) hr];dsimp only;split at h
  ·exact hk _ _ _ _ h
  ·exact hk _ _ _ _ h
  ·exact hk _ _ _ _ h
  ·cases h
 |_=>intro R cur F H k k' hk r h;simp[a40]at h
theorem b73{lf gm:Nat}(hl:lf≤gm){args:List AV}{H:a03}{r:AV×a03}(h:a8e E c lf args H=some r):a8e E c' gm args H=some r:=by
 unfold a8e at h⊢;split at h
 case h_2=>cases h
 rename_i b vs;split at h
 case h_2=>cases h
 rename_i y F hb;split at h
 case h_2=>cases h
 rename_i ri kv;rw[cond_eq_ite]at h⊢;split at h
 case isFalse=>cases h
 rename_i h1;rw[e8j h1];refine b04 hc hl _ _ _ _ _ _ ?_ h;intro e F H r h;cases e with
 |normal=>
  dsimp only at h⊢;split at h
  case h_2=>cases h
  rename_i H1 hy;exact b04 hc hl _ _ _ _ _ _ (λ_ _ _ _ h=>h) h
 |exit id=>exact h
 |ret=>exact h
theorem d1i{m0 lf gm:Nat}(hl:lf≤gm){keep:Nat→List Nat}:∀(code:Code) {R:Type} (cur:Nat) (F:Frm) (H:a03) (k k':AExit→Frm→a03→Option R),(∀e F H r,k e F H=some r→k' e F H=some r)→∀{r:R},
 e03 E m0 N keep c lf cur code F H k=some r→e03 E m0 N keep c' gm cur code F H k'=some r:=by
 intro code
 induction code with
 |seq x y ihx ihy=>
  intro R cur F H k k' hk r h;unfold e03 at h⊢;refine ihx _ _ _ _ _ ?_ h;intro e F H r h;cases e with
  |normal=>exact ihy _ _ _ _ _ hk h
  |exit id=>exact hk _ _ _ _ h
  |ret=>exact hk _ _ _ _ h
 |_=>intro R cur F H k k' hk r h;exact b04 hc hl _ _ _ _ _ _ hk h
theorem b0g{lf gm:Nat}(hl:lf≤gm){g:FuncId}{args:List AV}{H:a03}{r:AV×a03}(h:b1o E c lf g args H=some r):b1o E c' gm g args H=some r:=by
 unfold b1o at h⊢;split at h
 ·exact h
 split at h
 ·skip
  rw[cond_eq_ite]at h⊢;split at h
  case isFalse=>cases h
  rename_i h1;rw[e8j h1];exact b73 hc hl h
 rename_i i hi;rw[cond_eq_ite]at h⊢;split at h
 case isFalse=>cases h
 rename_i h1;rw[e8j h1];unfold e6b at h⊢;cases hz:E.zf g with
 |true=>rw[hz,e9i]at h;rw[e9i];exact d1i hc hl _ _ _ _ _ _ (λ_ _ _ _ h=>h) h
 |false=>rw[hz,e9q]at h;rw[e9q];exact b04 hc hl _ _ _ _ _ _ (λ_ _ _ _ h=>h) h
end
inductive Der(E:Env)(M:List Fact):FuncId→List AV→a03→AV×a03→Prop
 |run (g:FuncId) (args:List AV) (H:a03) (r:AV×a03) (c:CallF) (lf:Nat) (hc:∀g a H r,c g a H=some r→Der E M g a H r)
  (cK:∀x∈M,x.g≠g) (h:b1o E c lf g args H=some r):Der E M g args H r
 |fact (x:Fact) (hx:x∈M) (ql:∀y∈M,y.g=x.g→y.args=x.args→y.v=x.v):Der E M x.g x.args [] (x.v,[])
open Classical in
noncomputable def e60(c c':CallF):CallF:=λg a H=>match c g a H with|some r=>some r|none=>c' g a H
theorem Der.one{E:Env}{M:List Fact}{g:FuncId}{args:List AV}{H:a03}{r r':AV×a03}(h:Der E M g args H r)(h':Der E M g args H r'):r=r':=by
 induction h generalizing r' with
 |run g args H r c lf hc cK h ih=>
  cases h' with
  |run _ _ _ _ c' gm o4 hno' h'=>
   have l1:CallF.le c (e60 c c'):=by intro g a H r h;simp[e60,h]
   have l2:CallF.le c' (e60 c c'):=by
    intro g a H r h;unfold e60;cases dK:c g a H with
    |none=>exact h
    |some s=>exact congrArg some (ih g a H s dK (o4 g a H r h))
   have e1:=b0g l1 (Nat.le_max_left lf gm) h;have e2:=b0g l2 (Nat.le_max_right lf gm) h';exact z9o (e1.symm.trans e2)
  |fact x hx=>exact absurd rfl (cK x hx)
 |fact x hx hf=>
  generalize hg:x.g=g at h';generalize ha:x.args=args at h';generalize hH:([]:a03)=H at h';cases h' with
  |run _ _ _ _ c' gm o4 hno' h'=>exact absurd hg (hno' x hx)
  |fact y hy sb=>rw[hf y hy hg.symm ha.symm]
theorem Der.ok{E:Env}(ok:EnvOk E)(jz:DrOk E){M:List Fact}(hM:∀x∈M,d6u E x){g:FuncId}{args:List AV}{H:a03}{r:AV×a03}(h:Der E M g args H r) :
 b08 E g (λa H'=>open Classical in if a=args∧H'=H then some r else none):=by
 induction h with
 |run g args H r c lf hc cK h ih=>
  have ai:a3v E c:=by intro g a H v H' hr;have:=ih g a H (v,H') hr;exact this a H v H' (by simp)
  intro a H' v sH hr;dsimp only at hr;split at hr
  ·rename_i hh;obtain⟨rfl,rfl⟩:=hh;cases hr;exact d2l ok jz ai lf g a H' v sH h
  ·cases hr
 |fact x hx hf=>
  intro a H' v sH hr;dsimp only at hr;split at hr
  ·rename_i hh;obtain⟨rfl,rfl⟩:=hh;cases hr;intro I K ρ w am h1 h2 h3;exact hM x hx I K ρ w am h1 h2 h3
  ·cases hr
open Classical in
noncomputable def sem(E:Env)(M:List Fact):CallF:=λg args H=>if h:∃r,Der E M g args H r then some h.choose else none
section
variable {E:Env}{M:List Fact}
theorem c15{g:FuncId}{args:List AV}{H:a03}{r:AV×a03}:sem E M g args H=some r↔Der E M g args H r:=by
 unfold sem;constructor
 ·intro h;split at h
  ·rename_i hh;cases h;exact hh.choose_spec
  ·cases h
 ·intro h;have hh:∃r,Der E M g args H r:=⟨r,h⟩
  rw[dif_pos hh];exact congrArg some (Der.one hh.choose_spec h)
theorem c7r{g:FuncId}{args:List AV}{H:a03}{r:AV×a03}(cK:∀x∈M,x.g≠g)(lf:Nat)(h:b1o E (sem E M) lf g args H=some r):sem E M g args H=some r:=c15.2 (.run g args H r (sem E M) lf (λ_ _ _ _ h=>c15.1 h) cK h)
theorem sem_ok(ok:EnvOk E)(jz:DrOk E)(hM:∀x∈M,d6u E x):a3v E (sem E M):=by intro g args H v H' h;exact(Der.ok ok jz hM (c15.1 h)) args H v H' (by simp)
end
end Go.Ax
/- AxEv: runs of statements in direct style: what a statement comes to, for a41 loop fuel that is great enough. -/
namespace Go.Ax
def d63{α β:Type}(x:Option α)(f:α→β)(d:β):β:=match x with|some a=>f a|none=>d
def a0g{α β:Type}(x:Option α)(f:α→Option β):Option β:=match x with|some a=>f a|none=>none
@[go_sem] theorem e0w{α β:Type}(a:α)(f:α→Option β):a0g (some a) f=f a:=by rfl
@[congr] theorem d83{α β:Type}{x y:Option α}{f:α→Option β}(h:x=y):a0g x f=a0g y f:=by rw[h]
def a8t(E:Env)(ag:Bool)(N:Nat)(call:CallF)(all:List Oper):List Oper→List LogE→Frm→a03→Option (Frm×a03×List LogE)
 | [],log,F,H=>some (F,H,log)
 |o::ah,log,F,H=>
  bif a6n N o.dst then
   match o.guard with
   |none=>a0g (a0r E ag call F H o.op) λx=>a8t E ag N call all ah (x.2.2::log) (a3i F o.dst x.1) x.2.1
   |some (j,bi)=>match a2u all j with
    |none=>none
    |some d=>match a33 F d with
     |.bool b=>bif b then
      (bif bi then a0g (a0r E ag call (a3i F (some d) (.bool true)) H o.op) λx=>a8t E ag N call all ah (x.2.2::log) (a3i (a3i F (some d) (.bool true)) o.dst x.1) x.2.1
      else a8t E ag N call all ah (⟨[],[]⟩::log) (a3i (a3i F (some d) (.bool true)) o.dst (.tuple [])) H)
      else
       (bif bi then a8t E ag N call all ah (⟨[],[]⟩::log) (a3i (a3i F (some d) (.bool false)) o.dst (.tuple [])) H
       else a0g (a0r E ag call (a3i F (some d) (.bool false)) H o.op) λx=>a8t E ag N call all ah (x.2.2::log) (a3i (a3i F (some d) (.bool false)) o.dst x.1) x.2.1)
     |.tuple []=>a8t E ag N call all ah (⟨[],[]⟩::log) (a3i F o.dst (.tuple [])) H
     |_=>none
  else none
theorem c17{E:Env}{ag:Bool}{N:Nat}{call:CallF}{all:List Oper}{R:Type}{k:Frm→a03→Option R}:∀(an:List Oper) (log:List LogE) (F:Frm) (H:a03),
 a2g E ag N call all an log F H k=(match a8t E ag N call all an log F H with|some (F',H',fE)=>(bif !ag||logOk all fE.length fE then k F' H' else none)|none=>none):=by
 intro an
 induction an with
 |nil=>intro log F H;rfl
 |cons o ah ih=>
  intro log F H;have step:∀(F1 F2:Frm),(match a0r E ag call F1 H o.op with
   |some (v,H',l)=>a2g E ag N call all ah (l::log) (a3i F2 o.dst v) H' k
   |none=>none)=(match a0g (a0r E ag call F1 H o.op) λx=>a8t E ag N call all ah (x.2.2::log) (a3i F2 o.dst x.1) x.2.1 with|some (F',H',fE)=>(bif !ag||logOk all fE.length fE then k F' H' else none)|none=>none):=by
   intro F1 F2;cases a0r E ag call F1 H o.op with
   |none=>rfl
   |some x=>exact ih _ _ _
  obtain⟨dst,op,ty,pos,after,guard⟩:=o;unfold a2g a8t;cases hd:a6n N dst with
  |false=>rfl
  |true=>
   cases guard with
   |none=>exact step F F
   |some g=>
    obtain⟨j,bi⟩:=g;simp only[e9i];cases hs:a2u all j with
    |none=>rfl
    |some d=>
     simp only;cases hv:a33 F d with
     |bool b=>cases b<;>cases bi<;>simp only[e9i,e9q]<;>first|exact step _ _|exact ih _ _ _
     |tuple vs=>cases vs with
      |nil=>exact ih _ _ _
      |cons a r=>rfl
     |_=>rfl
structure Cx where
 E:Env
 M:List Fact
 m0:Nat
 N:Nat
 keep:Nat→List Nat
 cur:Nat
def Ev(x:Cx)(c:Code)(F:Frm)(H:a03)(r:AExit×Frm×a03):Prop:=∃n0,∀lf,n0≤lf→∀(R:Type) (k:AExit→Frm→a03→Option R),a40 x.E x.m0 x.N x.keep (sem x.E x.M) lf x.cur c F H k=k r.1 r.2.1 r.2.2
section
variable {x:Cx}{F F1:Frm}{H H1:a03}{r:AExit×Frm×a03}
theorem Ev.skip:Ev x .skip F H (.normal,F,H):=⟨0,λ_ _ _ _=>rfl⟩
theorem Ev.label{l}:Ev x (.label l) F H (.normal,F,H):=⟨0,λ_ _ _ _=>rfl⟩
theorem Ev.leave{id}:Ev x (.exit id) F H (.exit id,F,H):=⟨0,λ_ _ _ _=>rfl⟩
theorem Ev.ret:Ev x .ret F H (.ret,F,H):=⟨0,λ_ _ _ _=>rfl⟩
theorem d85{E:Env}{ag:Bool}{N:Nat}{call:CallF}{all an:List Oper}{log:List LogE}{F:Frm}{H:a03}{r:Frm×a03×List LogE}(h:a8t E ag N call all an log F H=some r):d2y an=none:=by
 unfold d2y;split
 ·rfl
 ·rename_i o ah;split
  ·rename_i it nx h1 h2 h3;obtain⟨d,op,ty,pos,after,guard⟩:=o;simp only at h1 h2 h3;subst h1 h2 h3;unfold a8t at h;have hs:a0r E ag call F H (.next (.tmp it) false)=none:=by
    have:aop E H.length (a02 H) (.next (.tmp it) false) (opv E F)=none:=by show c0c (a02 H) (opv E F (.tmp it)) false=none;unfold c0c;split<;>rfl
    unfold a0r;simp only[this]
   rw[cond_eq_ite]at h;split at h
   ·simp only[hs,a0g]at h;cases h
   ·cases h
  ·rfl
theorem Ev.region{id an ag}{log:List LogE}(h:a8t x.E ag x.N (sem x.E x.M) an.toList an.toList [] F H=some (F1,H1,log))(hl:(!ag||logOk an.toList log.length log)=true):Ev x (.region id an ag) F H (.normal,F1,H1):=⟨0,λ_ _ R k=>by simp only[a40,d85 h,c17,h,hl,e9i]⟩
theorem Ev.seq{a b}(h:Ev x a F H (.normal,F1,H1))(h2:Ev x b F1 H1 r):Ev x (.seq a b) F H r:=by obtain⟨n,h⟩:=h;obtain⟨m,h2⟩:=h2;exact⟨max n m,λlf hl R k=>by simp only[a40];rw[h lf (by omega)];exact h2 lf (by omega) R k⟩
theorem Ev.seq_ret{a b}(h:Ev x a F H (.ret,F1,H1)):Ev x (.seq a b) F H (.ret,F1,H1):=by obtain⟨n,h⟩:=h;exact⟨n,λlf hl R k=>by simp only[a40];rw[h lf hl]⟩
theorem Ev.seq_exit{a b id}(h:Ev x a F H (.exit id,F1,H1)):Ev x (.seq a b) F H (.exit id,F1,H1):=by obtain⟨n,h⟩:=h;exact⟨n,λlf hl R k=>by simp only[a40];rw[h lf hl]⟩
theorem Ev.cond_t{c a b}(hc:opv x.E F c = .bool true)(h:Ev x a F H r):Ev x (.cond c a b) F H r:=by obtain⟨n,h⟩:=h;exact⟨n,λlf hl R k=>by simp only[a40,hc,e9i];exact h lf hl R k⟩
theorem Ev.cond_f{c a b}(hc:opv x.E F c = .bool false)(h:Ev x b F H r):Ev x (.cond c a b) F H r:=by obtain⟨n,h⟩:=h;exact⟨n,λlf hl R k=>by simp only[a40,hc,e9q];exact h lf hl R k⟩
theorem Ev.block{id b}(h:Ev { x with cur:=id } b F H (.normal,F1,H1)):Ev x (.block id b) F H (.normal,F1,H1):=by obtain⟨n,h⟩:=h;exact⟨n,λlf hl R k=>by simp only[a40];rw[h lf hl]⟩
theorem Ev.block_ret{id b}(h:Ev { x with cur:=id } b F H (.ret,F1,H1)):Ev x (.block id b) F H (.ret,F1,H1):=by obtain⟨n,h⟩:=h;exact⟨n,λlf hl R k=>by simp only[a40];rw[h lf hl]⟩
theorem Ev.block_exit{id b}(h:Ev { x with cur:=id } b F H (.exit id,F1,H1)):Ev x (.block id b) F H (.normal,F1,H1):=by obtain⟨n,h⟩:=h;exact⟨n,λlf hl R k=>by simp only[a40];rw[h lf hl];simp⟩
theorem Ev.block_on{id id' b}(h:Ev { x with cur:=id } b F H (.exit id',F1,H1))(aw:(id'==id)=false):Ev x (.block id b) F H (.exit id',F1,H1):=by obtain⟨n,h⟩:=h;exact⟨n,λlf hl R k=>by simp only[a40];rw[h lf hl];simp only[aw,e9q]⟩
theorem Ev.scope{b}(h:Ev x b F H r):Ev x (.scope b) F H r:=by obtain⟨n,h⟩:=h;exact⟨n,λlf hl R k=>by simp only[a40];exact h lf hl R k⟩
def EvL(x:Cx)(b:Code)(F:Frm)(H:a03)(r:AExit×Frm×a03):Prop:=
 ∃n0,∀lf,n0≤lf→∀n,n0≤n→∀(R:Type) (k:AExit→Frm→a03→Option R),
  b1p x.m0 (x.keep x.cur) (λF H k=>a40 x.E x.m0 x.N x.keep (sem x.E x.M) lf x.cur b F H k) n F H k=k r.1 r.2.1 r.2.2
theorem Ev.loop{b}(hx:a6i b=none)(hz:d03 (x.keep x.cur)=false)(h:EvL x b F H r):Ev x (.loop b) F H r:=by obtain⟨n,h⟩:=h;exact⟨n,λlf hl R k=>by simp only[a40,hx,hz,e9q];exact h lf hl lf hl R k⟩
theorem Ev.loopZ{b}{e:AExit}(hx:a6i b=none)(hz:d03 (x.keep x.cur)=true)(h:EvL x b F H (e,F1,H1)):Ev x (.loop b) F H (e,c23 (x.m0+c5u (x.keep x.cur)) H1 F1,b3r (x.m0+c5u (x.keep x.cur)) H1):=by obtain⟨n,h⟩:=h;exact⟨n,λlf hl R k=>by simp only[a40,hx,hz,e9i];exact h lf hl lf hl R _⟩
theorem c1y{m0:Nat}{keep:List Nat}(hg:gcD m0 keep F H=some (F1,H1)) :
 (a51 (a8q m0 (a1o keep F) H)&&(a8q m0 (a1o keep F) H).all (λb=>Nat.ble m0 b)&&Nat.ble m0 H.length)=true∧b5h (b4u m0 (a8q m0 (a1o keep F) H)) (a1o keep F)=F1∧gcH m0 (a8q m0 (a1o keep F) H) H=H1:=by
 unfold gcD at hg;simp only[cond_eq_ite]at hg;split at hg
 case isFalse=>cases hg
 rename_i hc;cases hg;exact⟨hc,rfl,rfl⟩
theorem EvL.leave{b:Code}{F2:Frm}{H2:a03}{e:AExit}(hg:gcD x.m0 (x.keep x.cur) F H=some (F1,H1))(h:Ev x b F1 H1 (e,F2,H2))(he:e≠ .normal):EvL x b F H (e,F2,H2):=by
 obtain⟨n0,h⟩:=h;refine⟨n0+1,λlf hl n hn R k=>?_⟩;obtain⟨n,rfl⟩:∃l,n=l+1:=⟨n-1,by omega⟩
 obtain⟨h1,h2,h3⟩:=c1y hg;simp only[b1p,h1,h2,h3,e9i];rw[h lf (by omega)];cases e with
 |normal=>exact absurd rfl he
 |exit id=>rfl
 |ret=>rfl
theorem EvL.again{b:Code}{F2:Frm}{H2:a03}(hg:gcD x.m0 (x.keep x.cur) F H=some (F1,H1))(h:Ev x b F1 H1 (.normal,F2,H2))(h':EvL x b F2 H2 r):EvL x b F H r:=by
 obtain⟨n0,h⟩:=h;obtain⟨m0,h'⟩:=h';refine⟨max n0 m0+1,λlf hl n hn R k=>?_⟩;obtain⟨n,rfl⟩:∃l,n=l+1:=⟨n-1,by omega⟩
 obtain⟨h1,h2,h3⟩:=c1y hg;simp only[b1p,h1,h2,h3,e9i];rw[h lf (by omega)];exact h' lf (by omega) n (by omega) R k
theorem c2y{E:Env}{M:List Fact}{g:FuncId}{args:List AV}{H:a03}{code:Code}{N:Nat}{results:List ResultVar}{e:AExit}{F':Frm}{H':a03}{vs:List AV}{v:AV}{H2:a03}
 (bC:E.fn g=some ⟨code,N,results⟩)(cK:∀y∈M,y.g≠g)(hN:Nat.ble args.length N=true)(h:Ev ⟨E,M,H.length,N,E.keep g,0⟩ code (a4i 0 args) H (e,F',H'))(he:∀id,e≠ .exit id)
 (hr:a17 E F' H' results=some vs)(eP:a1l (E.thaw g) H.length (a7i vs) H'=some (v,H2))(hp:E.prim g args=none)(hz:E.zf g=false):sem E M g args H=some (v,H2):=by
 obtain⟨n,h⟩:=h;refine c7r cK n ?_;unfold b1o;have ti:d2t E g args H=none:=by
  unfold d2t;cases H with
  |nil=>exact hp
  |cons a r=>rfl
 rw[ti,bC];simp only;rw[hN];simp only[e9i];unfold e6b;rw[hz];simp only[e9q];refine(h n (e9k _) _ _).trans ?_;cases e with
 |exit id=>exact absurd rfl (he id)
 |normal=>simp only[hr];exact eP
 |ret=>simp only[hr];exact eP
end
end Go.Ax
/- AxSimp: the evaluator's steps as rewrite rules. -/
namespace Go.Ax
section
variable {E:Env}{ag:Bool}{N:Nat}{call:CallF}{all ah:List Oper}{log:List LogE}{F:Frm}{H:a03}
@[go_sem] theorem e5n(s:Nat)(v:AV)(r:Frm):a33 ((s,v)::r) s=v:=by simp only[a33,d1q,cond_eq_ite,beq_self_eq_true,f1a]
@[go_sem] theorem e3g{s t:Nat}(h:(s=t)=False)(v:AV)(r:Frm):a33 ((s,v)::r) t=a33 r t:=by have:¬s=t:=λe=>h▸e;simp only[a33,d1q,cond_eq_ite,f2p,e8g this]
@[go_sem] theorem e27(d:Nat)(v:AV):a3i F (some d) v=(d,v)::F:=by rfl
@[go_sem] theorem e28(v:AV):a3i F none v=F:=by rfl
@[go_sem] theorem e7p(t:Nat):opv E F (.tmp t)=a33 F t:=by rfl
@[go_sem] theorem e5a(f:Nat):opv E F (.func f) = .func (.func f) [] []:=by rfl
@[go_sem] theorem e5b(b:Bool):opv E F (.const (.bool b)) = .bool b:=by rfl
@[go_sem] theorem e7r(k:IntKind)(n:Int):opv E F (.const (.int k n)) = .int k n:=by rfl
@[go_sem] theorem e0v:opv E F (.const (.pointer none)) = .nilptr:=by rfl
@[go_sem] theorem d62:opv E F (.const (.slice none 0 0)) = .nilslice:=by rfl
@[go_sem] theorem d81:opv E F (.const .nilFunc) = .nilfunc:=by rfl
@[go_sem] theorem e7q(s:ByteArray):opv E F (.const (.string s)) = .str s.data.toList:=by rfl
@[go_sem] theorem e4y:a8t E ag N call all [] log F H=some (F,H,log):=by rfl
@[go_sem] theorem e1a(d:Nat):a6n N (some d)=decide (d<N):=by rw[a6n,f4a];simp[e9o]
@[go_sem] theorem e1b:a6n N none=true:=by rfl
theorem d7m(dst:Option Nat)(op:Op)(ty:TypeId)(pos:String)(after:Array Edge) :
 a8t E ag N call all ({ dst:=dst,op:=op,type:=ty,pos:=pos,after:=after,guard:=none }::ah) log F H =
  bif a6n N dst then a0g (a0r E ag call F H op) λx=>a8t E ag N call all ah (x.2.2::log) (a3i F dst x.1) x.2.1 else none:=by
 rfl
def d2k(E:Env)(ag:Bool)(N:Nat)(call:CallF)(all:List Oper)(dst:Option Nat)(op:Op)(ah:List Oper)(log:List LogE)(F:Frm)(H:a03)(d:Nat)(bi:Bool):AV→Option (Frm×a03×List LogE)
 |.bool b=>bif b then
  (bif bi then a0g (a0r E ag call (a3i F (some d) (.bool true)) H op) λx=>a8t E ag N call all ah (x.2.2::log) (a3i (a3i F (some d) (.bool true)) dst x.1) x.2.1
  else a8t E ag N call all ah (⟨[],[]⟩::log) (a3i (a3i F (some d) (.bool true)) dst (.tuple [])) H)
  else
   (bif bi then a8t E ag N call all ah (⟨[],[]⟩::log) (a3i (a3i F (some d) (.bool false)) dst (.tuple [])) H
   else a0g (a0r E ag call (a3i F (some d) (.bool false)) H op) λx=>a8t E ag N call all ah (x.2.2::log) (a3i (a3i F (some d) (.bool false)) dst x.1) x.2.1)
 |.tuple []=>a8t E ag N call all ah (⟨[],[]⟩::log) (a3i F dst (.tuple [])) H
 |_=>none
theorem c4y(dst:Option Nat)(op:Op)(ty:TypeId)(pos:String)(after:Array Edge)(j:Nat)(bi:Bool) :
 a8t E ag N call all ({ dst:=dst,op:=op,type:=ty,pos:=pos,after:=after,guard:=some (j,bi) }::ah) log F H =
  bif a6n N dst then a0g (a2u all j) λd=>d2k E ag N call all dst op ah log F H d bi (a33 F d)else none:=by
 unfold a8t;cases a6n N dst with
 |false=>rfl
 |true=>
  simp only[e9i];cases a2u all j with
  |none=>rfl
  |some d=>simp only[a0g];unfold d2k;rfl
section
variable {dst:Option Nat}{op:Op}{d:Nat}
theorem d7i:d2k E ag N call all dst op ah log F H d true (.bool true)=a0g (a0r E ag call ((d,.bool true)::F) H op) λx=>a8t E ag N call all ah (x.2.2::log) (a3i ((d,.bool true)::F) dst x.1) x.2.1:=by rfl
theorem d7j:d2k E ag N call all dst op ah log F H d true (.bool false)=a8t E ag N call all ah (⟨[],[]⟩::log) (a3i ((d,.bool false)::F) dst (.tuple [])) H:=by rfl
theorem d7k:d2k E ag N call all dst op ah log F H d false (.bool true)=a8t E ag N call all ah (⟨[],[]⟩::log) (a3i ((d,.bool true)::F) dst (.tuple [])) H:=by rfl
theorem d7l:d2k E ag N call all dst op ah log F H d false (.bool false)=a0g (a0r E ag call ((d,.bool false)::F) H op) λx=>a8t E ag N call all ah (x.2.2::log) (a3i ((d,.bool false)::F) dst x.1) x.2.1:=by rfl
theorem d7h{bi:Bool}:d2k E ag N call all dst op ah log F H d bi (.tuple [])=a8t E ag N call all ah (⟨[],[]⟩::log) (a3i F dst (.tuple [])) H:=by cases bi<;>rfl
end
attribute [go_sem] d7m c4y d7i d7j d7k d7l d7h
@[congr] theorem e0p{dst:Option Nat}{op:Op}{d:Nat}{bi:Bool}{v v':AV}(h:v=v'):d2k E ag N call all dst op ah log F H d bi v=d2k E ag N call all dst op ah log F H d bi v':=by rw[h]
/-! ### one operation -/
@[go_sem] theorem e74(x:Operand):a0r E ag call F H (.move x)=some (opv E F x,H,⟨[],[]⟩):=by rfl
@[go_sem] theorem e23(x:Operand):a0r E ag call F H (.assign x)=some (opv E F x,H,⟨[],[]⟩):=by rfl
theorem a1m{op:Op}{v:Option AV}(h:aop E H.length (a02 H) op (opv E F)=v.map (·,.none))(hs:a0r E ag call F H op=match aop E H.length (a02 H) op (opv E F)with
 |some (v,e)=>bif e.fits H.length then some (v,b0x H e,⟨a89 op (opv E F),e.keys H.length⟩)else none
 |none=>none):a0r E ag call F H op=a0g v λv=>some (v,H,⟨a89 op (opv E F),[]⟩):=by
 rw[hs,h];cases v<;>rfl
@[go_sem] theorem e9c(op:BinOp)(t:TypeId)(x y:Operand)(z):a0r E ag call F H (.binOp op t x y z)=a0g (b06 E op t (opv E F x) (opv E F y) (a4b x||a4b y)) λv=>some (v,H,⟨[],[]⟩):=a1m rfl rfl
@[go_sem] theorem f2z(op:UnOp)(t:TypeId)(x:Operand):a0r E ag call F H (.unOp op t x)=a0g (aun op (opv E F x)) λv=>some (v,H,⟨[],[]⟩):=a1m rfl rfl
@[go_sem] theorem e76(s d:TypeId)(x:Operand):a0r E ag call F H (.convert s d x)=a0g (a6r E (a02 H) s d (opv E F x)) λv=>some (v,H,⟨a0h (opv E F x),[]⟩):=a1m rfl rfl
@[go_sem] theorem e75(t:TypeId)(x:Operand):a0r E ag call F H (.load t x)=a0g (a60 E (a02 H) t (opv E F x)) λv=>some (v,H,⟨a0h (opv E F x),[]⟩):=a1m rfl rfl
@[go_sem] theorem e4s(t:TypeId)(x:Operand)(lo hi mx:Option Operand):a0r E ag call F H (.slice t x lo hi mx)=a0g (a59 E (a02 H) t (opv E F x) (lo.map (opv E F)) (hi.map (opv E F)) (mx.map (opv E F))) λv=>some (v,H,⟨a0h (opv E F x),[]⟩):=a1m rfl rfl
@[go_sem] theorem d5v(t:TypeId)(x:Operand)(f:Nat):a0r E ag call F H (.fieldAddr t x f)=a0g (a5i E t (opv E F x) f) λv=>some (v,H,⟨[],[]⟩):=a1m rfl rfl
@[go_sem] theorem e4u(t:TypeId)(x:Operand)(f:Nat):a0r E ag call F H (.field t x f)=a0g (b6l E t (opv E F x) f) λv=>some (v,H,⟨[],[]⟩):=a1m rfl rfl
@[go_sem] theorem d5u(t:TypeId)(x i:Operand):a0r E ag call F H (.indexAddr t x i)=a0g (a0v E (a02 H) t (opv E F x) (opv E F i)) λv=>some (v,H,⟨a0h (opv E F x),[]⟩):=a1m rfl rfl
@[go_sem] theorem e4t(t:TypeId)(x i:Operand):a0r E ag call F H (.index t x i)=a0g (b6k E t (opv E F x) (opv E F i)) λv=>some (v,H,⟨[],[]⟩):=a1m rfl rfl
@[go_sem] theorem e4v(t:TypeId)(ps:Array (Nat×Operand)):a0r E ag call F H (.build t ps)=a0g (b6p E t (ps.toList.map λp=>(p.1,opv E F p.2))) λv=>some (v,H,⟨[],[]⟩):=a1m rfl rfl
@[go_sem] theorem e22(t:TypeId)(x k:Operand)(o:Bool):a0r E ag call F H (.lookup t x k o)=a0g (oor (a5v E (a02 H) t (opv E F x) (opv E F k) o) (b4i E (a02 H) t (opv E F x) (opv E F k) o)) λv=>some (v,H,⟨a0h (opv E F x),[]⟩):=a1m rfl rfl
@[go_sem] theorem d7a(fn:Fn)(first cap:Array Operand):a0r E ag call F H (.makeFunc fn first cap)=some (.func fn (first.toList.map (opv E F)) (cap.toList.map (opv E F)),H,⟨[],[]⟩):=by rfl
def c0b(c a b:AV):Option AV:=match c with|.bool t=>some (b4y t a b)|_=>none
@[go_sem] theorem e73(c a b:Operand):a0r E ag call F H (.pick c a b)=a0g (c0b (opv E F c) (opv E F a) (opv E F b)) λv=>some (v,H,⟨[],[]⟩):=by refine a1m ?_ rfl;simp only[aop,c0b];cases opv E F c<;>rfl
@[go_sem] theorem d9w(t a b:Bool):c0b (.bool t) (.bool a) (.bool b)=some (.bool (bif t then a else b)):=by rfl
@[go_sem] theorem d9v(a b:AV):c0b (.bool true) a b=some (b4y true a b):=by rfl
@[go_sem] theorem d6m(a b:AV):c0b (.bool false) a b=some (b4y false a b):=by rfl
theorem d9t(a b:AV):b4y true a b=a:=by unfold b4y;split<;>simp
theorem d9u(a b:AV):b4y false a b=b:=by unfold b4y;split<;>simp
attribute [go_sem] d9t d9u
def b00(x:AV):Option AV:=match x with
 |.ptr b i o=>some (.ptr b i o)
 |.iptr cs=>some (.iptr cs)
 |.func (.func f) fs cs=>some (.func (.func f) fs cs)
 |_=>none
attribute [go_sem] b00
@[go_sem] theorem d79(x:Operand):a0r E ag call F H (.nilCheck x)=a0g (b00 (opv E F x)) λv=>some (v,H,⟨[],[]⟩):=by
 refine a1m ?_ rfl;simp only[aop];generalize opv E F x=y;cases y<;>try rfl
 rename_i fn _ _;cases fn<;>rfl
def b8b(x:AV)(i:Nat):Option AV:=match x with|.tuple vs=>vs[i]?|_=>none
attribute [go_sem] b8b
@[go_sem] theorem e0m(t:Operand)(i:Nat):a0r E ag call F H (.extract t i)=a0g (b8b (opv E F t) i) λv=>some (v,H,⟨[],[]⟩):=by
 refine a1m ?_ rfl;simp only[aop,b8b];cases opv E F t with
 |tuple vs=>simp only;cases vs[i]?<;>rfl
 |_=>rfl
theorem a6t{op:Op}{v:Option (AV×Eff)}(h:aop E H.length (a02 H) op (opv E F)=v)(hs:a0r E ag call F H op=match aop E H.length (a02 H) op (opv E F)with
 |some (v,e)=>bif e.fits H.length then some (v,b0x H e,⟨a89 op (opv E F),e.keys H.length⟩)else none
 |none=>none){n:List Nat}(hn:a89 op (opv E F)=n):a0r E ag call F H op=a0g v λx=>bif x.2.fits H.length then some (x.1,b0x H x.2,⟨n,x.2.keys H.length⟩)else none:=by
 rw[hs,h];subst hn;cases v<;>rfl
@[go_sem] theorem e4w(t:TypeId):a0r E ag call F H (.alloc t)=a0g (d9y E H.length t) λx=>bif x.2.fits H.length then some (x.1,b0x H x.2,⟨[],x.2.keys H.length⟩)else none:=a6t rfl rfl rfl
@[go_sem] theorem e9b(t:TypeId)(x:Operand):a0r E ag call F H (.box t x)=a0g (e0a H.length (opv E F x)) λx=>bif x.2.fits H.length then some (x.1,b0x H x.2,⟨[],x.2.keys H.length⟩)else none:=a6t rfl rfl rfl
@[go_sem] theorem e4r(t:TypeId)(a x:Operand):a0r E ag call F H (.store t a x)=a0g (a7h E (a02 H) t (opv E F a) (opv E F x)) λe=>bif e.fits H.length then some (.tuple [],b0x H e,⟨a0h (opv E F a),e.keys H.length⟩)else none:=by refine(a6t (v:=(a7h E (a02 H) t (opv E F a) (opv E F x)).map (.tuple [],·)) rfl rfl rfl).trans ?_;cases a7h E (a02 H) t (opv E F a) (opv E F x)<;>rfl
@[go_sem] theorem d2d(t:TypeId)(n:Nat)(ps:Array (Nat×Operand)):a0r E ag call F H (.buildSlice t n ps)=a0g (a3a E H.length t n (ps.toList.map λp=>(p.1,opv E F p.2))) λx=>bif x.2.fits H.length then some (x.1,b0x H x.2,⟨[],x.2.keys H.length⟩)else none:=a6t rfl rfl rfl
@[go_sem] theorem d5t(t:TypeId)(l c:Operand):a0r E ag call F H (.makeSlice t l c)=a0g (a3z E H.length t (opv E F l) (opv E F c)) λx=>bif x.2.fits H.length then some (x.1,b0x H x.2,⟨[],x.2.keys H.length⟩)else none:=a6t rfl rfl rfl
@[go_sem] theorem e0l(t:TypeId):a0r E ag call F H (.makeMap t none)=some (.map H.length,H++[some (b31 E t)],⟨[],[H.length]⟩):=by rfl
@[go_sem] theorem d5s(t:TypeId)(m k x:Operand):a0r E ag call F H (.mapUpdate t m k x)=a0g (oor (a1y E (a02 H) t (opv E F m) (opv E F k) (opv E F x)) (b4x E (a02 H) t (opv E F m) (opv E F k) (opv E F x))) λe=>bif e.fits H.length then some (.tuple [],b0x H e,⟨a0h (opv E F m),e.keys H.length⟩)else none:=by refine(a6t (v:=(oor (a1y E (a02 H) t (opv E F m) (opv E F k) (opv E F x)) (b4x E (a02 H) t (opv E F m) (opv E F k) (opv E F x))).map (.tuple [],·)) rfl rfl rfl).trans ?_;cases oor (a1y E (a02 H) t (opv E F m) (opv E F k) (opv E F x)) (b4x E (a02 H) t (opv E F m) (opv E F k) (opv E F x))<;>rfl
@[go_sem] theorem e99(x:Operand)(t:TypeId):a0r E ag call F H (.call { callee:=.builtin .len,args:=#[x],argTypes:=#[t] })=a0g (b88 E (a02 H) t (opv E F x)) λv=>some (v,H,⟨a0h (opv E F x),[]⟩):=by refine(a1m (v:=b88 E (a02 H) t (opv E F x)) rfl rfl).trans ?_;simp[a89]
@[go_sem] theorem e9a(x:Operand)(t:TypeId):a0r E ag call F H (.call { callee:=.builtin .cap,args:=#[x],argTypes:=#[t] })=a0g (e07 E t (opv E F x)) λv=>some (v,H,⟨a0h (opv E F x),[]⟩):=by refine(a1m (v:=e07 E t (opv E F x)) rfl rfl).trans ?_;simp[a89]
@[go_sem] theorem e97(x:Operand)(xs:List Operand)(ts:Array TypeId):a0r E ag call F H (.call { callee:=.builtin .min,args:=⟨x::xs⟩,argTypes:=ts })=a0g (d6o (opv E F x) (xs.map (opv E F))) λv=>some (v,H,⟨(x::xs).flatMap λx=>a0h (opv E F x),[]⟩):=a1m rfl rfl
@[go_sem] theorem e98(x:Operand)(xs:List Operand)(ts:Array TypeId):a0r E ag call F H (.call { callee:=.builtin .max,args:=⟨x::xs⟩,argTypes:=ts })=a0g (d59 (opv E F x) (xs.map (opv E F))) λv=>some (v,H,⟨(x::xs).flatMap λx=>a0h (opv E F x),[]⟩):=a1m rfl rfl
@[go_sem] theorem e24(x y:Operand)(t u:TypeId):a0r E ag call F H (.call { callee:=.builtin .append,args:=#[x,y],argTypes:=#[t,u] })=a0g (oor (a4h E (a02 H) H.length t u (opv E F x) (opv E F y)) (a2r E H.length t u (opv E F x) (opv E F y))) λz=>bif z.2.fits H.length then some (z.1,b0x H z.2,⟨a0h (opv E F x)++a0h (opv E F y),z.2.keys H.length⟩)else none:=a6t rfl rfl (by simp[a89])
@[go_sem] theorem e1o{E:Env}{n:Nat}{t u:TypeId}{x:AV}{b off len:Nat}{cap:Option Nat}:a2r E n t u (.slice b off len cap) x=none:=by unfold a2r;rfl
@[go_sem] theorem e0d{E:Env}{n:Nat}{t u:TypeId}{b off len:Nat}{cap:Option Nat}:a2r E n t u .nilslice (.slice b off len cap)=none:=by unfold a2r;rfl
@[go_sem] theorem e5d{α:Type}(x:Option α):oor x none=x:=by cases x<;>rfl
@[go_sem] theorem e5c{α:Type}(x:α)(y:Option α):oor (some x) y=some x:=by rfl
@[go_sem] theorem d7n{g:FuncId}{fs cs:List AV}{H H':a03}{σ:List Nat}:a6f E (.func (.func g) fs cs) H H' σ=(E.ro g&&σ.all λb=>b1n (a02 H b) (a02 H' b)):=by rfl
@[go_sem] theorem e3y{α:Type}(b:Bool)(x:α):(bif b then x else x)=x:=by cases b<;>rfl
@[go_sem] theorem e10(ro:Bool)(σ:List Nat)(n:Nat):b4r ro σ n n=bif ro then[]else σ:=by unfold b4r;rw[cond_eq_ite,e8j (by rw[f4h])]
attribute [go_sem] List.range'_succ List.range'_zero
@[go_sem] theorem e77(f:Operand)(args:Array Operand)(ts:Array TypeId):a0r E ag call F H (.call { callee:=.value f,args:=args,argTypes:=ts })=a0g (a0a E ag call (opv E F f) (args.toList.map (opv E F)) H) λx=>some (x.1,x.2.1,⟨x.2.2,b4r (a6f E (opv E F f) H x.2.1 x.2.2) x.2.2 H.length x.2.1.length⟩):=by simp only[a0r];cases a0a E ag call (opv E F f) (args.toList.map (opv E F)) H<;>rfl
end
/-! ### tables read by type -/
section
variable (E:Env)
def a5w(t:TypeId):Option Bool:=(E.und t).map a26
def a4q(t:TypeId)(f:Nat):Option (Nat×TypeId):=match E.und t with|some (.struct fs)=>(fs[f]?).map λd=>(d.offset,d.type)|_=>none
def c2f(t:TypeId):Bool:=match E.und t with
 |some (.struct fs)=>fs.toList.all (λf=>(E.und f.type).isSome)
 |some (.array _ e)=>(E.und e).isSome
 |_=>false
def a8j(t:TypeId)(i:Nat):Option (Nat×Nat):=match E.und t with
 |some (.struct fs)=>(fs[i]?).map λf=>(f.offset,E.sz f.type)
 |some (.array _ e)=>some (i*E.sz e,E.sz e)
 |_=>none
def isT(t:TypeId):Bool:=(E.und t).isSome
end
section
variable {E:Env}{h:FHeap}
def d7y:Option Bool→List AV→Option AV
 |some true,cs=>some (.agg cs)
 |some false,cs=>cs.head?
 |none,_=>none
attribute [go_sem] d7y List.head?_cons
@[go_sem] theorem e2u(t:TypeId)(cs:List AV):a2c E t cs=bif decide (cs.length=E.sz t)then d7y (a5w E t) cs else none:=by
 unfold a2c a5w;have e:(cs.length==E.sz t)=decide (cs.length=E.sz t):=by by_cases h:cs.length=E.sz t<;>simp[h]
 rw[e];cases E.und t with
 |none=>cases decide (cs.length=E.sz t)<;>rfl
 |some d=>cases decide (cs.length=E.sz t)<;>simp[d7y]<;>cases a26 d<;>rfl
@[go_sem] theorem e6a(t:TypeId)(cs:List AV)(f:Nat):b6l E t (.agg cs) f=a0g (a4q E t f) λx=>a2c E x.2 ((cs.drop x.1).take (E.sz x.2)):=by
 unfold b6l a4q;cases E.und t with
 |none=>rfl
 |some d=>
  cases d<;>try rfl
  rename_i fs;simp only;cases fs[f]?<;>rfl
def fieldAt(E:Env)(p:AV)(o:Nat)(t:TypeId):Option AV:=
 bif decide (E.sz t≠0)&&isT E t then match p with
  |.ptr b i q=>some (.ptr b i (q+o))
  |.iptr cs=>some (.iptr (cs.drop o))
  |_=>none
 else none
attribute [go_sem] fieldAt
@[go_sem] theorem d6q(t:TypeId)(p:AV)(f:Nat):a5i E t p f=a0g (a4q E t f) λx=>fieldAt E p x.1 x.2:=by
 unfold a5i a4q fieldAt isT;cases E.und t with
 |none=>rfl
 |some d=>
  cases d<;>try rfl
  rename_i fs;simp only;cases fs[f]? with
  |none=>rfl
  |some fd=>
   by_cases h:E.sz fd.type=0
   ·simp[h,a0g]
   ·have e:(E.sz fd.type==0)=false:=f0q.2 h;simp[h,e,a0g];rfl
@[go_sem] theorem e6d(t:TypeId)(ap:List (Nat×AV)):b6p E t ap=bif c2f E t then a0g (E.zero t) λz=>a0g (b11 (a8j E t) z ap) λcs=>some (.agg cs)else none:=by
 unfold b6p c2f a8j;cases hz:E.zero t with
 |none=>
  simp only[a0g];cases E.und t with
  |none=>rfl
  |some d=>cases d<;>simp
 |some z=>
  cases hu:E.und t with
  |none=>rfl
  |some d=>
   cases d<;>try rfl
   ·simp only[a0g];split<;>simp_all<;>split<;>simp_all<;>rfl
   ·simp only[a0g];split<;>simp_all<;>split<;>simp_all<;>rfl
end
/-! ### values -/
section
variable {E:Env}{h:FHeap}{t:TypeId}{k:IntKind}{a b:Int}{p q:Bool}{c:Bool}
theorem ikb(k:IntKind):(k==k)=true:=by cases k<;>rfl
@[go_sem] theorem e6p:b06 E .add t (.int k a) (.int k b) c=some (.int k (k.wrap (a+b))):=by simp only[b06,ikb,c4b,e9i]
@[go_sem] theorem e6f:b06 E .sub t (.int k a) (.int k b) c=some (.int k (k.wrap (a-b))):=by simp only[b06,ikb,c4b,e9i]
@[go_sem] theorem e6i(hb:(b=0)=False):b06 E .quo t (.int k a) (.int k b) c=some (.int k (k.wrap (a.tdiv b))):=by
 have:(b==0)=false:=by rw[f0q];exact λe=>hb▸e
 simp only[b06,ikb,c4b,e9i,this,e9q]
@[go_sem] theorem e6h(hb:(b=0)=False):b06 E .rem t (.int k a) (.int k b) c=some (.int k (a.tmod b)):=by
 have:(b==0)=false:=by rw[f0q];exact λe=>hb▸e
 simp only[b06,ikb,c4b,e9i,this,e9q]
def e7x(k:IntKind)(a b:Int):Int:=k.wrap (BitVec.ofInt k.bits a^^^BitVec.ofInt k.bits b).toNat
@[go_sem] theorem e6e:b06 E .xor t (.int k a) (.int k b) c=some (.int k (e7x k a b)):=by simp only[b06,ikb,c4b,e9i,e7x]
theorem f1w(a b:Int):(a==b)=decide (a=b):=by
 by_cases h:a=b
 ·subst h;simp
 ·rw[f0q.2 h,f2q h]
@[go_sem] theorem e6o:b06 E .eql t (.int k a) (.int k b) c=some (.bool (decide (a=b))):=by simp only[b06,ikb,c4b,e9i,f1w]
@[go_sem] theorem e6j:b06 E .neq t (.int k a) (.int k b) c=some (.bool (!decide (a=b))):=by simp only[b06,ikb,c4b,e9i,bne,f1w]
@[go_sem] theorem e6k:b06 E .lss t (.int k a) (.int k b) c=some (.bool (decide (a<b))):=by simp only[b06,ikb,c4b,e9i]
@[go_sem] theorem e6l:b06 E .leq t (.int k a) (.int k b) c=some (.bool (decide (a≤b))):=by simp only[b06,ikb,c4b,e9i]
@[go_sem] theorem e6m:b06 E .gtr t (.int k a) (.int k b) c=some (.bool (decide (b<a))):=by simp only[b06,ikb,c4b,e9i]
@[go_sem] theorem e6n:b06 E .geq t (.int k a) (.int k b) c=some (.bool (decide (b≤a))):=by simp only[b06,ikb,c4b,e9i]
@[go_sem] theorem f9a(b:Bool):(b==b)=true:=by cases b<;>rfl
@[go_sem] theorem e4f(ht:E.und t=some .bool):b06 E .neq t (.bool p) (.bool q) c=some (.bool (!(p==q))):=by simp[b06,AV.eqShape,aeq,ht]
@[go_sem] theorem e6g{op:BinOp}{x y:List UInt8}(h1:op≠ .shl:=by decide)(h2:op≠ .shr:=by decide):b06 E op t (.str x) (.str y) c=e1e op x y:=by cases op<;>first|rfl|exact absurd rfl h1|exact absurd rfl h2
@[go_sem] theorem e8y:aun .not (.bool p)=some (.bool (!p)):=by rfl
@[go_sem] theorem e1p(o:Option AObj)(r:a03):a02 (o::r) 0=o:=by simp[a02]
@[go_sem] theorem e1q(o:Option AObj)(r:a03)(n:Nat):a02 (o::r) (n+1)=a02 r n:=by simp[a02]
@[go_sem] theorem e4k(n:Nat):a02 [] n=none:=by rfl
def slT(E:Env)(t:TypeId):Option TypeId:=match E.und t with|some (.slice e)=>some e|_=>none
theorem a43{e:TypeId}:slT E t=some e↔E.und t=some (.slice e):=by
 unfold slT;constructor
 ·intro h;split at h
  ·rename_i cE;cases h;exact cE
  ·cases h
 ·intro h;rw[h]
def a95:Option AObj→Option (Nat×List (List AV))
 |some (.row k aa)=>some (k,aa)
 |_=>none
attribute [go_sem] a95
def rowAt(aa:List (List AV))(i:Int):Option (List AV):=if 0≤i then aa[i.toNat]? else none
@[go_sem] theorem c7w(aa:List (List AV))(n:Nat):rowAt aa (n:Int)=aa[n]?:=by simp[rowAt]
theorem c7v{aa:List (List AV)}{i:Int}(h:0≤i):rowAt aa i=aa[i.toNat]?:=by simp[rowAt,h]
def inR(i:Int)(n:Nat):Bool:=decide (0≤i)&&decide (i<n)
@[go_sem] theorem c1u(j n:Nat):inR (j:Int) n=decide (j<n):=by
 unfold inR;rw[e9w (by omega:(0:Int)≤j),f1q];by_cases h:j<n
 ·rw[e9w h,e9w (by omega)]
 ·rw[f2q h,f2q (by omega)]
theorem b28{i:Int}{n:Nat}:c6i (.int k i) n=bif inR i n then some i.toNat else none:=rfl
@[go_sem] theorem e1k{b o n:Nat}{cp:Option Nat}(hs:(slT E t).isSome=true):b88 E h t (.slice b o n cp)=some (.int .i64 n):=by obtain⟨e,he⟩:=e7n.1 hs;simp only[b88,a43.1 he]
@[go_sem] theorem e01{aa:List (List AV)}{cp:Option Nat}(hs:(slT E t).isSome=true):b88 E h t (.islice aa cp)=some (.int .i64 aa.length):=by obtain⟨e,he⟩:=e7n.1 hs;simp only[b88,a43.1 he]
@[go_sem] theorem e69(hs:(slT E t).isSome=true):b88 E h t .nilslice=some (.int .i64 0):=by obtain⟨e,he⟩:=e7n.1 hs;simp only[b88,a43.1 he]
def e21(E:Env)(t:TypeId):Bool:=match E.und t with|some .string=>true|_=>false
theorem c2v:e21 E t=true→E.und t=some .string:=by
 unfold e21;intro h;split at h
 ·rename_i cE;exact cE
 ·cases h
@[go_sem] theorem e68{s:List UInt8}(hs:e21 E t=true):b88 E h t (.str s)=some (.int .i64 s.length):=by simp only[b88,c2v hs]
@[go_sem] theorem e6c(hs:(slT E t).isSome=true):e07 E t .nilslice=some (.int .i64 0):=by obtain⟨e,he⟩:=e7n.1 hs;simp only[e07,a43.1 he]
def b4t(E:Env)(e:Option TypeId)(r:Option (List AV)):Option AV:=match e,r with
 |some e,some r=>bif isT E e&&decide (r.length=E.sz e)then some (.iptr r)else none
 |_,_=>none
attribute [go_sem] b4t
theorem c46(a b:Nat):(a==b)=decide (a=b):=by
 by_cases h:a=b
 ·subst h;simp
 ·rw[f0q.2 h,f2q h]
@[go_sem] theorem b3l{aa:List (List AV)}{cp:Option Nat}{i:Int}:a0v E h t (.islice aa cp) (.int k i)=match slT E t with|some e=>b4t E (some e) (rowAt aa i)|none=>a0v E h t (.islice aa cp) (.int k i):=by
 cases hs:slT E t with
 |none=>rfl
 |some e=>
  have hu:=a43.1 hs;simp only[a0v,hu,b28,inR,b4t,isT];by_cases h0:0≤i
  ·rw[e9w h0,c7v h0];by_cases h1:i<aa.length
   ·rw[e9w h1];have:i.toNat<aa.length:=by omega
    simp only[z9e this,f1e,e9i,c46];cases(E.und e).isSome<;>rfl
   ·rw[f2q h1];rw[e8m (by omega)];simp
  ·simp[h0,rowAt]
def e80(E:Env)(e:Option TypeId)(ok:Bool)(r:Option (Nat×List (List AV)))(b j:Nat):Option AV:=match e,r with
 |some e,some r=>bif isT E e&&ok&&decide (r.1=E.sz e)then some (.ptr b j 0)else none
 |_,_=>none
attribute [go_sem] e80 Int.toNat_natCast
@[go_sem] theorem e15{b o n:Nat}{cp:Option Nat}{i:Int}:a0v E h t (.slice b o n cp) (.int k i)=match slT E t with|some e=>e80 E (some e) (inR i n) (a95 (h b)) b (o+i.toNat)|none=>a0v E h t (.slice b o n cp) (.int k i):=by
 cases hs:slT E t with
 |none=>rfl
 |some e=>
  have hu:=a43.1 hs;simp only[a0v,hu,b28,e80,isT];cases hb:h b with
  |none=>cases inR i n<;>simp[a95]
  |some o=>cases o<;>cases inR i n<;>simp[a95,c46];cases(E.und e).isSome<;>simp
def c49(E:Env)(t:TypeId):Option (Nat×TypeId):=match E.und t with|some (.array m e)=>some (m,e)|_=>none
theorem d54{m:Nat}{e:TypeId}:c49 E t=some (m,e)→E.und t=some (.array m e):=by
 unfold c49;intro h;split at h
 ·rename_i cE;cases h;exact cE
 ·cases h
def b63(E:Env)(n:Nat)(e:TypeId)(p:AV)(j:Int):Option AV:=
 bif inR j n&&isT E e then match p with
  |.ptr b i o=>some (.ptr b i (o+j.toNat*E.sz e))
  |.iptr cs=>some (.iptr (cs.drop (j.toNat*E.sz e)))
  |_=>none
 else none
@[go_sem] theorem e14(n:Nat)(e:TypeId)(b i o:Nat)(j:Int):b63 E n e (.ptr b i o) j=bif inR j n&&isT E e then some (.ptr b i (o+j.toNat*E.sz e))else none:=by rfl
@[go_sem] theorem d8v(n:Nat)(e:TypeId)(cs:List AV)(j:Int):b63 E n e (.iptr cs) j=bif inR j n&&isT E e then some (.iptr (cs.drop (j.toNat*E.sz e)))else none:=by rfl
theorem c3l{n:Nat}{e:TypeId}{p:AV}{j:Int}(hu:c49 E t=some (n,e)):a0v E h t p (.int k j)=b63 E n e p j:=by
 simp only[a0v,d54 hu,b28,b63,isT];cases inR j n with
 |false=>rfl
 |true=>simp only[e9i,f1q];cases(E.und e).isSome<;>cases p<;>rfl
@[go_sem] theorem e5m{b i o:Nat}{j:Int}:a0v E h t (.ptr b i o) (.int k j)=match c49 E t with|some (n,e)=>b63 E n e (.ptr b i o) j|none=>a0v E h t (.ptr b i o) (.int k j):=by
 cases hu:c49 E t with
 |none=>rfl
 |some x=>exact c3l hu
@[go_sem] theorem e39{cs:List AV}{j:Int}:a0v E h t (.iptr cs) (.int k j)=match c49 E t with|some (n,e)=>b63 E n e (.iptr cs) j|none=>a0v E h t (.iptr cs) (.int k j):=by
 cases hu:c49 E t with
 |none=>rfl
 |some x=>exact c3l hu
@[go_sem] theorem f4f(n:Nat):inR 0 n=decide (0<n):=c1u 0 n
@[go_sem] theorem e6z:Int.toNat 0=0:=by rfl
@[go_sem] theorem f4e(n:Nat):inR 1 n=decide (1<n):=c1u 1 n
@[go_sem] theorem e6y:Int.toNat 1=1:=by rfl
@[go_sem] theorem f4d(n:Nat):inR 2 n=decide (2<n):=c1u 2 n
@[go_sem] theorem e6x:Int.toNat 2=2:=by rfl
@[go_sem] theorem e1l{s:List UInt8}{i:Int}(hs:e21 E t=true):b6k E t (.str s) (.int k i)=bif inR i s.length then(s[i.toNat]?).map (λb=>.int .u8 b.toNat)else none:=by
 simp only[b6k,c2v hs,b28];cases inR i s.length with
 |false=>rfl
 |true=>simp only[e9i];cases s[i.toNat]?<;>rfl
@[go_sem] theorem e1j{cs:List AV}:a60 E h t (.iptr cs)=a2c E t (cs.take (E.sz t)):=by rfl
@[go_sem] theorem e4d{b i o:Nat}:a60 E h t (.ptr b i o)=a0g (a95 (h b)) λkr=>a0g (kr.2[i]?) λr=>a2c E t ((r.drop o).take (E.sz t)):=by
 unfold a60;cases hb:h b with
 |none=>simp only[hb];rfl
 |some ob=>cases ob<;>simp only[hb,a95,a0g];rename_i aa;cases aa[i]?<;>rfl
@[go_sem] theorem e1f{b i o:Nat}{x:AV}:a7h E h t (.ptr b i o) x=a0g (a95 (h b)) λkr=>a0g (kr.2[i]?) λr=>
 bif decide (x.cells.length=E.sz t)&&isT E t&&Nat.ble (o+x.cells.length) r.length&&x.cells.all AV.storable then some (.set b (.row kr.1 (kr.2.set i (splice r o x.cells))))else none:=by
 unfold a7h;cases hb:h b with
 |none=>simp only[hb];rfl
 |some ob=>cases ob<;>simp only[hb,a95,a0g];rename_i aa;cases aa[i]?<;>simp only[isT,c46]
@[go_sem] theorem f1y{n:Nat}:d9y E n t=a0g (E.zero t) λz=>bif decide (0<z.length)then some (.ptr n 0 0,.new (.row z.length [z]))else none:=by
 unfold d9y;cases E.zero t with
 |none=>rfl
 |some z=>simp only[a0g];cases z<;>rfl
@[go_sem] theorem f1z{n:Nat}{x:AV}:e0a n x=bif !x.isJunk&&decide (0<x.cells.length)then some (.ptr n 0 0,.new (.row x.cells.length [x.cells]))else none:=by
 have e:Nat.blt 0 x.cells.length=decide (0<x.cells.length):=by rw[f4a];simp[e9o]
 cases x<;>simp only[e0a,e,AV.isJunk,Bool.not_false,f1q,f2n,Bool.false_and,e9q]
theorem d1t(a b:Nat):Nat.ble a b=decide (a≤b):=by rw[f4a];simp[f1h]
theorem c6t(a b:Nat):Nat.blt a b=decide (a<b):=by rw[f4a];simp[e9o]
attribute [go_sem] d1t c6t
@[go_sem] theorem e4x(r:List AV)(o:Nat)(cs:List AV):splice r o cs=r.take o++cs++r.drop (o+cs.length):=by rfl
def c6s(E:Env)(e:TypeId)(l c:Int):Bool:=decide (0≤l)&&decide (l≤c)&&decide (c≤281474976710656)&&decide ((E.bytes e:Int)*c≤281474976710656)
@[go_sem] theorem d6p{n:Nat}{k':IntKind}{l c:Int}:a3z E n t (.int k l) (.int k' c)=a0g (slT E t) λe=>a0g (E.zero e) λz=>bif c6s E e l c&&decide (0<z.length)then
 some (AV.slice n 0 l.toNat (some c.toNat),Eff.new (.row z.length (List.replicate c.toNat z)))else none:=by
 cases hs:slT E t with
 |none=>
  unfold a3z;unfold slT at hs;cases hu:E.und t with
  |none=>rfl
  |some d=>cases d<;>first|rfl|(rw[hu]at hs;cases hs)
 |some e=>have hu:=a43.1 hs;simp only[a3z,hu,a0g,c6s,c6t];cases E.zero e<;>rfl
theorem a70{e:TypeId}{m:Nat}(h:m≤1000000000)(hb:E.bytes e≤1000):c6s E e (m:Int) (m:Int)=true:=by
 unfold c6s;have h1:E.bytes e*m≤1000*1000000000:=Nat.mul_le_mul hb h;have h2:((E.bytes e:Int)*(m:Int))=((E.bytes e*m:Nat):Int):=by simp
 rw[h2];simp only[e7h,e9j];omega
@[go_sem] theorem d5g{n m:Nat}{ps:List (Nat×AV)}:a3a E n t m ps=a0g (slT E t) λe=>a0g (E.zero e) λz=>bif decide (0<z.length)&&decide (m*z.length≤16777216)then
 a0g (b4g z.length (List.replicate m z) ps) λaa=>some (AV.slice n 0 m (some m),Eff.new (.row z.length aa))else none:=by
 cases hs:slT E t with
 |none=>
  unfold a3a;unfold slT at hs;cases hu:E.und t with
  |none=>rfl
  |some d=>cases d<;>first|rfl|(rw[hu]at hs;cases hs)
 |some e=>
  have hu:=a43.1 hs;simp only[a3a,hu,a0g];cases E.zero e with
  |none=>rfl
  |some z=>
   simp only[c6t,d1t];cases decide (0<z.length)&&decide (m*z.length≤16777216)with
   |false=>rfl
   |true=>simp only[e9i];cases b4g z.length (List.replicate m z) ps<;>rfl
@[go_sem] theorem e49(m:Nat)(aa:List (List AV)):b4g m aa []=some aa:=by rfl
@[go_sem] theorem e1i(m:Nat)(aa:List (List AV))(i:Nat)(v:AV)(r:List (Nat×AV)):b4g m aa ((i,v)::r)=bif !v.isJunk&&decide (v.cells.length=m)&&decide (i<aa.length)then b4g m (aa.set i v.cells) r else none:=by simp only[b4g,c46,c6t]
@[go_sem] theorem e4e(pl:Nat→Option (Nat×Nat))(cs:List AV):b11 pl cs []=some cs:=by rfl
@[go_sem] theorem e1m(pl:Nat→Option (Nat×Nat))(cs:List AV)(i:Nat)(v:AV)(r:List (Nat×AV)):b11 pl cs ((i,v)::r)=a0g (pl i) λx=>bif !v.isJunk&&decide (v.cells.length=x.2)&&decide (x.1+x.2≤cs.length)then b11 pl (splice cs x.1 v.cells) r else none:=by
 simp only[b11];cases pl i with
 |none=>rfl
 |some x=>simp only[a0g,c46,d1t]
@[go_sem] theorem e3v{H:a03}:b0x H .none=H:=by rfl
@[go_sem] theorem e5z{H:a03}{o:AObj}:b0x H (.new o)=H++[some o]:=by rfl
@[go_sem] theorem e5y{H:a03}{b:Nat}{o:AObj}:b0x H (.set b o)=H.set b (some o):=by rfl
@[go_sem] theorem e3w{H:a03}{b:Nat}{o:AObj}:b0x H (.kill b o)=H.set b none++[some o]:=by rfl
@[go_sem] theorem e5x{n:Nat}{o:AObj}:Eff.fits n (.new o)=true:=by rfl
@[go_sem] theorem e3o{n:Nat}:Eff.fits n .none=true:=by rfl
@[go_sem] theorem e5w{n b:Nat}{o:AObj}:Eff.fits n (.set b o)=decide (b<n):=c6t b n
@[go_sem] theorem e3p{n b:Nat}{o:AObj}:Eff.fits n (.kill b o)=decide (b<n):=c6t b n
attribute [go_sem] List.all_cons List.all_nil List.set_cons_zero List.set_cons_succ List.set_nil List.replicate_zero
end
@[go_sem] theorem e1d(b:Bool):AV.cells (.bool b)=[(AV.bool b)]:=by rfl
@[go_sem] theorem d2b(b:Bool):AV.storable (.bool b)=true:=by rfl
@[go_sem] theorem e40(k:IntKind)(n:Int):AV.cells (.int k n)=[(AV.int k n)]:=by rfl
@[go_sem] theorem d5q(k:IntKind)(n:Int):AV.storable (.int k n)=true:=by rfl
@[go_sem] theorem e5i(k:IntKind)(n:Int):AV.isJunk (.int k n)=false:=by rfl
@[go_sem] theorem e0k(k:IntKind)(n:Int):a0h (.int k n)=[]:=by rfl
@[go_sem] theorem e3z(s:List UInt8):AV.cells (.str s)=[(AV.str s)]:=by rfl
@[go_sem] theorem d5p(s:List UInt8):AV.storable (.str s)=true:=by rfl
@[go_sem] theorem e5h(s:List UInt8):AV.isJunk (.str s)=false:=by rfl
@[go_sem] theorem e0h(s:List UInt8):a0h (.str s)=[]:=by rfl
@[go_sem] theorem d1s:AV.cells .nilslice=[AV.nilslice]:=by rfl
@[go_sem] theorem c4p:AV.storable .nilslice=true:=by rfl
@[go_sem] theorem d3k:AV.isJunk .nilslice=false:=by rfl
@[go_sem] theorem c75:a0h .nilslice=[]:=by rfl
@[go_sem] theorem e0i(b i o:Nat):a0h (.ptr b i o)=[b]:=by rfl
@[go_sem] theorem d77(l:List AV):a0h (.iptr l)=[]:=by rfl
@[go_sem] theorem d9k(b o n:Nat)(c:Option Nat):AV.cells (.slice b o n c)=[(AV.slice b o n c)]:=by rfl
@[go_sem] theorem d1p(b o n:Nat)(c:Option Nat):AV.storable (.slice b o n c)=true:=by rfl
@[go_sem] theorem e13(b o n:Nat)(c:Option Nat):AV.isJunk (.slice b o n c)=false:=by rfl
@[go_sem] theorem d5o(b o n:Nat)(c:Option Nat):a0h (.slice b o n c)=[b]:=by rfl
@[go_sem] theorem d6h(r:List (List AV))(c:Option Nat):AV.cells (.islice r c)=[(AV.islice r c)]:=by rfl
@[go_sem] theorem c7d(r:List (List AV))(c:Option Nat):AV.storable (.islice r c)=true:=by rfl
@[go_sem] theorem d8o(r:List (List AV))(c:Option Nat):AV.isJunk (.islice r c)=false:=by rfl
@[go_sem] theorem d27(r:List (List AV))(c:Option Nat):a0h (.islice r c)=[]:=by rfl
@[go_sem] theorem e0j(b:Nat):a0h (.map b)=[b]:=by rfl
@[go_sem] theorem e1c(f:Fn)(a b:List AV):AV.cells (.func f a b)=[(AV.func f a b)]:=by rfl
@[go_sem] theorem d2a(f:Fn)(a b:List AV):AV.storable (.func f a b)=true:=by rfl
@[go_sem] theorem e36(f:Fn)(a b:List AV):AV.isJunk (.func f a b)=false:=by rfl
@[go_sem] theorem e41(l:List AV):AV.cells (.agg l)=l:=by rfl
@[go_sem] theorem e5j(l:List AV):AV.isJunk (.agg l)=false:=by rfl
@[go_sem] theorem e33(n:Nat):Eff.keys n .none=[]:=by rfl
@[go_sem] theorem e5g(n:Nat)(o:AObj):Eff.keys n (.new o)=[n]:=by rfl
@[go_sem] theorem e5f(n b:Nat)(o:AObj):Eff.keys n (.set b o)=[b]:=by rfl
@[go_sem] theorem e34(n b:Nat)(o:AObj):Eff.keys n (.kill b o)=[b,n]:=by rfl
@[go_sem] theorem f3p:1+1=2:=by rfl
@[go_sem] theorem f3o:2+1=3:=by rfl
@[go_sem] theorem f3n:3+1=4:=by rfl
@[go_sem] theorem f3m:4+1=5:=by rfl
@[go_sem] theorem f3l:5+1=6:=by rfl
@[go_sem] theorem f3k:6+1=7:=by rfl
@[go_sem] theorem f3j:7+1=8:=by rfl
@[go_sem] theorem f3i:8+1=9:=by rfl
@[go_sem] theorem f3h:9+1=10:=by rfl
@[go_sem] theorem f0b:10+1=11:=by rfl
@[go_sem] theorem f0a:11+1=12:=by rfl
@[go_sem] theorem f06:2+2=4:=by rfl
@[go_sem] theorem f05:2+3=5:=by rfl
@[go_sem] theorem f04:3+2=5:=by rfl
@[go_sem] theorem f03:3+3=6:=by rfl
@[go_sem] theorem f09:1+2=3:=by rfl
@[go_sem] theorem f08:1+3=4:=by rfl
@[go_sem] theorem f07:1+4=5:=by rfl
@[go_sem] theorem e52{α:Type}(a:α):List.replicate 1 a=[a]:=by rfl
@[go_sem] theorem e51{α:Type}(a:α):List.replicate 2 a=[a,a]:=by rfl
@[go_sem] theorem e50{α:Type}(a:α):List.replicate 3 a=[a,a,a]:=by rfl
attribute [go_sem] List.map_cons List.map_nil List.append_nil List.nil_append List.cons_append List.length_cons List.length_nil a26 cond_true cond_false Option.map_some Option.map_none List.drop_zero List.drop_succ_cons List.take_succ_cons List.take_zero List.drop_nil List.take_nil List.getElem?_cons_zero List.getElem?_cons_succ List.getElem?_nil Nat.zero_add Nat.add_zero Nat.zero_mul Nat.mul_one decide_true decide_false Bool.and_true Bool.true_and Bool.and_false Bool.false_and Bool.or_true Bool.true_or Bool.or_false Bool.false_or Bool.not_true Bool.not_false Option.bind_some Option.isSome_some a2u decide_eq_true_eq
end Go.Ax
/- AxFlat: values that refer to no mutable block: renaming and freezing leave them; calls on them. -/
namespace Go.Ax
mutual
theorem a0w(π:Nat→Option Nat):∀(v:AV),refs v=[]→ren π v=v
 |.ptr ..,h=>by simp[refs]at h
 |.slice ..,h=>by simp[refs]at h
 |.map ..,h=>by simp[refs]at h
 |.yfn ..,h=>by simp[refs]at h
 |.func fn fs cs,h=>by simp only[refs,f1o]at h;simp only[ren,a6g π fs h.1,a6g π cs h.2]
 |.iface t x,h=>by simp only[refs]at h;simp only[ren,a0w π x h]
 |.agg cs,h=>by simp only[refs]at h;simp only[ren,a6g π cs h]
 |.tuple cs,h=>by simp only[refs]at h;simp only[ren,a6g π cs h]
 |.junk,_|.bool _,_|.int ..,_|.str _,_|.nilptr,_|.nilslice,_|.nilmap,_|.nilfunc,_|.nilifc,_|.iptr _,_|.islice ..,_|.imap ..,_|.iset _,_=>rfl
theorem a6g(π:Nat→Option Nat):∀(l:List AV),a0d l=[]→b8h π l=l
 | [],_=>rfl
 |v::vs,h=>by simp only[a0d,f1o]at h;simp only[b8h,a0w π v h.1,a6g π vs h.2]
end
theorem a2t(π:Nat→Option Nat){l:List AV}(h:a0d l=[]):l.map (ren π)=l:=by rw[←a7s];exact a6g π l h
mutual
theorem a1h(m:Nat)(top:Bool)(d:AV→Option AV):∀(v:AV),refs v=[]→a3e m top d v=some v
 |.ptr ..,h=>by simp[refs]at h
 |.slice ..,h=>by simp[refs]at h
 |.map ..,h=>by simp[refs]at h
 |.yfn ..,h=>by simp[refs]at h
 |.func fn fs cs,h=>by simp only[refs,f1o]at h;simp only[a3e,a5t m top d fs h.1,a5t m top d cs h.2]
 |.iface t x,h=>by simp only[refs]at h;simp only[a3e,a1h m top d x h]
 |.agg cs,h=>by simp only[refs]at h;simp only[a3e,a5t m top d cs h]
 |.tuple cs,h=>by simp only[refs]at h;simp only[a3e,a5t m top d cs h]
 |.junk,_|.bool _,_|.int ..,_|.str _,_|.nilptr,_|.nilslice,_|.nilmap,_|.nilfunc,_|.nilifc,_|.iptr _,_|.islice ..,_|.imap ..,_|.iset _,_=>rfl
theorem a5t(m:Nat)(top:Bool)(d:AV→Option AV):∀(l:List AV),a0d l=[]→a54 m top d l=some l
 | [],_=>rfl
 |v::vs,h=>by simp only[a0d,f1o]at h;simp only[a54,a1h m top d v h.1,a5t m top d vs h.2]
end
def FlatR(aa:List (List AV)):Prop:=∀r∈aa,a0d r=[]
theorem FlatR.nil:FlatR []:=λr h=>by simp at h
theorem FlatR.cons{r:List AV}{aa:List (List AV)}(h:a0d r=[])(hs:FlatR aa):FlatR (r::aa):=by
 intro x hx;simp only[e9m]at hx;rcases hx with rfl|hx
 ·exact h
 ·exact hs x hx
theorem FlatR.append{a b:List (List AV)}(h:FlatR a)(k:FlatR b):FlatR (a++b):=by intro x hx;simp only[e9s]at hx;exact hx.elim (h x) (k x)
theorem FlatR.map{α:Type}{f:α→List AV}{l:List α}(h:∀x,a0d (f x)=[]):FlatR (l.map f):=by intro x hx;simp only[f0r]at hx;obtain⟨y,_,rfl⟩:=hx;exact h y
theorem FlatR.replicate{n:Nat}{r:List AV}(h:a0d r=[]):FlatR (List.replicate n r):=by intro x hx;rw[(List.mem_replicate.1 hx).2];exact h
theorem a08{aa:List (List AV)}(h:FlatR aa):aa.flatMap a0d=[]:=by rw[List.flatMap_eq_nil_iff];exact h
theorem a05(π:Nat→Option Nat){aa:List (List AV)}(h:FlatR aa):aa.map (λr=>r.map (ren π))=aa:=by
 conv=>rhs;rw[←List.map_id aa]
 exact f0i λr hr=>a2t π (h r hr)
theorem a12(m:Nat)(d:AV→Option AV):∀{aa:List (List AV)},FlatR aa→a8v m d aa=some aa
 | [],_=>rfl
 |r::rs,h=>by simp only[a8v,a5t m false d r (h r (by simp)),a12 m d (aa:=rs) (λx hx=>h x (by simp[hx]))]
/-! ### slices that are immutable, nil or not -/
def sl(c:Option (Option Nat))(aa:List (List AV)):AV:=match c,aa with
 |none,[]=>.nilslice
 |none,r::rs=>.islice (r::rs) none
 |some c,aa=>.islice aa c
@[go_sem] theorem a68(c:Option Nat)(aa:List (List AV)):sl (some c) aa = .islice aa c:=by cases aa<;>rfl
@[go_sem] theorem c0y:sl none [] = .nilslice:=by rfl
@[go_sem] theorem b8u(r:List AV)(rs:List (List AV)):sl none (r::rs) = .islice (r::rs) none:=by rfl
@[go_sem] theorem a1b(c:Option (Option Nat))(aa:List (List AV)):refs (sl c aa)=[]:=by cases c<;>cases aa<;>rfl
@[go_sem] theorem b8y(π:Nat→Option Nat)(c:Option (Option Nat))(aa:List (List AV)):ren π (sl c aa)=sl c aa:=a0w π _ (a1b c aa)
@[go_sem] theorem e1z(c:Option (Option Nat))(aa:List (List AV)):a0h (sl c aa)=[]:=by cases c<;>cases aa<;>rfl
@[go_sem] theorem e62(c:Option (Option Nat))(aa:List (List AV)):(sl c aa).cells=[sl c aa]:=by cases c<;>cases aa<;>rfl
@[go_sem] theorem d78(c:Option (Option Nat))(aa:List (List AV)):(sl c aa).storable=true:=by cases c<;>cases aa<;>rfl
@[go_sem] theorem e7w(c:Option (Option Nat))(aa:List (List AV)):(sl c aa).isJunk=false:=by cases c<;>cases aa<;>rfl
section
variable {E:Env}{h:FHeap}{t e:TypeId}{c:Option (Option Nat)}{aa:List (List AV)}{k:IntKind}
@[go_sem] theorem e90(hs:(slT E t).isSome=true):b88 E h t (sl c aa)=some (.int .i64 aa.length):=by obtain⟨e,he⟩:=e7n.1 hs;have ht:=a43.1 he;cases c<;>cases aa<;>simp[sl,b88,ht]
@[go_sem] theorem e81{i:Int}:a0v E h t (sl c aa) (.int k i)=match slT E t with|some e=>b4t E (some e) (rowAt aa i)|none=>a0v E h t (sl c aa) (.int k i):=by
 cases c with
 |some c=>rw[a68];exact b3l
 |none=>cases aa with
  |nil=>
   cases hs:slT E t with
   |none=>rfl
   |some e=>
    have hu:=a43.1 hs;simp only[sl,a0v,hu,b4t];cases h2:rowAt [] i with
    |none=>simp
    |some r=>unfold rowAt at h2;split at h2<;>simp at h2
  |cons a l=>exact b3l
end
/-! ### calls -/
@[go_sem] theorem e8t(a:AV):a4i 0 [a]=[(0,a)]:=by rfl
@[go_sem] theorem e8s(a b:AV):a4i 0 [a,b]=[(0,a),(1,b)]:=by rfl
@[go_sem] theorem e8r(a b c:AV):a4i 0 [a,b,c]=[(0,a),(1,b),(2,c)]:=by rfl
@[go_sem] theorem e8q(a b c d:AV):a4i 0 [a,b,c,d]=[(0,a),(1,b),(2,c),(3,d)]:=by rfl
@[go_sem] theorem e8p(a b c d e:AV):a4i 0 [a,b,c,d,e]=[(0,a),(1,b),(2,c),(3,d),(4,e)]:=by rfl
theorem a6x(n:Nat)(H1:a03):∀(b:Nat) (H:a03),a13 [] n H1 b H=H
 |_,[]=>rfl
 |b,o::r=>by simp only[a13,List.idxOf?_nil,a6x n H1 (b+1) r]
theorem c06{run:List AV→a03→Option (AV×a03)}{args:List AV}{H:a03}{v:AV}(ha:a0d args=[])(h:run args []=some (v,[]))(hv:refs v=[]):a2f run args H=some (v,H,[]):=by
 unfold a2f;have hr:a1t H a35 (a0d args) []=[]:=by rw[ha];rfl
 simp only[hr,a51,List.all_nil,f1e,e9i,a2t _ ha,a4z,e7j,h,a0w _ v hv,a6x,List.drop_nil,e7i,e8c]
theorem a04{E:Env}{ag:Bool}{call:CallF}{g:FuncId}{fs cs ar args:List AV}{H:a03}{v:AV}(hx:E.ext g=false)(hf:(E.fn g).isSome=true)(he:fs++ar++cs=args)(ha:a0d args=[])(h:call g args []=some (v,[]))(hv:refs v=[]) :
 a0a E ag call (.func (.func g) fs cs) ar H=some (v,H,[]):=by
 simp only[a0a,hx,hf,he,e9i,e9q,c06 ha h hv];cases ag
 ·rfl
 ·simp only[f1q];rw[show Nat.ble H.length H.length=true by rw[f1h];exact e9k _];rfl
@[go_sem] theorem a9l(k:IntKind)(n:Int):refs (.int k n)=[]:=by rfl
@[go_sem] theorem e2k(b:Bool):refs (.bool b)=[]:=by rfl
@[go_sem] theorem e57(s:List UInt8):refs (.str s)=[]:=by rfl
@[go_sem] theorem b2q(r:List (List AV))(c:Option Nat):refs (.islice r c)=[]:=by rfl
@[go_sem] theorem c81(r:List AV):refs (.iptr r)=[]:=by rfl
@[go_sem] theorem d2q:refs .nilslice=[]:=by rfl
@[go_sem] theorem a0n(l:List AV):refs (.agg l)=a0d l:=by rfl
@[go_sem] theorem a5f(l:List AV):refs (.tuple l)=a0d l:=by rfl
@[go_sem] theorem e2j(f:Fn)(a b:List AV):refs (.func f a b)=a0d a++a0d b:=by rfl
@[go_sem] theorem d2p(b i o:Nat):refs (.ptr b i o)=[b]:=by rfl
@[go_sem] theorem c51(b i o:Nat)(c:Option Nat):refs (.slice b i o c)=[b]:=by rfl
@[go_sem] theorem e58(b:Nat):refs (.map b)=[b]:=by rfl
@[go_sem] theorem a0z:a0d []=[]:=by rfl
@[go_sem] theorem a06(v:AV)(l:List AV):a0d (v::l)=refs v++a0d l:=by rfl
/-! ### what a loop's head keeps -/
/-! ### globals -/
def gV:Option (List AV)→AV|some cs=>.iptr cs|none=>.junk
@[go_sem] theorem e59{E:Env}{F:Frm}(g:Nat):opv E F (.global g)=gV (E.G g):=by simp only[opv,gV];cases E.G g<;>rfl
@[go_sem] theorem e83(cs:List AV):gV (some cs) = .iptr cs:=by rfl
end Go.Ax
/- AxBits: words of 64 bits; sums that fit. -/
namespace Go.Ax
def u64(x:BitVec 64):AV:=.int .u64 (x.toNat:Int)
section
variable {E:Env}{t:TypeId}{c:Bool}{x y:BitVec 64}{k:IntKind}
def d3z(E:Env)(t:TypeId):Option IntKind:=match E.und t with|some (.int k)=>some k|_=>none
theorem c3h{k:IntKind}:d3z E t=some k→E.und t=some (.int k):=by
 unfold d3z;intro h;split at h
 ·rename_i cE;cases h;exact cE
 ·cases h
def cvI(k:IntKind)(n:Int):AV:=.int k (k.wrap n)
@[go_sem] theorem e8v(n:Int):cvI .i64 n = .int .i64 (IntKind.i64.wrap n):=by rfl
@[go_sem] theorem f1t(n:Int):cvI .u8 n = .int .u8 (IntKind.u8.wrap n):=by rfl
@[go_sem] theorem e61{h:FHeap}{s d:TypeId}{k:IntKind}{n:Int}(hs:isT E s=true):a6r E h s d (.int k n)=match d3z E d with|some k'=>some (cvI k' n)|none=>a6r E h s d (.int k n):=by
 cases hd:d3z E d with
 |none=>rfl
 |some k'=>have hu:=c3h hd;obtain⟨ds,nU⟩:=e7n.1 (show(E.und s).isSome=true from hs);simp only[a6r,hu,nU];cases ds<;>simp[d5f,hu,nU,cvI]
theorem w64{n:Int}(h1:-9223372036854775808≤n)(h2:n≤9223372036854775807):IntKind.i64.wrap n=n:=IntWalk.i64_in n ⟨h1,h2⟩
end
end Go.Ax
/- AxWp: what a statement comes to, by a condition on the end. -/
namespace Go.Ax
@[go_sem] theorem e35(F:Frm):a1o [] F=[]:=by rfl
@[go_sem] theorem e11(s:Nat)(r:List Nat)(F:Frm):a1o (s::r) F=(s,a33 F s)::a1o r F:=by rfl
@[go_sem] theorem a9a{v:AV}{H:a03}(h:refs v=[]):a1l false 0 v H=some (v,[]):=by simp only[a1l,a1h _ _ _ _ h,e9l,e7j,e9q]
@[go_sem] theorem e2q(v:AV):a7i [v]=v:=by rfl
@[go_sem] theorem e2p(v w:AV)(l:List AV):a7i (v::w::l) = .tuple (v::w::l):=by rfl
@[go_sem] theorem e65{E:Env}{F:Frm}{H:a03}:a17 E F H []=some []:=by rfl
@[go_sem] theorem e64{E:Env}{F:Frm}{H:a03}(t:Nat)(r:List ResultVar):a17 E F H (.tmp t::r)=a0g (a17 E F H r) λvs=>some (a33 F t::vs):=by simp only[a17];cases a17 E F H r<;>rfl
@[go_sem] theorem e4b{E:Env}{F:Frm}{H:a03}(a t:Nat)(r:List ResultVar):a17 E F H (.cell a t::r)=a0g (a60 E (a02 H) t (a33 F a)) λv=>a0g (a17 E F H r) λvs=>some (v::vs):=by simp only[a17];cases a60 E (a02 H) t (a33 F a)<;>cases a17 E F H r<;>rfl
abbrev b4l:=AExit→Frm→a03→Prop
def bk(id:Nat)(Q:b4l):b4l:=λe F H=>match e with|.exit i=>if i=id then Q .normal F H else Q (.exit i) F H|e=>Q e F H
def WpR:Code→Cx→Frm→a03→b4l→Prop
 |.skip,_,F,H,Q=>Q .normal F H
 |.label _,_,F,H,Q=>Q .normal F H
 |.exit id,_,F,H,Q=>Q (.exit id) F H
 |.ret,_,F,H,Q=>Q .ret F H
 |.seq a b,x,F,H,Q=>WpR a x F H λe F H=>match e with|.normal=>WpR b x F H Q|e=>Q e F H
 |.block id b,x,F,H,Q=>WpR b { x with cur:=id } F H (bk id Q)
 |.scope b,x,F,H,Q=>WpR b x F H Q
 |c,x,F,H,Q=>∃e F' H',Ev x c F H (e,F',H')∧Q e F' H'
def Wp(x:Cx)(c:Code)(F:Frm)(H:a03)(Q:b4l):Prop:=WpR c x F H Q
def sq(x:Cx)(b:Code)(Q:b4l):b4l:=λe F H=>match e with|.normal=>Wp x b F H Q|e=>Q e F H
def cx(E:Env)(M:List Fact)(m N:Nat)(g:FuncId)(cur:Nat):Cx:=⟨E,M,m,N,E.keep g,cur⟩
def lp{σ:Type}(m:Nat)(keep:List Nat)(Fs:σ→Frm)(Hs:σ→a03)(bD:σ→Nat)(Inv:σ→Prop)(n:Nat)(Q:b4l):b4l:=λe F H=>match e with|.normal=>∃s,gcD m keep F H=some (Fs s,Hs s)∧bD s<n∧Inv s|e=>Q e F H
def fq(E:Env)(g:FuncId)(m:Nat)(results:List ResultVar)(r:AV×a03):b4l:=λe F H=>match e with|.exit _=>False|_=>∃vs,a17 E F H results=some vs∧a1l (E.thaw g) m (a7i vs) H=some r
def lpJ(m:Nat)(keep:List Nat)(J:Nat→Frm→a03→Prop)(n:Nat)(Q:b4l):b4l:=λe F H=>match e with|.normal=>∃F1 H1 n',gcD m keep F H=some (F1,H1)∧n'<n∧J n' F1 H1|e=>Q e F H
@[irreducible] def d68:AV→Option Bool|.bool b=>some b|_=>none
@[go_sem] theorem f0c:d68 (.bool true)=some true:=by unfold d68;rfl
@[go_sem] theorem f0d:d68 (.bool false)=some false:=by unfold d68;rfl
theorem d8i{v:AV}{t:Bool}(h:d68 v=some t):v = .bool t:=by
 unfold d68 at h;split at h
 ·cases h;rfl
 ·cases h
def hs(E:Env)(M:List Fact)(N:Nat):Code→Frm→a03→Frm→a03→List LogE→Bool→Prop
 |.region id an ag,F,H,F1,H1,log,t=>(a8t E ag N (sem E M) an.toList an.toList [] F H,true)=(some (F1,H1,log),t)
 |.cond c a b,F,H,F1,H1,log,t=>(d68 (opv E F c),F,H,[])=(some t,F1,H1,log)
 |_,_,_,_,_,_,_=>False
def sd:Code→List LogE→Bool
 |.region id an ag,log=>!ag||logOk an.toList log.length log
 |_,_=>true
def ct(x:Cx):Code→Bool→Frm→a03→b4l→Prop
 |.region id an ag,t,F,H,Q=>Q .normal F H
 |.cond c a b,t,F,H,Q=>Wp x (bif t then a else b) F H Q
 |_,_,_,_,_=>False
@[go_sem] theorem f8o(E:Env)(M:List Fact)(N:Nat)(id an ag F H F1 H1 log t):hs E M N (.region id an ag) F H F1 H1 log t=((a8t E ag N (sem E M) an.toList an.toList [] F H,true)=(some (F1,H1,log),t)):=by rfl
@[go_sem] theorem f8p(E:Env)(M:List Fact)(N:Nat)(c a b F H F1 H1 log t):hs E M N (.cond c a b) F H F1 H1 log t=((d68 (opv E F c),F,H,[])=(some t,F1,H1,log)):=by rfl
theorem wx:(∀x id an ag t F H Q,ct x (.region id an ag) t F H Q=Q .normal F H)∧(∀x c a b F H Q,ct x (.cond c a b) true F H Q=Wp x a F H Q)∧(∀x c a b F H Q,ct x (.cond c a b) false F H Q=Wp x b F H Q):=⟨λ_ _ _ _ _ _ _ _=>rfl,λ_ _ _ _ _ _ _=>rfl,λ_ _ _ _ _ _ _=>rfl⟩
theorem ww:(∀x F H Q,Wp x .skip F H Q=Q .normal F H)∧(∀x F H Q l,Wp x (.label l) F H Q=Q .normal F H)∧(∀x F H Q i,Wp x (.exit i) F H Q=Q (.exit i) F H)∧(∀x F H Q,Wp x .ret F H Q=Q .ret F H)∧
 (∀x a b F H Q,Wp x (.seq a b) F H Q=Wp x a F H (sq x b Q))∧(∀E M m N g cur i b F H Q,Wp (cx E M m N g cur) (.block i b) F H Q=Wp (cx E M m N g i) b F H (bk i Q))∧(∀x b F H Q,Wp x (.scope b) F H Q=Wp x b F H Q)∧
 (∀x b F H Q,sq x b Q .normal F H=Wp x b F H Q)∧(∀x b F H Q i,sq x b Q (.exit i) F H=Q (.exit i) F H)∧(∀x b F H Q,sq x b Q .ret F H=Q .ret F H)∧
 (∀i F H Q,bk i Q .normal F H=Q .normal F H)∧(∀i F H Q,bk i Q .ret F H=Q .ret F H)∧(∀i F H Q,bk i Q (.exit i) F H=Q .normal F H)∧(∀i j F H Q,(j=i)=False→bk i Q (.exit j) F H=Q (.exit j) F H)∧
 (∀m keep J n Q i F H,lpJ m keep J n Q (.exit i) F H=Q (.exit i) F H)∧(∀m keep J n Q F H,lpJ m keep J n Q .ret F H=Q .ret F H)∧
 (∀(σ:Type) m keep (Fs:σ→Frm) Hs bD Inv n Q i F H,lp m keep Fs Hs bD Inv n Q (.exit i) F H=Q (.exit i) F H)∧(∀(σ:Type) m keep (Fs:σ→Frm) Hs bD Inv n Q F H,lp m keep Fs Hs bD Inv n Q .ret F H=Q .ret F H)∧
 (∀a b:Code,cond true a b=a)∧(∀a b:Code,cond false a b=b)∧
 (∀x id an ag t F H Q,ct x (.region id an ag) t F H Q=Q .normal F H)∧(∀x c a b F H Q,ct x (.cond c a b) true F H Q=Wp x a F H Q)∧(∀x c a b F H Q,ct x (.cond c a b) false F H Q=Wp x b F H Q):=
 ⟨λ_ _ _ _=>rfl,λ_ _ _ _ _=>rfl,λ_ _ _ _ _=>rfl,λ_ _ _ _=>rfl,λ_ _ _ _ _ _=>rfl,λ_ _ _ _ _ _ _ _ _ _ _=>rfl,λ_ _ _ _ _=>rfl,λ_ _ _ _ _=>rfl,λ_ _ _ _ _ _=>rfl,λ_ _ _ _ _=>rfl,
  λ_ _ _ _=>rfl,λ_ _ _ _=>rfl,λi F H Q=>by simp only[bk,e8j],λi j F H Q h=>by simp only[bk,h,f3w],λ_ _ _ _ _ _ _ _=>rfl,λ_ _ _ _ _ _ _=>rfl,λ_ _ _ _ _ _ _ _ _ _ _ _=>rfl,λ_ _ _ _ _ _ _ _ _ _ _=>rfl,λ_ _=>rfl,λ_ _=>rfl,wx⟩
theorem c6x:∀(c:Code) {x:Cx} {F:Frm} {H:a03} {Q:b4l},Wp x c F H Q→∃e F' H',Ev x c F H (e,F',H')∧Q e F' H':=by
 intro c
 induction c with
 |skip=>intro x F H Q h;exact⟨_,_,_,Ev.skip,h⟩
 |label l=>intro x F H Q h;exact⟨_,_,_,Ev.label,h⟩
 |exit i=>intro x F H Q h;exact⟨_,_,_,Ev.leave,h⟩
 |ret=>intro x F H Q h;exact⟨_,_,_,Ev.ret,h⟩
 |seq a b iha ihb=>
  intro x F H Q h;obtain⟨e,F',H',h1,h2⟩:=iha h;cases e with
  |normal=>obtain⟨e2,F2,H2,h3,h4⟩:=ihb h2;exact⟨e2,F2,H2,Ev.seq h1 h3,h4⟩
  |exit id=>exact⟨_,_,_,Ev.seq_exit h1,h2⟩
  |ret=>exact⟨_,_,_,Ev.seq_ret h1,h2⟩
 |block id b ih=>
  intro x F H Q h;obtain⟨e,F',H',h1,h2⟩:=ih h;cases e with
  |normal=>exact⟨_,_,_,Ev.block h1,h2⟩
  |exit i=>
   by_cases hi:i=id
   ·subst hi;simp only[bk,e8j]at h2;exact⟨_,_,_,Ev.block_exit h1,h2⟩
   ·simp only[bk,e8g hi]at h2;exact⟨_,_,_,Ev.block_on h1 (by simpa using hi),h2⟩
  |ret=>exact⟨_,_,_,Ev.block_ret h1,h2⟩
 |scope b ih=>intro x F H Q h;obtain⟨e,F',H',h1,h2⟩:=ih h;exact⟨e,F',H',Ev.scope h1,h2⟩
 |_=>intro x F H Q h;exact h
theorem c6w:∀{c:Code} {x:Cx} {F:Frm} {H:a03} {Q Q':b4l},Wp x c F H Q→(∀e F H,Q e F H→Q' e F H)→Wp x c F H Q':=by
 intro c
 induction c with
 |skip=>intro x F H Q Q' h hq;exact hq _ _ _ h
 |label l=>intro x F H Q Q' h hq;exact hq _ _ _ h
 |exit i=>intro x F H Q Q' h hq;exact hq _ _ _ h
 |ret=>intro x F H Q Q' h hq;exact hq _ _ _ h
 |seq a b iha ihb=>
  intro x F H Q Q' h hq;refine iha (Q:=sq x b Q) (Q':=sq x b Q') h ?_;intro e F H h;cases e with
  |normal=>exact ihb (x:=x) h hq
  |exit id=>exact hq _ _ _ h
  |ret=>exact hq _ _ _ h
 |block id b ih=>
  intro x F H Q Q' h hq;refine ih (Q:=bk id Q) (Q':=bk id Q') h ?_;intro e F H h;cases e with
  |normal=>exact hq _ _ _ h
  |exit i=>
   simp only[bk]at h⊢;split
   ·rename_i hi;rw[e8j hi]at h;exact hq _ _ _ h
   ·rename_i hi;rw[e8g hi]at h;exact hq _ _ _ h
  |ret=>exact hq _ _ _ h
 |scope b ih=>intro x F H Q Q' h hq;exact ih (x:=x) h hq
 |_=>intro x F H Q Q' h hq;obtain⟨e,F',H',h1,h2⟩:=h;exact⟨e,F',H',h1,hq _ _ _ h2⟩
section
variable {x:Cx}{F F1:Frm}{H H1:a03}{Q:b4l}
theorem xs{E:Env}{M:List Fact}{m N:Nat}{g:FuncId}{cur:Nat}{id an ag}{log:List LogE}(h:a8t E ag N (sem E M) an.toList an.toList [] F H=some (F1,H1,log))(hl:(!ag||logOk an.toList log.length log)=true)(hq:Q .normal F1 H1):Wp (cx E M m N g cur) (.region id an ag) F H Q:=⟨_,_,_,Ev.region h hl,hq⟩
theorem xI{E:Env}{M:List Fact}{m N:Nat}{g:FuncId}{cur:Nat}{c a b t}(hc:opv E F c = .bool t)(h:Wp (cx E M m N g cur) (bif t then a else b) F H Q):Wp (cx E M m N g cur) (.cond c a b) F H Q:=by
 cases t
 ·obtain⟨e,F',H',h1,h2⟩:=c6x _ h;exact⟨e,F',H',Ev.cond_f hc h1,h2⟩
 ·obtain⟨e,F',H',h1,h2⟩:=c6x _ h;exact⟨e,F',H',Ev.cond_t hc h1,h2⟩
theorem xT{a b}(h:Wp x a F H Q):Wp x (bif true then a else b) F H Q:=h
theorem xF{a b}(h:Wp x b F H Q):Wp x (bif false then a else b) F H Q:=h
theorem d5k{E:Env}{M:List Fact}{m N:Nat}{g:FuncId}{cur:Nat}{keep:List Nat}{b:Code}(hk:E.keep g cur=keep)(J:Nat→Frm→a03→Prop)(n0:Nat)(h0:∃F1 H1,gcD m keep F H=some (F1,H1)∧J n0 F1 H1)
 (h:∀n F1 H1,J n F1 H1→Wp (cx E M m N g cur) b F1 H1 (lpJ m keep J n Q)):∃r:AExit×Frm×a03,Q r.1 r.2.1 r.2.2∧EvL (cx E M m N g cur) b F H r:=by
 subst hk;have key:∀n F H F1 H1,gcD m (E.keep g cur) F H=some (F1,H1)→J n F1 H1→∃r:AExit×Frm×a03,Q r.1 r.2.1 r.2.2∧EvL (cx E M m N g cur) b F H r:=by
  intro n
  induction n using Nat.strongRecOn with
  |ind n ih=>
   intro F H F1 H1 hg hJ;obtain⟨e,F',H',h1,h2⟩:=c6x _ (h n F1 H1 hJ);cases e with
   |normal=>obtain⟨F2,H2,n',g1,g2,g3⟩:=h2;obtain⟨r,hr,hl⟩:=ih n' g2 F' H' F2 H2 g1 g3;exact⟨r,hr,EvL.again (x:=cx E M m N g cur) hg h1 hl⟩
   |exit id=>exact⟨(_,_,_),h2,EvL.leave (x:=cx E M m N g cur) hg h1 (λh=>by cases h)⟩
   |ret=>exact⟨(_,_,_),h2,EvL.leave (x:=cx E M m N g cur) hg h1 (λh=>by cases h)⟩
 obtain⟨F1,H1,hg,hJ⟩:=h0;exact key n0 F H F1 H1 hg hJ
theorem a3j{E:Env}{M:List Fact}{m N:Nat}{g:FuncId}{cur:Nat}{keep:List Nat}{b:Code}(hk:E.keep g cur=keep)(J:Nat→Frm→a03→Prop)(n0:Nat)(h0:∃F1 H1,gcD m keep F H=some (F1,H1)∧J n0 F1 H1)
 (h:∀n F1 H1,J n F1 H1→Wp (cx E M m N g cur) b F1 H1 (lpJ m keep J n Q))(hz:d03 keep=false:=by rfl)(hx:a6i b=none:=by rfl):Wp (cx E M m N g cur) (.loop b) F H Q:=by
 obtain⟨⟨e,F',H'⟩,hr,hl⟩:=d5k hk J n0 h0 h;exact⟨e,F',H',Ev.loop hx (by rw[←hk]at hz;exact hz) hl,hr⟩
def fz(m:Nat)(Q:b4l):b4l:=λe F H=>Q e (c23 m H F) (b3r m H)
theorem c0k{E:Env}{M:List Fact}{m N:Nat}{g:FuncId}{cur:Nat}{keep:List Nat}{b:Code}(hk:E.keep g cur=keep)(hz:d03 keep=true)(j:Nat)(hj:c5u keep=j)(J:Nat→Frm→a03→Prop)(n0:Nat)(h0:∃F1 H1,gcD m keep F H=some (F1,H1)∧J n0 F1 H1)
 (h:∀n F1 H1,J n F1 H1→Wp (cx E M m N g cur) b F1 H1 (lpJ m keep J n (fz (m+j) Q)))(hx:a6i b=none:=by rfl):Wp (cx E M m N g cur) (.loop b) F H Q:=by
 obtain⟨⟨e,F',H'⟩,hr,hl⟩:=d5k hk J n0 h0 h;subst hk;subst hj;exact⟨e,_,_,Ev.loopZ hx (x:=cx E M m N g cur) hz hl,hr⟩
theorem d5j{E:Env}{M:List Fact}{m N:Nat}{g:FuncId}{cur:Nat}{keep:List Nat}{b:Code}(hk:E.keep g cur=keep)(hz:d03 keep=true)(J:Nat→Frm→a03→Prop)(n0:Nat)(h0:∃F1 H1,gcD m keep F H=some (F1,H1)∧J n0 F1 H1)
 (h:∀n F1 H1,J n F1 H1→Wp (cx E M m N g cur) b F1 H1 (lpJ m keep J n (fz m Q)))(hx:a6i b=none:=by rfl)(hj:c5u keep=0:=by rfl):Wp (cx E M m N g cur) (.loop b) F H Q:=c0k hk hz 0 hj J n0 h0 h hx
theorem a0l{E:Env}{M:List Fact}{m N:Nat}{g:FuncId}{cur:Nat}{keep:List Nat}{b:Code}(hk:E.keep g cur=keep){σ:Type}(Fs:σ→Frm)(Hs:σ→a03)(bD:σ→Nat)(Inv:σ→Prop)(s0:σ)(h0:gcD m keep F H=some (Fs s0,Hs s0))(hi:Inv s0)
 (h:∀s,Inv s→Wp (cx E M m N g cur) b (Fs s) (Hs s) (lp m keep Fs Hs bD Inv (bD s) Q))(hz:d03 keep=false:=by rfl)(hx:a6i b=none:=by rfl):Wp (cx E M m N g cur) (.loop b) F H Q:=by
 refine a3j hk (λn F1 H1=>∃s,F1=Fs s∧H1=Hs s∧n=bD s∧Inv s) (bD s0) ⟨_,_,h0,s0,rfl,rfl,rfl,hi⟩ ?_ hz hx
 rintro n F1 H1 ⟨s,rfl,rfl,rfl,hs⟩
 refine c6w (h s hs) ?_;intro e F' H' h2;cases e with
 |normal=>obtain⟨s',g1,g2,g3⟩:=h2;exact⟨_,_,_,g1,g2,s',rfl,rfl,rfl,g3⟩
 |exit id=>exact h2
 |ret=>exact h2
theorem a2n{E:Env}{M:List Fact}{m N:Nat}{g:FuncId}{cur:Nat}{keep:List Nat}(hk:E.keep g cur=keep){b:Code}{σ:Type}(Fs:σ→Frm)(Hs:σ→a03)(bD:σ→Nat)(Inv:σ→Prop)(s0:σ)(h0:gcD m keep F H=some (Fs s0,Hs s0))(hi:Inv s0)
 (_:∀s,Inv s→gcD m keep (Fs s) (Hs s)=some (Fs s,Hs s))(h:∀s,Inv s→Wp (cx E M m N g cur) b (Fs s) (Hs s) (lp m keep Fs Hs bD Inv (bD s) Q))(hz:d03 keep=false:=by rfl)(hx:a6i b=none:=by rfl):Wp (cx E M m N g cur) (.loop b) F H Q:=a0l hk Fs Hs bD Inv s0 h0 hi h hz hx
theorem a0x{m:Nat}{keep:List Nat}{J:Nat→Frm→a03→Prop}{n:Nat}(n':Nat)(hn:n'<n)(h:∃F1 H1,gcD m keep F H=some (F1,H1)∧J n' F1 H1):lpJ m keep J n Q .normal F H:=by obtain⟨F1,H1,h1,h2⟩:=h;exact⟨F1,H1,n',h1,hn,h2⟩
theorem a25{σ:Type}{m:Nat}{keep:List Nat}{Fs:σ→Frm}{Hs:σ→a03}{bD:σ→Nat}{Inv:σ→Prop}{n:Nat}(s:σ)(h1:gcD m keep F H=some (Fs s,Hs s))(h2:bD s<n)(h3:Inv s):lp m keep Fs Hs bD Inv n Q .normal F H:=⟨s,h1,h2,h3⟩
theorem a6s{E:Env}{g:FuncId}{m:Nat}{results:List ResultVar}{r:AV×a03}{vs:List AV}(h1:a17 E F H results=some vs)(h2:a1l (E.thaw g) m (a7i vs) H=some r):fq E g m results r .ret F H:=⟨vs,h1,h2⟩
end
theorem e29{E:Env}{M:List Fact}{g:FuncId}{args:List AV}{H:a03}{code:Code}{N:Nat}{results:List ResultVar}{r:AV×a03}
 (bC:E.fn g=some ⟨code,N,results⟩)(cK:∀y∈M,y.g≠g)(hN:Nat.ble args.length N=true){m:Nat}(hm:H.length=m)(h:Wp (cx E M m N g 0) code (a4i 0 args) H (fq E g m results r))(hp:E.prim g args=none:=by rfl)(hz:E.zf g=false:=by rfl):sem E M g args H=some r:=by
 subst hm;obtain⟨e,F',H',h1,h2⟩:=c6x _ h;obtain⟨v,H2⟩:=r;cases e with
 |normal=>obtain⟨vs,h3,h4⟩:=h2;exact c2y bC cK hN h1 (λ_ h=>by cases h) h3 h4 hp hz
 |ret=>obtain⟨vs,h3,h4⟩:=h2;exact c2y bC cK hN h1 (λ_ h=>by cases h) h3 h4 hp hz
 |exit id=>exact h2.elim
theorem xa{E:Env}{M:List Fact}{m N:Nat}{g:FuncId}{cur:Nat}{c:Code}{F F1:Frm}{H H1:a03}{log:List LogE}{t:Bool}{Q:b4l}(h:hs E M N c F H F1 H1 log t)(hl:sd c log=true)(k:ct (cx E M m N g cur) c t F1 H1 Q):Wp (cx E M m N g cur) c F H Q:=by
 cases c with
 |region id an ag=>exact xs (congrArg Prod.fst h) hl k
 |cond c a b=>have h1:opv E F c = .bool t:=d8i (congrArg Prod.fst h);have h2:(F,H,([]:List LogE))=(F1,H1,log):=congrArg Prod.snd h;cases h2;exact xI h1 k
 |_=>exact k.elim
theorem gS:(∀a b:Code,(some a).getD b=a)∧(∀l:List ResultVar,(List.toArray l).toList=l):=⟨λ_ _=>rfl,λ_=>rfl⟩
def AExit.fin:AExit→Bool
 |.exit _=>false
 |_=>true
@[go_sem] theorem f4i:AExit.ret.fin=true:=by rfl
theorem fqb{E:Env}{g:FuncId}{m:Nat}{results:List ResultVar}{r:AV×a03}{e:AExit}{F:Frm}{H:a03}(h:(bif e.fin then a0g (a17 E F H results) λvs=>a1l (E.thaw g) m (a7i vs) H else none)=some r):fq E g m results r e F H:=by
 cases ha:a17 E F H results with
 |none=>rw[ha]at h;cases e<;>cases h
 |some vs=>
  rw[ha]at h;cases e with
  |exit i=>cases h
  |_=>exact⟨vs,ha,h⟩
theorem sv{E:Env}{M:List Fact}{g:FuncId}{args:List AV}{H:a03}{r:AV×a03}(f:Func)(h:Wp (cx E M H.length f.ntmps g 0) (f.body.getD .skip) (a4i 0 args) H (fq E g H.length f.results.toList r))(bC:E.fn g=some ⟨f.body.getD .skip,f.ntmps,f.results.toList⟩:=by kernel_rfl)
 (cK:(M.all λy=>!Nat.beq y.g g)=true:=by rfl)(hN:Nat.ble args.length f.ntmps=true:=by rfl)(hp:E.prim g args=none:=by rfl)(hz:E.zf g=false:=by rfl):sem E M g args H=some r:=e29 bC (λy hy e=>by
 have:=e9r.1 cK y hy;rw[e]at this;simp at this) hN rfl h hp hz
end Go.Ax
/- AxTyp: d72 abstract values, taken apart. -/
namespace Go.Ax
section
variable {E:Env}{n:Nat}{t e:TypeId}{aP:List AV}
theorem a7o{α:Type}{f:α→List AV}{P:α→Prop}(hs:slT E t=some e)(he:∀r,Typ E n e r→∃x,P x∧r=f x)(h:Typ E (n+1) t aP) :
 ∃(c:Option (Option Nat)) (l:List α),aP=[sl c (l.map f)]∧l.length≤maxLen∧∀x∈l,P x:=by
 simp only[Typ,a43.1 hs]at h;rcases h with rfl|⟨aa,cap,rfl,h1,h2,h3⟩
 ·exact⟨none,[],rfl,by simp,by simp⟩
 ·have key:∀aa:List (List AV),(∀r∈aa,r.length=E.sz e∧Typ E n e r)→∃l:List α,aa=l.map f∧∀x∈l,P x:=by
   intro aa
   induction aa with
   |nil=>intro _;exact⟨[],rfl,by simp⟩
   |cons r rs ih=>
    intro hh;obtain⟨x,hx,rfl⟩:=he r (hh r (by simp)).2;obtain⟨l,rfl,hl⟩:=ih (λr hr=>hh r (by simp[hr]));refine⟨x::l,rfl,?_⟩;intro y hy;simp only[e9m]at hy;rcases hy with rfl|hy
    ·exact hx
    ·exact hl y hy
  obtain⟨l,rfl,hl⟩:=key aa h3;exact⟨some (some cap),l,by rw[a68],by simpa using Nat.le_trans h1 h2,hl⟩
theorem d73{k:IntKind}(hk:d3z E t=some k)(h:Typ E (n+1) t aP):∃i,aP=[.int k i]∧(Lit.int k i).wf=true:=by simpa only[Typ,c3h hk]using h
theorem a42(hk:d3z E t=some .u8)(h:Typ E (n+1) t aP):∃i:Nat,aP=[.int .u8 i]∧i<256:=by
 obtain⟨i,h1,h2⟩:=d73 hk h;simp only[Lit.wf,e7h,e9j]at h2;have e1:IntKind.u8.min=0:=by rfl
 have e2:IntKind.u8.max=255:=by rfl
 rw[e1,e2]at h2;exact⟨i.toNat,by rw[h1,Int.toNat_of_nonneg h2.1],by omega⟩
theorem b6u(hb:E.und t=some .bool)(h:Typ E (n+1) t aP):∃b,aP=[.bool b]:=by simpa only[Typ,hb]using h
def b0u(E:Env)(t:TypeId):Option (List TypeId):=match E.und t with|some (.struct fs)=>some (fs.toList.map (·.type))|_=>none
def c4e(E:Env)(n:Nat):List TypeId→List AV→Prop
 | [],aP=>aP=[]
 |t::ts,aP=>∃p r,aP=p++r∧Typ E n t p∧c4e E n ts r
theorem a8c{ts:List TypeId}(hf:b0u E t=some ts)(h:Typ E (n+1) t aP):c4e E n ts aP:=by
 unfold b0u at hf;split at hf
 case h_2=>cases hf
 rename_i fs hu;cases hf;simp only[Typ,hu]at h;obtain⟨ap,rfl,h1,h2⟩:=h;have key:∀(fs:List Field) (ap:List (List AV)),ap.length=fs.length→(∀(i:Nat) f p,fs[i]?=some f→ap[i]?=some p→p.length=E.sz f.type∧Typ E n f.type p)→c4e E n (fs.map (·.type)) ap.flatten:=by
  intro fs
  induction fs with
  |nil=>intro ap hl _;have:=f2w.1 hl;subst this;rfl
  |cons f fs ih=>
   intro ap hl hh;cases ap with
   |nil=>simp at hl
   |cons p ap=>exact⟨p,ap.flatten,by simp,(hh 0 f p rfl rfl).2,ih ap (by simpa using hl) (λi f p hf hp=>hh (i+1) f p (by simpa using hf) (by simpa using hp))⟩
 exact key fs.toList ap h1 h2
theorem b2g{m:Nat}(hf:c49 E t=some (m,e))(h:Typ E (n+1) t aP):c4e E n (List.replicate m e) aP:=by
 unfold c49 at hf;split at hf
 case h_2=>cases hf
 rename_i m' e' hu;cases hf;simp only[Typ,hu]at h;obtain⟨ap,rfl,h1,h2⟩:=h;subst h1;clear hu
 induction ap with
 |nil=>rfl
 |cons p ap ih=>simp only[e7g,f2b];exact⟨p,ap.flatten,by simp,(h2 p (by simp)).2,ih (λq hq=>h2 q (by simp[hq]))⟩
theorem typA_one{a:AV}(hg:a5w E t=some false)(h:d6r E n t a):Typ E n t [a]:=by
 unfold d6r at h;unfold a5w at hg;cases hu:E.und t with
 |none=>rw[hu]at h;exact h.elim
 |some d=>rw[hu]at h hg;simp only[e8d,Option.some.injEq]at hg;simpa[hg]using h
theorem c2t{a:AV}(hg:a5w E t=some true)(h:d6r E n t a):∃aP,a = .agg aP∧Typ E n t aP:=by
 unfold d6r at h;unfold a5w at hg;cases hu:E.und t with
 |none=>rw[hu]at h;exact h.elim
 |some d=>rw[hu]at h hg;simp only[e8d,Option.some.injEq]at hg;simpa[hg]using h
end
end Go.Ax
/- AxHeap: calls on, and loops over, heaps of a few known blocks: what is reached, renamed and put back, ar rewrite rules. -/
namespace Go.Ax
@[go_sem] theorem e0t(H:a03)(n:Nat)(aJ:List Nat):a1t H n [] aJ=aJ.reverse:=by cases n<;>rfl
theorem c54(H:a03)(n:Nat)(b:Nat)(todo aJ:List Nat):a1t H (n+1) (b::todo) aJ=bif a0s aJ b then a1t H n todo aJ else a1t H n (a0y (a02 H b)++todo) (b::aJ):=by rfl
@[go_sem] theorem e0u{n:Nat}(hn:(0<n)=True)(H:a03)(b:Nat)(todo aJ:List Nat):a1t H n (b::todo) aJ=bif a0s aJ b then a1t H (n-1) todo aJ else a1t H (n-1) (a0y (a02 H b)++todo) (b::aJ):=by
 obtain⟨m,rfl⟩:∃m,n=m+1:=⟨n-1,by have:=f1m hn;omega⟩
 exact c54 H m b todo aJ
@[go_sem] theorem d4m(x:Nat):a0s [] x=false:=by rfl
@[go_sem] theorem d1r(a:Nat)(r:List Nat)(x:Nat):a0s (a::r) x=bif decide (a=x)then true else a0s r x:=by simp only[a0s,d1q,c46]
@[go_sem] theorem e0x:a51 []=true:=by rfl
@[go_sem] theorem c1g(a:Nat)(r:List Nat):a51 (a::r)=(!(a0s r a)&&a51 r):=by rfl
@[go_sem] theorem e2m(k:Nat)(aa:List (List AV)):a0y (some (.row k aa))=aa.flatMap a0d:=by rfl
@[go_sem] theorem e2n(ks vs:List AV)(bs:List Nat)(c:Nat):a0y (some (.map ks vs bs c))=a0d ks++a0d vs:=by rfl
@[go_sem] theorem e7z(b:Nat):List.idxOf? b []=none:=by rfl
@[go_sem] theorem e5l(a:Nat)(l:List Nat)(b:Nat):List.idxOf? b (a::l)=bif decide (a=b)then some 0 else(List.idxOf? b l).map (·+ 1):=by rw[f1b,c46];cases decide (a=b)<;>rfl
@[go_sem] theorem e7o(σ:List Nat)(b:Nat):a8o σ b=σ.idxOf? b:=by rfl
@[go_sem] theorem e43(σ:List Nat)(n j:Nat):a18 σ n j=bif decide (j<σ.length)then σ[j]? else some (n+(j-σ.length)):=by simp only[a18,c6t]
@[go_sem] theorem e0n(H:a03)(π:Nat→Option Nat):a4z H [] π=[]:=by rfl
@[go_sem] theorem d7d(H:a03)(b:Nat)(σ:List Nat)(π:Nat→Option Nat):a4z H (b::σ) π=(a02 H b).map (a0e π)::a4z H σ π:=by rfl
@[go_sem] theorem d60(σ:List Nat)(n:Nat)(H1:a03)(b:Nat):a13 σ n H1 b []=[]:=by rfl
def c37(σ:List Nat)(n:Nat)(H1:a03)(o:Option AObj):Option Nat→Option AObj
 |some j=>(a02 H1 j).map (a0e (a18 σ n))
 |none=>o
@[go_sem] theorem d7t(σ:List Nat)(n:Nat)(H1:a03)(o:Option AObj)(j:Nat):c37 σ n H1 o (some j)=(a02 H1 j).map (a0e (a18 σ n)):=by rfl
@[go_sem] theorem d7u(σ:List Nat)(n:Nat)(H1:a03)(o:Option AObj):c37 σ n H1 o none=o:=by rfl
@[go_sem] theorem b93(σ:List Nat)(n:Nat)(H1:a03)(b:Nat)(o:Option AObj)(r:a03):a13 σ n H1 b (o::r)=c37 σ n H1 o (σ.idxOf? b)::a13 σ n H1 (b+1) r:=by simp only[a13];cases σ.idxOf? b<;>rfl
@[go_sem] theorem e0r(π:Nat→Option Nat)(k:Nat)(aa:List (List AV)):a0e π (.row k aa) = .row k (aa.map λr=>r.map (ren π)):=by rfl
@[go_sem] theorem e0s(π:Nat→Option Nat)(ks vs:List AV)(bs:List Nat)(c:Nat):a0e π (.map ks vs bs c) = .map (ks.map (ren π)) (vs.map (ren π)) bs c:=by rfl
/- renaming a value -/
section
variable (π:Nat→Option Nat)
def e2h(f:Nat→AV):Option Nat→AV|some b=>f b|none=>.junk
@[go_sem] theorem e2f(f:Nat→AV)(b:Nat):e2h f (some b)=f b:=by rfl
@[go_sem] theorem e2g(f:Nat→AV):e2h f none = .junk:=by rfl
@[go_sem] theorem e7e(b i o:Nat):ren π (.ptr b i o)=e2h (λb=>.ptr b i o) (π b):=by simp only[ren];cases π b<;>rfl
@[go_sem] theorem e2e(b i o:Nat)(c:Option Nat):ren π (.slice b i o c)=e2h (λb=>.slice b i o c) (π b):=by simp only[ren];cases π b<;>rfl
@[go_sem] theorem e7f(b:Nat):ren π (.map b)=e2h (λb=>.map b) (π b):=by simp only[ren];cases π b<;>rfl
@[go_sem] theorem c7y(k:IntKind)(n:Int):ren π (.int k n) = .int k n:=by rfl
@[go_sem] theorem e55(b:Bool):ren π (.bool b) = .bool b:=by rfl
@[go_sem] theorem e7d(s:List UInt8):ren π (.str s) = .str s:=by rfl
@[go_sem] theorem e0q(r:List (List AV))(c:Option Nat):ren π (.islice r c) = .islice r c:=by rfl
@[go_sem] theorem e54(r:List AV):ren π (.iptr r) = .iptr r:=by rfl
@[go_sem] theorem a7r:ren π .nilslice = .nilslice:=by rfl
@[go_sem] theorem e53:ren π .junk = .junk:=by rfl
@[go_sem] theorem c1c(l:List AV):ren π (.agg l) = .agg (l.map (ren π)):=by simp only[ren,a7s]
@[go_sem] theorem d2o(f:Fn)(a b:List AV):ren π (.func f a b) = .func f (a.map (ren π)) (b.map (ren π)):=by simp only[ren,a7s]
@[go_sem] theorem e56:b5h π []=[]:=by rfl
@[go_sem] theorem c7z(s:Nat)(v:AV)(r:Frm):b5h π ((s,v)::r)=(s,ren π v)::b5h π r:=by rfl
end
@[go_sem] theorem c9w(m:Nat)(σ:List Nat)(b:Nat):b4u m σ b=bif decide (b<m)then some b else(σ.idxOf? b).map (m + ·):=by simp only[b4u,c6t]
theorem a01{m:Nat}{keep:List Nat}{F:Frm}{H:a03}:gcD m keep F H=bif a51 (a8q m (a1o keep F) H)&&(a8q m (a1o keep F) H).all (λb=>decide (m≤b))&&decide (m≤H.length)then
 some (b5h (b4u m (a8q m (a1o keep F) H)) (a1o keep F),gcH m (a8q m (a1o keep F) H) H)else none:=by
 have e:(λb=>Nat.ble m b)=λb=>decide (m≤b):=funext λb=>d1t m b;simp only[gcD,e,d1t]
theorem a00(m:Nat)(F:Frm)(H:a03):a8q m F H=(a1t H 1000000 ((H.take m).flatMap a0y++a0d (F.map (·.2))) []).filter λb=>decide (m≤b):=by have e:(λb=>Nat.ble m b)=λb=>decide (m≤b):=funext λb=>d1t m b;simp only[a8q,a35,e]
@[go_sem] theorem d6a(m:Nat)(σ:List Nat)(H:a03):gcH m σ H=(H.take m).map (Option.map (a0e (b4u m σ)))++a4z H σ (b4u m σ):=by rfl
@[go_sem] theorem e8o{α:Type}(p:α→Bool)(a:α)(l:List α):(a::l).filter p=bif p a then a::l.filter p else l.filter p:=by rw[List.filter_cons];cases p a<;>rfl
attribute [go_sem] List.reverse_cons List.reverse_nil List.filter_nil List.flatMap_cons List.flatMap_nil
theorem a1r(run:List AV→a03→Option (AV×a03))(args:List AV)(H:a03){σ:List Nat}(hσ:a1t H 1000000 (a0d args) []=σ)(hn:a51 σ=true)(hl:(σ.all λb=>decide (b<H.length))=true)
 {au:List AV}(ha:args.map (ren (a8o σ))=au){H0:a03}(hH:a4z H σ (a8o σ)=H0){v:AV}{H1:a03}(hr:run au H0=some (v,H1)) :
 a2f run args H=some (ren (a18 σ H.length) v,a13 σ H.length H1 0 H++(H1.drop σ.length).map (Option.map (a0e (a18 σ H.length))),σ):=by
 have e:(λb=>Nat.blt b H.length)=λb=>decide (b<H.length):=funext λb=>c6t b H.length;unfold a2f;simp only[a35,hσ,hn,e,hl,f1e,e9i,ha,hH,hr]
theorem a7a{E:Env}{ag:Bool}{call:CallF}{g:FuncId}{fs cs ar args:List AV}{H:a03}(hx:E.ext g=false)(hf:(E.fn g).isSome=true)(he:fs++ar++cs=args){v:AV}{H':a03}{σ:List Nat}
 (h:a2f (call g) args H=some (v,H',σ))(hl:H'.length=H.length):a0a E ag call (.func (.func g) fs cs) ar H=some (v,H',σ):=by
 have hb:Nat.ble H.length H.length=true:=by rw[f1h];exact e9k _
 simp only[a0a,hx,hf,he,e9i,e9q,h,hl,hb,f2n,Bool.and_false]
theorem a85{E:Env}{call:CallF}{g:FuncId}{fs cs ar args:List AV}{H:a03}(hx:E.ext g=false)(hf:(E.fn g).isSome=true)(he:fs++ar++cs=args){v:AV}{H':a03}{σ:List Nat}
 (h:a2f (call g) args H=some (v,H',σ)):a0a E false call (.func (.func g) fs cs) ar H=some (v,H',σ):=by
 simp only[a0a,hx,hf,he,e9i,e9q,h,Bool.false_and]
/- freezing -/
@[go_sem] theorem d84{α β:Type}(a:α)(f:α→β)(d:β):d63 (some a) f d=f a:=by rfl
@[go_sem] theorem d0a{m:Nat}{v:AV}{H:a03}:a1l false m v H=d63 (a3e m true (a4e (a02 H) m 12) v) (λv'=>some (v',(H.take m).map (Option.map (a0e (a1e m))))) (some (v,H)):=by simp only[a1l,e9q];cases a3e m true (a4e (a02 H) m 12) v<;>rfl
section
variable {m:Nat}{top:Bool}{d:AV→Option AV}{h:FHeap}{n:Nat}
@[go_sem] theorem e86(k:IntKind)(i:Int):a3e m top d (.int k i)=some (.int k i):=by rfl
@[go_sem] theorem e5q(b:Bool):a3e m top d (.bool b)=some (.bool b):=by rfl
@[go_sem] theorem e84(s:List UInt8):a3e m top d (.str s)=some (.str s):=by rfl
@[go_sem] theorem e17(r:List (List AV))(c:Option Nat):a3e m top d (.islice r c)=some (.islice r c):=by rfl
@[go_sem] theorem d6c:a3e m top d .nilslice=some .nilslice:=by rfl
@[go_sem] theorem f0g(c:Option (Option Nat))(aa:List (List AV)):a3e m top d (sl c aa)=some (sl c aa):=a1h m top d _ (a1b c aa)
@[go_sem] theorem e88(l:List AV):a3e m top d (.agg l)=a0g (a54 m top d l) λl=>some (.agg l):=by simp only[a3e];cases a54 m top d l<;>rfl
@[go_sem] theorem e3k(l:List AV):a3e m top d (.tuple l)=a0g (a54 m top d l) λl=>some (.tuple l):=by simp only[a3e];cases a54 m top d l<;>rfl
@[go_sem] theorem e5p(f:Fn)(a b:List AV):a3e m top d (.func f a b)=a0g (a54 m top d a) λa=>a0g (a54 m top d b) λb=>some (.func f a b):=by simp only[a3e];cases a54 m top d a<;>cases a54 m top d b<;>rfl
@[go_sem] theorem b7o:a54 m top d []=some []:=by rfl
@[go_sem] theorem a3m(v:AV)(l:List AV):a54 m top d (v::l)=a0g (a3e m top d v) λv=>a0g (a54 m top d l) λl=>some (v::l):=by simp only[a54];cases a3e m top d v<;>cases a54 m top d l<;>rfl
@[go_sem] theorem a5s(b o l:Nat)(c:Option Nat):a3e m top d (.slice b o l c)=bif decide (b<m)then(bif top then some (.slice b o l c)else none)else d (.slice b o l c):=by simp only[a3e,d6d,c6t]
@[go_sem] theorem e85(b o l:Nat):a3e m top d (.ptr b o l)=bif decide (b<m)then(bif top then some (.ptr b o l)else none)else d (.ptr b o l):=by simp only[a3e,d6d,c6t]
@[go_sem] theorem a4p(hn:(0<n)=True)(b o l:Nat)(c:Option Nat):a4e h m n (.slice b o l c)=a0g (a95 (h b)) λkr=>bif decide (o+l≤kr.2.length)then a0g (a8v m (a4e h m (n-1)) ((kr.2.drop o).take l)) λrs=>some (.islice rs c)else none:=by
 obtain⟨n,rfl⟩:∃k,n=k+1:=⟨n-1,by have:=f1m hn;omega⟩
 simp only[a4e,Nat.add_sub_cancel];cases hb:h b with
 |none=>simp only[hb];rfl
 |some ob=>cases ob<;>simp only[hb,a95,a0g,d1t];rename_i kk aa;cases a8v m (a4e h m n) ((aa.drop o).take l)<;>rfl
@[go_sem] theorem e5t(hn:(0<n)=True)(b i o:Nat):a4e h m n (.ptr b i o)=a0g (a95 (h b)) λkr=>a0g (kr.2[i]?) λr=>a0g (a54 m false (a4e h m (n-1)) (r.drop o)) λcs=>some (.iptr cs):=by
 obtain⟨n,rfl⟩:∃k,n=k+1:=⟨n-1,by have:=f1m hn;omega⟩
 simp only[a4e,Nat.add_sub_cancel];cases hb:h b with
 |none=>simp only[hb];rfl
 |some ob=>
  cases ob<;>simp only[hb,a95,a0g];rename_i kk aa;cases aa[i]? with
  |none=>rfl
  |some r=>simp only;cases a54 m false (a4e h m n) (r.drop o)<;>rfl
theorem c3r:a8v m d []=some []:=by rfl
theorem b3q(r:List AV)(rs:List (List AV)):a8v m d (r::rs)=a0g (a54 m false d r) λr=>a0g (a8v m d rs) λrs=>some (r::rs):=by simp only[a8v];cases a54 m false d r<;>cases a8v m d rs<;>rfl
theorem a4o(a b:List (List AV)):a8v m d (a++b)=a0g (a8v m d a) λa=>a0g (a8v m d b) λb=>some (a++b):=by
 induction a with
 |nil=>simp only[e7l,c3r,a0g];cases a8v m d b<;>rfl
 |cons x a ih=>
  simp only[e9h,b3q,ih];cases a54 m false d x with
  |none=>rfl
  |some x=>simp only[a0g];cases a8v m d a<;>cases a8v m d b<;>rfl
attribute [go_sem] c3r b3q
end
/-! ### append -/
section
variable {E:Env}{h:FHeap}{n:Nat}
@[go_sem] theorem d9s(k b o l:Nat)(c:Option Nat):a24 h k (.slice b o l c)=a0g (a95 (h b)) λkr=>bif decide (kr.1=k)&&decide (o+l≤kr.2.length)then some ((kr.2.drop o).take l)else none:=by
 simp only[a24];cases hb:h b with
 |none=>simp only[hb];rfl
 |some ob=>cases ob<;>simp only[hb,a95,a0g,c46,d1t]
@[go_sem] theorem b1k(k:Nat)(aa:List (List AV))(c:Option Nat):a24 h k (.islice aa c)=bif aa.all (λr=>decide (r.length=k))then some aa else none:=by simp only[a24,c46]
@[go_sem] theorem e63(k:Nat)(aa:List (List AV))(c:Option (Option Nat)):a24 h k (sl c aa)=bif aa.all (λr=>decide (r.length=k))then some aa else none:=by
 cases c with
 |some c=>rw[a68];exact b1k k aa c
 |none=>cases aa with
  |nil=>rfl
  |cons a r=>exact b1k k _ none
def apT(E:Env)(st xt:TypeId):Option TypeId:=match E.und st,E.und xt with
 |some (.slice e),some dx=>bif a2m dx || !(E.zero e).isSome || !(Nat.blt 0 (E.sz e))then none else some e
 |_,_=>none
def apS(E:Env)(h:FHeap)(n:Nat)(ac:TypeId)(xs:List (List AV)):AV→Option (AV×Eff)
 |.nilslice=>match xs with
  | []=>some (.nilslice,.none)
  |y::ys=>bif a28 E ac (y::ys).length then some (.slice n 0 (y::ys).length none,.new (.row (E.sz ac) (y::ys)))else none
 |.islice aa cap=>bif aa.all (λr=>r.length==E.sz ac)then match xs with
  | []=>some (.islice aa cap,.none)
  |y::ys=>match cap with
   |some c=>bif Nat.blt c (aa.length+(y::ys).length)&&a28 E ac (aa.length+(y::ys).length)then
    some (.slice n 0 (aa.length+(y::ys).length) none,.new (.row (E.sz ac) (aa++(y::ys))))else none
   |none=>none
  else none
 |.slice b off len cap=>match h b with
  |some (.row kk aa)=>bif kk==E.sz ac&&Nat.ble (off+len) aa.length then
   match cap with
   |none=>bif a28 E ac (len+xs.length)&&xs.all (λr=>r.all AV.storable)then
    some (.slice n 0 (len+xs.length) none,.kill b (.row (E.sz ac) (bif Nat.beq (off+len) aa.length then aa.drop off++xs else(aa.drop off).take len++xs)))else none
   |some c=>bif Nat.ble (len+xs.length) c then
    bif Nat.ble (off+len+xs.length) aa.length&&xs.all (λr=>r.all AV.storable)then
     some (.slice b off (len+xs.length) (some c),.set b (.row (E.sz ac) (aa.take (off+len)++xs++aa.drop (off+len+xs.length))))else none
    else bif a28 E ac (len+xs.length)then
     some (.slice n 0 (len+xs.length) none,.new (.row (E.sz ac) ((aa.drop off).take len++xs)))else none
   else none
  |_=>none
 |_=>none
@[go_sem] theorem e4g(st xt:TypeId)(s x:AV):a4h E h n st xt s x=a0g (apT E st xt) λe=>a0g (a24 h (E.sz e) x) λxs=>apS E h n e xs s:=by
 unfold a4h apT;cases E.und st with
 |none=>rfl
 |some d=>cases E.und xt with
  |none=>cases d<;>rfl
  |some dx=>
   cases d<;>try rfl
   rename_i e;simp only;cases(a2m dx || !(E.zero e).isSome || !(Nat.blt 0 (E.sz e)))with
   |true=>rfl
   |false=>
    simp only[e9q,a0g];cases a24 h (E.sz e) x with
    |none=>rfl
    |some xs=>cases s<;>rfl
@[go_sem] theorem e8z(e:TypeId)(y:List AV)(ys:List (List AV)):apS E h n e (y::ys) .nilslice=bif a28 E e (y::ys).length then some (.slice n 0 (y::ys).length none,.new (.row (E.sz e) (y::ys)))else none:=by rfl
@[go_sem] theorem e66(e:TypeId):apS E h n e [] .nilslice=some (.nilslice,.none):=by rfl
@[go_sem] theorem e67(e:TypeId)(xs:List (List AV))(b o l:Nat):apS E h n e xs (.slice b o l none)=a0g (a95 (h b)) λkr=>
 bif decide (kr.1=E.sz e)then(bif decide (o+l=kr.2.length)then(bif a28 E e (l+xs.length)&&xs.all (λr=>r.all AV.storable)then some (.slice n 0 (l+xs.length) none,.kill b (.row (E.sz e) (kr.2.drop o++xs)))else none)
  else(bif decide (o+l≤kr.2.length)&&a28 E e (l+xs.length)&&xs.all (λr=>r.all AV.storable)then some (.slice n 0 (l+xs.length) none,.kill b (.row (E.sz e) ((kr.2.drop o).take l++xs)))else none))else none:=by
 simp only[apS];cases hb:h b with
 |none=>simp only[hb];rfl
 |some ob=>
  cases ob<;>simp only[hb,a95,a0g,c46,d1t];rename_i kk aa;have e1:Nat.beq (o+l) aa.length=decide (o+l=aa.length):=by rw[d1q,c46]
  rw[e1];by_cases h1:o+l=aa.length
  ·rw[e9w h1,e9w (by omega:o+l≤aa.length)];cases decide (kk=E.sz e)<;>rfl
  ·rw[f2q h1];cases decide (kk=E.sz e)<;>cases decide (o+l≤aa.length)<;>rfl
@[go_sem] theorem e4c(e:TypeId)(xs:List (List AV))(b o l c:Nat):apS E h n e xs (.slice b o l (some c))=a0g (a95 (h b)) λkr=>
 bif decide (kr.1=E.sz e)&&decide (o+l≤kr.2.length)then(bif decide (l+xs.length≤c)then
  (bif decide (o+l+xs.length≤kr.2.length)&&xs.all (λr=>r.all AV.storable)then some (.slice b o (l+xs.length) (some c),.set b (.row (E.sz e) (kr.2.take (o+l)++xs++kr.2.drop (o+l+xs.length))))else none)
  else(bif a28 E e (l+xs.length)then some (.slice n 0 (l+xs.length) none,.new (.row (E.sz e) ((kr.2.drop o).take l++xs)))else none))else none:=by
 simp only[apS];cases hb:h b with
 |none=>simp only[hb];rfl
 |some ob=>cases ob<;>simp only[hb,a95,a0g,c46,d1t]
theorem a69{e:TypeId}{k:Nat}(hk:k≤1000000000)(hb:E.bytes e≤1000):a28 E e k=true:=by
 unfold a28;rw[e9w (by omega),f1q,e9j]
 calc E.bytes e*(2*k+192)≤1000*(2*1000000000+192):=Nat.mul_le_mul hb (by omega)
  _≤281474976710656:=by decide
end
/- The length of a block's rows, by hand. -/
@[go_sem] theorem e4q(a b:Nat):(a:Int).tmod (b:Int)=((a%b:Nat):Int):=by rfl
@[go_sem] theorem e95(a:Nat):(a:Int).tmod 2=((a%2:Nat):Int):=by rfl
@[go_sem] theorem e94(a:Nat):(a:Int).tmod 3=((a%3:Nat):Int):=by rfl
@[go_sem] theorem e93(a:Nat):(a:Int).tmod 4=((a%4:Nat):Int):=by rfl
@[go_sem] theorem e92(a:Nat):(a:Int).tmod 9=((a%9:Nat):Int):=by rfl
@[go_sem] theorem e71(a:Nat):(a:Int).tmod 10=((a%10:Nat):Int):=by rfl
@[go_sem] theorem e72(a:Nat):(a:Int).tdiv 10=((a/10:Nat):Int):=by rfl
@[go_sem] theorem e70(a:Nat):(a:Int).tmod 13=((a%13:Nat):Int):=by rfl
theorem wI{n:Nat}(h:n<9223372036854775808):IntKind.i64.wrap (n:Int)=n:=w64 (by omega) (by omega)
theorem wB{n:Nat}(h:n<256):IntKind.u8.wrap (n:Int)=n:=IntWalk.u8_in _ ⟨by omega,by omega⟩
theorem wI1{n:Nat}(h:n<9223372036854775807):IntKind.i64.wrap ((n:Int)+1)=((n+1:Nat):Int):=by rw[w64 (by omega) (by omega)];rfl
theorem b5n(m b:Nat):a1e m b=bif decide (b<m)then some b else none:=by simp only[a1e,c6t]
attribute [go_sem] b5n
/-! ### bytes to a string -/
def byT(E:Env)(s d:TypeId):Bool:=match E.und s,E.und d with
 |some (.slice e),some .string=>match E.und e with|some (.int .u8)=>true|_=>false
 |_,_=>false
section
variable {E:Env}{h:FHeap}{s d:TypeId}
theorem c62{x:AV}(hb:byT E s d=true)(hx:∀t,x≠ .str t):a6r E h s d x=a0g (a24 h 1 x) λaa=>a0g (a5a aa) λl=>some (.str l):=by
 unfold byT at hb;cases hs:E.und s with
 |none=>rw[hs]at hb;cases hb
 |some ds=>
  cases hd:E.und d with
  |none=>rw[hs,hd]at hb;cases ds<;>cases hb
  |some dd=>
   rw[hs,hd]at hb;cases ds<;>first|(cases hb;done)|skip
   rename_i e;cases dd<;>first|(cases hb;done)|skip
   simp only at hb;cases he:E.und e with
   |none=>rw[he]at hb;cases hb
   |some de=>
    rw[he]at hb;cases de<;>first|(cases hb;done)|skip
    rename_i k;cases k<;>first|(cases hb;done)|skip
    unfold a6r;simp only[hs,hd,he];cases x<;>first|(exact absurd rfl (hx _))|skip
    all_goals
     simp only[a0g];cases a24 h 1 _ with
     |none=>rfl
     |some aa=>simp only;cases a5a aa<;>rfl
@[go_sem] theorem d9g{b o l:Nat}{c:Option Nat}(hb:byT E s d=true):a6r E h s d (.slice b o l c)=a0g (a24 h 1 (.slice b o l c)) λaa=>a0g (a5a aa) λl=>some (.str l):=c62 hb (λ_ h=>by cases h)
@[go_sem] theorem e1n:a5a []=some []:=by rfl
@[go_sem] theorem e08(n:Int)(r:List (List AV)):a5a ([.int .u8 n]::r)=a0g (a5a r) λl=>some (UInt8.ofNat n.toNat::l):=by simp only[a5a];cases a5a r<;>rfl
end
@[go_sem] theorem e5v{r:List AV}{n:Nat}(h:a0d r=[]):(List.replicate n r).flatMap a0d=[]:=a08 (FlatR.replicate h)
attribute [go_sem] List.length_replicate List.map_replicate List.length_append List.flatMap_append List.map_append
/-! ### calls that only read -/
def FlatO(o:Option AObj):Prop:=∀π,o.map (a0e π)=o
theorem FlatO.row{k:Nat}{aa:List (List AV)}(h:FlatR aa):FlatO (some (.row k aa)):=λπ=>by simp only[e8d,a0e,a05 π h]
theorem d1n(f:Nat→Option AObj)(σ:List Nat)(j:Nat):a02 (σ.map f) j=(σ[j]?).bind f:=by simp only[a02,e8a];cases σ[j]?<;>simp
theorem b19{σ:List Nat}{n:Nat}{H:a03}(hf:∀b∈σ,FlatO (a02 H b)):∀(b:Nat) (H2:a03),(∀i,H2[i]?=H[b+i]?)→a13 σ n (σ.map (a02 H)) b H2=H2
 |_,[],_=>rfl
 |b,o::r,hh=>by
  have ih:=b19 hf (n:=n) (b+1) r (λi=>by
   have:=hh (i+1);rw[f00]at this;rw[this]
   congr 1
   omega)
  simp only[a13,ih]
  congr 1
  cases hx:σ.idxOf? b with
  |none=>rfl
  |some j=>simp only;have hj:=a29 hx;have hm:b∈σ:=c11 hj;rw[d1n,hj];simp only[f1l];rw[hf b hm _];have h0:=hh 0;simp only[f0k,f3y]at h0;simp[a02,←h0]
theorem c6c{E:Env}{ag:Bool}{call:CallF}{g:FuncId}{fs cs ar args:List AV}{H:a03}{v:AV}(σ:List Nat)(hx:E.ext g=false)(hf:(E.fn g).isSome=true)(he:fs++ar++cs=args)
 (hσ:a1t H 1000000 (a0d args) []=σ)(hn:a51 σ=true)(hl:(σ.all λb=>decide (b<H.length))=true)(bY:∀b∈σ,FlatO (a02 H b))
 {au:List AV}(ha:args.map (ren (a8o σ))=au){H0:a03}(hH:σ.map (a02 H)=H0)(hr:call g au H0=some (v,H0))(hv:refs v=[]) :
 a0a E ag call (.func (.func g) fs cs) ar H=some (v,H,σ):=by
 have hs:a4z H σ (a8o σ)=H0:=by rw[←hH];unfold a4z;exact f0i λb hb=>bY b hb _
 have hc:=a1r (call g) args H hσ hn hl ha hs hr;have e1:ren (a18 σ H.length) v=v:=a0w _ v hv;have e2:a13 σ H.length H0 0 H=H:=by rw[←hH];exact b19 bY 0 H (λi=>by rw[e9y])
 have e3:H0.drop σ.length=[]:=by rw[←hH];simp
 rw[e1,e2,e3,e7j,e7i]at hc;exact a7a hx hf he hc rfl
end Go.Ax
/- AxMore: facts that all say 'true'; loops over any states; what a heap's values a1t. -/
namespace Go.Ax
/-! ### what is reached -/
theorem b8p{f:Nat→Nat}:∀{L:List Nat} {b:Nat},b∈L→(L.map f).sum=f b+((L.erase b).map f).sum
 | [],b,h=>by simp at h
 |a::L,b,h=>by
  by_cases bB:a=b
  ·subst bB;simp
  ·have hb:b∈L:=by simpa[f2x bB]using h
   rw[List.erase_cons_tail (by simpa using bB)];simp only[e12,List.sum_cons,b8p hb];omega
structure Reached(H:a03)(e8 σ:List Nat):Prop where
 nodup:σ.Nodup
 start:∀b∈e8,b∈σ
 closed:∀b∈σ,∀c∈a0y (a02 H b),c∈σ
 least:∀T:Nat→Prop,(∀b∈e8,T b)→(∀b,T b→∀c∈a0y (a02 H b),T c)→∀b∈σ,T b
theorem b75(H:a03):∀(n:Nat) (todo aJ L:List Nat),aJ.Nodup→(∀b∈aJ,∀c∈a0y (a02 H b),c∈aJ∨c∈todo)→(∀b∈todo,b∈aJ∨b∈L)→(∀b∈L,∀c∈a0y (a02 H b),c∈aJ∨c∈L)→
 todo.length+(L.map λb=>(a0y (a02 H b)).length).sum<n→
 (a1t H n todo aJ).Nodup∧(∀b∈aJ,b∈a1t H n todo aJ)∧(∀b∈todo,b∈a1t H n todo aJ)∧(∀b∈a1t H n todo aJ,∀c∈a0y (a02 H b),c∈a1t H n todo aJ)∧
 ∀T:Nat→Prop,(∀b∈aJ,T b)→(∀b∈todo,T b)→(∀b,T b→∀c∈a0y (a02 H b),T c)→∀b∈a1t H n todo aJ,T b
 |0,todo,aJ,L,_,_,_,_,hn=>by omega
 |n+1,[],aJ,L,h1,h2,h3,h4,hn=>by
  unfold a1t;refine⟨List.pairwise_reverse.2 (h1.imp λh=>f2x h),by simp,by simp,?_,?_⟩
  ·intro b hb c hc;rcases h2 b (by simpa using hb) c hc with h|h
   ·simpa using h
   ·simp at h
  ·intro T t1 t2 t3 b hb;exact t1 b (by simpa using hb)
 |n+1,b::todo,aJ,L,h1,h2,h3,h4,hn=>by
  unfold a1t;cases hc:a0s aJ b with
  |true=>
   have hb:b∈aJ:=a1u.1 hc;simp only[e9i];obtain⟨r1,r2,r3,r4,r5⟩:=b75 H n todo aJ L h1 (λx hx c dK=>by
    rcases h2 x hx c dK with h|h
    ·exact .inl h
    ·simp only[e9m]at h;rcases h with rfl|h
     ·exact .inl hb
     ·exact .inr h) (λx hx=>h3 x (by simp[hx])) h4 (by simp only[e7g]at hn;omega)
   refine⟨r1,r2,?_,r4,?_⟩
   ·intro x hx;simp only[e9m]at hx;rcases hx with rfl|hx
    ·exact r2 _ hb
    ·exact r3 x hx
   ·intro T t1 t2 t3;exact r5 T t1 (λx hx=>t2 x (by simp[hx])) t3
  |false=>
   have hb:b∉aJ:=λh=>by rw[a1u.2 h]at hc;cases hc
   simp only[e9q];have sk:b∈L:=(h3 b (by simp)).resolve_left hb;have hs:=b8p (f:=λb=>(a0y (a02 H b)).length) sk;obtain⟨r1,r2,r3,r4,r5⟩:=b75 H n (a0y (a02 H b)++todo) (b::aJ) (L.erase b) (f2c.2 ⟨hb,h1⟩) (λx hx c dK=>by
    simp only[e9m]at hx⊢;rcases hx with rfl|hx
    ·exact .inr (by simp[dK])
    ·rcases h2 x hx c dK with h|h
     ·exact .inl (.inr h)
     ·simp only[e9m]at h;rcases h with rfl|h
      ·exact .inl (.inl rfl)
      ·exact .inr (by simp[h])) (λx hx=>by
    have go:x∈aJ∨x∈L:=by
     rw[e9s]at hx;rcases hx with hx|hx
     ·exact h4 b sk x hx
     ·exact h3 x (by simp[hx])
    by_cases jH:x=b
    ·exact .inl (by simp[jH])
    ·rcases go with h|h
     ·exact .inl (by simp[h])
     ·exact .inr ((List.mem_erase_of_ne jH).2 h)) (λx hx c dK=>by
    have:=h4 x (List.mem_of_mem_erase hx) c dK;by_cases jH:c=b
    ·exact .inl (by simp[jH])
    ·rcases this with h|h
     ·exact .inl (by simp[h])
     ·exact .inr ((List.mem_erase_of_ne jH).2 h)) (by
    simp only[e7g]at hn;rw[hs]at hn;simp only[e8i];omega)
   refine⟨r1,λx hx=>r2 x (by simp[hx]),?_,r4,?_⟩
   ·intro x hx;simp only[e9m]at hx;rcases hx with rfl|hx
    ·exact r2 _ (by simp)
    ·exact r3 x (by simp[hx])
   ·intro T t1 t2 t3;refine r5 T ?_ ?_ t3
    ·intro x hx;simp only[e9m]at hx;rcases hx with rfl|hx
     ·exact t2 _ (by simp)
     ·exact t1 x hx
    ·intro x hx;rw[e9s]at hx;rcases hx with hx|hx
     ·exact t3 b (t2 b (by simp)) x hx
     ·exact t2 x (by simp[hx])
theorem c53{H:a03}{e8:List Nat}(S:List Nat)(h1:∀b∈e8,b∈S)(h2:∀b∈S,∀c∈a0y (a02 H b),c∈S)
 (hn:e8.length+(S.map λb=>(a0y (a02 H b)).length).sum<1000000):Reached H e8 (a1t H 1000000 e8 []):=by
 obtain⟨r1,_,r3,r4,r5⟩:=b75 H 1000000 e8 [] S List.nodup_nil (λb hb=>by simp at hb) (λb hb=>.inr (h1 b hb)) (λb hb c hc=>.inr (h2 b hb c hc)) hn;exact⟨r1,r3,r4,λT t1 t2=>r5 T (λb hb=>by simp at hb) t1 t2⟩
theorem b30:∀{l:List Nat},l.Nodup→a51 l=true
 | [],_=>rfl
 |a::l,h=>by
  rw[f2c]at h;have hc:a0s l a=false:=by
   cases hc:a0s l a with
   |false=>rfl
   |true=>exact absurd (a1u.1 hc) h.1
  rw[c1g,hc,b30 h.2];rfl
structure Gc(m:Nat)(F:Frm)(H:a03)(R:Nat→Prop)(π:Nat→Option Nat)(H1:a03):Prop where
 low:∀b,b<m→π b=some b
 inj:∀a b c,π a=some c→π b=some c→a=b
 refs:∀b∈a0d (F.map (·.2)),R b
 lows:∀b,b<m→∀c∈a0y (a02 H b),R c
 closed:∀b,R b→∀c∈a0y (a02 H b),R c
 least:∀T:Nat→Prop,(∀b∈a0d (F.map (·.2)),T b)→(∀b,b<m→∀c∈a0y (a02 H b),T c)→(∀b,T b→∀c∈a0y (a02 H b),T c)→∀b,R b→T b
 here:∀b,R b→∃c,π b=some c
 heap:∀b c,π b=some c→a02 H1 c=(a02 H b).map (a0e π)
 len:∀T:List Nat,(∀b,R b→m≤b→b∈T)→H1.length≤m+T.length
theorem b7d{m:Nat}{H:a03}{c:Nat}:c∈(H.take m).flatMap a0y↔∃b,b<m∧c∈a0y (a02 H b):=by
 simp only[f3d];constructor
 ·rintro⟨o,ho,hc⟩
  obtain⟨b,hb⟩:=f1k.1 ho;rw[f0v]at hb;split at hb
  case isFalse=>cases hb
  rename_i aj;refine⟨b,aj,?_⟩;simp only[a02,hb,f2f];exact hc
 ·rintro⟨b,aj,hc⟩
  cases hb:H[b]? with
  |none=>simp[a02,hb,a0y]at hc
  |some o=>refine⟨o,f1k.2 ⟨b,by rw[f0v,e8j aj,hb]⟩,?_⟩;simpa[a02,hb]using hc
theorem b3e:∀{l T:List Nat},l.Nodup→(∀b∈l,b∈T)→l.length≤T.length
 | [],_,_,_=>by simp
 |a::l,T,aU,bc=>by rw[f2c]at aU;have ha:a∈T:=bc a (by simp);have:=b3e (l:=l) (T:=T.erase a) aU.2 (λb hb=>(List.mem_erase_of_ne (λe=>aU.1 (by rw[←e];exact hb))).2 (bc b (by simp[hb])));rw[List.length_erase_of_mem ha]at this;have:0<T.length:=List.length_pos_of_mem ha;simp only[e7g];omega
theorem c9v{m:Nat}{keep:List Nat}{F:Frm}{H:a03}(hm:m≤H.length)(S:List Nat)(h1:∀b∈a0d ((a1o keep F).map (·.2)),b∈S)(h2:∀b,b<m→∀c∈a0y (a02 H b),c∈S)(h3:∀b∈S,∀c∈a0y (a02 H b),c∈S)
 (hn:((H.take m).flatMap a0y).length+(a0d ((a1o keep F).map (·.2))).length+(S.map λb=>(a0y (a02 H b)).length).sum<1000000) :
 ∃(R:Nat→Prop) (π:Nat→Option Nat) (H1:a03),gcD m keep F H=some (b5h π (a1o keep F),H1)∧Gc m (a1o keep F) H R π H1∧m≤H1.length:=by
 have hr:=c53 (H:=H) (e8:=(H.take m).flatMap a0y++a0d ((a1o keep F).map (·.2))) S (λb hb=>by
  rw[e9s]at hb;rcases hb with hb|hb
  ·obtain⟨a,ha,hc⟩:=b7d.1 hb;exact h2 a ha b hc
  ·exact h1 b hb) h3 (by rw[e8i];exact hn)
 generalize hρ:a1t H 1000000 ((H.take m).flatMap a0y++a0d ((a1o keep F).map (·.2))) []=ρ at hr;have hσ:a8q m (a1o keep F) H=ρ.filter λb=>decide (m≤b):=by rw[a00,hρ]
 have aU:(ρ.filter λb=>decide (m≤b)).Nodup:=hr.nodup.filter _;have dm:∀b,b∈(ρ.filter λb=>decide (m≤b))↔b∈ρ∧m≤b:=λb=>by rw[f3a];simp
 have dl:(H.take m).length=m:=by simp;omega
 have al:(gcH m (ρ.filter λb=>decide (m≤b)) H).length=m+(ρ.filter λb=>decide (m≤b)).length:=by rw[d6a];simp[a4z];omega
 refine⟨(·∈ρ),b4u m (ρ.filter λb=>decide (m≤b)),gcH m (ρ.filter λb=>decide (m≤b)) H,?_,?_,by rw[al];omega⟩
 ·rw[a01,hσ,b30 aU,e9w hm];have:(ρ.filter λb=>decide (m≤b)).all (λb=>decide (m≤b))=true:=by
   rw[e9r];intro b hb;simpa using((dm b).1 hb).2
  rw[this];rfl
 ·have hπ:∀b,b4u m (ρ.filter λb=>decide (m≤b)) b=if b<m then some b else((ρ.filter λb=>decide (m≤b)).idxOf? b).map (m + ·):=by
   intro b;rw[c9w];by_cases h:b<m<;>simp[h]
  refine⟨λb hb=>by rw[hπ,e8j hb],?_,λb hb=>hr.start b (by simp[hb]),λb hb c hc=>hr.start c (by rw[e9s];exact .inl (b7d.2 ⟨b,hb,hc⟩)),λb hb c hc=>hr.closed b hb c hc,?_,?_,?_,?_⟩
  ·intro a b c ha hb;rw[hπ]at ha hb;split at ha<;>split at hb
   ·cases ha;cases hb;rfl
   ·cases ha;obtain⟨j,hj,e⟩:=a07 hb;omega
   ·cases hb;obtain⟨j,hj,e⟩:=a07 ha;omega
   ·obtain⟨i,hi,e1⟩:=a07 ha;obtain⟨j,hj,e2⟩:=a07 hb;have g1:=a29 hi;have g2:=a29 hj;obtain rfl:i=j:=by omega
    rw[g1]at g2;exact z9o g2
  ·intro T t1 t2 t3 b hb;refine hr.least T (λx hx=>?_) t3 b hb;rw[e9s]at hx;rcases hx with hx|hx
   ·obtain⟨a,ha,hc⟩:=b7d.1 hx;exact t2 a ha x hc
   ·exact t1 x hx
  ·intro b hb;rw[hπ];split
   ·exact⟨_,rfl⟩
   ·rename_i h;have tP:=(dm b).2 ⟨hb,by omega⟩;obtain⟨j,hj⟩:=f1k.1 tP;rw[a7z aU hj];exact⟨_,rfl⟩
  ·intro b c qD;have j3:=qD;rw[hπ]at j3;rw[d6a];split at j3
   ·rename_i h;cases j3;simp only[a02];rw[e8f (by simp;omega),e8a,f0v,e8j h];cases H[b]? with
    |none=>rfl
    |some o=>rfl
   ·rename_i h;obtain⟨j,hj,rfl⟩:=a07 j3;have hg:=a29 hj;simp only[a02];rw[e8h (by simp only[c10,dl];omega)];simp only[c10,dl,f2l,a4z,e8a,hg,e8d,f2f];rfl
  ·intro T hT;rw[al];have:(ρ.filter λb=>decide (m≤b)).length≤T.length:=by
    have bc:∀b∈(ρ.filter λb=>decide (m≤b)),b∈T:=λb hb=>hT b ((dm b).1 hb).1 ((dm b).1 hb).2;exact b3e aU bc
   omega
end Go.Ax
/- AxSup: closed runs over facts of calls, a3r a given fact. -/
namespace Go.Ax
def a1j(E:Env)(x:Fact):Prop:=sem E [] x.g x.args []=some (x.v,[])
theorem c2z{E:Env}{g:FuncId}{args:List AV}{v:AV}:∀{M:List Fact},(∀x∈M,a1j E x)→e2b M g args=some v→sem E [] g args []=some (v,[])
 | [],_,h=>by simp[e2b]at h
 |x::r,hM,h=>by
  simp only[e2b,cond_eq_ite]at h;split at h
  ·rename_i hc;simp only[e7h,f4h]at hc;cases h;have:=hM x (by simp);obtain⟨g',a',v'⟩:=x;simp only at hc this;have h1:=hc.1;have h2:=b6d _ _ hc.2;subst h1;subst h2;exact this
  ·exact c2z (λx hx=>hM x (by simp[hx])) h
theorem b2n{E:Env}{c:CallF}(hc:CallF.le c (sem E []))(lf:Nat):CallF.le (b1o E c lf) (sem E []):=λg args H r h=>c7r (λ_ h=>by cases h) lf (b0g hc (e9k lf) h)
theorem b37{E:Env}{M:List Fact}(hM:∀x∈M,a1j E x):∀n,CallF.le (c8r E M n) (sem E [])
 |0=>λg args H r h=>by simp[c8r]at h
 |n+1=>λg args H r h=>by
  have h:e7u M (b1o E (c8r E M n) (n+1)) g args H=some r:=h;unfold e7u at h;split at h
  ·split at h
   ·rename_i v hs;cases h;exact c2z hM hs
   ·exact b2n (b37 hM n) _ _ _ _ _ h
  ·exact b2n (b37 hM n) _ _ _ _ _ h
theorem a0o{E:Env}{M:List Fact}(hM:∀x∈M,a1j E x)(n:Nat){g:Nat}{args:List AV}{v:AV}(h:b1o E (c8r E M n) n g args []=some (v,[])):a1j E ⟨g,args,v⟩:=b2n (b37 hM n) n _ _ _ _ h
theorem a0m{E:Env}:∀x∈([]:List Fact),a1j E x:=by simp
theorem a11{E:Env}{x:Fact}{M:List Fact}(hx:a1j E x)(hM:∀x∈M,a1j E x):∀y∈x::M,a1j E y:=by
 intro y hy;simp only[e9m]at hy;rcases hy with rfl|hy
 ·exact hx
 ·exact hM y hy
end Go.Ax
/- AxGrow: grown slices; calls that read one block. -/
namespace Go.Ax
def grV(b:Nat):List (List AV)→AV|[]=>.nilslice|_::rs=>.slice b 0 (rs.length+1) none
def grH(k:Nat):List (List AV)→a03|[]=>[]|r::rs=>[some (.row k (r::rs))]
theorem a0p(b:Nat):grV b [] = .nilslice:=by rfl
theorem a0q(k:Nat):grH k []=[]:=by rfl
theorem a09(b:Nat)(r:List AV)(rs:List (List AV)):grV b (r::rs) = .slice b 0 (rs.length+1) none:=by rfl
theorem a0b(k:Nat)(r:List AV)(rs:List (List AV)):grH k (r::rs)=[some (.row k (r::rs))]:=by rfl
theorem c3m(b:Nat)(l:List (List AV))(x:List AV):grV b (l++[x]) = .slice b 0 (l.length+1) none:=by cases l<;>simp[grV]
theorem d42(k:Nat)(l:List (List AV))(x:List AV):grH k (l++[x])=[some (.row k (l++[x]))]:=by cases l<;>simp[grH]
theorem a7e(b:Nat){l:List (List AV)}(h:l≠[]):grV b l = .slice b 0 l.length none:=by cases l with|nil=>exact absurd rfl h|cons a r=>rfl
theorem a7f(k:Nat){l:List (List AV)}(h:l≠[]):grH k l=[some (.row k l)]:=by cases l with|nil=>exact absurd rfl h|cons a r=>rfl
theorem b90{H:a03}{b:Nat}(hr:a0y (a02 H b)=[]):a1t H 1000000 [b] []=[b]:=by
 have e1:∀n,a1t H (n+2) [b] []=[b]:=by intro n;unfold a1t;simp only[a0s,e9q,hr,e7i];unfold a1t;rfl
 exact e1 999998
theorem a2v{E:Env}{ag:Bool}{call:CallF}{g:FuncId}{fs cs ar args:List AV}{H:a03}{v:AV}{b:Nat}{o:AObj}(hx:E.ext g=false)(hf:(E.fn g).isSome=true)(he:fs++ar++cs=args)
 (hb:a02 H b=some o)(ho:a0y (some o)=[])(bY:FlatO (some o))(aD:a0d args=[b]){au:List AV}(ha:args.map (ren (a8o [b]))=au)(hr:call g au [some o]=some (v,[some o]))(hv:refs v=[]) :
 a0a E ag call (.func (.func g) fs cs) ar H=some (v,H,[b]):=by
 have aj:b<H.length:=by
  unfold a02 at hb;cases hh:H[b]? with
  |none=>rw[hh]at hb;cases hb
  |some x=>exact(e7k.1 hh).1
 refine c6c [b] hx hf he (by rw[aD];exact b90 (by rw[hb];exact ho)) rfl (by simpa using aj) ?_ ha (by simp only[e12,e7j,hb]) hr hv;intro c hc;simp only[e8k]at hc;subst hc;rw[hb];exact bY
theorem a0k{k:Nat}{aa:List (List AV)}(h:FlatR aa):a0y (some (.row k aa))=[]:=by simp only[a0y];exact a08 h
theorem a1a{H:a03}{b:Nat}{o:AObj}(hb:a02 H b=some o):b<H.length:=by
 unfold a02 at hb;cases hh:H[b]? with
 |none=>rw[hh]at hb;cases hb
 |some x=>exact(e7k.1 hh).1
theorem a6u{H:a03}{b:Nat}{o:AObj}(hb:a02 H b=some o):H.set b (some o)=H:=by have aj:=a1a hb;unfold a02 at hb;rw[z9e aj]at hb;simp only[f2f]at hb;rw[←hb];exact List.set_getElem_self aj
theorem b2t(b n:Nat)(o:Option AObj)(ho:∀π,o.map (a0e π)=o):∀(s:Nat) (H:a03),s≤b→a13 [b] n [o] s H=H.set (b-s) o
 |s,[],_=>by simp[a13]
 |s,x::H,hs=>by
  simp only[a13];by_cases lk:s=b
  ·subst lk;have e:([s]:List Nat).idxOf? s=some 0:=by simp[f1b]
   have cJ:∀(t:Nat) (H:a03),s<t→a13 [s] n [o] t H=H:=by
    intro t H
    induction H generalizing t with
    |nil=>intro _;rfl
    |cons y H ih=>
     intro ht;have e2:([s]:List Nat).idxOf? t=none:=by simp[f1b];omega
     simp only[a13,e2,ih (t+1) (by omega)]
   simp only[e,cJ (s+1) H (by omega),Nat.sub_self,List.set_cons_zero]
   congr 1
   exact ho _
  ·have e:([b]:List Nat).idxOf? s=none:=by simp[f1b];omega
   have e2:b-s=(b-(s+1))+1:=by omega
   rw[e2,List.set_cons_succ];simp only[e,b2t b n o ho (s+1) H (by omega)]
theorem a2y{E:Env}{ag:Bool}{call:CallF}{g:FuncId}{fs cs ar args:List AV}{H:a03}{v v':AV}{b:Nat}{o o':AObj}(hx:E.ext g=false)(hf:(E.fn g).isSome=true)(he:fs++ar++cs=args)
 (hb:a02 H b=some o)(ho:a0y (some o)=[])(bY:FlatO (some o))(aD:a0d args=[b]){au:List AV}(ha:args.map (ren (a8o [b]))=au)(hr:call g au [some o]=some (v,[some o']))(qk:FlatO (some o'))(hv:ren (a18 [b] H.length) v=v') :
 a0a E ag call (.func (.func g) fs cs) ar H=some (v',H.set b (some o'),[b]):=by
 have aj:=a1a hb;have hc:=a1r (call g) args H (σ:=[b]) (by rw[aD];exact b90 (by rw[hb];exact ho)) rfl (by simpa using aj) ha (H0:=[some o]) (by simp only[a4z,e12,e7j,hb];congr 1;exact bY _) hr;rw[hv,b2t b _ _ qk 0 H (e8e _)]at hc;simp only[Nat.sub_zero,List.drop_succ_cons,f0u,e7j,e7i,e7g,e8c]at hc;exact a7a hx hf he hc (by simp)
theorem a1p(b o l:Nat)(c:Option Nat):ren (a8o [b]) (.slice b o l c) = .slice 0 o l c:=by simp[ren,a8o]
theorem a4r(b o n l:Nat)(c:Option Nat):ren (a18 [b] n) (.slice 0 o l c) = .slice b o l c:=by rfl
/-! ### slices of slices -/
def inB(i:Int)(n:Nat):Bool:=decide (0≤i)&&decide (i≤(n:Int))
@[go_sem] theorem e7y(a n:Nat):inB (a:Int) n=decide (a≤n):=by unfold inB;rw[e9w (by omega),f1q,f4a,e9j,e9j];omega
@[go_sem] theorem f4g(n:Nat):inB 0 n=true:=by simp[inB]
theorem b8d{k:IntKind}{i:Int}{n d:Nat}:a19 (some (.int k i)) n d=bif inB i n then some i.toNat else none:=by rfl
attribute [go_sem] Option.map_some Option.map_none
section
variable {E:Env}{h:FHeap}{t:TypeId}
theorem b84{x:AV}{lo hi mx:Option AV}(hs:slT E t=none)(hx:∀s,x≠ .str s):a59 E h t x lo hi mx=none:=by
 unfold a59;unfold slT at hs;cases hu:E.und t with
 |none=>rfl
 |some d=>rw[hu]at hs;cases d<;>first|(cases hs;done)|(cases x<;>first|rfl|exact absurd rfl (hx _))
@[go_sem] theorem d9r{k k':IntKind}{i j:Int}:a59 E h t .nilslice none (some (.int k i)) (some (.int k' j))=a0g (slT E t) λe=>bif isT E e&&inB j 0&&inB i j.toNat then some .nilslice else none:=by
 cases hs:slT E t with
 |none=>exact b84 hs (λ_ h=>by cases h)
 |some e=>simp only[a59,a43.1 hs,a0g,b8d,isT];cases(E.und e).isSome<;>cases inB j 0<;>first|rfl|(simp only[e9i,f1q];cases inB i j.toNat<;>rfl)
@[go_sem] theorem e1h{b o n:Nat}{c:Option Nat}{k k':IntKind}{i j:Int}:a59 E h t (.slice b o n c) none (some (.int k i)) (some (.int k' j))=a0g (slT E t) λe=>a0g (a95 (h b)) λkr=>bif isT E e&&decide (kr.1=E.sz e)&&inB j (a1i n c)&&inB i j.toNat then some (.slice b o i.toNat (some j.toNat))else none:=by
 cases hs:slT E t with
 |none=>exact b84 hs (λ_ h=>by cases h)
 |some e=>
  simp only[a59,a43.1 hs,a0g,b8d,isT];cases hb:h b with
  |none=>cases(E.und e).isSome<;>rfl
  |some ob=>cases ob with
   |map=>cases(E.und e).isSome<;>rfl
   |siter=>cases(E.und e).isSome<;>rfl
   |uset=>cases(E.und e).isSome<;>rfl
   |miter=>cases(E.und e).isSome<;>rfl
   |yloop=>cases(E.und e).isSome<;>rfl
   |row kk aa=>simp only[a95,c46];cases(E.und e).isSome<;>cases decide (kk=E.sz e)<;>cases inB j (a1i n c)<;>first|rfl|(simp only[e9i,f1q];cases inB i j.toNat<;>rfl)
@[go_sem] theorem e1g{b o n:Nat}{c:Option Nat}{k:IntKind}{j:Int}:a59 E h t (.slice b o n c) none (some (.int k j)) none=a0g (slT E t) λe=>a0g (a95 (h b)) λkr=>bif isT E e&&decide (kr.1=E.sz e)&&inB j (a1i n c)then some (.slice b o j.toNat c)else none:=by
 cases hs:slT E t with
 |none=>exact b84 hs (λ_ h=>by cases h)
 |some e=>
  have hc:c.map (λx=>x-0)=c:=by cases c<;>rfl
  simp only[a59,a43.1 hs,a0g,b8d,isT];cases hb:h b with
  |none=>cases(E.und e).isSome<;>rfl
  |some ob=>cases ob with
   |map=>cases(E.und e).isSome<;>rfl
   |siter=>cases(E.und e).isSome<;>rfl
   |uset=>cases(E.und e).isSome<;>rfl
   |miter=>cases(E.und e).isSome<;>rfl
   |yloop=>cases(E.und e).isSome<;>rfl
   |row kk aa=>simp only[a95,c46];have e0:∀m,a19 (none:Option AV) m 0=some 0:=λ_=>rfl;cases(E.und e).isSome<;>cases decide (kk=E.sz e)<;>cases inB j (a1i n c)<;>first|rfl|(simp only[e9i,f1q,e0,hc];rfl)
end
attribute [go_sem] Nat.le_refl Int.toNat_natCast
@[go_sem] theorem b8o{α β:Type}(f:α→β)(l:List α):(l.map f).take l.length=l.map f:=by rw[←c10 (f:=f),f0p]
attribute [go_sem] List.take_length
@[go_sem] theorem d0u(n c:Nat):a1i n (some c)=c:=by rfl
@[go_sem] theorem d0v(n:Nat):a1i n none=n:=by rfl
end Go.Ax
/- AxMelt: calls over flat arguments that return a pointer to a block of their own. -/
namespace Go.Ax
theorem c6e{E:Env}{call:CallF}{g:FuncId}{fs cs ar args:List AV}{H:a03}{k:Nat}{aa:List (List AV)}(hx:E.ext g=false)(hf:(E.fn g).isSome=true)(he:fs++ar++cs=args)(aD:a0d args=[])(hr:call g args []=some (.ptr 0 0 0,[some (.row k aa)]))(bY:FlatR aa) :
 a0a E false call (.func (.func g) fs cs) ar H=some (.ptr H.length 0 0,H++[some (.row k aa)],[]):=by
 have hc:=a1r (call g) args H (σ:=[]) (by rw[aD];rfl) rfl rfl (au:=args) (a2t _ aD) (H0:=[]) rfl hr;have hp:∀(s:Nat) (H:a03),a13 [] H.length [some (AObj.row k aa)] s H=H:=by
  intro s H;have:∀(n s:Nat) (H:a03),a13 [] n [some (AObj.row k aa)] s H=H:=by
   intro n s H
   induction H generalizing s with
   |nil=>rfl
   |cons x H ih=>simp[a13,ih]
  exact this _ _ _
 rw[hp]at hc;have h1:=λπ=>a05 π bY;have hb:ren (a18 [] H.length) (.ptr 0 0 0) = .ptr H.length 0 0:=rfl;rw[hb]at hc;simp only[e8c,f0u,e12,e7j,e8d,a0e,h1]at hc;exact a85 hx hf he hc
@[go_sem] theorem d99{v:AV}{H:a03}:a1l true 0 v H=d8d 0 v H:=by rfl
theorem c5y{m:Nat}(hm:(m=0)=False){v:AV}{H:a03}:a1l true m v H=some (v,H):=by
 cases m with
 |zero=>simp at hm
 |succ n=>rfl
attribute [go_sem] c5y
@[go_sem] theorem e5e{m b i o:Nat}{H:a03}:d8d m (.ptr b i o) H=bif decide (m≤b)then a0g (a95 (a02 H b)) λkr=>a0g (frzT m (a4e (a3r (a02 H) b) m 12) kr.2) λbe=>some (.ptr m i o,(H.take m).map (Option.map (a0e (a1e m)))++[some (.row kr.1 be)])else none:=by
 have e:Nat.ble m b=decide (m≤b):=by rw[f4a,f1h,e9j]
 simp only[d8d,e];cases decide (m≤b)with
 |false=>rfl
 |true=>
  simp only[e9i];cases h:a02 H b with
  |none=>rfl
  |some ob=>cases ob with
   |row k aa=>simp only[a95,a0g];cases frzT m (a4e (a3r (a02 H) b) m 12) aa<;>rfl
   |map=>rfl
   |siter=>rfl
   |uset=>rfl
   |miter=>rfl
   |yloop=>rfl
@[go_sem] theorem e30{m:Nat}{H:a03}:d8d m .nilslice H=some (.nilslice,(H.take m).map (Option.map (a0e (a1e m)))):=by rfl
@[go_sem] theorem e5r{m:Nat}{d:AV→Option AV}:frzT m d []=some []:=by rfl
@[go_sem] theorem e3l{m:Nat}{d:AV→Option AV}{r:List AV}{rs:List (List AV)}:frzT m d (r::rs)=a0g (a54 m true d r) λr'=>a0g (frzT m d rs) λei=>some (r'::ei):=by
 simp only[frzT];cases a54 m true d r with
 |none=>rfl
 |some r'=>cases frzT m d rs<;>rfl
@[go_sem] theorem e0g{h:FHeap}{b x:Nat}:a3r h b x=bif decide (x=b)then none else h x:=by
 unfold a3r;by_cases hx:x=b
 ·subst hx;rw[show Nat.beq x x=true from Nat.beq_refl x,e9w rfl]
 ·rw[f2q hx];cases hq:Nat.beq x b with
  |false=>rfl
  |true=>exact absurd (f1j hq) hx
theorem b5l{n:Nat}{H1:a03}:∀(R:a03) (s:Nat),2≤s→a13 [0,1] n H1 s R=R
 | [],s,_=>by simp[a13]
 |o::R,s,hs=>by
  have e:([0,1]:List Nat).idxOf? s=none:=by rw[List.idxOf?_eq_none_iff];simp;omega
  simp only[a13,e,b5l R (s+1) (by omega)]
theorem c44{E:Env}{ag:Bool}{call:CallF}{g:FuncId}{fs cs ar args:List AV}{X Y:AObj}{R:a03}{v:AV}(hx:E.ext g=false)(hf:(E.fn g).isSome=true)(he:fs++ar++cs=args)(aD:a0d args=[0])(hX:a0y (some X)=[1])(hY:a0y (some Y)=[])
 (ha:args.map (ren (a8o [0,1]))=args)(tV:a0e (a8o [0,1]) X=X)(gZ:∀n,a0e (a18 [0,1] n) X=X)(lW:FlatO (some Y))(hr:call g args [some X,some Y]=some (v,[some X,some Y]))(hv:refs v=[]) :
 a0a E ag call (.func (.func g) fs cs) ar (some X::some Y::R)=some (v,some X::some Y::R,[0,1]):=by
 have so:∀π,a0e π Y=Y:=λπ=>by have:=lW π;simpa using this
 have hc:=a1r (call g) args (some X::some Y::R) (σ:=[0,1]) (by rw[aD];simp+decide only[go_sem,hX,hY]) rfl (by simp) ha (H0:=[some X,some Y]) (by simp[a4z,a02,tV,so]) hr;have hp:a13 [0,1] (some X::some Y::R).length [some X,some Y] 0 (some X::some Y::R)=some X::some Y::R:=by simp only[b93,b5l R 2 (by omega)];simp+decide [c37,a02,gZ,so,f1b]
 rw[hp,a0w _ v hv]at hc;simp only[e7g,e8c,List.drop_succ_cons,f0u,e7j,e7i]at hc;exact a7a hx hf he hc rfl
end Go.Ax
/- AxCpy: copy and clear, ar rewrite rules. -/
namespace Go.Ax
section
variable {E:Env}{ag:Bool}{call:CallF}{F:Frm}{H:a03}{h:FHeap}
end
section
variable {E:Env}{t:TypeId}{c:Bool}{x y:BitVec 64}
end
section
variable {E:Env}{h:FHeap}{t:TypeId}
end
theorem d0x{E:Env}{ag:Bool}{call:CallF}{g:FuncId}{fs cs ar args:List AV}{H:a03}(hx:E.ext g=false)(hf:(E.fn g).isSome=true)(he:fs++ar++cs=args){v:AV}{H':a03}{σ:List Nat}
 (h:a2f (call g) args H=some (v,H',σ))(hl:H'.length=H.length+1):a0a E ag call (.func (.func g) fs cs) ar H=some (v,H',σ):=by
 have hb:Nat.ble H.length (H.length+1)=true:=by rw[f1h];omega
 simp only[a0a,hx,hf,he,e9i,e9q,h,hl,hb,f2n,Bool.and_false]
end Go.Ax
/- AxFz: a loop that freezes at its end, as rewrite rules. -/
namespace Go.Ax
@[go_sem] theorem e89(m:Nat)(H:a03)(v:AV):e18 m H v=(a3e m true (a4e (a02 H) m 12) v).getD .junk:=by unfold e18;cases a3e m true (a4e (a02 H) m 12) v<;>rfl
@[go_sem] theorem e5o(m:Nat)(top:Bool)(d:AV→Option AV):a3e m top d .junk=some .junk:=by rfl
@[go_sem] theorem e3m(m:Nat)(H:a03)(s:Nat)(v:AV)(F:Frm):c23 m H ((s,v)::F)=(s,e18 m H v)::c23 m H F:=by rfl
@[go_sem] theorem e5s(m:Nat)(H:a03):c23 m H []=[]:=by rfl
@[go_sem] theorem f0h(H:a03):b3r 0 H=[]:=by simp[b3r]
@[go_sem] theorem e16{α:Type}(a b:α):(some a).getD b=a:=by rfl
@[go_sem] theorem e3f(s:Nat):a33 [] s = .junk:=by rfl
@[go_sem] theorem e2i:refs .junk=[]:=by rfl
theorem c5t(m:Nat)(Q:b4l)(e:AExit)(F:Frm)(H:a03):fz m Q e F H=Q e (c23 m H F) (b3r m H):=by rfl
theorem b2c{E:Env}{M:List Fact}{m N:Nat}{g:FuncId}{cur:Nat}{keep:List Nat}{b:Code}{F:Frm}{H:a03}{Q:b4l}(hk:E.keep g cur=keep)(hz:d03 keep=true)(j:Nat)(hj:c5u keep=j){σ:Type}(Fs:σ→Frm)(Hs:σ→a03)(bD:σ→Nat)(Inv:σ→Prop)(s0:σ)(h0:gcD m keep F H=some (Fs s0,Hs s0))(hi:Inv s0)
 (h:∀s,Inv s→Wp (cx E M m N g cur) b (Fs s) (Hs s) (lp m keep Fs Hs bD Inv (bD s) (fz (m+j) Q)))(hx:a6i b=none:=by rfl):Wp (cx E M m N g cur) (.loop b) F H Q:=by
 refine c0k hk hz j hj (λn F1 H1=>∃s,F1=Fs s∧H1=Hs s∧n=bD s∧Inv s) (bD s0) ⟨_,_,h0,s0,rfl,rfl,rfl,hi⟩ ?_ hx
 rintro n F1 H1 ⟨s,rfl,rfl,rfl,hs⟩
 refine c6w (h s hs) ?_;intro e F' H' h2;cases e with
 |normal=>obtain⟨s',g1,g2,g3⟩:=h2;exact⟨_,_,_,g1,g2,s',rfl,rfl,rfl,g3⟩
 |exit id=>exact h2
 |ret=>exact h2
end Go.Ax
/- AxMl: a loop over a set of numbers: as a condition on its end. -/
namespace Go.Ax
section
variable {E:Env}{M:List Fact}{m N:Nat}{g:FuncId}{cur:Nat}{keep:List Nat}{id:Nat}{an:Array Oper}{it nx:Nat}{ma:List Oper}{ah:Code}
end
end Go.Ax
/- AxSetS: sets of numbers, as rewrite rules. -/
namespace Go.Ax
section
variable {E:Env}{h:FHeap}{t:TypeId}{ag:Bool}{call:CallF}{F:Frm}{H:a03}
@[go_sem] theorem e2z:b31 E t=bif b6s E t then .uset []else .map [] [] [] 0:=by rfl
/-! lookup -/
/-! update -/
/-! delete -/
/-! length -/
/-! ranging -/
/-! frames and heaps -/
variable (π:Nat→Option Nat)
end
end Go.Ax
/- AxTwo: slices of slices that grow: one block of rows, a block for each that is not empty. -/
namespace Go.Ax
theorem a73{H L:a03}{c:Nat}(h:(c<H.length)=True):a02 (H++L) c=a02 H c:=by unfold a02;rw[e8f (f1m h)]
theorem a64{H L:a03}(i:Nat):a02 (H++L) (H.length+i)=a02 L i:=by unfold a02;rw[e8h (by omega)];congr 1;rw[f2l]
theorem a6l{H L:a03}:a02 (H++L) H.length=a02 L 0:=a64 0
theorem b3n{H:a03}{a c:Nat}{o:Option AObj}:a02 (H.set a o) c=if a=c∧a<H.length then o else a02 H c:=by
 unfold a02;rw[e8n];by_cases h:a=c
 ·subst h;by_cases hl:a<H.length
  ·simp[hl]
  ·simp[hl]
 ·simp[h]
theorem a37{H:a03}{a c:Nat}{o:Option AObj}(h:a≠c):a02 (H.set a o) c=a02 H c:=by rw[b3n,e8g (λe=>h e.1)]
theorem c5o{H:a03}{a c:Nat}{o:Option AObj}(h:(a=c)=False):a02 (H.set a o) c=a02 H c:=a37 (λe=>h▸e)
theorem b1c{H:a03}{a:Nat}{o:Option AObj}(h:a<H.length):a02 (H.set a o) a=o:=by rw[b3n,e8j ⟨rfl,h⟩]
def slV(b:Nat)(c:Option Nat):List (List AV)→AV|[]=>.nilslice|_::rs=>.slice b 0 (rs.length+1) c
theorem d2g(b:Nat)(f:List (List AV)):slV b none f=grV b f:=by cases f<;>rfl
theorem b5a(b:Nat)(c:Option Nat){f:List (List AV)}(h:f≠[]):slV b c f = .slice b 0 f.length c:=by cases f with|nil=>exact absurd rfl h|cons a r=>rfl
theorem b5b{H L:a03}{o:Option AObj}(i:Nat):(H++L).set (H.length+i) o=H++L.set i o:=by rw[List.set_append_right _ _ (by omega),f2l]
theorem b0c{H L:a03}{o:Option AObj}:(H++L).set H.length o=H++L.set 0 o:=b5b 0
theorem b8v{H L:a03}{o:Option AObj}{a:Nat}(h:(a<H.length)=True):(H++L).set a o=H.set a o++L:=List.set_append_left _ _ (f1m h)
theorem a7w(n:Nat):(n<n+1)=True:=by simp
theorem a9o{a n k:Nat}(h:(a<n)=True):(a<n+k)=True:=by have:=f1m h;simp;omega
def a2b(aq:Nat→Nat)(cp:Nat→Option Nat)(fo:List (List (List AV))):List (List AV):=fo.mapIdx λj f=>[slV (aq j) (cp j) f]
structure Two(H:a03)(b k:Nat)(aq:Nat→Nat)(cp:Nat→Option Nat)(fo:List (List (List AV))):Prop where
 top:a02 H b=some (.row 1 (a2b aq cp fo))
 sub:∀(j:Nat) (f:List (List AV)),fo[j]?=some f→f≠[]→a02 H (aq j)=some (.row k f)∧aq j≠b
 inj:∀(i j:Nat) (f g:List (List AV)),fo[i]?=some f→fo[j]?=some g→f≠[]→g≠[]→aq i=aq j→i=j
 flat:∀f∈fo,FlatR f
theorem a50{aq:Nat→Nat}{cp:Nat→Option Nat}{fo:List (List (List AV))}{j:Nat}{f:List (List AV)}(h:fo[j]?=some f):(a2b aq cp fo)[j]?=some [slV (aq j) (cp j) f]:=by unfold a2b;rw[e9g,h];rfl
theorem a2j(aq:Nat→Nat)(cp:Nat→Option Nat)(fo:List (List (List AV))):(a2b aq cp fo).length=fo.length:=by unfold a2b;simp
theorem b1u(b:Nat)(c:Option Nat){f:List (List AV)}:refs (slV b c f)=if f=[]then[]else[b]:=by cases f<;>rfl
theorem a8f{aq:Nat→Nat}{cp:Nat→Option Nat}{fo:List (List (List AV))}{c:Nat}:c∈(a2b aq cp fo).flatMap a0d↔∃j f,fo[j]?=some f∧f≠[]∧c=aq j:=by
 unfold a2b;simp only[f3d];constructor
 ·rintro⟨r,hr,hc⟩
  obtain⟨j,hj⟩:=f1k.1 hr;rw[e9g]at hj;cases hf:fo[j]? with
  |none=>rw[hf]at hj;cases hj
  |some f=>
   rw[hf]at hj;cases hj;simp only[a0d,b1u,e7i]at hc;split at hc
   ·simp at hc
   ·rename_i aw;exact⟨j,f,hf,aw,by simpa using hc⟩
 ·rintro⟨j,f,hf,aw,rfl⟩
  refine⟨[slV (aq j) (cp j) f],f1k.2 ⟨j,by rw[e9g,hf];rfl⟩,?_⟩;simp[a0d,b1u,aw]
theorem c0z{π:Nat→Option Nat}{b c:Nat}{q:Option Nat}{f:List (List AV)}(h:f≠[]→π b=some c):ren π (slV b q f)=slV c q f:=by
 cases f with
 |nil=>rfl
 |cons a r=>simp only[slV,ren,h (by simp)]
section
variable {m:Nat}{F:Frm}{H H1:a03}{R:Nat→Prop}{π:Nat→Option Nat}{b k:Nat}{aq:Nat→Nat}{cp:Nat→Option Nat}{fo:List (List (List AV))}
theorem Two.ren(hg:Gc m F H R π H1)(h:Two H b k aq cp fo)(hb:R b):∃b' aL,π b=some b'∧Two H1 b' k aL cp fo:=by
 obtain⟨b',aW⟩:=hg.here b hb;have bc:∀(j:Nat) (f:List (List AV)),fo[j]?=some f→f≠[]→π (aq j)=some ((π (aq j)).getD 0):=by intro j f hf aw;have:R (aq j):=hg.closed b hb _ (by rw[h.top];exact a8f.2 ⟨j,f,hf,aw,rfl⟩);obtain⟨c,hc⟩:=hg.here _ this;rw[hc];rfl
 refine⟨b',λj=>(π (aq j)).getD 0,aW,?_,?_,?_,h.flat⟩
 ·rw[hg.heap b b' aW,h.top];simp only[e8d,a0e]
  congr 2
  unfold a2b;apply e9p;intro j;simp only[e8a,e9g];cases hf:fo[j]? with
  |none=>rfl
  |some f=>simp only[e8d,e12,e7j,c0z (bc j f hf)]
 ·intro j f hf aw;have e:=bc j f hf aw;obtain⟨h1,h2⟩:=h.sub j f hf aw;refine⟨?_,?_⟩
  ·rw[hg.heap _ _ e,h1];simp only[e8d,a0e,a05 π (h.flat f (c11 hf))]
  ·intro he;rw[he]at e;exact h2 (hg.inj _ _ _ e aW)
 ·intro i j f g hf dc aw bL e;have e1:=bc i f hf aw;have e2:=bc j g dc bL;rw[e]at e1;exact h.inj i j f g hf dc aw bL (hg.inj _ _ _ e1 e2)
theorem Two.app(h:Two H b k aq cp fo){j n:Nat}{f:List (List AV)}{x:List AV}(hf:fo[j]?=some f)(hc:cp j=none)(hx:a0d x=[])(hn:H.length≤n)
 (h1:a02 H1 b=some (.row 1 ((a2b aq cp fo).set j [.slice n 0 (f.length+1) none])))(h2:a02 H1 n=some (.row k (f++[x])))
 (h3:∀(i:Nat) (g:List (List AV)),i≠j→fo[i]?=some g→g≠[]→a02 H1 (aq i)=a02 H (aq i)) :
 Two H1 b k (λi=>if i=j then n else aq i) cp (fo.set j (f++[x])):=by
 have bg:j<fo.length:=(e7k.1 hf).1;have aj:∀(i:Nat) (g:List (List AV)),fo[i]?=some g→g≠[]→aq i<H.length:=λi g hg aw=>a1a (h.sub i g hg aw).1;have cj:b<H.length:=a1a h.top;refine⟨?_,?_,?_,?_⟩
 ·rw[h1]
  congr 2
  apply e9p;intro i;unfold a2b;rw[e8n,List.length_mapIdx];by_cases a8:j=i
  ·subst a8;simp only[f1a,bg];rw[e9g,e8n];simp only[f1a,bg,e8d,hc,d2g,c3m]
  ·simp only[e8g a8];rw[e9g,e9g,e8n,e8g a8];simp only[e8g (f2x a8)]
 ·intro i g hg aw;rw[e8n]at hg;by_cases a8:j=i
  ·subst a8;simp only[f1a,bg,Option.some.injEq]at hg;subst hg;simp only[f1a];exact⟨h2,by omega⟩
  ·rw[e8g a8]at hg;simp only[e8g (f2x a8)];rw[h3 i g (f2x a8) hg aw];exact h.sub i g hg aw
 ·intro i i' g g' hg dc aw bL e;rw[e8n]at hg dc;by_cases a8:j=i<;>by_cases ew:j=i'
  ·omega
  ·subst a8;simp only[e8g ew]at dc;simp only[f1a,e8g (f2x ew)]at e;have:=aj i' g' dc bL;omega
  ·subst ew;simp only[e8g a8]at hg;simp only[f1a,e8g (f2x a8)]at e;have:=aj i g hg aw;omega
  ·simp only[e8g a8]at hg;simp only[e8g ew]at dc;simp only[e8g (f2x a8),e8g (f2x ew)]at e;exact h.inj i i' g g' hg dc aw bL e
 ·intro g hg;rcases f1n hg with hg|rfl
  ·exact h.flat g hg
  ·exact(h.flat f (c11 hf)).append (FlatR.cons hx FlatR.nil)
theorem b1t{H:a03}:∀(l:List Nat),(∀c∈l,a0y (a02 H c)=[])→(l.map λc=>(a0y (a02 H c)).length).sum=0
 | [],_=>rfl
 |a::l,h=>by simp only[e12,List.sum_cons,h a (by simp),e8c,b1t l (λc hc=>h c (by simp[hc]))]
theorem Two.gc{keep:List Nat}(h:Two H b k aq cp fo)(hF:a0d ((a1o keep F).map (·.2))=[b]∨a0d ((a1o keep F).map (·.2))=[b,b])(hn:fo.length<900000) :
 ∃π b' aL H1,gcD 0 keep F H=some (b5h π (a1o keep F),H1)∧π b=some b'∧Two H1 b' k aL cp fo:=by
 -- the blocks that aa lead to
 obtain⟨S,hS⟩:∃S,S=b::((List.range fo.length).filter λj=>(fo[j]?).any λf=>!f.isEmpty).map aq:=⟨_,rfl⟩
 have kF:∀c∈((List.range fo.length).filter λj=>(fo[j]?).any λf=>!f.isEmpty).map aq,a0y (a02 H c)=[]:=by
  intro c hc;obtain⟨j,hj,rfl⟩:=f0r.1 hc;rw[f3a]at hj;have bg:j<fo.length:=by simpa using hj.1
  obtain⟨f,hf⟩:∃f,fo[j]?=some f:=⟨_,z9e bg⟩
  have aw:=hj.2;rw[hf]at aw;rw[(h.sub j f hf (λe=>by rw[e]at aw;simp at aw)).1];exact a0k (h.flat f (c11 hf))
 have lh:((((List.range fo.length).filter λj=>(fo[j]?).any λf=>!f.isEmpty).map aq).map λc=>(a0y (a02 H c)).length).sum=0:=by exact b1t _ kF
 have fc:(a0y (a02 H b)).length≤fo.length:=by
  rw[h.top];show((a2b aq cp fo).flatMap a0d).length≤_;have:∀(l:List (List AV)),(∀r∈l,(a0d r).length≤1)→(l.flatMap a0d).length≤l.length:=by
   intro l
   induction l with
   |nil=>intro _;simp
   |cons r l ih=>intro hl;have h1:=hl r (by simp);have h2:=ih (λr hr=>hl r (by simp[hr]));simp only[e9v,e8i,e7g];omega
  have h2:=this (a2b aq cp fo) (by
   intro r hr;obtain⟨j,hj⟩:=f1k.1 hr;unfold a2b at hj;rw[e9g]at hj;cases hf:fo[j]? with
   |none=>rw[hf]at hj;cases hj
   |some f=>rw[hf]at hj;cases hj;simp only[a0d,b1u];split<;>simp)
  rw[a2j]at h2;exact h2
 obtain⟨R,π,H1,g1,g2,_⟩:=c9v (m:=0) (keep:=keep) (F:=F) (H:=H) (e8e _) S (by intro c hc;rcases hF with hF|hF<;>rw[hF]at hc<;>simp at hc<;>subst hc<;>simp[hS]) (λc hc=>absurd hc (f4b c)) (by
  intro c hc d hd;simp only[hS,e9m]at hc;rcases hc with rfl|hc
  ·rw[h.top]at hd;obtain⟨j,f,hf,aw,rfl⟩:=a8f.1 hd;simp only[hS,e9m];refine .inr (f0r.2 ⟨j,f3a.2 ⟨by simpa using(e7k.1 hf).1,?_⟩,rfl⟩);rw[hf];cases f with|nil=>exact absurd rfl aw|cons=>rfl
  ·rw[kF c hc]at hd;simp at hd) (by
  have hl:(a0d ((a1o keep F).map (·.2))).length≤2:=by rcases hF with hF|hF<;>rw[hF]<;>simp
  simp only[hS,e12,List.sum_cons,lh,e9l,f2s,e8c];omega)
 obtain⟨b',aL,e1,e2⟩:=h.ren g2 (g2.refs b (by rcases hF with hF|hF<;>rw[hF]<;>simp));exact⟨π,b',aL,H1,g1,e1,e2⟩
theorem Two.clip(h:Two H b k aq cp fo){j c:Nat}{f:List (List AV)}(hf:fo[j]?=some f)(h1:a02 H1 b=some (.row 1 ((a2b aq cp fo).set j [slV (aq j) (some c) f])))
 (h3:∀c,c≠b→a02 H1 c=a02 H c):Two H1 b k aq (λi=>if i=j then some c else cp i) fo:=by
 have bg:j<fo.length:=(e7k.1 hf).1;refine⟨?_,λi g hg aw=>?_,h.inj,h.flat⟩
 ·rw[h1]
  congr 2
  apply e9p;intro i;unfold a2b;rw[e8n,List.length_mapIdx];by_cases a8:j=i
  ·subst a8;simp only[f1a,bg];rw[e9g,hf];simp
  ·simp only[e8g a8];rw[e9g,e9g];simp only[e8g (f2x a8)]
 ·obtain⟨g1,g2⟩:=h.sub i g hg aw;rw[h3 _ g2];exact⟨g1,g2⟩
def slF(c:Option Nat):List (List AV)→AV|[]=>.nilslice|r::rs=>.islice (r::rs) c
theorem Two.frz(h:Two H b k aq cp fo)(c:Option Nat):a3e 0 true (a4e (a02 H) 0 12) (.slice b 0 fo.length c)=some (.islice (fo.mapIdx λj f=>[slF (cp j) f]) c):=by
 have key:∀(aa:List (List AV)) (out:List (List AV)),aa.length=out.length→(∀(j:Nat) r o,aa[j]?=some r→out[j]?=some o→a54 0 false (a4e (a02 H) 0 11) r=some o)→a8v 0 (a4e (a02 H) 0 11) aa=some out:=by
  intro aa
  induction aa with
  |nil=>intro out hl _;cases out with|nil=>rfl|cons=>simp at hl
  |cons r aa ih=>
   intro out hl hh;cases out with
   |nil=>simp at hl
   |cons o out=>rw[b3q,hh 0 r o rfl rfl];simp only[a0g];rw[ih out (by simpa using hl) (λj r o hr ho=>hh (j+1) r o (by simpa using hr) (by simpa using ho))]
 have uS:∀x,a4e (a02 H) 0 12 x=a4e (a02 H) 0 (11+1) x:=λ_=>rfl;rw[a5s,f2q (f4b b),e9q,a4p (eq_true (by omega:0<12)),h.top];simp only[a95,a0g,a2j,f0u,e9y];rw[e9w (e9k _),e9i,←a2j aq cp fo,f0p];rw[key (a2b aq cp fo) (fo.mapIdx λj f=>[slF (cp j) f]) (by rw[a2j];simp)];intro j r o hr ho;rw[e9g]at ho;cases hf:fo[j]? with
 |none=>rw[hf]at ho;cases ho
 |some f=>
  rw[hf]at ho;rw[a50 hf]at hr;cases ho;cases hr;rw[a3m,b7o];cases f with
  |nil=>rfl
  |cons x xs=>obtain⟨g1,_⟩:=h.sub j _ hf (by simp);have bY:=h.flat _ (c11 hf);simp only[slV,slF];rw[a5s,f2q (f4b _),e9q,a4p (eq_true (by omega:0<11)),g1];simp only[a95,a0g,f0u,e9y];rw[e9w (by simp),e9i];have:List.take (xs.length+1) (x::xs)=x::xs:=f0p (l:=x::xs);rw[this,a12 _ _ bY]
end
theorem Two.more{H L:a03}{b k:Nat}{aq:Nat→Nat}{cp:Nat→Option Nat}{fo:List (List (List AV))}(h:Two H b k aq cp fo):Two (H++L) b k aq cp fo:=by
 have hl:∀{c:Nat} {o:AObj},a02 H c=some o→a02 (H++L) c=some o:=λhc=>by rw[a73 (eq_true (a1a hc))];exact hc
 exact⟨hl h.top,λj f hf aw=>⟨hl (h.sub j f hf aw).1,(h.sub j f hf aw).2⟩,h.inj,h.flat⟩
theorem a5r{H L:a03}{a:Nat}{o:Option AObj}(i:Nat):a02 (H.set a o++L) (H.length+i)=a02 L i:=by
 have:=a64 (H:=H.set a o) (L:=L) i
 rwa [f0l]at this
theorem a38{H L:a03}{a c:Nat}{o:Option AObj}(hc:c<H.length):a02 (H.set a o++L) c=if a=c then o else a02 H c:=by
 rw[a73 (eq_true (by rw[f0l];exact hc)),b3n];by_cases h:a=c
 ·subst h;simp[hc]
 ·simp[h]
section
variable {H:a03}{b k:Nat}{aq:Nat→Nat}{cp:Nat→Option Nat}{fo:List (List (List AV))}{j:Nat}{x:List AV}{o:Option AObj}
theorem Two.app1(h:Two H b k aq cp fo)(hf:fo[j]?=some [])(hc:cp j=none)(hx:a0d x=[]) :
 Two (H.set b (some (.row 1 ((a2b aq cp fo).set j [.slice (H.length+1) 0 1 none])))++[o,some (.row k [x])]) b k (λi=>if i=j then H.length+1 else aq i) cp (fo.set j [x]):=by
 have cj:=a1a h.top;refine h.app hf hc hx (by omega) ?_ ?_ ?_
 ·rw[a38 cj,e8j rfl];rfl
 ·rw[a5r];rfl
 ·intro i g a8 hg aw;obtain⟨g1,g2⟩:=h.sub i g hg aw;rw[a38 (a1a g1),e8g (f2x g2)]
theorem Two.app2{a:List AV}{r:List (List AV)}(h:Two H b k aq cp fo)(hf:fo[j]?=some (a::r))(hc:cp j=none)(hx:a0d x=[]) :
 Two ((H.set (aq j) none).set b (some (.row 1 ((a2b aq cp fo).set j [.slice (H.length+1) 0 (r.length+1+1) none])))++[o,some (.row k (a::(r++[x])))]) b k (λi=>if i=j then H.length+1 else aq i) cp (fo.set j (a::r++[x])):=by
 have cj:=a1a h.top;have bj:(H.set (aq j) none).length=H.length:=f0l;refine h.app hf hc hx (by omega) ?_ ?_ ?_
 ·rw[a38 (by rw[bj];exact cj),e8j rfl];rfl
 ·have:=a5r (H:=H.set (aq j) none) (L:=[o,some (.row k (a::(r++[x])))]) (a:=b) (o:=some (.row 1 ((a2b aq cp fo).set j [.slice (H.length+1) 0 (r.length+1+1) none]))) 1;rw[bj]at this;rw[this];rfl
 ·intro i g a8 hg aw;obtain⟨g1,g2⟩:=h.sub i g hg aw;rw[a38 (by rw[bj];exact a1a g1),e8g (f2x g2),a37];intro e;exact a8 (h.inj i j g (a::r) hg hf aw (by simp) e.symm)
end
theorem a61{keep:List Nat}{F:Frm}{H:a03}{b k:Nat}{aq:Nat→Nat}{cp:Nat→Option Nat}{fo:List (List (List AV))}{P:Frm→a03→Prop}(h:Two H b k aq cp fo)(hF:a0d ((a1o keep F).map (·.2))=[b]∨a0d ((a1o keep F).map (·.2))=[b,b])(hn:fo.length<900000)
 (hP:∀π b' aL H1,π b=some b'→Two H1 b' k aL cp fo→P (b5h π (a1o keep F)) H1):∃F1 H1,gcD 0 keep F H=some (F1,H1)∧P F1 H1:=by
 obtain⟨π,b',aL,H1,g1,g2,g3⟩:=h.gc hF hn;exact⟨_,H1,g1,hP π b' aL H1 g2 g3⟩
def fqE(E:Env)(g:FuncId)(m:Nat)(results:List ResultVar)(P:AV×a03→Prop):b4l:=λe F H=>match e with|.exit _=>False|_=>∃vs r,a17 E F H results=some vs∧a1l (E.thaw g) m (a7i vs) H=some r∧P r
theorem a21{E:Env}{g:FuncId}{m:Nat}{results:List ResultVar}{P:AV×a03→Prop}{F:Frm}{H:a03}{vs:List AV}{r:AV×a03}(h1:a17 E F H results=some vs)(h2:a1l (E.thaw g) m (a7i vs) H=some r)(h3:P r):fqE E g m results P .ret F H:=⟨vs,r,h1,h2,h3⟩
theorem b7p{E:Env}{g:FuncId}{m:Nat}{results:List ResultVar}{P:AV×a03→Prop}{F:Frm}{H:a03}{vs:List AV}{r:AV×a03}(h1:a17 E F H results=some vs)(h2:a1l (E.thaw g) m (a7i vs) H=some r)(h3:P r):fqE E g m results P .normal F H:=⟨vs,r,h1,h2,h3⟩
theorem d7f{E:Env}{M:List Fact}{g:FuncId}{args:List AV}{H:a03}{code:Code}{N:Nat}{results:List ResultVar}{P:AV×a03→Prop}
 (bC:E.fn g=some ⟨code,N,results⟩)(cK:∀y∈M,y.g≠g)(hN:Nat.ble args.length N=true){m:Nat}(hm:H.length=m)(h:Wp (cx E M m N g 0) code (a4i 0 args) H (fqE E g m results P))(hp:E.prim g args=none:=by rfl)(hz:E.zf g=false:=by rfl):∃r,P r∧sem E M g args H=some r:=by
 subst hm;obtain⟨e,F',H',h1,h2⟩:=c6x _ h;cases e with
 |normal=>obtain⟨vs,⟨v,H2⟩,h3,h4,h5⟩:=h2;exact⟨_,h5,c2y bC cK hN h1 (λ_ h=>by cases h) h3 h4 hp hz⟩
 |ret=>obtain⟨vs,⟨v,H2⟩,h3,h4,h5⟩:=h2;exact⟨_,h5,c2y bC cK hN h1 (λ_ h=>by cases h) h3 h4 hp hz⟩
 |exit id=>exact h2.elim
theorem svE{E:Env}{M:List Fact}{g:FuncId}{args:List AV}{H:a03}{P:AV×a03→Prop}(f:Func)(h:Wp (cx E M H.length f.ntmps g 0) (f.body.getD .skip) (a4i 0 args) H (fqE E g H.length f.results.toList P))(bC:E.fn g=some ⟨f.body.getD .skip,f.ntmps,f.results.toList⟩:=by kernel_rfl)
 (cK:(M.all λy=>!Nat.beq y.g g)=true:=by rfl)(hN:Nat.ble args.length f.ntmps=true:=by rfl)(hp:E.prim g args=none:=by rfl)(hz:E.zf g=false:=by rfl):∃r,P r∧sem E M g args H=some r:=d7f bC (λy hy e=>by
 have:=e9r.1 cK y hy;rw[e]at this;simp at this) hN rfl h hp hz
end Go.Ax
/- AxCall3: calls over two blocks, which they may write. -/
namespace Go.Ax
theorem b1a{σ:List Nat}{n:Nat}{H1:a03}:∀(s:Nat) (H:a03) (i:Nat),(a13 σ n H1 s H)[i]?=(H[i]?).map λo=>match σ.idxOf? (s+i)with|some j=>(a02 H1 j).map (a0e (a18 σ n))|none=>o
 |s,[],i=>by simp[a13]
 |s,o::H,0=>by simp[a13];rfl
 |s,o::H,i+1=>by simp only[a13,f00,b1a (s+1) H i];rw[show s+1+i=s+(i+1) by omega]
theorem c84{H:a03}{a b:Nat}(bB:a≠b)(ha:a0y (a02 H a)=[])(hb:a0y (a02 H b)=[]):a1t H 1000000 [a,b] []=[a,b]:=by
 have e:a1t H (999996+4) [a,b] []=[a,b]:=by
  unfold a1t;simp only[a0s,e9q,ha,e7l];unfold a1t;have h1:a0s [a] b=false:=by
   cases hc:a0s [a] b with
   |false=>rfl
   |true=>exact absurd (by simpa using a1u.1 hc) (f2x bB)
  simp only[h1,e9q,hb,e7l];unfold a1t;rfl
 exact e
theorem b48{E:Env}{ag:Bool}{call:CallF}{g:FuncId}{fs cs ar args:List AV}{H:a03}{v v':AV}{a b:Nat}{o1 o2 p1 p2:AObj}(hx:E.ext g=false)(hf:(E.fn g).isSome=true)(he:fs++ar++cs=args)
 (bB:a≠b)(ha:a02 H a=some o1)(hb:a02 H b=some o2)(dV:a0y (some o1)=[])(eo:a0y (some o2)=[])(jX:FlatO (some o1))(lL:FlatO (some o2))(aD:a0d args=[a,b])
 {au:List AV}(nk:args.map (ren (a8o [a,b]))=au)(hr:call g au [some o1,some o2]=some (v,[some p1,some p2]))(fi:FlatO (some p1))(dO:FlatO (some p2))(hv:ren (a18 [a,b] H.length) v=v') :
 a0a E ag call (.func (.func g) fs cs) ar H=some (v',(H.set a (some p1)).set b (some p2),[a,b]):=by
 have l1:=a1a ha;have l2:=a1a hb;have hn:a51 [a,b]=true:=b30 (by simp[bB]);have hc:=a1r (call g) args H (σ:=[a,b]) (by rw[aD];exact c84 bB (by rw[ha];exact dV) (by rw[hb];exact eo)) hn (by simp[l1,l2]) nk (H0:=[some o1,some o2])
  (by simp only[a4z,e12,e7j,ha,hb];rw[jX,lL]) hr
 have eF:a13 [a,b] H.length [some p1,some p2] 0 H=(H.set a (some p1)).set b (some p2):=by
  apply e9p;intro i;rw[b1a,e8n,e8n,f0l,e9y];by_cases jT:a=i
  ·subst jT;have e:([a,b]:List Nat).idxOf? a=some 0:=by simp[f1b]
   rw[z9e l1];simp only[e8d,e,e8g (f2x bB),f1a,l1]
   congr 1
   exact fi _
  ·by_cases iq:b=i
   ·subst iq;have e:([a,b]:List Nat).idxOf? b=some 1:=by simp[f1b,bB]
    rw[z9e l2];simp only[e8d,e,f1a,l2]
    congr 1
    exact dO _
   ·have e:([a,b]:List Nat).idxOf? i=none:=by simp[f1b,jT,iq]
    rw[e8g iq,e8g jT];cases H[i]? with
    |none=>rfl
    |some o=>simp only[e8d,e]
 rw[hv,eF]at hc;simp only[List.drop_succ_cons,f0u,e7j,e7i,e7g,e8c]at hc;exact a7a hx hf he hc (by simp)
theorem c1b(a b o l:Nat)(c:Option Nat):ren (a8o [a,b]) (.slice a o l c) = .slice 0 o l c:=by simp[ren,a8o,f1b]
theorem c7x{a b:Nat}(h:a≠b)(i o:Nat):ren (a8o [a,b]) (.ptr b i o) = .ptr 1 i o:=by simp[ren,a8o,f1b,h]
end Go.Ax
/- AxTab: a table of rows of words in blocks, wherever they lie; heads of loops and calls over it. -/
namespace Go.Ax
structure Mv(H:a03)(R:Nat→Prop)(π:Nat→Option Nat)(H1:a03):Prop where
 inj:∀a b c,π a=some c→π b=some c→a=b
 closed:∀b,R b→∀c∈a0y (a02 H b),R c
 here:∀b,R b→∃c,π b=some c
 heap:∀b c,R b→π b=some c→a02 H1 c=(a02 H b).map (a0e π)
theorem Gc.mv{m:Nat}{F:Frm}{H H1:a03}{R:Nat→Prop}{π:Nat→Option Nat}(g:Gc m F H R π H1):Mv H R π H1:=⟨g.inj,g.closed,g.here,λb c _ h=>g.heap b c h⟩
section
variable {H H1:a03}{R:Nat→Prop}{π:Nat→Option Nat}{a b q:Nat}{aq:Nat→Nat}{w:Nat}{fo:List (List (BitVec 64))}{fr:Int}
end
/-! ### calls, wherever the blocks lie -/
end Go.Ax
/- AxGw: a flat block and a slice of rows that grow together. -/
namespace Go.Ax
section
variable {H H1:a03}{R:Nat→Prop}{π:Nat→Option Nat}{w b k:Nat}{aq:Nat→Nat}{cp:Nat→Option Nat}{ws:List (List AV)}{fo:List (List (List AV))}
theorem Two.mv(hg:Mv H R π H1)(h:Two H b k aq cp fo)(hb:R b):∃b' aL,π b=some b'∧Two H1 b' k aL cp fo∧∀(j:Nat) (f:List (List AV)),fo[j]?=some f→f≠[]→π (aq j)=some (aL j):=by
 obtain⟨b',aW⟩:=hg.here b hb;have hR:∀(j:Nat) (f:List (List AV)),fo[j]?=some f→f≠[]→R (aq j):=λj f hf aw=>hg.closed b hb _ (by rw[h.top];exact a8f.2 ⟨j,f,hf,aw,rfl⟩);have bc:∀(j:Nat) (f:List (List AV)),fo[j]?=some f→f≠[]→π (aq j)=some ((π (aq j)).getD 0):=by intro j f hf aw;obtain⟨c,hc⟩:=hg.here _ (hR j f hf aw);rw[hc];rfl
 refine⟨b',λj=>(π (aq j)).getD 0,aW,⟨?_,?_,?_,h.flat⟩,bc⟩
 ·rw[hg.heap b b' hb aW,h.top];simp only[e8d,a0e]
  congr 2
  unfold a2b;apply e9p;intro j;simp only[e8a,e9g];cases hf:fo[j]? with
  |none=>rfl
  |some f=>simp only[e8d,e12,e7j,c0z (bc j f hf)]
 ·intro j f hf aw;have e:=bc j f hf aw;obtain⟨h1,h2⟩:=h.sub j f hf aw;refine⟨?_,?_⟩
  ·rw[hg.heap _ _ (hR j f hf aw) e,h1];simp only[e8d,a0e,a05 π (h.flat f (c11 hf))]
  ·intro he;rw[he]at e;exact h2 (hg.inj _ _ _ e aW)
 ·intro i j f g hf dc aw bL e;have e1:=bc i f hf aw;have e2:=bc j g dc bL;rw[e]at e1;exact h.inj i j f g hf dc aw bL (hg.inj _ _ _ e1 e2)
def b4o(b:Nat)(aq:Nat→Nat)(fo:List (List (List AV))):List Nat:=b::((List.range fo.length).filter λj=>(fo[j]?).any λf=>!f.isEmpty).map aq
theorem c73{j:Nat}{f:List (List AV)}(hf:fo[j]?=some f)(aw:f≠[]):aq j∈b4o b aq fo:=by unfold b4o;refine f0w _ (f0r.2 ⟨j,f3a.2 ⟨by simpa using(e7k.1 hf).1,?_⟩,rfl⟩);rw[hf];cases f with|nil=>exact absurd rfl aw|cons=>rfl
theorem c74{c:Nat}(h:c∈b4o b aq fo):c=b∨∃j f,fo[j]?=some f∧f≠[]∧c=aq j:=by
 unfold b4o at h;rcases e9m.1 h with h|h
 ·exact .inl h
 ·obtain⟨j,hj,rfl⟩:=f0r.1 h;rw[f3a]at hj;obtain⟨f,hf⟩:∃f,fo[j]?=some f:=⟨_,z9e (by simpa using hj.1)⟩
  have:=hj.2;rw[hf]at this;exact .inr ⟨j,f,hf,by intro e;rw[e]at this;simp at this,rfl⟩
theorem Two.closed(h:Two H b k aq cp fo):∀c∈b4o b aq fo,∀d∈a0y (a02 H c),d∈b4o b aq fo:=by
 intro c hc d hd;rcases c74 hc with rfl|⟨j,f,hf,aw,rfl⟩
 ·rw[h.top]at hd;obtain⟨j,f,hf,aw,rfl⟩:=a8f.1 hd;exact c73 hf aw
 ·rw[(h.sub j f hf aw).1,a0k (h.flat f (c11 hf))]at hd;simp at hd
theorem Two.cost(h:Two H b k aq cp fo):((b4o b aq fo).map λc=>(a0y (a02 H c)).length).sum≤fo.length:=by
 have hz:((((List.range fo.length).filter λj=>(fo[j]?).any λf=>!f.isEmpty).map aq).map λc=>(a0y (a02 H c)).length).sum=0:=b1t _ (by
  intro c hc;obtain⟨j,hj,rfl⟩:=f0r.1 hc;rw[f3a]at hj;obtain⟨f,hf⟩:∃f,fo[j]?=some f:=⟨_,z9e (by simpa using hj.1)⟩
  have:=hj.2;rw[hf]at this;rw[(h.sub j f hf (by intro e;rw[e]at this;simp at this)).1];exact a0k (h.flat f (c11 hf)))
 unfold b4o;rw[e12,List.sum_cons,hz,f3y,h.top];show((a2b aq cp fo).flatMap a0d).length≤_;have:∀(l:List (List AV)),(∀r∈l,(a0d r).length≤1)→(l.flatMap a0d).length≤l.length:=by
  intro l
  induction l with
  |nil=>intro _;simp
  |cons r l ih=>intro hl;have h1:=hl r (by simp);have h2:=ih (λr hr=>hl r (by simp[hr]));simp only[e9v,e8i,e7g];omega
 have h2:=this (a2b aq cp fo) (by
  intro r hr;obtain⟨j,hj⟩:=f1k.1 hr;unfold a2b at hj;rw[e9g]at hj;cases hf:fo[j]? with
  |none=>rw[hf]at hj;cases hj
  |some f=>rw[hf]at hj;cases hj;simp only[a0d,b1u];split<;>simp)
 rw[a2j]at h2;exact h2
end
end Go.Ax
/- AxTwX: a slice of growing slices beside flat blocks: a loop's head. -/
namespace Go.Ax
section
variable {H:a03}{b k:Nat}{aq:Nat→Nat}{cp:Nat→Option Nat}{fo:List (List (List AV))}
theorem Two.headX{keep:List Nat}{F:Frm}{P:Frm→a03→Prop}(h:Two H b k aq cp fo)(X:List Nat)(hX:∀x∈X,a0y (a02 H x)=[])(hF:∀c∈a0d ((a1o keep F).map (·.2)),c∈X∨c=b)(hb:b∈a0d ((a1o keep F).map (·.2)))(bX:∀x∈X,x∈a0d ((a1o keep F).map (·.2)))(hl:(a0d ((a1o keep F).map (·.2))).length≤10)(hn:fo.length<900000)
 (hP:∀π b' aL H1,π b=some b'→Two H1 b' k aL cp fo→(∀x∈X,∃x',π x=some x'∧a02 H1 x'=(a02 H x).map (a0e π))→P (b5h π (a1o keep F)) H1):∃F1 H1,gcD 0 keep F H=some (F1,H1)∧P F1 H1:=by
 have se:=h.cost;have tW:(X.map λb=>(a0y (a02 H b)).length).sum=0:=b1t _ λb hb=>by rw[hX b hb]
 obtain⟨R,π,H1,g1,g2,_⟩:=c9v (m:=0) (keep:=keep) (F:=F) (H:=H) (e8e _) (X++b4o b aq fo) (λc hc=>by
  rcases hF c hc with h|rfl
  ·exact List.mem_append_left _ h
  ·exact List.mem_append_right _ (by simp[b4o])) (λc hc=>absurd hc (f4b c)) (by
  intro c hc d hd;rcases e9s.1 hc with hc|hc
  ·rw[hX c hc]at hd;cases hd
  ·exact List.mem_append_right _ (h.closed c hc d hd)) (by
  simp only[e8l,List.sum_append,tW,e9l,f2s,e8c];omega)
 have hm:=g2.mv;obtain⟨b',aL,e1,e2,e3⟩:=h.mv hm (g2.refs b hb);refine⟨_,H1,g1,hP π b' aL H1 e1 e2 λx hx=>?_⟩;obtain⟨x',ex⟩:=g2.here x (g2.refs x (bX x hx));exact⟨x',ex,g2.heap x x' ex⟩
theorem Two.apart(h:Two H b k aq cp fo){d q:Nat}{aa:List (List AV)}(hd:a02 H d=some (.row q aa))(hq:q≠1)(hk:q≠k):d≠b∧∀j f,fo[j]?=some f→f≠[]→d≠aq j:=by
 refine⟨λe=>?_,λj f hf aw e=>?_⟩
 ·rw[e,h.top]at hd;cases hd;exact hq rfl
 ·rw[e,(h.sub j f hf aw).1]at hd;cases hd;exact hk rfl
end
end Go.Ax
/- AxTab2: a table that a call has been given: heads of loops and calls that write it. -/
namespace Go.Ax
section
variable {H H1:a03}{a b q:Nat}{aq:Nat→Nat}{w:Nat}{fo:List (List (BitVec 64))}{fr:Int}
mutual
theorem b2p{m:Nat}{π:Nat→Option Nat}(hπ:∀c,c<m→π c=some c):∀(v:AV),(∀c∈refs v,c<m)→ren π v=v
 |.ptr b i o,h=>by simp only[ren,hπ b (h b (by simp[refs]))]
 |.slice b o l c,h=>by simp only[ren,hπ b (h b (by simp[refs]))]
 |.map b,h=>by simp only[ren,hπ b (h b (by simp[refs]))]
 |.yfn b,h=>by simp only[ren,hπ b (h b (by simp[refs]))]
 |.func fn fs cs,h=>by simp only[refs,e9s]at h;simp only[ren,a5e hπ fs (λc hc=>h c (.inl hc)),a5e hπ cs (λc hc=>h c (.inr hc))]
 |.iface t x,h=>by simp only[refs]at h;simp only[ren,b2p hπ x h]
 |.agg cs,h=>by simp only[refs]at h;simp only[ren,a5e hπ cs h]
 |.tuple cs,h=>by simp only[refs]at h;simp only[ren,a5e hπ cs h]
 |.junk,_|.bool _,_|.int ..,_|.str _,_|.nilptr,_|.nilslice,_|.nilmap,_|.nilfunc,_|.nilifc,_|.iptr _,_|.islice ..,_|.imap ..,_|.iset _,_=>rfl
theorem a5e{m:Nat}{π:Nat→Option Nat}(hπ:∀c,c<m→π c=some c):∀(l:List AV),(∀c∈a0d l,c<m)→b8h π l=l
 | [],_=>rfl
 |v::vs,h=>by simp only[a0d,e9s]at h;simp only[b8h,b2p hπ v (λc hc=>h c (.inl hc)),a5e hπ vs (λc hc=>h c (.inr hc))]
end
theorem a8g{m:Nat}{π:Nat→Option Nat}(hπ:∀c,c<m→π c=some c)(l:List AV)(h:∀c∈a0d l,c<m):l.map (ren π)=l:=by rw[←a7s];exact a5e hπ l h
theorem c50{m:Nat}{π:Nat→Option Nat}(hπ:∀c,c<m→π c=some c)(o:AObj)(h:∀c∈a0y (some o),c<m):a0e π o=o:=by
 cases o with
 |row k aa=>
  simp only[a0e]
  congr 1
  conv=>rhs;rw[←List.map_id aa]
  refine f0i λr hr=>?_;refine a8g hπ r λe he=>h e ?_;simp only[a0y,f3d];exact⟨r,hr,he⟩
 |map ks vs bs cl=>simp only[a0e];rw[a8g hπ ks (λe he=>h e (by simp[a0y,he])),a8g hπ vs (λe he=>h e (by simp[a0y,he]))]
 |siter s p=>rfl
 |uset ks=>rfl
 |miter ks cP dj=>rfl
 |yloop y Fy st=>
  simp only[a0e]
  congr 1
  conv=>rhs;rw[←List.map_id Fy]
  refine f0i λx hx=>?_;rw[b2p hπ x.2 λc hc=>h c (c82 hx hc)];rfl
theorem b5g{m:Nat}{π:Nat→Option Nat}(hπ:∀c,c<m→π c=some c):∀F:Frm,(∀c∈a0d (F.map (·.2)),c<m)→b5h π F=F
 | [],_=>rfl
 |(s,v)::F,h=>by simp only[e12,a0d,e9s]at h;have:=a8g hπ [v] (by simp only[a0d,e7i];exact λc hc=>h c (.inl hc));simp only[e12,e7j,List.cons.injEq,and_true]at this;rw[c7z,this,b5g hπ F (λc hc=>h c (.inr hc))]
end
theorem b18(a b:List AV):a0d (a++b)=a0d a++a0d b:=by
 induction a with
 |nil=>rfl
 |cons v a ih=>simp only[e9h,a0d,ih,e7m]
end Go.Ax
/- AxLow: a loop's head over blocks that all stood before the call and refer to nothing. -/
namespace Go.Ax
theorem d41{H H1:a03}(hl:H1.length=H.length)(h:∀b,b<H.length→a02 H1 b=a02 H b):H1=H:=by apply List.ext_getElem hl;intro b h1 h2;have:=h b h2;unfold a02 at this;rw[z9e h1,z9e h2]at this;exact this
theorem e3h{keep:List Nat}{F F':Frm}{H:a03}(hk:a1o keep F=F')(hF:∀b∈a0d (F'.map (·.2)),b<H.length)(hn:(a0d (F'.map (·.2))).length<1000)(hH:∀b,a0y (a02 H b)=[]):gcD H.length keep F H=some (F',H):=by
 subst hk;have lh:((List.range H.length).map λb=>(a0y (a02 H b)).length).sum=0:=by
  have:((List.range H.length).map λb=>(a0y (a02 H b)).length)=List.replicate H.length 0:=by rw[←f0o (n:=H.length),←List.map_const',f0o];exact f0i λb _=>by rw[hH];rfl
  rw[this];simp
 have bY:(H.take H.length).flatMap a0y=[]:=by rw[f0p,List.flatMap_eq_nil_iff];intro o ho;obtain⟨b,hb⟩:=f1k.1 ho;have:=hH b;unfold a02 at this;rw[hb]at this;exact this
 obtain⟨R,π,H1,h1,hg,hl⟩:=c9v (m:=H.length) (keep:=keep) (F:=F) (H:=H) (e9k _) (List.range H.length) (λb hb=>f2g.2 (hF b hb)) (λb _ c hc=>by rw[hH]at hc;simp at hc) (λb _ c hc=>by rw[hH]at hc;simp at hc) (by rw[lh,bY];simp only[e8c];omega);have al:H1.length=H.length:=by have:=hg.len [] (λb hR hb=>by have:=hg.least (λb=>b<H.length) hF (λb _ c hc=>by rw[hH]at hc;simp at hc) (λb _ c hc=>by rw[hH]at hc;simp at hc) b hR;omega);simp only[e8c,f3y]at this;omega
 rw[h1,b5g hg.low _ hF];have:H1=H:=d41 al λb hb=>by
  rw[hg.heap b b (hg.low b hb)];cases ho:a02 H b with
  |none=>rfl
  |some o=>have h2:=hH b;rw[ho]at h2;simp only[e8d];rw[c50 hg.low o (λc hc=>by rw[h2]at hc;simp at hc)]
 rw[this]
end Go.Ax
/- AxRf: loops over functions, as conditions on their ends; their rounds. -/
namespace Go.Ax
theorem d4y{E:Env}{ag:Bool}{call:CallF}{g:FuncId}{fs cs as args:List AV}{H:a03}(hx:E.ext g=false)(hf:(E.fn g).isSome=true)(he:fs++as++cs=args){v:AV}{H':a03}{σ:List Nat}
 (h:a2f (call g) args H=some (v,H',σ))(hl:H.length≤H'.length):a0a E ag call (.func (.func g) fs cs) as H=some (v,H',σ):=by
 have hb:Nat.ble H.length H'.length=true:=by rw[f1h];exact hl
 simp only[a0a,hx,hf,he,h,hb,e9i,e9q,f2n,Bool.and_false]
end Go.Ax
/- AxTwY: a slice of slices: a new slice in an empty place; the numbers that a loop's head gives to the first blocks. -/
namespace Go.Ax
theorem b2s(H:a03):∀(n:Nat) (todo aJ:List Nat),∃t,a1t H n todo aJ=aJ.reverse++t
 |0,_,aJ=>⟨[],by simp[a1t]⟩
 |n+1,[],aJ=>⟨[],by simp[a1t]⟩
 |n+1,b::todo,aJ=>by
  unfold a1t;cases a0s aJ b with
  |true=>exact b2s H n todo aJ
  |false=>obtain⟨t,ht⟩:=b2s H n (a0y (a02 H b)++todo) (b::aJ);exact⟨b::t,by simp only[e9q];rw[ht];simp⟩
theorem c1d{H:a03}{n c p b:Nat}(hc:a0y (a02 H c)=[])(hp:a0y (a02 H p)=[])(h1:c≠p)(h2:c≠b)(h3:p≠b):∃t,a1t H (n+3) [c,p,b] []=[c,p,b]++t:=by
 have e1:a1t H (n+3) [c,p,b] []=a1t H (n+2) (a0y (a02 H c)++[p,b]) [c]:=by show(bif a0s [] c then _ else _)=_;rfl
 have k1:a0s [c] p=false:=by
  cases h:a0s [c] p with
  |false=>rfl
  |true=>have:=a1u.1 h;simp at this;exact absurd this.symm h1
 have e2:a1t H (n+2) [p,b] [c]=a1t H (n+1) (a0y (a02 H p)++[b]) [p,c]:=by show(bif a0s [c] p then _ else _)=_;rw[k1];rfl
 have k2:a0s [p,c] b=false:=by
  cases h:a0s [p,c] b with
  |false=>rfl
  |true=>
   have:=a1u.1 h;simp only[e9m,List.not_mem_nil,or_false]at this;rcases this with e|e
   ·exact absurd e.symm h3
   ·exact absurd e.symm h2
 have e3:a1t H (n+1) [b] [p,c]=a1t H n (a0y (a02 H b)++[]) [b,p,c]:=by show(bif a0s [p,c] b then _ else _)=_;rw[k2];rfl
 rw[e1,hc,e7l,e2,hp,e7l,e3];obtain⟨t,ht⟩:=b2s H n (a0y (a02 H b)++[]) [b,p,c];exact⟨t,by rw[ht];simp⟩
theorem c9x{keep:List Nat}{F F1:Frm}{H H1:a03}(h:gcD 0 keep F H=some (F1,H1)){c p b:Nat}(hr:a0d ((a1o keep F).map (·.2))=[c,p,b])(hc:a0y (a02 H c)=[])(hp:a0y (a02 H p)=[])(h1:c≠p)(h2:c≠b)(h3:p≠b) :
 ∃π:Nat→Option Nat,F1=b5h π (a1o keep F)∧π c=some 0∧π p=some 1∧π b=some 2:=by
 obtain⟨_,e,_⟩:=c1y h;refine⟨_,e.symm,?_⟩;obtain⟨t,ht⟩:=c1d (n:=a35-3) hc hp h1 h2 h3;have hi:a8q 0 (a1o keep F) H=[c,p,b]++t.filter (λb=>Nat.ble 0 b):=by unfold a8q;rw[hr];simp only[e9l,f2s,e7l];rw[show a35=a35-3+3 from rfl,ht,List.filter_append];rfl
 have key:∀(x i:Nat),([c,p,b]++t.filter (λb=>Nat.ble 0 b)).idxOf? x=some i→b4u 0 (a8q 0 (a1o keep F) H) x=some i:=by intro x i hx;unfold b4u;rw[show Nat.blt x 0=false from rfl,e9q,hi,hx];simp
 have aw:∀{x y:Nat},x≠y→(x==y)=false:=λh=>f0q.2 h;refine⟨key c 0 ?_,key p 1 ?_,key b 2 ?_⟩
 ·simp[f1b]
 ·simp[f1b,aw h1]
 ·simp[f1b,aw h2,aw h3]
theorem b7j{H:a03}{b:Nat}{o:AObj}(h:a02 H b=some o):H[b]?=some (some o):=by
 unfold a02 at h;cases hx:H[b]? with
 |none=>rw[hx]at h;cases h
 |some y=>rw[hx]at h;simp only[f2f]at h;rw[h]
theorem c4o{H:a03}{a b c:AObj}(h0:a02 H 0=some a)(h1:a02 H 1=some b)(h2:a02 H 2=some c):H.take 3=[some a,some b,some c]:=by
 have g0:=b7j h0;have g1:=b7j h1;have g2:=b7j h2
 match H,g0,g1,g2 with
 |x0::x1::x2::r,g0,g1,g2=>simp at g0 g1 g2;subst g0;subst g1;subst g2;rfl
theorem a3l{m:Nat}{d:AV→Option AV}:∀{aa:List (List AV)},FlatR aa→frzT m d aa=some aa
 | [],_=>rfl
 |r::aa,h=>by have h1:a54 m true d r=some r:=a5t _ _ _ _ (h r (f2o ..));have h2:frzT m d aa=some aa:=a3l λx hx=>h x (f0w _ hx);simp only[frzT,h1,h2]
section
variable {H H1:a03}{b k:Nat}{aq:Nat→Nat}{cp:Nat→Option Nat}{fo:List (List (List AV))}
theorem Two.put(h:Two H b k aq cp fo){j n:Nat}{f:List (List AV)}(hf:fo[j]?=some [])(aw:f≠[])(hx:FlatR f)(hn:H.length≤n)
 (h1:a02 H1 b=some (.row 1 ((a2b aq cp fo).set j [.slice n 0 f.length (cp j)])))(h2:a02 H1 n=some (.row k f))
 (h3:∀(i:Nat) (g:List (List AV)),i≠j→fo[i]?=some g→g≠[]→a02 H1 (aq i)=a02 H (aq i)) :
 Two H1 b k (λi=>if i=j then n else aq i) cp (fo.set j f):=by
 have bg:j<fo.length:=(e7k.1 hf).1;have aj:∀(i:Nat) (g:List (List AV)),fo[i]?=some g→g≠[]→aq i<H.length:=λi g hg aw=>a1a (h.sub i g hg aw).1;have cj:b<H.length:=a1a h.top;refine⟨?_,?_,?_,?_⟩
 ·rw[h1]
  congr 2
  apply e9p;intro i;unfold a2b;rw[e8n,List.length_mapIdx];by_cases a8:j=i
  ·subst a8;simp only[f1a,bg];rw[e9g,e8n];simp only[f1a,bg,e8d,b5a _ _ aw]
  ·simp only[e8g a8];rw[e9g,e9g,e8n,e8g a8];simp only[e8g (f2x a8)]
 ·intro i g hg bL;rw[e8n]at hg;by_cases a8:j=i
  ·subst a8;simp only[f1a,bg,Option.some.injEq]at hg;subst hg;simp only[f1a];exact⟨h2,by omega⟩
  ·rw[e8g a8]at hg;simp only[e8g (f2x a8)];rw[h3 i g (f2x a8) hg bL];exact h.sub i g hg bL
 ·intro i i' g g' hg dc nE bL e;rw[e8n]at hg dc;by_cases a8:j=i<;>by_cases ew:j=i'
  ·omega
  ·subst a8;simp only[e8g ew]at dc;simp only[f1a,e8g (f2x ew)]at e;have:=aj i' g' dc bL;omega
  ·subst ew;simp only[e8g a8]at hg;simp only[f1a,e8g (f2x a8)]at e;have:=aj i g hg nE;omega
  ·simp only[e8g a8]at hg;simp only[e8g ew]at dc;simp only[e8g (f2x a8),e8g (f2x ew)]at e;exact h.inj i i' g g' hg dc nE bL e
 ·intro g hg;rcases f1n hg with hg|rfl
  ·exact h.flat g hg
  ·exact hx
theorem Two.frzT(h:Two H b k aq cp fo)(m:Nat)(hm:∀j f,fo[j]?=some f→f≠[]→m≤aq j):frzT m (a4e (a02 H) m 12) (a2b aq cp fo)=some (fo.mapIdx λj f=>[slF (cp j) f]):=by
 have key:∀(aa:List (List AV)) (out:List (List AV)),aa.length=out.length→(∀(j:Nat) r o,aa[j]?=some r→out[j]?=some o→a54 m true (a4e (a02 H) m 12) r=some o)→Go.Ax.frzT m (a4e (a02 H) m 12) aa=some out:=by
  intro aa
  induction aa with
  |nil=>intro out hl _;cases out with|nil=>rfl|cons=>simp at hl
  |cons r aa ih=>
   intro out hl hh;cases out with
   |nil=>simp at hl
   |cons o out=>simp only[Go.Ax.frzT];rw[hh 0 r o rfl rfl,ih out (by simpa using hl) (λj r o hr ho=>hh (j+1) r o (by simpa using hr) (by simpa using ho))]
 refine key _ _ (by rw[a2j];simp) ?_;intro j r o hr ho;rw[e9g]at ho;cases hf:fo[j]? with
 |none=>rw[hf]at ho;cases ho
 |some f=>
  rw[hf]at ho;rw[a50 hf]at hr;cases ho;cases hr;rw[a3m,b7o];cases f with
  |nil=>rfl
  |cons x xs=>obtain⟨g1,_⟩:=h.sub j _ hf (by simp);have dl:=hm j _ hf (by simp);have bY:=h.flat _ (c11 hf);simp only[slV,slF];rw[a5s,f2q (Nat.not_lt.2 dl),e9q,a4p (eq_true (by omega:0<12)),g1];simp only[a95,a0g,f0u,e9y];rw[e9w (by simp),e9i];have:List.take (xs.length+1) (x::xs)=x::xs:=f0p (l:=x::xs);rw[this,a12 _ _ bY]
end
end Go.Ax
/- AxTwZ: a slice of slices: a new slice behind the others, a slice that is b2d. -/
namespace Go.Ax
section
variable {H H1:a03}{b k:Nat}{aq:Nat→Nat}{cp:Nat→Option Nat}{fo:List (List (List AV))}
theorem Two.snoc(h:Two H b k aq cp fo){b' x:Nat}{f:List (List AV)}(aw:f≠[])(hf:FlatR f)(hb:H.length≤b')(hx:H.length≤x)(jH:x≠b')
 (h1:a02 H1 b'=some (.row 1 (a2b aq cp fo++[[.slice x 0 f.length (cp fo.length)]])))(h2:a02 H1 x=some (.row k f))
 (h3:∀(j:Nat) (g:List (List AV)),fo[j]?=some g→g≠[]→a02 H1 (aq j)=a02 H (aq j)) :
 Two H1 b' k (λj=>if j=fo.length then x else aq j) cp (fo++[f]):=by
 have aj:∀(i:Nat) (g:List (List AV)),fo[i]?=some g→g≠[]→aq i<H.length:=λi g hg aw=>a1a (h.sub i g hg aw).1;have br:∀(i:Nat) (g:List (List AV)),(fo++[f])[i]?=some g→(i=fo.length∧g=f)∨(i≠fo.length∧fo[i]?=some g):=by
  intro i g hg;by_cases hi:i<fo.length
  ·rw[e8f hi]at hg;exact .inr ⟨by omega,hg⟩
  ·rw[e8h (by omega)]at hg;have hl:=(e7k.1 hg).1;simp only[List.length_singleton]at hl;have e:i-fo.length=0:=by omega
   rw[e]at hg;exact .inl ⟨by omega,by simpa using hg.symm⟩
 refine⟨?_,?_,?_,?_⟩
 ·rw[h1]
  congr 2
  unfold a2b;rw[List.mapIdx_append]
  congr 1
  ·apply e9p;intro i;rw[e9g,e9g];cases hg:fo[i]? with
   |none=>rfl
   |some g=>have hi:=(e7k.1 hg).1;simp only[e8d,e8g (show i≠fo.length by omega)]
  ·simp[b5a _ _ aw]
 ·intro i g hg bL;rcases br i g hg with ⟨rfl,rfl⟩|⟨hi,hg⟩
  ·simp only[f1a];exact⟨h2,jH⟩
  ·simp only[e8g hi];have:=aj i g hg bL;exact⟨by rw[h3 i g hg bL];exact(h.sub i g hg bL).1,by omega⟩
 ·intro i j g g' hg dc bf cZ e;rcases br i g hg with ⟨hi,he⟩|⟨hi,hk⟩<;>rcases br j g' dc with ⟨hj,ez⟩|⟨hj,eX⟩
  ·omega
  ·simp only[e8j hi,e8g hj]at e;have:=aj j g' eX cZ;omega
  ·simp only[e8j hj,e8g hi]at e;have:=aj i g hk bf;omega
  ·simp only[e8g hi,e8g hj]at e;exact h.inj i j g g' hk eX bf cZ e
 ·intro g hg;rw[e9s,e8k]at hg;rcases hg with hg|rfl
  ·exact h.flat g hg
  ·exact hf
theorem Two.one{x:Nat}{f:List (List AV)}(aw:f≠[])(hf:FlatR f)(jH:x≠b)
 (h1:a02 H b=some (.row 1 [[.slice x 0 f.length (cp 0)]]))(h2:a02 H x=some (.row k f)):Two H b k (λ_=>x) cp [f]:=by
 have br:∀(i:Nat) (g:List (List AV)),[f][i]?=some g→i=0∧g=f:=by
  intro i g hg;have hl:=(e7k.1 hg).1;simp only[List.length_singleton]at hl;obtain rfl:i=0:=by omega
  exact⟨rfl,by simpa using hg.symm⟩
 refine⟨?_,?_,?_,?_⟩
 ·rw[h1];congr 2;simp[a2b,b5a _ _ aw]
 ·intro i g hg bL;obtain⟨rfl,rfl⟩:=br i g hg;exact⟨h2,jH⟩
 ·intro i j g g' hg dc _ _ _;rw[(br i g hg).1,(br j g' dc).1]
 ·intro g hg;rw[e8k]at hg;subst hg;exact hf
theorem Two.upd(h:Two H b k aq cp fo){j:Nat}{f f':List (List AV)}(jV:fo[j]?=some f)(aw:f≠[])(hl:f'.length=f.length)(sb:FlatR f')(tO:aq j<H.length) :
 Two (H.set (aq j) (some (.row k f'))) b k aq cp (fo.set j f'):=by
 have bg:j<fo.length:=(e7k.1 jV).1;have bL:f'≠[]:=by intro e;subst e;exact aw (f2w.1 hl.symm)
 have br:∀(i:Nat) (g:List (List AV)),(fo.set j f')[i]?=some g→(i=j∧g=f')∨(i≠j∧fo[i]?=some g):=by
  intro i g hg;rw[e8n]at hg;by_cases a8:j=i
  ·subst a8;simp only[f1a,bg,Option.some.injEq]at hg;exact .inl ⟨rfl,hg.symm⟩
  ·rw[e8g a8]at hg;exact .inr ⟨f2x a8,hg⟩
 have lE:∀(i:Nat) (g:List (List AV)),i≠j→fo[i]?=some g→g≠[]→aq j≠aq i:=λi g a8 hg hn e=>a8 (h.inj j i f g jV hg aw hn e).symm;refine⟨?_,?_,?_,?_⟩
 ·rw[a37 (h.sub j f jV aw).2,h.top]
  congr 2
  apply e9p;intro i;unfold a2b;rw[e9g,e9g,e8n];by_cases a8:j=i
  ·subst a8;simp only[f1a,bg,jV,e8d,b5a _ _ aw,b5a _ _ bL,hl]
  ·simp only[e8g a8]
 ·intro i g hg hn;rcases br i g hg with ⟨rfl,rfl⟩|⟨hi,hg⟩
  ·exact⟨b1c tO,(h.sub i f jV aw).2⟩
  ·rw[a37 (lE i g hi hg hn)];exact h.sub i g hg hn
 ·intro i i' g g' hg dc bf cZ e;rcases br i g hg with ⟨hi,he⟩|⟨hi,hk⟩<;>rcases br i' g' dc with ⟨hj,ez⟩|⟨hj,eX⟩
  ·omega
  ·subst hi;exact absurd e (lE i' g' hj eX cZ)
  ·subst hj;exact absurd e.symm (lE i g hi hk bf)
  ·exact h.inj i i' g g' hk eX bf cZ e
 ·intro g hg;rcases f1n hg with hg|rfl
  ·exact h.flat g hg
  ·exact sb
end
theorem a9e{E:Env}{d:Bool}{call:CallF}{g:FuncId}{fs cs ar args:List AV}{H L:a03}{v:AV}(hx:E.ext g=false)(hf:(E.fn g).isSome=true)(he:fs++ar++cs=args)(aD:a0d args=[])(hr:call g args []=some (v,L)) :
 a0a E d call (.func (.func g) fs cs) ar H=some (ren (a18 [] H.length) v,H++L.map (Option.map (a0e (a18 [] H.length))),[]):=by
 have hc:=a1r (call g) args H (σ:=[]) (by rw[aD];rfl) rfl rfl (au:=args) (a2t _ aD) (H0:=[]) rfl hr;rw[a6x]at hc;simp only[e8c,f0u]at hc;exact d4y hx hf he hc (by simp)
section
variable {L:a03}{b k:Nat}{aq:Nat→Nat}{cp:Nat→Option Nat}{fo:List (List (List AV))}
theorem b3m(H:a03)(i:Nat):a02 (H++L.map (Option.map (a0e (a18 [] H.length)))) (H.length+i)=(a02 L i).map (a0e (a18 [] H.length)):=by rw[a64];unfold a02;rw[e8a];cases L[i]?<;>rfl
theorem b4d(n i:Nat):a18 [] n i=some (n+i):=by
 have h:Nat.blt i 0=false:=by cases i<;>rfl
 simp[a18,h]
theorem Two.shift(h:Two L b k aq cp fo)(H:a03):Two (H++L.map (Option.map (a0e (a18 [] H.length)))) (H.length+b) k (λj=>H.length+aq j) cp fo:=by
 refine⟨?_,?_,?_,h.flat⟩
 ·rw[b3m,h.top];show some (a0e _ _)=_
  congr 1
  show AObj.row 1 _=_
  congr 1
  apply e9p;intro j;rw[e8a];cases hf:fo[j]? with
  |none=>have hl:fo.length≤j:=List.getElem?_eq_none_iff.1 hf;rw[e8m (by rw[a2j];exact hl),e8m (by rw[a2j];exact hl)];rfl
  |some f=>rw[a50 hf,a50 hf];simp only[e8d,e12,e7j];rw[c0z (c:=H.length+aq j) (λ_=>b4d _ _)]
 ·intro j f hf aw;obtain⟨h1,h2⟩:=h.sub j f hf aw;refine⟨?_,by omega⟩;rw[b3m,h1];show some (AObj.row k _)=_;rw[a05 _ (h.flat f (c11 hf))]
 ·intro i j f g hf hg h1 h2 e;exact h.inj i j f g hf hg h1 h2 (by omega)
end
section
variable {H2:a03}{b k:Nat}{aq:Nat→Nat}{cp:Nat→Option Nat}{fo:List (List (List AV))}
theorem Two.head3{keep:List Nat}{F1:Frm}(hT:Two H2 b k aq cp fo){x y kx ky:Nat}{X Y:List (List AV)}(hx:a02 H2 x=some (.row kx X))(r9:FlatR X)(hy:a02 H2 y=some (.row ky Y))(kM:FlatR Y)(gG:a0d ((a1o keep F1).map (·.2))=[x,y,b])(hn:fo.length<900000)(G:Nat→Nat→Nat→Frm)
 (mE:∀(π:Nat→Option Nat) (x' y' b':Nat),π x=some x'→π y=some y'→π b=some b'→b5h π (a1o keep F1)=G x' y' b') :
 ∃F H,gcD 0 keep F1 H2=some (F,H)∧∃(x' y' b':Nat) (aL:Nat→Nat),F=G x' y' b'∧a02 H x'=some (.row kx X)∧a02 H y'=some (.row ky Y)∧Two H b' k aL cp fo:=by
 refine hT.headX (P:=λF H=>∃(x' y' b':Nat) (aL:Nat→Nat),F=G x' y' b'∧a02 H x'=some (.row kx X)∧a02 H y'=some (.row ky Y)∧Two H b' k aL cp fo) [x,y] ?_ (by rw[gG];simp) (by rw[gG];simp) (by rw[gG];simp) (by rw[gG];simp) hn ?_
 ·intro z hz;simp only[e9m,List.not_mem_nil,or_false]at hz;rcases hz with rfl|rfl
  ·rw[hx];exact a0k r9
  ·rw[hy];exact a0k kM
 ·intro π b' aL H3 hb eG hX;obtain⟨x',e1,e2⟩:=hX x (by simp);obtain⟨y',e3,e4⟩:=hX y (by simp);refine⟨x',y',b',aL,mE π x' y' b' e1 e3 hb,?_,?_,eG⟩
  ·rw[e2,hx];show some (AObj.row kx _)=_;rw[a05 π r9]
  ·rw[e4,hy];show some (AObj.row ky _)=_;rw[a05 π kM]
end
theorem b3x{keep:List Nat}{F1:Frm}{H2:a03}{P Q:Frm→a03→Prop}(h:∃F H,gcD 0 keep F1 H2=some (F,H)∧P F H)(hq:∀F H,P F H→Q F H):∃F H,gcD 0 keep F1 H2=some (F,H)∧Q F H:=by obtain⟨F,H,h1,h2⟩:=h;exact⟨F,H,h1,hq F H h2⟩
end Go.Ax
/- AxTwc: a slice of rows that grows, and the row that is to come next: a block of rows, a block for each row that is not empty. -/
namespace Go.Ax
def cpN:Nat→Option Nat:=λ_=>none
def c39(b:Nat)(fo:List (List (List AV))):AV:=match fo with|[]=>.nilslice|_::r=>.slice b 0 (r.length+1) none
section
variable {H H1:a03}{b:Nat}{aq:Nat→Nat}{fo:List (List (List AV))}{cur:List (List AV)}
end
end Go.Ax
/- AxLog: the look at a drawn region's log, the order first. -/
namespace Go.Ax
def a72(all:List Oper)(j:Nat)(y:LogE):Nat→List LogE→Bool
 |_,[]=>true
 |0,_::_=>false
 |i+1,x::ah=>(a47 all i j || !(x.clash y))&&a72 all j y i ah
def a9p(all:List Oper):Nat→List LogE→Bool
 |_,[]=>true
 |0,_::_=>false
 |j+1,y::ah=>a72 all j y j ah&&a9p all j ah
theorem b5w(all:List Oper)(j:Nat)(y:LogE):∀(i:Nat) (l:List LogE),a72 all j y i l=logOk.logRow all j y i l
 |_,[]=>by unfold a72 logOk.logRow;rfl
 |0,_::_=>by unfold a72 logOk.logRow;rfl
 |i+1,x::ah=>by unfold a72 logOk.logRow;rw[b5w all j y i ah,Bool.or_comm]
theorem b9e(all:List Oper):∀(i:Nat) (l:List LogE),a9p all i l=logOk all i l
 |_,[]=>by unfold a9p logOk;rfl
 |0,_::_=>by unfold a9p logOk;rfl
 |j+1,y::ah=>by unfold a9p logOk;rw[b9e all j ah,b5w]
theorem xs2{F F1:Frm}{H H1:a03}{Q:b4l}{E:Env}{M:List Fact}{m N:Nat}{g:FuncId}{cur:Nat}{id an ag}{log:List LogE}(h:a8t E ag N (sem E M) an.toList an.toList [] F H=some (F1,H1,log))(hl:(!ag||a9p an.toList log.length log)=true)(hq:Q .normal F1 H1):Wp (cx E M m N g cur) (.region id an ag) F H Q:=xs h (by rw[←b9e];exact hl) hq
def c6u(all:List Oper)(j:Nat)(y:LogE):List LogE→Prop
 | []=>True
 |x::ah=>(a47 all ah.length j=true∨x.clash y=false)∧c6u all j y ah
def d6s(all:List Oper):List LogE→Prop
 | []=>True
 |y::ah=>c6u all ah.length y ah∧d6s all ah
theorem c3d{all:List Oper}:d6s all []:=by unfold d6s;trivial
theorem b9d{all:List Oper}{y:LogE}{ah:List LogE}(h1:c6u all ah.length y ah)(h2:d6s all ah):d6s all (y::ah):=by unfold d6s;exact⟨h1,h2⟩
theorem c34{all:List Oper}{j:Nat}{y:LogE}:c6u all j y []:=by unfold c6u;trivial
theorem c33{all:List Oper}{j:Nat}{y x:LogE}{ah:List LogE}(h1:a47 all ah.length j=true)(h2:c6u all j y ah):c6u all j y (x::ah):=by unfold c6u;exact⟨.inl h1,h2⟩
theorem c35{all:List Oper}{j:Nat}{y x:LogE}{ah:List LogE}(h1:x.clash y=false)(h2:c6u all j y ah):c6u all j y (x::ah):=by unfold c6u;exact⟨.inr h1,h2⟩
theorem c7u{all:List Oper}{j:Nat}{y:LogE}:∀{l:List LogE},c6u all j y l→a72 all j y l.length l=true
 | [],_=>by unfold a72;rfl
 |x::ah,h=>by
  rw[e7g];unfold a72;rw[c7u h.2,Bool.and_true];rcases h.1 with h1|h1
  ·rw[h1,Bool.true_or]
  ·rw[h1];simp
theorem c8w{all:List Oper}:∀{l:List LogE},d6s all l→a9p all l.length l=true
 | [],_=>by unfold a9p;rfl
 |y::ah,h=>by rw[e7g];unfold a9p;rw[c8w h.2,Bool.and_true];exact c7u h.1
theorem xs3{F F1:Frm}{H H1:a03}{Q:b4l}{E:Env}{M:List Fact}{m N:Nat}{g:FuncId}{cur:Nat}{id an ag}{log:List LogE}(h:a8t E ag N (sem E M) an.toList an.toList [] F H=some (F1,H1,log))(hl:d6s an.toList log)(hq:Q .normal F1 H1):Wp (cx E M m N g cur) (.region id an ag) F H Q:=xs2 h (by rw[c8w hl];simp) hq
theorem c05{x y:LogE}(h1:∀a∈x.keys,a∉y.needs)(h2:∀a∈x.keys,a∉y.keys)(h3:∀a∈x.needs,a∉y.keys):x.clash y=false:=by
 have hm:∀l k:List Nat,(∀a∈l,a∉k)→b36 l k=false:=by
  intro l k h;unfold b36;rw[List.any_eq_false];intro a ha;have:=h a ha;rw[Bool.not_eq_true];cases hc:a0s k a with
  |false=>rfl
  |true=>exact absurd (a1u.1 hc) this
 unfold LogE.clash;rw[hm _ _ h1,hm _ _ h2,hm _ _ h3];rfl
end Go.Ax
namespace Go.Ax
end Go.Ax
/- AxLd: lent calls in the walks. -/
namespace Go.Ax
theorem a6p{E:Env}{ag:Bool}{call:CallF}{g:FuncId}{fs cs as args au:List AV}{H H1:a03}{v v':AV}(hx:E.ext g=true)(hf:(E.fn g).isSome=true)(he:fs++as++cs=args)(h1:a54 0 false (a4e (a02 H) 0 12) args=some au)(hr:call g au []=some (v,H1))(hn:noI v=true)(hv:a3e 0 false (a4e (a6o H1) 0 12) v=some v') :
 a0a E ag call (.func (.func g) fs cs) as H=some (v',H,List.range H.length):=by
 simp only[a0a,hx,hf,he,e9i,a7y,h1,hr,hn,hv]
end Go.Ax
