/- AxTop: a call from outside: a3l old block is immutable. -/
import Derived.Test.YtmiegcjnimlbmaaGreatDoorAxC
import Derived.Below
import GoSem.ClaimChange
import GoSem.ClaimJoined
import Derived.RowKit
import Derived.ChangeSame
import Derived.Carry
import Derived.IntWalk
import Derived.KernelRfl
set_option linter.unusedSimpArgs false
set_option linter.unusedVariables false
namespace Go.Ax
open Go.RowKit
def Old(w:World):Nat→Prop:=λc=>c<w.heap.size
def Holds(E:Env)(w:World):Prop:=∀g cs,E.G g=some cs→g<w.heap.size∧VAt (Old w) w noP cs g 0
theorem d9e{E:Env}{f:FuncId}{run:List AV→a02→Option (AV×a02)}(lL:f≠yId)(hf:a9i E f run){args:List AV}{v:AV}{H':a02}(h:run args []=some (v,H')){w:World}(hG:Holds E w){am:List Value}(ha:VRels (Old w) w noP args am) :
 Calls E.P f am.toArray w λen w'=>∃c I' ρ',en = .returned c∧Below w.heap.size w w'∧VRel I' w' ρ' v c:=by
 have rel:HRel E.G (Old w) (λ_=>False) noP (a01 []) w:=by
  refine⟨?_,?_,?_,λc hc=>hc,λc hc=>hc.elim,λ_ _ h=>h,hG⟩
  ·intro b o hb;simp[a01]at hb
  ·intro b b' m m' hb;simp[a01]at hb
  ·intro b m hb;simp[noP]at hb
 have h0:=hf args [] v H' h (Old w) (λ_=>False) noP w am rel (λ_ _=>rfl) ha;rw[b3i lL]at h0;refine Calls.mono h0 ?_
 rintro en w' ⟨c,I',ρ',rfl,aA,hv⟩
 exact⟨c,I',ρ',rfl,⟨aA.ext.os,aA.ext.tape,aA.ext.output,aA.ext.size,λk hk=>aA.ext.keep k (.inl hk)⟩,hv⟩
theorem d04{E:Env}{f:FuncId}{run:List AV→a02→Option (AV×a02)}(lL:f≠yId)(hf:a9i E f run){args:List AV}{H':a02}(h:run args []=some (.bool true,H')){w:World}(hG:Holds E w){am:List Value}(ha:VRels (Old w) w noP args am) :
 Calls E.P f am.toArray w λen w'=>en = .returned (.bool true)∧Below w.heap.size w w':=by
 refine(d9e lL hf h hG ha).mono ?_
 rintro en w' ⟨c,I',ρ',rfl,hb,hv⟩
 simp only[VRel]at hv;subst hv;exact⟨rfl,hb⟩
end Go.Ax
/- AxRead: what the row's reading of an argument gives: abstract values of the argument's type. -/
namespace Go.Ax
def Typ(E:Env):Nat→TypeId→List AV→Prop
 |0,_,_=>False
 |n+1,t,aK=>match E.und t with
  |some .bool=>∃b,aK=[.bool b]
  |some (.int k)=>∃i,aK=[.int k i]∧(Lit.int k i).wf=true
  |some .string=>∃s,aK=[.str s]∧s.length≤maxLen
  |some (.slice e)=>aK=[.nilslice]∨∃aa cap,aK=[.islice aa (some cap)]∧aa.length≤cap∧cap≤maxLen∧∀r∈aa,r.length=E.sz e∧Typ E n e r
  |some (.struct fs)=>∃ap:List (List AV),aK=ap.flatten∧ap.length=fs.toList.length∧∀(i:Nat) f p,fs.toList[i]?=some f→ap[i]?=some p→p.length=E.sz f.type∧Typ E n f.type p
  |some (.array m e)=>∃ap:List (List AV),aK=ap.flatten∧ap.length=m∧∀p∈ap,p.length=E.sz e∧Typ E n e p
  |_=>False
def c5h(E:Env):Nat→List Field→Option Nat
 |o,[]=>some o
 |o,f::r=>bif Nat.beq f.offset o then c5h E (o+E.sz f.type) r else none
def a49(E:Env):Nat→TypeId→Bool
 |0,_=>false
 |n+1,t=>match E.und t with
  |some .bool=>true
  |some (.int _)=>true
  |some .string=>true
  |some (.slice e)=>(E.und e).isSome&&Nat.blt 0 (E.sz e)&&a49 E n e
  |some (.struct fs)=>(match c5h E 0 fs.toList with|some m=>Nat.beq m (E.sz t)|none=>false)&&fs.toList.all (λf=>(E.und f.type).isSome&&a49 E n f.type)
  |some (.array m e)=>(E.und e).isSome&&Nat.beq (m*E.sz e) (E.sz t)&&a49 E n e
  |_=>false
section
variable {E:Env}{w:World}{H:Type}{enc:TypeId×Value→H}{base:Nat}{bY:Nat→Bool}{cR:Bool}
theorem a3h(ok:EnvOk E){t:TypeId}{d:TypeDesc}(h:E.und t=some d):E.P.cellsOf t=E.sz t:=by obtain⟨_,i,hi,h1,_⟩:=ok.und t d h;simp[Program.cellsOf,hi,h1]
theorem c5z{I:Nat→Prop}{k:Nat}{b:Nat}{Pr:List AV→Prop}:∀(len off:Nat),(∀i,i<len→∃r,Pr r∧r.length=k∧VAt I w noP r b (off+i*k))→
 ∃aa:List (List AV),aa.length=len∧(∀r∈aa,r.length=k∧Pr r)∧VRows I w k noP aa b off
 |0,off,_=>⟨[],rfl,by simp,by simp[VRows]⟩
 |len+1,off,h=>by
  obtain⟨r,h1,h2,h3⟩:=h 0 (by omega);obtain⟨aa,g1,g2,g3⟩:=c5z (Pr:=Pr) len (off+k) (λi hi=>by obtain⟨r,q1,q2,q3⟩:=h (i+1) (by omega);refine⟨r,q1,q2,?_⟩;rw[show off+k+i*k=off+(i+1)*k by rw[e8q];omega];exact q3);refine⟨r::aa,by simp[g1],?_,?_⟩
  ·intro x hx;simp only[e6v]at hx;rcases hx with rfl|hx
   ·exact⟨h2,h1⟩
   ·exact g2 x hx
  ·simp only[VRows];exact⟨h2,by simpa using h3,g3⟩
theorem c1m{I:Nat→Prop}{cs:List Value}{n:Nat}:∀(fs:List Field) (o:Nat) {m:Nat},c5h E o fs=some m→m≤cs.length→
 (∀f∈fs,∃aK,VRels I w noP aK ((cs.drop f.offset).take (E.sz f.type))∧Typ E n f.type aK)→
 o≤m∧∃ap:List (List AV),ap.length=fs.length∧(∀(i:Nat) f p,fs[i]?=some f→ap[i]?=some p→p.length=E.sz f.type∧Typ E n f.type p)∧VRels I w noP ap.flatten ((cs.drop o).take (m-o))
 | [],o,m,ht,hm,_=>by simp only[c5h,Option.some.injEq]at ht;subst ht;exact⟨e6o _,[],rfl,by simp,by simp[VRels]⟩
 |f::r,o,m,ht,hm,h=>by
  simp only[c5h,cond_eq_ite]at ht;split at ht
  case isFalse=>cases ht
  rename_i g8;have g8:f.offset=o:=by simpa using g8
  obtain⟨bf,ap,h1,h2,h3⟩:=c1m r (o+E.sz f.type) ht hm (λg hg=>h g (by simp[hg]));obtain⟨aK,g1,g2⟩:=h f (by simp);rw[g8]at g1;have aj:aK.length=E.sz f.type:=by have:=VRels.length g1;rw[this];simp;omega
  refine⟨by omega,aK::ap,by simp[h1],?_,?_⟩
  ·intro i g p hg hp;cases i with
   |zero=>simp only[e7m,Option.some.injEq]at hg hp;subst hg;subst hp;exact⟨aj,g2⟩
   |succ i=>simp only[e7g]at hg hp;exact h2 i g p hg hp
  ·simp only[e80];have:(cs.drop o).take (m-o)=(cs.drop o).take (E.sz f.type)++(cs.drop (o+E.sz f.type)).take (m-(o+E.sz f.type)):=by
    rw[show m-o=E.sz f.type+(m-(o+E.sz f.type)) by omega,List.take_add,List.drop_drop]
   rw[this];exact VRels.append g1 h3
theorem d4i{I:Nat→Prop}{cs:List Value}{n k:Nat}{e:TypeId}:∀(m o:Nat),o+m*k≤cs.length→
 (∀i,i<m→∃aK,VRels I w noP aK ((cs.drop (o+i*k)).take k)∧Typ E n e aK)→
 ∃ap:List (List AV),ap.length=m∧(∀p∈ap,p.length=k∧Typ E n e p)∧VRels I w noP ap.flatten ((cs.drop o).take (m*k))
 |0,o,_,_=>⟨[],rfl,by simp,by simp[VRels]⟩
 |m+1,o,hl,h=>by
  have i3:(m+1)*k=k+m*k:=by rw[e8q];omega
  obtain⟨ap,h1,h2,h3⟩:=d4i (cs:=cs) (k:=k) (e:=e) m (o+k) (by omega) (λi hi=>by obtain⟨aK,g1,g2⟩:=h (i+1) (by omega);refine⟨aK,?_,g2⟩;rw[show o+k+i*k=o+(i+1)*k by rw[e8q];omega];exact g1);obtain⟨aK,g1,g2⟩:=h 0 (by omega);rw[Nat.zero_mul,f03]at g1;have aj:aK.length=k:=by have:=VRels.length g1;rw[this];simp;omega
  refine⟨aK::ap,by simp[h1],?_,?_⟩
  ·intro p hp;simp only[e6v]at hp;rcases hp with rfl|hp
   ·exact⟨aj,g2⟩
   ·exact h2 p hp
  ·simp only[e80];rw[i3,List.take_add,List.drop_drop];exact VRels.append g1 h3
theorem b68{α β:Type}{f:α→Option β}{l:List α}{r:List β}(h:l.mapM f=some r):∀x∈l,∃y,f x=some y:=by
 induction l generalizing r with
 |nil=>simp
 |cons a l ih=>
  rw[List.mapM_cons]at h;intro x hx;cases fS:f a with
  |none=>simp[fS]at h
  |some y=>
   simp only[fS,Option.bind_eq_bind,e8n]at h;cases hl:l.mapM f with
   |none=>simp[hl]at h
   |some r'=>
    simp only[e6v]at hx;rcases hx with rfl|hx
    ·exact⟨y,fS⟩
    ·exact ih hl x hx
theorem b3d{I:Nat→Prop}{aK:List AV}{cs:List Value}{b off:Nat}(hc:∀i v,cs[i]?=some v→w.cell? ⟨b,off+i,none⟩=some v)(h:VRels I w noP aK cs):VAt I w noP aK b off:=VAt.of_cells (λi v hv=>hc i v hv) h
theorem c69(ok:EnvOk E):∀(n:Nat) (t:TypeId),a49 E n t=true→∀(aU:Nat) (cs:List Value) (x:DataW H×List MemPlace),DataW.trod enc E.P w base bY cR aU t cs=some x→
 ∃aK,VRels (Old w) w noP aK cs∧Typ E n t aK
 |0,t,hr=>by simp[a49]at hr
 |n+1,t,hr=>by
  intro aU cs x h;cases aU with
  |zero=>simp[DataW.trod]at h
  |succ aU=>
  have ih:=c69 ok n;unfold a49 at hr;unfold DataW.trod at h;cases hu:E.und t with
  |none=>rw[hu]at hr;simp at hr
  |some d=>
   have hP:=(ok.und t d hu).1;have bu:=a3h ok hu;rw[hu]at hr;rw[hP]at h;cases d<;>simp only[e7w]at hr
   case bool=>
    obtain⟨b,rfl⟩:∃b,cs=[.bool b]:=by split at h<;>simp_all
    exact⟨[.bool b],by simp[VRels,VRel],by simp[Typ,hu]⟩
   case int k=>
    obtain⟨i,rfl,hw⟩:∃i,cs=[.int k i]∧(Lit.int k i).wf=true:=by split at h<;>simp_all
    exact⟨[.int k i],by simp[VRels,VRel],by simp[Typ,hu,hw]⟩
   case string=>
    obtain⟨b,rfl,hw⟩:∃b:ByteArray,cs=[.string b]∧b.size≤maxLen:=by split at h<;>simp_all
    exact⟨[.str b.data.toList],by simp[VRels,VRel],by simp only[Typ,hu];exact⟨_,rfl,by simpa using hw⟩⟩
   case slice e=>
    simp only[c11,e6u]at hr;obtain⟨⟨dJ,eW⟩,kg⟩:=hr;obtain⟨de,bl⟩:=e4v.1 dJ;have eP:=a3h ok bl;have bJ:cs=[.slice none 0 0]∨∃a len cap,cs=[.slice (some a) len cap]∧len≤cap∧cap≤maxLen∧
     ∃dg,((List.range len).mapM λi=>(w.cells? base (a.add (i*E.P.cellsOf e)) (E.P.cellsOf e)).bind (DataW.trod enc E.P w base bY cR aU e))=some dg:=by
     split at h
     all_goals first|(rename_i bW;cases bW;done)|(cases h;done)|skip
     ·left;rfl
     ·rename_i e' a len cap bW;cases bW;dsimp only at h;split at h
      case isFalse=>cases h
      rename_i hc;right;refine⟨a,len,cap,rfl,hc.2.1,hc.2.2,?_⟩;cases hm:((List.range len).mapM λi=>(w.cells? base (a.add (i*E.P.cellsOf e)) (E.P.cellsOf e)).bind (DataW.trod enc E.P w base bY cR aU e))with
      |none=>rw[hm]at h;simp at h
      |some dg=>exact⟨dg,rfl⟩
    rcases bJ with rfl|⟨a,len,cap,rfl,kn,b5,dg,iy⟩
    ·exact⟨[.nilslice],by simp[VRels,VRel],by simp only[Typ,hu];exact .inl trivial⟩
    ·have jz:∀i,i<len→∃r,Typ E n e r∧r.length=E.sz e∧VAt (Old w) w noP r a.block (a.off+i*E.sz e)∧a.spot=none∧a.block<w.heap.size:=by
      have cA:∀i,i<len→∃aF y,aF.length=E.sz e∧(∀j,j<E.sz e→w.cell? ((a.add (i*E.sz e)).add j)=aF[j]?)∧DataW.trod enc E.P w base bY cR aU e aF=some y:=by
       intro i hi;obtain⟨y,hy⟩:=b68 iy i (by simpa using hi);rw[eP]at hy;cases hc:w.cells? base (a.add (i*E.sz e)) (E.sz e)with
       |none=>rw[hc]at hy;simp at hy
       |some aF=>rw[hc]at hy;obtain⟨_,h2,h3⟩:=World.cells?_some hc;exact⟨aF,y,h2,h3,by simpa using hy⟩
      intro i hi;have dS:a.spot=none∧a.block<w.heap.size:=by
       obtain⟨m5,y0,h1,h2,_⟩:=cA 0 (by omega);have h3:=h2 0 eW;rw[Nat.zero_mul,show(a.add 0).add 0=a from by simp[Addr.add],z9e (by omega)]at h3;unfold World.cell? at h3;split at h3
       ·rename_i hb;refine⟨?_,(e7j.1 hb).1⟩;cases hs:a.spot with
        |none=>rfl
        |some _=>rw[hs]at h3;simp at h3
       ·cases h3
      obtain⟨aF,y,h1,h2,h3⟩:=cA i hi;obtain⟨r,q1,q2⟩:=ih e kg aU aF y h3;refine⟨r,q2,by rw[VRels.length q1,h1],b3d ?_ q1,dS⟩;intro j v hv;have hj:j<E.sz e:=by rw[←h1];exact(e5k.1 hv).1
      have:=h2 j hj;rw[hv]at this;rw[←this]
      congr 1
      obtain⟨ab,ao,as⟩:=a;obtain⟨rfl,_⟩:=dS;unfold Addr.add;split<;>split<;>simp_all
     obtain⟨aa,g1,g2,g3⟩:=c5z (Pr:=Typ E n e) len a.off (λi hi=>by obtain⟨r,q1,q2,q3,_⟩:=jz i hi;exact⟨r,q1,q2,q3⟩);refine⟨[.islice aa (some cap)],?_,by simp only[Typ,hu];exact .inr ⟨aa,cap,rfl,by omega,b5,g2⟩⟩;simp only[VRels];refine⟨_,[],rfl,?_,rfl⟩;simp only[VRel];refine⟨a,cap,E.sz e,by rw[g1],by omega,by simp,?_⟩;cases len with
     |zero=>exact .inl (List.length_eq_zero_iff.1 g1)
     |succ len=>obtain⟨_,_,_,_,q4,q5⟩:=jz 0 (by omega);exact .inr ⟨q4,q5,g3⟩
   case struct fs=>
    simp only[c11,e6x]at hr;obtain⟨dJ,eW⟩:=hr;split at dJ
    case h_2=>cases dJ
    rename_i m hm;have se:m=E.sz t:=by simpa using dJ
    have bJ:cs.length=E.P.cellsOf t∧∃xs,(fs.toList.mapM λf=>DataW.trod enc E.P w base bY cR aU f.type ((cs.drop f.offset).take (E.P.cellsOf f.type)))=some xs:=by
     dsimp only at h;split at h
     ·rename_i hl;obtain⟨xs,br,_⟩:=a05 h;exact⟨hl,xs,br⟩
     ·cases h
    obtain⟨aj,xs,br⟩:=bJ;obtain⟨_,ap,h1,h2,h3⟩:=c1m (E:=E) (I:=Old w) (w:=w) (cs:=cs) (n:=n) fs.toList 0 hm (by omega) (λf hf=>by obtain⟨y,hy⟩:=b68 br f hf;have h2:=eW f hf;obtain⟨df,ru⟩:=e4v.1 h2.1;rw[a3h ok ru]at hy;exact ih f.type h2.2 aU _ _ hy);refine⟨ap.flatten,?_,by simp only[Typ,hu];exact⟨ap,rfl,h1,h2⟩⟩;rw[e86,Nat.sub_zero,e5o (by omega)]at h3;exact h3
   case array m e=>
    simp only[c11]at hr;obtain⟨⟨dJ,eW⟩,kg⟩:=hr;obtain⟨de,bl⟩:=e4v.1 dJ;have eP:=a3h ok bl;have i3:m*E.sz e=E.sz t:=by simpa using eW
    have bJ:cs.length=E.P.cellsOf t∧∃xs,((List.range m).mapM λi=>DataW.trod enc E.P w base bY cR aU e ((cs.drop (i*E.P.cellsOf e)).take (E.P.cellsOf e)))=some xs:=by
     dsimp only at h;split at h
     ·rename_i hl;obtain⟨xs,br,_⟩:=a05 h;exact⟨hl,xs,br⟩
     ·cases h
    obtain⟨aj,xs,br⟩:=bJ;obtain⟨ap,h1,h2,h3⟩:=d4i (E:=E) (I:=Old w) (w:=w) (cs:=cs) (n:=n) (k:=E.sz e) (e:=e) m 0 (by omega) (λi hi=>by obtain⟨y,hy⟩:=b68 br i (by simpa using hi);rw[eP]at hy;rw[e7l];exact ih e kg aU _ _ hy);refine⟨ap.flatten,?_,by simp only[Typ,hu];exact⟨ap,rfl,h1,h2⟩⟩;rw[e86,e5o (by omega)]at h3;exact h3
end
end Go.Ax
/- AxArgs: a row's arguments as abstract values. -/
namespace Go.Ax
def d4o(E:Env)(n:Nat)(t:TypeId)(av:AV):Prop:=
 match E.und t with
 |some d=>bif a1t d then ∃aK,av = .agg aK∧Typ E n t aK else Typ E n t [av]
 |none=>False
def TypAs(E:Env)(n:Nat):List TypeId→List AV→Prop
 | [],aK=>aK=[]
 |t::ts,aK=>∃a r,aK=a::r∧d4o E n t a∧TypAs E n ts r
section
variable {E:Env}{w:World}{H:Type}{enc:TypeId×Value→H}{bY:Nat→Bool}{cR:Bool}{b0:Nat}
theorem e1o(ok:EnvOk E){n:Nat}{t:TypeId}{v:Value}{d:DataW H}{ps:List MemPlace}(hr:a49 E n t=true)(hv:Value.okWide E.P w .any b0 t v)(h:DataW.Trod enc E.P w 0 bY cR t v d ps) :
 ∃a,VRel (Old w) w noP a v∧d4o E n t a:=by
 obtain⟨aU,hf⟩:=h;obtain⟨aK,h1,h2⟩:=c69 ok n t hr aU _ _ hf;cases hu:E.und t with
 |none=>cases n<;>simp[a49,hu]at hr
 |some dd=>
  have hP:=(ok.und t dd hu).1;unfold Value.okWide at hv;rw[hP]at hv;cases cV:a1t dd with
  |true=>
   have hv:∃cs,v = .agg cs∧cs.size=E.P.cellsOf t∧Row.okWide E.P w .any b0 t cs:=by cases dd<;>simp[a1t]at cV<;>exact hv
   obtain⟨cs,rfl,_,_⟩:=hv;exact⟨.agg aK,by simp only[VRel];exact⟨cs,rfl,h1⟩,by simp only[d4o,hu,cV,e6m];exact⟨aK,rfl,h2⟩⟩
  |false=>
   have bO:v.cells = #[v]:=by
    cases v with
    |agg cs=>exfalso;cases dd<;>simp[a1t]at cV<;>simp[Cell.okWide,Cell.ok,hP]at hv
    |_=>rfl
   rw[bO]at h1;have h3:=h1;obtain⟨a,rfl⟩:∃a,aK=[a]:=by
    have:=VRels.length h1
    match aK,this with
    | [a],_=>exact⟨a,rfl⟩
   simp only[VRels]at h3;obtain⟨c,_,hc,h4,rfl⟩:=h3;simp only[List.cons.injEq,and_true]at hc;subst hc;exact⟨a,h4,by simp only[d4o,hu,cV,e6w];exact h2⟩
theorem c90(ok:EnvOk E){n:Nat}:∀(ts:List TypeId) (vs:List Value) (ds:List (DataW H)) (ps:List MemPlace),DataW.TrodAll enc E.P w 0 bY cR ts vs ds ps→
 (∀(j:Nat) t v,ts[j]?=some t→vs[j]?=some v→Value.okWide E.P w .any b0 t v)→(ts.all (a49 E n))=true→∃args,VRels (Old w) w noP args vs∧TypAs E n ts args
 | [],vs,ds,ps,h,_,_=>by
  cases vs with
  |nil=>exact⟨[],by simp[VRels],rfl⟩
  |cons v vs=>cases ds<;>simp[DataW.TrodAll]at h
 |t::ts,vs,ds,ps,h,hv,hr=>by
  cases vs with
  |nil=>cases ds<;>simp[DataW.TrodAll]at h
  |cons v vs=>
   cases ds with
   |nil=>simp[DataW.TrodAll]at h
   |cons d ds=>simp only[DataW.TrodAll]at h;obtain⟨p,q,h1,h2,_⟩:=h;simp only[List.all_cons,c11]at hr;obtain⟨a,g1,g2⟩:=e1o ok hr.1 (hv 0 t v rfl rfl) h1;obtain⟨r,g3,g4⟩:=c90 ok ts vs ds q h2 (λj t v ht qD=>hv (j+1) t v (by simpa using ht) (by simpa using qD)) hr.2;exact⟨a::r,by simp only[VRels];exact⟨v,vs,rfl,g1,g3⟩,⟨a,r,rfl,g2,g4⟩⟩
end
end Go.Ax
/- AxLaid: what a listed package-level variable d0p as, as abstract cells. -/
namespace Go.Ax
def c28(E:Env)(f:TypeId→DataW Unit→Option (List AV)):Nat→List Field→List (DataW Unit)→Option (List AV)
 |_,[],[]=>some []
 |o,x::fs,d::ds=>bif Nat.beq x.offset o&&(E.und x.type).isSome then
  match f x.type d,c28 E f (o+E.sz x.type) fs ds with
  |some a,some b=>bif Nat.beq a.length (E.sz x.type)then some (a++b)else none
  |_,_=>none
  else none
 |_,_,_=>none
def b2t(k:Nat)(f:DataW Unit→Option (List AV)):List (DataW Unit)→Option (List (List AV))
 | []=>some []
 |d::ds=>match f d,b2t k f ds with
  |some a,some b=>bif Nat.beq a.length k then some (a::b)else none
  |_,_=>none
def b3s(E:Env):Nat→TypeId→DataW Unit→Option (List AV)
 |0,_,_=>none
 |n+1,t,d=>match E.und t,d with
  |some .bool,.lit (.bool b)=>some [.bool b]
  |some (.int k),.lit (.int k' i)=>bif k==k' then some [.int k i]else none
  |some .string,.lit (.string s)=>some [.str s]
  |some (.struct fs),.agg ds=>match c28 E (b3s E n) 0 fs.toList ds with
   |some aK=>bif Nat.beq aK.length (E.sz t)then some aK else none
   |none=>none
  |some (.array m e),.agg ds=>bif (E.und e).isSome&&Nat.beq (m*E.sz e) (E.sz t)&&Nat.beq ds.length m then(b2t (E.sz e) (b3s E n e) ds).map List.flatten else none
  |some (.slice _),.nil=>some [.nilslice]
  |some (.slice e),.slice es bY=>bif (E.und e).isSome&&Nat.blt 0 (E.sz e)&&Nat.blt 0 es.length then(b2t (E.sz e) (b3s E n e) es).map λaa=>[.islice aa (some (es.length+bY.length))]else none
  |_,_=>none
section
variable {E:Env}{w:World}{enc:TypeId×Value→Unit}{base:Nat}{cR:Bool}
theorem a6g{α β:Type}{f:α→Option β}{a:α}{l:List α}{r:List β}(h:(a::l).mapM f=some r):∃b r',f a=some b∧l.mapM f=some r'∧r=b::r':=by
 rw[List.mapM_cons]at h;cases fS:f a with
 |none=>simp[fS]at h
 |some y=>
  simp only[fS,Option.bind_eq_bind,e8n]at h;cases hl:l.mapM f with
  |none=>simp[hl]at h
  |some r'=>simp only[hl,e8n]at h;cases h;exact⟨y,r',rfl,rfl,rfl⟩
theorem b66{α β:Type}{f:α→Option β}:∀{l:List α} {r:List β},l.mapM f=some r→r.length=l.length
 | [],r,h=>by cases h;rfl
 |a::l,r,h=>by obtain⟨b,r',_,h2,rfl⟩:=a6g h;simp[b66 h2]
theorem b67{α β:Type}{f:α→Option β}:∀{l:List α} {r:List β},l.mapM f=some r→∀(i:Nat) a,l[i]?=some a→∃b,f a=some b∧r[i]?=some b
 | [],r,h,i,a,ha=>by simp at ha
 |x::l,r,h,i,a,ha=>by
  obtain⟨b,r',h1,h2,rfl⟩:=a6g h;cases i with
  |zero=>simp only[e7m,Option.some.injEq]at ha;subst ha;exact⟨b,h1,rfl⟩
  |succ i=>simp only[e7g]at ha⊢;exact b67 h2 i a ha
theorem b01{k:Nat}{f:DataW Unit→Option (List AV)}:∀{ds:List (DataW Unit)} {aa:List (List AV)},b2t k f ds=some aa→aa.length=ds.length
 | [],aa,h=>by cases h;rfl
 |d::ds,aa,h=>by
  simp only[b2t]at h;split at h
  case h_2=>cases h
  rename_i a b ha hb;rw[cond_eq_ite]at h;split at h
  ·cases h;simp[b01 hb]
  ·cases h
theorem b02{k:Nat}{f:DataW Unit→Option (List AV)}:∀{ds:List (DataW Unit)} {aa:List (List AV)},b2t k f ds=some aa→∀(i:Nat) d,ds[i]?=some d→∃a,f d=some a∧a.length=k∧aa[i]?=some a
 | [],aa,h,i,d,hd=>by simp at hd
 |x::ds,aa,h,i,d,hd=>by
  simp only[b2t]at h;split at h
  case h_2=>cases h
  rename_i a b ha hb;rw[cond_eq_ite]at h;split at h
  case isFalse=>cases h
  rename_i hk;cases h;cases i with
  |zero=>simp only[e7m,Option.some.injEq]at hd;subst hd;exact⟨a,ha,by simpa using hk,rfl⟩
  |succ i=>simp only[e7g]at hd⊢;exact b02 hb i d hd
theorem b2w{I:Nat→Prop}{cs:List Value}{f:TypeId→DataW Unit→Option (List AV)}{g:Field→Option (DataW Unit×List MemPlace)}
 (hg:∀x y aK,g x=some y→f x.type y.1=some aK→VRels I w noP aK ((cs.drop x.offset).take (E.sz x.type))) :
 ∀(fs:List Field) (o:Nat) {xs:List (DataW Unit×List MemPlace)} {aK:List AV},fs.mapM g=some xs→c28 E f o fs (xs.map (·.1))=some aK→VRels I w noP aK ((cs.drop o).take aK.length)
 | [],o,xs,aK,hm,hf=>by cases hm;cases hf;simp[VRels]
 |x::fs,o,xs,aK,hm,hf=>by
  obtain⟨y,ys,h1,h2,rfl⟩:=a6g hm;simp only[e4r,c28]at hf;rw[cond_eq_ite]at hf;split at hf
  case isFalse=>cases hf
  rename_i hc;simp only[c11,f08]at hc;split at hf
  case h_2=>cases hf
  rename_i a b ha hb;rw[cond_eq_ite]at hf;split at hf
  case isFalse=>cases hf
  rename_i hl;rw[f08]at hl;cases hf;have ih:=b2w hg fs _ h2 hb;have h3:=hg x y a h1 ha;rw[hc.1,←hl]at h3;rw[e6k,List.take_add,List.drop_drop,hl]at *;exact VRels.append h3 ih
theorem b7q{I:Nat→Prop}{cs:List Value}{k:Nat}:∀(aa:List (List AV)) (o:Nat),(∀(i:Nat) r,aa[i]?=some r→r.length=k∧VRels I w noP r ((cs.drop (o+i*k)).take k))→
 VRels I w noP aa.flatten ((cs.drop o).take (aa.length*k))
 | [],o,_=>by simp[VRels]
 |r::aa,o,h=>by have h0:=h 0 r rfl;have ih:=b7q aa (o+k) (λi r hr=>by have:=h (i+1) r (by simpa using hr);rw[show o+k+i*k=o+(i+1)*k by rw[e8q];omega];exact this);simp only[e80,e5l];rw[show(aa.length+1)*k=k+aa.length*k by rw[e8q];omega,List.take_add,List.drop_drop];refine VRels.append ?_ ih;simpa using h0.2
theorem b86(ok:EnvOk E):∀(n:Nat) (t:TypeId) (aU:Nat) (cs:List Value) (x:DataW Unit×List MemPlace) (aK:List AV),DataW.trod enc E.P w base (λ_=>true) cR aU t cs=some x→b3s E n t x.1=some aK→
 VRels (Old w) w noP aK cs
 |0,t,aU,cs,x,aK,_,hf=>by simp[b3s]at hf
 |n+1,t,0,cs,x,aK,h,hf=>by simp[DataW.trod]at h
 |n+1,t,aU+1,cs,x,aK,h,hf=>by
  have ih:=b86 ok n;unfold b3s at hf;unfold DataW.trod at h;cases hu:E.und t with
  |none=>rw[hu]at hf;simp at hf
  |some dd=>
   have hP:=(ok.und t dd hu).1;have qG:=a3h ok hu;rw[hu]at hf;rw[hP]at h;cases dd
   case bool=>
    obtain⟨b,rfl,rfl⟩:∃b,cs=[.bool b]∧x=(.lit (.bool b),[]):=by split at h<;>simp_all
    simp only[Option.some.injEq]at hf;subst hf;simp[VRels,VRel]
   case int k=>
    obtain⟨b,rfl,rfl⟩:∃b,cs=[.int k b]∧x=(.lit (.int k b),[]):=by split at h<;>simp_all
    simp only[cond_eq_ite]at hf;split at hf
    ·cases hf;simp[VRels,VRel]
    ·cases hf
   case string=>
    obtain⟨b,rfl,rfl⟩:∃b:ByteArray,cs=[.string b]∧x=(.lit (.string b.data.toList),[]):=by split at h<;>simp_all
    simp only[Option.some.injEq]at hf;subst hf;simp[VRels,VRel]
   case struct fs=>
    dsimp only at h;split at h
    case isFalse=>cases h
    rename_i hl;obtain⟨xs,br,rfl⟩:=a05 h;dsimp only at hf;split at hf
    case h_2=>cases hf
    rename_i rW dY;rw[cond_eq_ite]at hf;split at hf
    case isFalse=>cases hf
    rename_i e6;rw[f08]at e6;cases hf;have key:=b2w (E:=E) (I:=Old w) (w:=w) (cs:=cs) (f:=b3s E n)
     (g:=λf=>DataW.trod enc E.P w base (λ_=>true) cR aU f.type ((cs.drop f.offset).take (E.P.cellsOf f.type))) ?_ fs.toList 0 br dY
    ·rw[e86,e5o (by omega)]at key;exact key
    ·intro x y aK hy fS;have d7:∃dx,E.und x.type=some dx:=by
      cases n with
      |zero=>simp[b3s]at fS
      |succ n=>unfold b3s at fS;cases hux:E.und x.type with
       |none=>rw[hux]at fS;simp at fS
       |some dx=>exact⟨dx,rfl⟩
     obtain⟨dx,rp⟩:=d7;rw[a3h ok rp]at hy;exact ih x.type aU _ y aK hy fS
   case array m e=>
    dsimp only at h;split at h
    case isFalse=>cases h
    rename_i hl;obtain⟨xs,br,rfl⟩:=a05 h;dsimp only at hf;rw[cond_eq_ite]at hf;split at hf
    case isFalse=>cases hf
    rename_i hc;simp only[c11,f08]at hc;obtain⟨aa,aw,rfl⟩:=a05 hf;obtain⟨de,bl⟩:=e4v.1 hc.1.1;have eP:=a3h ok bl;have aj:aa.length=m:=by rw[b01 aw];simpa using hc.2
    have key:=b7q (I:=Old w) (w:=w) (cs:=cs) (k:=E.sz e) aa 0 (λi r hr=>by
     have hi:i<m:=by rw[←aj];exact(e5k.1 hr).1
     obtain⟨y,hy,ne⟩:=b67 br i i (by simp[hi]);obtain⟨a,ha,fK,l3⟩:=b02 aw i y.1 (by simp[ne]);rw[hr]at l3;cases l3;refine⟨fK,?_⟩;rw[e7l];rw[eP]at hy;exact ih e aU _ y r hy ha)
    rw[e86,e5o (by rw[aj];omega)]at key;exact key
   case slice e=>
    split at h
    all_goals first|(rename_i bW;cases bW;done)|(cases h;done)|skip
    ·cases h;simp only[Option.some.injEq]at hf;subst hf;simp[VRels,VRel]
    ·rename_i e' a len cap bW;cases bW;dsimp only at h;split at h
     case isFalse=>cases h
     rename_i hc;cases hm:((List.range len).mapM λi=>(w.cells? base (a.add (i*E.P.cellsOf e)) (E.P.cellsOf e)).bind (DataW.trod enc E.P w base (λ_=>true) cR aU e))with
     |none=>rw[hm]at h;simp at h
     |some dg=>
      rw[hm]at h;simp only[e8n,e8f]at h;obtain⟨ai,b3,rfl⟩:=a05 h;dsimp only at hf;rw[cond_eq_ite]at hf;split at hf
      case isFalse=>cases hf
      rename_i fJ;simp only[c11,e6u,c10]at fJ;obtain⟨aa,aw,rfl⟩:=a05 hf;obtain⟨de,bl⟩:=e4v.1 fJ.1.1;have eP:=a3h ok bl;have py:aa.length=dg.length:=by rw[b01 aw];simp
      have bf:dg.length=len:=by rw[b66 hm];simp
      have nP:ai.length=cap-len:=by rw[b66 b3];simp
      have cA:∀i,i<len→∃aF y,dg[i]?=some y∧aF.length=E.sz e∧(∀j,j<E.sz e→w.cell? ((a.add (i*E.sz e)).add j)=aF[j]?)∧DataW.trod enc E.P w base (λ_=>true) cR aU e aF=some y:=by
       intro i hi;obtain⟨y,hy,ne⟩:=b67 hm i i (by simp[hi]);rw[eP]at hy;cases cM:w.cells? base (a.add (i*E.sz e)) (E.sz e)with
       |none=>rw[cM]at hy;simp at hy
       |some aF=>rw[cM]at hy;obtain⟨_,h2,h3⟩:=World.cells?_some cM;exact⟨aF,y,ne,h2,h3,by simpa using hy⟩
      have dS:a.spot=none∧a.block<w.heap.size:=by
       obtain⟨m5,y0,_,h1,h2,_⟩:=cA 0 (by omega);have h3:=h2 0 fJ.1.2;rw[Nat.zero_mul,show(a.add 0).add 0=a from by simp[Addr.add],z9e (by omega)]at h3;unfold World.cell? at h3;split at h3
       ·rename_i hb;refine⟨?_,(e7j.1 hb).1⟩;cases hs:a.spot with
        |none=>rfl
        |some _=>rw[hs]at h3;simp at h3
       ·cases h3
      simp only[VRels];refine⟨_,[],rfl,?_,rfl⟩;simp only[VRel];refine⟨a,cap,E.sz e,by rw[py,bf],by omega,λn hn=>by cases hn;simp;omega,.inr ⟨dS.1,dS.2,?_⟩⟩;have key:∀(a6:List (List AV)) (o:Nat),(∀(i:Nat) r,a6[i]?=some r→r.length=E.sz e∧VAt (Old w) w noP r a.block (a.off+(o+i)*E.sz e))→VRows (Old w) w (E.sz e) noP a6 a.block (a.off+o*E.sz e):=by
       intro a6
       induction a6 with
       |nil=>intro o _;simp[VRows]
       |cons r rs ihr=>intro o hh;have h0:=hh 0 r rfl;simp only[VRows];refine⟨h0.1,by simpa using h0.2,?_⟩;rw[show a.off+o*E.sz e+E.sz e=a.off+(o+1)*E.sz e by rw[e8q];omega];refine ihr (o+1) (λi r hr=>?_);have:=hh (i+1) r (by simpa using hr);rw[show o+1+i=o+(i+1) by omega];exact this
      have:=key aa 0 (λi r hr=>by
       have hi:i<len:=by rw[←bf,←py];exact(e5k.1 hr).1
       obtain⟨aF,y,h0,h1,h2,h3⟩:=cA i hi;obtain⟨av,ha,fK,l3⟩:=b02 aw i y.1 (by simp[h0]);rw[hr]at l3;cases l3;refine⟨fK,?_⟩;rw[e7l];refine b3d ?_ (ih e aU _ y r h3 ha);intro j v hv;have hj:j<E.sz e:=by rw[←h1];exact(e5k.1 hv).1
       have:=h2 j hj;rw[hv]at this;rw[←this]
       congr 1
       obtain⟨ab,ao,as⟩:=a;obtain⟨rfl,_⟩:=dS;unfold Addr.add;split<;>split<;>simp_all)
      simpa using this
   all_goals (simp only at hf;first|(cases hf;done)|(split at hf<;>cases hf))
theorem holds_of_laid(ok:EnvOk E){laid:List (String×DataW Unit)}(h:laidMet E.P laid w)
 (hG:∀g cs,E.G g=some cs→∃x∈laid,E.P.globalNamed x.1=some g∧∃t,(E.P.globals[g]?).map (·.type)=some t∧b3s E 8 t x.2=some cs):Holds E w:=by
 obtain⟨ps,hv,bz,bO⟩:=h;have aT:∀(l:List (String×DataW Unit)) ps,DataW.LaidVars E.P w l ps→∀x∈l,∃g t cs aU p,E.P.globalNamed x.1=some g∧(E.P.globals[g]?).map (·.type)=some t∧w.var? E.P x.1=some cs∧DataW.trod (λ_=>()) E.P w 0 (λ_=>true) false aU t cs.toList=some (x.2,p):=by
  intro l
  induction l with
  |nil=>intro ps _ x hx;simp at hx
  |cons y r ih=>
   intro ps hv x hx;obtain⟨n,d⟩:=y;simp only[DataW.LaidVars]at hv;obtain⟨g,t,cs,aU,p,q,h1,h2,h3,h4,h5,_⟩:=hv;simp only[e6v]at hx;rcases hx with rfl|hx
   ·exact⟨g,t,cs,aU,p,h1,h2,h3,h4⟩
   ·exact ih q h5 x hx
 intro g cs hg;obtain⟨x,hx,h1,t,h2,h3⟩:=hG g cs hg;obtain⟨g',t',aF,aU,p,k1,k2,k3,k4⟩:=aT laid ps hv x hx;obtain rfl:g'=g:=z9o (k1.symm.trans h1);obtain rfl:t'=t:=z9o (k2.symm.trans h2);have hr:=b86 ok 8 t' aU _ (x.2,p) cs k4 h3;unfold World.var? at k3;rw[k1]at k3;simp only[e8n]at k3;split at k3
 case h_2=>cases k3
 rename_i sK e fz i8;cases k3;refine⟨(e7j.1 i8).1,?_⟩;refine VAt.of_cells (cs:=aF.toList) (CellsAt.of_heap i8 ?_) hr;intro j v hv;simpa using hv
end
end Go.Ax
/- AxLaw: from a run of a law's body that answers true, for all d4x arguments, to what a row asks. -/
namespace Go.Ax
open Go.ChangeShapes Go.WideShapes Go.RowKit
section
variable {E:Env}{H:Type}{enc:TypeId×Value→H}
theorem a8r{P:Program}(hl:laidOutB P=true){W W':World}(hb:Below W.heap.size W W'){sp:Nat→Bool}:∀(ts:List TypeId) (vs:List Value) (ds:List (DataW H)) (ps:List MemPlace),
 (ts.all λt=>P.readableRec t&&decide (t<P.types.size))=true→(∀p∈ps,p.block<W.heap.size)→(∀p∈ps,sp p.block=true)→
 DataW.TrodAll enc P W 0 (λ_=>true) true ts vs ds ps→DataW.TrodAll enc P W' 0 sp true ts vs ds ps
 | [],vs,ds,ps,_,_,_,h=>by cases vs<;>cases ds<;>simp only[DataW.TrodAll]at h⊢<;>exact h
 |t::ts,vs,ds,ps,hr,ak,hs,h=>by
  cases vs with
  |nil=>simp[DataW.TrodAll]at h
  |cons v vs=>
   cases ds with
   |nil=>simp[DataW.TrodAll]at h
   |cons d ds=>simp only[DataW.TrodAll]at h⊢;obtain⟨p,q,h1,h2,rfl⟩:=h;simp only[List.all_cons,c11,e6l]at hr;refine⟨p,q,?_,a8r hl hb ts vs ds q hr.2 (λx hx=>ak x (by simp[hx])) (λx hx=>hs x (by simp[hx])) h2,rfl⟩;exact WideElems.Trod_stays hl hr.1.1 hr.1.2 h1 (λx hx=>hb.same (ak x (by simp[hx]))) (λx hx=>hs x (by simp[hx]))
theorem d1g{P:Program}(hl:laidOutB P=true){f:Func}{s:ChangeSpec}(eG:s.vars=[]){n:Nat}(hn:f.params.toList.length=n)
 (hs:∀ds:List (DataW H),ds.length=n→(s.fn H ds).results=[.lit (.bool true)]∧(s.fn H ds).args=ds∧(s.fn H ds).vars=[]){tb:TypeId}(dI:f.resultTypes = #[tb])(iT:P.underlying tb=some .bool)
 (jE:(f.params.toList.all λt=>P.readableRec t&&decide (t<P.types.size))=true)
 {W W':World}{args:Array Value}{ds gs:List (DataW H)}{bm:List MemPlace}(hW:DataW.Whole enc P f.params.toList s.vars false W args.toList ds gs bm)(hb:Below W.heap.size W W') :
 s.post enc P f false true false false W args (.bool true) W':=by
 have ak:∀p∈bm,p.block<W.heap.size:=λp hp=>hW.lt p hp;have aJ:∀p∈bm,(λb=>decide (b<W.heap.size)) p.block=true:=λp hp=>by simpa using ak p hp
 have rH:=hW;obtain⟨p,q,hA,hV,rfl,hz,bz⟩:=hW;rw[eG]at hV;obtain⟨rfl,rfl⟩:=trodVars_none hV;have aj:ds.length=n:=by
  have:∀(ts:List TypeId) (vs:List Value) (ds:List (DataW H)) (ps:List MemPlace),DataW.TrodAll enc P W 0 (λ_=>true) true ts vs ds ps→ds.length=ts.length:=by
   intro ts
   induction ts with
   |nil=>intro vs ds ps h;cases vs<;>cases ds<;>simp[DataW.TrodAll]at h<;>rfl
   |cons t ts ih=>
    intro vs ds ps h;cases vs with
    |nil=>simp[DataW.TrodAll]at h
    |cons v vs=>cases ds with
     |nil=>simp[DataW.TrodAll]at h
     |cons d ds=>simp only[DataW.TrodAll]at h;obtain⟨p,q,_,h2,_⟩:=h;simp[ih vs ds q h2]
  rw[this _ _ _ _ hA,hn]
 obtain⟨s1,s2,s3⟩:=hs (ds++[]) (by simpa using aj);rw[e4t]at ak aJ;have aG:∀sp:Nat→Bool,(∀x∈p,sp x.block=true)→DataW.TrodAll enc P W' 0 sp true f.params.toList args.toList (s.fn H (ds++[])).args p:=by intro sp nt;rw[s2,e4t];exact a8r hl hb _ _ _ _ jE ak nt hA
 have iO:∀sp:Nat→Bool,DataW.TrodVars enc P W' sp s.vars (s.fn H (ds++[])).vars []:=by intro sp;rw[s3,eG];rfl
 have dJ:∀(b:Nat) (sp:Nat→Bool) (hd:Bool),DataW.TrodAll enc P W' b sp hd f.resultTypes.toList ((Value.bool true).resultList f.resultTypes.size) (s.fn H (ds++[])).results []:=by intro b sp hd;rw[s1,dI];exact⟨[],[],⟨1,by simp[DataW.trod,iT,Value.cells]⟩,rfl,rfl⟩
 refine⟨ds,[],p++[],[],p,[],rH,dJ _ _ _,aG _ aJ,iO _,World.keptBut_mono (λx hx=>⟨hx,?_⟩) (hb.frame (·∈p++[])),λ_=>?_⟩
 ·simpa using hx
 ·refine⟨?_,_,_,([]++p)++[],⟨[]++p,[],trodAll_append (aG _ (λ_ _=>rfl)) (dJ _ _ _),iO _,rfl,?_,?_⟩,?_⟩
  ·intro j t r hj hv;rw[dI]at hj hv
   match j,hj,hv with
   |0,hj,hv=>simp[Value.resultList]at hj hv;subst hj;subst hv;exact okWide_bool_mk iT true
  ·intro b off hp;have bS:MemPlace.cell b off∈p:=by simpa using hp
   rw[hb.frozen (ak _ bS)];exact hz b off (by simpa using bS)
  ·intro ha;cases ha
  ·intro x hx _;simpa using hx
theorem law_contract(ok:EnvOk E)(hl:laidOutB E.P=true){f:FuncId}{fn:Func}{run:List AV→a02→Option (AV×a02)}(lL:f≠yId)(hf:a9i E f run){m:Nat}
 (lc:(fn.params.toList.all (a49 E m))=true)(ae:∀args,TypAs E m fn.params.toList args→∃H',run args []=some (.bool true,H'))
 {s:ChangeSpec}(eG:s.vars=[]){n:Nat}(hn:fn.params.toList.length=n)
 (hs:∀ds:List (DataW H),ds.length=n→(s.fn H ds).results=[.lit (.bool true)]∧(s.fn H ds).args=ds∧(s.fn H ds).vars=[]){tb:TypeId}(dI:fn.resultTypes = #[tb])(iT:E.P.underlying tb=some .bool)
 (jE:(fn.params.toList.all λt=>E.P.readableRec t&&decide (t<E.P.types.size))=true)
 (W:World)(base:Nat)(args:Array Value)(ds gs:List (DataW H))(bm:List MemPlace)
 (cF:∀(j:Nat) t v,fn.params[j]?=some t→args[j]?=some v→Value.okWide E.P W .any base t v)
 (hW:DataW.Whole enc E.P fn.params.toList s.vars false W args.toList ds gs bm)(hG:Holds E W) :
 Calls E.P f args W λe W'=>∃v,e = .returned v∧s.post enc E.P fn false true false false W args v W':=by
 have hA:=hW;obtain⟨p,q,hA,_⟩:=hA;obtain⟨aK,h1,h2⟩:=c90 (b0:=base) ok (n:=m) fn.params.toList args.toList ds p hA (λj t v ht hv=>cF j t v (by simpa using ht) (by simpa using hv)) lc;obtain⟨H',hr⟩:=ae aK h2;have:=d04 lL hf hr hG h1;rw[Array.toArray_toList]at this;refine this.mono ?_
 rintro e W' ⟨rfl,hb⟩
 exact⟨_,rfl,d1g hl eG hn hs dI iT jE hW hb⟩
end
end Go.Ax
/- AxSem: what a call comes to, a3b fuel for the calls: a function 'sem', closed under running a body over itself. No condition. -/
namespace Go.Ax
abbrev CallF:=FuncId→List AV→a02→Option (AV×a02)
def CallF.le(c c':CallF):Prop:=∀g a H r,c g a H=some r→c' g a H=some r
theorem a7i{r r':List AV→a02→Option (AV×a02)}(h:∀a H x,r a H=some x→r' a H=some x){args:List AV}{H:a02}{x:AV×a02×List Nat}
 (hc:a27 r args H=some x):a27 r' args H=some x:=by
 unfold a27 at hc⊢;simp only at hc⊢;rw[cond_eq_ite]at hc⊢;split at hc
 case isFalse=>cases hc
 rename_i h1;rw[e6q h1];split at hc
 case h_2=>cases hc
 rename_i v H1 hr;rw[h _ _ _ hr];exact hc
theorem b85{r r':List AV→a02→Option (AV×a02)}(h:∀a H x,r a H=some x→r' a H=some x){args:List AV}{H:a02}{x:AV×a02×List Nat}
 (hc:a7b r args H=some x):a7b r' args H=some x:=by
 unfold a7b at hc⊢;split at hc
 case h_2=>cases hc
 rename_i aq h1;split at hc
 case h_2=>cases hc
 rename_i v H1 hr;rw[h _ _ _ hr];exact hc
section
variable {E:Env}{ah:Bool}{N:Nat}{c c':CallF}(hc:CallF.le c c')
include hc
theorem c4m{f:AV}{args:List AV}{H:a02}{x:AV×a02×List Nat}(h:a09 E ah c f args H=some x):a09 E ah c' f args H=some x:=by
 unfold a09 at h⊢;split at h
 case h_3=>cases h
 case h_2=>
  split at h
  case h_2=>cases h
  rename_i v H' σ hr;rw[a7i (λa H x=>hc yId a H x) hr];exact h
 rename_i g fs cs;rw[cond_eq_ite]at h⊢;split at h
 ·rename_i h1;rw[e6q h1];rw[cond_eq_ite]at h⊢;split at h
  ·rename_i h2;rw[e6q h2];exact b85 (λa H x=>hc g a H x) h
  ·rename_i h2;rw[e5s h2];exact h
 ·rename_i h1;rw[e5s h1];rw[cond_eq_ite]at h⊢;split at h
  case isFalse=>cases h
  rename_i h2;rw[e6q h2];split at h
  case h_2=>cases h
  rename_i v H' σ hr;rw[a7i (λa H x=>hc g a H x) hr];exact h
theorem b9e{F:Frm}{H:a02}{op:Op}{x:AV×a02×LogE}(h:a0n E ah c F H op=some x):a0n E ah c' F H op=some x:=by
 unfold a0n at h⊢;split at h
 ·split at h
  case h_2=>cases h
  rename_i v H' σ hr;rw[c4m hc hr];exact h
 ·exact h
theorem b1q{R:Type}{all:List Oper}{k k':Frm→a02→Option R}(hk:∀F H r,k F H=some r→k' F H=some r):∀(an:List Oper) (log:List LogE) (F:Frm) (H:a02) {r:R},
 a22 E ah N c all an log F H k=some r→a22 E ah N c' all an log F H k'=some r:=by
 intro an
 induction an with
 |nil=>
  intro log F H r h;unfold a22 at h⊢;rw[cond_eq_ite]at h⊢;split at h
  case isFalse=>cases h
  rename_i h1;rw[e6q h1];exact hk _ _ _ h
 |cons o ai ih=>
  have step:∀(log:List LogE) (F F':Frm) (H:a02) (op:Op) (r:R),(match a0n E ah c F H op with
   |some (v,H',l)=>a22 E ah N c all ai (l::log) (a32 F' o.dst v) H' k
   |none=>none)=some r→(match a0n E ah c' F H op with
   |some (v,H',l)=>a22 E ah N c' all ai (l::log) (a32 F' o.dst v) H' k'
   |none=>none)=some r:=by
   intro log F F' H op r h;split at h
   case h_2=>cases h
   rename_i v H' l hs;rw[b9e hc hs];exact ih _ _ _ h
  intro log F H r h;unfold a22 at h⊢;rw[cond_eq_ite]at h⊢;split at h
  case isFalse=>cases h
  rename_i h1;rw[e6q h1];split at h
  ·exact step _ _ _ _ _ _ h
  ·rename_i j bj hg;split at h
   ·cases h
   ·rename_i d hd;split at h
    ·rename_i b hb;rw[cond_eq_ite]at h⊢;split at h
     ·rename_i ow;rw[e6q ow];rw[cond_eq_ite]at h⊢;split at h
      ·rename_i hw;rw[e6q hw];exact step _ _ _ _ _ _ h
      ·rename_i hw;rw[e5s hw];exact ih _ _ _ h
     ·rename_i ow;rw[e5s ow];rw[cond_eq_ite]at h⊢;split at h
      ·rename_i hw;rw[e6q hw];exact ih _ _ _ h
      ·rename_i hw;rw[e5s hw];exact step _ _ _ _ _ _ h
    ·exact ih _ _ _ h
    ·cases h
omit hc in
theorem b4n{m0:Nat}{keep:List Nat}{R:Type}{b b':Frm→a02→(AExit→Frm→a02→Option R)→Option R}
 (hb:∀F H (k k':AExit→Frm→a02→Option R),(∀e F H r,k e F H=some r→k' e F H=some r)→∀r,b F H k=some r→b' F H k'=some r):∀(n n':Nat),n≤n'→∀(F:Frm) (H:a02) (k k':AExit→Frm→a02→Option R),(∀e F H r,k e F H=some r→k' e F H=some r)→∀{r:R},
 b0x m0 keep b n F H k=some r→b0x m0 keep b' n' F H k'=some r
 |0,_,_,F,H,k,k',_,r,h=>by simp[b0x]at h
 |n+1,0,hn,F,H,k,k',_,r,h=>by omega
 |n+1,n'+1,hn,F,H,k,k',hk,r,h=>by
  unfold b0x at h⊢;simp only at h⊢;rw[cond_eq_ite]at h⊢;split at h
  case isFalse=>cases h
  rename_i h1;rw[e6q h1];refine hb _ _ _ _ ?_ r h;intro e F H r h;cases e with
  |normal=>exact b4n hb n n' (by omega) F H k k' hk h
  |exit id=>exact hk _ _ _ _ h
  |ret=>exact hk _ _ _ _ h
omit hc in
theorem b1s{m0 it:Nat}{keep:List Nat}{ks aH:List Int}{b b':Frm→a02→(AExit→Frm→a02→Option R3)→Option R3}
 (hb:∀F H (k k':AExit→Frm→a02→Option R3),(∀e F H r,k e F H=some r→k' e F H=some r)→∀r,b F H k=some r→b' F H k'=some r){a:Option Int}{F:Frm}{H:a02}{x:R3}(h:b0g m0 it keep ks aH b a F H=some x):b0g m0 it keep ks aH b' a F H=some x:=by
 unfold b0g at h⊢;split at h
 case h_2=>cases h
 rename_i F1 H1 hg;split at h
 case h_2=>cases h
 rename_i H2 ha;exact hb _ _ _ _ (λ_ _ _ _ h=>h) _ h
omit hc in
theorem b1z{m0 it:Nat}{keep:List Nat}{ks:List Int}{b b':Frm→a02→(AExit→Frm→a02→Option R3)→Option R3}
 (hb:∀F H (k k':AExit→Frm→a02→Option R3),(∀e F H r,k e F H=some r→k' e F H=some r)→∀r,b F H k=some r→b' F H k'=some r):∀{o aH:List Int} {F:Frm} {H:a02} {x:R3},a4o m0 it keep ks b aH o F H=some x→a4o m0 it keep ks b' aH o F H=some x
 | [],aH,F,H,x,h=>by
  unfold a4o at h⊢;split at h
  ·cases h
  ·rename_i e F' H' az hr;rw[b1s hb hr];cases e with
   |normal=>exact(az rfl).elim
   |exit id=>exact h
   |ret=>exact h
  ·cases h
 |i::o,aH,F,H,x,h=>by
  unfold a4o at h⊢;split at h
  case h_2=>cases h
  rename_i F' H' hr;rw[b1s hb hr];exact b1z hb h
omit hc in
theorem c3q{m0 it:Nat}{keep:List Nat}{R:Type}{b b':Frm→a02→(AExit→Frm→a02→Option R3)→Option R3}
 (hb:∀F H (k k':AExit→Frm→a02→Option R3),(∀e F H r,k e F H=some r→k' e F H=some r)→∀r,b F H k=some r→b' F H k'=some r){F:Frm}{H:a02}{k k':AExit→Frm→a02→Option R}(hk:∀e F H r,k e F H=some r→k' e F H=some r){r:R}
 (h:c3r m0 it keep b F H k=some r):c3r m0 it keep b' F H k'=some r:=by
 unfold c3r at h⊢;split at h
 case h_2=>cases h
 rename_i ks cL;split at h
 case h_2=>cases h
 rename_i r0 rs iq;rw[cond_eq_ite]at h;split at h
 case isFalse=>cases h
 rename_i aT;have hm:(b4i ks).map (λo=>a4o m0 it keep ks b' [] o F H)=some r0::rs:=by
  rw[←iq];refine e7k λo ho=>?_;have hm:=e81 (f:=λo=>a4o m0 it keep ks b [] o F H) ho;rw[iq]at hm;have he:a4o m0 it keep ks b [] o F H=some r0:=by
   rcases e6v.1 hm with h|h
   ·exact h
   ·exact c1j (e6x.1 aT _ h)
  rw[he];exact b1z hb he
 rw[hm];simp only[aT,e6m];exact hk _ _ _ _ h
theorem a9f{m0 lf eM:Nat}(hl:lf≤eM){keep:Nat→List Nat}:∀(code:Code) {R:Type} (cur:Nat) (F:Frm) (H:a02) (k k':AExit→Frm→a02→Option R),(∀e F H r,k e F H=some r→k' e F H=some r)→∀{r:R},
 a3k E m0 N keep c lf cur code F H k=some r→a3k E m0 N keep c' eM cur code F H k'=some r:=by
 intro code
 induction code with
 |skip=>intro R cur F H k k' hk r h;unfold a3k at h⊢;exact hk _ _ _ _ h
 |label l=>intro R cur F H k k' hk r h;unfold a3k at h⊢;exact hk _ _ _ _ h
 |exit id=>intro R cur F H k k' hk r h;unfold a3k at h⊢;exact hk _ _ _ _ h
 |ret=>intro R cur F H k k' hk r h;unfold a3k at h⊢;exact hk _ _ _ _ h
 |region id an ah=>
  intro R cur F H k k' hk r h;unfold a3k at h⊢;cases hn:d0w an.toList with
  |none=>rw[hn]at h;exact b1q hc (λF H r h=>hk _ _ _ _ h) _ _ _ _ h
  |some x=>
   obtain⟨it,nx,ai⟩:=x;rw[hn]at h;simp only[cond_eq_ite]at h⊢;split at h
   case isTrue=>cases h
   rename_i h1;rw[e5s h1];split at h
   case h_2=>cases h
   rename_i v H' hx;exact b1q hc (λF H r h=>hk _ _ _ _ h) _ _ _ _ h
 |seq x y ihx ihy=>
  intro R cur F H k k' hk r h;unfold a3k at h⊢;refine ihx _ _ _ _ _ ?_ h;intro e F H r h;cases e with
  |normal=>exact ihy _ _ _ _ _ hk h
  |exit id=>exact hk _ _ _ _ h
  |ret=>exact hk _ _ _ _ h
 |cond x y z ihy ihz=>
  intro R cur F H k k' hk r h;unfold a3k at h⊢;split at h
  case h_2=>cases h
  rename_i t ht;simp only[cond_eq_ite]at h⊢;split at h
  ·rename_i h1;rw[e6q h1];exact ihy _ _ _ _ _ hk h
  ·rename_i h1;rw[e5s h1];exact ihz _ _ _ _ _ hk h
 |block id b ih=>
  intro R cur F H k k' hk r h;unfold a3k at h⊢;refine ih _ _ _ _ _ ?_ h;intro e F H r h;cases e with
  |normal=>exact hk _ _ _ _ h
  |exit id'=>
   simp only[cond_eq_ite]at h⊢;split at h
   ·rename_i h1;rw[e6q h1];exact hk _ _ _ _ h
   ·rename_i h1;rw[e5s h1];exact hk _ _ _ _ h
  |ret=>exact hk _ _ _ _ h
 |loop b ih=>
  intro R cur F H k k' hk r h;unfold a3k at h⊢;cases hn:a6q b with
  |some it=>rw[hn]at h;exact c3q (λF H k k' hk r h=>ih _ F H k k' hk h) hk h
  |none=>
  rw[hn]at h;dsimp only at h⊢;refine b4n (λF H k k' hk r h=>ih _ F H k k' hk h) _ _ hl F H _ _ ?_ h;intro e F H r h;rw[cond_eq_ite]at h⊢;split at h
  ·rename_i h1;rw[e6q h1];exact hk _ _ _ _ h
  ·rename_i h1;rw[e5s h1];exact hk _ _ _ _ h
 |scope b ih=>intro R cur F H k k' hk r h;unfold a3k at h⊢;exact ih _ _ _ _ _ hk h
 |rangeFunc f ps as b=>
  intro R cur F H k k' hk r h;unfold a3k at h⊢;split at h
  case h_2=>cases h
  rename_i g fs cs y _ _;rw[cond_eq_ite]at h⊢;split at h
  case isFalse=>cases h
  rename_i h1;rw[e6q h1];split at h
  case h_2=>cases h
  rename_i v H2 σ hr;rw[a7i (λa H x=>hc g a H x) hr];dsimp only;split at h
  ·exact hk _ _ _ _ h
  ·exact hk _ _ _ _ h
  ·exact hk _ _ _ _ h
  ·cases h
 |_=>intro R cur F H k k' hk r h;simp[a3k]at h
theorem b60{lf eM:Nat}(hl:lf≤eM){args:List AV}{H:a02}{r:AV×a02}(h:a7p E c lf args H=some r):a7p E c' eM args H=some r:=by
 unfold a7p at h⊢;split at h
 case h_2=>cases h
 rename_i b vs;split at h
 case h_2=>cases h
 rename_i y F hb;split at h
 case h_2=>cases h
 rename_i ri iW;rw[cond_eq_ite]at h⊢;split at h
 case isFalse=>cases h
 rename_i h1;rw[e6q h1];refine a9f hc hl _ _ _ _ _ _ ?_ h;intro e F H r h;cases e with
 |normal=>
  dsimp only at h⊢;split at h
  case h_2=>cases h
  rename_i H1 hy;exact a9f hc hl _ _ _ _ _ _ (λ_ _ _ _ h=>h) h
 |exit id=>exact h
 |ret=>exact h
theorem c9d{m0 lf eM:Nat}(hl:lf≤eM){keep:Nat→List Nat}:∀(code:Code) {R:Type} (cur:Nat) (F:Frm) (H:a02) (k k':AExit→Frm→a02→Option R),(∀e F H r,k e F H=some r→k' e F H=some r)→∀{r:R},
 d7p E m0 N keep c lf cur code F H k=some r→d7p E m0 N keep c' eM cur code F H k'=some r:=by
 intro code
 induction code with
 |seq x y ihx ihy=>
  intro R cur F H k k' hk r h;unfold d7p at h⊢;refine ihx _ _ _ _ _ ?_ h;intro e F H r h;cases e with
  |normal=>exact ihy _ _ _ _ _ hk h
  |exit id=>exact hk _ _ _ _ h
  |ret=>exact hk _ _ _ _ h
 |_=>intro R cur F H k k' hk r h;exact a9f hc hl _ _ _ _ _ _ hk h
theorem a9q{lf eM:Nat}(hl:lf≤eM){g:FuncId}{args:List AV}{H:a02}{r:AV×a02}(h:b0w E c lf g args H=some r):b0w E c' eM g args H=some r:=by
 unfold b0w at h⊢;split at h
 ·exact h
 split at h
 ·skip
  rw[cond_eq_ite]at h⊢;split at h
  case isFalse=>cases h
  rename_i h1;rw[e6q h1];exact b60 hc hl h
 rename_i i hi;rw[cond_eq_ite]at h⊢;split at h
 case isFalse=>cases h
 rename_i h1;rw[e6q h1];unfold e3o at h⊢;cases hz:E.zf g with
 |true=>rw[hz,e6m]at h;rw[e6m];exact c9d hc hl _ _ _ _ _ _ (λ_ _ _ _ h=>h) h
 |false=>rw[hz,e6w]at h;rw[e6w];exact a9f hc hl _ _ _ _ _ _ (λ_ _ _ _ h=>h) h
end
inductive Der(E:Env)(M:List Fact):FuncId→List AV→a02→AV×a02→Prop
 |run (g:FuncId) (args:List AV) (H:a02) (r:AV×a02) (c:CallF) (lf:Nat) (hc:∀g a H r,c g a H=some r→Der E M g a H r)
  (cP:∀x∈M,x.g≠g) (h:b0w E c lf g args H=some r):Der E M g args H r
 |fact (x:Fact) (hx:x∈M) (oa:∀y∈M,y.g=x.g→y.args=x.args→y.v=x.v):Der E M x.g x.args [] (x.v,[])
open Classical in
noncomputable def e3d(c c':CallF):CallF:=λg a H=>match c g a H with|some r=>some r|none=>c' g a H
theorem Der.one{E:Env}{M:List Fact}{g:FuncId}{args:List AV}{H:a02}{r r':AV×a02}(h:Der E M g args H r)(h':Der E M g args H r'):r=r':=by
 induction h generalizing r' with
 |run g args H r c lf hc cP h ih=>
  cases h' with
  |run _ _ _ _ c' eM mK hno' h'=>
   have l1:CallF.le c (e3d c c'):=by intro g a H r h;simp[e3d,h]
   have l2:CallF.le c' (e3d c c'):=by
    intro g a H r h;unfold e3d;cases cw:c g a H with
    |none=>exact h
    |some s=>exact congrArg some (ih g a H s cw (mK g a H r h))
   have e1:=a9q l1 (Nat.le_max_left lf eM) h;have e2:=a9q l2 (Nat.le_max_right lf eM) h';exact z9o (e1.symm.trans e2)
  |fact x hx=>exact absurd rfl (cP x hx)
 |fact x hx hf=>
  generalize hg:x.g=g at h';generalize ha:x.args=args at h';generalize hH:([]:a02)=H at h';cases h' with
  |run _ _ _ _ c' eM mK hno' h'=>exact absurd hg (hno' x hx)
  |fact y hy hf'=>rw[hf y hy hg.symm ha.symm]
theorem Der.ok{E:Env}(ok:EnvOk E)(hU:DrOk E){M:List Fact}(hM:∀x∈M,d4p E x){g:FuncId}{args:List AV}{H:a02}{r:AV×a02}(h:Der E M g args H r) :
 a9i E g (λa H'=>open Classical in if a=args∧H'=H then some r else none):=by
 induction h with
 |run g args H r c lf hc cP h ih=>
  have ag:a3e E c:=by intro g a H v H' hr;have:=ih g a H (v,H') hr;exact this a H v H' (by simp)
  intro a H' v qm hr;dsimp only at hr;split at hr
  ·rename_i hh;obtain⟨rfl,rfl⟩:=hh;cases hr;exact d0i ok hU ag lf g a H' v qm h
  ·cases hr
 |fact x hx hf=>
  intro a H' v qm hr;dsimp only at hr;split at hr
  ·rename_i hh;obtain⟨rfl,rfl⟩:=hh;cases hr;intro I K ρ w am h1 h2 h3;exact hM x hx I K ρ w am h1 h2 h3
  ·cases hr
open Classical in
noncomputable def sem(E:Env)(M:List Fact):CallF:=λg args H=>if h:∃r,Der E M g args H r then some h.choose else none
section
variable {E:Env}{M:List Fact}
theorem b9k{g:FuncId}{args:List AV}{H:a02}{r:AV×a02}:sem E M g args H=some r↔Der E M g args H r:=by
 unfold sem;constructor
 ·intro h;split at h
  ·rename_i hh;cases h;exact hh.choose_spec
  ·cases h
 ·intro h;have hh:∃r,Der E M g args H r:=⟨r,h⟩
  rw[dif_pos hh];exact congrArg some (Der.one hh.choose_spec h)
theorem c5y{g:FuncId}{args:List AV}{H:a02}{r:AV×a02}(cP:∀x∈M,x.g≠g)(lf:Nat)(h:b0w E (sem E M) lf g args H=some r):sem E M g args H=some r:=b9k.2 (.run g args H r (sem E M) lf (λ_ _ _ _ h=>b9k.1 h) cP h)
theorem sem_ok(ok:EnvOk E)(hU:DrOk E)(hM:∀x∈M,d4p E x):a3e E (sem E M):=by intro g args H v H' h;exact(Der.ok ok hU hM (b9k.1 h)) args H v H' (by simp)
end
end Go.Ax
/- AxEv: runs of statements in direct style: what a statement comes to, for a3l loop fuel that is great enough. -/
namespace Go.Ax
def d44{α β:Type}(x:Option α)(f:α→β)(d:β):β:=match x with|some a=>f a|none=>d
def a0b{α β:Type}(x:Option α)(f:α→Option β):Option β:=match x with|some a=>f a|none=>none
@[go_sem] theorem d8i{α β:Type}(a:α)(f:α→Option β):a0b (some a) f=f a:=by rfl
@[congr] theorem d5z{α β:Type}{x y:Option α}{f:α→Option β}(h:x=y):a0b x f=a0b y f:=by rw[h]
def a8t(E:Env)(ah:Bool)(N:Nat)(call:CallF)(all:List Oper):List Oper→List LogE→Frm→a02→Option (Frm×a02×List LogE)
 | [],log,F,H=>some (F,H,log)
 |o::ai,log,F,H=>
  bif a60 N o.dst then
   match o.guard with
   |none=>a0b (a0n E ah call F H o.op) λx=>a8t E ah N call all ai (x.2.2::log) (a32 F o.dst x.1) x.2.1
   |some (j,bj)=>match a2g all j with
    |none=>none
    |some d=>match a2n F d with
     |.bool b=>bif b then
      (bif bj then a0b (a0n E ah call (a32 F (some d) (.bool true)) H o.op) λx=>a8t E ah N call all ai (x.2.2::log) (a32 (a32 F (some d) (.bool true)) o.dst x.1) x.2.1
      else a8t E ah N call all ai (⟨[],[]⟩::log) (a32 (a32 F (some d) (.bool true)) o.dst (.tuple [])) H)
      else
       (bif bj then a8t E ah N call all ai (⟨[],[]⟩::log) (a32 (a32 F (some d) (.bool false)) o.dst (.tuple [])) H
       else a0b (a0n E ah call (a32 F (some d) (.bool false)) H o.op) λx=>a8t E ah N call all ai (x.2.2::log) (a32 (a32 F (some d) (.bool false)) o.dst x.1) x.2.1)
     |.tuple []=>a8t E ah N call all ai (⟨[],[]⟩::log) (a32 F o.dst (.tuple [])) H
     |_=>none
  else none
theorem b9m{E:Env}{ah:Bool}{N:Nat}{call:CallF}{all:List Oper}{R:Type}{k:Frm→a02→Option R}:∀(an:List Oper) (log:List LogE) (F:Frm) (H:a02),
 a22 E ah N call all an log F H k=(match a8t E ah N call all an log F H with|some (F',H',ej)=>(bif !ah||logOk all ej.length ej then k F' H' else none)|none=>none):=by
 intro an
 induction an with
 |nil=>intro log F H;rfl
 |cons o ai ih=>
  intro log F H;have step:∀(F1 F2:Frm),(match a0n E ah call F1 H o.op with
   |some (v,H',l)=>a22 E ah N call all ai (l::log) (a32 F2 o.dst v) H' k
   |none=>none)=(match a0b (a0n E ah call F1 H o.op) λx=>a8t E ah N call all ai (x.2.2::log) (a32 F2 o.dst x.1) x.2.1 with|some (F',H',ej)=>(bif !ah||logOk all ej.length ej then k F' H' else none)|none=>none):=by
   intro F1 F2;cases a0n E ah call F1 H o.op with
   |none=>rfl
   |some x=>exact ih _ _ _
  obtain⟨dst,op,ty,pos,after,guard⟩:=o;unfold a22 a8t;cases hd:a60 N dst with
  |false=>rfl
  |true=>
   cases guard with
   |none=>exact step F F
   |some g=>
    obtain⟨j,bj⟩:=g;simp only[e6m];cases hs:a2g all j with
    |none=>rfl
    |some d=>
     simp only;cases hv:a2n F d with
     |bool b=>cases b<;>cases bj<;>simp only[e6m,e6w]<;>first|exact step _ _|exact ih _ _ _
     |tuple vs=>cases vs with
      |nil=>exact ih _ _ _
      |cons a r=>rfl
     |_=>rfl
structure Cx where
 E:Env
 M:List Fact
 m0:Nat
 N:Nat
 keep:Nat→List Nat
 cur:Nat
def Ev(x:Cx)(c:Code)(F:Frm)(H:a02)(r:AExit×Frm×a02):Prop:=∃n0,∀lf,n0≤lf→∀(R:Type) (k:AExit→Frm→a02→Option R),a3k x.E x.m0 x.N x.keep (sem x.E x.M) lf x.cur c F H k=k r.1 r.2.1 r.2.2
section
variable {x:Cx}{F F1:Frm}{H H1:a02}{r:AExit×Frm×a02}
theorem Ev.skip:Ev x .skip F H (.normal,F,H):=⟨0,λ_ _ _ _=>rfl⟩
theorem Ev.label{l}:Ev x (.label l) F H (.normal,F,H):=⟨0,λ_ _ _ _=>rfl⟩
theorem Ev.leave{id}:Ev x (.exit id) F H (.exit id,F,H):=⟨0,λ_ _ _ _=>rfl⟩
theorem Ev.ret:Ev x .ret F H (.ret,F,H):=⟨0,λ_ _ _ _=>rfl⟩
theorem d61{E:Env}{ah:Bool}{N:Nat}{call:CallF}{all an:List Oper}{log:List LogE}{F:Frm}{H:a02}{r:Frm×a02×List LogE}(h:a8t E ah N call all an log F H=some r):d0w an=none:=by
 unfold d0w;split
 ·rfl
 ·rename_i o ai;split
  ·rename_i it nx h1 h2 h3;obtain⟨d,op,ty,pos,after,guard⟩:=o;simp only at h1 h2 h3;subst h1 h2 h3;unfold a8t at h;have hs:a0n E ah call F H (.next (.tmp it) false)=none:=by
    have:aop E H.length (a01 H) (.next (.tmp it) false) (opv E F)=none:=by show b8w (a01 H) (opv E F (.tmp it)) false=none;unfold b8w;split<;>rfl
    unfold a0n;simp only[this]
   rw[cond_eq_ite]at h;split at h
   ·simp only[hs,a0b]at h;cases h
   ·cases h
  ·rfl
theorem Ev.region{id an ah}{log:List LogE}(h:a8t x.E ah x.N (sem x.E x.M) an.toList an.toList [] F H=some (F1,H1,log))(hl:(!ah||logOk an.toList log.length log)=true):Ev x (.region id an ah) F H (.normal,F1,H1):=⟨0,λ_ _ R k=>by simp only[a3k,d61 h,b9m,h,hl,e6m]⟩
theorem Ev.seq{a b}(h:Ev x a F H (.normal,F1,H1))(h2:Ev x b F1 H1 r):Ev x (.seq a b) F H r:=by obtain⟨n,h⟩:=h;obtain⟨m,h2⟩:=h2;exact⟨max n m,λlf hl R k=>by simp only[a3k];rw[h lf (by omega)];exact h2 lf (by omega) R k⟩
theorem Ev.seq_ret{a b}(h:Ev x a F H (.ret,F1,H1)):Ev x (.seq a b) F H (.ret,F1,H1):=by obtain⟨n,h⟩:=h;exact⟨n,λlf hl R k=>by simp only[a3k];rw[h lf hl]⟩
theorem Ev.seq_exit{a b id}(h:Ev x a F H (.exit id,F1,H1)):Ev x (.seq a b) F H (.exit id,F1,H1):=by obtain⟨n,h⟩:=h;exact⟨n,λlf hl R k=>by simp only[a3k];rw[h lf hl]⟩
theorem Ev.cond_t{c a b}(hc:opv x.E F c = .bool true)(h:Ev x a F H r):Ev x (.cond c a b) F H r:=by obtain⟨n,h⟩:=h;exact⟨n,λlf hl R k=>by simp only[a3k,hc,e6m];exact h lf hl R k⟩
theorem Ev.cond_f{c a b}(hc:opv x.E F c = .bool false)(h:Ev x b F H r):Ev x (.cond c a b) F H r:=by obtain⟨n,h⟩:=h;exact⟨n,λlf hl R k=>by simp only[a3k,hc,e6w];exact h lf hl R k⟩
theorem Ev.block{id b}(h:Ev { x with cur:=id } b F H (.normal,F1,H1)):Ev x (.block id b) F H (.normal,F1,H1):=by obtain⟨n,h⟩:=h;exact⟨n,λlf hl R k=>by simp only[a3k];rw[h lf hl]⟩
theorem Ev.block_ret{id b}(h:Ev { x with cur:=id } b F H (.ret,F1,H1)):Ev x (.block id b) F H (.ret,F1,H1):=by obtain⟨n,h⟩:=h;exact⟨n,λlf hl R k=>by simp only[a3k];rw[h lf hl]⟩
theorem Ev.block_exit{id b}(h:Ev { x with cur:=id } b F H (.exit id,F1,H1)):Ev x (.block id b) F H (.normal,F1,H1):=by obtain⟨n,h⟩:=h;exact⟨n,λlf hl R k=>by simp only[a3k];rw[h lf hl];simp⟩
theorem Ev.block_on{id id' b}(h:Ev { x with cur:=id } b F H (.exit id',F1,H1))(az:(id'==id)=false):Ev x (.block id b) F H (.exit id',F1,H1):=by obtain⟨n,h⟩:=h;exact⟨n,λlf hl R k=>by simp only[a3k];rw[h lf hl];simp only[az,e6w]⟩
theorem Ev.scope{b}(h:Ev x b F H r):Ev x (.scope b) F H r:=by obtain⟨n,h⟩:=h;exact⟨n,λlf hl R k=>by simp only[a3k];exact h lf hl R k⟩
def EvL(x:Cx)(b:Code)(F:Frm)(H:a02)(r:AExit×Frm×a02):Prop:=
 ∃n0,∀lf,n0≤lf→∀n,n0≤n→∀(R:Type) (k:AExit→Frm→a02→Option R),
  b0x x.m0 (x.keep x.cur) (λF H k=>a3k x.E x.m0 x.N x.keep (sem x.E x.M) lf x.cur b F H k) n F H k=k r.1 r.2.1 r.2.2
theorem Ev.loop{b}(hx:a6q b=none)(hz:c9m (x.keep x.cur)=false)(h:EvL x b F H r):Ev x (.loop b) F H r:=by obtain⟨n,h⟩:=h;exact⟨n,λlf hl R k=>by simp only[a3k,hx,hz,e6w];exact h lf hl lf hl R k⟩
theorem Ev.loopZ{b}{e:AExit}(hx:a6q b=none)(hz:c9m (x.keep x.cur)=true)(h:EvL x b F H (e,F1,H1)):Ev x (.loop b) F H (e,c0g (x.m0+c51 (x.keep x.cur)) H1 F1,b6o (x.m0+c51 (x.keep x.cur)) H1):=by obtain⟨n,h⟩:=h;exact⟨n,λlf hl R k=>by simp only[a3k,hx,hz,e6m];exact h lf hl lf hl R _⟩
theorem c0d{m0:Nat}{keep:List Nat}(hg:gcD m0 keep F H=some (F1,H1)) :
 (a4e (a80 m0 (a1l keep F) H)&&(a80 m0 (a1l keep F) H).all (λb=>Nat.ble m0 b)&&Nat.ble m0 H.length)=true∧b7b (b3r m0 (a80 m0 (a1l keep F) H)) (a1l keep F)=F1∧gcH m0 (a80 m0 (a1l keep F) H) H=H1:=by
 unfold gcD at hg;simp only[cond_eq_ite]at hg;split at hg
 case isFalse=>cases hg
 rename_i hc;cases hg;exact⟨hc,rfl,rfl⟩
theorem EvL.leave{b:Code}{F2:Frm}{H2:a02}{e:AExit}(hg:gcD x.m0 (x.keep x.cur) F H=some (F1,H1))(h:Ev x b F1 H1 (e,F2,H2))(he:e≠ .normal):EvL x b F H (e,F2,H2):=by
 obtain⟨n0,h⟩:=h;refine⟨n0+1,λlf hl n hn R k=>?_⟩;obtain⟨n,rfl⟩:∃l,n=l+1:=⟨n-1,by omega⟩
 obtain⟨h1,h2,h3⟩:=c0d hg;simp only[b0x,h1,h2,h3,e6m];rw[h lf (by omega)];cases e with
 |normal=>exact absurd rfl he
 |exit id=>rfl
 |ret=>rfl
theorem EvL.again{b:Code}{F2:Frm}{H2:a02}(hg:gcD x.m0 (x.keep x.cur) F H=some (F1,H1))(h:Ev x b F1 H1 (.normal,F2,H2))(h':EvL x b F2 H2 r):EvL x b F H r:=by
 obtain⟨n0,h⟩:=h;obtain⟨m0,h'⟩:=h';refine⟨max n0 m0+1,λlf hl n hn R k=>?_⟩;obtain⟨n,rfl⟩:∃l,n=l+1:=⟨n-1,by omega⟩
 obtain⟨h1,h2,h3⟩:=c0d hg;simp only[b0x,h1,h2,h3,e6m];rw[h lf (by omega)];exact h' lf (by omega) n (by omega) R k
theorem c1f{E:Env}{M:List Fact}{g:FuncId}{args:List AV}{H:a02}{code:Code}{N:Nat}{results:List ResultVar}{e:AExit}{F':Frm}{H':a02}{vs:List AV}{v:AV}{H2:a02}
 (bN:E.fn g=some ⟨code,N,results⟩)(cP:∀y∈M,y.g≠g)(hN:Nat.ble args.length N=true)(h:Ev ⟨E,M,H.length,N,E.keep g,0⟩ code (a4j 0 args) H (e,F',H'))(he:∀id,e≠ .exit id)
 (hr:a10 E F' H' results=some vs)(eB:a1q (E.thaw g) H.length (a76 vs) H'=some (v,H2))(hp:E.prim g args=none)(hz:E.zf g=false):sem E M g args H=some (v,H2):=by
 obtain⟨n,h⟩:=h;refine c5y cP n ?_;unfold b0w;have qQ:d0q E g args H=none:=by
  unfold d0q;cases H with
  |nil=>exact hp
  |cons a r=>rfl
 rw[qQ,bN];simp only;rw[hN];simp only[e6m];unfold e3o;rw[hz];simp only[e6w];refine(h n (e6o _) _ _).trans ?_;cases e with
 |exit id=>exact absurd rfl (he id)
 |normal=>simp only[hr];exact eB
 |ret=>simp only[hr];exact eB
end
end Go.Ax
/- AxSimp: the evaluator's steps as rewrite rules. -/
namespace Go.Ax
section
variable {E:Env}{ah:Bool}{N:Nat}{call:CallF}{all ai:List Oper}{log:List LogE}{F:Frm}{H:a02}
@[go_sem] theorem e31(s:Nat)(v:AV)(r:Frm):a2n ((s,v)::r) s=v:=by simp only[a2n,c9l,cond_eq_ite,beq_self_eq_true,e8f]
@[go_sem] theorem e0y{s t:Nat}(h:(s=t)=False)(v:AV)(r:Frm):a2n ((s,v)::r) t=a2n r t:=by have:¬s=t:=λe=>h▸e;simp only[a2n,c9l,cond_eq_ite,e9d,e5s this]
@[go_sem] theorem d9p(d:Nat)(v:AV):a32 F (some d) v=(d,v)::F:=by rfl
@[go_sem] theorem d9q(v:AV):a32 F none v=F:=by rfl
@[go_sem] theorem e4y(t:Nat):opv E F (.tmp t)=a2n F t:=by rfl
@[go_sem] theorem e2n(f:Nat):opv E F (.func f) = .func (.func f) [] []:=by rfl
@[go_sem] theorem e2o(b:Bool):opv E F (.const (.bool b)) = .bool b:=by rfl
@[go_sem] theorem e50(k:IntKind)(n:Int):opv E F (.const (.int k n)) = .int k n:=by rfl
@[go_sem] theorem d8h:opv E F (.const (.pointer none)) = .nilptr:=by rfl
@[go_sem] theorem d43:opv E F (.const (.slice none 0 0)) = .nilslice:=by rfl
@[go_sem] theorem d5x:opv E F (.const .nilFunc) = .nilfunc:=by rfl
@[go_sem] theorem e4z(s:ByteArray):opv E F (.const (.string s)) = .str s.data.toList:=by rfl
@[go_sem] theorem e2b:a8t E ah N call all [] log F H=some (F,H,log):=by rfl
@[go_sem] theorem d8u(d:Nat):a60 N (some d)=decide (d<N):=by rw[a60,f04];simp[e6u]
@[go_sem] theorem d8v:a60 N none=true:=by rfl
theorem d5k(dst:Option Nat)(op:Op)(ty:TypeId)(pos:String)(after:Array Edge) :
 a8t E ah N call all ({ dst:=dst,op:=op,type:=ty,pos:=pos,after:=after,guard:=none }::ai) log F H =
  bif a60 N dst then a0b (a0n E ah call F H op) λx=>a8t E ah N call all ai (x.2.2::log) (a32 F dst x.1) x.2.1 else none:=by
 rfl
def d3x(E:Env)(ah:Bool)(N:Nat)(call:CallF)(all:List Oper)(dst:Option Nat)(op:Op)(ai:List Oper)(log:List LogE)(F:Frm)(H:a02)(d:Nat)(bj:Bool):AV→Option (Frm×a02×List LogE)
 |.bool b=>bif b then
  (bif bj then a0b (a0n E ah call (a32 F (some d) (.bool true)) H op) λx=>a8t E ah N call all ai (x.2.2::log) (a32 (a32 F (some d) (.bool true)) dst x.1) x.2.1
  else a8t E ah N call all ai (⟨[],[]⟩::log) (a32 (a32 F (some d) (.bool true)) dst (.tuple [])) H)
  else
   (bif bj then a8t E ah N call all ai (⟨[],[]⟩::log) (a32 (a32 F (some d) (.bool false)) dst (.tuple [])) H
   else a0b (a0n E ah call (a32 F (some d) (.bool false)) H op) λx=>a8t E ah N call all ai (x.2.2::log) (a32 (a32 F (some d) (.bool false)) dst x.1) x.2.1)
 |.tuple []=>a8t E ah N call all ai (⟨[],[]⟩::log) (a32 F dst (.tuple [])) H
 |_=>none
theorem c38(dst:Option Nat)(op:Op)(ty:TypeId)(pos:String)(after:Array Edge)(j:Nat)(bj:Bool) :
 a8t E ah N call all ({ dst:=dst,op:=op,type:=ty,pos:=pos,after:=after,guard:=some (j,bj) }::ai) log F H =
  bif a60 N dst then a0b (a2g all j) λd=>d3x E ah N call all dst op ai log F H d bj (a2n F d)else none:=by
 unfold a8t;cases a60 N dst with
 |false=>rfl
 |true=>
  simp only[e6m];cases a2g all j with
  |none=>rfl
  |some d=>simp only[a0b];unfold d3x;rfl
section
variable {dst:Option Nat}{op:Op}{d:Nat}
theorem d5g:d3x E ah N call all dst op ai log F H d true (.bool true)=a0b (a0n E ah call ((d,.bool true)::F) H op) λx=>a8t E ah N call all ai (x.2.2::log) (a32 ((d,.bool true)::F) dst x.1) x.2.1:=by rfl
theorem d5h:d3x E ah N call all dst op ai log F H d true (.bool false)=a8t E ah N call all ai (⟨[],[]⟩::log) (a32 ((d,.bool false)::F) dst (.tuple [])) H:=by rfl
theorem d5i:d3x E ah N call all dst op ai log F H d false (.bool true)=a8t E ah N call all ai (⟨[],[]⟩::log) (a32 ((d,.bool true)::F) dst (.tuple [])) H:=by rfl
theorem d5j:d3x E ah N call all dst op ai log F H d false (.bool false)=a0b (a0n E ah call ((d,.bool false)::F) H op) λx=>a8t E ah N call all ai (x.2.2::log) (a32 ((d,.bool false)::F) dst x.1) x.2.1:=by rfl
end
attribute [go_sem] d5k c38 d5g d5h d5i d5j
@[congr] theorem d8b{dst:Option Nat}{op:Op}{d:Nat}{bj:Bool}{v v':AV}(h:v=v'):d3x E ah N call all dst op ai log F H d bj v=d3x E ah N call all dst op ai log F H d bj v':=by rw[h]
/-! ### one operation -/
@[go_sem] theorem e4h(x:Operand):a0n E ah call F H (.move x)=some (opv E F x,H,⟨[],[]⟩):=by rfl
@[go_sem] theorem d9j(x:Operand):a0n E ah call F H (.assign x)=some (opv E F x,H,⟨[],[]⟩):=by rfl
theorem a1b{op:Op}{v:Option AV}(h:aop E H.length (a01 H) op (opv E F)=v.map (·,.none))(hs:a0n E ah call F H op=match aop E H.length (a01 H) op (opv E F)with
 |some (v,e)=>bif e.fits H.length then some (v,b06 H e,⟨a7l op (opv E F),e.keys H.length⟩)else none
 |none=>none):a0n E ah call F H op=a0b v λv=>some (v,H,⟨a7l op (opv E F),[]⟩):=by
 rw[hs,h];cases v<;>rfl
@[go_sem] theorem e6g(op:BinOp)(t:TypeId)(x y:Operand)(z):a0n E ah call F H (.binOp op t x y z)=a0b (b0b E op t (opv E F x) (opv E F y) (a3t x||a3t y)) λv=>some (v,H,⟨[],[]⟩):=a1b rfl rfl
@[go_sem] theorem e8u(op:UnOp)(t:TypeId)(x:Operand):a0n E ah call F H (.unOp op t x)=a0b (aun op (opv E F x)) λv=>some (v,H,⟨[],[]⟩):=a1b rfl rfl
@[go_sem] theorem e4j(s d:TypeId)(x:Operand):a0n E ah call F H (.convert s d x)=a0b (a62 E (a01 H) s d (opv E F x)) λv=>some (v,H,⟨a0e (opv E F x),[]⟩):=a1b rfl rfl
@[go_sem] theorem e4i(t:TypeId)(x:Operand):a0n E ah call F H (.load t x)=a0b (a5h E (a01 H) t (opv E F x)) λv=>some (v,H,⟨a0e (opv E F x),[]⟩):=a1b rfl rfl
@[go_sem] theorem e25(t:TypeId)(x:Operand)(lo hi mx:Option Operand):a0n E ah call F H (.slice t x lo hi mx)=a0b (a4p E (a01 H) t (opv E F x) (lo.map (opv E F)) (hi.map (opv E F)) (mx.map (opv E F))) λv=>some (v,H,⟨a0e (opv E F x),[]⟩):=a1b rfl rfl
@[go_sem] theorem d3u(t:TypeId)(x:Operand)(f:Nat):a0n E ah call F H (.fieldAddr t x f)=a0b (a4z E t (opv E F x) f) λv=>some (v,H,⟨[],[]⟩):=a1b rfl rfl
@[go_sem] theorem e27(t:TypeId)(x:Operand)(f:Nat):a0n E ah call F H (.field t x f)=a0b (b5f E t (opv E F x) f) λv=>some (v,H,⟨[],[]⟩):=a1b rfl rfl
@[go_sem] theorem d3t(t:TypeId)(x i:Operand):a0n E ah call F H (.indexAddr t x i)=a0b (a0p E (a01 H) t (opv E F x) (opv E F i)) λv=>some (v,H,⟨a0e (opv E F x),[]⟩):=a1b rfl rfl
@[go_sem] theorem e26(t:TypeId)(x i:Operand):a0n E ah call F H (.index t x i)=a0b (b5e E t (opv E F x) (opv E F i)) λv=>some (v,H,⟨[],[]⟩):=a1b rfl rfl
@[go_sem] theorem e28(t:TypeId)(ps:Array (Nat×Operand)):a0n E ah call F H (.build t ps)=a0b (b5j E t (ps.toList.map λp=>(p.1,opv E F p.2))) λv=>some (v,H,⟨[],[]⟩):=a1b rfl rfl
@[go_sem] theorem d9i(t:TypeId)(x k:Operand)(o:Bool):a0n E ah call F H (.lookup t x k o)=a0b (oor (a5f E (a01 H) t (opv E F x) (opv E F k) o) (b3g E (a01 H) t (opv E F x) (opv E F k) o)) λv=>some (v,H,⟨a0e (opv E F x),[]⟩):=a1b rfl rfl
@[go_sem] theorem d57(fn:Fn)(first cap:Array Operand):a0n E ah call F H (.makeFunc fn first cap)=some (.func fn (first.toList.map (opv E F)) (cap.toList.map (opv E F)),H,⟨[],[]⟩):=by rfl
def b8u(c a b:AV):Option AV:=match c with|.bool t=>some (b3v t a b)|_=>none
@[go_sem] theorem e4g(c a b:Operand):a0n E ah call F H (.pick c a b)=a0b (b8u (opv E F c) (opv E F a) (opv E F b)) λv=>some (v,H,⟨[],[]⟩):=by refine a1b ?_ rfl;simp only[aop,b8u];cases opv E F c<;>rfl
@[go_sem] theorem d7i(t a b:Bool):b8u (.bool t) (.bool a) (.bool b)=some (.bool (bif t then a else b)):=by rfl
@[go_sem] theorem d7h(a b:AV):b8u (.bool true) a b=some (b3v true a b):=by rfl
@[go_sem] theorem d4j(a b:AV):b8u (.bool false) a b=some (b3v false a b):=by rfl
theorem d7f(a b:AV):b3v true a b=a:=by unfold b3v;split<;>simp
theorem d7g(a b:AV):b3v false a b=b:=by unfold b3v;split<;>simp
attribute [go_sem] d7f d7g
def b8v(x:AV):Option AV:=match x with
 |.ptr b i o=>some (.ptr b i o)
 |.iptr cs=>some (.iptr cs)
 |.func (.func f) fs cs=>some (.func (.func f) fs cs)
 |_=>none
attribute [go_sem] b8v
@[go_sem] theorem d56(x:Operand):a0n E ah call F H (.nilCheck x)=a0b (b8v (opv E F x)) λv=>some (v,H,⟨[],[]⟩):=by
 refine a1b ?_ rfl;simp only[aop];generalize opv E F x=y;cases y<;>try rfl
 rename_i fn _ _;cases fn<;>rfl
def b75(x:AV)(i:Nat):Option AV:=match x with|.tuple vs=>vs[i]?|_=>none
attribute [go_sem] b75
@[go_sem] theorem d88(t:Operand)(i:Nat):a0n E ah call F H (.extract t i)=a0b (b75 (opv E F t) i) λv=>some (v,H,⟨[],[]⟩):=by
 refine a1b ?_ rfl;simp only[aop,b75];cases opv E F t with
 |tuple vs=>simp only;cases vs[i]?<;>rfl
 |_=>rfl
theorem a65{op:Op}{v:Option (AV×Eff)}(h:aop E H.length (a01 H) op (opv E F)=v)(hs:a0n E ah call F H op=match aop E H.length (a01 H) op (opv E F)with
 |some (v,e)=>bif e.fits H.length then some (v,b06 H e,⟨a7l op (opv E F),e.keys H.length⟩)else none
 |none=>none){n:List Nat}(hn:a7l op (opv E F)=n):a0n E ah call F H op=a0b v λx=>bif x.2.fits H.length then some (x.1,b06 H x.2,⟨n,x.2.keys H.length⟩)else none:=by
 rw[hs,h];subst hn;cases v<;>rfl
@[go_sem] theorem e29(t:TypeId):a0n E ah call F H (.alloc t)=a0b (d7k E H.length t) λx=>bif x.2.fits H.length then some (x.1,b06 H x.2,⟨[],x.2.keys H.length⟩)else none:=a65 rfl rfl rfl
@[go_sem] theorem e6f(t:TypeId)(x:Operand):a0n E ah call F H (.box t x)=a0b (d7w H.length (opv E F x)) λx=>bif x.2.fits H.length then some (x.1,b06 H x.2,⟨[],x.2.keys H.length⟩)else none:=a65 rfl rfl rfl
@[go_sem] theorem e24(t:TypeId)(a x:Operand):a0n E ah call F H (.store t a x)=a0b (a6u E (a01 H) t (opv E F a) (opv E F x)) λe=>bif e.fits H.length then some (.tuple [],b06 H e,⟨a0e (opv E F a),e.keys H.length⟩)else none:=by refine(a65 (v:=(a6u E (a01 H) t (opv E F a) (opv E F x)).map (.tuple [],·)) rfl rfl rfl).trans ?_;cases a6u E (a01 H) t (opv E F a) (opv E F x)<;>rfl
@[go_sem] theorem d0b(t:TypeId)(n:Nat)(ps:Array (Nat×Operand)):a0n E ah call F H (.buildSlice t n ps)=a0b (a2r E H.length t n (ps.toList.map λp=>(p.1,opv E F p.2))) λx=>bif x.2.fits H.length then some (x.1,b06 H x.2,⟨[],x.2.keys H.length⟩)else none:=a65 rfl rfl rfl
@[go_sem] theorem d3s(t:TypeId)(l c:Operand):a0n E ah call F H (.makeSlice t l c)=a0b (a3j E H.length t (opv E F l) (opv E F c)) λx=>bif x.2.fits H.length then some (x.1,b06 H x.2,⟨[],x.2.keys H.length⟩)else none:=a65 rfl rfl rfl
@[go_sem] theorem d87(t:TypeId):a0n E ah call F H (.makeMap t none)=some (.map H.length,H++[some (b25 E t)],⟨[],[H.length]⟩):=by rfl
@[go_sem] theorem d3r(t:TypeId)(m k x:Operand):a0n E ah call F H (.mapUpdate t m k x)=a0b (oor (a1m E (a01 H) t (opv E F m) (opv E F k) (opv E F x)) (b3u E (a01 H) t (opv E F m) (opv E F k) (opv E F x))) λe=>bif e.fits H.length then some (.tuple [],b06 H e,⟨a0e (opv E F m),e.keys H.length⟩)else none:=by refine(a65 (v:=(oor (a1m E (a01 H) t (opv E F m) (opv E F k) (opv E F x)) (b3u E (a01 H) t (opv E F m) (opv E F k) (opv E F x))).map (.tuple [],·)) rfl rfl rfl).trans ?_;cases oor (a1m E (a01 H) t (opv E F m) (opv E F k) (opv E F x)) (b3u E (a01 H) t (opv E F m) (opv E F k) (opv E F x))<;>rfl
@[go_sem] theorem e6d(x:Operand)(t:TypeId):a0n E ah call F H (.call { callee:=.builtin .len,args:=#[x],argTypes:=#[t] })=a0b (b3w E (a01 H) t (opv E F x)) λv=>some (v,H,⟨a0e (opv E F x),[]⟩):=by refine(a1b (v:=b3w E (a01 H) t (opv E F x)) rfl rfl).trans ?_;simp[a7l]
@[go_sem] theorem e6e(x:Operand)(t:TypeId):a0n E ah call F H (.call { callee:=.builtin .cap,args:=#[x],argTypes:=#[t] })=a0b (d7t E t (opv E F x)) λv=>some (v,H,⟨a0e (opv E F x),[]⟩):=by refine(a1b (v:=d7t E t (opv E F x)) rfl rfl).trans ?_;simp[a7l]
@[go_sem] theorem e6b(x:Operand)(xs:List Operand)(ts:Array TypeId):a0n E ah call F H (.call { callee:=.builtin .min,args:=⟨x::xs⟩,argTypes:=ts })=a0b (d4l (opv E F x) (xs.map (opv E F))) λv=>some (v,H,⟨(x::xs).flatMap λx=>a0e (opv E F x),[]⟩):=a1b rfl rfl
@[go_sem] theorem e6c(x:Operand)(xs:List Operand)(ts:Array TypeId):a0n E ah call F H (.call { callee:=.builtin .max,args:=⟨x::xs⟩,argTypes:=ts })=a0b (d38 (opv E F x) (xs.map (opv E F))) λv=>some (v,H,⟨(x::xs).flatMap λx=>a0e (opv E F x),[]⟩):=a1b rfl rfl
@[go_sem] theorem d9k(x y:Operand)(t u:TypeId):a0n E ah call F H (.call { callee:=.builtin .append,args:=#[x,y],argTypes:=#[t,u] })=a0b (oor (a3v E (a01 H) H.length t u (opv E F x) (opv E F y)) (a2d E H.length t u (opv E F x) (opv E F y))) λz=>bif z.2.fits H.length then some (z.1,b06 H z.2,⟨a0e (opv E F x)++a0e (opv E F y),z.2.keys H.length⟩)else none:=a65 rfl rfl (by simp[a7l])
@[go_sem] theorem d98{E:Env}{n:Nat}{t u:TypeId}{x:AV}{b off len:Nat}{cap:Option Nat}:a2d E n t u (.slice b off len cap) x=none:=by unfold a2d;rfl
@[go_sem] theorem d7z{E:Env}{n:Nat}{t u:TypeId}{b off len:Nat}{cap:Option Nat}:a2d E n t u .nilslice (.slice b off len cap)=none:=by unfold a2d;rfl
@[go_sem] theorem e2q{α:Type}(x:Option α):oor x none=x:=by cases x<;>rfl
@[go_sem] theorem e2p{α:Type}(x:α)(y:Option α):oor (some x) y=some x:=by rfl
@[go_sem] theorem d5l{g:FuncId}{fs cs:List AV}{H H':a02}{σ:List Nat}:a5s E (.func (.func g) fs cs) H H' σ=(E.ro g&&σ.all λb=>b0v (a01 H b) (a01 H' b)):=by rfl
@[go_sem] theorem e1g{α:Type}(b:Bool)(x:α):(bif b then x else x)=x:=by cases b<;>rfl
@[go_sem] theorem d8l(ro:Bool)(σ:List Nat)(n:Nat):b3o ro σ n n=bif ro then[]else σ:=by unfold b3o;rw[cond_eq_ite,e6q (by rw[f08])]
attribute [go_sem] List.range'_succ List.range'_zero
@[go_sem] theorem e4k(f:Operand)(args:Array Operand)(ts:Array TypeId):a0n E ah call F H (.call { callee:=.value f,args:=args,argTypes:=ts })=a0b (a09 E ah call (opv E F f) (args.toList.map (opv E F)) H) λx=>some (x.1,x.2.1,⟨x.2.2,b3o (a5s E (opv E F f) H x.2.1 x.2.2) x.2.2 H.length x.2.1.length⟩):=by simp only[a0n];cases a09 E ah call (opv E F f) (args.toList.map (opv E F)) H<;>rfl
end
/-! ### tables read by type -/
section
variable (E:Env)
def a63(t:TypeId):Option Bool:=(E.und t).map a1t
def a5y(t:TypeId)(f:Nat):Option (Nat×TypeId):=match E.und t with|some (.struct fs)=>(fs[f]?).map λd=>(d.offset,d.type)|_=>none
def c53(t:TypeId):Bool:=match E.und t with
 |some (.struct fs)=>fs.toList.all (λf=>(E.und f.type).isSome)
 |some (.array _ e)=>(E.und e).isSome
 |_=>false
def b0k(t:TypeId)(i:Nat):Option (Nat×Nat):=match E.und t with
 |some (.struct fs)=>(fs[i]?).map λf=>(f.offset,E.sz f.type)
 |some (.array _ e)=>some (i*E.sz e,E.sz e)
 |_=>none
def isT(t:TypeId):Bool:=(E.und t).isSome
end
section
variable {E:Env}{h:FHeap}
def d5u:Option Bool→List AV→Option AV
 |some true,cs=>some (.agg cs)
 |some false,cs=>cs.head?
 |none,_=>none
attribute [go_sem] d5u List.head?_cons
@[go_sem] theorem e0a(t:TypeId)(cs:List AV):a1z E t cs=bif decide (cs.length=E.sz t)then d5u (a63 E t) cs else none:=by
 unfold a1z a63;have e:(cs.length==E.sz t)=decide (cs.length=E.sz t):=by by_cases h:cs.length=E.sz t<;>simp[h]
 rw[e];cases E.und t with
 |none=>cases decide (cs.length=E.sz t)<;>rfl
 |some d=>cases decide (cs.length=E.sz t)<;>simp[d5u]<;>cases a1t d<;>rfl
@[go_sem] theorem e3n(t:TypeId)(cs:List AV)(f:Nat):b5f E t (.agg cs) f=a0b (a5y E t f) λx=>a1z E x.2 ((cs.drop x.1).take (E.sz x.2)):=by
 unfold b5f a5y;cases E.und t with
 |none=>rfl
 |some d=>
  cases d<;>try rfl
  rename_i fs;simp only;cases fs[f]?<;>rfl
def fieldAt(E:Env)(p:AV)(o:Nat)(t:TypeId):Option AV:=
 bif decide (E.sz t≠0)&&isT E t then match p with
  |.ptr b i q=>some (.ptr b i (q+o))
  |.iptr cs=>some (.iptr (cs.drop o))
  |_=>none
 else none
attribute [go_sem] fieldAt
@[go_sem] theorem d4n(t:TypeId)(p:AV)(f:Nat):a4z E t p f=a0b (a5y E t f) λx=>fieldAt E p x.1 x.2:=by
 unfold a4z a5y fieldAt isT;cases E.und t with
 |none=>rfl
 |some d=>
  cases d<;>try rfl
  rename_i fs;simp only;cases fs[f]? with
  |none=>rfl
  |some fd=>
   by_cases h:E.sz fd.type=0
   ·simp[h,a0b]
   ·have e:(E.sz fd.type==0)=false:=e7r.2 h;simp[h,e,a0b];rfl
@[go_sem] theorem e3q(t:TypeId)(ap:List (Nat×AV)):b5j E t ap=bif c53 E t then a0b (E.zero t) λz=>a0b (b08 (b0k E t) z ap) λcs=>some (.agg cs)else none:=by
 unfold b5j c53 b0k;cases hz:E.zero t with
 |none=>
  simp only[a0b];cases E.und t with
  |none=>rfl
  |some d=>cases d<;>simp
 |some z=>
  cases hu:E.und t with
  |none=>rfl
  |some d=>
   cases d<;>try rfl
   ·simp only[a0b];split<;>simp_all<;>split<;>simp_all<;>rfl
   ·simp only[a0b];split<;>simp_all<;>split<;>simp_all<;>rfl
end
/-! ### values -/
section
variable {E:Env}{h:FHeap}{t:TypeId}{k:IntKind}{a b:Int}{p q:Bool}{c:Bool}
theorem ikb(k:IntKind):(k==k)=true:=by cases k<;>rfl
@[go_sem] theorem e42:b0b E .add t (.int k a) (.int k b) c=some (.int k (k.wrap (a+b))):=by simp only[b0b,ikb,c2l,e6m]
@[go_sem] theorem e3s:b0b E .sub t (.int k a) (.int k b) c=some (.int k (k.wrap (a-b))):=by simp only[b0b,ikb,c2l,e6m]
@[go_sem] theorem e3v(hb:(b=0)=False):b0b E .quo t (.int k a) (.int k b) c=some (.int k (k.wrap (a.tdiv b))):=by
 have:(b==0)=false:=by rw[e7r];exact λe=>hb▸e
 simp only[b0b,ikb,c2l,e6m,this,e6w]
@[go_sem] theorem e3u(hb:(b=0)=False):b0b E .rem t (.int k a) (.int k b) c=some (.int k (a.tmod b)):=by
 have:(b==0)=false:=by rw[e7r];exact λe=>hb▸e
 simp only[b0b,ikb,c2l,e6m,this,e6w]
def e56(k:IntKind)(a b:Int):Int:=k.wrap (BitVec.ofInt k.bits a^^^BitVec.ofInt k.bits b).toNat
@[go_sem] theorem e3r:b0b E .xor t (.int k a) (.int k b) c=some (.int k (e56 k a b)):=by simp only[b0b,ikb,c2l,e6m,e56]
theorem e8a(a b:Int):(a==b)=decide (a=b):=by
 by_cases h:a=b
 ·subst h;simp
 ·rw[e7r.2 h,e9e h]
@[go_sem] theorem e41:b0b E .eql t (.int k a) (.int k b) c=some (.bool (decide (a=b))):=by simp only[b0b,ikb,c2l,e6m,e8a]
@[go_sem] theorem e3w:b0b E .neq t (.int k a) (.int k b) c=some (.bool (!decide (a=b))):=by simp only[b0b,ikb,c2l,e6m,bne,e8a]
@[go_sem] theorem e3x:b0b E .lss t (.int k a) (.int k b) c=some (.bool (decide (a<b))):=by simp only[b0b,ikb,c2l,e6m]
@[go_sem] theorem e3y:b0b E .leq t (.int k a) (.int k b) c=some (.bool (decide (a≤b))):=by simp only[b0b,ikb,c2l,e6m]
@[go_sem] theorem e3z:b0b E .gtr t (.int k a) (.int k b) c=some (.bool (decide (b<a))):=by simp only[b0b,ikb,c2l,e6m]
@[go_sem] theorem e40:b0b E .geq t (.int k a) (.int k b) c=some (.bool (decide (b≤a))):=by simp only[b0b,ikb,c2l,e6m]
@[go_sem] theorem e3t{op:BinOp}{x y:List UInt8}(h1:op≠ .shl:=by decide)(h2:op≠ .shr:=by decide):b0b E op t (.str x) (.str y) c=d8y op x y:=by cases op<;>first|rfl|exact absurd rfl h1|exact absurd rfl h2
@[go_sem] theorem e62:aun .not (.bool p)=some (.bool (!p)):=by rfl
@[go_sem] theorem d99(o:Option AObj)(r:a02):a01 (o::r) 0=o:=by simp[a01]
@[go_sem] theorem d9a(o:Option AObj)(r:a02)(n:Nat):a01 (o::r) (n+1)=a01 r n:=by simp[a01]
@[go_sem] theorem e1x(n:Nat):a01 [] n=none:=by rfl
def slT(E:Env)(t:TypeId):Option TypeId:=match E.und t with|some (.slice e)=>some e|_=>none
theorem a3n{e:TypeId}:slT E t=some e↔E.und t=some (.slice e):=by
 unfold slT;constructor
 ·intro h;split at h
  ·rename_i bW;cases h;exact bW
  ·cases h
 ·intro h;rw[h]
def a8q:Option AObj→Option (Nat×List (List AV))
 |some (.row k aa)=>some (k,aa)
 |_=>none
attribute [go_sem] a8q
def rowAt(aa:List (List AV))(i:Int):Option (List AV):=if 0≤i then aa[i.toNat]? else none
@[go_sem] theorem c62(aa:List (List AV))(n:Nat):rowAt aa (n:Int)=aa[n]?:=by simp[rowAt]
theorem c61{aa:List (List AV)}{i:Int}(h:0≤i):rowAt aa i=aa[i.toNat]?:=by simp[rowAt,h]
def inR(i:Int)(n:Nat):Bool:=decide (0≤i)&&decide (i<n)
@[go_sem] theorem c09(j n:Nat):inR (j:Int) n=decide (j<n):=by
 unfold inR;rw[e7o (by omega:(0:Int)≤j),e8p];by_cases h:j<n
 ·rw[e7o h,e7o (by omega)]
 ·rw[e9e h,e9e (by omega)]
theorem b1e{i:Int}{n:Nat}:c4q (.int k i) n=bif inR i n then some i.toNat else none:=rfl
@[go_sem] theorem d94{b o n:Nat}{cp:Option Nat}(hs:(slT E t).isSome=true):b3w E h t (.slice b o n cp)=some (.int .i64 n):=by obtain⟨e,he⟩:=e4v.1 hs;simp only[b3w,a3n.1 he]
@[go_sem] theorem d7n{aa:List (List AV)}{cp:Option Nat}(hs:(slT E t).isSome=true):b3w E h t (.islice aa cp)=some (.int .i64 aa.length):=by obtain⟨e,he⟩:=e4v.1 hs;simp only[b3w,a3n.1 he]
@[go_sem] theorem e3m(hs:(slT E t).isSome=true):b3w E h t .nilslice=some (.int .i64 0):=by obtain⟨e,he⟩:=e4v.1 hs;simp only[b3w,a3n.1 he]
def d9h(E:Env)(t:TypeId):Bool:=match E.und t with|some .string=>true|_=>false
theorem c1a:d9h E t=true→E.und t=some .string:=by
 unfold d9h;intro h;split at h
 ·rename_i bW;exact bW
 ·cases h
@[go_sem] theorem e3l{s:List UInt8}(hs:d9h E t=true):b3w E h t (.str s)=some (.int .i64 s.length):=by simp only[b3w,c1a hs]
@[go_sem] theorem e3p(hs:(slT E t).isSome=true):d7t E t .nilslice=some (.int .i64 0):=by obtain⟨e,he⟩:=e4v.1 hs;simp only[d7t,a3n.1 he]
def b3q(E:Env)(e:Option TypeId)(r:Option (List AV)):Option AV:=match e,r with
 |some e,some r=>bif isT E e&&decide (r.length=E.sz e)then some (.iptr r)else none
 |_,_=>none
attribute [go_sem] b3q
theorem c2g(a b:Nat):(a==b)=decide (a=b):=by
 by_cases h:a=b
 ·subst h;simp
 ·rw[e7r.2 h,e9e h]
@[go_sem] theorem b2m{aa:List (List AV)}{cp:Option Nat}{i:Int}:a0p E h t (.islice aa cp) (.int k i)=match slT E t with|some e=>b3q E (some e) (rowAt aa i)|none=>a0p E h t (.islice aa cp) (.int k i):=by
 cases hs:slT E t with
 |none=>rfl
 |some e=>
  have hu:=a3n.1 hs;simp only[a0p,hu,b1e,inR,b3q,isT];by_cases h0:0≤i
  ·rw[e7o h0,c61 h0];by_cases h1:i<aa.length
   ·rw[e7o h1];have:i.toNat<aa.length:=by omega
    simp only[z9e this,e8h,e6m,c2g];cases(E.und e).isSome<;>rfl
   ·rw[e9e h1];rw[e6n (by omega)];simp
  ·simp[h0,rowAt]
def e59(E:Env)(e:Option TypeId)(ok:Bool)(r:Option (Nat×List (List AV)))(b j:Nat):Option AV:=match e,r with
 |some e,some r=>bif isT E e&&ok&&decide (r.1=E.sz e)then some (.ptr b j 0)else none
 |_,_=>none
attribute [go_sem] e59 Int.toNat_natCast
@[go_sem] theorem d8p{b o n:Nat}{cp:Option Nat}{i:Int}:a0p E h t (.slice b o n cp) (.int k i)=match slT E t with|some e=>e59 E (some e) (inR i n) (a8q (h b)) b (o+i.toNat)|none=>a0p E h t (.slice b o n cp) (.int k i):=by
 cases hs:slT E t with
 |none=>rfl
 |some e=>
  have hu:=a3n.1 hs;simp only[a0p,hu,b1e,e59,isT];cases hb:h b with
  |none=>cases inR i n<;>simp[a8q]
  |some o=>cases o<;>cases inR i n<;>simp[a8q,c2g];cases(E.und e).isSome<;>simp
def c2j(E:Env)(t:TypeId):Option (Nat×TypeId):=match E.und t with|some (.array m e)=>some (m,e)|_=>none
theorem d33{m:Nat}{e:TypeId}:c2j E t=some (m,e)→E.und t=some (.array m e):=by
 unfold c2j;intro h;split at h
 ·rename_i bW;cases h;exact bW
 ·cases h
def b4w(E:Env)(n:Nat)(e:TypeId)(p:AV)(j:Int):Option AV:=
 bif inR j n&&isT E e then match p with
  |.ptr b i o=>some (.ptr b i (o+j.toNat*E.sz e))
  |.iptr cs=>some (.iptr (cs.drop (j.toNat*E.sz e)))
  |_=>none
 else none
@[go_sem] theorem d8o(n:Nat)(e:TypeId)(b i o:Nat)(j:Int):b4w E n e (.ptr b i o) j=bif inR j n&&isT E e then some (.ptr b i (o+j.toNat*E.sz e))else none:=by rfl
@[go_sem] theorem d6l(n:Nat)(e:TypeId)(cs:List AV)(j:Int):b4w E n e (.iptr cs) j=bif inR j n&&isT E e then some (.iptr (cs.drop (j.toNat*E.sz e)))else none:=by rfl
theorem c1x{n:Nat}{e:TypeId}{p:AV}{j:Int}(hu:c2j E t=some (n,e)):a0p E h t p (.int k j)=b4w E n e p j:=by
 simp only[a0p,d33 hu,b1e,b4w,isT];cases inR j n with
 |false=>rfl
 |true=>simp only[e6m,e8p];cases(E.und e).isSome<;>cases p<;>rfl
@[go_sem] theorem e30{b i o:Nat}{j:Int}:a0p E h t (.ptr b i o) (.int k j)=match c2j E t with|some (n,e)=>b4w E n e (.ptr b i o) j|none=>a0p E h t (.ptr b i o) (.int k j):=by
 cases hu:c2j E t with
 |none=>rfl
 |some x=>exact c1x hu
@[go_sem] theorem e0r{cs:List AV}{j:Int}:a0p E h t (.iptr cs) (.int k j)=match c2j E t with|some (n,e)=>b4w E n e (.iptr cs) j|none=>a0p E h t (.iptr cs) (.int k j):=by
 cases hu:c2j E t with
 |none=>rfl
 |some x=>exact c1x hu
@[go_sem] theorem e9m(n:Nat):inR 0 n=decide (0<n):=c09 0 n
@[go_sem] theorem e4c:Int.toNat 0=0:=by rfl
@[go_sem] theorem e9l(n:Nat):inR 1 n=decide (1<n):=c09 1 n
@[go_sem] theorem e4b:Int.toNat 1=1:=by rfl
@[go_sem] theorem e9k(n:Nat):inR 2 n=decide (2<n):=c09 2 n
@[go_sem] theorem e4a:Int.toNat 2=2:=by rfl
@[go_sem] theorem d95{s:List UInt8}{i:Int}(hs:d9h E t=true):b5e E t (.str s) (.int k i)=bif inR i s.length then(s[i.toNat]?).map (λb=>.int .u8 b.toNat)else none:=by
 simp only[b5e,c1a hs,b1e];cases inR i s.length with
 |false=>rfl
 |true=>simp only[e6m];cases s[i.toNat]?<;>rfl
@[go_sem] theorem d93{cs:List AV}:a5h E h t (.iptr cs)=a1z E t (cs.take (E.sz t)):=by rfl
@[go_sem] theorem e1r{b i o:Nat}:a5h E h t (.ptr b i o)=a0b (a8q (h b)) λkr=>a0b (kr.2[i]?) λr=>a1z E t ((r.drop o).take (E.sz t)):=by
 unfold a5h;cases hb:h b with
 |none=>simp only[hb];rfl
 |some ob=>cases ob<;>simp only[hb,a8q,a0b];rename_i aa;cases aa[i]?<;>rfl
@[go_sem] theorem d8z{b i o:Nat}{x:AV}:a6u E h t (.ptr b i o) x=a0b (a8q (h b)) λkr=>a0b (kr.2[i]?) λr=>
 bif decide (x.cells.length=E.sz t)&&isT E t&&Nat.ble (o+x.cells.length) r.length&&x.cells.all AV.storable then some (.set b (.row kr.1 (kr.2.set i (splice r o x.cells))))else none:=by
 unfold a6u;cases hb:h b with
 |none=>simp only[hb];rfl
 |some ob=>cases ob<;>simp only[hb,a8q,a0b];rename_i aa;cases aa[i]?<;>simp only[isT,c2g]
@[go_sem] theorem e8c{n:Nat}:d7k E n t=a0b (E.zero t) λz=>bif decide (0<z.length)then some (.ptr n 0 0,.new (.row z.length [z]))else none:=by
 unfold d7k;cases E.zero t with
 |none=>rfl
 |some z=>simp only[a0b];cases z<;>rfl
@[go_sem] theorem e8d{n:Nat}{x:AV}:d7w n x=bif !x.isJunk&&decide (0<x.cells.length)then some (.ptr n 0 0,.new (.row x.cells.length [x.cells]))else none:=by
 have e:Nat.blt 0 x.cells.length=decide (0<x.cells.length):=by rw[f04];simp[e6u]
 cases x<;>simp only[d7w,e,AV.isJunk,Bool.not_false,e8p,e9t,Bool.false_and,e6w]
theorem c9p(a b:Nat):Nat.ble a b=decide (a≤b):=by rw[f04];simp[e8m]
theorem c52(a b:Nat):Nat.blt a b=decide (a<b):=by rw[f04];simp[e6u]
attribute [go_sem] c9p c52
@[go_sem] theorem e2a(r:List AV)(o:Nat)(cs:List AV):splice r o cs=r.take o++cs++r.drop (o+cs.length):=by rfl
def c6s(E:Env)(e:TypeId)(l c:Int):Bool:=decide (0≤l)&&decide (l≤c)&&decide (c≤281474976710656)&&decide ((E.bytes e:Int)*c≤281474976710656)
@[go_sem] theorem d4m{n:Nat}{k':IntKind}{l c:Int}:a3j E n t (.int k l) (.int k' c)=a0b (slT E t) λe=>a0b (E.zero e) λz=>bif c6s E e l c&&decide (0<z.length)then
 some (AV.slice n 0 l.toNat (some c.toNat),Eff.new (.row z.length (List.replicate c.toNat z)))else none:=by
 cases hs:slT E t with
 |none=>
  unfold a3j;unfold slT at hs;cases hu:E.und t with
  |none=>rfl
  |some d=>cases d<;>first|rfl|(rw[hu]at hs;cases hs)
 |some e=>have hu:=a3n.1 hs;simp only[a3j,hu,a0b,c6s,c52];cases E.zero e<;>rfl
theorem a7v{e:TypeId}{m:Nat}(h:m≤1000000000)(hb:E.bytes e≤1000):c6s E e (m:Int) (m:Int)=true:=by
 unfold c6s;have h1:E.bytes e*m≤1000*1000000000:=Nat.mul_le_mul hb h;have h2:((E.bytes e:Int)*(m:Int))=((E.bytes e*m:Nat):Int):=by simp
 rw[h2];simp only[c11,e6l];omega
@[go_sem] theorem d3f{n m:Nat}{ps:List (Nat×AV)}:a2r E n t m ps=a0b (slT E t) λe=>a0b (E.zero e) λz=>bif decide (0<z.length)&&decide (m*z.length≤16777216)then
 a0b (b3e z.length (List.replicate m z) ps) λaa=>some (AV.slice n 0 m (some m),Eff.new (.row z.length aa))else none:=by
 cases hs:slT E t with
 |none=>
  unfold a2r;unfold slT at hs;cases hu:E.und t with
  |none=>rfl
  |some d=>cases d<;>first|rfl|(rw[hu]at hs;cases hs)
 |some e=>
  have hu:=a3n.1 hs;simp only[a2r,hu,a0b];cases E.zero e with
  |none=>rfl
  |some z=>
   simp only[c52,c9p];cases decide (0<z.length)&&decide (m*z.length≤16777216)with
   |false=>rfl
   |true=>simp only[e6m];cases b3e z.length (List.replicate m z) ps<;>rfl
@[go_sem] theorem e1n(m:Nat)(aa:List (List AV)):b3e m aa []=some aa:=by rfl
@[go_sem] theorem d92(m:Nat)(aa:List (List AV))(i:Nat)(v:AV)(r:List (Nat×AV)):b3e m aa ((i,v)::r)=bif !v.isJunk&&decide (v.cells.length=m)&&decide (i<aa.length)then b3e m (aa.set i v.cells) r else none:=by simp only[b3e,c2g,c52]
@[go_sem] theorem e1s(pl:Nat→Option (Nat×Nat))(cs:List AV):b08 pl cs []=some cs:=by rfl
@[go_sem] theorem d96(pl:Nat→Option (Nat×Nat))(cs:List AV)(i:Nat)(v:AV)(r:List (Nat×AV)):b08 pl cs ((i,v)::r)=a0b (pl i) λx=>bif !v.isJunk&&decide (v.cells.length=x.2)&&decide (x.1+x.2≤cs.length)then b08 pl (splice cs x.1 v.cells) r else none:=by
 simp only[b08];cases pl i with
 |none=>rfl
 |some x=>simp only[a0b,c2g,c9p]
@[go_sem] theorem e1d{H:a02}:b06 H .none=H:=by rfl
@[go_sem] theorem e3c{H:a02}{o:AObj}:b06 H (.new o)=H++[some o]:=by rfl
@[go_sem] theorem e3b{H:a02}{b:Nat}{o:AObj}:b06 H (.set b o)=H.set b (some o):=by rfl
@[go_sem] theorem e1e{H:a02}{b:Nat}{o:AObj}:b06 H (.kill b o)=H.set b none++[some o]:=by rfl
@[go_sem] theorem e3a{n:Nat}{o:AObj}:Eff.fits n (.new o)=true:=by rfl
@[go_sem] theorem e16{n:Nat}:Eff.fits n .none=true:=by rfl
@[go_sem] theorem e39{n b:Nat}{o:AObj}:Eff.fits n (.set b o)=decide (b<n):=c52 b n
@[go_sem] theorem e17{n b:Nat}{o:AObj}:Eff.fits n (.kill b o)=decide (b<n):=c52 b n
attribute [go_sem] List.all_cons List.all_nil List.set_cons_zero List.set_cons_succ List.set_nil List.replicate_zero
end
@[go_sem] theorem d8x(b:Bool):AV.cells (.bool b)=[(AV.bool b)]:=by rfl
@[go_sem] theorem d09(b:Bool):AV.storable (.bool b)=true:=by rfl
@[go_sem] theorem e1i(k:IntKind)(n:Int):AV.cells (.int k n)=[(AV.int k n)]:=by rfl
@[go_sem] theorem d3p(k:IntKind)(n:Int):AV.storable (.int k n)=true:=by rfl
@[go_sem] theorem e2w(k:IntKind)(n:Int):AV.isJunk (.int k n)=false:=by rfl
@[go_sem] theorem d86(k:IntKind)(n:Int):a0e (.int k n)=[]:=by rfl
@[go_sem] theorem e1h(s:List UInt8):AV.cells (.str s)=[(AV.str s)]:=by rfl
@[go_sem] theorem d3o(s:List UInt8):AV.storable (.str s)=true:=by rfl
@[go_sem] theorem e2v(s:List UInt8):AV.isJunk (.str s)=false:=by rfl
@[go_sem] theorem d83(s:List UInt8):a0e (.str s)=[]:=by rfl
@[go_sem] theorem c9o:AV.cells .nilslice=[AV.nilslice]:=by rfl
@[go_sem] theorem c2y:AV.storable .nilslice=true:=by rfl
@[go_sem] theorem d1j:AV.isJunk .nilslice=false:=by rfl
@[go_sem] theorem c5g:a0e .nilslice=[]:=by rfl
@[go_sem] theorem d84(b i o:Nat):a0e (.ptr b i o)=[b]:=by rfl
@[go_sem] theorem d53(l:List AV):a0e (.iptr l)=[]:=by rfl
@[go_sem] theorem d78(b o n:Nat)(c:Option Nat):AV.cells (.slice b o n c)=[(AV.slice b o n c)]:=by rfl
@[go_sem] theorem c9k(b o n:Nat)(c:Option Nat):AV.storable (.slice b o n c)=true:=by rfl
@[go_sem] theorem d8n(b o n:Nat)(c:Option Nat):AV.isJunk (.slice b o n c)=false:=by rfl
@[go_sem] theorem d3m(b o n:Nat)(c:Option Nat):a0e (.slice b o n c)=[b]:=by rfl
@[go_sem] theorem d4g(r:List (List AV))(c:Option Nat):AV.cells (.islice r c)=[(AV.islice r c)]:=by rfl
@[go_sem] theorem c5m(r:List (List AV))(c:Option Nat):AV.storable (.islice r c)=true:=by rfl
@[go_sem] theorem d6h(r:List (List AV))(c:Option Nat):AV.isJunk (.islice r c)=false:=by rfl
@[go_sem] theorem d05(r:List (List AV))(c:Option Nat):a0e (.islice r c)=[]:=by rfl
@[go_sem] theorem d85(b:Nat):a0e (.map b)=[b]:=by rfl
@[go_sem] theorem d8w(f:Fn)(a b:List AV):AV.cells (.func f a b)=[(AV.func f a b)]:=by rfl
@[go_sem] theorem d08(f:Fn)(a b:List AV):AV.storable (.func f a b)=true:=by rfl
@[go_sem] theorem e1j(l:List AV):AV.cells (.agg l)=l:=by rfl
@[go_sem] theorem e2x(l:List AV):AV.isJunk (.agg l)=false:=by rfl
@[go_sem] theorem e0l(n:Nat):Eff.keys n .none=[]:=by rfl
@[go_sem] theorem e2u(n:Nat)(o:AObj):Eff.keys n (.new o)=[n]:=by rfl
@[go_sem] theorem e2t(n b:Nat)(o:AObj):Eff.keys n (.set b o)=[b]:=by rfl
@[go_sem] theorem e0m(n b:Nat)(o:AObj):Eff.keys n (.kill b o)=[b,n]:=by rfl
@[go_sem] theorem e99:1+1=2:=by rfl
@[go_sem] theorem e98:2+1=3:=by rfl
@[go_sem] theorem e97:3+1=4:=by rfl
@[go_sem] theorem e96:4+1=5:=by rfl
@[go_sem] theorem e95:5+1=6:=by rfl
@[go_sem] theorem e94:6+1=7:=by rfl
@[go_sem] theorem e93:7+1=8:=by rfl
@[go_sem] theorem e92:8+1=9:=by rfl
@[go_sem] theorem e91:9+1=10:=by rfl
@[go_sem] theorem e7a:10+1=11:=by rfl
@[go_sem] theorem e79:11+1=12:=by rfl
@[go_sem] theorem e75:2+2=4:=by rfl
@[go_sem] theorem e74:2+3=5:=by rfl
@[go_sem] theorem e73:3+2=5:=by rfl
@[go_sem] theorem e72:3+3=6:=by rfl
@[go_sem] theorem e78:1+2=3:=by rfl
@[go_sem] theorem e77:1+3=4:=by rfl
@[go_sem] theorem e76:1+4=5:=by rfl
@[go_sem] theorem e2f{α:Type}(a:α):List.replicate 1 a=[a]:=by rfl
@[go_sem] theorem e2e{α:Type}(a:α):List.replicate 2 a=[a,a]:=by rfl
@[go_sem] theorem e2d{α:Type}(a:α):List.replicate 3 a=[a,a,a]:=by rfl
attribute [go_sem] List.map_cons List.map_nil List.append_nil List.nil_append List.cons_append List.length_cons List.length_nil a1t cond_true cond_false Option.map_some Option.map_none List.drop_zero List.drop_succ_cons List.take_succ_cons List.take_zero List.drop_nil List.take_nil List.getElem?_cons_zero List.getElem?_cons_succ List.getElem?_nil Nat.zero_add Nat.add_zero Nat.zero_mul Nat.mul_one decide_true decide_false Bool.and_true Bool.true_and Bool.and_false Bool.false_and Bool.or_true Bool.true_or Bool.or_false Bool.false_or Bool.not_true Bool.not_false Option.bind_some Option.isSome_some a2g decide_eq_true_eq
end Go.Ax
/- AxFlat: values that refer to no mutable block: renaming and freezing leave them; calls on them. -/
namespace Go.Ax
mutual
theorem a1d(π:Nat→Option Nat):∀(v:AV),refs v=[]→ren π v=v
 |.ptr ..,h=>by simp[refs]at h
 |.slice ..,h=>by simp[refs]at h
 |.map ..,h=>by simp[refs]at h
 |.yfn ..,h=>by simp[refs]at h
 |.func fn fs cs,h=>by simp only[refs,e8o]at h;simp only[ren,a5t π fs h.1,a5t π cs h.2]
 |.iface t x,h=>by simp only[refs]at h;simp only[ren,a1d π x h]
 |.agg cs,h=>by simp only[refs]at h;simp only[ren,a5t π cs h]
 |.tuple cs,h=>by simp only[refs]at h;simp only[ren,a5t π cs h]
 |.junk,_|.bool _,_|.int ..,_|.str _,_|.nilptr,_|.nilslice,_|.nilmap,_|.nilfunc,_|.nilifc,_|.iptr _,_|.islice ..,_|.imap ..,_|.iset _,_=>rfl
theorem a5t(π:Nat→Option Nat):∀(l:List AV),a0a l=[]→b92 π l=l
 | [],_=>rfl
 |v::vs,h=>by simp only[a0a,e8o]at h;simp only[b92,a1d π v h.1,a5t π vs h.2]
end
theorem a34(π:Nat→Option Nat){l:List AV}(h:a0a l=[]):l.map (ren π)=l:=by rw[←a74];exact a5t π l h
mutual
theorem a1c(m:Nat)(top:Bool)(d:AV→Option AV):∀(v:AV),refs v=[]→a30 m top d v=some v
 |.ptr ..,h=>by simp[refs]at h
 |.slice ..,h=>by simp[refs]at h
 |.map ..,h=>by simp[refs]at h
 |.yfn ..,h=>by simp[refs]at h
 |.func fn fs cs,h=>by simp only[refs,e8o]at h;simp only[a30,a4h m top d fs h.1,a4h m top d cs h.2]
 |.iface t x,h=>by simp only[refs]at h;simp only[a30,a1c m top d x h]
 |.agg cs,h=>by simp only[refs]at h;simp only[a30,a4h m top d cs h]
 |.tuple cs,h=>by simp only[refs]at h;simp only[a30,a4h m top d cs h]
 |.junk,_|.bool _,_|.int ..,_|.str _,_|.nilptr,_|.nilslice,_|.nilmap,_|.nilfunc,_|.nilifc,_|.iptr _,_|.islice ..,_|.imap ..,_|.iset _,_=>rfl
theorem a4h(m:Nat)(top:Bool)(d:AV→Option AV):∀(l:List AV),a0a l=[]→a4l m top d l=some l
 | [],_=>rfl
 |v::vs,h=>by simp only[a0a,e8o]at h;simp only[a4l,a1c m top d v h.1,a4h m top d vs h.2]
end
def FlatR(aa:List (List AV)):Prop:=∀r∈aa,a0a r=[]
theorem FlatR.nil:FlatR []:=λr h=>by simp at h
theorem FlatR.cons{r:List AV}{aa:List (List AV)}(h:a0a r=[])(hs:FlatR aa):FlatR (r::aa):=by
 intro x hx;simp only[e6v]at hx;rcases hx with rfl|hx
 ·exact h
 ·exact hs x hx
theorem FlatR.append{a b:List (List AV)}(h:FlatR a)(k:FlatR b):FlatR (a++b):=by intro x hx;simp only[e7h]at hx;exact hx.elim (h x) (k x)
theorem FlatR.map{α:Type}{f:α→List AV}{l:List α}(h:∀x,a0a (f x)=[]):FlatR (l.map f):=by intro x hx;simp only[e7t]at hx;obtain⟨y,_,rfl⟩:=hx;exact h y
theorem FlatR.replicate{n:Nat}{r:List AV}(h:a0a r=[]):FlatR (List.replicate n r):=by intro x hx;rw[(List.mem_replicate.1 hx).2];exact h
theorem a0c{aa:List (List AV)}(h:FlatR aa):aa.flatMap a0a=[]:=by rw[List.flatMap_eq_nil_iff];exact h
theorem a08(π:Nat→Option Nat){aa:List (List AV)}(h:FlatR aa):aa.map (λr=>r.map (ren π))=aa:=by
 conv=>rhs;rw[←List.map_id aa]
 exact e7k λr hr=>a34 π (h r hr)
theorem a13(m:Nat)(d:AV→Option AV):∀{aa:List (List AV)},FlatR aa→a8i m d aa=some aa
 | [],_=>rfl
 |r::rs,h=>by simp only[a8i,a4h m false d r (h r (by simp)),a13 m d (aa:=rs) (λx hx=>h x (by simp[hx]))]
/-! ### slices that are immutable, nil or not -/
def sl(c:Option (Option Nat))(aa:List (List AV)):AV:=match c,aa with
 |none,[]=>.nilslice
 |none,r::rs=>.islice (r::rs) none
 |some c,aa=>.islice aa c
@[go_sem] theorem a67(c:Option Nat)(aa:List (List AV)):sl (some c) aa = .islice aa c:=by cases aa<;>rfl
@[go_sem] theorem d5c:sl none [] = .nilslice:=by rfl
@[go_sem] theorem b0e(r:List AV)(rs:List (List AV)):sl none (r::rs) = .islice (r::rs) none:=by rfl
@[go_sem] theorem a12(c:Option (Option Nat))(aa:List (List AV)):refs (sl c aa)=[]:=by cases c<;>cases aa<;>rfl
@[go_sem] theorem b7r(π:Nat→Option Nat)(c:Option (Option Nat))(aa:List (List AV)):ren π (sl c aa)=sl c aa:=a1d π _ (a12 c aa)
@[go_sem] theorem d9f(c:Option (Option Nat))(aa:List (List AV)):a0e (sl c aa)=[]:=by cases c<;>cases aa<;>rfl
@[go_sem] theorem e3f(c:Option (Option Nat))(aa:List (List AV)):(sl c aa).cells=[sl c aa]:=by cases c<;>cases aa<;>rfl
@[go_sem] theorem d54(c:Option (Option Nat))(aa:List (List AV)):(sl c aa).storable=true:=by cases c<;>cases aa<;>rfl
@[go_sem] theorem e55(c:Option (Option Nat))(aa:List (List AV)):(sl c aa).isJunk=false:=by cases c<;>cases aa<;>rfl
section
variable {E:Env}{h:FHeap}{t e:TypeId}{c:Option (Option Nat)}{aa:List (List AV)}{k:IntKind}
@[go_sem] theorem e64(hs:(slT E t).isSome=true):b3w E h t (sl c aa)=some (.int .i64 aa.length):=by obtain⟨e,he⟩:=e4v.1 hs;have ht:=a3n.1 he;cases c<;>cases aa<;>simp[sl,b3w,ht]
@[go_sem] theorem e5a{i:Int}:a0p E h t (sl c aa) (.int k i)=match slT E t with|some e=>b3q E (some e) (rowAt aa i)|none=>a0p E h t (sl c aa) (.int k i):=by
 cases c with
 |some c=>rw[a67];exact b2m
 |none=>cases aa with
  |nil=>
   cases hs:slT E t with
   |none=>rfl
   |some e=>
    have hu:=a3n.1 hs;simp only[sl,a0p,hu,b3q];cases h2:rowAt [] i with
    |none=>simp
    |some r=>unfold rowAt at h2;split at h2<;>simp at h2
  |cons a l=>exact b2m
end
/-! ### calls -/
@[go_sem] theorem e5x(a:AV):a4j 0 [a]=[(0,a)]:=by rfl
@[go_sem] theorem e5w(a b:AV):a4j 0 [a,b]=[(0,a),(1,b)]:=by rfl
@[go_sem] theorem e5v(a b c:AV):a4j 0 [a,b,c]=[(0,a),(1,b),(2,c)]:=by rfl
@[go_sem] theorem e5u(a b c d:AV):a4j 0 [a,b,c,d]=[(0,a),(1,b),(2,c),(3,d)]:=by rfl
theorem a8d(n:Nat)(H1:a02):∀(b:Nat) (H:a02),a14 [] n H1 b H=H
 |_,[]=>rfl
 |b,o::r=>by simp only[a14,List.idxOf?_nil,a8d n H1 (b+1) r]
theorem b8p{run:List AV→a02→Option (AV×a02)}{args:List AV}{H:a02}{v:AV}(ha:a0a args=[])(h:run args []=some (v,[]))(hv:refs v=[]):a27 run args H=some (v,H,[]):=by
 unfold a27;have hr:a1i H a2p (a0a args) []=[]:=by rw[ha];rfl
 simp only[hr,a4e,List.all_nil,e8h,e6m,a34 _ ha,a4n,e5j,h,a1d _ v hv,a8d,List.drop_nil,e4t,e5r]
theorem a04{E:Env}{ah:Bool}{call:CallF}{g:FuncId}{fs cs ar args:List AV}{H:a02}{v:AV}(hx:E.ext g=false)(hf:(E.fn g).isSome=true)(he:fs++ar++cs=args)(ha:a0a args=[])(h:call g args []=some (v,[]))(hv:refs v=[]) :
 a09 E ah call (.func (.func g) fs cs) ar H=some (v,H,[]):=by
 simp only[a09,hx,hf,he,e6m,e6w,b8p ha h hv];cases ah
 ·rfl
 ·simp only[e8p];rw[show Nat.ble H.length H.length=true by rw[e8m];exact e6o _];rfl
@[go_sem] theorem a8u(k:IntKind)(n:Int):refs (.int k n)=[]:=by rfl
@[go_sem] theorem d9z(b:Bool):refs (.bool b)=[]:=by rfl
@[go_sem] theorem e2k(s:List UInt8):refs (.str s)=[]:=by rfl
@[go_sem] theorem a6c(r:List (List AV))(c:Option Nat):refs (.islice r c)=[]:=by rfl
@[go_sem] theorem c67(r:List AV):refs (.iptr r)=[]:=by rfl
@[go_sem] theorem b61:refs .nilslice=[]:=by rfl
@[go_sem] theorem a0z(l:List AV):refs (.agg l)=a0a l:=by rfl
@[go_sem] theorem a9r(l:List AV):refs (.tuple l)=a0a l:=by rfl
@[go_sem] theorem d9y(f:Fn)(a b:List AV):refs (.func f a b)=a0a a++a0a b:=by rfl
@[go_sem] theorem d0n(b i o:Nat):refs (.ptr b i o)=[b]:=by rfl
@[go_sem] theorem c3b(b i o:Nat)(c:Option Nat):refs (.slice b i o c)=[b]:=by rfl
@[go_sem] theorem e2l(b:Nat):refs (.map b)=[b]:=by rfl
@[go_sem] theorem a0r:a0a []=[]:=by rfl
@[go_sem] theorem a06(v:AV)(l:List AV):a0a (v::l)=refs v++a0a l:=by rfl
/-! ### what a loop's head keeps -/
/-! ### globals -/
def gV:Option (List AV)→AV|some cs=>.iptr cs|none=>.junk
@[go_sem] theorem e2m{E:Env}{F:Frm}(g:Nat):opv E F (.global g)=gV (E.G g):=by simp only[opv,gV];cases E.G g<;>rfl
@[go_sem] theorem e5c(cs:List AV):gV (some cs) = .iptr cs:=by rfl
end Go.Ax
/- AxBits: words of 64 bits; sums that fit. -/
namespace Go.Ax
def u64(x:BitVec 64):AV:=.int .u64 (x.toNat:Int)
section
variable {E:Env}{t:TypeId}{c:Bool}{x y:BitVec 64}{k:IntKind}
def d1w(E:Env)(t:TypeId):Option IntKind:=match E.und t with|some (.int k)=>some k|_=>none
theorem c1t{k:IntKind}:d1w E t=some k→E.und t=some (.int k):=by
 unfold d1w;intro h;split at h
 ·rename_i bW;cases h;exact bW
 ·cases h
def cvI(k:IntKind)(n:Int):AV:=.int k (k.wrap n)
@[go_sem] theorem e5z(n:Int):cvI .i64 n = .int .i64 (IntKind.i64.wrap n):=by rfl
@[go_sem] theorem e87(n:Int):cvI .u8 n = .int .u8 (IntKind.u8.wrap n):=by rfl
@[go_sem] theorem e3e{h:FHeap}{s d:TypeId}{k:IntKind}{n:Int}(hs:isT E s=true):a62 E h s d (.int k n)=match d1w E d with|some k'=>some (cvI k' n)|none=>a62 E h s d (.int k n):=by
 cases hd:d1w E d with
 |none=>rfl
 |some k'=>have hu:=c1t hd;obtain⟨ds,lQ⟩:=e4v.1 (show(E.und s).isSome=true from hs);simp only[a62,hu,lQ];cases ds<;>simp[d3e,hu,lQ,cvI]
theorem w64{n:Int}(h1:-9223372036854775808≤n)(h2:n≤9223372036854775807):IntKind.i64.wrap n=n:=IntWalk.i64_in n ⟨h1,h2⟩
end
end Go.Ax
/- AxWp: what a statement comes to, by a condition on the end. -/
namespace Go.Ax
@[go_sem] theorem e0n(F:Frm):a1l [] F=[]:=by rfl
@[go_sem] theorem d8m(s:Nat)(r:List Nat)(F:Frm):a1l (s::r) F=(s,a2n F s)::a1l r F:=by rfl
@[go_sem] theorem c0j{v:AV}{H:a02}(h:refs v=[]):a1q false 0 v H=some (v,[]):=by simp only[a1q,a1c _ _ _ _ h,e71,e5j,e6w]
@[go_sem] theorem e06(v:AV):a76 [v]=v:=by rfl
@[go_sem] theorem e05(v w:AV)(l:List AV):a76 (v::w::l) = .tuple (v::w::l):=by rfl
@[go_sem] theorem e3i{E:Env}{F:Frm}{H:a02}:a10 E F H []=some []:=by rfl
@[go_sem] theorem e3h{E:Env}{F:Frm}{H:a02}(t:Nat)(r:List ResultVar):a10 E F H (.tmp t::r)=a0b (a10 E F H r) λvs=>some (a2n F t::vs):=by simp only[a10];cases a10 E F H r<;>rfl
@[go_sem] theorem e1p{E:Env}{F:Frm}{H:a02}(a t:Nat)(r:List ResultVar):a10 E F H (.cell a t::r)=a0b (a5h E (a01 H) t (a2n F a)) λv=>a0b (a10 E F H r) λvs=>some (v::vs):=by simp only[a10];cases a5h E (a01 H) t (a2n F a)<;>cases a10 E F H r<;>rfl
abbrev b3z:=AExit→Frm→a02→Prop
def bk(id:Nat)(Q:b3z):b3z:=λe F H=>match e with|.exit i=>if i=id then Q .normal F H else Q (.exit i) F H|e=>Q e F H
def WpR:Code→Cx→Frm→a02→b3z→Prop
 |.skip,_,F,H,Q=>Q .normal F H
 |.label _,_,F,H,Q=>Q .normal F H
 |.exit id,_,F,H,Q=>Q (.exit id) F H
 |.ret,_,F,H,Q=>Q .ret F H
 |.seq a b,x,F,H,Q=>WpR a x F H λe F H=>match e with|.normal=>WpR b x F H Q|e=>Q e F H
 |.block id b,x,F,H,Q=>WpR b { x with cur:=id } F H (bk id Q)
 |.scope b,x,F,H,Q=>WpR b x F H Q
 |c,x,F,H,Q=>∃e F' H',Ev x c F H (e,F',H')∧Q e F' H'
def Wp(x:Cx)(c:Code)(F:Frm)(H:a02)(Q:b3z):Prop:=WpR c x F H Q
def sq(x:Cx)(b:Code)(Q:b3z):b3z:=λe F H=>match e with|.normal=>Wp x b F H Q|e=>Q e F H
def cx(E:Env)(M:List Fact)(m N:Nat)(g:FuncId)(cur:Nat):Cx:=⟨E,M,m,N,E.keep g,cur⟩
def lp{σ:Type}(m:Nat)(keep:List Nat)(Fs:σ→Frm)(Hs:σ→a02)(bq:σ→Nat)(Inv:σ→Prop)(n:Nat)(Q:b3z):b3z:=λe F H=>match e with|.normal=>∃s,gcD m keep F H=some (Fs s,Hs s)∧bq s<n∧Inv s|e=>Q e F H
def fq(E:Env)(g:FuncId)(m:Nat)(results:List ResultVar)(r:AV×a02):b3z:=λe F H=>match e with|.exit _=>False|_=>∃vs,a10 E F H results=some vs∧a1q (E.thaw g) m (a76 vs) H=some r
def lpJ(m:Nat)(keep:List Nat)(J:Nat→Frm→a02→Prop)(n:Nat)(Q:b3z):b3z:=λe F H=>match e with|.normal=>∃F1 H1 n',gcD m keep F H=some (F1,H1)∧n'<n∧J n' F1 H1|e=>Q e F H
@[irreducible] def d47:AV→Option Bool|.bool b=>some b|_=>none
@[go_sem] theorem e7b:d47 (.bool true)=some true:=by unfold d47;rfl
@[go_sem] theorem e7c:d47 (.bool false)=some false:=by unfold d47;rfl
theorem d6b{v:AV}{t:Bool}(h:d47 v=some t):v = .bool t:=by
 unfold d47 at h;split at h
 ·cases h;rfl
 ·cases h
def hs(E:Env)(M:List Fact)(N:Nat):Code→Frm→a02→Frm→a02→List LogE→Bool→Prop
 |.region id an ah,F,H,F1,H1,log,t=>(a8t E ah N (sem E M) an.toList an.toList [] F H,true)=(some (F1,H1,log),t)
 |.cond c a b,F,H,F1,H1,log,t=>(d47 (opv E F c),F,H,[])=(some t,F1,H1,log)
 |_,_,_,_,_,_,_=>False
def sd:Code→List LogE→Bool
 |.region id an ah,log=>!ah||logOk an.toList log.length log
 |_,_=>true
def ct(x:Cx):Code→Bool→Frm→a02→b3z→Prop
 |.region id an ah,t,F,H,Q=>Q .normal F H
 |.cond c a b,t,F,H,Q=>Wp x (bif t then a else b) F H Q
 |_,_,_,_,_=>False
@[go_sem] theorem f2x(E:Env)(M:List Fact)(N:Nat)(id an ah F H F1 H1 log t):hs E M N (.region id an ah) F H F1 H1 log t=((a8t E ah N (sem E M) an.toList an.toList [] F H,true)=(some (F1,H1,log),t)):=by rfl
@[go_sem] theorem f2y(E:Env)(M:List Fact)(N:Nat)(c a b F H F1 H1 log t):hs E M N (.cond c a b) F H F1 H1 log t=((d47 (opv E F c),F,H,[])=(some t,F1,H1,log)):=by rfl
theorem wx:(∀x id an ah t F H Q,ct x (.region id an ah) t F H Q=Q .normal F H)∧(∀x c a b F H Q,ct x (.cond c a b) true F H Q=Wp x a F H Q)∧(∀x c a b F H Q,ct x (.cond c a b) false F H Q=Wp x b F H Q):=⟨λ_ _ _ _ _ _ _ _=>rfl,λ_ _ _ _ _ _ _=>rfl,λ_ _ _ _ _ _ _=>rfl⟩
theorem ww:(∀x F H Q,Wp x .skip F H Q=Q .normal F H)∧(∀x F H Q l,Wp x (.label l) F H Q=Q .normal F H)∧(∀x F H Q i,Wp x (.exit i) F H Q=Q (.exit i) F H)∧(∀x F H Q,Wp x .ret F H Q=Q .ret F H)∧
 (∀x a b F H Q,Wp x (.seq a b) F H Q=Wp x a F H (sq x b Q))∧(∀E M m N g cur i b F H Q,Wp (cx E M m N g cur) (.block i b) F H Q=Wp (cx E M m N g i) b F H (bk i Q))∧(∀x b F H Q,Wp x (.scope b) F H Q=Wp x b F H Q)∧
 (∀x b F H Q,sq x b Q .normal F H=Wp x b F H Q)∧(∀x b F H Q i,sq x b Q (.exit i) F H=Q (.exit i) F H)∧(∀x b F H Q,sq x b Q .ret F H=Q .ret F H)∧
 (∀i F H Q,bk i Q .normal F H=Q .normal F H)∧(∀i F H Q,bk i Q .ret F H=Q .ret F H)∧(∀i F H Q,bk i Q (.exit i) F H=Q .normal F H)∧(∀i j F H Q,(j=i)=False→bk i Q (.exit j) F H=Q (.exit j) F H)∧
 (∀m keep J n Q i F H,lpJ m keep J n Q (.exit i) F H=Q (.exit i) F H)∧(∀m keep J n Q F H,lpJ m keep J n Q .ret F H=Q .ret F H)∧
 (∀(σ:Type) m keep (Fs:σ→Frm) Hs bq Inv n Q i F H,lp m keep Fs Hs bq Inv n Q (.exit i) F H=Q (.exit i) F H)∧(∀(σ:Type) m keep (Fs:σ→Frm) Hs bq Inv n Q F H,lp m keep Fs Hs bq Inv n Q .ret F H=Q .ret F H)∧
 (∀a b:Code,cond true a b=a)∧(∀a b:Code,cond false a b=b)∧
 (∀x id an ah t F H Q,ct x (.region id an ah) t F H Q=Q .normal F H)∧(∀x c a b F H Q,ct x (.cond c a b) true F H Q=Wp x a F H Q)∧(∀x c a b F H Q,ct x (.cond c a b) false F H Q=Wp x b F H Q):=
 ⟨λ_ _ _ _=>rfl,λ_ _ _ _ _=>rfl,λ_ _ _ _ _=>rfl,λ_ _ _ _=>rfl,λ_ _ _ _ _ _=>rfl,λ_ _ _ _ _ _ _ _ _ _ _=>rfl,λ_ _ _ _ _=>rfl,λ_ _ _ _ _=>rfl,λ_ _ _ _ _ _=>rfl,λ_ _ _ _ _=>rfl,
  λ_ _ _ _=>rfl,λ_ _ _ _=>rfl,λi F H Q=>by simp only[bk,e6q],λi j F H Q h=>by simp only[bk,h,e9z],λ_ _ _ _ _ _ _ _=>rfl,λ_ _ _ _ _ _ _=>rfl,λ_ _ _ _ _ _ _ _ _ _ _ _=>rfl,λ_ _ _ _ _ _ _ _ _ _ _=>rfl,λ_ _=>rfl,λ_ _=>rfl,wx⟩
theorem c57:∀(c:Code) {x:Cx} {F:Frm} {H:a02} {Q:b3z},Wp x c F H Q→∃e F' H',Ev x c F H (e,F',H')∧Q e F' H':=by
 intro c
 induction c with
 |skip=>intro x F H Q h;exact⟨_,_,_,Ev.skip,h⟩
 |label l=>intro x F H Q h;exact⟨_,_,_,Ev.label,h⟩
 |exit i=>intro x F H Q h;exact⟨_,_,_,Ev.leave,h⟩
 |ret=>intro x F H Q h;exact⟨_,_,_,Ev.ret,h⟩
 |seq a b iha ihb=>
  intro x F H Q h;obtain⟨e,F',H',h1,h2⟩:=iha h;cases e with
  |normal=>obtain⟨e2,F2,H2,h3,h4⟩:=ihb h2;exact⟨e2,F2,H2,Ev.seq h1 h3,h4⟩
  |exit id=>exact⟨_,_,_,Ev.seq_exit h1,h2⟩
  |ret=>exact⟨_,_,_,Ev.seq_ret h1,h2⟩
 |block id b ih=>
  intro x F H Q h;obtain⟨e,F',H',h1,h2⟩:=ih h;cases e with
  |normal=>exact⟨_,_,_,Ev.block h1,h2⟩
  |exit i=>
   by_cases hi:i=id
   ·subst hi;simp only[bk,e6q]at h2;exact⟨_,_,_,Ev.block_exit h1,h2⟩
   ·simp only[bk,e5s hi]at h2;exact⟨_,_,_,Ev.block_on h1 (by simpa using hi),h2⟩
  |ret=>exact⟨_,_,_,Ev.block_ret h1,h2⟩
 |scope b ih=>intro x F H Q h;obtain⟨e,F',H',h1,h2⟩:=ih h;exact⟨e,F',H',Ev.scope h1,h2⟩
 |_=>intro x F H Q h;exact h
theorem c55:∀{c:Code} {x:Cx} {F:Frm} {H:a02} {Q Q':b3z},Wp x c F H Q→(∀e F H,Q e F H→Q' e F H)→Wp x c F H Q':=by
 intro c
 induction c with
 |skip=>intro x F H Q Q' h hq;exact hq _ _ _ h
 |label l=>intro x F H Q Q' h hq;exact hq _ _ _ h
 |exit i=>intro x F H Q Q' h hq;exact hq _ _ _ h
 |ret=>intro x F H Q Q' h hq;exact hq _ _ _ h
 |seq a b iha ihb=>
  intro x F H Q Q' h hq;refine iha (Q:=sq x b Q) (Q':=sq x b Q') h ?_;intro e F H h;cases e with
  |normal=>exact ihb (x:=x) h hq
  |exit id=>exact hq _ _ _ h
  |ret=>exact hq _ _ _ h
 |block id b ih=>
  intro x F H Q Q' h hq;refine ih (Q:=bk id Q) (Q':=bk id Q') h ?_;intro e F H h;cases e with
  |normal=>exact hq _ _ _ h
  |exit i=>
   simp only[bk]at h⊢;split
   ·rename_i hi;rw[e6q hi]at h;exact hq _ _ _ h
   ·rename_i hi;rw[e5s hi]at h;exact hq _ _ _ h
  |ret=>exact hq _ _ _ h
 |scope b ih=>intro x F H Q Q' h hq;exact ih (x:=x) h hq
 |_=>intro x F H Q Q' h hq;obtain⟨e,F',H',h1,h2⟩:=h;exact⟨e,F',H',h1,hq _ _ _ h2⟩
section
variable {x:Cx}{F F1:Frm}{H H1:a02}{Q:b3z}
theorem xs{E:Env}{M:List Fact}{m N:Nat}{g:FuncId}{cur:Nat}{id an ah}{log:List LogE}(h:a8t E ah N (sem E M) an.toList an.toList [] F H=some (F1,H1,log))(hl:(!ah||logOk an.toList log.length log)=true)(hq:Q .normal F1 H1):Wp (cx E M m N g cur) (.region id an ah) F H Q:=⟨_,_,_,Ev.region h hl,hq⟩
theorem xI{E:Env}{M:List Fact}{m N:Nat}{g:FuncId}{cur:Nat}{c a b t}(hc:opv E F c = .bool t)(h:Wp (cx E M m N g cur) (bif t then a else b) F H Q):Wp (cx E M m N g cur) (.cond c a b) F H Q:=by
 cases t
 ·obtain⟨e,F',H',h1,h2⟩:=c57 _ h;exact⟨e,F',H',Ev.cond_f hc h1,h2⟩
 ·obtain⟨e,F',H',h1,h2⟩:=c57 _ h;exact⟨e,F',H',Ev.cond_t hc h1,h2⟩
theorem d3i{E:Env}{M:List Fact}{m N:Nat}{g:FuncId}{cur:Nat}{keep:List Nat}{b:Code}(hk:E.keep g cur=keep)(J:Nat→Frm→a02→Prop)(n0:Nat)(h0:∃F1 H1,gcD m keep F H=some (F1,H1)∧J n0 F1 H1)
 (h:∀n F1 H1,J n F1 H1→Wp (cx E M m N g cur) b F1 H1 (lpJ m keep J n Q)):∃r:AExit×Frm×a02,Q r.1 r.2.1 r.2.2∧EvL (cx E M m N g cur) b F H r:=by
 subst hk;have key:∀n F H F1 H1,gcD m (E.keep g cur) F H=some (F1,H1)→J n F1 H1→∃r:AExit×Frm×a02,Q r.1 r.2.1 r.2.2∧EvL (cx E M m N g cur) b F H r:=by
  intro n
  induction n using Nat.strongRecOn with
  |ind n ih=>
   intro F H F1 H1 hg hJ;obtain⟨e,F',H',h1,h2⟩:=c57 _ (h n F1 H1 hJ);cases e with
   |normal=>obtain⟨F2,H2,n',g1,g2,g3⟩:=h2;obtain⟨r,hr,hl⟩:=ih n' g2 F' H' F2 H2 g1 g3;exact⟨r,hr,EvL.again (x:=cx E M m N g cur) hg h1 hl⟩
   |exit id=>exact⟨(_,_,_),h2,EvL.leave (x:=cx E M m N g cur) hg h1 (λh=>by cases h)⟩
   |ret=>exact⟨(_,_,_),h2,EvL.leave (x:=cx E M m N g cur) hg h1 (λh=>by cases h)⟩
 obtain⟨F1,H1,hg,hJ⟩:=h0;exact key n0 F H F1 H1 hg hJ
theorem a5m{E:Env}{M:List Fact}{m N:Nat}{g:FuncId}{cur:Nat}{keep:List Nat}{b:Code}(hk:E.keep g cur=keep)(J:Nat→Frm→a02→Prop)(n0:Nat)(h0:∃F1 H1,gcD m keep F H=some (F1,H1)∧J n0 F1 H1)
 (h:∀n F1 H1,J n F1 H1→Wp (cx E M m N g cur) b F1 H1 (lpJ m keep J n Q))(hz:c9m keep=false:=by rfl)(hx:a6q b=none:=by rfl):Wp (cx E M m N g cur) (.loop b) F H Q:=by
 obtain⟨⟨e,F',H'⟩,hr,hl⟩:=d3i hk J n0 h0 h;exact⟨e,F',H',Ev.loop hx (by rw[←hk]at hz;exact hz) hl,hr⟩
def fz(m:Nat)(Q:b3z):b3z:=λe F H=>Q e (c0g m H F) (b6o m H)
theorem c56{E:Env}{M:List Fact}{m N:Nat}{g:FuncId}{cur:Nat}{keep:List Nat}{b:Code}(hk:E.keep g cur=keep)(hz:c9m keep=true)(j:Nat)(hj:c51 keep=j)(J:Nat→Frm→a02→Prop)(n0:Nat)(h0:∃F1 H1,gcD m keep F H=some (F1,H1)∧J n0 F1 H1)
 (h:∀n F1 H1,J n F1 H1→Wp (cx E M m N g cur) b F1 H1 (lpJ m keep J n (fz (m+j) Q)))(hx:a6q b=none:=by rfl):Wp (cx E M m N g cur) (.loop b) F H Q:=by
 obtain⟨⟨e,F',H'⟩,hr,hl⟩:=d3i hk J n0 h0 h;subst hk;subst hj;exact⟨e,_,_,Ev.loopZ hx (x:=cx E M m N g cur) hz hl,hr⟩
theorem a0m{E:Env}{M:List Fact}{m N:Nat}{g:FuncId}{cur:Nat}{keep:List Nat}{b:Code}(hk:E.keep g cur=keep){σ:Type}(Fs:σ→Frm)(Hs:σ→a02)(bq:σ→Nat)(Inv:σ→Prop)(s0:σ)(h0:gcD m keep F H=some (Fs s0,Hs s0))(hi:Inv s0)
 (h:∀s,Inv s→Wp (cx E M m N g cur) b (Fs s) (Hs s) (lp m keep Fs Hs bq Inv (bq s) Q))(hz:c9m keep=false:=by rfl)(hx:a6q b=none:=by rfl):Wp (cx E M m N g cur) (.loop b) F H Q:=by
 refine a5m hk (λn F1 H1=>∃s,F1=Fs s∧H1=Hs s∧n=bq s∧Inv s) (bq s0) ⟨_,_,h0,s0,rfl,rfl,rfl,hi⟩ ?_ hz hx
 rintro n F1 H1 ⟨s,rfl,rfl,rfl,hs⟩
 refine c55 (h s hs) ?_;intro e F' H' h2;cases e with
 |normal=>obtain⟨s',g1,g2,g3⟩:=h2;exact⟨_,_,_,g1,g2,s',rfl,rfl,rfl,g3⟩
 |exit id=>exact h2
 |ret=>exact h2
theorem a2a{E:Env}{M:List Fact}{m N:Nat}{g:FuncId}{cur:Nat}{keep:List Nat}(hk:E.keep g cur=keep){b:Code}{σ:Type}(Fs:σ→Frm)(Hs:σ→a02)(bq:σ→Nat)(Inv:σ→Prop)(s0:σ)(h0:gcD m keep F H=some (Fs s0,Hs s0))(hi:Inv s0)
 (_:∀s,Inv s→gcD m keep (Fs s) (Hs s)=some (Fs s,Hs s))(h:∀s,Inv s→Wp (cx E M m N g cur) b (Fs s) (Hs s) (lp m keep Fs Hs bq Inv (bq s) Q))(hz:c9m keep=false:=by rfl)(hx:a6q b=none:=by rfl):Wp (cx E M m N g cur) (.loop b) F H Q:=a0m hk Fs Hs bq Inv s0 h0 hi h hz hx
theorem a2e{m:Nat}{keep:List Nat}{J:Nat→Frm→a02→Prop}{n:Nat}(n':Nat)(hn:n'<n)(h:∃F1 H1,gcD m keep F H=some (F1,H1)∧J n' F1 H1):lpJ m keep J n Q .normal F H:=by obtain⟨F1,H1,h1,h2⟩:=h;exact⟨F1,H1,n',h1,hn,h2⟩
theorem a28{σ:Type}{m:Nat}{keep:List Nat}{Fs:σ→Frm}{Hs:σ→a02}{bq:σ→Nat}{Inv:σ→Prop}{n:Nat}(s:σ)(h1:gcD m keep F H=some (Fs s,Hs s))(h2:bq s<n)(h3:Inv s):lp m keep Fs Hs bq Inv n Q .normal F H:=⟨s,h1,h2,h3⟩
theorem a8k{E:Env}{g:FuncId}{m:Nat}{results:List ResultVar}{r:AV×a02}{vs:List AV}(h1:a10 E F H results=some vs)(h2:a1q (E.thaw g) m (a76 vs) H=some r):fq E g m results r .ret F H:=⟨vs,h1,h2⟩
end
theorem d9r{E:Env}{M:List Fact}{g:FuncId}{args:List AV}{H:a02}{code:Code}{N:Nat}{results:List ResultVar}{r:AV×a02}
 (bN:E.fn g=some ⟨code,N,results⟩)(cP:∀y∈M,y.g≠g)(hN:Nat.ble args.length N=true){m:Nat}(hm:H.length=m)(h:Wp (cx E M m N g 0) code (a4j 0 args) H (fq E g m results r))(hp:E.prim g args=none:=by rfl)(hz:E.zf g=false:=by rfl):sem E M g args H=some r:=by
 subst hm;obtain⟨e,F',H',h1,h2⟩:=c57 _ h;obtain⟨v,H2⟩:=r;cases e with
 |normal=>obtain⟨vs,h3,h4⟩:=h2;exact c1f bN cP hN h1 (λ_ h=>by cases h) h3 h4 hp hz
 |ret=>obtain⟨vs,h3,h4⟩:=h2;exact c1f bN cP hN h1 (λ_ h=>by cases h) h3 h4 hp hz
 |exit id=>exact h2.elim
theorem xa{E:Env}{M:List Fact}{m N:Nat}{g:FuncId}{cur:Nat}{c:Code}{F F1:Frm}{H H1:a02}{log:List LogE}{t:Bool}{Q:b3z}(h:hs E M N c F H F1 H1 log t)(hl:sd c log=true)(k:ct (cx E M m N g cur) c t F1 H1 Q):Wp (cx E M m N g cur) c F H Q:=by
 cases c with
 |region id an ah=>exact xs (congrArg Prod.fst h) hl k
 |cond c a b=>have h1:opv E F c = .bool t:=d6b (congrArg Prod.fst h);have h2:(F,H,([]:List LogE))=(F1,H1,log):=congrArg Prod.snd h;cases h2;exact xI h1 k
 |_=>exact k.elim
theorem gS:(∀a b:Code,(some a).getD b=a)∧(∀l:List ResultVar,(List.toArray l).toList=l):=⟨λ_ _=>rfl,λ_=>rfl⟩
def AExit.fin:AExit→Bool
 |.exit _=>false
 |_=>true
@[go_sem] theorem e9p:AExit.ret.fin=true:=by rfl
theorem fqb{E:Env}{g:FuncId}{m:Nat}{results:List ResultVar}{r:AV×a02}{e:AExit}{F:Frm}{H:a02}(h:(bif e.fin then a0b (a10 E F H results) λvs=>a1q (E.thaw g) m (a76 vs) H else none)=some r):fq E g m results r e F H:=by
 cases ha:a10 E F H results with
 |none=>rw[ha]at h;cases e<;>cases h
 |some vs=>
  rw[ha]at h;cases e with
  |exit i=>cases h
  |_=>exact⟨vs,ha,h⟩
theorem sv{E:Env}{M:List Fact}{g:FuncId}{args:List AV}{H:a02}{r:AV×a02}(f:Func)(h:Wp (cx E M H.length f.ntmps g 0) (f.body.getD .skip) (a4j 0 args) H (fq E g H.length f.results.toList r))(bN:E.fn g=some ⟨f.body.getD .skip,f.ntmps,f.results.toList⟩:=by kernel_rfl)
 (cP:(M.all λy=>!Nat.beq y.g g)=true:=by rfl)(hN:Nat.ble args.length f.ntmps=true:=by rfl)(hp:E.prim g args=none:=by rfl)(hz:E.zf g=false:=by rfl):sem E M g args H=some r:=d9r bN (λy hy e=>by
 have:=e6x.1 cP y hy;rw[e]at this;simp at this) hN rfl h hp hz
end Go.Ax
/- AxTyp: d4x abstract values, taken apart. -/
namespace Go.Ax
section
variable {E:Env}{n:Nat}{t e:TypeId}{aK:List AV}
theorem a6y{α:Type}{f:α→List AV}{P:α→Prop}(hs:slT E t=some e)(he:∀r,Typ E n e r→∃x,P x∧r=f x)(h:Typ E (n+1) t aK) :
 ∃(c:Option (Option Nat)) (l:List α),aK=[sl c (l.map f)]∧l.length≤maxLen∧∀x∈l,P x:=by
 simp only[Typ,a3n.1 hs]at h;rcases h with rfl|⟨aa,cap,rfl,h1,h2,h3⟩
 ·exact⟨none,[],rfl,by simp,by simp⟩
 ·have key:∀aa:List (List AV),(∀r∈aa,r.length=E.sz e∧Typ E n e r)→∃l:List α,aa=l.map f∧∀x∈l,P x:=by
   intro aa
   induction aa with
   |nil=>intro _;exact⟨[],rfl,by simp⟩
   |cons r rs ih=>
    intro hh;obtain⟨x,hx,rfl⟩:=he r (hh r (by simp)).2;obtain⟨l,rfl,hl⟩:=ih (λr hr=>hh r (by simp[hr]));refine⟨x::l,rfl,?_⟩;intro y hy;simp only[e6v]at hy;rcases hy with rfl|hy
    ·exact hx
    ·exact hl y hy
  obtain⟨l,rfl,hl⟩:=key aa h3;exact⟨some (some cap),l,by rw[a67],by simpa using Nat.le_trans h1 h2,hl⟩
theorem d4y{k:IntKind}(hk:d1w E t=some k)(h:Typ E (n+1) t aK):∃i,aK=[.int k i]∧(Lit.int k i).wf=true:=by simpa only[Typ,c1t hk]using h
theorem a50(hk:d1w E t=some .u8)(h:Typ E (n+1) t aK):∃i:Nat,aK=[.int .u8 i]∧i<256:=by
 obtain⟨i,h1,h2⟩:=d4y hk h;simp only[Lit.wf,c11,e6l]at h2;have e1:IntKind.u8.min=0:=by rfl
 have e2:IntKind.u8.max=255:=by rfl
 rw[e1,e2]at h2;exact⟨i.toNat,by rw[h1,Int.toNat_of_nonneg h2.1],by omega⟩
theorem c18(hb:E.und t=some .bool)(h:Typ E (n+1) t aK):∃b,aK=[.bool b]:=by simpa only[Typ,hb]using h
def b2x(E:Env)(t:TypeId):Option (List TypeId):=match E.und t with|some (.struct fs)=>some (fs.toList.map (·.type))|_=>none
def c2o(E:Env)(n:Nat):List TypeId→List AV→Prop
 | [],aK=>aK=[]
 |t::ts,aK=>∃p r,aK=p++r∧Typ E n t p∧c2o E n ts r
theorem a9l{ts:List TypeId}(hf:b2x E t=some ts)(h:Typ E (n+1) t aK):c2o E n ts aK:=by
 unfold b2x at hf;split at hf
 case h_2=>cases hf
 rename_i fs hu;cases hf;simp only[Typ,hu]at h;obtain⟨ap,rfl,h1,h2⟩:=h;have key:∀(fs:List Field) (ap:List (List AV)),ap.length=fs.length→(∀(i:Nat) f p,fs[i]?=some f→ap[i]?=some p→p.length=E.sz f.type∧Typ E n f.type p)→c2o E n (fs.map (·.type)) ap.flatten:=by
  intro fs
  induction fs with
  |nil=>intro ap hl _;have:=List.length_eq_zero_iff.1 hl;subst this;rfl
  |cons f fs ih=>
   intro ap hl hh;cases ap with
   |nil=>simp at hl
   |cons p ap=>exact⟨p,ap.flatten,by simp,(hh 0 f p rfl rfl).2,ih ap (by simpa using hl) (λi f p hf hp=>hh (i+1) f p (by simpa using hf) (by simpa using hp))⟩
 exact key fs.toList ap h1 h2
theorem b1k{m:Nat}(hf:c2j E t=some (m,e))(h:Typ E (n+1) t aK):c2o E n (List.replicate m e) aK:=by
 unfold c2j at hf;split at hf
 case h_2=>cases hf
 rename_i m' e' hu;cases hf;simp only[Typ,hu]at h;obtain⟨ap,rfl,h1,h2⟩:=h;subst h1;clear hu
 induction ap with
 |nil=>rfl
 |cons p ap ih=>simp only[e5l,e8s];exact⟨p,ap.flatten,by simp,(h2 p (by simp)).2,ih (λq hq=>h2 q (by simp[hq]))⟩
theorem typA_one{a:AV}(hg:a63 E t=some false)(h:d4o E n t a):Typ E n t [a]:=by
 unfold d4o at h;unfold a63 at hg;cases hu:E.und t with
 |none=>rw[hu]at h;exact h.elim
 |some d=>rw[hu]at h hg;simp only[e5p,Option.some.injEq]at hg;simpa[hg]using h
theorem c9x{a:AV}(hg:a63 E t=some true)(h:d4o E n t a):∃aK,a = .agg aK∧Typ E n t aK:=by
 unfold d4o at h;unfold a63 at hg;cases hu:E.und t with
 |none=>rw[hu]at h;exact h.elim
 |some d=>rw[hu]at h hg;simp only[e5p,Option.some.injEq]at hg;simpa[hg]using h
end
end Go.Ax
/- AxHeap: calls on, and loops over, heaps of a few known blocks: what is reached, renamed and put back, ar rewrite rules. -/
namespace Go.Ax
@[go_sem] theorem d8f(H:a02)(n:Nat)(aH:List Nat):a1i H n [] aH=aH.reverse:=by cases n<;>rfl
theorem c3h(H:a02)(n:Nat)(b:Nat)(aZ aH:List Nat):a1i H (n+1) (b::aZ) aH=bif a0q aH b then a1i H n aZ aH else a1i H n (a0t (a01 H b)++aZ) (b::aH):=by rfl
@[go_sem] theorem d8g{n:Nat}(hn:(0<n)=True)(H:a02)(b:Nat)(aZ aH:List Nat):a1i H n (b::aZ) aH=bif a0q aH b then a1i H (n-1) aZ aH else a1i H (n-1) (a0t (a01 H b)++aZ) (b::aH):=by
 obtain⟨m,rfl⟩:∃m,n=m+1:=⟨n-1,by have:=e9c hn;omega⟩
 exact c3h H m b aZ aH
@[go_sem] theorem d2m(x:Nat):a0q [] x=false:=by rfl
@[go_sem] theorem c9n(a:Nat)(r:List Nat)(x:Nat):a0q (a::r) x=bif decide (a=x)then true else a0q r x:=by simp only[a0q,c9l,c2g]
@[go_sem] theorem d8j:a4e []=true:=by rfl
@[go_sem] theorem b9v(a:Nat)(r:List Nat):a4e (a::r)=(!(a0q r a)&&a4e r):=by rfl
@[go_sem] theorem e01(k:Nat)(aa:List (List AV)):a0t (some (.row k aa))=aa.flatMap a0a:=by rfl
@[go_sem] theorem e02(ks vs:List AV)(bs:List Nat)(c:Nat):a0t (some (.map ks vs bs c))=a0a ks++a0a vs:=by rfl
@[go_sem] theorem e58(b:Nat):List.idxOf? b []=none:=by rfl
@[go_sem] theorem e2z(a:Nat)(l:List Nat)(b:Nat):List.idxOf? b (a::l)=bif decide (a=b)then some 0 else(List.idxOf? b l).map (·+ 1):=by rw[e8i,c2g];cases decide (a=b)<;>rfl
@[go_sem] theorem e4w(σ:List Nat)(b:Nat):a8e σ b=σ.idxOf? b:=by rfl
@[go_sem] theorem e1l(σ:List Nat)(n j:Nat):a1f σ n j=bif decide (j<σ.length)then σ[j]? else some (n+(j-σ.length)):=by simp only[a1f,c52]
@[go_sem] theorem d89(H:a02)(π:Nat→Option Nat):a4n H [] π=[]:=by rfl
@[go_sem] theorem d5b(H:a02)(b:Nat)(σ:List Nat)(π:Nat→Option Nat):a4n H (b::σ) π=(a01 H b).map (a0d π)::a4n H σ π:=by rfl
@[go_sem] theorem d40(σ:List Nat)(n:Nat)(H1:a02)(b:Nat):a14 σ n H1 b []=[]:=by rfl
def c6d(σ:List Nat)(n:Nat)(H1:a02)(o:Option AObj):Option Nat→Option AObj
 |some j=>(a01 H1 j).map (a0d (a1f σ n))
 |none=>o
@[go_sem] theorem d5q(σ:List Nat)(n:Nat)(H1:a02)(o:Option AObj)(j:Nat):c6d σ n H1 o (some j)=(a01 H1 j).map (a0d (a1f σ n)):=by rfl
@[go_sem] theorem d5r(σ:List Nat)(n:Nat)(H1:a02)(o:Option AObj):c6d σ n H1 o none=o:=by rfl
@[go_sem] theorem d41(σ:List Nat)(n:Nat)(H1:a02)(b:Nat)(o:Option AObj)(r:a02):a14 σ n H1 b (o::r)=c6d σ n H1 o (σ.idxOf? b)::a14 σ n H1 (b+1) r:=by simp only[a14];cases σ.idxOf? b<;>rfl
@[go_sem] theorem d8d(π:Nat→Option Nat)(k:Nat)(aa:List (List AV)):a0d π (.row k aa) = .row k (aa.map λr=>r.map (ren π)):=by rfl
@[go_sem] theorem d8e(π:Nat→Option Nat)(ks vs:List AV)(bs:List Nat)(c:Nat):a0d π (.map ks vs bs c) = .map (ks.map (ren π)) (vs.map (ren π)) bs c:=by rfl
/- renaming a value -/
section
variable (π:Nat→Option Nat)
def e2j(f:Nat→AV):Option Nat→AV|some b=>f b|none=>.junk
@[go_sem] theorem d9w(f:Nat→AV)(b:Nat):e2j f (some b)=f b:=by rfl
@[go_sem] theorem e4p(b i o:Nat):ren π (.ptr b i o)=e2j (λb=>.ptr b i o) (π b):=by simp only[ren];cases π b<;>rfl
@[go_sem] theorem d9v(b i o:Nat)(c:Option Nat):ren π (.slice b i o c)=e2j (λb=>.slice b i o c) (π b):=by simp only[ren];cases π b<;>rfl
@[go_sem] theorem e4q(b:Nat):ren π (.map b)=e2j (λb=>.map b) (π b):=by simp only[ren];cases π b<;>rfl
@[go_sem] theorem c64(k:IntKind)(n:Int):ren π (.int k n) = .int k n:=by rfl
@[go_sem] theorem e2h(b:Bool):ren π (.bool b) = .bool b:=by rfl
@[go_sem] theorem e4o(s:List UInt8):ren π (.str s) = .str s:=by rfl
@[go_sem] theorem d8c(r:List (List AV))(c:Option Nat):ren π (.islice r c) = .islice r c:=by rfl
@[go_sem] theorem a73:ren π .nilslice = .nilslice:=by rfl
@[go_sem] theorem e2g:ren π .junk = .junk:=by rfl
@[go_sem] theorem b9q(l:List AV):ren π (.agg l) = .agg (l.map (ren π)):=by simp only[ren,a74]
@[go_sem] theorem d0m(f:Fn)(a b:List AV):ren π (.func f a b) = .func f (a.map (ren π)) (b.map (ren π)):=by simp only[ren,a74]
@[go_sem] theorem e2i:b7b π []=[]:=by rfl
@[go_sem] theorem c65(s:Nat)(v:AV)(r:Frm):b7b π ((s,v)::r)=(s,ren π v)::b7b π r:=by rfl
end
@[go_sem] theorem c7x(m:Nat)(σ:List Nat)(b:Nat):b3r m σ b=bif decide (b<m)then some b else(σ.idxOf? b).map (m + ·):=by simp only[b3r,c52]
theorem a03{m:Nat}{keep:List Nat}{F:Frm}{H:a02}:gcD m keep F H=bif a4e (a80 m (a1l keep F) H)&&(a80 m (a1l keep F) H).all (λb=>decide (m≤b))&&decide (m≤H.length)then
 some (b7b (b3r m (a80 m (a1l keep F) H)) (a1l keep F),gcH m (a80 m (a1l keep F) H) H)else none:=by
 have e:(λb=>Nat.ble m b)=λb=>decide (m≤b):=funext λb=>c9p m b;simp only[gcD,e,c9p]
theorem a00(m:Nat)(F:Frm)(H:a02):a80 m F H=(a1i H 1000000 ((H.take m).flatMap a0t++a0a (F.map (·.2))) []).filter λb=>decide (m≤b):=by have e:(λb=>Nat.ble m b)=λb=>decide (m≤b):=funext λb=>c9p m b;simp only[a80,a2p,e]
@[go_sem] theorem d49(m:Nat)(σ:List Nat)(H:a02):gcH m σ H=(H.take m).map (Option.map (a0d (b3r m σ)))++a4n H σ (b3r m σ):=by rfl
@[go_sem] theorem e5t{α:Type}(p:α→Bool)(a:α)(l:List α):(a::l).filter p=bif p a then a::l.filter p else l.filter p:=by rw[List.filter_cons];cases p a<;>rfl
attribute [go_sem] List.reverse_cons List.reverse_nil List.filter_nil List.flatMap_cons List.flatMap_nil
theorem a3i(run:List AV→a02→Option (AV×a02))(args:List AV)(H:a02){σ:List Nat}(hσ:a1i H 1000000 (a0a args) []=σ)(hn:a4e σ=true)(hl:(σ.all λb=>decide (b<H.length))=true)
 {aq:List AV}(ha:args.map (ren (a8e σ))=aq){H0:a02}(hH:a4n H σ (a8e σ)=H0){v:AV}{H1:a02}(hr:run aq H0=some (v,H1)) :
 a27 run args H=some (ren (a1f σ H.length) v,a14 σ H.length H1 0 H++(H1.drop σ.length).map (Option.map (a0d (a1f σ H.length))),σ):=by
 have e:(λb=>Nat.blt b H.length)=λb=>decide (b<H.length):=funext λb=>c52 b H.length;unfold a27;simp only[a2p,hσ,hn,e,hl,e8h,e6m,ha,hH,hr]
theorem a7y{E:Env}{ah:Bool}{call:CallF}{g:FuncId}{fs cs ar args:List AV}{H:a02}(hx:E.ext g=false)(hf:(E.fn g).isSome=true)(he:fs++ar++cs=args){v:AV}{H':a02}{σ:List Nat}
 (h:a27 (call g) args H=some (v,H',σ))(hl:H'.length=H.length):a09 E ah call (.func (.func g) fs cs) ar H=some (v,H',σ):=by
 have hb:Nat.ble H.length H.length=true:=by rw[e8m];exact e6o _
 simp only[a09,hx,hf,he,e6m,e6w,h,hl,hb,e9t,Bool.and_false]
theorem c8u{E:Env}{call:CallF}{g:FuncId}{fs cs ar args:List AV}{H:a02}(hx:E.ext g=false)(hf:(E.fn g).isSome=true)(he:fs++ar++cs=args){v:AV}{H':a02}{σ:List Nat}
 (h:a27 (call g) args H=some (v,H',σ)):a09 E false call (.func (.func g) fs cs) ar H=some (v,H',σ):=by
 simp only[a09,hx,hf,he,e6m,e6w,h,Bool.false_and]
/- freezing -/
@[go_sem] theorem d60{α β:Type}(a:α)(f:α→β)(d:β):d44 (some a) f d=f a:=by rfl
@[go_sem] theorem c8a{m:Nat}{v:AV}{H:a02}:a1q false m v H=d44 (a30 m true (a3w (a01 H) m 12) v) (λv'=>some (v',(H.take m).map (Option.map (a0d (a15 m))))) (some (v,H)):=by simp only[a1q,e6w];cases a30 m true (a3w (a01 H) m 12) v<;>rfl
section
variable {m:Nat}{top:Bool}{d:AV→Option AV}{h:FHeap}{n:Nat}
@[go_sem] theorem e5g(k:IntKind)(i:Int):a30 m top d (.int k i)=some (.int k i):=by rfl
@[go_sem] theorem e34(b:Bool):a30 m top d (.bool b)=some (.bool b):=by rfl
@[go_sem] theorem e5e(s:List UInt8):a30 m top d (.str s)=some (.str s):=by rfl
@[go_sem] theorem d8r(r:List (List AV))(c:Option Nat):a30 m top d (.islice r c)=some (.islice r c):=by rfl
@[go_sem] theorem d4b:a30 m top d .nilslice=some .nilslice:=by rfl
@[go_sem] theorem e7f(c:Option (Option Nat))(aa:List (List AV)):a30 m top d (sl c aa)=some (sl c aa):=a1c m top d _ (a12 c aa)
@[go_sem] theorem e5h(l:List AV):a30 m top d (.agg l)=a0b (a4l m top d l) λl=>some (.agg l):=by simp only[a30];cases a4l m top d l<;>rfl
@[go_sem] theorem e11(l:List AV):a30 m top d (.tuple l)=a0b (a4l m top d l) λl=>some (.tuple l):=by simp only[a30];cases a4l m top d l<;>rfl
@[go_sem] theorem e33(f:Fn)(a b:List AV):a30 m top d (.func f a b)=a0b (a4l m top d a) λa=>a0b (a4l m top d b) λb=>some (.func f a b):=by simp only[a30];cases a4l m top d a<;>cases a4l m top d b<;>rfl
@[go_sem] theorem b6n:a4l m top d []=some []:=by rfl
@[go_sem] theorem a5c(v:AV)(l:List AV):a4l m top d (v::l)=a0b (a30 m top d v) λv=>a0b (a4l m top d l) λl=>some (v::l):=by simp only[a4l];cases a30 m top d v<;>cases a4l m top d l<;>rfl
@[go_sem] theorem a5x(b o l:Nat)(c:Option Nat):a30 m top d (.slice b o l c)=bif decide (b<m)then(bif top then some (.slice b o l c)else none)else d (.slice b o l c):=by simp only[a30,d4c,c52]
@[go_sem] theorem e5f(b o l:Nat):a30 m top d (.ptr b o l)=bif decide (b<m)then(bif top then some (.ptr b o l)else none)else d (.ptr b o l):=by simp only[a30,d4c,c52]
@[go_sem] theorem a4w(hn:(0<n)=True)(b o l:Nat)(c:Option Nat):a3w h m n (.slice b o l c)=a0b (a8q (h b)) λkr=>bif decide (o+l≤kr.2.length)then a0b (a8i m (a3w h m (n-1)) ((kr.2.drop o).take l)) λrs=>some (.islice rs c)else none:=by
 obtain⟨n,rfl⟩:∃k,n=k+1:=⟨n-1,by have:=e9c hn;omega⟩
 simp only[a3w,Nat.add_sub_cancel];cases hb:h b with
 |none=>simp only[hb];rfl
 |some ob=>cases ob<;>simp only[hb,a8q,a0b,c9p];rename_i kk aa;cases a8i m (a3w h m n) ((aa.drop o).take l)<;>rfl
@[go_sem] theorem e37(hn:(0<n)=True)(b i o:Nat):a3w h m n (.ptr b i o)=a0b (a8q (h b)) λkr=>a0b (kr.2[i]?) λr=>a0b (a4l m false (a3w h m (n-1)) (r.drop o)) λcs=>some (.iptr cs):=by
 obtain⟨n,rfl⟩:∃k,n=k+1:=⟨n-1,by have:=e9c hn;omega⟩
 simp only[a3w,Nat.add_sub_cancel];cases hb:h b with
 |none=>simp only[hb];rfl
 |some ob=>
  cases ob<;>simp only[hb,a8q,a0b];rename_i kk aa;cases aa[i]? with
  |none=>rfl
  |some r=>simp only;cases a4l m false (a3w h m n) (r.drop o)<;>rfl
theorem c23:a8i m d []=some []:=by rfl
theorem b2r(r:List AV)(rs:List (List AV)):a8i m d (r::rs)=a0b (a4l m false d r) λr=>a0b (a8i m d rs) λrs=>some (r::rs):=by simp only[a8i];cases a4l m false d r<;>cases a8i m d rs<;>rfl
theorem a41(a b:List (List AV)):a8i m d (a++b)=a0b (a8i m d a) λa=>a0b (a8i m d b) λb=>some (a++b):=by
 induction a with
 |nil=>simp only[e5m,c23,a0b];cases a8i m d b<;>rfl
 |cons x a ih=>
  simp only[e7p,b2r,ih];cases a4l m false d x with
  |none=>rfl
  |some x=>simp only[a0b];cases a8i m d a<;>cases a8i m d b<;>rfl
attribute [go_sem] c23 b2r
end
/-! ### append -/
section
variable {E:Env}{h:FHeap}{n:Nat}
@[go_sem] theorem d7e(k b o l:Nat)(c:Option Nat):a1o h k (.slice b o l c)=a0b (a8q (h b)) λkr=>bif decide (kr.1=k)&&decide (o+l≤kr.2.length)then some ((kr.2.drop o).take l)else none:=by
 simp only[a1o];cases hb:h b with
 |none=>simp only[hb];rfl
 |some ob=>cases ob<;>simp only[hb,a8q,a0b,c2g,c9p]
@[go_sem] theorem b0s(k:Nat)(aa:List (List AV))(c:Option Nat):a1o h k (.islice aa c)=bif aa.all (λr=>decide (r.length=k))then some aa else none:=by simp only[a1o,c2g]
@[go_sem] theorem e3g(k:Nat)(aa:List (List AV))(c:Option (Option Nat)):a1o h k (sl c aa)=bif aa.all (λr=>decide (r.length=k))then some aa else none:=by
 cases c with
 |some c=>rw[a67];exact b0s k aa c
 |none=>cases aa with
  |nil=>rfl
  |cons a r=>exact b0s k _ none
def apT(E:Env)(st xt:TypeId):Option TypeId:=match E.und st,E.und xt with
 |some (.slice e),some dx=>bif a26 dx || !(E.zero e).isSome || !(Nat.blt 0 (E.sz e))then none else some e
 |_,_=>none
def apS(E:Env)(h:FHeap)(n:Nat)(ac:TypeId)(xs:List (List AV)):AV→Option (AV×Eff)
 |.nilslice=>match xs with
  | []=>some (.nilslice,.none)
  |y::ys=>bif a23 E ac (y::ys).length then some (.slice n 0 (y::ys).length none,.new (.row (E.sz ac) (y::ys)))else none
 |.islice aa cap=>bif aa.all (λr=>r.length==E.sz ac)then match xs with
  | []=>some (.islice aa cap,.none)
  |y::ys=>match cap with
   |some c=>bif Nat.blt c (aa.length+(y::ys).length)&&a23 E ac (aa.length+(y::ys).length)then
    some (.slice n 0 (aa.length+(y::ys).length) none,.new (.row (E.sz ac) (aa++(y::ys))))else none
   |none=>none
  else none
 |.slice b off len cap=>match h b with
  |some (.row kk aa)=>bif kk==E.sz ac&&Nat.ble (off+len) aa.length then
   match cap with
   |none=>bif a23 E ac (len+xs.length)&&xs.all (λr=>r.all AV.storable)then
    some (.slice n 0 (len+xs.length) none,.kill b (.row (E.sz ac) (bif Nat.beq (off+len) aa.length then aa.drop off++xs else(aa.drop off).take len++xs)))else none
   |some c=>bif Nat.ble (len+xs.length) c then
    bif Nat.ble (off+len+xs.length) aa.length&&xs.all (λr=>r.all AV.storable)then
     some (.slice b off (len+xs.length) (some c),.set b (.row (E.sz ac) (aa.take (off+len)++xs++aa.drop (off+len+xs.length))))else none
    else bif a23 E ac (len+xs.length)then
     some (.slice n 0 (len+xs.length) none,.new (.row (E.sz ac) ((aa.drop off).take len++xs)))else none
   else none
  |_=>none
 |_=>none
@[go_sem] theorem e1t(st xt:TypeId)(s x:AV):a3v E h n st xt s x=a0b (apT E st xt) λe=>a0b (a1o h (E.sz e) x) λxs=>apS E h n e xs s:=by
 unfold a3v apT;cases E.und st with
 |none=>rfl
 |some d=>cases E.und xt with
  |none=>cases d<;>rfl
  |some dx=>
   cases d<;>try rfl
   rename_i e;simp only;cases(a26 dx || !(E.zero e).isSome || !(Nat.blt 0 (E.sz e)))with
   |true=>rfl
   |false=>
    simp only[e6w,a0b];cases a1o h (E.sz e) x with
    |none=>rfl
    |some xs=>cases s<;>rfl
@[go_sem] theorem e63(e:TypeId)(y:List AV)(ys:List (List AV)):apS E h n e (y::ys) .nilslice=bif a23 E e (y::ys).length then some (.slice n 0 (y::ys).length none,.new (.row (E.sz e) (y::ys)))else none:=by rfl
@[go_sem] theorem e3j(e:TypeId):apS E h n e [] .nilslice=some (.nilslice,.none):=by rfl
@[go_sem] theorem e3k(e:TypeId)(xs:List (List AV))(b o l:Nat):apS E h n e xs (.slice b o l none)=a0b (a8q (h b)) λkr=>
 bif decide (kr.1=E.sz e)then(bif decide (o+l=kr.2.length)then(bif a23 E e (l+xs.length)&&xs.all (λr=>r.all AV.storable)then some (.slice n 0 (l+xs.length) none,.kill b (.row (E.sz e) (kr.2.drop o++xs)))else none)
  else(bif decide (o+l≤kr.2.length)&&a23 E e (l+xs.length)&&xs.all (λr=>r.all AV.storable)then some (.slice n 0 (l+xs.length) none,.kill b (.row (E.sz e) ((kr.2.drop o).take l++xs)))else none))else none:=by
 simp only[apS];cases hb:h b with
 |none=>simp only[hb];rfl
 |some ob=>
  cases ob<;>simp only[hb,a8q,a0b,c2g,c9p];rename_i kk aa;have e1:Nat.beq (o+l) aa.length=decide (o+l=aa.length):=by rw[c9l,c2g]
  rw[e1];by_cases h1:o+l=aa.length
  ·rw[e7o h1,e7o (by omega:o+l≤aa.length)];cases decide (kk=E.sz e)<;>rfl
  ·rw[e9e h1];cases decide (kk=E.sz e)<;>cases decide (o+l≤aa.length)<;>rfl
@[go_sem] theorem e1q(e:TypeId)(xs:List (List AV))(b o l c:Nat):apS E h n e xs (.slice b o l (some c))=a0b (a8q (h b)) λkr=>
 bif decide (kr.1=E.sz e)&&decide (o+l≤kr.2.length)then(bif decide (l+xs.length≤c)then
  (bif decide (o+l+xs.length≤kr.2.length)&&xs.all (λr=>r.all AV.storable)then some (.slice b o (l+xs.length) (some c),.set b (.row (E.sz e) (kr.2.take (o+l)++xs++kr.2.drop (o+l+xs.length))))else none)
  else(bif a23 E e (l+xs.length)then some (.slice n 0 (l+xs.length) none,.new (.row (E.sz e) ((kr.2.drop o).take l++xs)))else none))else none:=by
 simp only[apS];cases hb:h b with
 |none=>simp only[hb];rfl
 |some ob=>cases ob<;>simp only[hb,a8q,a0b,c2g,c9p]
theorem a6a{e:TypeId}{k:Nat}(hk:k≤1000000000)(hb:E.bytes e≤1000):a23 E e k=true:=by
 unfold a23;rw[e7o (by omega),e8p,e6l]
 calc E.bytes e*(2*k+192)≤1000*(2*1000000000+192):=Nat.mul_le_mul hb (by omega)
  _≤281474976710656:=by decide
end
/- The length of a block's rows, by hand. -/
@[go_sem] theorem e23(a b:Nat):(a:Int).tmod (b:Int)=((a%b:Nat):Int):=by rfl
@[go_sem] theorem e69(a:Nat):(a:Int).tmod 2=((a%2:Nat):Int):=by rfl
@[go_sem] theorem e68(a:Nat):(a:Int).tmod 3=((a%3:Nat):Int):=by rfl
@[go_sem] theorem e67(a:Nat):(a:Int).tmod 4=((a%4:Nat):Int):=by rfl
@[go_sem] theorem e66(a:Nat):(a:Int).tmod 9=((a%9:Nat):Int):=by rfl
@[go_sem] theorem e4e(a:Nat):(a:Int).tmod 10=((a%10:Nat):Int):=by rfl
@[go_sem] theorem e4f(a:Nat):(a:Int).tdiv 10=((a/10:Nat):Int):=by rfl
@[go_sem] theorem e4d(a:Nat):(a:Int).tmod 13=((a%13:Nat):Int):=by rfl
theorem wI{n:Nat}(h:n<9223372036854775808):IntKind.i64.wrap (n:Int)=n:=w64 (by omega) (by omega)
theorem wB{n:Nat}(h:n<256):IntKind.u8.wrap (n:Int)=n:=IntWalk.u8_in _ ⟨by omega,by omega⟩
theorem wI1{n:Nat}(h:n<9223372036854775807):IntKind.i64.wrap ((n:Int)+1)=((n+1:Nat):Int):=by rw[w64 (by omega) (by omega)];rfl
theorem b4g(m b:Nat):a15 m b=bif decide (b<m)then some b else none:=by simp only[a15,c52]
attribute [go_sem] b4g
/-! ### bytes to a string -/
def byT(E:Env)(s d:TypeId):Bool:=match E.und s,E.und d with
 |some (.slice e),some .string=>match E.und e with|some (.int .u8)=>true|_=>false
 |_,_=>false
section
variable {E:Env}{h:FHeap}{s d:TypeId}
theorem c4b{x:AV}(hb:byT E s d=true)(hx:∀t,x≠ .str t):a62 E h s d x=a0b (a1o h 1 x) λaa=>a0b (a4q aa) λl=>some (.str l):=by
 unfold byT at hb;cases hs:E.und s with
 |none=>rw[hs]at hb;cases hb
 |some ds=>
  cases hd:E.und d with
  |none=>rw[hs,hd]at hb;cases ds<;>cases hb
  |some dd=>
   rw[hs,hd]at hb;cases ds<;>first|(cases hb;done)|skip
   rename_i e;cases dd<;>first|(cases hb;done)|skip
   simp only at hb;cases he:E.und e with
   |none=>rw[he]at hb;cases hb
   |some de=>
    rw[he]at hb;cases de<;>first|(cases hb;done)|skip
    rename_i k;cases k<;>first|(cases hb;done)|skip
    unfold a62;simp only[hs,hd,he];cases x<;>first|(exact absurd rfl (hx _))|skip
    all_goals
     simp only[a0b];cases a1o h 1 _ with
     |none=>rfl
     |some aa=>simp only;cases a4q aa<;>rfl
@[go_sem] theorem d75{b o l:Nat}{c:Option Nat}(hb:byT E s d=true):a62 E h s d (.slice b o l c)=a0b (a1o h 1 (.slice b o l c)) λaa=>a0b (a4q aa) λl=>some (.str l):=c4b hb (λ_ h=>by cases h)
@[go_sem] theorem d97:a4q []=some []:=by rfl
@[go_sem] theorem d7u(n:Int)(r:List (List AV)):a4q ([.int .u8 n]::r)=a0b (a4q r) λl=>some (UInt8.ofNat n.toNat::l):=by simp only[a4q];cases a4q r<;>rfl
end
@[go_sem] theorem e38{r:List AV}{n:Nat}(h:a0a r=[]):(List.replicate n r).flatMap a0a=[]:=a0c (FlatR.replicate h)
attribute [go_sem] List.length_replicate List.map_replicate List.length_append List.flatMap_append List.map_append
/-! ### calls that only read -/
def FlatO(o:Option AObj):Prop:=∀π,o.map (a0d π)=o
theorem FlatO.row{k:Nat}{aa:List (List AV)}(h:FlatR aa):FlatO (some (.row k aa)):=λπ=>by simp only[e5p,a0d,a08 π h]
theorem c9i(f:Nat→Option AObj)(σ:List Nat)(j:Nat):a01 (σ.map f) j=(σ[j]?).bind f:=by simp only[a01,e5n];cases σ[j]?<;>simp
theorem b0i{σ:List Nat}{n:Nat}{H:a02}(hf:∀b∈σ,FlatO (a01 H b)):∀(b:Nat) (H2:a02),(∀i,H2[i]?=H[b+i]?)→a14 σ n (σ.map (a01 H)) b H2=H2
 |_,[],_=>rfl
 |b,o::r,hh=>by
  have ih:=b0i hf (n:=n) (b+1) r (λi=>by
   have:=hh (i+1);rw[e7g]at this;rw[this]
   congr 1
   omega)
  simp only[a14,ih]
  congr 1
  cases hx:σ.idxOf? b with
  |none=>rfl
  |some j=>simp only;have hj:=a1w hx;have hm:b∈σ:=e12 hj;rw[c9i,hj];simp only[e8n];rw[hf b hm _];have h0:=hh 0;simp only[e7m,f03]at h0;simp[a01,←h0]
theorem c4l{E:Env}{ah:Bool}{call:CallF}{g:FuncId}{fs cs ar args:List AV}{H:a02}{v:AV}(σ:List Nat)(hx:E.ext g=false)(hf:(E.fn g).isSome=true)(he:fs++ar++cs=args)
 (hσ:a1i H 1000000 (a0a args) []=σ)(hn:a4e σ=true)(hl:(σ.all λb=>decide (b<H.length))=true)(cu:∀b∈σ,FlatO (a01 H b))
 {aq:List AV}(ha:args.map (ren (a8e σ))=aq){H0:a02}(hH:σ.map (a01 H)=H0)(hr:call g aq H0=some (v,H0))(hv:refs v=[]) :
 a09 E ah call (.func (.func g) fs cs) ar H=some (v,H,σ):=by
 have hs:a4n H σ (a8e σ)=H0:=by rw[←hH];unfold a4n;exact e7k λb hb=>cu b hb _
 have hc:=a3i (call g) args H hσ hn hl ha hs hr;have e1:ren (a1f σ H.length) v=v:=a1d _ v hv;have e2:a14 σ H.length H0 0 H=H:=by rw[←hH];exact b0i cu 0 H (λi=>by rw[e7l])
 have e3:H0.drop σ.length=[]:=by rw[←hH];simp
 rw[e1,e2,e3,e5j,e4t]at hc;exact a7y hx hf he hc rfl
end Go.Ax
/- AxMore: facts that all say 'true'; loops over any states; what a heap's values a1i. -/
namespace Go.Ax
/-! ### what is reached -/
theorem b7k{f:Nat→Nat}:∀{L:List Nat} {b:Nat},b∈L→(L.map f).sum=f b+((L.erase b).map f).sum
 | [],b,h=>by simp at h
 |a::L,b,h=>by
  by_cases cB:a=b
  ·subst cB;simp
  ·have hb:b∈L:=by simpa[f05 cB]using h
   rw[List.erase_cons_tail (by simpa using cB)];simp only[e4r,List.sum_cons,b7k hb];omega
structure Reached(H:a02)(d6 σ:List Nat):Prop where
 nodup:σ.Nodup
 start:∀b∈d6,b∈σ
 closed:∀b∈σ,∀c∈a0t (a01 H b),c∈σ
 least:∀T:Nat→Prop,(∀b∈d6,T b)→(∀b,T b→∀c∈a0t (a01 H b),T c)→∀b∈σ,T b
theorem b62(H:a02):∀(n:Nat) (aZ aH L:List Nat),aH.Nodup→(∀b∈aH,∀c∈a0t (a01 H b),c∈aH∨c∈aZ)→(∀b∈aZ,b∈aH∨b∈L)→(∀b∈L,∀c∈a0t (a01 H b),c∈aH∨c∈L)→
 aZ.length+(L.map λb=>(a0t (a01 H b)).length).sum<n→
 (a1i H n aZ aH).Nodup∧(∀b∈aH,b∈a1i H n aZ aH)∧(∀b∈aZ,b∈a1i H n aZ aH)∧(∀b∈a1i H n aZ aH,∀c∈a0t (a01 H b),c∈a1i H n aZ aH)∧
 ∀T:Nat→Prop,(∀b∈aH,T b)→(∀b∈aZ,T b)→(∀b,T b→∀c∈a0t (a01 H b),T c)→∀b∈a1i H n aZ aH,T b
 |0,aZ,aH,L,_,_,_,_,hn=>by omega
 |n+1,[],aH,L,h1,h2,h3,h4,hn=>by
  unfold a1i;refine⟨List.pairwise_reverse.2 (h1.imp λh=>f05 h),by simp,by simp,?_,?_⟩
  ·intro b hb c hc;rcases h2 b (by simpa using hb) c hc with h|h
   ·simpa using h
   ·simp at h
  ·intro T t1 t2 t3 b hb;exact t1 b (by simpa using hb)
 |n+1,b::aZ,aH,L,h1,h2,h3,h4,hn=>by
  unfold a1i;cases hc:a0q aH b with
  |true=>
   have hb:b∈aH:=a1x.1 hc;simp only[e6m];obtain⟨r1,r2,r3,r4,r5⟩:=b62 H n aZ aH L h1 (λx hx c cw=>by
    rcases h2 x hx c cw with h|h
    ·exact .inl h
    ·simp only[e6v]at h;rcases h with rfl|h
     ·exact .inl hb
     ·exact .inr h) (λx hx=>h3 x (by simp[hx])) h4 (by simp only[e5l]at hn;omega)
   refine⟨r1,r2,?_,r4,?_⟩
   ·intro x hx;simp only[e6v]at hx;rcases hx with rfl|hx
    ·exact r2 _ hb
    ·exact r3 x hx
   ·intro T t1 t2 t3;exact r5 T t1 (λx hx=>t2 x (by simp[hx])) t3
  |false=>
   have hb:b∉aH:=λh=>by rw[a1x.2 h]at hc;cases hc
   simp only[e6w];have pP:b∈L:=(h3 b (by simp)).resolve_left hb;have hs:=b7k (f:=λb=>(a0t (a01 H b)).length) pP;obtain⟨r1,r2,r3,r4,r5⟩:=b62 H n (a0t (a01 H b)++aZ) (b::aH) (L.erase b) (e8t.2 ⟨hb,h1⟩) (λx hx c cw=>by
    simp only[e6v]at hx⊢;rcases hx with rfl|hx
    ·exact .inr (by simp[cw])
    ·rcases h2 x hx c cw with h|h
     ·exact .inl (.inr h)
     ·simp only[e6v]at h;rcases h with rfl|h
      ·exact .inl (.inl rfl)
      ·exact .inr (by simp[h])) (λx hx=>by
    have eN:x∈aH∨x∈L:=by
     rw[e7h]at hx;rcases hx with hx|hx
     ·exact h4 b pP x hx
     ·exact h3 x (by simp[hx])
    by_cases kP:x=b
    ·exact .inl (by simp[kP])
    ·rcases eN with h|h
     ·exact .inl (by simp[h])
     ·exact .inr ((List.mem_erase_of_ne kP).2 h)) (λx hx c cw=>by
    have:=h4 x (List.mem_of_mem_erase hx) c cw;by_cases kP:c=b
    ·exact .inl (by simp[kP])
    ·rcases this with h|h
     ·exact .inl (by simp[h])
     ·exact .inr ((List.mem_erase_of_ne kP).2 h)) (by
    simp only[e5l]at hn;rw[hs]at hn;simp only[e6k];omega)
   refine⟨r1,λx hx=>r2 x (by simp[hx]),?_,r4,?_⟩
   ·intro x hx;simp only[e6v]at hx;rcases hx with rfl|hx
    ·exact r2 _ (by simp)
    ·exact r3 x (by simp[hx])
   ·intro T t1 t2 t3;refine r5 T ?_ ?_ t3
    ·intro x hx;simp only[e6v]at hx;rcases hx with rfl|hx
     ·exact t2 _ (by simp)
     ·exact t1 x hx
    ·intro x hx;rw[e7h]at hx;rcases hx with hx|hx
     ·exact t3 b (t2 b (by simp)) x hx
     ·exact t2 x (by simp[hx])
theorem c3g{H:a02}{d6:List Nat}(S:List Nat)(h1:∀b∈d6,b∈S)(h2:∀b∈S,∀c∈a0t (a01 H b),c∈S)
 (hn:d6.length+(S.map λb=>(a0t (a01 H b)).length).sum<1000000):Reached H d6 (a1i H 1000000 d6 []):=by
 obtain⟨r1,_,r3,r4,r5⟩:=b62 H 1000000 d6 [] S List.nodup_nil (λb hb=>by simp at hb) (λb hb=>.inr (h1 b hb)) (λb hb c hc=>.inr (h2 b hb c hc)) hn;exact⟨r1,r3,r4,λT t1 t2=>r5 T (λb hb=>by simp at hb) t1 t2⟩
theorem b24:∀{l:List Nat},l.Nodup→a4e l=true
 | [],_=>rfl
 |a::l,h=>by
  rw[e8t]at h;have hc:a0q l a=false:=by
   cases hc:a0q l a with
   |false=>rfl
   |true=>exact absurd (a1x.1 hc) h.1
  rw[b9v,hc,b24 h.2];rfl
structure Gc(m:Nat)(F:Frm)(H:a02)(R:Nat→Prop)(π:Nat→Option Nat)(H1:a02):Prop where
 low:∀b,b<m→π b=some b
 inj:∀a b c,π a=some c→π b=some c→a=b
 refs:∀b∈a0a (F.map (·.2)),R b
 lows:∀b,b<m→∀c∈a0t (a01 H b),R c
 closed:∀b,R b→∀c∈a0t (a01 H b),R c
 least:∀T:Nat→Prop,(∀b∈a0a (F.map (·.2)),T b)→(∀b,b<m→∀c∈a0t (a01 H b),T c)→(∀b,T b→∀c∈a0t (a01 H b),T c)→∀b,R b→T b
 here:∀b,R b→∃c,π b=some c
 heap:∀b c,π b=some c→a01 H1 c=(a01 H b).map (a0d π)
 len:∀T:List Nat,(∀b,R b→m≤b→b∈T)→H1.length≤m+T.length
theorem b6b{m:Nat}{H:a02}{c:Nat}:c∈(H.take m).flatMap a0t↔∃b,b<m∧c∈a0t (a01 H b):=by
 simp only[List.mem_flatMap];constructor
 ·rintro⟨o,ho,hc⟩
  obtain⟨b,hb⟩:=e8k.1 ho;rw[e9i]at hb;split at hb
  case isFalse=>cases hb
  rename_i ak;refine⟨b,ak,?_⟩;simp only[a01,hb,e8x];exact hc
 ·rintro⟨b,ak,hc⟩
  cases hb:H[b]? with
  |none=>simp[a01,hb,a0t]at hc
  |some o=>refine⟨o,e8k.2 ⟨b,by rw[e9i,e6q ak,hb]⟩,?_⟩;simpa[a01,hb]using hc
theorem b2f:∀{l T:List Nat},l.Nodup→(∀b∈l,b∈T)→l.length≤T.length
 | [],_,_,_=>by simp
 |a::l,T,bz,be=>by rw[e8t]at bz;have ha:a∈T:=be a (by simp);have:=b2f (l:=l) (T:=T.erase a) bz.2 (λb hb=>(List.mem_erase_of_ne (λe=>bz.1 (by rw[←e];exact hb))).2 (be b (by simp[hb])));rw[List.length_erase_of_mem ha]at this;have:0<T.length:=List.length_pos_of_mem ha;simp only[e5l];omega
theorem c7w{m:Nat}{keep:List Nat}{F:Frm}{H:a02}(hm:m≤H.length)(S:List Nat)(h1:∀b∈a0a ((a1l keep F).map (·.2)),b∈S)(h2:∀b,b<m→∀c∈a0t (a01 H b),c∈S)(h3:∀b∈S,∀c∈a0t (a01 H b),c∈S)
 (hn:((H.take m).flatMap a0t).length+(a0a ((a1l keep F).map (·.2))).length+(S.map λb=>(a0t (a01 H b)).length).sum<1000000) :
 ∃(R:Nat→Prop) (π:Nat→Option Nat) (H1:a02),gcD m keep F H=some (b7b π (a1l keep F),H1)∧Gc m (a1l keep F) H R π H1∧m≤H1.length:=by
 have hr:=c3g (H:=H) (d6:=(H.take m).flatMap a0t++a0a ((a1l keep F).map (·.2))) S (λb hb=>by
  rw[e7h]at hb;rcases hb with hb|hb
  ·obtain⟨a,ha,hc⟩:=b6b.1 hb;exact h2 a ha b hc
  ·exact h1 b hb) h3 (by rw[e6k];exact hn)
 generalize hρ:a1i H 1000000 ((H.take m).flatMap a0t++a0a ((a1l keep F).map (·.2))) []=ρ at hr;have hσ:a80 m (a1l keep F) H=ρ.filter λb=>decide (m≤b):=by rw[a00,hρ]
 have bz:(ρ.filter λb=>decide (m≤b)).Nodup:=hr.nodup.filter _;have cG:∀b,b∈(ρ.filter λb=>decide (m≤b))↔b∈ρ∧m≤b:=λb=>by rw[e9u];simp
 have da:(H.take m).length=m:=by simp;omega
 have aj:(gcH m (ρ.filter λb=>decide (m≤b)) H).length=m+(ρ.filter λb=>decide (m≤b)).length:=by rw[d49];simp[a4n];omega
 refine⟨(·∈ρ),b3r m (ρ.filter λb=>decide (m≤b)),gcH m (ρ.filter λb=>decide (m≤b)) H,?_,?_,by rw[aj];omega⟩
 ·rw[a03,hσ,b24 bz,e7o hm];have:(ρ.filter λb=>decide (m≤b)).all (λb=>decide (m≤b))=true:=by
   rw[e6x];intro b hb;simpa using((cG b).1 hb).2
  rw[this];rfl
 ·have hπ:∀b,b3r m (ρ.filter λb=>decide (m≤b)) b=if b<m then some b else((ρ.filter λb=>decide (m≤b)).idxOf? b).map (m + ·):=by
   intro b;rw[c7x];by_cases h:b<m<;>simp[h]
  refine⟨λb hb=>by rw[hπ,e6q hb],?_,λb hb=>hr.start b (by simp[hb]),λb hb c hc=>hr.start c (by rw[e7h];exact .inl (b6b.2 ⟨b,hb,hc⟩)),λb hb c hc=>hr.closed b hb c hc,?_,?_,?_,?_⟩
  ·intro a b c ha hb;rw[hπ]at ha hb;split at ha<;>split at hb
   ·cases ha;cases hb;rfl
   ·cases ha;obtain⟨j,hj,e⟩:=a05 hb;omega
   ·cases hb;obtain⟨j,hj,e⟩:=a05 ha;omega
   ·obtain⟨i,hi,e1⟩:=a05 ha;obtain⟨j,hj,e2⟩:=a05 hb;have g1:=a1w hi;have g2:=a1w hj;obtain rfl:i=j:=by omega
    rw[g1]at g2;exact z9o g2
  ·intro T t1 t2 t3 b hb;refine hr.least T (λx hx=>?_) t3 b hb;rw[e7h]at hx;rcases hx with hx|hx
   ·obtain⟨a,ha,hc⟩:=b6b.1 hx;exact t2 a ha x hc
   ·exact t1 x hx
  ·intro b hb;rw[hπ];split
   ·exact⟨_,rfl⟩
   ·rename_i h;have rB:=(cG b).2 ⟨hb,by omega⟩;obtain⟨j,hj⟩:=e8k.1 rB;rw[a7c bz hj];exact⟨_,rfl⟩
  ·intro b c oA;have iB:=oA;rw[hπ]at iB;rw[d49];split at iB
   ·rename_i h;cases iB;simp only[a01];rw[e6j (by simp;omega),e5n,e9i,e6q h];cases H[b]? with
    |none=>rfl
    |some o=>rfl
   ·rename_i h;obtain⟨j,hj,rfl⟩:=a05 iB;have hg:=a1w hj;simp only[a01];rw[e6p (by simp only[c10,da];omega)];simp only[c10,da,e9b,a4n,e5n,hg,e5p,e8x];rfl
  ·intro T hT;rw[aj];have:(ρ.filter λb=>decide (m≤b)).length≤T.length:=by
    have be:∀b∈(ρ.filter λb=>decide (m≤b)),b∈T:=λb hb=>hT b ((cG b).1 hb).1 ((cG b).1 hb).2;exact b2f bz be
   omega
end Go.Ax
/- AxSup: closed runs over facts of calls, a3b a given fact. -/
namespace Go.Ax
def a16(E:Env)(x:Fact):Prop:=sem E [] x.g x.args []=some (x.v,[])
theorem c1g{E:Env}{g:FuncId}{args:List AV}{v:AV}:∀{M:List Fact},(∀x∈M,a16 E x)→d9t M g args=some v→sem E [] g args []=some (v,[])
 | [],_,h=>by simp[d9t]at h
 |x::r,hM,h=>by
  simp only[d9t,cond_eq_ite]at h;split at h
  ·rename_i hc;simp only[c11,f08]at hc;cases h;have:=hM x (by simp);obtain⟨g',a',v'⟩:=x;simp only at hc this;have h1:=hc.1;have h2:=b56 _ _ hc.2;subst h1;subst h2;exact this
  ·exact c1g (λx hx=>hM x (by simp[hx])) h
theorem b1r{E:Env}{c:CallF}(hc:CallF.le c (sem E []))(lf:Nat):CallF.le (b0w E c lf) (sem E []):=λg args H r h=>c5y (λ_ h=>by cases h) lf (a9q hc (e6o lf) h)
theorem b29{E:Env}{M:List Fact}(hM:∀x∈M,a16 E x):∀n,CallF.le (c6u E M n) (sem E [])
 |0=>λg args H r h=>by simp[c6u]at h
 |n+1=>λg args H r h=>by
  have h:e53 M (b0w E (c6u E M n) (n+1)) g args H=some r:=h;unfold e53 at h;split at h
  ·split at h
   ·rename_i v hs;cases h;exact c1g hM hs
   ·exact b1r (b29 hM n) _ _ _ _ _ h
  ·exact b1r (b29 hM n) _ _ _ _ _ h
theorem a0i{E:Env}{M:List Fact}(hM:∀x∈M,a16 E x)(n:Nat){g:Nat}{args:List AV}{v:AV}(h:b0w E (c6u E M n) n g args []=some (v,[])):a16 E ⟨g,args,v⟩:=b1r (b29 hM n) n _ _ _ _ h
theorem a0h{E:Env}:∀x∈([]:List Fact),a16 E x:=by simp
theorem a0v{E:Env}{x:Fact}{M:List Fact}(hx:a16 E x)(hM:∀x∈M,a16 E x):∀y∈x::M,a16 E y:=by
 intro y hy;simp only[e6v]at hy;rcases hy with rfl|hy
 ·exact hx
 ·exact hM y hy
end Go.Ax
/- AxGrow: grown slices; calls that read one block. -/
namespace Go.Ax
def grV(b:Nat):List (List AV)→AV|[]=>.nilslice|_::rs=>.slice b 0 (rs.length+1) none
def grH(k:Nat):List (List AV)→a02|[]=>[]|r::rs=>[some (.row k (r::rs))]
theorem a17(b:Nat):grV b [] = .nilslice:=by rfl
theorem a18(k:Nat):grH k []=[]:=by rfl
theorem a0k(b:Nat)(r:List AV)(rs:List (List AV)):grV b (r::rs) = .slice b 0 (rs.length+1) none:=by rfl
theorem a0l(k:Nat)(r:List AV)(rs:List (List AV)):grH k (r::rs)=[some (.row k (r::rs))]:=by rfl
theorem c1y(b:Nat)(l:List (List AV))(x:List AV):grV b (l++[x]) = .slice b 0 (l.length+1) none:=by cases l<;>simp[grV]
theorem d21(k:Nat)(l:List (List AV))(x:List AV):grH k (l++[x])=[some (.row k (l++[x]))]:=by cases l<;>simp[grH]
theorem a6r(b:Nat){l:List (List AV)}(h:l≠[]):grV b l = .slice b 0 l.length none:=by cases l with|nil=>exact absurd rfl h|cons a r=>rfl
theorem a6s(k:Nat){l:List (List AV)}(h:l≠[]):grH k l=[some (.row k l)]:=by cases l with|nil=>exact absurd rfl h|cons a r=>rfl
theorem b7t{H:a02}{b:Nat}(hr:a0t (a01 H b)=[]):a1i H 1000000 [b] []=[b]:=by
 have e1:∀n,a1i H (n+2) [b] []=[b]:=by intro n;unfold a1i;simp only[a0q,e6w,hr,e4t];unfold a1i;rfl
 exact e1 999998
theorem a2h{E:Env}{ah:Bool}{call:CallF}{g:FuncId}{fs cs ar args:List AV}{H:a02}{v:AV}{b:Nat}{o:AObj}(hx:E.ext g=false)(hf:(E.fn g).isSome=true)(he:fs++ar++cs=args)
 (hb:a01 H b=some o)(ho:a0t (some o)=[])(cu:FlatO (some o))(aG:a0a args=[b]){aq:List AV}(ha:args.map (ren (a8e [b]))=aq)(hr:call g aq [some o]=some (v,[some o]))(hv:refs v=[]) :
 a09 E ah call (.func (.func g) fs cs) ar H=some (v,H,[b]):=by
 have ak:b<H.length:=by
  unfold a01 at hb;cases hh:H[b]? with
  |none=>rw[hh]at hb;cases hb
  |some x=>exact(e5k.1 hh).1
 refine c4l [b] hx hf he (by rw[aG];exact b7t (by rw[hb];exact ho)) rfl (by simpa using ak) ?_ ha (by simp only[e4r,e5j,hb]) hr hv;intro c hc;simp only[e6z]at hc;subst hc;rw[hb];exact cu
theorem a0j{k:Nat}{aa:List (List AV)}(h:FlatR aa):a0t (some (.row k aa))=[]:=by simp only[a0t];exact a0c h
theorem a1e{H:a02}{b:Nat}{o:AObj}(hb:a01 H b=some o):b<H.length:=by
 unfold a01 at hb;cases hh:H[b]? with
 |none=>rw[hh]at hb;cases hb
 |some x=>exact(e5k.1 hh).1
theorem a8s{H:a02}{b:Nat}{o:AObj}(hb:a01 H b=some o):H.set b (some o)=H:=by have ak:=a1e hb;unfold a01 at hb;rw[z9e ak]at hb;simp only[e8x]at hb;rw[←hb];exact List.set_getElem_self ak
theorem b1x(b n:Nat)(o:Option AObj)(ho:∀π,o.map (a0d π)=o):∀(s:Nat) (H:a02),s≤b→a14 [b] n [o] s H=H.set (b-s) o
 |s,[],_=>by simp[a14]
 |s,x::H,hs=>by
  simp only[a14];by_cases jx:s=b
  ·subst jx;have e:([s]:List Nat).idxOf? s=some 0:=by simp[e8i]
   have b3:∀(t:Nat) (H:a02),s<t→a14 [s] n [o] t H=H:=by
    intro t H
    induction H generalizing t with
    |nil=>intro _;rfl
    |cons y H ih=>
     intro ht;have e2:([s]:List Nat).idxOf? t=none:=by simp[e8i];omega
     simp only[a14,e2,ih (t+1) (by omega)]
   simp only[e,b3 (s+1) H (by omega),Nat.sub_self,List.set_cons_zero]
   congr 1
   exact ho _
  ·have e:([b]:List Nat).idxOf? s=none:=by simp[e8i];omega
   have e2:b-s=(b-(s+1))+1:=by omega
   rw[e2,List.set_cons_succ];simp only[e,b1x b n o ho (s+1) H (by omega)]
theorem a43{E:Env}{ah:Bool}{call:CallF}{g:FuncId}{fs cs ar args:List AV}{H:a02}{v v':AV}{b:Nat}{o o':AObj}(hx:E.ext g=false)(hf:(E.fn g).isSome=true)(he:fs++ar++cs=args)
 (hb:a01 H b=some o)(ho:a0t (some o)=[])(cu:FlatO (some o))(aG:a0a args=[b]){aq:List AV}(ha:args.map (ren (a8e [b]))=aq)(hr:call g aq [some o]=some (v,[some o']))(n8:FlatO (some o'))(hv:ren (a1f [b] H.length) v=v') :
 a09 E ah call (.func (.func g) fs cs) ar H=some (v',H.set b (some o'),[b]):=by
 have ak:=a1e hb;have hc:=a3i (call g) args H (σ:=[b]) (by rw[aG];exact b7t (by rw[hb];exact ho)) rfl (by simpa using ak) ha (H0:=[some o]) (by simp only[a4n,e4r,e5j,hb];congr 1;exact cu _) hr;rw[hv,b1x b _ _ n8 0 H (e5q _)]at hc;simp only[Nat.sub_zero,List.drop_succ_cons,e86,e5j,e4t,e5l,e5r]at hc;exact a7y hx hf he hc (by simp)
theorem a1u(b o l:Nat)(c:Option Nat):ren (a8e [b]) (.slice b o l c) = .slice 0 o l c:=by simp[ren,a8e]
theorem a5e(b o n l:Nat)(c:Option Nat):ren (a1f [b] n) (.slice 0 o l c) = .slice b o l c:=by rfl
/-! ### slices of slices -/
def inB(i:Int)(n:Nat):Bool:=decide (0≤i)&&decide (i≤(n:Int))
@[go_sem] theorem e57(a n:Nat):inB (a:Int) n=decide (a≤n):=by unfold inB;rw[e7o (by omega),e8p,f04,e6l,e6l];omega
@[go_sem] theorem e9n(n:Nat):inB 0 n=true:=by simp[inB]
theorem b77{k:IntKind}{i:Int}{n d:Nat}:a11 (some (.int k i)) n d=bif inB i n then some i.toNat else none:=by rfl
attribute [go_sem] Option.map_some Option.map_none
section
variable {E:Env}{h:FHeap}{t:TypeId}
theorem b6z{x:AV}{lo hi mx:Option AV}(hs:slT E t=none)(hx:∀s,x≠ .str s):a4p E h t x lo hi mx=none:=by
 unfold a4p;unfold slT at hs;cases hu:E.und t with
 |none=>rfl
 |some d=>rw[hu]at hs;cases d<;>first|(cases hs;done)|(cases x<;>first|rfl|exact absurd rfl (hx _))
@[go_sem] theorem d7d{k k':IntKind}{i j:Int}:a4p E h t .nilslice none (some (.int k i)) (some (.int k' j))=a0b (slT E t) λe=>bif isT E e&&inB j 0&&inB i j.toNat then some .nilslice else none:=by
 cases hs:slT E t with
 |none=>exact b6z hs (λ_ h=>by cases h)
 |some e=>simp only[a4p,a3n.1 hs,a0b,b77,isT];cases(E.und e).isSome<;>cases inB j 0<;>first|rfl|(simp only[e6m,e8p];cases inB i j.toNat<;>rfl)
@[go_sem] theorem d91{b o n:Nat}{c:Option Nat}{k k':IntKind}{i j:Int}:a4p E h t (.slice b o n c) none (some (.int k i)) (some (.int k' j))=a0b (slT E t) λe=>a0b (a8q (h b)) λkr=>bif isT E e&&decide (kr.1=E.sz e)&&inB j (a1h n c)&&inB i j.toNat then some (.slice b o i.toNat (some j.toNat))else none:=by
 cases hs:slT E t with
 |none=>exact b6z hs (λ_ h=>by cases h)
 |some e=>
  simp only[a4p,a3n.1 hs,a0b,b77,isT];cases hb:h b with
  |none=>cases(E.und e).isSome<;>rfl
  |some ob=>cases ob with
   |map=>cases(E.und e).isSome<;>rfl
   |siter=>cases(E.und e).isSome<;>rfl
   |uset=>cases(E.und e).isSome<;>rfl
   |miter=>cases(E.und e).isSome<;>rfl
   |yloop=>cases(E.und e).isSome<;>rfl
   |row kk aa=>simp only[a8q,c2g];cases(E.und e).isSome<;>cases decide (kk=E.sz e)<;>cases inB j (a1h n c)<;>first|rfl|(simp only[e6m,e8p];cases inB i j.toNat<;>rfl)
@[go_sem] theorem d90{b o n:Nat}{c:Option Nat}{k:IntKind}{j:Int}:a4p E h t (.slice b o n c) none (some (.int k j)) none=a0b (slT E t) λe=>a0b (a8q (h b)) λkr=>bif isT E e&&decide (kr.1=E.sz e)&&inB j (a1h n c)then some (.slice b o j.toNat c)else none:=by
 cases hs:slT E t with
 |none=>exact b6z hs (λ_ h=>by cases h)
 |some e=>
  have hc:c.map (λx=>x-0)=c:=by cases c<;>rfl
  simp only[a4p,a3n.1 hs,a0b,b77,isT];cases hb:h b with
  |none=>cases(E.und e).isSome<;>rfl
  |some ob=>cases ob with
   |map=>cases(E.und e).isSome<;>rfl
   |siter=>cases(E.und e).isSome<;>rfl
   |uset=>cases(E.und e).isSome<;>rfl
   |miter=>cases(E.und e).isSome<;>rfl
   |yloop=>cases(E.und e).isSome<;>rfl
   |row kk aa=>simp only[a8q,c2g];have e0:∀m,a11 (none:Option AV) m 0=some 0:=λ_=>rfl;cases(E.und e).isSome<;>cases decide (kk=E.sz e)<;>cases inB j (a1h n c)<;>first|rfl|(simp only[e6m,e8p,e0,hc];rfl)
end
attribute [go_sem] Nat.le_refl Int.toNat_natCast
@[go_sem] theorem d3n{α β:Type}(f:α→β)(l:List α):(l.map f).take l.length=l.map f:=by rw[←c10 (f:=f),e82]
attribute [go_sem] List.take_length
@[go_sem] theorem c8r(n c:Nat):a1h n (some c)=c:=by rfl
@[go_sem] theorem c8s(n:Nat):a1h n none=n:=by rfl
end Go.Ax
/- AxMelt: calls over flat arguments that return a pointer to a block of their own. -/
namespace Go.Ax
@[go_sem] theorem d6x{v:AV}{H:a02}:a1q true 0 v H=d46 0 v H:=by rfl
@[go_sem] theorem e2s{m b i o:Nat}{H:a02}:d46 m (.ptr b i o) H=bif decide (m≤b)then a0b (a8q (a01 H b)) λkr=>a0b (frzT m (a3w (a3b (a01 H) b) m 12) kr.2) λa6=>some (.ptr m i o,(H.take m).map (Option.map (a0d (a15 m)))++[some (.row kr.1 a6)])else none:=by
 have e:Nat.ble m b=decide (m≤b):=by rw[f04,e8m,e6l]
 simp only[d46,e];cases decide (m≤b)with
 |false=>rfl
 |true=>
  simp only[e6m];cases h:a01 H b with
  |none=>rfl
  |some ob=>cases ob with
   |row k aa=>simp only[a8q,a0b];cases frzT m (a3w (a3b (a01 H) b) m 12) aa<;>rfl
   |map=>rfl
   |siter=>rfl
   |uset=>rfl
   |miter=>rfl
   |yloop=>rfl
@[go_sem] theorem e2r{m:Nat}{l:List AV}{H:a02}:d46 m (.tuple l) H=some (.tuple l,H):=by rfl
@[go_sem] theorem e0h{m:Nat}{H:a02}:d46 m .nilslice H=some (.nilslice,(H.take m).map (Option.map (a0d (a15 m)))):=by rfl
@[go_sem] theorem e35{m:Nat}{d:AV→Option AV}:frzT m d []=some []:=by rfl
@[go_sem] theorem e13{m:Nat}{d:AV→Option AV}{r:List AV}{rs:List (List AV)}:frzT m d (r::rs)=a0b (a4l m true d r) λr'=>a0b (frzT m d rs) λdm=>some (r'::dm):=by
 simp only[frzT];cases a4l m true d r with
 |none=>rfl
 |some r'=>cases frzT m d rs<;>rfl
@[go_sem] theorem d82{h:FHeap}{b x:Nat}:a3b h b x=bif decide (x=b)then none else h x:=by
 unfold a3b;by_cases hx:x=b
 ·subst hx;rw[show Nat.beq x x=true from Nat.beq_refl x,e7o rfl]
 ·rw[e9e hx];cases hq:Nat.beq x b with
  |false=>rfl
  |true=>exact absurd (e8j hq) hx
end Go.Ax
/- AxCpy: copy and clear, ar rewrite rules. -/
namespace Go.Ax
section
variable {E:Env}{ah:Bool}{call:CallF}{F:Frm}{H:a02}{h:FHeap}
end
section
variable {E:Env}{t:TypeId}{c:Bool}{x y:BitVec 64}
end
section
variable {E:Env}{h:FHeap}{t:TypeId}
end
theorem c8v{E:Env}{ah:Bool}{call:CallF}{g:FuncId}{fs cs ar args:List AV}{H:a02}(hx:E.ext g=false)(hf:(E.fn g).isSome=true)(he:fs++ar++cs=args){v:AV}{H':a02}{σ:List Nat}
 (h:a27 (call g) args H=some (v,H',σ))(hl:H'.length=H.length+1):a09 E ah call (.func (.func g) fs cs) ar H=some (v,H',σ):=by
 have hb:Nat.ble H.length (H.length+1)=true:=by rw[e8m];omega
 simp only[a09,hx,hf,he,e6m,e6w,h,hl,hb,e9t,Bool.and_false]
end Go.Ax
/- AxFz: a loop that freezes at its end, as rewrite rules. -/
namespace Go.Ax
@[go_sem] theorem e5i(m:Nat)(H:a02)(v:AV):d8s m H v=(a30 m true (a3w (a01 H) m 12) v).getD .junk:=by unfold d8s;cases a30 m true (a3w (a01 H) m 12) v<;>rfl
@[go_sem] theorem e32(m:Nat)(top:Bool)(d:AV→Option AV):a30 m top d .junk=some .junk:=by rfl
@[go_sem] theorem e14(m:Nat)(H:a02)(s:Nat)(v:AV)(F:Frm):c0g m H ((s,v)::F)=(s,d8s m H v)::c0g m H F:=by rfl
@[go_sem] theorem e36(m:Nat)(H:a02):c0g m H []=[]:=by rfl
@[go_sem] theorem d8q{α:Type}(a b:α):(some a).getD b=a:=by rfl
@[go_sem] theorem e0x(s:Nat):a2n [] s = .junk:=by rfl
@[go_sem] theorem d9x:refs .junk=[]:=by rfl
theorem d6p(m:Nat)(Q:b3z)(e:AExit)(F:Frm)(H:a02):fz m Q e F H=Q e (c0g m H F) (b6o m H):=by rfl
theorem b7g{E:Env}{M:List Fact}{m N:Nat}{g:FuncId}{cur:Nat}{keep:List Nat}{b:Code}{F:Frm}{H:a02}{Q:b3z}(hk:E.keep g cur=keep)(hz:c9m keep=true)(j:Nat)(hj:c51 keep=j){σ:Type}(Fs:σ→Frm)(Hs:σ→a02)(bq:σ→Nat)(Inv:σ→Prop)(s0:σ)(h0:gcD m keep F H=some (Fs s0,Hs s0))(hi:Inv s0)
 (h:∀s,Inv s→Wp (cx E M m N g cur) b (Fs s) (Hs s) (lp m keep Fs Hs bq Inv (bq s) (fz (m+j) Q)))(hx:a6q b=none:=by rfl):Wp (cx E M m N g cur) (.loop b) F H Q:=by
 refine c56 hk hz j hj (λn F1 H1=>∃s,F1=Fs s∧H1=Hs s∧n=bq s∧Inv s) (bq s0) ⟨_,_,h0,s0,rfl,rfl,rfl,hi⟩ ?_ hx
 rintro n F1 H1 ⟨s,rfl,rfl,rfl,hs⟩
 refine c55 (h s hs) ?_;intro e F' H' h2;cases e with
 |normal=>obtain⟨s',g1,g2,g3⟩:=h2;exact⟨_,_,_,g1,g2,s',rfl,rfl,rfl,g3⟩
 |exit id=>exact h2
 |ret=>exact h2
end Go.Ax
/- AxMl: a loop over a set of numbers: as a condition on its end. -/
namespace Go.Ax
section
variable {E:Env}{M:List Fact}{m N:Nat}{g:FuncId}{cur:Nat}{keep:List Nat}{id:Nat}{an:Array Oper}{it nx:Nat}{kb:List Oper}{ai:Code}
end
end Go.Ax
/- AxSetS: sets of numbers, as rewrite rules. -/
namespace Go.Ax
section
variable {E:Env}{h:FHeap}{t:TypeId}{ah:Bool}{call:CallF}{F:Frm}{H:a02}
@[go_sem] theorem e0f:b25 E t=bif b5o E t then .uset []else .map [] [] [] 0:=by rfl
/-! lookup -/
/-! update -/
/-! delete -/
/-! length -/
/-! ranging -/
/-! frames and heaps -/
variable (π:Nat→Option Nat)
end
end Go.Ax
/- AxTwo: slices of slices that grow: one block of rows, a block for each that is not empty. -/
namespace Go.Ax
theorem a90{H L:a02}{c:Nat}(h:(c<H.length)=True):a01 (H++L) c=a01 H c:=by unfold a01;rw[e6j (e9c h)]
theorem a92{H L:a02}(i:Nat):a01 (H++L) (H.length+i)=a01 L i:=by unfold a01;rw[e6p (by omega)];congr 1;rw[e9b]
theorem a91{H L:a02}:a01 (H++L) H.length=a01 L 0:=a92 0
theorem b2n{H:a02}{a c:Nat}{o:Option AObj}:a01 (H.set a o) c=if a=c∧a<H.length then o else a01 H c:=by
 unfold a01;rw[e70];by_cases h:a=c
 ·subst h;by_cases hl:a<H.length
  ·simp[hl]
  ·simp[hl]
 ·simp[h]
theorem a7d{H:a02}{a c:Nat}{o:Option AObj}(h:a≠c):a01 (H.set a o) c=a01 H c:=by rw[b2n,e5s (λe=>h e.1)]
theorem c40{H:a02}{a c:Nat}{o:Option AObj}(h:(a=c)=False):a01 (H.set a o) c=a01 H c:=a7d (λe=>h▸e)
theorem b8d{H:a02}{a:Nat}{o:Option AObj}(h:a<H.length):a01 (H.set a o) a=o:=by rw[b2n,e6q ⟨rfl,h⟩]
def slV(b:Nat)(c:Option Nat):List (List AV)→AV|[]=>.nilslice|_::rs=>.slice b 0 (rs.length+1) c
theorem d0e(b:Nat)(f:List (List AV)):slV b none f=grV b f:=by cases f<;>rfl
theorem d9m(b:Nat)(c:Option Nat){f:List (List AV)}(h:f≠[]):slV b c f = .slice b 0 f.length c:=by cases f with|nil=>exact absurd rfl h|cons a r=>rfl
theorem c1e{H L:a02}{o:Option AObj}(i:Nat):(H++L).set (H.length+i) o=H++L.set i o:=by rw[List.set_append_right _ _ (by omega),e9b]
theorem b5t{H L:a02}{o:Option AObj}:(H++L).set H.length o=H++L.set 0 o:=c1e 0
theorem c5w{H L:a02}{o:Option AObj}{a:Nat}(h:(a<H.length)=True):(H++L).set a o=H.set a o++L:=List.set_append_left _ _ (e9c h)
theorem b6a(n:Nat):(n<n+1)=True:=by simp
theorem b69{a n k:Nat}(h:(a<n)=True):(a<n+k)=True:=by have:=e9c h;simp;omega
def a2u(aB:Nat→Nat)(cp:Nat→Option Nat)(fo:List (List (List AV))):List (List AV):=fo.mapIdx λj f=>[slV (aB j) (cp j) f]
structure Two(H:a02)(b k:Nat)(aB:Nat→Nat)(cp:Nat→Option Nat)(fo:List (List (List AV))):Prop where
 top:a01 H b=some (.row 1 (a2u aB cp fo))
 sub:∀(j:Nat) (f:List (List AV)),fo[j]?=some f→f≠[]→a01 H (aB j)=some (.row k f)∧aB j≠b
 inj:∀(i j:Nat) (f g:List (List AV)),fo[i]?=some f→fo[j]?=some g→f≠[]→g≠[]→aB i=aB j→i=j
 flat:∀f∈fo,FlatR f
theorem a71{aB:Nat→Nat}{cp:Nat→Option Nat}{fo:List (List (List AV))}{j:Nat}{f:List (List AV)}(h:fo[j]?=some f):(a2u aB cp fo)[j]?=some [slV (aB j) (cp j) f]:=by unfold a2u;rw[e6s,h];rfl
theorem a3p(aB:Nat→Nat)(cp:Nat→Option Nat)(fo:List (List (List AV))):(a2u aB cp fo).length=fo.length:=by unfold a2u;simp
theorem b11(b:Nat)(c:Option Nat){f:List (List AV)}:refs (slV b c f)=if f=[]then[]else[b]:=by cases f<;>rfl
theorem a7q{aB:Nat→Nat}{cp:Nat→Option Nat}{fo:List (List (List AV))}{c:Nat}:c∈(a2u aB cp fo).flatMap a0a↔∃j f,fo[j]?=some f∧f≠[]∧c=aB j:=by
 unfold a2u;simp only[List.mem_flatMap];constructor
 ·rintro⟨r,hr,hc⟩
  obtain⟨j,hj⟩:=e8k.1 hr;rw[e6s]at hj;cases hf:fo[j]? with
  |none=>rw[hf]at hj;cases hj
  |some f=>
   rw[hf]at hj;cases hj;simp only[a0a,b11,e4t]at hc;split at hc
   ·simp at hc
   ·rename_i az;exact⟨j,f,hf,az,by simpa using hc⟩
 ·rintro⟨j,f,hf,az,rfl⟩
  refine⟨[slV (aB j) (cp j) f],e8k.2 ⟨j,by rw[e6s,hf];rfl⟩,?_⟩;simp[a0a,b11,az]
theorem c5u{π:Nat→Option Nat}{b c:Nat}{q:Option Nat}{f:List (List AV)}(h:f≠[]→π b=some c):ren π (slV b q f)=slV c q f:=by
 cases f with
 |nil=>rfl
 |cons a r=>simp only[slV,ren,h (by simp)]
section
variable {m:Nat}{F:Frm}{H H1:a02}{R:Nat→Prop}{π:Nat→Option Nat}{b k:Nat}{aB:Nat→Nat}{cp:Nat→Option Nat}{fo:List (List (List AV))}
theorem Two.ren(hg:Gc m F H R π H1)(h:Two H b k aB cp fo)(hb:R b):∃b' aP,π b=some b'∧Two H1 b' k aP cp fo:=by
 obtain⟨b',aR⟩:=hg.here b hb;have be:∀(j:Nat) (f:List (List AV)),fo[j]?=some f→f≠[]→π (aB j)=some ((π (aB j)).getD 0):=by intro j f hf az;have:R (aB j):=hg.closed b hb _ (by rw[h.top];exact a7q.2 ⟨j,f,hf,az,rfl⟩);obtain⟨c,hc⟩:=hg.here _ this;rw[hc];rfl
 refine⟨b',λj=>(π (aB j)).getD 0,aR,?_,?_,?_,h.flat⟩
 ·rw[hg.heap b b' aR,h.top];simp only[e5p,a0d]
  congr 2
  unfold a2u;apply e7s;intro j;simp only[e5n,e6s];cases hf:fo[j]? with
  |none=>rfl
  |some f=>simp only[e5p,e4r,e5j,c5u (be j f hf)]
 ·intro j f hf az;have e:=be j f hf az;obtain⟨h1,h2⟩:=h.sub j f hf az;refine⟨?_,?_⟩
  ·rw[hg.heap _ _ e,h1];simp only[e5p,a0d,a08 π (h.flat f (e12 hf))]
  ·intro he;rw[he]at e;exact h2 (hg.inj _ _ _ e aR)
 ·intro i j f g hf c4 az cQ e;have e1:=be i f hf az;have e2:=be j g c4 cQ;rw[e]at e1;exact h.inj i j f g hf c4 az cQ (hg.inj _ _ _ e1 e2)
theorem Two.app(h:Two H b k aB cp fo){j n:Nat}{f:List (List AV)}{x:List AV}(hf:fo[j]?=some f)(hc:cp j=none)(hx:a0a x=[])(hn:H.length≤n)
 (h1:a01 H1 b=some (.row 1 ((a2u aB cp fo).set j [.slice n 0 (f.length+1) none])))(h2:a01 H1 n=some (.row k (f++[x])))
 (h3:∀(i:Nat) (g:List (List AV)),i≠j→fo[i]?=some g→g≠[]→a01 H1 (aB i)=a01 H (aB i)) :
 Two H1 b k (λi=>if i=j then n else aB i) cp (fo.set j (f++[x])):=by
 have bg:j<fo.length:=(e5k.1 hf).1;have ak:∀(i:Nat) (g:List (List AV)),fo[i]?=some g→g≠[]→aB i<H.length:=λi g hg az=>a1e (h.sub i g hg az).1;have cz:b<H.length:=a1e h.top;refine⟨?_,?_,?_,?_⟩
 ·rw[h1]
  congr 2
  apply e7s;intro i;unfold a2u;rw[e70,List.length_mapIdx];by_cases bc:j=i
  ·subst bc;simp only[e8f,bg];rw[e6s,e70];simp only[e8f,bg,e5p,hc,d0e,c1y]
  ·simp only[e5s bc];rw[e6s,e6s,e70,e5s bc];simp only[e5s (f05 bc)]
 ·intro i g hg az;rw[e70]at hg;by_cases bc:j=i
  ·subst bc;simp only[e8f,bg,Option.some.injEq]at hg;subst hg;simp only[e8f];exact⟨h2,by omega⟩
  ·rw[e5s bc]at hg;simp only[e5s (f05 bc)];rw[h3 i g (f05 bc) hg az];exact h.sub i g hg az
 ·intro i i' g g' hg c4 az cQ e;rw[e70]at hg c4;by_cases bc:j=i<;>by_cases dy:j=i'
  ·omega
  ·subst bc;simp only[e5s dy]at c4;simp only[e8f,e5s (f05 dy)]at e;have:=ak i' g' c4 cQ;omega
  ·subst dy;simp only[e5s bc]at hg;simp only[e8f,e5s (f05 bc)]at e;have:=ak i g hg az;omega
  ·simp only[e5s bc]at hg;simp only[e5s dy]at c4;simp only[e5s (f05 bc),e5s (f05 dy)]at e;exact h.inj i i' g g' hg c4 az cQ e
 ·intro g hg;rcases e9f hg with hg|rfl
  ·exact h.flat g hg
  ·exact(h.flat f (e12 hf)).append (FlatR.cons hx FlatR.nil)
theorem b10{H:a02}:∀(l:List Nat),(∀c∈l,a0t (a01 H c)=[])→(l.map λc=>(a0t (a01 H c)).length).sum=0
 | [],_=>rfl
 |a::l,h=>by simp only[e4r,List.sum_cons,h a (by simp),e5r,b10 l (λc hc=>h c (by simp[hc]))]
theorem Two.gc{keep:List Nat}(h:Two H b k aB cp fo)(hF:a0a ((a1l keep F).map (·.2))=[b]∨a0a ((a1l keep F).map (·.2))=[b,b])(hn:fo.length<900000) :
 ∃π b' aP H1,gcD 0 keep F H=some (b7b π (a1l keep F),H1)∧π b=some b'∧Two H1 b' k aP cp fo:=by
 -- the blocks that aa lead to
 obtain⟨S,hS⟩:∃S,S=b::((List.range fo.length).filter λj=>(fo[j]?).any λf=>!f.isEmpty).map aB:=⟨_,rfl⟩
 have i5:∀c∈((List.range fo.length).filter λj=>(fo[j]?).any λf=>!f.isEmpty).map aB,a0t (a01 H c)=[]:=by
  intro c hc;obtain⟨j,hj,rfl⟩:=e7t.1 hc;rw[e9u]at hj;have bg:j<fo.length:=by simpa using hj.1
  obtain⟨f,hf⟩:∃f,fo[j]?=some f:=⟨_,z9e bg⟩
  have az:=hj.2;rw[hf]at az;rw[(h.sub j f hf (λe=>by rw[e]at az;simp at az)).1];exact a0j (h.flat f (e12 hf))
 have ju:((((List.range fo.length).filter λj=>(fo[j]?).any λf=>!f.isEmpty).map aB).map λc=>(a0t (a01 H c)).length).sum=0:=by exact b10 _ i5
 have jz:(a0t (a01 H b)).length≤fo.length:=by
  rw[h.top];show((a2u aB cp fo).flatMap a0a).length≤_;have:∀(l:List (List AV)),(∀r∈l,(a0a r).length≤1)→(l.flatMap a0a).length≤l.length:=by
   intro l
   induction l with
   |nil=>intro _;simp
   |cons r l ih=>intro hl;have h1:=hl r (by simp);have h2:=ih (λr hr=>hl r (by simp[hr]));simp only[List.flatMap_cons,e6k,e5l];omega
  have h2:=this (a2u aB cp fo) (by
   intro r hr;obtain⟨j,hj⟩:=e8k.1 hr;unfold a2u at hj;rw[e6s]at hj;cases hf:fo[j]? with
   |none=>rw[hf]at hj;cases hj
   |some f=>rw[hf]at hj;cases hj;simp only[a0a,b11];split<;>simp)
  rw[a3p]at h2;exact h2
 obtain⟨R,π,H1,g1,g2,_⟩:=c7w (m:=0) (keep:=keep) (F:=F) (H:=H) (e5q _) S (by intro c hc;rcases hF with hF|hF<;>rw[hF]at hc<;>simp at hc<;>subst hc<;>simp[hS]) (λc hc=>absurd hc (Nat.not_lt_zero c)) (by
  intro c hc d hd;simp only[hS,e6v]at hc;rcases hc with rfl|hc
  ·rw[h.top]at hd;obtain⟨j,f,hf,az,rfl⟩:=a7q.1 hd;simp only[hS,e6v];refine .inr (e7t.2 ⟨j,e9u.2 ⟨by simpa using(e5k.1 hf).1,?_⟩,rfl⟩);rw[hf];cases f with|nil=>exact absurd rfl az|cons=>rfl
  ·rw[i5 c hc]at hd;simp at hd) (by
  have hl:(a0a ((a1l keep F).map (·.2))).length≤2:=by rcases hF with hF|hF<;>rw[hF]<;>simp
  simp only[hS,e4r,List.sum_cons,ju,e71,List.flatMap_nil,e5r];omega)
 obtain⟨b',aP,e1,e2⟩:=h.ren g2 (g2.refs b (by rcases hF with hF|hF<;>rw[hF]<;>simp));exact⟨π,b',aP,H1,g1,e1,e2⟩
theorem Two.clip(h:Two H b k aB cp fo){j c:Nat}{f:List (List AV)}(hf:fo[j]?=some f)(h1:a01 H1 b=some (.row 1 ((a2u aB cp fo).set j [slV (aB j) (some c) f])))
 (h3:∀c,c≠b→a01 H1 c=a01 H c):Two H1 b k aB (λi=>if i=j then some c else cp i) fo:=by
 have bg:j<fo.length:=(e5k.1 hf).1;refine⟨?_,λi g hg az=>?_,h.inj,h.flat⟩
 ·rw[h1]
  congr 2
  apply e7s;intro i;unfold a2u;rw[e70,List.length_mapIdx];by_cases bc:j=i
  ·subst bc;simp only[e8f,bg];rw[e6s,hf];simp
  ·simp only[e5s bc];rw[e6s,e6s];simp only[e5s (f05 bc)]
 ·obtain⟨g1,g2⟩:=h.sub i g hg az;rw[h3 _ g2];exact⟨g1,g2⟩
def slF(c:Option Nat):List (List AV)→AV|[]=>.nilslice|r::rs=>.islice (r::rs) c
theorem Two.frz(h:Two H b k aB cp fo)(c:Option Nat):a30 0 true (a3w (a01 H) 0 12) (.slice b 0 fo.length c)=some (.islice (fo.mapIdx λj f=>[slF (cp j) f]) c):=by
 have key:∀(aa:List (List AV)) (out:List (List AV)),aa.length=out.length→(∀(j:Nat) r o,aa[j]?=some r→out[j]?=some o→a4l 0 false (a3w (a01 H) 0 11) r=some o)→a8i 0 (a3w (a01 H) 0 11) aa=some out:=by
  intro aa
  induction aa with
  |nil=>intro out hl _;cases out with|nil=>rfl|cons=>simp at hl
  |cons r aa ih=>
   intro out hl hh;cases out with
   |nil=>simp at hl
   |cons o out=>rw[b2r,hh 0 r o rfl rfl];simp only[a0b];rw[ih out (by simpa using hl) (λj r o hr ho=>hh (j+1) r o (by simpa using hr) (by simpa using ho))]
 have sI:∀x,a3w (a01 H) 0 12 x=a3w (a01 H) 0 (11+1) x:=λ_=>rfl;rw[a5x,e9e (Nat.not_lt_zero b),e6w,a4w (eq_true (by omega:0<12)),h.top];simp only[a8q,a0b,a3p,e86,e7l];rw[e7o (e6o _),e6m,←a3p aB cp fo,e82];rw[key (a2u aB cp fo) (fo.mapIdx λj f=>[slF (cp j) f]) (by rw[a3p];simp)];intro j r o hr ho;rw[e6s]at ho;cases hf:fo[j]? with
 |none=>rw[hf]at ho;cases ho
 |some f=>
  rw[hf]at ho;rw[a71 hf]at hr;cases ho;cases hr;rw[a5c,b6n];cases f with
  |nil=>rfl
  |cons x xs=>obtain⟨g1,_⟩:=h.sub j _ hf (by simp);have cu:=h.flat _ (e12 hf);simp only[slV,slF];rw[a5x,e9e (Nat.not_lt_zero _),e6w,a4w (eq_true (by omega:0<11)),g1];simp only[a8q,a0b,e86,e7l];rw[e7o (by simp),e6m];have:List.take (xs.length+1) (x::xs)=x::xs:=e82 (l:=x::xs);rw[this,a13 _ _ cu]
end
theorem Two.more{H L:a02}{b k:Nat}{aB:Nat→Nat}{cp:Nat→Option Nat}{fo:List (List (List AV))}(h:Two H b k aB cp fo):Two (H++L) b k aB cp fo:=by
 have hl:∀{c:Nat} {o:AObj},a01 H c=some o→a01 (H++L) c=some o:=λhc=>by rw[a90 (eq_true (a1e hc))];exact hc
 exact⟨hl h.top,λj f hf az=>⟨hl (h.sub j f hf az).1,(h.sub j f hf az).2⟩,h.inj,h.flat⟩
theorem b2o{H L:a02}{a:Nat}{o:Option AObj}(i:Nat):a01 (H.set a o++L) (H.length+i)=a01 L i:=by
 have:=a92 (H:=H.set a o) (L:=L) i
 rwa [e7y]at this
theorem a4f{H L:a02}{a c:Nat}{o:Option AObj}(hc:c<H.length):a01 (H.set a o++L) c=if a=c then o else a01 H c:=by
 rw[a90 (eq_true (by rw[e7y];exact hc)),b2n];by_cases h:a=c
 ·subst h;simp[hc]
 ·simp[h]
section
variable {H:a02}{b k:Nat}{aB:Nat→Nat}{cp:Nat→Option Nat}{fo:List (List (List AV))}{j:Nat}{x:List AV}{o:Option AObj}
theorem Two.app1(h:Two H b k aB cp fo)(hf:fo[j]?=some [])(hc:cp j=none)(hx:a0a x=[]) :
 Two (H.set b (some (.row 1 ((a2u aB cp fo).set j [.slice (H.length+1) 0 1 none])))++[o,some (.row k [x])]) b k (λi=>if i=j then H.length+1 else aB i) cp (fo.set j [x]):=by
 have cz:=a1e h.top;refine h.app hf hc hx (by omega) ?_ ?_ ?_
 ·rw[a4f cz,e6q rfl];rfl
 ·rw[b2o];rfl
 ·intro i g bc hg az;obtain⟨g1,g2⟩:=h.sub i g hg az;rw[a4f (a1e g1),e5s (f05 g2)]
theorem Two.app2{a:List AV}{r:List (List AV)}(h:Two H b k aB cp fo)(hf:fo[j]?=some (a::r))(hc:cp j=none)(hx:a0a x=[]) :
 Two ((H.set (aB j) none).set b (some (.row 1 ((a2u aB cp fo).set j [.slice (H.length+1) 0 (r.length+1+1) none])))++[o,some (.row k (a::(r++[x])))]) b k (λi=>if i=j then H.length+1 else aB i) cp (fo.set j (a::r++[x])):=by
 have cz:=a1e h.top;have cq:(H.set (aB j) none).length=H.length:=e7y;refine h.app hf hc hx (by omega) ?_ ?_ ?_
 ·rw[a4f (by rw[cq];exact cz),e6q rfl];rfl
 ·have:=b2o (H:=H.set (aB j) none) (L:=[o,some (.row k (a::(r++[x])))]) (a:=b) (o:=some (.row 1 ((a2u aB cp fo).set j [.slice (H.length+1) 0 (r.length+1+1) none]))) 1;rw[cq]at this;rw[this];rfl
 ·intro i g bc hg az;obtain⟨g1,g2⟩:=h.sub i g hg az;rw[a4f (by rw[cq];exact a1e g1),e5s (f05 g2),a7d];intro e;exact bc (h.inj i j g (a::r) hg hf az (by simp) e.symm)
end
theorem a5i{keep:List Nat}{F:Frm}{H:a02}{b k:Nat}{aB:Nat→Nat}{cp:Nat→Option Nat}{fo:List (List (List AV))}{P:Frm→a02→Prop}(h:Two H b k aB cp fo)(hF:a0a ((a1l keep F).map (·.2))=[b]∨a0a ((a1l keep F).map (·.2))=[b,b])(hn:fo.length<900000)
 (hP:∀π b' aP H1,π b=some b'→Two H1 b' k aP cp fo→P (b7b π (a1l keep F)) H1):∃F1 H1,gcD 0 keep F H=some (F1,H1)∧P F1 H1:=by
 obtain⟨π,b',aP,H1,g1,g2,g3⟩:=h.gc hF hn;exact⟨_,H1,g1,hP π b' aP H1 g2 g3⟩
def fqE(E:Env)(g:FuncId)(m:Nat)(results:List ResultVar)(P:AV×a02→Prop):b3z:=λe F H=>match e with|.exit _=>False|_=>∃vs r,a10 E F H results=some vs∧a1q (E.thaw g) m (a76 vs) H=some r∧P r
theorem a81{E:Env}{g:FuncId}{m:Nat}{results:List ResultVar}{P:AV×a02→Prop}{F:Frm}{H:a02}{vs:List AV}{r:AV×a02}(h1:a10 E F H results=some vs)(h2:a1q (E.thaw g) m (a76 vs) H=some r)(h3:P r):fqE E g m results P .ret F H:=⟨vs,r,h1,h2,h3⟩
theorem b6p{E:Env}{g:FuncId}{m:Nat}{results:List ResultVar}{P:AV×a02→Prop}{F:Frm}{H:a02}{vs:List AV}{r:AV×a02}(h1:a10 E F H results=some vs)(h2:a1q (E.thaw g) m (a76 vs) H=some r)(h3:P r):fqE E g m results P .normal F H:=⟨vs,r,h1,h2,h3⟩
theorem d5e{E:Env}{M:List Fact}{g:FuncId}{args:List AV}{H:a02}{code:Code}{N:Nat}{results:List ResultVar}{P:AV×a02→Prop}
 (bN:E.fn g=some ⟨code,N,results⟩)(cP:∀y∈M,y.g≠g)(hN:Nat.ble args.length N=true){m:Nat}(hm:H.length=m)(h:Wp (cx E M m N g 0) code (a4j 0 args) H (fqE E g m results P))(hp:E.prim g args=none:=by rfl)(hz:E.zf g=false:=by rfl):∃r,P r∧sem E M g args H=some r:=by
 subst hm;obtain⟨e,F',H',h1,h2⟩:=c57 _ h;cases e with
 |normal=>obtain⟨vs,⟨v,H2⟩,h3,h4,h5⟩:=h2;exact⟨_,h5,c1f bN cP hN h1 (λ_ h=>by cases h) h3 h4 hp hz⟩
 |ret=>obtain⟨vs,⟨v,H2⟩,h3,h4,h5⟩:=h2;exact⟨_,h5,c1f bN cP hN h1 (λ_ h=>by cases h) h3 h4 hp hz⟩
 |exit id=>exact h2.elim
theorem svE{E:Env}{M:List Fact}{g:FuncId}{args:List AV}{H:a02}{P:AV×a02→Prop}(f:Func)(h:Wp (cx E M H.length f.ntmps g 0) (f.body.getD .skip) (a4j 0 args) H (fqE E g H.length f.results.toList P))(bN:E.fn g=some ⟨f.body.getD .skip,f.ntmps,f.results.toList⟩:=by kernel_rfl)
 (cP:(M.all λy=>!Nat.beq y.g g)=true:=by rfl)(hN:Nat.ble args.length f.ntmps=true:=by rfl)(hp:E.prim g args=none:=by rfl)(hz:E.zf g=false:=by rfl):∃r,P r∧sem E M g args H=some r:=d5e bN (λy hy e=>by
 have:=e6x.1 cP y hy;rw[e]at this;simp at this) hN rfl h hp hz
end Go.Ax
/- AxCall3: calls over two blocks, which they may write. -/
namespace Go.Ax
theorem b0j{σ:List Nat}{n:Nat}{H1:a02}:∀(s:Nat) (H:a02) (i:Nat),(a14 σ n H1 s H)[i]?=(H[i]?).map λo=>match σ.idxOf? (s+i)with|some j=>(a01 H1 j).map (a0d (a1f σ n))|none=>o
 |s,[],i=>by simp[a14]
 |s,o::H,0=>by simp[a14];rfl
 |s,o::H,i+1=>by simp only[a14,e7g,b0j (s+1) H i];rw[show s+1+i=s+(i+1) by omega]
theorem c6a{H:a02}{a b:Nat}(cB:a≠b)(ha:a0t (a01 H a)=[])(hb:a0t (a01 H b)=[]):a1i H 1000000 [a,b] []=[a,b]:=by
 have e:a1i H (999996+4) [a,b] []=[a,b]:=by
  unfold a1i;simp only[a0q,e6w,ha,e5m];unfold a1i;have h1:a0q [a] b=false:=by
   cases hc:a0q [a] b with
   |false=>rfl
   |true=>exact absurd (by simpa using a1x.1 hc) (f05 cB)
  simp only[h1,e6w,hb,e5m];unfold a1i;rfl
 exact e
theorem b38{E:Env}{ah:Bool}{call:CallF}{g:FuncId}{fs cs ar args:List AV}{H:a02}{v v':AV}{a b:Nat}{o1 o2 p1 p2:AObj}(hx:E.ext g=false)(hf:(E.fn g).isSome=true)(he:fs++ar++cs=args)
 (cB:a≠b)(ha:a01 H a=some o1)(hb:a01 H b=some o2)(dJ:a0t (some o1)=[])(eW:a0t (some o2)=[])(iw:FlatO (some o1))(g9:FlatO (some o2))(aG:a0a args=[a,b])
 {aq:List AV}(qK:args.map (ren (a8e [a,b]))=aq)(hr:call g aq [some o1,some o2]=some (v,[some p1,some p2]))(eb:FlatO (some p1))(dw:FlatO (some p2))(hv:ren (a1f [a,b] H.length) v=v') :
 a09 E ah call (.func (.func g) fs cs) ar H=some (v',(H.set a (some p1)).set b (some p2),[a,b]):=by
 have l1:=a1e ha;have l2:=a1e hb;have hn:a4e [a,b]=true:=b24 (by simp[cB]);have hc:=a3i (call g) args H (σ:=[a,b]) (by rw[aG];exact c6a cB (by rw[ha];exact dJ) (by rw[hb];exact eW)) hn (by simp[l1,l2]) qK (H0:=[some o1,some o2])
  (by simp only[a4n,e4r,e5j,ha,hb];rw[iw,g9]) hr
 have dE:a14 [a,b] H.length [some p1,some p2] 0 H=(H.set a (some p1)).set b (some p2):=by
  apply e7s;intro i;rw[b0j,e70,e70,e7y,e7l];by_cases iu:a=i
  ·subst iu;have e:([a,b]:List Nat).idxOf? a=some 0:=by simp[e8i]
   rw[z9e l1];simp only[e5p,e,e5s (f05 cB),e8f,l1]
   congr 1
   exact eb _
  ·by_cases fR:b=i
   ·subst fR;have e:([a,b]:List Nat).idxOf? b=some 1:=by simp[e8i,cB]
    rw[z9e l2];simp only[e5p,e,e8f,l2]
    congr 1
    exact dw _
   ·have e:([a,b]:List Nat).idxOf? i=none:=by simp[e8i,iu,fR]
    rw[e5s fR,e5s iu];cases H[i]? with
    |none=>rfl
    |some o=>simp only[e5p,e]
 rw[hv,dE]at hc;simp only[List.drop_succ_cons,e86,e5j,e4t,e5l,e5r]at hc;exact a7y hx hf he hc (by simp)
theorem b9p(a b o l:Nat)(c:Option Nat):ren (a8e [a,b]) (.slice a o l c) = .slice 0 o l c:=by simp[ren,a8e,e8i]
theorem c63{a b:Nat}(h:a≠b)(i o:Nat):ren (a8e [a,b]) (.ptr b i o) = .ptr 1 i o:=by simp[ren,a8e,e8i,h]
end Go.Ax
/- AxLd: lent calls in the walks. -/
namespace Go.Ax
theorem a7x{E:Env}{ah:Bool}{call:CallF}{g:FuncId}{fs cs as args aq:List AV}{H H1:a02}{v v':AV}(hx:E.ext g=true)(hf:(E.fn g).isSome=true)(he:fs++as++cs=args)(h1:a4l 0 false (a3w (a01 H) 0 12) args=some aq)(hr:call g aq []=some (v,H1))(hn:noI v=true)(hv:a30 0 false (a3w (a84 H1) 0 12) v=some v') :
 a09 E ah call (.func (.func g) fs cs) as H=some (v',H,List.range H.length):=by
 simp only[a09,hx,hf,he,e6m,a7b,h1,hr,hn,hv]
end Go.Ax
/- AxTab: a table of rows of words in blocks, wherever they lie; heads of loops and calls over it. -/
namespace Go.Ax
structure Mv(H:a02)(R:Nat→Prop)(π:Nat→Option Nat)(H1:a02):Prop where
 inj:∀a b c,π a=some c→π b=some c→a=b
 closed:∀b,R b→∀c∈a0t (a01 H b),R c
 here:∀b,R b→∃c,π b=some c
 heap:∀b c,R b→π b=some c→a01 H1 c=(a01 H b).map (a0d π)
theorem Gc.mv{m:Nat}{F:Frm}{H H1:a02}{R:Nat→Prop}{π:Nat→Option Nat}(g:Gc m F H R π H1):Mv H R π H1:=⟨g.inj,g.closed,g.here,λb c _ h=>g.heap b c h⟩
section
variable {H H1:a02}{R:Nat→Prop}{π:Nat→Option Nat}{a b q:Nat}{aB:Nat→Nat}{w:Nat}{fo:List (List (BitVec 64))}{fr:Int}
end
/-! ### calls, wherever the blocks lie -/
end Go.Ax
/- AxTab2: a table that a call has been given: heads of loops and calls that write it. -/
namespace Go.Ax
section
variable {H H1:a02}{a b q:Nat}{aB:Nat→Nat}{w:Nat}{fo:List (List (BitVec 64))}{fr:Int}
mutual
theorem b1t{m:Nat}{π:Nat→Option Nat}(hπ:∀c,c<m→π c=some c):∀(v:AV),(∀c∈refs v,c<m)→ren π v=v
 |.ptr b i o,h=>by simp only[ren,hπ b (h b (by simp[refs]))]
 |.slice b o l c,h=>by simp only[ren,hπ b (h b (by simp[refs]))]
 |.map b,h=>by simp only[ren,hπ b (h b (by simp[refs]))]
 |.yfn b,h=>by simp only[ren,hπ b (h b (by simp[refs]))]
 |.func fn fs cs,h=>by simp only[refs,e7h]at h;simp only[ren,a4u hπ fs (λc hc=>h c (.inl hc)),a4u hπ cs (λc hc=>h c (.inr hc))]
 |.iface t x,h=>by simp only[refs]at h;simp only[ren,b1t hπ x h]
 |.agg cs,h=>by simp only[refs]at h;simp only[ren,a4u hπ cs h]
 |.tuple cs,h=>by simp only[refs]at h;simp only[ren,a4u hπ cs h]
 |.junk,_|.bool _,_|.int ..,_|.str _,_|.nilptr,_|.nilslice,_|.nilmap,_|.nilfunc,_|.nilifc,_|.iptr _,_|.islice ..,_|.imap ..,_|.iset _,_=>rfl
theorem a4u{m:Nat}{π:Nat→Option Nat}(hπ:∀c,c<m→π c=some c):∀(l:List AV),(∀c∈a0a l,c<m)→b92 π l=l
 | [],_=>rfl
 |v::vs,h=>by simp only[a0a,e7h]at h;simp only[b92,b1t hπ v (λc hc=>h c (.inl hc)),a4u hπ vs (λc hc=>h c (.inr hc))]
end
theorem a7r{m:Nat}{π:Nat→Option Nat}(hπ:∀c,c<m→π c=some c)(l:List AV)(h:∀c∈a0a l,c<m):l.map (ren π)=l:=by rw[←a74];exact a4u hπ l h
theorem c3a{m:Nat}{π:Nat→Option Nat}(hπ:∀c,c<m→π c=some c)(o:AObj)(h:∀c∈a0t (some o),c<m):a0d π o=o:=by
 cases o with
 |row k aa=>
  simp only[a0d]
  congr 1
  conv=>rhs;rw[←List.map_id aa]
  refine e7k λr hr=>?_;refine a7r hπ r λe he=>h e ?_;simp only[a0t,List.mem_flatMap];exact⟨r,hr,he⟩
 |map ks vs bs cl=>simp only[a0d];rw[a7r hπ ks (λe he=>h e (by simp[a0t,he])),a7r hπ vs (λe he=>h e (by simp[a0t,he]))]
 |siter s p=>rfl
 |uset ks=>rfl
 |miter ks b7 cD=>rfl
 |yloop y Fy st=>
  simp only[a0d]
  congr 1
  conv=>rhs;rw[←List.map_id Fy]
  refine e7k λx hx=>?_;rw[b1t hπ x.2 λc hc=>h c (c68 hx hc)];rfl
theorem b4c{m:Nat}{π:Nat→Option Nat}(hπ:∀c,c<m→π c=some c):∀F:Frm,(∀c∈a0a (F.map (·.2)),c<m)→b7b π F=F
 | [],_=>rfl
 |(s,v)::F,h=>by simp only[e4r,a0a,e7h]at h;have:=a7r hπ [v] (by simp only[a0a,e4t];exact λc hc=>h c (.inl hc));simp only[e4r,e5j,List.cons.injEq,and_true]at this;rw[c65,this,b4c hπ F (λc hc=>h c (.inr hc))]
end
theorem b0h(a b:List AV):a0a (a++b)=a0a a++a0a b:=by
 induction a with
 |nil=>rfl
 |cons v a ih=>simp only[e7p,a0a,ih,e4s]
end Go.Ax
/- AxLow: a loop's head over blocks that all stood before the call and refer to nothing. -/
namespace Go.Ax
theorem d20{H H1:a02}(hl:H1.length=H.length)(h:∀b,b<H.length→a01 H1 b=a01 H b):H1=H:=by apply List.ext_getElem hl;intro b h1 h2;have:=h b h2;unfold a01 at this;rw[z9e h1,z9e h2]at this;exact this
theorem e0z{keep:List Nat}{F F':Frm}{H:a02}(hk:a1l keep F=F')(hF:∀b∈a0a (F'.map (·.2)),b<H.length)(hn:(a0a (F'.map (·.2))).length<1000)(hH:∀b,a0t (a01 H b)=[]):gcD H.length keep F H=some (F',H):=by
 subst hk;have ju:((List.range H.length).map λb=>(a0t (a01 H b)).length).sum=0:=by
  have:((List.range H.length).map λb=>(a0t (a01 H b)).length)=List.replicate H.length 0:=by rw[←e7n (n:=H.length),←List.map_const',e7n];exact e7k λb _=>by rw[hH];rfl
  rw[this];simp
 have cu:(H.take H.length).flatMap a0t=[]:=by rw[e82,List.flatMap_eq_nil_iff];intro o ho;obtain⟨b,hb⟩:=e8k.1 ho;have:=hH b;unfold a01 at this;rw[hb]at this;exact this
 obtain⟨R,π,H1,h1,hg,hl⟩:=c7w (m:=H.length) (keep:=keep) (F:=F) (H:=H) (e6o _) (List.range H.length) (λb hb=>e8y.2 (hF b hb)) (λb _ c hc=>by rw[hH]at hc;simp at hc) (λb _ c hc=>by rw[hH]at hc;simp at hc) (by rw[ju,cu];simp only[e5r];omega);have aj:H1.length=H.length:=by have:=hg.len [] (λb hR hb=>by have:=hg.least (λb=>b<H.length) hF (λb _ c hc=>by rw[hH]at hc;simp at hc) (λb _ c hc=>by rw[hH]at hc;simp at hc) b hR;omega);simp only[e5r,f03]at this;omega
 rw[h1,b4c hg.low _ hF];have:H1=H:=d20 aj λb hb=>by
  rw[hg.heap b b (hg.low b hb)];cases ho:a01 H b with
  |none=>rfl
  |some o=>have h2:=hH b;rw[ho]at h2;simp only[e5p];rw[c3a hg.low o (λc hc=>by rw[h2]at hc;simp at hc)]
 rw[this]
end Go.Ax
/- AxGw: a flat block and a slice of rows that grow together. -/
namespace Go.Ax
section
variable {H H1:a02}{R:Nat→Prop}{π:Nat→Option Nat}{w b k:Nat}{aB:Nat→Nat}{cp:Nat→Option Nat}{ws:List (List AV)}{fo:List (List (List AV))}
theorem Two.mv(hg:Mv H R π H1)(h:Two H b k aB cp fo)(hb:R b):∃b' aP,π b=some b'∧Two H1 b' k aP cp fo∧∀(j:Nat) (f:List (List AV)),fo[j]?=some f→f≠[]→π (aB j)=some (aP j):=by
 obtain⟨b',aR⟩:=hg.here b hb;have hR:∀(j:Nat) (f:List (List AV)),fo[j]?=some f→f≠[]→R (aB j):=λj f hf az=>hg.closed b hb _ (by rw[h.top];exact a7q.2 ⟨j,f,hf,az,rfl⟩);have be:∀(j:Nat) (f:List (List AV)),fo[j]?=some f→f≠[]→π (aB j)=some ((π (aB j)).getD 0):=by intro j f hf az;obtain⟨c,hc⟩:=hg.here _ (hR j f hf az);rw[hc];rfl
 refine⟨b',λj=>(π (aB j)).getD 0,aR,⟨?_,?_,?_,h.flat⟩,be⟩
 ·rw[hg.heap b b' hb aR,h.top];simp only[e5p,a0d]
  congr 2
  unfold a2u;apply e7s;intro j;simp only[e5n,e6s];cases hf:fo[j]? with
  |none=>rfl
  |some f=>simp only[e5p,e4r,e5j,c5u (be j f hf)]
 ·intro j f hf az;have e:=be j f hf az;obtain⟨h1,h2⟩:=h.sub j f hf az;refine⟨?_,?_⟩
  ·rw[hg.heap _ _ (hR j f hf az) e,h1];simp only[e5p,a0d,a08 π (h.flat f (e12 hf))]
  ·intro he;rw[he]at e;exact h2 (hg.inj _ _ _ e aR)
 ·intro i j f g hf c4 az cQ e;have e1:=be i f hf az;have e2:=be j g c4 cQ;rw[e]at e1;exact h.inj i j f g hf c4 az cQ (hg.inj _ _ _ e1 e2)
def b3l(b:Nat)(aB:Nat→Nat)(fo:List (List (List AV))):List Nat:=b::((List.range fo.length).filter λj=>(fo[j]?).any λf=>!f.isEmpty).map aB
theorem c5d{j:Nat}{f:List (List AV)}(hf:fo[j]?=some f)(az:f≠[]):aB j∈b3l b aB fo:=by unfold b3l;refine f02 _ (e7t.2 ⟨j,e9u.2 ⟨by simpa using(e5k.1 hf).1,?_⟩,rfl⟩);rw[hf];cases f with|nil=>exact absurd rfl az|cons=>rfl
theorem c5e{c:Nat}(h:c∈b3l b aB fo):c=b∨∃j f,fo[j]?=some f∧f≠[]∧c=aB j:=by
 unfold b3l at h;rcases e6v.1 h with h|h
 ·exact .inl h
 ·obtain⟨j,hj,rfl⟩:=e7t.1 h;rw[e9u]at hj;obtain⟨f,hf⟩:∃f,fo[j]?=some f:=⟨_,z9e (by simpa using hj.1)⟩
  have:=hj.2;rw[hf]at this;exact .inr ⟨j,f,hf,by intro e;rw[e]at this;simp at this,rfl⟩
theorem Two.closed(h:Two H b k aB cp fo):∀c∈b3l b aB fo,∀d∈a0t (a01 H c),d∈b3l b aB fo:=by
 intro c hc d hd;rcases c5e hc with rfl|⟨j,f,hf,az,rfl⟩
 ·rw[h.top]at hd;obtain⟨j,f,hf,az,rfl⟩:=a7q.1 hd;exact c5d hf az
 ·rw[(h.sub j f hf az).1,a0j (h.flat f (e12 hf))]at hd;simp at hd
theorem Two.cost(h:Two H b k aB cp fo):((b3l b aB fo).map λc=>(a0t (a01 H c)).length).sum≤fo.length:=by
 have hz:((((List.range fo.length).filter λj=>(fo[j]?).any λf=>!f.isEmpty).map aB).map λc=>(a0t (a01 H c)).length).sum=0:=b10 _ (by
  intro c hc;obtain⟨j,hj,rfl⟩:=e7t.1 hc;rw[e9u]at hj;obtain⟨f,hf⟩:∃f,fo[j]?=some f:=⟨_,z9e (by simpa using hj.1)⟩
  have:=hj.2;rw[hf]at this;rw[(h.sub j f hf (by intro e;rw[e]at this;simp at this)).1];exact a0j (h.flat f (e12 hf)))
 unfold b3l;rw[e4r,List.sum_cons,hz,f03,h.top];show((a2u aB cp fo).flatMap a0a).length≤_;have:∀(l:List (List AV)),(∀r∈l,(a0a r).length≤1)→(l.flatMap a0a).length≤l.length:=by
  intro l
  induction l with
  |nil=>intro _;simp
  |cons r l ih=>intro hl;have h1:=hl r (by simp);have h2:=ih (λr hr=>hl r (by simp[hr]));simp only[List.flatMap_cons,e6k,e5l];omega
 have h2:=this (a2u aB cp fo) (by
  intro r hr;obtain⟨j,hj⟩:=e8k.1 hr;unfold a2u at hj;rw[e6s]at hj;cases hf:fo[j]? with
  |none=>rw[hf]at hj;cases hj
  |some f=>rw[hf]at hj;cases hj;simp only[a0a,b11];split<;>simp)
 rw[a3p]at h2;exact h2
end
end Go.Ax
/- AxTwX: a slice of growing slices beside flat blocks: a loop's head. -/
namespace Go.Ax
section
variable {H:a02}{b k:Nat}{aB:Nat→Nat}{cp:Nat→Option Nat}{fo:List (List (List AV))}
theorem Two.headX{keep:List Nat}{F:Frm}{P:Frm→a02→Prop}(h:Two H b k aB cp fo)(X:List Nat)(hX:∀x∈X,a0t (a01 H x)=[])(hF:∀c∈a0a ((a1l keep F).map (·.2)),c∈X∨c=b)(hb:b∈a0a ((a1l keep F).map (·.2)))(bS:∀x∈X,x∈a0a ((a1l keep F).map (·.2)))(hl:(a0a ((a1l keep F).map (·.2))).length≤10)(hn:fo.length<900000)
 (hP:∀π b' aP H1,π b=some b'→Two H1 b' k aP cp fo→(∀x∈X,∃x',π x=some x'∧a01 H1 x'=(a01 H x).map (a0d π))→P (b7b π (a1l keep F)) H1):∃F1 H1,gcD 0 keep F H=some (F1,H1)∧P F1 H1:=by
 have pK:=h.cost;have rG:(X.map λb=>(a0t (a01 H b)).length).sum=0:=b10 _ λb hb=>by rw[hX b hb]
 obtain⟨R,π,H1,g1,g2,_⟩:=c7w (m:=0) (keep:=keep) (F:=F) (H:=H) (e5q _) (X++b3l b aB fo) (λc hc=>by
  rcases hF c hc with h|rfl
  ·exact List.mem_append_left _ h
  ·exact List.mem_append_right _ (by simp[b3l])) (λc hc=>absurd hc (Nat.not_lt_zero c)) (by
  intro c hc d hd;rcases e7h.1 hc with hc|hc
  ·rw[hX c hc]at hd;cases hd
  ·exact List.mem_append_right _ (h.closed c hc d hd)) (by
  simp only[e6r,List.sum_append,rG,e71,List.flatMap_nil,e5r];omega)
 have hm:=g2.mv;obtain⟨b',aP,e1,e2,e3⟩:=h.mv hm (g2.refs b hb);refine⟨_,H1,g1,hP π b' aP H1 e1 e2 λx hx=>?_⟩;obtain⟨x',ex⟩:=g2.here x (g2.refs x (bS x hx));exact⟨x',ex,g2.heap x x' ex⟩
theorem Two.apart(h:Two H b k aB cp fo){d q:Nat}{aa:List (List AV)}(hd:a01 H d=some (.row q aa))(hq:q≠1)(hk:q≠k):d≠b∧∀j f,fo[j]?=some f→f≠[]→d≠aB j:=by
 refine⟨λe=>?_,λj f hf az e=>?_⟩
 ·rw[e,h.top]at hd;cases hd;exact hq rfl
 ·rw[e,(h.sub j f hf az).1]at hd;cases hd;exact hk rfl
end
end Go.Ax
/- AxTwY: a slice of slices: a new slice in an empty place; the numbers that a loop's head gives to the first blocks. -/
namespace Go.Ax
theorem b1w(H:a02):∀(n:Nat) (aZ aH:List Nat),∃t,a1i H n aZ aH=aH.reverse++t
 |0,_,aH=>⟨[],by simp[a1i]⟩
 |n+1,[],aH=>⟨[],by simp[a1i]⟩
 |n+1,b::aZ,aH=>by
  unfold a1i;cases a0q aH b with
  |true=>exact b1w H n aZ aH
  |false=>obtain⟨t,ht⟩:=b1w H n (a0t (a01 H b)++aZ) (b::aH);exact⟨b::t,by simp only[e6w];rw[ht];simp⟩
theorem b9r{H:a02}{n c p b:Nat}(hc:a0t (a01 H c)=[])(hp:a0t (a01 H p)=[])(h1:c≠p)(h2:c≠b)(h3:p≠b):∃t,a1i H (n+3) [c,p,b] []=[c,p,b]++t:=by
 have e1:a1i H (n+3) [c,p,b] []=a1i H (n+2) (a0t (a01 H c)++[p,b]) [c]:=by show(bif a0q [] c then _ else _)=_;rfl
 have k1:a0q [c] p=false:=by
  cases h:a0q [c] p with
  |false=>rfl
  |true=>have:=a1x.1 h;simp at this;exact absurd this.symm h1
 have e2:a1i H (n+2) [p,b] [c]=a1i H (n+1) (a0t (a01 H p)++[b]) [p,c]:=by show(bif a0q [c] p then _ else _)=_;rw[k1];rfl
 have k2:a0q [p,c] b=false:=by
  cases h:a0q [p,c] b with
  |false=>rfl
  |true=>
   have:=a1x.1 h;simp only[e6v,List.not_mem_nil,or_false]at this;rcases this with e|e
   ·exact absurd e.symm h3
   ·exact absurd e.symm h2
 have e3:a1i H (n+1) [b] [p,c]=a1i H n (a0t (a01 H b)++[]) [b,p,c]:=by show(bif a0q [p,c] b then _ else _)=_;rw[k2];rfl
 rw[e1,hc,e5m,e2,hp,e5m,e3];obtain⟨t,ht⟩:=b1w H n (a0t (a01 H b)++[]) [b,p,c];exact⟨t,by rw[ht];simp⟩
theorem c7y{keep:List Nat}{F F1:Frm}{H H1:a02}(h:gcD 0 keep F H=some (F1,H1)){c p b:Nat}(hr:a0a ((a1l keep F).map (·.2))=[c,p,b])(hc:a0t (a01 H c)=[])(hp:a0t (a01 H p)=[])(h1:c≠p)(h2:c≠b)(h3:p≠b) :
 ∃π:Nat→Option Nat,F1=b7b π (a1l keep F)∧π c=some 0∧π p=some 1∧π b=some 2:=by
 obtain⟨_,e,_⟩:=c0d h;refine⟨_,e.symm,?_⟩;obtain⟨t,ht⟩:=b9r (n:=a2p-3) hc hp h1 h2 h3;have hi:a80 0 (a1l keep F) H=[c,p,b]++t.filter (λb=>Nat.ble 0 b):=by unfold a80;rw[hr];simp only[e71,List.flatMap_nil,e5m];rw[show a2p=a2p-3+3 from rfl,ht,List.filter_append];rfl
 have key:∀(x i:Nat),([c,p,b]++t.filter (λb=>Nat.ble 0 b)).idxOf? x=some i→b3r 0 (a80 0 (a1l keep F) H) x=some i:=by intro x i hx;unfold b3r;rw[show Nat.blt x 0=false from rfl,e6w,hi,hx];simp
 have az:∀{x y:Nat},x≠y→(x==y)=false:=λh=>e7r.2 h;refine⟨key c 0 ?_,key p 1 ?_,key b 2 ?_⟩
 ·simp[e8i]
 ·simp[e8i,az h1]
 ·simp[e8i,az h2,az h3]
theorem b6i{H:a02}{b:Nat}{o:AObj}(h:a01 H b=some o):H[b]?=some (some o):=by
 unfold a01 at h;cases hx:H[b]? with
 |none=>rw[hx]at h;cases h
 |some y=>rw[hx]at h;simp only[e8x]at h;rw[h]
theorem c2x{H:a02}{a b c:AObj}(h0:a01 H 0=some a)(h1:a01 H 1=some b)(h2:a01 H 2=some c):H.take 3=[some a,some b,some c]:=by
 have g0:=b6i h0;have g1:=b6i h1;have g2:=b6i h2
 match H,g0,g1,g2 with
 |x0::x1::x2::r,g0,g1,g2=>simp at g0 g1 g2;subst g0;subst g1;subst g2;rfl
theorem a5b{m:Nat}{d:AV→Option AV}:∀{aa:List (List AV)},FlatR aa→frzT m d aa=some aa
 | [],_=>rfl
 |r::aa,h=>by have h1:a4l m true d r=some r:=a4h _ _ _ _ (h r (List.mem_cons_self ..));have h2:frzT m d aa=some aa:=a5b λx hx=>h x (f02 _ hx);simp only[frzT,h1,h2]
section
variable {H H1:a02}{b k:Nat}{aB:Nat→Nat}{cp:Nat→Option Nat}{fo:List (List (List AV))}
theorem Two.put(h:Two H b k aB cp fo){j n:Nat}{f:List (List AV)}(hf:fo[j]?=some [])(az:f≠[])(hx:FlatR f)(hn:H.length≤n)
 (h1:a01 H1 b=some (.row 1 ((a2u aB cp fo).set j [.slice n 0 f.length (cp j)])))(h2:a01 H1 n=some (.row k f))
 (h3:∀(i:Nat) (g:List (List AV)),i≠j→fo[i]?=some g→g≠[]→a01 H1 (aB i)=a01 H (aB i)) :
 Two H1 b k (λi=>if i=j then n else aB i) cp (fo.set j f):=by
 have bg:j<fo.length:=(e5k.1 hf).1;have ak:∀(i:Nat) (g:List (List AV)),fo[i]?=some g→g≠[]→aB i<H.length:=λi g hg az=>a1e (h.sub i g hg az).1;have cz:b<H.length:=a1e h.top;refine⟨?_,?_,?_,?_⟩
 ·rw[h1]
  congr 2
  apply e7s;intro i;unfold a2u;rw[e70,List.length_mapIdx];by_cases bc:j=i
  ·subst bc;simp only[e8f,bg];rw[e6s,e70];simp only[e8f,bg,e5p,d9m _ _ az]
  ·simp only[e5s bc];rw[e6s,e6s,e70,e5s bc];simp only[e5s (f05 bc)]
 ·intro i g hg cQ;rw[e70]at hg;by_cases bc:j=i
  ·subst bc;simp only[e8f,bg,Option.some.injEq]at hg;subst hg;simp only[e8f];exact⟨h2,by omega⟩
  ·rw[e5s bc]at hg;simp only[e5s (f05 bc)];rw[h3 i g (f05 bc) hg cQ];exact h.sub i g hg cQ
 ·intro i i' g g' hg c4 lz cQ e;rw[e70]at hg c4;by_cases bc:j=i<;>by_cases dy:j=i'
  ·omega
  ·subst bc;simp only[e5s dy]at c4;simp only[e8f,e5s (f05 dy)]at e;have:=ak i' g' c4 cQ;omega
  ·subst dy;simp only[e5s bc]at hg;simp only[e8f,e5s (f05 bc)]at e;have:=ak i g hg lz;omega
  ·simp only[e5s bc]at hg;simp only[e5s dy]at c4;simp only[e5s (f05 bc),e5s (f05 dy)]at e;exact h.inj i i' g g' hg c4 lz cQ e
 ·intro g hg;rcases e9f hg with hg|rfl
  ·exact h.flat g hg
  ·exact hx
theorem Two.frzT(h:Two H b k aB cp fo)(m:Nat)(hm:∀j f,fo[j]?=some f→f≠[]→m≤aB j):frzT m (a3w (a01 H) m 12) (a2u aB cp fo)=some (fo.mapIdx λj f=>[slF (cp j) f]):=by
 have key:∀(aa:List (List AV)) (out:List (List AV)),aa.length=out.length→(∀(j:Nat) r o,aa[j]?=some r→out[j]?=some o→a4l m true (a3w (a01 H) m 12) r=some o)→Go.Ax.frzT m (a3w (a01 H) m 12) aa=some out:=by
  intro aa
  induction aa with
  |nil=>intro out hl _;cases out with|nil=>rfl|cons=>simp at hl
  |cons r aa ih=>
   intro out hl hh;cases out with
   |nil=>simp at hl
   |cons o out=>simp only[Go.Ax.frzT];rw[hh 0 r o rfl rfl,ih out (by simpa using hl) (λj r o hr ho=>hh (j+1) r o (by simpa using hr) (by simpa using ho))]
 refine key _ _ (by rw[a3p];simp) ?_;intro j r o hr ho;rw[e6s]at ho;cases hf:fo[j]? with
 |none=>rw[hf]at ho;cases ho
 |some f=>
  rw[hf]at ho;rw[a71 hf]at hr;cases ho;cases hr;rw[a5c,b6n];cases f with
  |nil=>rfl
  |cons x xs=>obtain⟨g1,_⟩:=h.sub j _ hf (by simp);have da:=hm j _ hf (by simp);have cu:=h.flat _ (e12 hf);simp only[slV,slF];rw[a5x,e9e (Nat.not_lt.2 da),e6w,a4w (eq_true (by omega:0<12)),g1];simp only[a8q,a0b,e86,e7l];rw[e7o (by simp),e6m];have:List.take (xs.length+1) (x::xs)=x::xs:=e82 (l:=x::xs);rw[this,a13 _ _ cu]
end
end Go.Ax
